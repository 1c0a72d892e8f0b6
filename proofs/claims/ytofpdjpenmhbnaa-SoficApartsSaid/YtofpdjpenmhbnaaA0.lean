/- A small logic of straight-line code, loops and calls, over frames that are lists of slots. -/
import Derived.WalkKit
import Derived.RangeFuncIn
import Derived.RangeFuncLeaves
import Derived.OrdersIn
import Derived.TacticsIn
import Derived.Deep.Quiet
import Derived.KernelRfl
import Derived.Laws.MakeOwn
import Derived.ChangeKeysEq
import Derived.WalkSpells
import Derived.Laws.RangeString
import Derived.Scope
import Derived.Laws.Tables
import Derived.Laws.Runes
import Derived.Lib.Bytealg
import Derived.Lib.SlBytesRow
import Derived.Maps.RangeRun
import Derived.WideKeyRuns
import Derived.Laws.IdiomStrings
import Derived.Laws.BytesArg
set_option linter.unusedVariables false
set_option linter.unusedSimpArgs false
set_option linter.unusedSectionVars false
namespace Go.Kx
open Go Go.RowKit

def FR (ro : Option Nat) : Fence := { Fence.wide with round := ro }
theorem FR_fn (ro : Option Nat) (f : FuncId) : (FR ro).fn f := trivial
abbrev Cl (P : Program) (f : FuncId) (args : Array Value) (W : World) (R : Ending → World → Prop) : Prop := CallsIn (FR none) 0 P f args W R
theorem Cl.at {P : Program} {f : FuncId} {args : Array Value} {W : World} {R : Ending → World → Prop} (h : Cl P f args W R) (ro : Option Nat) : CallsIn (FR ro) 0 P f args W R := h
theorem Cl.calls {P : Program} {f : FuncId} {args : Array Value} {W : World} {R : Ending → World → Prop} (h : Cl P f args W R) : Calls P f args W R := callsIn_wide.1 h
theorem Cl.mono {P : Program} {f : FuncId} {args : Array Value} {W : World} {R R' : Ending → World → Prop} (h : Cl P f args W R) (hr : ∀ e w', R e w' → R' e w') : Cl P f args W R' :=
  ⟨h.1, fun cs hroom => let ⟨e, w', fr, r, rest⟩ := h.2 cs hroom; ⟨e, w', fr, hr _ _ r, rest⟩⟩

abbrev Slots := List (Nat × Value)
abbrev Env := Nat → Value

def look (l : Slots) (b : Env) (t : Nat) : Value :=
  match l with
  | [] => b t
  | p :: l => bif Nat.beq t p.1 then p.2 else look l b t

def fr (n : Nat) (l : Slots) (b : Env) (ds : List Deferred) : Act := { tmps := Array.ofFn (n := n) fun i => look l b i.1, defers := ds }

def ev (n : Nat) (l : Slots) (b : Env) : Operand → Value
  | .tmp t => bif Nat.blt t n then look l b t else undef
  | .const v => v
  | .global g => .pointer (some ⟨g, 0, none⟩)
  | .func f => .func (.func f) #[] #[]

theorem fr_get (n : Nat) (l : Slots) (b : Env) (ds : List Deferred) (t : Nat) : (fr n l b ds).tmps[t]? = if t < n then some (look l b t) else none := by
  simp only [fr, Array.getElem?_ofFn]
  split <;> rfl

theorem eval_fr (n : Nat) (l : Slots) (b : Env) (ds : List Deferred) : (fr n l b ds).eval = ev n l b := by
  funext x
  cases x with
  | tmp t =>
    simp only [Act.eval, ev, Array.getD_eq_getD_getElem?, fr_get]
    by_cases h : t < n
    · have : Nat.blt t n = true := by simpa [Nat.blt_eq] using h
      simp [h, this]
    · have : Nat.blt t n = false := by rw [Bool.eq_false_iff]; simpa [Nat.blt_eq] using h
      simp [h, this]
  | _ => rfl

theorem put_fr (n : Nat) (l : Slots) (b : Env) (ds : List Deferred) (d : Nat) (v : Value) : (fr n l b ds).put (some d) v = fr n ((d, v) :: l) b ds := by
  simp only [Act.put, fr, Act.mk.injEq, and_true]
  apply Array.ext
  · simp
  · intro i h1 h2
    simp only [Array.size_setIfInBounds, Array.size_ofFn] at h1
    rw [Array.getElem_setIfInBounds (by simpa using h1)]
    simp only [Array.getElem_ofFn, look]
    by_cases h : d = i
    · subst h; simp
    · have : Nat.beq i d = false := by rw [Bool.eq_false_iff]; intro hh; exact h (Nat.eq_of_beq_eq_true hh).symm
      simp [h, this]

def putO (l : Slots) (d : Option Nat) (v : Value) : Slots := match d with | some d => (d, v) :: l | none => l
theorem put_frO (n : Nat) (l : Slots) (b : Env) (ds : List Deferred) (d : Option Nat) (v : Value) : (fr n l b ds).put d v = fr n (putO l d v) b ds := by
  cases d
  · rfl
  · exact put_fr ..

def yv (ops : List Oper) (n : Nat) (l : Slots) (b : Env) (j : Nat) : Option Bool :=
  match (ops[j]?).bind (·.dst) with
  | none => none
  | some t => bif Nat.blt t n then (match look l b t with | .bool x => some x | _ => none) else none

theorem yielded_fr (ops : List Oper) (n : Nat) (l : Slots) (b : Env) (ds : List Deferred) (j : Nat) : yielded ops.toArray (fr n l b ds).tmps j = yv ops n l b j := by
  simp only [yielded, yv, List.getElem?_toArray]
  cases h : (ops[j]?).bind (·.dst) with
  | none => rfl
  | some t =>
    simp only [Option.bind_some, fr_get]
    by_cases ht : t < n
    · have : Nat.blt t n = true := by simpa [Nat.blt_eq] using ht
      simp only [ht, if_true, this, cond_true]
      cases look l b t <;> rfl
    · have : Nat.blt t n = false := by rw [Bool.eq_false_iff]; simpa [Nat.blt_eq] using ht
      simp [ht, this]

structure LW (ro : Option Nat) (P : Program) (ops : List Oper) (Q : Exit → Act → World → Prop) (rest : List Oper) (n : Nat) (l : Slots) (b : Env) (ds : List Deferred) (W : World) : Prop where
  h : wpListIn (FR ro) 0 P ops.toArray Q rest (fr n l b ds) W
structure CW (ro : Option Nat) (P : Program) (c : Code) (Q : Exit → Act → World → Prop) (n : Nat) (l : Slots) (b : Env) (ds : List Deferred) (W : World) : Prop where
  h : c.wpIn (FR ro) 0 P Q (fr n l b ds) W
structure DN (Q : Exit → Act → World → Prop) (e : Exit) (n : Nat) (l : Slots) (b : Env) (ds : List Deferred) (W : World) : Prop where
  h : Q e (fr n l b ds) W

def notDefer : Op → Bool
  | .defer _ => false
  | _ => true

section
variable {ro : Option Nat} {P : Program} {ops : List Oper} {Q : Exit → Act → World → Prop} {rest : List Oper} {n : Nat} {l : Slots} {b : Env} {ds : List Deferred} {W W' : World}
  {d : Option Nat} {op : Op} {T : TypeId} {pos : String} {aft : Array Edge}

theorem semAt_fr (ρ : Operand → Value) (o : Oper) (h : notDefer o.op = true) : o.semAt (FR ro).round ρ = execOp ρ o :=
  Oper.semAt_eq _ _ _ (fun c hc => by rw [hc] at h; cases h)

theorem wl_head {o : Oper} (hg : o.guard = none) (hnd : notDefer o.op = true)
    (h : o.uponIn (FR ro) 0 P (fr n l b ds) (wpListIn (FR ro) 0 P ops.toArray Q rest) Q ((execOp (ev n l b) o).run P W)) :
    LW ro P ops Q (o :: rest) n l b ds W := by
  refine ⟨?_⟩
  unfold wpListIn
  rw [if_pos (by simp [Region.wanted, hg])]
  refine ⟨fun f _ => FR_fn ro f, ?_⟩
  rw [semAt_fr _ _ hnd, eval_fr]
  exact h

theorem wl_val {v : Value} (hnd : notDefer op = true) (hr : (execOp (ev n l b) ⟨d, op, T, pos, aft, none⟩).run P W = .ok (.value v) W')
    (h : LW ro P ops Q rest n (putO l d v) b ds W') : LW ro P ops Q (⟨d, op, T, pos, aft, none⟩ :: rest) n l b ds W := by
  refine wl_head rfl hnd ?_
  rw [hr]
  show wpListIn (FR ro) 0 P ops.toArray Q rest ((fr n l b ds).put d v) W'
  rw [put_frO]; exact h.h

theorem wl_skip (hnd : notDefer op = true) (hr : (execOp (ev n l b) ⟨d, op, T, pos, aft, none⟩).run P W = .ok .skip W')
    (h : LW ro P ops Q rest n (putO l d undef) b ds W') : LW ro P ops Q (⟨d, op, T, pos, aft, none⟩ :: rest) n l b ds W := by
  refine wl_head rfl hnd ?_
  rw [hr]
  show wpListIn (FR ro) 0 P ops.toArray Q rest ((fr n l b ds).put d undef) W'
  rw [put_frO]; exact h.h

theorem wl_enter {f : FuncId} {args : Array Value} {R : Ending → World → Prop} (hnd : notDefer op = true) (hr : (execOp (ev n l b) ⟨d, op, T, pos, aft, none⟩).run P W = .ok (.enter f args) W')
    (hc : CallsIn (FR ro) 0 P f args W' R) (hR : ∀ e W'', R e W'' → ∃ v, e = .returned v ∧ LW ro P ops Q rest n (putO l d v) b ds W'') :
    LW ro P ops Q (⟨d, op, T, pos, aft, none⟩ :: rest) n l b ds W := by
  refine wl_head rfl hnd ?_
  rw [hr]
  refine ⟨(fun hh => (by cases hh)), hc.1, fun cs hroom => ?_⟩
  obtain ⟨e, w', fr', r, x⟩ := hc.2 cs hroom
  refine ⟨e, w', fr', ?_, x⟩
  obtain ⟨v, rfl, h⟩ := hR e w' r
  show wpListIn (FR ro) 0 P ops.toArray Q rest ((fr n l b ds).put d v) w'
  rw [put_frO]; exact h.h

theorem wl_round {lp : Nat} {f : FuncId} {tmps : Array Value} {assign body : Code} {R : Ending → World → Prop} (hnd : notDefer op = true)
    (hr : (execOp (ev n l b) ⟨d, op, T, pos, aft, none⟩).run P W = .ok (.round lp f tmps assign body) W')
    (hc : RoundIn (FR ro) 0 P lp f tmps assign body W' R) (hR : ∀ e W'', R e W'' → ∃ v, e = .returned v ∧ LW ro P ops Q rest n (putO l d v) b ds W'') :
    LW ro P ops Q (⟨d, op, T, pos, aft, none⟩ :: rest) n l b ds W := by
  refine wl_head rfl hnd ?_
  rw [hr]
  refine ⟨(fun hh => (by cases hh)), hc.mono fun e w' r => ?_⟩
  obtain ⟨v, rfl, h⟩ := hR e w' r
  show wpListIn (FR ro) 0 P ops.toArray Q rest ((fr n l b ds).put d v) w'
  rw [put_frO]; exact h.h

theorem wl_guard_yes {j : Nat} {want : Bool} (hy : yv ops n l b j = some want) (h : LW ro P ops Q (⟨d, op, T, pos, aft, none⟩ :: rest) n l b ds W) :
    LW ro P ops Q (⟨d, op, T, pos, aft, some (j, want)⟩ :: rest) n l b ds W := by
  have h := h.h
  refine ⟨?_⟩
  unfold wpListIn at h ⊢
  rw [if_pos (by simp [Region.wanted])] at h
  rw [if_pos (by simp only [Region.wanted]; rw [yielded_fr, hy]; exact beq_self_eq_true _)]
  exact h

theorem wl_guard_no {j : Nat} {want : Bool} (hy : (yv ops n l b j == some want) = false) (h : LW ro P ops Q rest n (putO l d undef) b ds W) :
    LW ro P ops Q (⟨d, op, T, pos, aft, some (j, want)⟩ :: rest) n l b ds W := by
  refine ⟨?_⟩
  unfold wpListIn
  rw [if_neg (by simp only [Region.wanted]; rw [yielded_fr, hy]; simp)]
  exact ⟨fun f _ => FR_fn ro f, by rw [put_frO]; exact h.h⟩

theorem wl_nil (h : DN Q .normal n l b ds W) : LW ro P ops Q [] n l b ds W := ⟨h.h⟩

theorem then_normal {y : Code} (h : CW ro P y Q n l b ds W) : DN (Exit.then (y.wpIn (FR ro) 0 P Q) Q) .normal n l b ds W := ⟨h.h⟩
theorem then_exit {next : Act → World → Prop} {id : Nat} (h : DN Q (.exit id) n l b ds W) : DN (Exit.then next Q) (.exit id) n l b ds W := ⟨h.h⟩
theorem then_ret {next : Act → World → Prop} (h : DN Q .ret n l b ds W) : DN (Exit.then next Q) .ret n l b ds W := ⟨h.h⟩
theorem block_normal {id : Nat} (h : DN Q .normal n l b ds W) : DN (Exit.inBlock id Q) .normal n l b ds W := ⟨h.h⟩
theorem block_ret {id : Nat} (h : DN Q .ret n l b ds W) : DN (Exit.inBlock id Q) .ret n l b ds W := ⟨h.h⟩
theorem block_exit {id : Nat} (h : DN Q .normal n l b ds W) : DN (Exit.inBlock id Q) (.exit id) n l b ds W := ⟨by simpa [Exit.inBlock] using h.h⟩
theorem block_exit' {id id' : Nat} (hne : Nat.beq id' id = false) (h : DN Q (.exit id') n l b ds W) : DN (Exit.inBlock id Q) (.exit id') n l b ds W := by
  have : id' ≠ id := fun e => by subst e; simp at hne
  exact ⟨by simpa [Exit.inBlock, this] using h.h⟩

theorem wc_seq {x y : Code} (h : CW ro P x (Exit.then (y.wpIn (FR ro) 0 P Q) Q) n l b ds W) : CW ro P (.seq x y) Q n l b ds W := ⟨wpIn_seq h.h⟩
theorem wc_block {x : Code} {id : Nat} (h : CW ro P x (Exit.inBlock id Q) n l b ds W) : CW ro P (.block id x) Q n l b ds W := ⟨wpIn_block h.h⟩
theorem wc_skip (h : DN Q .normal n l b ds W) : CW ro P .skip Q n l b ds W := ⟨wpIn_skip h.h⟩
theorem wc_exit {id : Nat} (h : DN Q (.exit id) n l b ds W) : CW ro P (.exit id) Q n l b ds W := ⟨wpIn_exit h.h⟩
theorem wc_ret (h : DN Q .ret n l b ds W) : CW ro P .ret Q n l b ds W := ⟨wpIn_ret h.h⟩
theorem wc_region {id : Nat} {lo : List Oper} (h : LW ro P lo Q lo n l b ds W) : CW ro P (.region id lo.toArray false) Q n l b ds W := ⟨wpIn_region_lit h.h⟩

theorem wc_cond {c : Operand} {x y : Code} {t : Bool} (hc : ev n l b c = .bool t) (h1 : t = true → CW ro P x Q n l b ds W) (h2 : t = false → CW ro P y Q n l b ds W) :
    CW ro P (.cond c x y) Q n l b ds W := ⟨wpIn_cond_split (by rw [eval_fr]; exact hc) (fun h => (h1 h).h) (fun h => (h2 h).h)⟩
theorem wc_cond_dec {c : Operand} {x y : Code} {p : Prop} [Decidable p] (hc : ev n l b c = .bool (decide p)) (h1 : p → CW ro P x Q n l b ds W) (h2 : ¬ p → CW ro P y Q n l b ds W) :
    CW ro P (.cond c x y) Q n l b ds W :=
  wc_cond hc (fun h => h1 (of_decide_eq_true h)) (fun h => h2 (of_decide_eq_false h))
theorem wc_cond_true {c : Operand} {x y : Code} (hc : ev n l b c = .bool true) (h : CW ro P x Q n l b ds W) : CW ro P (.cond c x y) Q n l b ds W := wc_cond hc (fun _ => h) (fun h => by cases h)
theorem wc_cond_false {c : Operand} {x y : Code} (hc : ev n l b c = .bool false) (h : CW ro P y Q n l b ds W) : CW ro P (.cond c x y) Q n l b ds W := wc_cond hc (fun h => by cases h) (fun _ => h)

def elemN : List Nat → Nat → Bool
  | [], _ => false
  | x :: l, t => bif Nat.beq t x then true else elemN l t
def hav (ws : List Nat) (u b : Env) : Env := fun t => bif elemN ws t then u t else b t

def Agree : Slots → Env → Prop
  | [], _ => True
  | p :: l, e => e p.1 = p.2 ∧ Agree l e

theorem look_agree : ∀ {L : Slots} {e : Env}, Agree L e → look L e = e
  | [], _, _ => rfl
  | p :: L, e, ⟨h1, h2⟩ => by
    funext t
    simp only [look]
    by_cases h : t = p.1
    · subst h; simp [h1]
    · have : Nat.beq t p.1 = false := by rw [Bool.eq_false_iff]; intro hh; exact h (Nat.eq_of_beq_eq_true hh)
      rw [this, cond_false, look_agree h2]

def keysIn (ws : List Nat) : Slots → Bool
  | [] => true
  | p :: l => elemN ws p.1 && keysIn ws l

theorem look_outside {ws : List Nat} : ∀ {L : Slots} {e : Env} {t : Nat}, keysIn ws L = true → elemN ws t = false → look L e t = e t
  | [], _, _, _, _ => rfl
  | p :: L, e, t, h, ht => by
    simp only [keysIn, Bool.and_eq_true] at h
    simp only [look]
    have : Nat.beq t p.1 = false := by
      rw [Bool.eq_false_iff]; intro hh
      have := Nat.eq_of_beq_eq_true hh
      subst this; rw [ht] at h; simp at h
    rw [this, cond_false]
    exact look_outside h.2 ht

def LoopPost (n : Nat) (ds : List Deferred) (base : Env) (ws : List Nat) {σ : Type} (V : σ → Slots) (I : σ → World → Prop) (μ : σ → Nat) (m : Nat) (a : Act) (w : World) : Prop :=
  ∃ e s, a = fr n [] e ds ∧ (∀ t, elemN ws t = false → e t = base t) ∧ Agree (V s) e ∧ I s w ∧ μ s < m

theorem hav_same {ws : List Nat} {e base : Env} (h : ∀ t, elemN ws t = false → e t = base t) : hav ws e base = e := by
  funext t
  unfold hav
  cases ht : elemN ws t
  · rw [cond_false]; exact (h t ht).symm
  · rfl

theorem wc_loop {c : Code} {σ : Type} (ws : List Nat) (V : σ → Slots) (I : σ → World → Prop) (μ : σ → Nat) (s0 : σ) (h0v : Agree (V s0) (look l b)) (h0 : I s0 W)
    (round : ∀ s u W, I s W → CW ro P c (Exit.then (LoopPost n ds (look l b) ws V I μ (μ s)) Q) n [] (look (V s) (hav ws u (look l b))) ds W) :
    CW ro P (.loop c) Q n l b ds W := by
  refine ⟨?_⟩
  intro bb k cs hro hb hr
  have key : ∀ j (e : Env) s W, μ s = j → (∀ t, elemN ws t = false → e t = look l b t) → Agree (V s) e → I s W →
      ∃ e' a' w', Q e' a' w' ∧ ArrivesIn (Machine.fenced P (FR ro)) P (lone (bb.atR (fr n [] e ds) (.code c :: .inLoop c :: k)) cs W) bb k cs e' a' w' := by
    intro j
    induction j using Nat.strongRecOn with
    | _ j ih =>
      intro e s W hn hk hA hI
      have hrd := (round s e W hI).h
      rw [hav_same hk, look_agree hA] at hrd
      obtain ⟨x, a₁, w₁, hq, harr⟩ := hrd bb (.inLoop c :: k) cs hro hb hr
      cases x with
      | normal =>
        obtain ⟨e1, s1, rfl, hk1, hA1, hI1, hlt⟩ := hq
        obtain ⟨e₂, a₂, w₂, hq₂, harr₂⟩ := ih (μ s1) (hn ▸ hlt) e1 s1 w₁ rfl hk1 hA1 hI1
        exact ⟨e₂, a₂, w₂, hq₂, .of_steps (StepsIn.trans harr (.one (fenced_calm hb hr rfl) stepR_inLoop)) harr₂⟩
      | exit id => exact ⟨_, a₁, w₁, hq, .pass (x := .inLoop c) rfl (fun _ _ => .inl (by simp)) harr⟩
      | goto l => exact ⟨_, a₁, w₁, hq, .pass (x := .inLoop c) rfl (fun _ _ => .inl (by simp)) harr⟩
      | ret => exact ⟨_, a₁, w₁, hq, .pass (x := .inLoop c) rfl (fun _ _ => .inl (by simp)) harr⟩
      | panic ch => exact ⟨_, a₁, w₁, hq, .pass (x := .inLoop c) rfl (fun _ _ => .inl (by simp)) harr⟩
      | outgrown => exact ⟨_, a₁, w₁, hq, .pass (x := .inLoop c) rfl (fun _ _ => .inl (by simp)) harr⟩
  obtain ⟨e, a', w', hq, harr⟩ := key _ (look l b) s0 W rfl (fun _ _ => rfl) h0v h0
  exact ⟨e, a', w', hq, .of_steps (.one (fenced_calm hb hr rfl) stepR_loop) harr⟩

def Out (ws : List Nat) (b base : Env) : Prop := ∀ t, elemN ws t = false → b t = base t
def subN (ws' ws : List Nat) : Bool := match ws' with | [] => true | x :: l => elemN ws x && subN l ws
theorem elem_sub : ∀ {ws' ws : List Nat} {t : Nat}, subN ws' ws = true → elemN ws t = false → elemN ws' t = false
  | [], _, _, _, _ => rfl
  | x :: l, ws, t, h, ht => by
    simp only [subN, Bool.and_eq_true] at h
    simp only [elemN]
    have : Nat.beq t x = false := by
      rw [Bool.eq_false_iff]; intro hh
      have := Nat.eq_of_beq_eq_true hh
      subst this; rw [ht] at h; simp at h
    rw [this, cond_false]; exact elem_sub h.2 ht
theorem out_hav {ws : List Nat} {u base : Env} : Out ws (hav ws u base) base := fun t ht => by simp [hav, ht]
theorem out_look {ws : List Nat} {L : Slots} {b base : Env} (hL : keysIn ws L = true) (h : Out ws b base) : Out ws (look L b) base := fun t ht => by rw [look_outside hL ht]; exact h t ht
theorem out_havIn {ws ws' : List Nat} {u b base : Env} (hs : subN ws' ws = true) (h : Out ws b base) : Out ws (hav ws' u b) base := fun t ht => by
  show (bif elemN ws' t then u t else b t) = base t
  rw [elem_sub hs ht, cond_false]; exact h t ht

theorem next_round {σ : Type} {ws : List Nat} {V : σ → Slots} {I : σ → World → Prop} {μ : σ → Nat} {m : Nat} {base b' : Env} {l' : Slots} (s' : σ)
    (hk : keysIn ws l' = true) (ho : Out ws b' base) (hA : Agree (V s') (look l' b')) (hI : I s' W) (hm : μ s' < m) :
    DN (Exit.then (LoopPost n ds base ws V I μ m) Q) .normal n l' b' ds W :=
  ⟨look l' b', s', rfl, fun t ht => by rw [look_outside hk ht]; exact ho t ht, hA, hI, hm⟩

def argSlots : Nat → List Value → Slots
  | _, [] => []
  | k, v :: vs => (k, v) :: argSlots (k + 1) vs

theorem look_args : ∀ (vs : List Value) (k t : Nat), look (argSlots k vs) (fun _ => undef) t = if k ≤ t then vs.getD (t - k) undef else undef
  | [], k, t => by simp [argSlots, look]
  | v :: vs, k, t => by
    simp only [argSlots, look]
    by_cases h : t = k
    · subst h; simp
    · have : Nat.beq t k = false := by rw [Bool.eq_false_iff]; intro hh; exact h (Nat.eq_of_beq_eq_true hh)
      rw [this, cond_false, look_args vs (k + 1) t]
      by_cases hk : k ≤ t
      · have h1 : k + 1 ≤ t := by omega
        rw [if_pos h1, if_pos hk]
        obtain ⟨j, rfl⟩ : ∃ j, t = k + 1 + j := ⟨t - (k + 1), by omega⟩
        have e1 : k + 1 + j - (k + 1) = j := by omega
        have e2 : k + 1 + j - k = j + 1 := by omega
        rw [e1, e2]; rfl
      · rw [if_neg (by omega), if_neg hk]

theorem enter_frame (args : List Value) (n : Nat) (h : args.length ≤ n) :
    ({ tmps := args.toArray ++ Array.replicate (n - args.toArray.size) undef, defers := [] } : Act) = fr n (argSlots 0 args) (fun _ => undef) [] := by
  simp only [fr, Act.mk.injEq, and_true]
  apply Array.ext
  · simp; omega
  · intro i h1 h2
    simp only [Array.getElem_ofFn, look_args, Nat.zero_le, if_true, Nat.sub_zero]
    simp only [Array.size_append, List.size_toArray, Array.size_replicate] at h1
    by_cases hi : i < args.length
    · rw [Array.getElem_append_left (by simpa using hi)]
      simp [List.getD, hi]
    · rw [Array.getElem_append_right (by simpa using hi)]
      simp [List.getD, hi]

theorem cl_enter {f : FuncId} {fn : Func} {c : Code} {args : List Value} {R : Ending → World → Prop} (hf : P.funcs[f]? = some fn) (hb : fn.body = some c) (hn : fn.ntmps = n)
    (hl : Nat.ble args.length n = true)
    (h : CW none P c (bodyPost P fn R) n (argSlots 0 args) (fun _ => undef) [] W) : Cl P f args.toArray W R := by
  refine callsIn_of_wp hf hb trivial ?_ rfl
  rw [hn, enter_frame args n (Nat.le_of_ble_eq_true hl)]
  exact h.h

theorem cl_enter_marks {f : FuncId} {fn : Func} {c : Code} {args : List Value} {R : Ending → World → Prop} (hf : P.funcs[f]? = some fn) (hb : fn.body = some c) (hn : fn.ntmps = n)
    (hl : Nat.ble args.length n = true)
    (h : CW none P c (bodyPostM (FR none) 0 P fn R) n (argSlots 0 args) (fun _ => undef) [] W) : Cl P f args.toArray W R := by
  refine callsIn_of_wp_marks hf hb trivial ?_ rfl
  rw [hn, enter_frame args n (Nat.le_of_ble_eq_true hl)]
  exact h.h

theorem getD_fr (t : Nat) : (fr n l b ds).tmps.getD t undef = ev n l b (.tmp t) := by
  have := congrFun (eval_fr n l b ds) (.tmp t)
  exact this

theorem results_fr {fn : Func} {W : World} {t : Nat} (h : fn.results = #[.tmp t]) : (results fn (fr n l b ds).tmps).run P W = .ok (ev n l b (.tmp t)) W := by
  rw [← getD_fr (ds := ds)]; exact results_tmp h ..
theorem results_fr2 {fn : Func} {W : World} {t u : Nat} (h : fn.results = #[.tmp t, .tmp u]) : (results fn (fr n l b ds).tmps).run P W = .ok (.tuple #[ev n l b (.tmp t), ev n l b (.tmp u)]) W := by
  rw [← getD_fr (ds := ds), ← getD_fr (ds := ds)]; exact results_tmp2 h ..
theorem results_fr3 {fn : Func} {W : World} {t u v : Nat} (h : fn.results = #[.tmp t, .tmp u, .tmp v]) :
    (results fn (fr n l b ds).tmps).run P W = .ok (.tuple #[ev n l b (.tmp t), ev n l b (.tmp u), ev n l b (.tmp v)]) W := by
  rw [← getD_fr (ds := ds), ← getD_fr (ds := ds), ← getD_fr (ds := ds)]; exact results_tmp3 h ..
theorem results_fr0 {fn : Func} {W : World} (h : fn.results = #[]) : (results fn (fr n l b ds).tmps).run P W = .ok (.tuple #[]) W := results_none h ..

theorem post_ret {fn : Func} {R : Ending → World → Prop} {v : Value} (hr : (results fn (fr n l b []).tmps).run P W = .ok v W) (hR : R (.returned v) W) : DN (bodyPost P fn R) .ret n l b [] W := ⟨rfl, v, hr, hR⟩
theorem post_end {fn : Func} {R : Ending → World → Prop} {v : Value} (hr : (results fn (fr n l b []).tmps).run P W = .ok v W) (hR : R (.returned v) W) : DN (bodyPost P fn R) .normal n l b [] W := ⟨rfl, v, hr, hR⟩
end
end Go.Kx
/- Operations that leave the world alone. -/
namespace Go.Kx
open Go Go.RowKit

def Y (P : Program) (ρ : Operand → Value) (op : Op) (T : TypeId) (v : Value) (W : World) : Prop := (execOp ρ ⟨none, op, T, "", #[], none⟩).run P W = .ok (.value v) W

theorem execOp_irrel (ρ : Operand → Value) (d d' : Option Nat) (op : Op) (T : TypeId) (pos pos' : String) (aft aft' : Array Edge) (g g' : Option (Nat × Bool)) :
    execOp ρ ⟨d, op, T, pos, aft, g⟩ = execOp ρ ⟨d', op, T, pos', aft', g'⟩ := by cases op <;> rfl

section
variable {ro : Option Nat} {P : Program} {ops : List Oper} {Q : Exit → Act → World → Prop} {rest : List Oper} {n : Nat} {l : Slots} {b : Env} {ds : List Deferred} {W W' : World}
  {d : Nat} {op : Op} {T : TypeId} {pos : String} {aft : Array Edge}

theorem wl_y {v : Value} (hY : Y P (ev n l b) op T v W) (h : LW ro P ops Q rest n ((d, v) :: l) b ds W) (hnd : notDefer op = true := by rfl) :
    LW ro P ops Q (⟨some d, op, T, pos, aft, none⟩ :: rest) n l b ds W := by
  refine wl_val (v := v) (W' := W) hnd ?_ h
  rw [← hY]; exact congrArg (fun s : Sem Next => s.run P W) (execOp_irrel ..)
end

section
variable {P : Program} {ρ : Operand → Value} {T : TypeId} {W : World} {x y z : Operand} {k k' : IntKind} {a c : Int} {t t' : TypeId}

theorem y_move {v : Value} (h : ρ x = v) : Y P ρ (.move x) T v W := by subst h; rfl
theorem y_assign {v : Value} (h : ρ x = v) : Y P ρ (.assign x) T v W := by subst h; rfl
theorem y_pick {u v : Value} {p : Bool} (h1 : ρ x = .bool p) (h2 : ρ y = u) (h3 : ρ z = v) : Y P ρ (.pick x y z) T (if p then u else v) W := by
  subst h2 h3
  show ((do pure (Next.value (if ← asBool (ρ x) then ρ y else ρ z)) : Sem Next)).run P W = _
  rw [h1]; cases p <;> rfl
theorem y_pick_true {u : Value} (h1 : ρ x = .bool true) (h2 : ρ y = u) : Y P ρ (.pick x y z) T u W := y_pick h1 h2 rfl
theorem y_pick_false {u : Value} (h1 : ρ x = .bool false) (h2 : ρ z = u) : Y P ρ (.pick x y z) T u W := y_pick h1 rfl h2

theorem y_binInt {v : Value} {bop : BinOp} (hx : ρ x = .int k a) (hy : ρ y = .int k c) (h : (binOp bop t (.int k a) (.int k c)).run P W = .ok v W) :
    Y P ρ (.binOp bop t x y t') T v W := by
  unfold Y execOp
  simp only [hx, hy, eqGuard_at_int, Sem.run_bind, Sem.run_pure, Result.andThen_ok, h]

theorem y_add (hx : ρ x = .int k a) (hy : ρ y = .int k c) : Y P ρ (.binOp .add t x y t') T (.int k (k.wrap (a + c))) W := by
  refine y_binInt hx hy ?_; simp [binOp, Op.intArith]
theorem y_sub (hx : ρ x = .int k a) (hy : ρ y = .int k c) : Y P ρ (.binOp .sub t x y t') T (.int k (k.wrap (a - c))) W := by
  refine y_binInt hx hy ?_; simp [binOp, Op.intArith]
theorem y_add64 (hx : ρ x = .int .i64 a) (hy : ρ y = .int .i64 c) (h : -9223372036854775808 ≤ a + c ∧ a + c ≤ 9223372036854775807) : Y P ρ (.binOp .add t x y t') T (.int .i64 (a + c)) W := by
  have := y_add (P := P) (T := T) (W := W) (t := t) (t' := t') hx hy; rwa [IntWalk.i64_in _ h] at this
theorem y_sub64 (hx : ρ x = .int .i64 a) (hy : ρ y = .int .i64 c) (h : -9223372036854775808 ≤ a - c ∧ a - c ≤ 9223372036854775807) : Y P ρ (.binOp .sub t x y t') T (.int .i64 (a - c)) W := by
  have := y_sub (P := P) (T := T) (W := W) (t := t) (t' := t') hx hy; rwa [IntWalk.i64_in _ h] at this
theorem y_lss (hx : ρ x = .int k a) (hy : ρ y = .int k c) : Y P ρ (.binOp .lss t x y t') T (.bool (decide (a < c))) W := by
  refine y_binInt hx hy ?_; simp [binOp, Op.intCmp]
theorem y_leq (hx : ρ x = .int k a) (hy : ρ y = .int k c) : Y P ρ (.binOp .leq t x y t') T (.bool (decide (a ≤ c))) W := by
  refine y_binInt hx hy ?_; simp [binOp, Op.intCmp]
theorem y_gtr (hx : ρ x = .int k a) (hy : ρ y = .int k c) : Y P ρ (.binOp .gtr t x y t') T (.bool (decide (c < a))) W := by
  refine y_binInt hx hy ?_; simp [binOp, Op.intCmp]
theorem y_geq (hx : ρ x = .int k a) (hy : ρ y = .int k c) : Y P ρ (.binOp .geq t x y t') T (.bool (decide (c ≤ a))) W := by
  refine y_binInt hx hy ?_; simp [binOp, Op.intCmp]
theorem y_eql (hx : ρ x = .int k a) (hy : ρ y = .int k c) : Y P ρ (.binOp .eql t x y t') T (.bool (decide (a = c))) W := by
  have e : (a == c) = decide (a = c) := by by_cases h : a = c <;> simp [h]
  refine y_binInt hx hy ?_; simp [binOp, Op.intCmp, e]
theorem y_neq (hx : ρ x = .int k a) (hy : ρ y = .int k c) : Y P ρ (.binOp .neq t x y t') T (.bool (decide (¬ a = c))) W := by
  refine y_binInt hx hy ?_
  have : (a != c) = decide (¬ a = c) := by by_cases h : a = c <;> simp [h]
  rw [binOp_neq, this]; rfl

theorem y_rem (hx : ρ x = .int k a) (hy : ρ y = .int k c) (h : 0 ≤ a ∧ 0 < c) : Y P ρ (.binOp .rem t x y t') T (.int k (a % c)) W := by
  refine y_binInt hx hy ?_
  have hc : c ≠ 0 := by omega
  simp [binOp, Op.intDiv, hc, Int.tmod_eq_emod_of_nonneg h.1]
theorem y_rem2 {m : Nat} (hx : ρ x = .int k (m : Int)) (hy : ρ y = .int k 2) : Y P ρ (.binOp .rem t x y t') T (.int k ((m % 2 : Nat) : Int)) W := by
  have := y_rem (P := P) (T := T) (W := W) (t := t) (t' := t') hx hy ⟨Int.natCast_nonneg _, by decide⟩
  simpa using this
theorem y_quoU64 (hx : ρ x = .int .u64 a) (hy : ρ y = .int .u64 c) (h : 0 ≤ a ∧ a ≤ 18446744073709551615 ∧ 1 ≤ c) : Y P ρ (.binOp .quo t x y t') T (.int .u64 (a / c)) W := by
  refine y_binInt hx hy ?_
  have hc : c ≠ 0 := by omega
  simp [binOp, Op.intDiv, hc, IntWalk.u64_quo _ _ h]

theorem y_shift {v : Value} {bop : BinOp} (hb : bop = .shl ∨ bop = .shr) (hx : ρ x = .int k a) (hy : ρ y = .int k' c) (h : (Op.shift bop k a k' c).run P W = .ok v W) :
    Y P ρ (.binOp bop t x y t') T v W := by
  unfold Y execOp
  rcases hb with rfl | rfl <;> simp only [hx, hy, eqGuard_at_int, binOp, Sem.run_bind, Sem.run_pure, Result.andThen_ok, h]
theorem y_shl (hx : ρ x = .int k a) (hy : ρ y = .int k' c) (h : 0 ≤ c) : Y P ρ (.binOp .shl t x y t') T (.int k (k.wrap (a * 2 ^ min c.toNat k.bits))) W := by
  refine y_shift (.inl rfl) hx hy ?_
  have : ¬ c < 0 := by omega
  simp [Op.shift, this]
theorem y_shl64 (hx : ρ x = .int .i64 a) (hy : ρ y = .int k' c) (h : 0 ≤ c ∧ c < 62) (hb : -9223372036854775808 ≤ a * 2 ^ c.toNat ∧ a * 2 ^ c.toNat ≤ 9223372036854775807) :
    Y P ρ (.binOp .shl t x y t') T (.int .i64 (a * 2 ^ c.toNat)) W := by
  have := y_shl (P := P) (T := T) (W := W) (t := t) (t' := t') hx hy h.1
  have e : min c.toNat IntKind.i64.bits = c.toNat := Nat.min_eq_left (by show c.toNat ≤ 64; omega)
  rw [e, IntWalk.i64_in _ hb] at this
  exact this
theorem pow_le_62 {j : Nat} (h : j < 62) : (2 : Int) ^ j ≤ 2305843009213693952 ∧ 1 ≤ (2 : Int) ^ j := by
  have h1 : (2 : Nat) ^ j ≤ 2 ^ 61 := Nat.pow_le_pow_right (by decide) (by omega)
  have h2 : 1 ≤ (2 : Nat) ^ j := Nat.one_le_two_pow
  have e : ((2 ^ j : Nat) : Int) = (2 : Int) ^ j := by simp
  omega
theorem y_bit64 (hx : ρ x = .int .i64 1) (hy : ρ y = .int k' c) (h : 0 ≤ c ∧ c < 62) : Y P ρ (.binOp .shl t x y t') T (.int .i64 ((2 ^ c.toNat : Nat) : Int)) W := by
  have hp := pow_le_62 (j := c.toNat) (by omega)
  have := y_shl64 (P := P) (T := T) (W := W) (t := t) (t' := t') hx hy h (by omega)
  have e : (1 : Int) * 2 ^ c.toNat = ((2 ^ c.toNat : Nat) : Int) := by simp
  rwa [e] at this
theorem y_shr (hx : ρ x = .int k a) (hy : ρ y = .int k' c) (h : 0 ≤ c) : Y P ρ (.binOp .shr t x y t') T (.int k (a / 2 ^ min c.toNat k.bits)) W := by
  refine y_shift (.inr rfl) hx hy ?_
  have h1 : ¬ c < 0 := by omega
  have h2 : a.fdiv (2 ^ min c.toNat k.bits) = a / 2 ^ min c.toNat k.bits := Int.fdiv_eq_ediv_of_nonneg _ (Int.le_of_lt (Int.pow_pos (by decide)))
  simp [Op.shift, h1, h2]
theorem y_shr64 (hx : ρ x = .int .i64 a) (hy : ρ y = .int k' c) (h : 0 ≤ c ∧ c < 64 ∧ 0 ≤ a) : Y P ρ (.binOp .shr t x y t') T (.int .i64 ((a.toNat >>> c.toNat : Nat) : Int)) W := by
  have := y_shr (P := P) (T := T) (W := W) (t := t) (t' := t') hx hy h.1
  have e : min c.toNat IntKind.i64.bits = c.toNat := Nat.min_eq_left (by show c.toNat ≤ 64; omega)
  rw [e] at this
  have e2 : a / 2 ^ c.toNat = ((a.toNat >>> c.toNat : Nat) : Int) := by
    rw [Nat.shiftRight_eq_div_pow]
    obtain ⟨m, rfl⟩ := Int.eq_ofNat_of_zero_le h.2.2
    simp
  rwa [e2] at this

theorem bv_nat (k : IntKind) (m : Nat) (_h : m < 2 ^ k.bits) : BitVec.ofInt k.bits (m : Int) = BitVec.ofNat k.bits m := by
  apply BitVec.eq_of_toNat_eq
  simp [BitVec.toNat_ofNat]
theorem y_bits {v : Value} {bop : BinOp} (hb : bop = .and ∨ bop = .or ∨ bop = .xor ∨ bop = .andNot) (hx : ρ x = .int k a) (hy : ρ y = .int k c) (h : (Op.intBits bop k a c).run P W = .ok v W) :
    Y P ρ (.binOp bop t x y t') T v W := by
  refine y_binInt hx hy ?_
  rcases hb with rfl | rfl | rfl | rfl <;> simp only [binOp, ne_eq, not_true_eq_false, if_false, h]
theorem nat_lt_63 {a : Int} (h : 0 ≤ a ∧ a ≤ 9223372036854775807) : ∃ m : Nat, a = m ∧ m < 2 ^ 63 := ⟨a.toNat, by omega, by omega⟩
theorem y_and64 (hx : ρ x = .int .i64 a) (hy : ρ y = .int .i64 c) (h : (0 ≤ a ∧ a ≤ 9223372036854775807) ∧ (0 ≤ c ∧ c ≤ 9223372036854775807)) :
    Y P ρ (.binOp .and t x y t') T (.int .i64 ((a.toNat &&& c.toNat : Nat) : Int)) W := by
  refine y_bits (.inl rfl) hx hy ?_
  obtain ⟨m, rfl, hm⟩ := nat_lt_63 h.1
  obtain ⟨j, rfl, hj⟩ := nat_lt_63 h.2
  have hlt : m &&& j < 2 ^ 63 := Nat.lt_of_le_of_lt Nat.and_le_left hm
  simp only [Op.intBits, bv_nat .i64 m (by show m < 2 ^ 64; omega), bv_nat .i64 j (by show j < 2 ^ 64; omega)]
  have e : ((BitVec.ofNat IntKind.i64.bits m &&& BitVec.ofNat IntKind.i64.bits j).toNat : Nat) = m &&& j := by
    rw [BitVec.toNat_and, BitVec.toNat_ofNat, BitVec.toNat_ofNat, Nat.mod_eq_of_lt (by show m < 2 ^ 64; omega), Nat.mod_eq_of_lt (by show j < 2 ^ 64; omega)]
  rw [e, IntWalk.i64_in _ (by omega)]
  rfl
theorem y_or64 (hx : ρ x = .int .i64 a) (hy : ρ y = .int .i64 c) (h : (0 ≤ a ∧ a ≤ 9223372036854775807) ∧ (0 ≤ c ∧ c ≤ 9223372036854775807)) :
    Y P ρ (.binOp .or t x y t') T (.int .i64 ((a.toNat ||| c.toNat : Nat) : Int)) W := by
  refine y_bits (.inr (.inl rfl)) hx hy ?_
  obtain ⟨m, rfl, hm⟩ := nat_lt_63 h.1
  obtain ⟨j, rfl, hj⟩ := nat_lt_63 h.2
  have hlt : m ||| j < 2 ^ 63 := Nat.or_lt_two_pow hm hj
  simp only [Op.intBits, bv_nat .i64 m (by show m < 2 ^ 64; omega), bv_nat .i64 j (by show j < 2 ^ 64; omega)]
  have e : ((BitVec.ofNat IntKind.i64.bits m ||| BitVec.ofNat IntKind.i64.bits j).toNat : Nat) = m ||| j := by
    rw [BitVec.toNat_or, BitVec.toNat_ofNat, BitVec.toNat_ofNat, Nat.mod_eq_of_lt (by show m < 2 ^ 64; omega), Nat.mod_eq_of_lt (by show j < 2 ^ 64; omega)]
  rw [e, IntWalk.i64_in _ (by omega)]
  rfl

theorem y_sub1N {m : Nat} (hx : ρ x = .int .i64 (m : Int)) (hy : ρ y = .int .i64 1) (h : 1 ≤ m ∧ m ≤ 9223372036854775807) : Y P ρ (.binOp .sub t x y t') T (.int .i64 ((m - 1 : Nat) : Int)) W := by
  have := y_sub64 (P := P) (T := T) (W := W) (t := t) (t' := t') hx hy (by omega)
  have e : (m : Int) - 1 = ((m - 1 : Nat) : Int) := by omega
  rwa [e] at this
theorem y_shrN {m j : Nat} (hx : ρ x = .int .i64 (m : Int)) (hy : ρ y = .int k' (j : Int)) (h : j < 64) : Y P ρ (.binOp .shr t x y t') T (.int .i64 ((m >>> j : Nat) : Int)) W := by
  have := y_shr64 (P := P) (T := T) (W := W) (t := t) (t' := t') hx hy (by omega)
  simpa using this
theorem y_andN {m j : Nat} (hx : ρ x = .int .i64 (m : Int)) (hy : ρ y = .int .i64 (j : Int)) (h : m ≤ 9223372036854775807 ∧ j ≤ 9223372036854775807) : Y P ρ (.binOp .and t x y t') T (.int .i64 ((m &&& j : Nat) : Int)) W := by
  have := y_and64 (P := P) (T := T) (W := W) (t := t) (t' := t') hx hy (by omega)
  simpa using this
theorem y_and1 {m : Nat} (hx : ρ x = .int .i64 (m : Int)) (hy : ρ y = .int .i64 1) (h : m ≤ 9223372036854775807) : Y P ρ (.binOp .and t x y t') T (.int .i64 ((m &&& 1 : Nat) : Int)) W :=
  y_andN (j := 1) hx hy ⟨h, by omega⟩
theorem y_orN {m j : Nat} (hx : ρ x = .int .i64 (m : Int)) (hy : ρ y = .int .i64 (j : Int)) (h : m ≤ 9223372036854775807 ∧ j ≤ 9223372036854775807) : Y P ρ (.binOp .or t x y t') T (.int .i64 ((m ||| j : Nat) : Int)) W := by
  have := y_or64 (P := P) (T := T) (W := W) (t := t) (t' := t') hx hy (by omega)
  simpa using this
theorem y_bitN {j : Nat} (hx : ρ x = .int .i64 1) (hy : ρ y = .int k' (j : Int)) (h : j < 62) : Y P ρ (.binOp .shl t x y t') T (.int .i64 ((2 ^ j : Nat) : Int)) W := by
  have := y_bit64 (P := P) (T := T) (W := W) (t := t) (t' := t') hx hy (by omega)
  simpa using this
theorem y_bitI {a : Int} (hx : ρ x = .int .i64 1) (hy : ρ y = .int k' a) (h : 0 ≤ a ∧ a < 62) : Y P ρ (.binOp .shl t x y t') T (.int .i64 ((2 ^ a.toNat : Nat) : Int)) W := y_bit64 hx hy h

theorem y_not {p : Bool} (h : ρ x = .bool p) : Y P ρ (.unOp .not t x) T (.bool (!p)) W := by
  unfold Y execOp; simp only [h]; rfl
theorem y_neg64 (h : ρ x = .int .i64 a) (hb : -9223372036854775807 ≤ a ∧ a ≤ 9223372036854775807) : Y P ρ (.unOp .neg t x) T (.int .i64 (-a)) W := by
  unfold Y execOp
  simp only [h]
  show Result.ok (Next.value (.int .i64 (IntKind.i64.wrap (0 - a)))) W = _
  rw [IntWalk.i64_in _ (by omega)]
  simp

theorem run_underlying' (P : Program) (W : World) (t : TypeId) (u : TypeDesc) (h : P.underlying t = some u) : (underlying t).run P W = .ok u W := by
  simp [underlying, program, Sem.run_bind, Sem.run, h]

theorem y_conv {k' : IntKind} {u : TypeDesc} (h : ρ x = .int k a) (hs : P.underlying t = some u) (hd : P.underlying t' = some (.int k')) (hw : k'.wrap a = a) :
    Y P ρ (.convert t t' x) T (.int k' a) W := by
  unfold Y execOp
  simp only [h]
  have : (convert t t' (.int k a)).run P W = .ok (.int k' a) W := by
    unfold convert
    simp only [Sem.run_bind, run_underlying' P W t u hs, run_underlying' P W t' _ hd, Result.andThen_ok]
    cases u <;> simp [Conv.intToInt, hw]
  simp only [Sem.run_bind, Sem.run_pure, Result.andThen_ok, this]
end
end Go.Kx
/- Memory: what a call owns, what it reads. -/
namespace Go.Kx
open Go Go.RowKit

structure Upd (S : List Nat) (w w' : World) : Prop where
  os : w'.os = w.os
  tape : w'.tape = w.tape
  output : w'.output = w.output
  size : w.heap.size ≤ w'.heap.size
  block : ∀ k, k < w.heap.size → k ∉ S → w'.heap[k]? = w.heap[k]?

theorem Upd.refl (S : List Nat) (w : World) : Upd S w w := ⟨rfl, rfl, rfl, Nat.le_refl _, fun _ _ _ => rfl⟩
theorem Upd.below {w w' : World} (h : Upd [] w w') : Below w.heap.size w w' := ⟨h.os, h.tape, h.output, h.size, fun k hk => h.block k hk (by simp)⟩
theorem Upd.cell {S : List Nat} {w w' : World} (h : Upd S w w') {a : Addr} {v : Value} (hc : w.cell? a = some v) (hs : a.block ∉ S) : w'.cell? a = some v := by
  have hlt := World.block_lt_of_cell? w a hc
  rw [World.cell?_of_block (w := w) (h.block a.block hlt hs)]; exact hc

inductive En where
  | blk (b : Nat) (T : TypeId) (xs : List Value)
  | own (e : TypeId) (size : Nat) (v : Value) (n : Nat) (xs : List Value)
  | obj (b : Nat) (p : Obj → Prop)

def En.foot : En → Option Nat
  | .blk b _ _ => some b
  | .own _ _ v _ _ => v.ownBlock
  | .obj b _ => some b

def En.holds (W : World) : En → Prop
  | .blk b T xs => W.heap[b]? = some (.cells xs.toArray T (0, 0))
  | .own e size v n xs => W.ownsRow 0 e size v n xs
  | .obj b p => ∃ o, W.heap[b]? = some o ∧ p o

theorem En.holds.lt {W : World} {e : En} (h : e.holds W) {b : Nat} (hb : e.foot = some b) : b < W.heap.size := by
  cases e with
  | blk b' T xs => simp only [En.foot, Option.some.injEq] at hb; subst hb; exact (Array.getElem?_eq_some_iff.1 h).1
  | own e size v n xs => exact (World.ownsRow.lt h b hb).2
  | obj b' p => simp only [En.foot, Option.some.injEq] at hb; subst hb; obtain ⟨o, ho, _⟩ := h; exact (Array.getElem?_eq_some_iff.1 ho).1

theorem En.holds.kept {W W' : World} {e : En} (h : e.holds W) (hk : ∀ b, e.foot = some b → W'.heap[b]? = W.heap[b]?) : e.holds W' := by
  cases e with
  | blk b T xs => exact (hk b rfl).trans h
  | own e size v n xs =>
    refine ⟨h.1, ?_⟩
    rcases h.2 with hn | ⟨g, cap, cur, rfl, hb, hg, rest⟩
    · exact .inl hn
    · exact .inr ⟨g, cap, cur, rfl, hb, (hk g rfl).trans hg, rest⟩
  | obj b p => obtain ⟨o, ho, hp⟩ := h; exact ⟨o, (hk b rfl).trans ho, hp⟩

def En.apart (e e' : En) : Prop := ∀ b, e.foot = some b → e'.foot ≠ some b
theorem En.apart.symm {e e' : En} (h : e.apart e') : e'.apart e := fun b hb hb' => h b hb' hb

structure Mem (w0 : World) (S : List Nat) (H : List En) (W : World) : Prop where
  upd : Upd S w0 W
  all : ∀ e ∈ H, e.holds W
  old : ∀ e ∈ H, ∀ b, e.foot = some b → b < w0.heap.size → b ∈ S
  apart : H.Pairwise En.apart

theorem Mem.init (w : World) : Mem w [] [] w := ⟨Upd.refl _ _, by simp, by simp, List.Pairwise.nil⟩

theorem Mem.step {w0 W W' : World} {S : List Nat} {H : List En} (h : Mem w0 S H W) (hu : Upd [] W W') : Mem w0 S H W' := by
  have hs := h.upd.size
  exact ⟨⟨hu.os.trans h.upd.os, hu.tape.trans h.upd.tape, hu.output.trans h.upd.output, Nat.le_trans hs hu.size, fun k hk hS => (hu.block k (by omega) (by simp)).trans (h.upd.block k hk hS)⟩,
    fun e he => (h.all e he).kept (fun b hb => hu.block b ((h.all e he).lt hb) (by simp)), h.old, h.apart⟩

theorem upd_drew (W : World) : Upd [] W { W with drawn := W.drawn + 1 } := ⟨rfl, rfl, rfl, Nat.le_refl _, fun _ _ _ => rfl⟩
theorem upd_alloc (W : World) (o : Obj) : Upd [] W (W.alloc o) := ⟨rfl, rfl, rfl, by simp, fun k hk _ => Below.heap_alloc _ _ _ hk⟩

theorem Mem.add {w0 W W' : World} {S : List Nat} {H : List En} (h : Mem w0 S H W) (hu : Upd [] W W') {e : En} (he : e.holds W') (hf : ∀ b, e.foot = some b → W.heap.size ≤ b) :
    Mem w0 S (H ++ [e]) W' := by
  have h' := h.step hu
  refine ⟨h'.upd, ?_, ?_, ?_⟩
  · intro x hx
    rcases List.mem_append.1 hx with hx | hx
    · exact h'.all x hx
    · rw [List.mem_singleton.1 hx]; exact he
  · intro x hx b hb hlt
    rcases List.mem_append.1 hx with hx | hx
    · exact h'.old x hx b hb hlt
    · rw [List.mem_singleton.1 hx] at hb
      have := hf b hb; have := h.upd.size; omega
  · refine List.pairwise_append.2 ⟨h'.apart, List.pairwise_singleton _ _, fun x hx y hy b hb hb' => ?_⟩
    rw [List.mem_singleton.1 hy] at hb'
    have := hf b hb'; have := (h.all x hx).lt hb; omega

theorem Mem.call {w0 W W' : World} {S : List Nat} {H E : List En} (h : Mem w0 S H W) (hc : Mem W [] E W') : Mem w0 S (H ++ E) W' := by
  have h' := h.step hc.upd
  have hge : ∀ e ∈ E, ∀ b, e.foot = some b → W.heap.size ≤ b := fun e he b hb => by
    refine Nat.le_of_not_lt fun hlt => ?_
    have := hc.old e he b hb hlt; simp at this
  refine ⟨h'.upd, ?_, ?_, ?_⟩
  · intro x hx
    rcases List.mem_append.1 hx with hx | hx
    · exact h'.all x hx
    · exact hc.all x hx
  · intro x hx b hb hlt
    rcases List.mem_append.1 hx with hx | hx
    · exact h'.old x hx b hb hlt
    · have := hge x hx b hb; have := h.upd.size; omega
  · refine List.pairwise_append.2 ⟨h'.apart, hc.apart, fun x hx y hy b hb hb' => ?_⟩
    have := hge y hy b hb'; have := (h.all x hx).lt hb; omega

theorem Mem.sub {w0 W : World} {S : List Nat} {H H' : List En} (h : Mem w0 S H W) (hs : H'.Sublist H) : Mem w0 S H' W :=
  ⟨h.upd, fun e he => h.all e (hs.subset he), fun e he => h.old e (hs.subset he), h.apart.sublist hs⟩
theorem Mem.nil {w0 W : World} {S : List Nat} {H : List En} (h : Mem w0 S H W) : Mem w0 S [] W := h.sub (List.nil_sublist _)

theorem Mem.turn {w0 W W' : World} {S : List Nat} {H : List En} (h : Mem w0 S H W) {i : Nat} {e e' : En} (hi : H[i]? = some e)
    (hos : W'.os = W.os) (htape : W'.tape = W.tape) (hout : W'.output = W.output) (hsize : W.heap.size ≤ W'.heap.size)
    (hblock : ∀ k, k < W.heap.size → e.foot ≠ some k → W'.heap[k]? = W.heap[k]?) (he : e'.holds W') (hf : ∀ b, e'.foot = some b → e.foot = some b ∨ W.heap.size ≤ b) :
    Mem w0 S (H.set i e') W' := by
  obtain ⟨hlt, hget⟩ := List.getElem?_eq_some_iff.1 hi
  have hmem : e ∈ H := List.mem_of_getElem? hi
  have hap : ∀ j (hj : j < H.length), j ≠ i → (H[j]).apart e := fun j hj hne => by
    rcases Nat.lt_or_gt_of_ne hne with hlt' | hgt
    · have := List.pairwise_iff_getElem.1 h.apart j i hj hlt hlt'; rwa [hget] at this
    · have := List.pairwise_iff_getElem.1 h.apart i j hlt hj hgt; rw [hget] at this; exact this.symm
  have hs := h.upd.size
  refine ⟨⟨hos.trans h.upd.os, htape.trans h.upd.tape, hout.trans h.upd.output, by omega, fun k hk hS => ?_⟩, ?_, ?_, ?_⟩
  · rw [hblock k (by omega) (fun hfk => hS (h.old e hmem k hfk hk))]; exact h.upd.block k hk hS
  · intro x hx
    obtain ⟨j, hj, rfl⟩ := List.mem_iff_getElem.1 hx
    rw [List.getElem_set]
    split
    · exact he
    · rename_i hne
      have hj' : j < H.length := by simpa using hj
      refine (h.all _ (List.getElem_mem hj')).kept (fun b hb => hblock b ((h.all _ (List.getElem_mem hj')).lt hb) (hap j hj' (fun hh => hne hh.symm) b hb))
  · intro x hx b hb hlt'
    obtain ⟨j, hj, rfl⟩ := List.mem_iff_getElem.1 hx
    rw [List.getElem_set] at hb
    split at hb
    · rcases hf b hb with hb' | hb'
      · exact h.old e hmem b hb' hlt'
      · omega
    · have hj' : j < H.length := by simpa using hj
      exact h.old _ (List.getElem_mem hj') b hb hlt'
  · rw [List.pairwise_iff_getElem]
    intro j k hj hk hjk b hb hb'
    have hj' : j < H.length := by simpa using hj
    have hk' : k < H.length := by simpa using hk
    rw [List.getElem_set] at hb hb'
    split at hb
    · split at hb'
      · omega
      · rename_i hne
        rcases hf b hb with h1 | h1
        · exact hap k hk' (fun hh => hne hh.symm) b hb' h1
        · have := (h.all _ (List.getElem_mem hk')).lt hb'; omega
    · rename_i hne
      split at hb'
      · rcases hf b hb' with h1 | h1
        · exact hap j hj' (fun hh => hne hh.symm) b hb h1
        · have := (h.all _ (List.getElem_mem hj')).lt hb; omega
      · exact List.pairwise_iff_getElem.1 h.apart j k hj' hk' hjk b hb hb'

theorem Mem.at {w0 W : World} {S : List Nat} {H : List En} (h : Mem w0 S H W) {i : Nat} {e : En} (hi : H[i]? = some e) : e.holds W := h.all e (List.mem_of_getElem? hi)

theorem blk_cell {W : World} {b : Nat} {T : TypeId} {xs : List Value} (h : (En.blk b T xs).holds W) {j : Nat} {v : Value} (hj : xs[j]? = some v) : W.cell? ⟨b, j, none⟩ = some v := by
  have h' : W.heap[b]? = some (.cells xs.toArray T (0, 0)) := h
  simp [World.cell?, h', hj]
theorem Mem.blk_cell {w0 W : World} {S : List Nat} {H : List En} (h : Mem w0 S H W) (i : Nat) {b : Nat} {T : TypeId} {xs : List Value} {j : Nat} {v : Value} (hi : H[i]? = some (.blk b T xs)) (hj : xs[j]? = some v) :
    W.cell? ⟨b, j, none⟩ = some v := Kx.blk_cell (h.at hi) hj

def SlAt (W : World) (size : Nat) (v : Value) (n : Nat) (xs : List Value) : Prop :=
  xs.length = n * size ∧ ∃ a cap, v = .slice a n cap ∧ n ≤ cap ∧ ∀ (j : Nat) (u : Value), xs[j]? = some u → ∃ b o, a = some ⟨b, o, none⟩ ∧ W.cell? ⟨b, o + j, none⟩ = some u

theorem SlAt.nil (W : World) (size : Nat) : SlAt W size (.slice none 0 0) 0 [] := ⟨by simp, none, 0, rfl, Nat.le_refl _, by simp⟩
theorem SlAt.upd {S : List Nat} {W W' : World} {size : Nat} {v : Value} {n : Nat} {xs : List Value} (h : SlAt W size v n xs) (hu : Upd S W W') (hS : ∀ b, v.ownBlock = some b → b ∉ S) : SlAt W' size v n xs := by
  obtain ⟨hl, a, cap, rfl, hc, hx⟩ := h
  refine ⟨hl, a, cap, rfl, hc, fun j u hj => ?_⟩
  obtain ⟨b, o, rfl, hcell⟩ := hx j u hj
  exact ⟨b, o, rfl, hu.cell hcell (hS b rfl)⟩
theorem SlAt.step {W W' : World} {size : Nat} {v : Value} {n : Nat} {xs : List Value} (h : SlAt W size v n xs) (hu : Upd [] W W') : SlAt W' size v n xs := h.upd hu (by simp)
theorem own_slAt {W : World} {e : TypeId} {size : Nat} {v : Value} {n : Nat} {xs : List Value} (h : W.ownsRow 0 e size v n xs) : SlAt W size v n xs := by
  refine ⟨h.1, ?_⟩
  rcases h.2 with ⟨rfl, rfl⟩ | ⟨g, cap, cur, rfl, hb, hg, hn, hm, hs, ht⟩
  · have : xs = [] := List.eq_nil_of_length_eq_zero (by simpa using h.1)
    subst this
    exact ⟨none, 0, rfl, Nat.le_refl _, by simp⟩
  · refine ⟨some ⟨g, 0, none⟩, cap, rfl, hn, fun j u hj => ⟨g, 0, rfl, ?_⟩⟩
    have := World.ownsRow.cells h (g := g) rfl j u hj
    rw [Addr.add_lit] at this
    exact this
theorem Mem.slAt {w0 W : World} {S : List Nat} {H : List En} (h : Mem w0 S H W) (i : Nat) {e : TypeId} {size : Nat} {v : Value} {n : Nat} {xs : List Value} (hi : H[i]? = some (.own e size v n xs)) :
    SlAt W size v n xs := own_slAt (h.at hi)
end Go.Kx
/- Operations on memory. -/
namespace Go.Kx
open Go Go.RowKit

def TI (P : Program) (e : TypeId) (z : Value) (size bytes : Nat) : Prop := (P.info? e).map (fun i => (i.zero, i.size, i.bytes)) = some (some z, size, bytes)
theorem TI.parts {P : Program} {e : TypeId} {z : Value} {size bytes : Nat} (h : TI P e z size bytes) : ∃ i, P.info? e = some i ∧ i.zero = some z ∧ i.size = size ∧ i.bytes = bytes := by
  unfold TI at h
  cases hi : P.info? e with
  | none => rw [hi] at h; cases h
  | some i =>
    rw [hi] at h
    simp only [Option.map_some, Option.some.injEq, Prod.mk.injEq] at h
    exact ⟨i, rfl, h.1, h.2.1, h.2.2⟩

def aggD : TypeDesc → Bool
  | .struct _ | .array _ _ => true
  | _ => false

def ptrAt (v : Value) (j : Nat) : Value :=
  match v with
  | .slice (some a) _ _ => .pointer (some ⟨a.block, a.off + j, none⟩)
  | _ => undef

theorem addr_add (b o j : Nat) : (⟨b, o, none⟩ : Addr).add j = ⟨b, o + j, none⟩ := Addr.add_lit b o j

section
variable {P : Program} {ρ : Operand → Value} {T : TypeId} {W : World} {x y z : Operand} {k k' : IntKind} {a c : Int} {t t' e : TypeId} {u : TypeDesc}

theorem run_isAgg (W : World) (t : TypeId) {u : TypeDesc} (hu : P.underlying t = some u) : (isAgg t).run P W = .ok (aggD u) W := by
  simp only [isAgg, Sem.run_bind, run_underlying' P W t u hu, Result.andThen_ok]
  cases u <;> rfl

theorem y_load {b o : Nat} {v : Value} (h : ρ x = .pointer (some ⟨b, o, none⟩)) (hc : W.cell? ⟨b, o, none⟩ = some v) (hu : P.underlying t = some u) (ha : aggD u = false) : Y P ρ (.load t x) T v W := by
  unfold Y execOp
  simp only [h, Instr.loadAt, Instr.sureAddr, loadVar, Sem.run_bind, Sem.run_pure, Result.andThen_ok, run_isAgg W t hu, ha]
  simp [load, Sem.run, hc]

theorem y_loadAgg {b o : Nat} {vs : List Value} {zv : Value} {by_ : Nat} (h : ρ x = .pointer (some ⟨b, o, none⟩)) (hc : ∀ (j : Nat) (w : Value), vs[j]? = some w → W.cell? ⟨b, o + j, none⟩ = some w) (hu : P.underlying t = some u)
    (ha : aggD u = true) (hi : TI P t zv vs.length by_) : Y P ρ (.load t x) T (.agg vs.toArray) W := by
  obtain ⟨i, hi, _, hs, _⟩ := hi.parts
  unfold Y execOp
  have hl := run_loadCells_list (P := P) W ⟨b, o, none⟩ vs (fun j w hw => by rw [addr_add]; exact hc j w hw)
  simp only [h, Instr.loadAt, Instr.sureAddr, loadVar, Sem.run_bind, Sem.run_pure, Result.andThen_ok, run_isAgg W t hu, ha, if_true, sizeOf, run_typeInfo W hi, hs, hl]

theorem SlAt.ptr {size n : Nat} {v : Value} {xs : List Value} (hs : SlAt W size v n xs) {j : Nat} (hj : j < xs.length) : ∃ b o, ∀ i, ptrAt v i = .pointer (some ⟨b, o + i, none⟩) := by
  obtain ⟨_, a, cap, rfl, _, hx⟩ := hs
  obtain ⟨b, o, rfl, _⟩ := hx j _ (List.getElem?_eq_getElem hj)
  exact ⟨b, o, fun i => rfl⟩

theorem SlAt.cell {size n : Nat} {v : Value} {xs : List Value} (hs : SlAt W size v n xs) {j : Nat} {w : Value} (hj : xs[j]? = some w) : ∃ b o, ptrAt v j = .pointer (some ⟨b, o, none⟩) ∧ W.cell? ⟨b, o, none⟩ = some w := by
  obtain ⟨_, a, cap, rfl, _, hx⟩ := hs
  obtain ⟨b, o, rfl, hc⟩ := hx j _ hj
  exact ⟨b, o + j, rfl, hc⟩

theorem y_loadSl {size n j : Nat} {v w : Value} {xs : List Value} (h : ρ x = ptrAt v j) (hs : SlAt W size v n xs) (hj : xs[j]? = some w) (hu : P.underlying t = some u) (ha : aggD u = false) : Y P ρ (.load t x) T w W := by
  obtain ⟨b, o, hp, hc⟩ := hs.cell hj
  exact y_load (h.trans hp) hc hu ha

theorem y_loadSlAgg {size n j : Nat} {v : Value} {xs vs : List Value} {zv : Value} {by_ : Nat} (h : ρ x = ptrAt v j) (hs : SlAt W size v n xs) (hne : j < xs.length) (hj : ∀ (i : Nat) (w : Value), vs[i]? = some w → xs[j + i]? = some w)
    (hu : P.underlying t = some u) (ha : aggD u = true) (hi : TI P t zv vs.length by_) : Y P ρ (.load t x) T (.agg vs.toArray) W := by
  obtain ⟨_, a, cap, rfl, _, hx⟩ := hs
  obtain ⟨b, o, rfl, _⟩ := hx j _ (List.getElem?_eq_getElem hne)
  refine y_loadAgg h (fun i w hw => ?_) hu ha hi
  obtain ⟨b', o', he, hc⟩ := hx (j + i) w (hj i w hw)
  simp only [Option.some.injEq, Addr.mk.injEq, and_true] at he
  obtain ⟨rfl, rfl⟩ := he
  rw [Nat.add_assoc]; exact hc

theorem y_indexAddr {size n : Nat} {v zv : Value} {by_ : Nat} {xs : List Value} (h : ρ x = v) (hi : ρ y = .int k a) (hs : SlAt W size v n xs) (hb : 0 ≤ a ∧ a < n) (ht : P.underlying t = some (.slice e)) (hti : TI P e zv size by_) (h0 : 0 < size) :
    Y P ρ (.indexAddr t x y) T (ptrAt v (a.toNat * size)) W := by
  obtain ⟨i, hinf, _, hsz, _⟩ := hti.parts
  have hlen : a.toNat * size < xs.length := by rw [hs.1]; exact (Nat.mul_lt_mul_right h0).2 (by omega)
  obtain ⟨hl, ad, cap, rfl, _, hx⟩ := hs
  obtain ⟨b, o, rfl, _⟩ := hx _ _ (List.getElem?_eq_getElem hlen)
  unfold Y execOp
  have hb' : 0 ≤ a ∧ a < (n : Int) := hb
  simp only [h, hi, Instr.indexAt, asIntOf, Sem.run_bind, Sem.run_pure, Result.andThen_ok, run_underlying' P W t _ ht, Bool.and_false]
  rw [if_pos hb']
  simp only [sizeOf, Sem.run_bind, run_typeInfo W hinf, hsz, Result.andThen_ok, Sem.run_pure, addr_add]
  rfl

theorem y_indexArr {b o len size : Nat} {zv : Value} {by_ : Nat} (h : ρ x = .pointer (some ⟨b, o, none⟩)) (hi : ρ y = .int k a) (hb : 0 ≤ a ∧ a < len) (ht : P.underlying t = some (.array len e)) (hti : TI P e zv size by_) :
    Y P ρ (.indexAddr t x y) T (.pointer (some ⟨b, o + a.toNat * size, none⟩)) W := by
  obtain ⟨i, hinf, _, hsz, _⟩ := hti.parts
  unfold Y execOp
  have hb' : 0 ≤ a ∧ a < (len : Int) := hb
  simp only [h, hi, Instr.indexAt, Instr.sureAddr, asIntOf, Sem.run_bind, Sem.run_pure, Result.andThen_ok, run_underlying' P W t _ ht]
  rw [if_pos hb']
  simp only [sizeOf, Sem.run_bind, run_typeInfo W hinf, hsz, Result.andThen_ok, Sem.run_pure, addr_add]

theorem y_indexArrSl {len size j n' s' : Nat} {v zv : Value} {by_ : Nat} {xs : List Value} (h : ρ x = ptrAt v j) (hi : ρ y = .int k a) (hs : SlAt W s' v n' xs) (hj : j < xs.length) (hb : 0 ≤ a ∧ a < len) (ht : P.underlying t = some (.array len e)) (hti : TI P e zv size by_) :
    Y P ρ (.indexAddr t x y) T (ptrAt v (j + a.toNat * size)) W := by
  obtain ⟨b, o, hp⟩ := hs.ptr hj
  rw [hp, ← Nat.add_assoc]
  exact y_indexArr (h.trans (hp j)) hi hb ht hti

theorem y_fieldAddr {b o off ft fsz : Nat} {i : Nat} {fs : Array Field} {zv : Value} {by_ : Nat} (h : ρ x = .pointer (some ⟨b, o, none⟩)) (hu : P.underlying t = some (.struct fs)) (hf : (fs[i]?).map (fun f => (f.offset, f.type)) = some (off, ft))
    (hti : TI P ft zv (fsz + 1) by_) : Y P ρ (.fieldAddr t x i) T (.pointer (some ⟨b, o + off, none⟩)) W := by
  obtain ⟨j, hinf, _, hsz, _⟩ := hti.parts
  cases hfi : fs[i]? with
  | none => rw [hfi] at hf; cases hf
  | some f =>
    rw [hfi] at hf
    simp only [Option.map_some, Option.some.injEq, Prod.mk.injEq] at hf
    obtain ⟨rfl, rfl⟩ := hf
    unfold Y execOp
    simp only [h, Instr.fieldAt, Instr.sureAddr, Sem.run_bind, Sem.run_pure, Result.andThen_ok, run_underlying' P W t _ hu, hfi, fieldPlace, sizeOf, run_typeInfo W hinf, hsz, Nat.add_one_ne_zero, if_false, addr_add]

theorem y_fieldAddrSl {off ft fsz j n' s' : Nat} {i : Nat} {fs : Array Field} {v zv : Value} {by_ : Nat} {xs : List Value} (h : ρ x = ptrAt v j) (hs : SlAt W s' v n' xs) (hj : j < xs.length) (hu : P.underlying t = some (.struct fs))
    (hf : (fs[i]?).map (fun f => (f.offset, f.type)) = some (off, ft)) (hti : TI P ft zv (fsz + 1) by_) : Y P ρ (.fieldAddr t x i) T (ptrAt v (j + off)) W := by
  obtain ⟨b, o, hp⟩ := hs.ptr hj
  rw [hp, ← Nat.add_assoc]
  exact y_fieldAddr (h.trans (hp j)) hu hf hti

theorem y_nilCheck {ad : Addr} (h : ρ x = .pointer (some ad)) : Y P ρ (.nilCheck x) T (.pointer (some ad)) W := by
  unfold Y execOp; simp only [h]; rfl

theorem y_extract {vs : Array Value} {i : Nat} {v : Value} (h : ρ x = .tuple vs) (hv : vs[i]? = some v) : Y P ρ (.extract x i) T v W := by
  unfold Y execOp; simp only [h, Instr.extract, hv, Sem.run_bind, Sem.run_pure, Result.andThen_ok]

theorem y_index {vs : Array Value} {len : Nat} {v zv : Value} {by_ : Nat} (h : ρ x = .agg vs) (hi : ρ y = .int k a) (hb : 0 ≤ a ∧ a < len) (ht : P.underlying t = some (.array len e)) (hti : TI P e zv 1 by_) (hu : P.underlying e = some u) (ha : aggD u = false)
    (hv : vs[a.toNat]? = some v) : Y P ρ (.index t x y) T v W := by
  obtain ⟨j, hinf, _, hsz, _⟩ := hti.parts
  unfold Y execOp
  have hb' : 0 ≤ a ∧ a < (len : Int) := hb
  simp only [h, hi, Instr.index, asIntOf, Sem.run_bind, Sem.run_pure, Result.andThen_ok, run_underlying' P W t _ ht]
  rw [if_pos hb']
  simp only [sizeOf, Sem.run_bind, Sem.run_pure, run_typeInfo W hinf, hsz, Result.andThen_ok, part, run_isAgg W e hu, ha, Nat.mul_one, hv, Bool.false_eq_true, if_false]

theorem y_lenSlice {ad : Option Addr} {m cap : Nat} (h : ρ x = .slice ad m cap) (ht : P.underlying t = some (.slice e)) :
    Y P ρ (.call { callee := .builtin .len, args := #[x], argTypes := #[t] }) T (.int .i64 m) W := by
  unfold Y execOp
  simp only [resolve, invoke, builtin, Sem.run_bind, Sem.run_pure, Result.andThen_ok, List.map_toArray, List.map_cons, List.map_nil, h, Builtin.len_]
  simp [run_underlying' P W t _ ht, Sem.run_bind, goInt]
theorem y_lenSl {v : Value} {size m : Nat} {xs : List Value} (h : ρ x = v) (hs : SlAt W size v m xs) (ht : P.underlying t = some (.slice e)) :
    Y P ρ (.call { callee := .builtin .len, args := #[x], argTypes := #[t] }) T (.int .i64 m) W := by
  obtain ⟨_, ad, cap, rfl, _, _⟩ := hs
  exact y_lenSlice h ht
theorem y_lenStr {s : ByteArray} (h : ρ x = .string s) (ht : P.underlying t = some .string) :
    Y P ρ (.call { callee := .builtin .len, args := #[x], argTypes := #[t] }) T (.int .i64 s.size) W := by
  unfold Y execOp
  simp only [resolve, invoke, builtin, Sem.run_bind, Sem.run_pure, Result.andThen_ok, List.map_toArray, List.map_cons, List.map_nil, h, Builtin.len_]
  simp [run_underlying' P W t _ ht, Sem.run_bind, goInt]

theorem y_max {ts : Array TypeId} (hx : ρ x = .int k a) (hy : ρ y = .int k c) : Y P ρ (.call { callee := .builtin .max, args := #[x, y], argTypes := ts }) T (.int k (max a c)) W := by
  have e : (if c > a then c else a) = max a c := by split <;> omega
  unfold Y execOp
  simp only [resolve, invoke, builtin, Sem.run_bind, Sem.run_pure, Result.andThen_ok, List.map_toArray, List.map_cons, List.map_nil, hx, hy, run_max_int2, e]
theorem y_min {ts : Array TypeId} (hx : ρ x = .int k a) (hy : ρ y = .int k c) : Y P ρ (.call { callee := .builtin .min, args := #[x, y], argTypes := ts }) T (.int k (min a c)) W := by
  have e : (if c < a then c else a) = min a c := by split <;> omega
  unfold Y execOp
  simp only [resolve, invoke, builtin, Sem.run_bind, Sem.run_pure, Result.andThen_ok, List.map_toArray, List.map_cons, List.map_nil, hx, hy, run_min_int2, e]

theorem y_makeFunc {f : Fn} {as bs : Array Operand} {vs ws : Array Value} (h1 : as.map ρ = vs) (h2 : bs.map ρ = ws) : Y P ρ (.makeFunc f as bs) T (.func f vs ws) W := by
  unfold Y execOp; simp only [h1, h2, Instr.makeFunc, Sem.run_bind, Sem.run_pure, Result.andThen_ok]
end

section
variable {ro : Option Nat} {P : Program} {ops : List Oper} {Q : Exit → Act → World → Prop} {rest : List Oper} {n : Nat} {l : Slots} {b : Env} {ds : List Deferred} {W W' w0 : World} {S : List Nat} {H : List En}
  {d : Nat} {op : Op} {T t e : TypeId} {pos : String} {aft : Array Edge} {x y : Operand} {u : TypeDesc}

def YW (P : Program) (ρ : Operand → Value) (op : Op) (T : TypeId) (v : Value) (W W' : World) : Prop := (execOp ρ ⟨none, op, T, "", #[], none⟩).run P W = .ok (.value v) W'

theorem wl_yw {v : Value} (hY : YW P (ev n l b) op T v W W') (h : LW ro P ops Q rest n ((d, v) :: l) b ds W') (hnd : notDefer op = true := by rfl) :
    LW ro P ops Q (⟨some d, op, T, pos, aft, none⟩ :: rest) n l b ds W := by
  refine wl_val (v := v) (W' := W') hnd ?_ h
  rw [← hY]; exact congrArg (fun s : Sem Next => s.run P W) (execOp_irrel ..)

theorem yw_box {ρ : Operand → Value} {v : Value} (h : ρ x = v) : YW P ρ (.box e x) T (.pointer (some ⟨W.heap.size, 0, none⟩)) W (W.alloc (.cells v.cells e)) := by
  unfold YW execOp
  simp only [h, Instr.box, newVar, newRow, newObj, Sem.run_bind, Sem.run_pure]
  rfl
theorem yw_alloc {ρ : Operand → Value} {zv : Value} {size by_ : Nat} (hi : TI P e zv size by_) : YW P ρ (.alloc e) T (.pointer (some ⟨W.heap.size, 0, none⟩)) W (W.alloc (.cells zv.cells e)) := by
  obtain ⟨i, hi, hz, _, _⟩ := hi.parts
  unfold YW execOp
  simp only [Instr.alloc, zeroValue, newVar, newRow, newObj, Sem.run_bind, Sem.run_pure, Result.andThen_ok, run_typeInfo W hi, hz]
  rfl

theorem alloc_blk (hm : Mem w0 S H W) (vs : List Value) (e : TypeId) : Mem w0 S (H ++ [.blk W.heap.size e vs]) (W.alloc (.cells vs.toArray e)) :=
  hm.add (upd_alloc _ _) (heap_alloc_new W _) (fun b hb => by simp only [En.foot, Option.some.injEq] at hb; omega)

theorem wl_box {v : Value} (hm : Mem w0 S H W) (h : ev n l b x = v)
    (hn : ∀ W' bk, Mem w0 S (H ++ [.blk bk e v.cells.toList]) W' → W.heap.size ≤ bk → Upd [] W W' → LW ro P ops Q rest n ((d, .pointer (some ⟨bk, 0, none⟩)) :: l) b ds W') :
    LW ro P ops Q (⟨some d, .box e x, T, pos, aft, none⟩ :: rest) n l b ds W := by
  refine wl_yw (yw_box h) (hn _ _ ?_ (Nat.le_refl _) (upd_alloc _ _))
  have := alloc_blk hm v.cells.toList e
  simpa using this
theorem wl_alloc {zv : Value} {size by_ : Nat} (hm : Mem w0 S H W) (hi : TI P e zv size by_)
    (hn : ∀ W' bk, Mem w0 S (H ++ [.blk bk e zv.cells.toList]) W' → W.heap.size ≤ bk → Upd [] W W' → LW ro P ops Q rest n ((d, .pointer (some ⟨bk, 0, none⟩)) :: l) b ds W') :
    LW ro P ops Q (⟨some d, .alloc e, T, pos, aft, none⟩ :: rest) n l b ds W := by
  refine wl_yw (yw_alloc hi) (hn _ _ ?_ (Nat.le_refl _) (upd_alloc _ _))
  have := alloc_blk hm zv.cells.toList e
  simpa using this

def splice (xs : List Value) (j : Nat) (vs : List Value) : List Value := xs.take j ++ vs ++ xs.drop (j + vs.length)
theorem splice_one {xs : List Value} {j : Nat} {v : Value} (h : j < xs.length) : splice xs j [v] = xs.set j v := by
  unfold splice
  rw [List.set_eq_take_append_cons_drop, if_pos h]
  simp
theorem splice_all {xs vs : List Value} (h : vs.length = xs.length) : splice xs 0 vs = vs := by simp [splice, h]
theorem length_splice {xs vs : List Value} {j : Nat} (h : j + vs.length ≤ xs.length) : (splice xs j vs).length = xs.length := by
  simp only [splice, List.length_append, List.length_take, List.length_drop]; omega

theorem run_store_at {ρ : Operand → Value} {g j : Nat} {T' : TypeId} {cur : Array Value} {v zv : Value} {vs : List Value} {size by_ : Nat} (h : ρ x = .pointer (some ⟨g, j, none⟩)) (hy : ρ y = v) (hvs : v.cells = vs.toArray) (hg : W.heap[g]? = some (.cells cur T' (0, 0)))
    (hi : TI P t zv size by_) (hl : vs.length = size) (hfit : j + vs.length ≤ cur.size) (h1 : ∀ w ∈ vs, w.oneCell' = true) :
    (execOp ρ ⟨none, .store t x y, T, "", #[], none⟩).run P W = .ok .skip (W.setRow g (cur.toList.take j ++ vs ++ cur.toList.drop (j + vs.length)).toArray) := by
  obtain ⟨i, hi, _, hs, _⟩ := hi.parts
  unfold execOp
  have hst := run_storeCells_at P g j T' vs 0 cur W hg (by simpa using hfit) h1
  simp only [Nat.add_zero] at hst
  simp only [h, hy, Instr.storeAt, Instr.sureAddr, storeVar, Sem.run_bind, Sem.run_pure, Result.andThen_ok, sizeOf, run_typeInfo W hi, hs, hvs, List.size_toArray, hl, ne_eq, not_true_eq_false, if_false, hst]

theorem setRow_blk {i g j : Nat} {T' : TypeId} {xs vs : List Value} (hm : Mem w0 S H W) (hi : H[i]? = some (.blk g T' xs)) :
    Mem w0 S (H.set i (.blk g T' (splice xs j vs))) (W.setRow g (splice xs j vs).toArray) := by
  have hg : W.heap[g]? = some (.cells xs.toArray T' (0, 0)) := hm.at hi
  refine hm.turn hi rfl rfl rfl (by simp) (fun k hk hne => setRow_other W g k _ (fun e => hne (by rw [e]; rfl))) (setRow_heap W g _ _ T' _ hg) (fun b hb => .inl hb)

theorem wl_store {i g j : Nat} {T' : TypeId} {xs vs : List Value} {v zv : Value} {size by_ : Nat} (hm : Mem w0 S H W) (h : ev n l b x = .pointer (some ⟨g, j, none⟩)) (hy : ev n l b y = v) (hvs : v.cells = vs.toArray) (hH : H[i]? = some (.blk g T' xs))
    (hi : TI P t zv size by_) (hl : vs.length = size) (hfit : j + vs.length ≤ xs.length) (h1 : ∀ w ∈ vs, w.oneCell' = true)
    (hn : ∀ W', Mem w0 S (H.set i (.blk g T' (splice xs j vs))) W' → LW ro P ops Q rest n l b ds W') :
    LW ro P ops Q (⟨none, .store t x y, T, pos, aft, none⟩ :: rest) n l b ds W := by
  have hr := run_store_at (P := P) (T := T) h hy hvs (hm.at hH) hi hl (by simpa using hfit) h1
  refine wl_skip rfl (by rw [← hr]; exact congrArg (fun s : Sem Next => s.run P W) (execOp_irrel ..)) (hn _ ?_)
  exact setRow_blk hm hH

theorem setRow_own {i j : Nat} {e' : TypeId} {size' n' : Nat} {v' : Value} {xs vs : List Value} (hm : Mem w0 S H W) (hi : H[i]? = some (.own e' size' v' n' xs)) (hfit : j + vs.length ≤ xs.length) (hpos : 0 < vs.length) :
    ∃ g cap cur, v' = .slice (some ⟨g, 0, none⟩) n' cap ∧ W.heap[g]? = some (.cells cur e' (0, 0)) ∧ xs.length ≤ cur.size ∧
      Mem w0 S (H.set i (.own e' size' v' n' (splice xs j vs))) (W.setRow g (cur.toList.take j ++ vs ++ cur.toList.drop (j + vs.length)).toArray) := by
  have ho : W.ownsRow 0 e' size' v' n' xs := hm.at hi
  obtain ⟨hl, ⟨rfl, rfl⟩ | ⟨g, cap, cur, rfl, hb, hg, hnc, hmx, hcs, ht⟩⟩ := ho
  · simp only [Nat.zero_mul] at hl; omega
  · have hle : xs.length ≤ cur.size := by rw [hl, hcs]; exact Nat.mul_le_mul_right _ hnc
    refine ⟨g, cap, cur, rfl, hg, hle, ?_⟩
    refine hm.turn hi rfl rfl rfl (by simp) (fun k hk hne => setRow_other W g k _ (fun e => hne (by rw [e]; rfl))) ?_ (fun b hb => .inl hb)
    have hgl := setRow_heap W g cur (cur.toList.take j ++ vs ++ cur.toList.drop (j + vs.length)).toArray e' (0, 0) hg
    refine ⟨by rw [length_splice hfit, hl], .inr ⟨g, cap, _, rfl, hb, hgl, hnc, hmx, ?_, ?_⟩⟩
    · simp only [List.size_toArray, List.length_append, List.length_take, List.length_drop, Array.length_toList]
      rw [← hcs]; omega
    · show List.take (n' * size') (List.take j cur.toList ++ vs ++ List.drop (j + vs.length) cur.toList) = splice xs j vs
      unfold splice
      rw [← hl]
      have hj : (List.take j cur.toList).length = j := by simp; omega
      have e1 : List.take xs.length (List.take j cur.toList ++ vs ++ List.drop (j + vs.length) cur.toList) =
          List.take j cur.toList ++ vs ++ List.take (xs.length - (j + vs.length)) (List.drop (j + vs.length) cur.toList) := by
        rw [List.take_append, List.take_of_length_le (by rw [List.length_append, hj]; exact hfit)]
        congr 2
        rw [List.length_append, hj]
      rw [e1, ← ht, ← hl, List.take_take, List.drop_take]
      congr 3
      · rw [Nat.min_eq_left (by omega)]
      · simp only [List.length_take, Array.length_toList]; omega

theorem wl_storeOwn {i j : Nat} {e' : TypeId} {size' n' : Nat} {v' : Value} {xs vs : List Value} {v zv : Value} {size by_ : Nat} (hm : Mem w0 S H W) (h : ev n l b x = ptrAt v' j) (hy : ev n l b y = v) (hvs : v.cells = vs.toArray)
    (hH : H[i]? = some (.own e' size' v' n' xs)) (hi : TI P t zv size by_) (hl : vs.length = size) (hpos : 0 < size) (hfit : j + vs.length ≤ xs.length) (h1 : ∀ w ∈ vs, w.oneCell' = true)
    (hn : ∀ W', Mem w0 S (H.set i (.own e' size' v' n' (splice xs j vs))) W' → LW ro P ops Q rest n l b ds W') :
    LW ro P ops Q (⟨none, .store t x y, T, pos, aft, none⟩ :: rest) n l b ds W := by
  obtain ⟨g, cap, cur, rfl, hg, hle, hmem⟩ := setRow_own (j := j) (vs := vs) hm hH hfit (by omega)
  have h' : ev n l b x = .pointer (some ⟨g, j, none⟩) := by rw [h]; simp [ptrAt]
  have hr := run_store_at (P := P) (T := T) h' hy hvs hg hi hl (by omega) h1
  exact wl_skip rfl (by rw [← hr]; exact congrArg (fun s : Sem Next => s.run P W) (execOp_irrel ..)) (hn _ hmem)
end
end Go.Kx
/- Slices that are made: literals, make, append, slicing; struct and array values. -/
namespace Go.Kx
open Go Go.RowKit

theorem foldl_set (off : Nat) : ∀ (vs : List Value) (i : Nat) (cells : Array Value), off + i + vs.length ≤ cells.size →
    ((vs.zipIdx i).foldl (fun cs (p : Value × Nat) => cs.setIfInBounds (off + p.2) p.1) cells).toList = splice cells.toList (off + i) vs
  | [], i, cells, _ => by simp [splice]
  | v :: vs, i, cells, h => by
    simp only [List.zipIdx_cons, List.foldl_cons, List.length_cons] at h ⊢
    rw [foldl_set off vs (i + 1) _ (by simp; omega)]
    have h1 : off + i < cells.toList.length := by simp; omega
    simp only [Array.toList_setIfInBounds, splice, List.length_cons]
    have e1 : (cells.toList.set (off + i) v).take (off + (i + 1)) = cells.toList.take (off + i) ++ [v] := by
      rw [List.set_eq_take_append_cons_drop, if_pos h1, List.take_append, List.length_take, Nat.min_eq_left (by omega)]
      have e : off + (i + 1) - (off + i) = 1 := by omega
      rw [e, List.take_of_length_le (by rw [List.length_take]; omega)]
      simp
    have e2 : (cells.toList.set (off + i) v).drop (off + (i + 1) + vs.length) = cells.toList.drop (off + i + (vs.length + 1)) := by
      rw [List.drop_set_of_lt (by omega)]; congr 1; omega
    rw [e1, e2]
    simp

def numbered : Nat → List Value → List (Nat × Value)
  | _, [] => []
  | k, v :: vs => (k, v) :: numbered (k + 1) vs

theorem fill_seq (size : Nat) : ∀ (vs : List Value) (m : Nat) (pre post : List Value), (∀ v ∈ vs, v.cells.size = size) → pre.length = m * size → post.length = vs.length * size →
    Instr.fill (fun i => some (i * size, size)) (pre ++ post).toArray (numbered m vs) = some (pre ++ vs.flatMap (fun v => v.cells.toList)).toArray
  | [], m, pre, post, _, _, hpost => by
    have : post = [] := List.eq_nil_of_length_eq_zero (by simpa using hpost)
    subst this
    simp [numbered, Instr.fill]
  | v :: vs, m, pre, post, hv, hpre, hpost => by
    have hs : v.cells.size = size := hv v (by simp)
    simp only [numbered, Instr.fill, hs]
    have hlen : (pre ++ post).toArray.size = m * size + (vs.length + 1) * size := by simp [hpre, hpost]
    rw [if_neg (by rw [hlen, Nat.add_mul]; simp)]
    have hf := foldl_set (m * size) v.cells.toList 0 (pre ++ post).toArray (by rw [hlen, Array.length_toList, hs, Nat.add_mul]; omega)
    have e0 : (v.cells.zipIdx.foldl (fun cs (p : Value × Nat) => cs.setIfInBounds (m * size + p.2) p.1) (pre ++ post).toArray) = (pre ++ v.cells.toList ++ post.drop size).toArray := by
      apply Array.toList_inj.1
      rw [← Array.foldl_toList, Array.toList_zipIdx]
      rw [hf]
      simp only [splice, Nat.add_zero, Array.length_toList, hs]
      rw [List.take_append_of_le_length (by omega), ← hpre, List.take_length, List.drop_append, List.drop_of_length_le (by omega)]
      simp
    have e0' : (Array.foldl (fun cs (x : Value × Nat) => match x with | (c, j) => cs.setIfInBounds (m * size + j) c) (pre ++ post).toArray v.cells.zipIdx) = (pre ++ v.cells.toList ++ post.drop size).toArray := e0
    rw [e0']
    rw [fill_seq size vs (m + 1) (pre ++ v.cells.toList) (post.drop size) (fun w hw => hv w (by simp [hw])) (by simp [hpre, hs, Nat.add_mul]) (by simp [hpost, Nat.add_mul])]
    simp

theorem range_map_list (z : Array Value) (n : Nat) : ∃ post : List Value, (Array.range n).map (z[· % z.size]!) = post.toArray ∧ post.length = n := ⟨((Array.range n).map (z[· % z.size]!)).toList, (Array.toArray_toList ..).symm, by simp⟩

section
variable {ro : Option Nat} {P : Program} {ops : List Oper} {Q : Exit → Act → World → Prop} {rest : List Oper} {n : Nat} {l : Slots} {b : Env} {ds : List Deferred} {W W' w0 : World} {S : List Nat} {H : List En}
  {d : Nat} {op : Op} {T t e : TypeId} {pos : String} {aft : Array Edge} {x y : Operand} {u : TypeDesc}

theorem run_buildSlice {ρ : Operand → Value} {len size by_ : Nat} {zv : Value} {parts : Array (Nat × Operand)} {vs : List Value} (ht : P.underlying t = some (.slice e)) (hti : TI P e zv size by_)
    (hp : (parts.map fun p => (p.1, ρ p.2)).toList = numbered 0 vs) (hl : vs.length = len) (hv : ∀ v ∈ vs, v.cells.size = size) (hm : len * size ≤ 16777216) :
    (execOp ρ ⟨none, .buildSlice t len parts, T, "", #[], none⟩).run P W = .ok (.value (.slice (some ⟨W.heap.size, 0, none⟩) len len)) (W.alloc (.cells (vs.flatMap fun v => v.cells.toList).toArray e)) := by
  obtain ⟨i, hinf, hz, hs, _⟩ := hti.parts
  unfold execOp
  have hp' : Array.toList (Array.map (fun x => match x with | (i, x) => (i, ρ x)) parts) = numbered 0 vs := hp
  have hm' : ¬ len * size > 2 ^ 24 := by omega
  have hfill : ∀ zc : Array Value, Instr.fill (fun i => some (i * size, size)) ((Array.range (len * size)).map (zc[· % zc.size]!)) (numbered 0 vs) = some (vs.flatMap fun v => v.cells.toList).toArray := fun zc => by
    obtain ⟨post, hpost, hlen⟩ := range_map_list zc (len * size)
    rw [hpost]
    have := fill_seq size vs 0 [] post hv (by simp) (by rw [hlen, hl])
    simpa using this
  by_cases h0 : len * size = 0
  · simp only [Instr.buildSlice, Sem.run_bind, Sem.run_pure, run_underlying' P W t _ ht, Result.andThen_ok, sizeOf, run_typeInfo W hinf, hs, if_neg hm', if_pos h0, hp', hfill, newRow, newObj]
    rfl
  · simp only [Instr.buildSlice, Sem.run_bind, Sem.run_pure, run_underlying' P W t _ ht, Result.andThen_ok, sizeOf, zeroValue, hz, run_typeInfo W hinf, hs, if_neg hm', if_neg h0, hp', hfill, newRow, newObj]
    rfl

theorem own_of_alloc {W : World} {xs : List Value} {e : TypeId} {len size : Nat} (hl : xs.length = len * size) (hm : len ≤ maxLen) : (W.alloc (.cells xs.toArray e)).ownsRow 0 e size (.slice (some ⟨W.heap.size, 0, none⟩) len len) len xs :=
  ⟨hl, .inr ⟨W.heap.size, len, xs.toArray, rfl, Nat.zero_le _, heap_alloc_new W _, Nat.le_refl _, hm, by simp [hl], by simp [← hl]⟩⟩

theorem flat_len {size : Nat} : ∀ {vs : List Value}, (∀ v ∈ vs, v.cells.size = size) → (vs.flatMap fun v => v.cells.toList).length = vs.length * size
  | [], _ => by simp
  | v :: vs, h => by
    simp only [List.flatMap_cons, List.length_append, Array.length_toList, List.length_cons]
    rw [h v (by simp), flat_len (fun w hw => h w (by simp [hw])), Nat.add_mul]; omega

theorem wl_buildSlice {len size by_ : Nat} {zv : Value} {parts : Array (Nat × Operand)} (vs : List Value) (hm : Mem w0 S H W) (ht : P.underlying t = some (.slice e)) (hti : TI P e zv size by_)
    (hp : (parts.map fun p => (p.1, ev n l b p.2)).toList = numbered 0 vs) (hl : vs.length = len) (hv : ∀ v ∈ vs, v.cells.size = size) (hlen : len * size ≤ 16777216) (hlen' : len ≤ 16777216)
    (hn : ∀ W' v, Mem w0 S (H ++ [.own e size v len (vs.flatMap fun v => v.cells.toList)]) W' → Upd [] W W' → LW ro P ops Q rest n ((d, v) :: l) b ds W') :
    LW ro P ops Q (⟨some d, .buildSlice t len parts, T, pos, aft, none⟩ :: rest) n l b ds W := by
  refine wl_yw (v := .slice (some ⟨W.heap.size, 0, none⟩) len len) (run_buildSlice ht hti hp hl hv hlen) (hn _ _ ?_ (upd_alloc _ _))
  refine hm.add (upd_alloc _ _) (own_of_alloc (by rw [flat_len hv, hl]) (by unfold maxLen; omega)) (fun b hb => ?_)
  simp only [En.foot, Value.ownBlock, Option.some.injEq] at hb; omega

theorem madeCells_scalar (z : Value) (hz : z.cells = #[z]) (n : Nat) : (madeCells z.cells n).toList = List.replicate n z := by
  apply List.ext_getElem
  · simp [madeCells]
  · intro i h1 h2
    simp only [madeCells, Array.getElem_toList, Array.getElem_map, List.getElem_replicate, hz]
    simp [Nat.mod_one]
theorem wl_make {size by_ : Nat} {zv : Value} {k k' : IntKind} {m c : Int} (hm : Mem w0 S H W) (hx : ev n l b x = .int k m) (hy : ev n l b y = .int k' c) (ht : P.underlying t = some (.slice e)) (hti : TI P e zv size by_)
    (h0 : 0 ≤ m ∧ m ≤ c) (hb : by_ * c.toNat ≤ 281474976710656 ∧ c ≤ 281474976710656)
    (hn : ∀ W' v, Mem w0 S (H ++ [.own e size v m.toNat ((madeCells zv.cells (c.toNat * size)).toList.take (m.toNat * size))]) W' → Upd [] W W' → LW ro P ops Q rest n ((d, v) :: l) b ds W') :
    LW ro P ops Q (⟨some d, .makeSlice t x y, T, pos, aft, none⟩ :: rest) n l b ds W := by
  obtain ⟨i, hinf, hz, hs, hby⟩ := hti.parts
  have hcb : (i.bytes : Int) * c ≤ 281474976710656 := by
    obtain ⟨j, rfl⟩ := Int.eq_ofNat_of_zero_le (show 0 ≤ c by omega)
    rw [hby]; have := hb.1; rw [Int.toNat_natCast] at this
    have h2 : ((by_ * j : Nat) : Int) ≤ 281474976710656 := by omega
    rwa [Int.natCast_mul] at h2
  have hr := run_make (P := P) W t e i zv ht hinf hz k k' m c h0.1 h0.2 hcb (by omega)
  refine wl_yw (v := .slice (some ⟨W.heap.size, 0, none⟩) m.toNat c.toNat) (W' := W.alloc (.cells (madeCells zv.cells (c.toNat * i.size)) e)) ?_ (hn _ _ ?_ (upd_alloc _ _))
  · unfold YW execOp
    simp only [hx, hy, hr, Sem.run_bind, Sem.run_pure, Result.andThen_ok]
  · refine hm.add (upd_alloc _ _) ?_ (fun b hb => ?_)
    · rw [hs]
      refine ⟨?_, .inr ⟨W.heap.size, c.toNat, madeCells zv.cells (c.toNat * size), rfl, Nat.zero_le _, heap_alloc_new W _, by omega, by unfold maxLen; omega, size_madeCells _ _, rfl⟩⟩
      have hle : m.toNat * size ≤ c.toNat * size := Nat.mul_le_mul_right _ (by omega)
      rw [List.length_take, Array.length_toList, size_madeCells, Nat.min_eq_left hle]
    · simp only [En.foot, Value.ownBlock, Option.some.injEq] at hb; omega
theorem wl_makeZ {by_ : Nat} {zv : Value} {k k' : IntKind} {m c : Int} (hm : Mem w0 S H W) (hx : ev n l b x = .int k m) (hy : ev n l b y = .int k' c) (ht : P.underlying t = some (.slice e)) (hti : TI P e zv 1 by_) (hz : zv.cells = #[zv])
    (h0 : 0 ≤ m ∧ m ≤ c) (hb : by_ * c.toNat ≤ 281474976710656 ∧ c ≤ 281474976710656)
    (hn : ∀ W' v, Mem w0 S (H ++ [.own e 1 v m.toNat (List.replicate m.toNat zv)]) W' → Upd [] W W' → LW ro P ops Q rest n ((d, v) :: l) b ds W') :
    LW ro P ops Q (⟨some d, .makeSlice t x y, T, pos, aft, none⟩ :: rest) n l b ds W := by
  refine wl_make hm hx hy ht hti h0 hb (fun W' v hm' hu => hn W' v ?_ hu)
  rw [madeCells_scalar zv hz, Nat.mul_one, Nat.mul_one, List.take_replicate, Nat.min_eq_left (by omega)] at hm'
  exact hm'

theorem grow_row (z : Value) (xs news : List Value) (e : TypeId) (n m size c : Nat) (hzs : z.cells.size = size) (hlen : (xs ++ news).length = (n + m) * size) (hge : n + m ≤ c) (hcm : c ≤ maxLen) (w : World) :
    (w.drew.alloc (.cells (xs.toArray ++ news.toArray ++ Builtin.zeroCells z.cells (c - (n + m))) e)).ownsRow 0 e size (.slice (some ⟨w.heap.size, 0, none⟩) (n + m) c) (n + m) (xs ++ news) := by
  refine ⟨hlen, .inr ⟨w.heap.size, c, _, rfl, Nat.zero_le _, heap_alloc_new w.drew _, hge, hcm, ?_, ?_⟩⟩
  · have : xs.length + news.length = (n + m) * size := by rw [← hlen, List.length_append]
    simp only [Array.size_append, List.size_toArray, size_zeroCells, hzs, this, ← Nat.add_mul]
    congr 1
    omega
  · simp only [Array.toList_append]
    rw [← hlen]
    exact List.take_left

theorem run_append_own' {P : Program} (w : World) (t ty e : TypeId) (i : TypeInfo) (z : Value) (size bytes : Nat) (ht : P.underlying t = some (.slice e)) (hi : P.info? e = some i) (hz : i.zero = some z)
    (hsize : i.size = size) (hby : i.bytes = bytes) (hzs : z.cells.size = size) (hsz : 0 < size)
    (v : Value) (n : Nat) (xs : List Value) (hown : w.ownsRow 0 e size v n xs)
    (a : Addr) (m c : Nat) (news : List Value) (hl : news.length = m * size) (hnews : ∀ j u, news[j]? = some u → w.cell? (a.add j) = some u) (h1 : ∀ u ∈ news, u.oneCell' = true)
    (h63 : n + m ≤ maxLen) (hbytes : (n + m) * bytes ≤ 140737488355328) :
    ∃ v' w', (Builtin.append_ #[t, t] ty #[v, .slice (some a) m c]).run P w = .ok v' w' ∧ w'.ownsRow 0 e size v' (n + m) (xs ++ news) ∧ w.grownBy w' v.ownBlock ∧
      (v' = .slice none 0 0 ↔ v = .slice none 0 0 ∧ m = 0) ∧ (∀ b, v'.ownBlock = some b → v.ownBlock = some b ∨ w.heap.size ≤ b) := by
  subst hsize
  subst hby
  have hsmall : n + m ≤ 9223372036854775807 := by simp only [maxLen] at h63; omega
  have hlen : (xs ++ news).length = (n + m) * i.size := by rw [List.length_append, hown.1, hl, Nat.add_mul]
  have fresh : ∀ (c : Nat) (o : Obj) (row : Option Nat), w.grownBy (w.drew.alloc o) row ∧ (∀ b, (Value.slice (some ⟨w.heap.size, 0, none⟩) (n + m) c).ownBlock = some b → row = some b ∨ w.heap.size ≤ b) :=
    fun c o row => ⟨⟨rfl, rfl, rfl, by simp, fun k hk _ => Below.heap_alloc w.drew _ k hk⟩, fun b hb => by simp only [Value.ownBlock, Option.some.injEq] at hb; omega⟩
  rcases hown.2 with ⟨rfl, rfl⟩ | ⟨g, cap, cur, rfl, hbg, hg, hnc, hcm, hcs, htake⟩
  · have hx : xs = [] := List.eq_nil_of_length_eq_zero (by simpa using hown.1)
    subst hx
    by_cases hm : m = 0
    · subst hm
      have hn : news = [] := List.eq_nil_of_length_eq_zero (by simpa using hl)
      subst hn
      refine ⟨.slice none 0 0, w, ?_, World.ownsRow_nil w 0 e i.size, ⟨rfl, rfl, rfl, Nat.le_refl _, fun _ _ _ => rfl⟩, by simp, by simp [Value.ownBlock]⟩
      simp [Builtin.append_, run_underlying' P w t _ ht, Sem.run_bind, sizeOf, run_typeInfo w hi, Builtin.lenOf, Builtin.firstCells, loadCells, loadCellsFrom]
    · have hr := run_append_nil (P := P) w t ty e i z ht hi hz a m c news hl hnews (by omega) (by omega) (by have hb := hbytes; simp only [Nat.zero_add] at hb; omega)
      have hgr := grow_row z [] news e 0 m i.size (grownCap w (0 + m) 0 e) hzs (by simpa using hlen) (grownCap_ge w (0 + m) 0 e) (grownCap_le_maxLen w (0 + m) 0 e (by simpa using h63)) w
      have hf := fresh (grownCap w (0 + m) 0 e) (.cells (#[] ++ news.toArray ++ Builtin.zeroCells z.cells (grownCap w (0 + m) 0 e - (0 + m))) e) (Value.ownBlock (.slice none 0 0))
      simp only [Nat.zero_add, List.nil_append, Array.empty_append] at hgr hf ⊢
      exact ⟨_, _, hr, hgr, hf.1, by simp [hm], hf.2⟩
  · by_cases hroom : n + m ≤ cap
    · have hfit : n * i.size + news.length ≤ cur.size := by rw [hl, hcs, ← Nat.add_mul]; exact Nat.mul_le_mul_right _ hroom
      have hr := run_append_room (P := P) w t ty e i ht hi g n cap cur hg a m c news hl hnews h1 hroom hfit
      refine ⟨_, _, hr, ⟨hlen, .inr ⟨g, cap, _, rfl, hbg, setRow_heap w g cur _ e _ hg, hroom, hcm, ?_, ?_⟩⟩, ⟨rfl, rfl, rfl, by simp, fun k _ hk => setRow_other w g k _ (fun e => hk (by simp [Value.ownBlock, e]))⟩, by simp, fun b hb => .inl hb⟩
      · simp only [List.size_toArray, List.length_append, List.length_take, List.length_drop, Array.length_toList]
        omega
      · rw [htake, ← hlen]
        exact List.take_left
    · have holds : ∀ j u, xs[j]? = some u → w.cell? ((⟨g, 0, none⟩ : Addr).add j) = some u := hown.cells (g := g) rfl
      have hr := run_append_grow (P := P) w t ty e i z ht hi hz ⟨g, 0, none⟩ n cap xs hown.1 holds a m c news hl hnews (by omega) (by omega) (growslice_fits (by omega) hbytes)
      have hgr := grow_row z xs news e n m i.size (grownCap w (n + m) cap e) hzs hlen (grownCap_ge w (n + m) cap e) (grownCap_le_maxLen w (n + m) cap e h63) w
      have hf := fresh (grownCap w (n + m) cap e) (.cells (xs.toArray ++ news.toArray ++ Builtin.zeroCells z.cells (grownCap w (n + m) cap e - (n + m))) e) (Value.ownBlock (.slice (some ⟨g, 0, none⟩) n cap))
      exact ⟨_, _, hr, hgr, hf.1, by simp, hf.2⟩

theorem wl_append {size by_ : Nat} {zv : Value} {i : Nat} {v w : Value} {m m' : Nat} {xs news : List Value} (hm : Mem w0 S H W) (hx : ev n l b x = v) (hy : ev n l b y = w) (hH : H[i]? = some (.own e size v m xs)) (hs : SlAt W size w m' news)
    (ht : P.underlying t = some (.slice e)) (hti : TI P e zv size by_) (hzs : zv.cells.size = size) (hpos : 0 < size) (h1 : ∀ u ∈ news, u.oneCell' = true) (hb : (m + m') * by_ ≤ 140737488355328 ∧ m + m' ≤ 140737488355328)
    (hn : ∀ W' v', Mem w0 S (H.set i (.own e size v' (m + m') (xs ++ news))) W' → (v' = .slice none 0 0 ↔ v = .slice none 0 0 ∧ m' = 0) → LW ro P ops Q rest n ((d, v') :: l) b ds W') :
    LW ro P ops Q (⟨some d, .call { callee := .builtin .append, args := #[x, y], argTypes := #[t, t] }, T, pos, aft, none⟩ :: rest) n l b ds W := by
  obtain ⟨inf, hinf, hz, hsz, hby⟩ := hti.parts
  have hown : W.ownsRow 0 e size v m xs := hm.at hH
  have key : ∃ v' w', (Builtin.append_ #[t, t] T #[v, w]).run P W = .ok v' w' ∧ w'.ownsRow 0 e size v' (m + m') (xs ++ news) ∧ W.grownBy w' v.ownBlock ∧ (v' = .slice none 0 0 ↔ v = .slice none 0 0 ∧ m' = 0) ∧ (∀ b, v'.ownBlock = some b → v.ownBlock = some b ∨ W.heap.size ≤ b) := by
    obtain ⟨hl, a, cap, rfl, hcap, hc⟩ := hs
    cases a with
    | some ad =>
      by_cases hnews : news = []
      · subst hnews
        exact run_append_own' W t T e inf zv size by_ ht hinf hz hsz hby hzs hpos v m xs hown ad m' cap [] hl (by simp) (by simp) (by unfold maxLen; omega) hb.1
      · have hlen : 0 < news.length := List.length_pos_iff.2 hnews
        obtain ⟨bk, o, he, _⟩ := hc 0 _ (List.getElem?_eq_getElem hlen)
        simp only [Option.some.injEq] at he
        subst he
        refine run_append_own' W t T e inf zv size by_ ht hinf hz hsz hby hzs hpos v m xs hown ⟨bk, o, none⟩ m' cap news hl (fun j u hu => ?_) h1 (by unfold maxLen; omega) hb.1
        obtain ⟨b', o', he', hcell⟩ := hc j u hu
        simp only [Option.some.injEq, Addr.mk.injEq, and_true] at he'
        obtain ⟨rfl, rfl⟩ := he'
        rw [addr_add]; exact hcell
    | none =>
      have hnews : news = [] := by
        cases news with
        | nil => rfl
        | cons u us => obtain ⟨_, _, he, _⟩ := hc 0 u rfl; cases he
      subst hnews
      have hm0 : m' = 0 := by
        simp only [List.length_nil] at hl
        rcases Nat.mul_eq_zero.1 hl.symm with h | h
        · exact h
        · omega
      subst hm0
      refine ⟨v, W, ?_, by simpa using hown, ⟨rfl, rfl, rfl, Nat.le_refl _, fun _ _ _ => rfl⟩, by simp, fun b hb => .inl hb⟩
      obtain ⟨_, ⟨rfl, rfl⟩ | ⟨g, cp, cur, rfl, _, _, hmc, _⟩⟩ := hown
      · simp [Builtin.append_, run_underlying' P W t _ ht, Sem.run_bind, sizeOf, run_typeInfo W hinf, Builtin.lenOf, Builtin.firstCells]
      · simp [Builtin.append_, run_underlying' P W t _ ht, Sem.run_bind, sizeOf, run_typeInfo W hinf, Builtin.lenOf, Builtin.firstCells, hmc, storeCells]
  obtain ⟨v', w', hr, ho, hg, hnil, hfoot⟩ := key
  refine wl_yw (v := v') (W' := w') ?_ (hn _ _ ?_ hnil)
  · unfold YW execOp
    simp only [resolve, invoke, builtin, Sem.run_bind, Sem.run_pure, Result.andThen_ok, List.map_toArray, List.map_cons, List.map_nil, hx, hy, hr]
  · exact hm.turn hH hg.os hg.tape hg.output hg.size (fun k hk hne => hg.block k hk (fun h => hne h.symm)) ho (fun bk hbk => hfoot bk hbk)
end
end Go.Kx
/- Calls, tests that part the walk, regions that draw their order. -/
namespace Go.Kx
open Go Go.RowKit

section
variable {ro : Option Nat} {P : Program} {ops : List Oper} {Q : Exit → Act → World → Prop} {rest : List Oper} {n : Nat} {l : Slots} {b : Env} {ds : List Deferred} {W W' w0 : World} {S : List Nat} {H : List En}
  {d : Nat} {op : Op} {T t e : TypeId} {pos : String} {aft : Array Edge} {x y : Operand} {u : TypeDesc}

theorem wl_split {p : Prop} [Decidable p] (hx : ev n l b x = .bool (decide p)) 
    (h1 : p → LW ro P ops Q rest n ((d, .bool true) :: l) b ds W) (h2 : ¬ p → LW ro P ops Q rest n ((d, .bool false) :: l) b ds W) :
    LW ro P ops Q (⟨some d, .move x, T, pos, aft, none⟩ :: rest) n l b ds W := by
  by_cases h : p
  · exact wl_y (y_move (by rw [hx, decide_eq_true h])) (h1 h)
  · exact wl_y (y_move (by rw [hx, decide_eq_false h])) (h2 h)
theorem wl_splitB {p : Bool} (hx : ev n l b x = .bool p)
    (h1 : p = true → LW ro P ops Q rest n ((d, .bool true) :: l) b ds W) (h2 : p = false → LW ro P ops Q rest n ((d, .bool false) :: l) b ds W) :
    LW ro P ops Q (⟨some d, .move x, T, pos, aft, none⟩ :: rest) n l b ds W := by
  cases p
  · exact wl_y (y_move hx) (h2 rfl)
  · exact wl_y (y_move hx) (h1 rfl)

def HasBody (P : Program) (f : FuncId) : Prop := ∀ args w, (callFunc f args).run P w = .ok (.enter f args) w
theorem hasBody {P : Program} {f : FuncId} {fn : Func} (hf : P.funcs[f]? = some fn) (h1 : (fn.name == "runtime.NumGoroutine") = false) (h2 : fn.body.isNone = false) : HasBody P f := by
  intro args w
  simp only [callFunc, program, Sem.run_bind]
  simp only [Sem.run, hf, Result.andThen_ok, h1, h2, Bool.false_eq_true, if_false]
  rfl

theorem enter_run {ρ : Operand → Value} {f : FuncId} {c : Array Operand} {as : Array TypeId} {args : Array Value} (hb : HasBody P f) (ha : c.map ρ = args) (hfun : ρ x = .func (.func f) #[] #[]) :
    (execOp ρ ⟨none, .call { callee := .value x, args := c, argTypes := as }, T, "", #[], none⟩).run P W = .ok (.enter f args) W := by
  unfold execOp
  simp only [resolve, hfun, ha, Deferred.ofValue, Sem.run_bind, Sem.run_pure, Result.andThen_ok, invoke, Array.empty_append, Array.append_empty, hb args W]
theorem enter_run_cl {ρ : Operand → Value} {f : FuncId} {c : Array Operand} {as : Array TypeId} {args cap : Array Value} (hb : HasBody P f) (ha : c.map ρ = args) (hfun : ρ x = .func (.func f) #[] cap) :
    (execOp ρ ⟨none, .call { callee := .value x, args := c, argTypes := as }, T, "", #[], none⟩).run P W = .ok (.enter f (args ++ cap)) W := by
  unfold execOp
  simp only [resolve, hfun, ha, Deferred.ofValue, Sem.run_bind, Sem.run_pure, Result.andThen_ok, invoke, Array.empty_append, hb _ W]

theorem wl_call {f : FuncId} {c : List Operand} {as : Array TypeId} {al : List Value} {R : Ending → World → Prop} (hb : HasBody P f) (hc : Cl P f al.toArray W R) (hfun : ev n l b x = .func (.func f) #[] #[]) (ha : c.map (ev n l b) = al)
    (hR : ∀ e W'', R e W'' → ∃ v, e = .returned v ∧ LW ro P ops Q rest n ((d, v) :: l) b ds W'') :
    LW ro P ops Q (⟨some d, .call { callee := .value x, args := c.toArray, argTypes := as }, T, pos, aft, none⟩ :: rest) n l b ds W := by
  refine wl_enter (f := f) (args := al.toArray) (W' := W) rfl ?_ (hc.at ro) hR
  rw [← enter_run (T := T) hb (show c.toArray.map (ev n l b) = al.toArray by rw [← ha]; simp) hfun]; exact congrArg (fun s : Sem Next => s.run P W) (execOp_irrel ..)
theorem wl_callCl {f : FuncId} {c : List Operand} {as : Array TypeId} {al cap : List Value} {R : Ending → World → Prop} (hb : HasBody P f) (hc : Cl P f (al ++ cap).toArray W R) (hfun : ev n l b x = .func (.func f) #[] cap.toArray) (ha : c.map (ev n l b) = al)
    (hR : ∀ e W'', R e W'' → ∃ v, e = .returned v ∧ LW ro P ops Q rest n ((d, v) :: l) b ds W'') :
    LW ro P ops Q (⟨some d, .call { callee := .value x, args := c.toArray, argTypes := as }, T, pos, aft, none⟩ :: rest) n l b ds W := by
  refine wl_enter (f := f) (args := (al ++ cap).toArray) (W' := W) rfl ?_ (hc.at ro) hR
  have := enter_run_cl (P := P) (W := W) (T := T) (as := as) hb (show c.toArray.map (ev n l b) = al.toArray by rw [← ha]; simp) hfun
  rw [show (al ++ cap).toArray = al.toArray ++ cap.toArray by simp, ← this]; exact congrArg (fun s : Sem Next => s.run P W) (execOp_irrel ..)

def Ret (w : World) (v : Value) (e : Ending) (w' : World) : Prop := e = .returned v ∧ Upd [] w w'
theorem Ret.of {w w' : World} {v : Value} {H : List En} (hm : Mem w [] H w') : Ret w v (.returned v) w' := ⟨rfl, hm.upd⟩

theorem wl_callR {f : FuncId} {c : List Operand} {as : Array TypeId} {al : List Value} {v : Value} (hm : Mem w0 S H W) (hb : HasBody P f) (hc : Cl P f al.toArray W (Ret W v)) (hfun : ev n l b x = .func (.func f) #[] #[]) (ha : c.map (ev n l b) = al)
    (hR : ∀ W', Mem w0 S H W' → Upd [] W W' → LW ro P ops Q rest n ((d, v) :: l) b ds W') :
    LW ro P ops Q (⟨some d, .call { callee := .value x, args := c.toArray, argTypes := as }, T, pos, aft, none⟩ :: rest) n l b ds W :=
  wl_call hb hc hfun ha (fun _ W'' ⟨h1, h2⟩ => ⟨v, h1, hR W'' (hm.step h2) h2⟩)

theorem wl_callM {f : FuncId} {c : List Operand} {as : Array TypeId} {al : List Value} {R : Value → List En → Prop} (hm : Mem w0 S H W) (hb : HasBody P f) (hc : Cl P f al.toArray W (fun e w' => ∃ v E, e = .returned v ∧ Mem W [] E w' ∧ R v E)) (hfun : ev n l b x = .func (.func f) #[] #[]) (ha : c.map (ev n l b) = al)
    (hR : ∀ W' v E, Mem w0 S (H ++ E) W' → Upd [] W W' → R v E → LW ro P ops Q rest n ((d, v) :: l) b ds W') :
    LW ro P ops Q (⟨some d, .call { callee := .value x, args := c.toArray, argTypes := as }, T, pos, aft, none⟩ :: rest) n l b ds W :=
  wl_call hb hc hfun ha (fun _ W'' ⟨v, E, h1, h2, h3⟩ => ⟨v, h1, hR W'' v E (hm.call h2) h2.upd h3⟩)

theorem wpIn_of_quiet {C : World → Prop} {o : Oper} {a : Act} {K : Act → Prop} {K' : Act → World → Prop} {Q' : Exit → Act → World → Prop} {w : World} (hw : C w) (h : ∀ a w', C w' → K a → K' a w') (hh : o.quiet P a C K) (hnd : notDefer o.op = true) :
    o.wpIn (FR ro) 0 P a w K' Q' := by
  obtain ⟨v, h1, h2⟩ := hh
  have h3 := h1 w hw
  refine ⟨fun f _ => FR_fn ro f, ?_⟩
  rw [semAt_fr _ _ hnd]
  unfold Oper.quietAt at h3
  generalize (execOp a.eval o).run P w = r at *
  cases r with
  | ok n w' =>
    cases n <;> simp only [Oper.quietUpon] at h3 <;> simp only [Oper.uponIn]
    case value u => obtain ⟨rfl, rfl⟩ := h3; exact h _ _ hw h2
    case skip => obtain ⟨rfl, rfl⟩ := h3; exact h _ _ hw h2
    case enter f args =>
      obtain ⟨rfl, hc⟩ := h3
      have hc' : Cl P f args w' (fun e w'' => e = .returned v ∧ C w'') := callsIn_wide.2 hc
      exact ⟨(fun hh => (by cases hh)), hc'.1, fun cs hroom => let ⟨e, w'', fr', r, x⟩ := hc'.2 cs hroom; ⟨e, w'', fr', by obtain ⟨rfl, hw''⟩ := r; exact h _ _ hw'' h2, x⟩⟩
  | halt x w' => simp only [Oper.quietUpon] at h3

def noDefers : List Oper → Bool
  | [] => true
  | o :: l => notDefer o.op && noDefers l
theorem noDefers_at {lo : List Oper} {i : Nat} {o : Oper} (h : noDefers lo = true) (he : lo[i]? = some o) : notDefer o.op = true := by
  induction lo generalizing i with
  | nil => simp at he
  | cons o' l ih =>
    simp only [noDefers, Bool.and_eq_true] at h
    cases i with
    | zero => rw [List.getElem?_cons_zero, Option.some.injEq] at he; rw [← he]; exact h.1
    | succ i => rw [List.getElem?_cons_succ] at he; exact ih h.2 he

theorem wpOpIn_of_qOp {C : World → Prop} {lo : List Oper} {i : Nat} {a : Act} {K : Act → Prop} {K' : Act → World → Prop} {w : World} (hnd : noDefers lo = true) (hC : C w) (h : ∀ a w', C w' → K a → K' a w') (hh : qOp P lo.toArray C i K a) :
    wpOpIn (FR ro) 0 P lo.toArray Q i K' a w := by
  unfold qOp at hh
  unfold wpOpIn
  split
  · rename_i ho; simp only [ho] at hh; exact h _ _ hC hh
  · rename_i o ho
    simp only [ho] at hh
    split
    · rename_i hw; simp only [hw, if_true] at hh; exact wpIn_of_quiet hC h hh (noDefers_at hnd (by simpa using ho))
    · rename_i hw; simp only [hw] at hh; exact ⟨fun f _ => FR_fn ro f, h _ _ hC hh⟩

theorem wpAnyIn_of_quiet {C : World → Prop} {md : Region.Mode} {lo : List Oper} {K : Act → Prop} (hnd : noDefers lo = true) (hQ : ∀ a w, C w → K a → Q .normal a w) : ∀ (fuel : Nat) (listed : Array Bool) (a : Act) (w : World), C w →
    wpAnyQ P md lo.toArray C K fuel listed a → wpAnyIn (FR ro) 0 P md lo.toArray Q fuel listed a w
  | 0, _, _, _, hw, h => ⟨h.1, hQ _ _ hw h.2⟩
  | fuel + 1, _, _, _, hw, h => ⟨fun h0 => hQ _ _ hw (h.1 h0), fun i hi => wpOpIn_of_qOp hnd hw (fun a' w' hw' => wpAnyIn_of_quiet hnd hQ fuel _ a' w' hw') (h.2 i hi)⟩

structure QW (P : Program) (ops : List Oper) (C : World → Prop) (K : Act → Prop) (rest : List Oper) (n : Nat) (l : Slots) (b : Env) (ds : List Deferred) : Prop where
  h : wpQuiet P ops.toArray C K rest (fr n l b ds)

theorem wc_quiet {C : World → Prop} {id : Nat} {lo : List Oper} (hmix : P.follows .mixedOrders = true) (hB : Region.lexB .any lo.toArray = true) (hnd : noDefers lo = true) (hC : C { W with drawn := W.drawn + 1 })
    (h : QW P lo C (fun a' => ∀ w', C w' → Q .normal a' w') lo n l b ds) : CW ro P (.region id lo.toArray true) Q n l b ds W := by
  have h := h.h
  simp only [Region.lexB, Bool.and_eq_true] at hB
  refine ⟨?_⟩
  refine wpIn_region_any hmix (wpAnyIn_of_quiet (K := fun a' => ∀ w', C w' → Q .normal a' w') hnd (fun _ w' hw' h => h w' hw') _ _ _ _ hC ?_)
  have := wpAnyQ_lex (C := C) (md := .any) hB.1 lo 0 (Array.replicate lo.toArray.size false) (fr n l b ds) (by simp) (by simpa using hB.2) h
  simpa using this

section
variable {C : World → Prop} {K : Act → Prop}
theorem q_y {v : Value} (hY : ∀ W, C W → Y P (ev n l b) op T v W) (h : QW P ops C K rest n ((d, v) :: l) b ds) :
    QW P ops C K (⟨some d, op, T, pos, aft, none⟩ :: rest) n l b ds := by
  refine ⟨?_⟩
  unfold wpQuiet
  rw [if_pos (by simp [Region.wanted])]
  refine ⟨v, fun w hw => ?_, by rw [put_fr]; exact h.h⟩
  have hr : (execOp (fr n l b ds).eval ⟨some d, op, T, pos, aft, none⟩).run P w = .ok (.value v) w := by
    rw [eval_fr, ← hY w hw]; exact congrArg (fun s : Sem Next => s.run P w) (execOp_irrel ..)
  unfold Oper.quietAt
  rw [hr]; exact ⟨rfl, rfl⟩
theorem q_call {f : FuncId} {c : List Operand} {as : Array TypeId} {al : List Value} {v : Value} (hb : HasBody P f) (hc : ∀ W, C W → Cl P f al.toArray W (fun e w' => e = .returned v ∧ C w')) (hfun : ev n l b x = .func (.func f) #[] #[]) (ha : c.map (ev n l b) = al)
    (h : QW P ops C K rest n ((d, v) :: l) b ds) :
    QW P ops C K (⟨some d, .call { callee := .value x, args := c.toArray, argTypes := as }, T, pos, aft, none⟩ :: rest) n l b ds := by
  refine ⟨?_⟩
  unfold wpQuiet
  rw [if_pos (by simp [Region.wanted])]
  refine ⟨v, fun w hw => ?_, by rw [put_fr]; exact h.h⟩
  have hr : (execOp (fr n l b ds).eval ⟨some d, .call { callee := .value x, args := c.toArray, argTypes := as }, T, pos, aft, none⟩).run P w = .ok (.enter f al.toArray) w := by
    rw [eval_fr, ← enter_run (T := T) hb (show c.toArray.map (ev n l b) = al.toArray by rw [← ha]; simp) hfun]; exact congrArg (fun s : Sem Next => s.run P w) (execOp_irrel ..)
  unfold Oper.quietAt
  rw [hr]; exact ⟨rfl, (hc w hw).calls⟩
theorem q_callR {f : FuncId} {c : List Operand} {as : Array TypeId} {al : List Value} {v : Value} (hb : HasBody P f) (hc : ∀ W, Mem w0 S H W → Cl P f al.toArray W (Ret W v)) (hfun : ev n l b x = .func (.func f) #[] #[]) (ha : c.map (ev n l b) = al)
    (h : QW P ops (fun W => Mem w0 S H W) K rest n ((d, v) :: l) b ds) :
    QW P ops (fun W => Mem w0 S H W) K (⟨some d, .call { callee := .value x, args := c.toArray, argTypes := as }, T, pos, aft, none⟩ :: rest) n l b ds :=
  q_call hb (fun W hm => (hc W hm).mono fun _ _ ⟨h1, h2⟩ => ⟨h1, hm.step h2⟩) hfun ha h
theorem q_guard_yes {d : Option Nat} {j : Nat} {want : Bool} (hy : yv ops n l b j = some want) (h : QW P ops C K (⟨d, op, T, pos, aft, none⟩ :: rest) n l b ds) :
    QW P ops C K (⟨d, op, T, pos, aft, some (j, want)⟩ :: rest) n l b ds := by
  have h := h.h
  refine ⟨?_⟩
  unfold wpQuiet at h ⊢
  rw [if_pos (by simp [Region.wanted])] at h
  rw [if_pos (by simp only [Region.wanted]; rw [yielded_fr, hy]; exact beq_self_eq_true _)]
  exact h
theorem q_guard_no {d : Option Nat} {j : Nat} {want : Bool} (hy : (yv ops n l b j == some want) = false) (h : QW P ops C K rest n (putO l d undef) b ds) :
    QW P ops C K (⟨d, op, T, pos, aft, some (j, want)⟩ :: rest) n l b ds := by
  refine ⟨?_⟩
  unfold wpQuiet
  rw [if_neg (by simp only [Region.wanted]; rw [yielded_fr, hy]; simp)]
  rw [put_frO]; exact h.h
theorem q_split {p : Prop} [Decidable p] (hx : ev n l b x = .bool (decide p)) (h1 : p → QW P ops C K rest n ((d, .bool true) :: l) b ds) (h2 : ¬ p → QW P ops C K rest n ((d, .bool false) :: l) b ds) :
    QW P ops C K (⟨some d, .move x, T, pos, aft, none⟩ :: rest) n l b ds := by
  by_cases h : p
  · exact q_y (fun _ _ => y_move (by rw [hx, decide_eq_true h])) (h1 h)
  · exact q_y (fun _ _ => y_move (by rw [hx, decide_eq_false h])) (h2 h)
theorem q_nil (h : ∀ W', C W' → DN Q .normal n l b ds W') : QW P ops C (fun a' => ∀ w', C w' → Q .normal a' w') [] n l b ds := ⟨fun w' hw' => (h w' hw').h⟩
end
end
end Go.Kx
/- How lists lie in memory. -/
namespace Go.Kx
open Go Go.RowKit

def ints (zs : List Int) : List Value := zs.map (Value.int .i64)
def bools (bs : List Bool) : List Value := bs.map Value.bool
def strs (ss : List ByteArray) : List Value := ss.map Value.string
def prs (ps : List (Int × Int)) : List Value := ps.flatMap fun p => [.int .i64 p.1, .int .i64 p.2]
def pr (p : Int × Int) (x : Nat) : Int := if x = 0 then p.1 else p.2

@[simp] theorem length_ints (zs : List Int) : (ints zs).length = zs.length := by simp [ints]
@[simp] theorem length_bools (zs : List Bool) : (bools zs).length = zs.length := by simp [bools]
@[simp] theorem length_strs (zs : List ByteArray) : (strs zs).length = zs.length := by simp [strs]
@[simp] theorem length_prs : ∀ (ps : List (Int × Int)), (prs ps).length = ps.length * 2
  | [] => rfl
  | p :: ps => by
    have := length_prs ps
    simp only [prs, List.flatMap_cons, List.length_append, List.length_cons, List.length_nil] at *
    omega

theorem ints_at {zs : List Int} {i : Nat} (h : i < zs.length) : (ints zs)[i]? = some (.int .i64 (zs.getD i 0)) := by simp [ints, List.getD, h]
theorem bools_at {zs : List Bool} {i : Nat} (h : i < zs.length) : (bools zs)[i]? = some (.bool (zs.getD i false)) := by simp [bools, List.getD, h]
theorem strs_at {zs : List ByteArray} {i : Nat} (h : i < zs.length) : (strs zs)[i]? = some (.string (zs.getD i ByteArray.empty)) := by simp [strs, List.getD, h]
theorem ints_atN {zs : List Int} {i : Nat} (h : i < zs.length) : (ints zs)[(i : Int).toNat * 1]? = some (.int .i64 (zs.getD i 0)) := by
  have e : (i : Int).toNat * 1 = i := by simp
  rw [e]; exact ints_at h
theorem bools_atN {zs : List Bool} {i : Nat} (h : i < zs.length) : (bools zs)[(i : Int).toNat * 1]? = some (.bool (zs.getD i false)) := by
  have e : (i : Int).toNat * 1 = i := by simp
  rw [e]; exact bools_at h
theorem strs_atN {zs : List ByteArray} {i : Nat} (h : i < zs.length) : (strs zs)[(i : Int).toNat * 1]? = some (.string (zs.getD i ByteArray.empty)) := by
  have e : (i : Int).toNat * 1 = i := by simp
  rw [e]; exact strs_at h
theorem ints_atI {zs : List Int} {a : Int} (h : 0 ≤ a ∧ a < zs.length) : (ints zs)[a.toNat * 1]? = some (.int .i64 (zs.getD a.toNat 0)) := by
  rw [Nat.mul_one]; exact ints_at (by omega)
theorem bools_atI {zs : List Bool} {a : Int} (h : 0 ≤ a ∧ a < zs.length) : (bools zs)[a.toNat * 1]? = some (.bool (zs.getD a.toNat false)) := by
  rw [Nat.mul_one]; exact bools_at (by omega)
theorem strs_atI {zs : List ByteArray} {a : Int} (h : 0 ≤ a ∧ a < zs.length) : (strs zs)[a.toNat * 1]? = some (.string (zs.getD a.toNat ByteArray.empty)) := by
  rw [Nat.mul_one]; exact strs_at (by omega)

theorem prs_at : ∀ {ps : List (Int × Int)} {i x : Nat}, i < ps.length → x < 2 → (prs ps)[i * 2 + x]? = some (.int .i64 (pr (ps.getD i (0, 0)) x))
  | p :: ps, 0, x, _, hx => by
    rcases x with _ | _ | x
    · simp [prs, pr]
    · simp [prs, pr]
    · omega
  | p :: ps, i + 1, x, hi, hx => by
    have ih := prs_at (ps := ps) (i := i) (x := x) (by simpa using hi) hx
    have e : (i + 1) * 2 + x = (i * 2 + x) + 2 := by omega
    rw [e]
    simp only [prs, List.flatMap_cons, List.cons_append, List.nil_append, List.getElem?_cons_succ, List.getD_cons_succ] at ih ⊢
    exact ih
theorem prs_atN {ps : List (Int × Int)} {i x : Nat} (hi : i < ps.length) (hx : x < 2) : (prs ps)[(i : Int).toNat * 2 + (x : Int).toNat * 1]? = some (.int .i64 (pr (ps.getD i (0, 0)) x)) := by
  have e : (i : Int).toNat * 2 + (x : Int).toNat * 1 = i * 2 + x := by simp
  rw [e]; exact prs_at hi hx
theorem prs_at0 {ps : List (Int × Int)} {i : Nat} (hi : i < ps.length) : (prs ps)[(i : Int).toNat * 2 + (0 : Int).toNat * 1]? = some (.int .i64 (ps.getD i (0, 0)).1) := prs_atN (x := 0) hi (by decide)
theorem prs_at1 {ps : List (Int × Int)} {i : Nat} (hi : i < ps.length) : (prs ps)[(i : Int).toNat * 2 + (1 : Int).toNat * 1]? = some (.int .i64 (ps.getD i (0, 0)).2) := prs_atN (x := 1) hi (by decide)
theorem prs_atI {ps : List (Int × Int)} {a : Int} {x : Nat} (hi : 0 ≤ a ∧ a < ps.length) (hx : x < 2) : (prs ps)[a.toNat * 2 + (x : Int).toNat * 1]? = some (.int .i64 (pr (ps.getD a.toNat (0, 0)) x)) := by
  have e : (x : Int).toNat * 1 = x := by simp
  rw [e]; exact prs_at (by omega) hx
theorem prs_pair {ps : List (Int × Int)} {i : Nat} (hi : i < ps.length) : ∀ (j : Nat) (w : Value), [Value.int .i64 (ps.getD i (0, 0)).1, Value.int .i64 (ps.getD i (0, 0)).2][j]? = some w → (prs ps)[(i : Int).toNat * 2 + j]? = some w := by
  intro j w hj
  have e : (i : Int).toNat * 2 = i * 2 := by simp
  rw [e]
  rcases j with _ | _ | j
  · rw [prs_at hi (by decide)]; simpa [pr] using hj
  · rw [prs_at hi (by decide)]; simpa [pr] using hj
  · simp at hj

theorem strs_append (a b : List ByteArray) : strs a ++ strs b = strs (a ++ b) := by simp [strs]
theorem ints_set (a : List Int) (i : Nat) (z : Int) : (ints a).set i (.int .i64 z) = ints (a.set i z) := by simp [ints, List.map_set]
theorem bools_set (a : List Bool) (i : Nat) (z : Bool) : (bools a).set i (.bool z) = bools (a.set i z) := by simp [bools, List.map_set]
theorem ints_rep (n : Nat) : List.replicate n (Value.int .i64 0) = ints (List.replicate n 0) := by simp [ints]
theorem bools_rep (n : Nat) : List.replicate n (Value.bool false) = bools (List.replicate n false) := by simp [bools]
theorem ints_one (zs : List Int) : ∀ u ∈ ints zs, u.oneCell' = true := by intro u hu; simp only [ints, List.mem_map] at hu; obtain ⟨z, _, rfl⟩ := hu; rfl
theorem ints_snoc (zs : List Int) (a : Int) : ints zs ++ [.int .i64 a] = ints (zs ++ [a]) := by simp [ints]
theorem strs_snoc (zs : List ByteArray) (a : ByteArray) : strs zs ++ [.string a] = strs (zs ++ [a]) := by simp [strs]
theorem prs_snoc (zs : List (Int × Int)) (a c : Int) : prs zs ++ [.int .i64 a, .int .i64 c] = prs (zs ++ [(a, c)]) := by simp [prs]
def byt (s : ByteArray) (i : Nat) : Nat := (s.data.toList.getD i 0).toNat
section
variable {ro : Option Nat} {P : Program} {ops : List Oper} {Q : Exit → Act → World → Prop} {rest : List Oper} {n : Nat} {l : Slots} {b : Env} {ds : List Deferred} {W W' w0 : World} {S : List Nat} {H : List En}
  {d : Nat} {op : Op} {T t e : TypeId} {pos : String} {aft : Array Edge} {x y : Operand} {u : TypeDesc} {ρ : Operand → Value}

theorem Mem.take {w0 W : World} {S : List Nat} {H : List En} (h : Mem w0 S H W) (k : Nat) : Mem w0 S (H.take k) W := h.sub (List.take_sublist k H)
theorem Mem.drop {w0 W : World} {S : List Nat} {H : List En} (h : Mem w0 S H W) (k : Nat) : Mem w0 S (H.drop k) W := h.sub (List.drop_sublist k H)
theorem Mem.erase {w0 W : World} {S : List Nat} {H : List En} (h : Mem w0 S H W) (k : Nat) : Mem w0 S (H.eraseIdx k) W := h.sub (List.eraseIdx_sublist H k)

theorem y_indexStr {s : ByteArray} {k : IntKind} {i : Nat} (h : ρ x = .string s) (hi : ρ y = .int k (i : Int)) (hb : i < s.size) (ht : P.underlying t = some .string) : Y P ρ (.index t x y) T (.int .u8 (byt s i : Int)) W := by
  unfold Y execOp
  have hg : s[i]? = some s[i] := by simp [hb]
  simp only [h, hi, Instr.index, asIntOf, Sem.run_bind, Sem.run_pure, Result.andThen_ok, run_underlying' P W t _ ht, Int.natCast_nonneg, if_true, Int.toNat_natCast, hg]
  have : byt s i = s[i].toNat := by
    unfold byt
    have hb' : i < s.data.size := hb
    have e : s.data.toList.getD i 0 = s.data[i] := by rw [List.getD, Array.getElem?_toList, Array.getElem?_eq_getElem hb']; rfl
    rw [e]; rfl
  rw [this]
theorem y_subU8 {a c : Int} {t' : TypeId} (hx : ρ x = .int .u8 a) (hy : ρ y = .int .u8 c) (h : 0 ≤ a - c ∧ a - c ≤ 255) : Y P ρ (.binOp .sub t x y t') T (.int .u8 (a - c)) W := by
  have := y_sub (P := P) (T := T) (W := W) (t := t) (t' := t') hx hy; rwa [IntWalk.u8_in _ h] at this

theorem y_sub97 {m : Nat} {t' : TypeId} (hx : ρ x = .int .u8 (m : Int)) (hy : ρ y = .int .u8 97) (h : 97 ≤ m ∧ m < 256) : Y P ρ (.binOp .sub t x y t') T (.int .u8 ((m - 97 : Nat) : Int)) W := by
  have := y_subU8 (P := P) (T := T) (W := W) (t := t) (t' := t') hx hy (by omega)
  have e : (m : Int) - 97 = ((m - 97 : Nat) : Int) := by omega
  rwa [e] at this
theorem y_loadPair {i m : Nat} {v zv : Value} {by_ : Nat} {ps : List (Int × Int)} (h : ρ x = ptrAt v ((i : Int).toNat * 2)) (hs : SlAt W 2 v m (prs ps)) (hi : i < ps.length) (hu : P.underlying t = some u) (ha : aggD u = true) (hti : TI P t zv 2 by_) :
    Y P ρ (.load t x) T (.agg #[.int .i64 (ps.getD i (0, 0)).1, .int .i64 (ps.getD i (0, 0)).2]) W :=
  y_loadSlAgg (vs := [.int .i64 (ps.getD i (0, 0)).1, .int .i64 (ps.getD i (0, 0)).2]) h hs (by rw [length_prs]; simp; omega) (prs_pair hi) hu ha hti

theorem y_loadBlk {bk : Nat} {T' : TypeId} {xs : List Value} {zv : Value} {by_ : Nat} (h : ρ x = .pointer (some ⟨bk, 0, none⟩)) (hB : (En.blk bk T' xs).holds W) (hu : P.underlying t = some u) (ha : aggD u = true) (hti : TI P t zv xs.length by_) :
    Y P ρ (.load t x) T (.agg xs.toArray) W :=
  y_loadAgg h (fun j w hj => by rw [Nat.zero_add]; exact blk_cell hB hj) hu ha hti

theorem y_build2A {v w zv : Value} {by_ : Nat} {x y : Operand} (hx : ρ x = v) (hy : ρ y = w) (ht : P.underlying t = some (.array 2 e)) (hz : TI P t (.agg #[zv, zv]) 2 by_) (hte : ∃ b', TI P e zv 1 b') (h1 : v.cells = #[v]) (h2 : w.cells = #[w]) :
    Y P ρ (.build t #[(0, x), (1, y)]) T (.agg #[v, w]) W := by
  obtain ⟨i, hi, hzz, _, _⟩ := hz.parts
  obtain ⟨b', hte⟩ := hte
  obtain ⟨j, hj, _, hs, _⟩ := hte.parts
  unfold Y execOp
  have hf := fill_seq 1 [v, w] 0 [] [zv, zv] (by simp [h1, h2]) (by simp) (by simp)
  simp only [List.nil_append, List.flatMap_cons, List.flatMap_nil, h1, h2, List.append_nil, List.cons_append, numbered] at hf
  simp only [Instr.build, Sem.run_bind, Sem.run_pure, Result.andThen_ok, zeroValue, run_typeInfo W hi, hzz, run_underlying' P W t _ ht, sizeOf, run_typeInfo W hj, hs, hx, hy, Value.cells, List.map_toArray, List.map_cons, List.map_nil, hf]

theorem wl_store1 {i g j : Nat} {T' : TypeId} {xs : List Value} {v zv : Value} {by_ : Nat} (hm : Mem w0 S H W) (h : ev n l b x = .pointer (some ⟨g, j, none⟩)) (hy : ev n l b y = v) (hH : H[i]? = some (.blk g T' xs))
    (hi : TI P t zv 1 by_) (hj : j < xs.length) (hv : v.cells = #[v]) (h1 : v.oneCell' = true)
    (hn : ∀ W', Mem w0 S (H.set i (.blk g T' (xs.set j v))) W' → LW ro P ops Q rest n l b ds W') :
    LW ro P ops Q (⟨none, .store t x y, T, pos, aft, none⟩ :: rest) n l b ds W :=
  wl_store (vs := [v]) hm h hy hv hH hi rfl (by simp; omega) (by simpa using h1) (fun W' hm' => hn W' (by rwa [splice_one hj] at hm'))
theorem wl_storeBlk {i g : Nat} {T' : TypeId} {xs vs : List Value} {zv : Value} {size by_ : Nat} (hm : Mem w0 S H W) (h : ev n l b x = .pointer (some ⟨g, 0, none⟩)) (hy : ev n l b y = .agg vs.toArray) (hH : H[i]? = some (.blk g T' xs))
    (hi : TI P t zv size by_) (hl : vs.length = size) (hl' : xs.length = size) (h1 : ∀ w ∈ vs, w.oneCell' = true)
    (hn : ∀ W', Mem w0 S (H.set i (.blk g T' vs)) W' → LW ro P ops Q rest n l b ds W') :
    LW ro P ops Q (⟨none, .store t x y, T, pos, aft, none⟩ :: rest) n l b ds W :=
  wl_store (vs := vs) hm h hy rfl hH hi hl (by omega) h1 (fun W' hm' => hn W' (by rwa [splice_all (by omega)] at hm'))
theorem wl_storeOwn1 {i j : Nat} {e' : TypeId} {size' n' : Nat} {v' : Value} {xs : List Value} {v zv : Value} {by_ : Nat} (hm : Mem w0 S H W) (h : ev n l b x = ptrAt v' j) (hy : ev n l b y = v) (hH : H[i]? = some (.own e' size' v' n' xs))
    (hi : TI P t zv 1 by_) (hj : j < xs.length) (hv : v.cells = #[v]) (h1 : v.oneCell' = true)
    (hn : ∀ W', Mem w0 S (H.set i (.own e' size' v' n' (xs.set j v))) W' → LW ro P ops Q rest n l b ds W') :
    LW ro P ops Q (⟨none, .store t x y, T, pos, aft, none⟩ :: rest) n l b ds W :=
  wl_storeOwn (vs := [v]) hm h hy hv hH hi rfl (by decide) (by simp; omega) (by simpa using h1) (fun W' hm' => hn W' (by rwa [splice_one hj] at hm'))

theorem wl_lit1 {size by_ : Nat} {zv v : Value} {x : Operand} (hm : Mem w0 S H W) (hx : ev n l b x = v) (ht : P.underlying t = some (.slice e)) (hti : TI P e zv size by_) (hv : v.cells.size = size) (hs : size ≤ 16777216)
    (hn : ∀ W' v', Mem w0 S (H ++ [.own e size v' 1 v.cells.toList]) W' → Upd [] W W' → LW ro P ops Q rest n ((d, v') :: l) b ds W') :
    LW ro P ops Q (⟨some d, .buildSlice t 1 #[(0, x)], T, pos, aft, none⟩ :: rest) n l b ds W :=
  wl_buildSlice [v] hm ht hti (by simp [numbered, hx]) rfl (by simpa using hv) (by omega) (by decide) (fun W' v' hm' hu => hn W' v' (by simpa using hm') hu)
theorem wl_lit2 {by_ : Nat} {zv v w : Value} {x y : Operand} (hm : Mem w0 S H W) (hx : ev n l b x = v) (hy : ev n l b y = w) (ht : P.underlying t = some (.slice e)) (hti : TI P e zv 1 by_) (hv : v.cells = #[v]) (hw : w.cells = #[w])
    (hn : ∀ W' v', Mem w0 S (H ++ [.own e 1 v' 2 [v, w]]) W' → Upd [] W W' → LW ro P ops Q rest n ((d, v') :: l) b ds W') :
    LW ro P ops Q (⟨some d, .buildSlice t 2 #[(0, x), (1, y)], T, pos, aft, none⟩ :: rest) n l b ds W :=
  wl_buildSlice [v, w] hm ht hti (by simp [numbered, hx, hy]) rfl (by simp [hv, hw]) (by decide) (by decide) (fun W' v' hm' hu => hn W' v' (by simpa [hv, hw] using hm') hu)

theorem wl_appendTo {size by_ : Nat} {zv : Value} {i : Nat} {v w : Value} {m m' : Nat} {xs news ys : List Value} (hm : Mem w0 S H W) (hx : ev n l b x = v) (hy : ev n l b y = w) (hH : H[i]? = some (.own e size v m xs)) (hs : SlAt W size w m' news) (hys : xs ++ news = ys)
    (ht : P.underlying t = some (.slice e)) (hti : TI P e zv size by_) (hzs : zv.cells.size = size) (hpos : 0 < size) (h1 : ∀ u ∈ news, u.oneCell' = true) (hb : (m + m') * by_ ≤ 140737488355328 ∧ m + m' ≤ 140737488355328)
    (hn : ∀ W' v', Mem w0 S (H.set i (.own e size v' (m + m') ys)) W' → (v' = .slice none 0 0 ↔ v = .slice none 0 0 ∧ m' = 0) → LW ro P ops Q rest n ((d, v') :: l) b ds W') :
    LW ro P ops Q (⟨some d, .call { callee := .builtin .append, args := #[x, y], argTypes := #[t, t] }, T, pos, aft, none⟩ :: rest) n l b ds W :=
  wl_append hm hx hy hH hs ht hti hzs hpos h1 hb (fun W' v' hm' hi => hn W' v' (by rwa [hys] at hm') hi)
theorem Mem.ownNil {w0 W : World} {S : List Nat} {H : List En} (hm : Mem w0 S H W) (e : TypeId) (size : Nat) : Mem w0 S (H ++ [.own e size (.slice none 0 0) 0 []]) W :=
  hm.add (Upd.refl _ _) (World.ownsRow_nil W 0 e size) (by simp [En.foot, Value.ownBlock])
end
end Go.Kx
/- Comparisons of values of several cells, of strings, of slices with nil; calls of function values. -/
namespace Go.Kx
open Go Go.RowKit

section
variable {ro : Option Nat} {P : Program} {ops : List Oper} {Q : Exit → Act → World → Prop} {rest : List Oper} {n : Nat} {l : Slots} {b : Env} {ds : List Deferred} {W W' w0 : World} {S : List Nat} {H : List En}
  {d : Nat} {op : Op} {T t t' e : TypeId} {pos : String} {aft : Array Edge} {x y : Operand} {u : TypeDesc} {ρ : Operand → Value} {k : IntKind}

theorem part_one (W : World) {e : TypeId} {u : TypeDesc} {cs : Array Value} {o : Nat} {v : Value} (hu : P.underlying e = some u) (ha : aggD u = false) (hv : cs[o]? = some v) : (part e cs o).run P W = .ok v W := by
  simp only [part, Sem.run_bind, run_isAgg W e hu, Result.andThen_ok, ha, Bool.false_eq_true, if_false, hv, Sem.run_pure]

theorem equal_pairA (W : World) {zv : Value} {by_ : Nat} {a c a' c' : Int} (ht : P.underlying t = some (.array 2 e)) (hte : TI P e zv 1 by_) (he : P.underlying e = some (.int k)) :
    (Op.equal t (.agg #[.int k a, .int k c]) (.agg #[.int k a', .int k c'])).run P W = .ok (decide (a = a' ∧ c = c')) W := by
  obtain ⟨i, hi, _, hs, _⟩ := hte.parts
  have hc : P.cellsOf e = 1 := by simp [Program.cellsOf, hi, hs]
  have h1 : ∀ (cs : Array Value) (o : Nat) (v : Value), cs[o]? = some v → (part e cs o).run P W = .ok v W := fun cs o v => part_one W he rfl
  have hr : List.range 2 = [0, 1] := rfl
  show (Op.equalIn (9999 + 1) t _ _).run P W = _
  rw [run_equalIn_array W 9999 _ _ ht hi, hr, hc]
  have q1 := h1 #[.int k a, .int k c] (0 * 1) (.int k a) rfl
  have q2 := h1 #[.int k a', .int k c'] (0 * 1) (.int k a') rfl
  have q3 := h1 #[.int k a, .int k c] (1 * 1) (.int k c) rfl
  have q4 := h1 #[.int k a', .int k c'] (1 * 1) (.int k c') rfl
  simp only [Op.eqItems, Sem.run_bind, q1, q2, Result.andThen_ok, run_equalIn_int W 9998 e k k _ _ he]
  by_cases h : a = a'
  · have hb : (a == a') = true := by simp [h]
    simp only [hb, Bool.not_true, Bool.false_eq_true, if_false, Sem.run_bind, q3, q4, Result.andThen_ok, run_equalIn_int W 9998 e k k _ _ he]
    by_cases h' : c = c' <;> simp [h, h']
  · simp [h]

theorem equal_pairS (W : World) {fs : Array Field} {t1 t2 : TypeId} {a c a' c' : Int} (ht : P.underlying t = some (.struct fs)) (hp : P.stoodInHeld t = false) (hf : fs.toList.map (fun f => (f.name == "_", f.type, f.offset)) = [(false, t1, 0), (false, t2, 1)]) (h1 : P.underlying t1 = some (.int k)) (h2 : P.underlying t2 = some (.int k)) :
    (Op.equal t (.agg #[.int k a, .int k c]) (.agg #[.int k a', .int k c'])).run P W = .ok (decide (a = a' ∧ c = c')) W := by
  have hfo : P.fieldsOf t = fs := by simp [Program.fieldsOf, ht]
  show (Op.equalIn (9999 + 1) t _ _).run P W = _
  rw [run_equalIn_struct W 9999 t _ _ (by rw [hfo]; exact ht) hp, hfo]
  rcases hfs : fs.toList with _ | ⟨f, _ | ⟨g, _ | ⟨z, zs⟩⟩⟩
  · rw [hfs] at hf; simp at hf
  · rw [hfs] at hf; simp at hf
  · rw [hfs] at hf
    simp only [List.map_cons, List.map_nil, List.cons.injEq, Prod.mk.injEq, and_true] at hf
    obtain ⟨⟨n1, rfl, o1⟩, n2, rfl, o2⟩ := hf
    have m1 : f.name ≠ "_" := by simpa using n1
    have m2 : g.name ≠ "_" := by simpa using n2
    have p1 : ∀ (cs : Array Value) (o : Nat) (v : Value), cs[o]? = some v → (part f.type cs o).run P W = .ok v W := fun cs o v => part_one W h1 rfl
    have p2 : ∀ (cs : Array Value) (o : Nat) (v : Value), cs[o]? = some v → (part g.type cs o).run P W = .ok v W := fun cs o v => part_one W h2 rfl
    have q1 := p1 #[.int k a, .int k c] 0 (.int k a) rfl
    have q2 := p1 #[.int k a', .int k c'] 0 (.int k a') rfl
    have q3 := p2 #[.int k a, .int k c] 1 (.int k c) rfl
    have q4 := p2 #[.int k a', .int k c'] 1 (.int k c') rfl
    simp only [Op.eqFields, Sem.run_bind, Sem.run_ite, ne_eq, m1, m2, not_false_eq_true, if_true, o1, o2, q1, q2, Result.andThen_ok, run_equalIn_int W 9998 _ k k _ _ h1]
    by_cases h : a = a'
    · have hb : (a == a') = true := by simp [h]
      simp only [hb, Bool.not_true, Bool.false_eq_true, if_false, q3, q4, Result.andThen_ok, run_equalIn_int W 9998 _ k k _ _ h2]
      by_cases h' : c = c' <;> simp [h, h']
    · simp [h]
  · rw [hfs] at hf; simp at hf

theorem y_eqlAgg {xs ys : Array Value} {r : Bool} (hx : ρ x = .agg xs) (hy : ρ y = .agg ys) (hg : P.eqGuardType P.depth t = false) (he : (Op.equal t (.agg xs) (.agg ys)).run P W = .ok r W) : Y P ρ (.binOp .eql t x y t') T (.bool r) W := by
  unfold Y execOp
  simp only [hx, hy, Sem.run_bind, run_eqGuard_agg W .eql t x y xs ys hg, Result.andThen_ok, run_eql_struct, Sem.run_pure]
  have he' : (Op.equalIn 10000 t (.agg xs) (.agg ys)).run P W = .ok r W := he
  rw [he']; rfl
theorem y_eqlPair {zv : Value} {by_ : Nat} {a c a' c' : Int} (hx : ρ x = .agg #[.int k a, .int k c]) (hy : ρ y = .agg #[.int k a', .int k c']) (hg : P.eqGuardType P.depth t = false) (ht : P.underlying t = some (.array 2 e)) (hte : TI P e zv 1 by_) (he : P.underlying e = some (.int k)) :
    Y P ρ (.binOp .eql t x y t') T (.bool (decide (a = a' ∧ c = c'))) W := y_eqlAgg hx hy hg (equal_pairA W ht hte he)
theorem y_eqlPairS {fs : Array Field} {t1 t2 : TypeId} {a c a' c' : Int} (hx : ρ x = .agg #[.int k a, .int k c]) (hy : ρ y = .agg #[.int k a', .int k c']) (hg : P.eqGuardType P.depth t = false) (ht : P.underlying t = some (.struct fs)) (hp : P.stoodInHeld t = false)
    (hf : fs.toList.map (fun f => (f.name == "_", f.type, f.offset)) = [(false, t1, 0), (false, t2, 1)]) (h1 : P.underlying t1 = some (.int k)) (h2 : P.underlying t2 = some (.int k)) :
    Y P ρ (.binOp .eql t x y t') T (.bool (decide (a = a' ∧ c = c'))) W := y_eqlAgg hx hy hg (equal_pairS W ht hp hf h1 h2)

theorem y_eqlB {p q : Bool} (hx : ρ x = .bool p) (hy : ρ y = .bool q) (ht : P.underlying t = some .bool) : Y P ρ (.binOp .eql t x y t') T (.bool (decide (p = q))) W := by
  unfold Y execOp
  have e : (p == q) = decide (p = q) := by cases p <;> cases q <;> rfl
  simp only [hx, hy, eqGuard_at_bool, Sem.run_bind, Sem.run_pure, Result.andThen_ok, run_eql_bool W t p q ht, e]
theorem y_neqB {p q : Bool} (hx : ρ x = .bool p) (hy : ρ y = .bool q) (ht : P.underlying t = some .bool) : Y P ρ (.binOp .neq t x y t') T (.bool (decide (¬ p = q))) W := by
  unfold Y execOp
  have e : (!(p == q)) = decide (¬ p = q) := by cases p <;> cases q <;> rfl
  simp only [hx, hy, eqGuard_at_bool, Sem.run_bind, Sem.run_pure, Result.andThen_ok, run_neq_bool W t p q ht, e]
theorem toList_inj {a c : ByteArray} : (a.toList == c.toList) = decide (a = c) := by
  by_cases h : a = c
  · subst h; simp
  · have : a.toList ≠ c.toList := fun h' => h (by
      rw [ByteArray.toList_eq, ByteArray.toList_eq] at h'
      obtain ⟨⟨a⟩⟩ := a; obtain ⟨⟨c⟩⟩ := c
      simp only at h'; rw [h'])
    simp [h, this]
theorem y_neqStr {a c : ByteArray} (hx : ρ x = .string a) (hy : ρ y = .string c) : Y P ρ (.binOp .neq t x y t') T (.bool (decide (¬ a = c))) W := by
  unfold Y execOp
  have e : (!decide (a = c)) = decide (¬ a = c) := by simp
  simp only [hx, hy, eqGuard_at_string, Sem.run_bind, Sem.run_pure, Result.andThen_ok, binOp_string_neq, toList_inj, e]
theorem enter_run_first {f : FuncId} {c : Array Operand} {as : Array TypeId} {args first : Array Value} (hb : HasBody P f) (ha : c.map ρ = args) (hfun : ρ x = .func (.func f) first #[]) :
    (execOp ρ ⟨none, .call { callee := .value x, args := c, argTypes := as }, T, "", #[], none⟩).run P W = .ok (.enter f (first ++ args)) W := by
  unfold execOp
  simp only [resolve, hfun, ha, Deferred.ofValue, Sem.run_bind, Sem.run_pure, Result.andThen_ok, invoke, Array.append_empty, hb _ W]
theorem wl_callFirst {f : FuncId} {c : List Operand} {as : Array TypeId} {al first : List Value} {v : Value} (hm : Mem w0 S H W) (hb : HasBody P f) (hc : Cl P f (first ++ al).toArray W (Ret W v)) (hfun : ev n l b x = .func (.func f) first.toArray #[]) (ha : c.map (ev n l b) = al)
    (hR : ∀ W', Mem w0 S H W' → Upd [] W W' → LW ro P ops Q rest n ((d, v) :: l) b ds W') :
    LW ro P ops Q (⟨some d, .call { callee := .value x, args := c.toArray, argTypes := as }, T, pos, aft, none⟩ :: rest) n l b ds W := by
  refine wl_enter (f := f) (args := (first ++ al).toArray) (W' := W) rfl ?_ (hc.at ro) (fun _ W'' ⟨h1, h2⟩ => ⟨v, h1, hR W'' (hm.step h2) h2⟩)
  have := enter_run_first (P := P) (W := W) (T := T) (as := as) hb (show c.toArray.map (ev n l b) = al.toArray by rw [← ha]; simp) hfun
  rw [show (first ++ al).toArray = first.toArray ++ al.toArray by simp, ← this]; exact congrArg (fun s : Sem Next => s.run P W) (execOp_irrel ..)
end
end Go.Kx
/- Strings: iterators, parts, conversions; functions without a body; labels. -/
namespace Go.Kx
open Go Go.RowKit

section
variable {ro : Option Nat} {P : Program} {ops : List Oper} {Q : Exit → Act → World → Prop} {rest : List Oper} {n : Nat} {l : Slots} {b : Env} {ds : List Deferred} {W W' w0 : World} {S : List Nat} {H : List En}
  {d : Nat} {op : Op} {T t t' e : TypeId} {pos : String} {aft : Array Edge} {x y z : Operand} {u : TypeDesc} {ρ : Operand → Value} {k : IntKind}

theorem wc_label {lb : Nat} (h : DN Q .normal n l b ds W) : CW ro P (.label lb) Q n l b ds W := ⟨wpIn_label h.h⟩

def Ext (P : Program) (f : FuncId) (args : Array Value) (v : Value) : Prop := ∀ W, (callFunc f args).run P W = .ok (.value v) W
theorem y_ext {f : FuncId} {c : List Operand} {as : Array TypeId} {al : List Value} {v : Value} (hfun : ρ x = .func (.func f) #[] #[]) (ha : c.map ρ = al) (hx : Ext P f al.toArray v) :
    Y P ρ (.call { callee := .value x, args := c.toArray, argTypes := as }) T v W := by
  unfold Y execOp
  have ha' : c.toArray.map ρ = al.toArray := by rw [← ha]; simp
  simp only [resolve, hfun, ha', Deferred.ofValue, Sem.run_bind, Sem.run_pure, Result.andThen_ok, invoke, Array.empty_append, Array.append_empty, hx W]
theorem ext_indexByte {f : FuncId} {fn : Func} (hf : P.funcs[f]? = some fn) (hname : (fn.name == "runtime.NumGoroutine") = false) (hb : fn.body.isNone = true) (hn : Extern.findNext fn = none) (he : Extern.find fn = some Extern.BytealgIndexByte.indexByte) (s : ByteArray) (c : Int) :
    Ext P f #[.string s, .int .u8 c] (.int .i64 (Lib.indexByte s.data.toList c.toNat.toUInt8)) := fun W => by
  rw [run_callFunc_extern hf hname hb hn he, Lib.run_indexByteString]; rfl

theorem y_convIntStr {c : Int} (h : ρ x = .int k c) (hs : P.underlying t = some u) (hd : P.underlying t' = some .string) : Y P ρ (.convert t t' x) T (.string (Utf8.encode c)) W := by
  unfold Y execOp
  simp only [h, run_convert_int_string W t t' k c (by rw [hs]; rfl) hd, Sem.run_bind, Sem.run_pure, Result.andThen_ok]

theorem run_sliceBound' (W : World) (k : IntKind) (i : Int) (y : Nat) (code : BoundsCode) (h0 : 0 ≤ i) (h1 : i ≤ y) : (Instr.sliceBound (.int k i) y code).run P W = .ok i.toNat W := by
  unfold Instr.sliceBound
  have : 0 ≤ i ∧ i ≤ (y : Int) := ⟨h0, h1⟩
  simp only [asIntOf, Sem.run_bind, Sem.run_pure, Result.andThen_ok]
  rw [if_pos this]; rfl
theorem y_sliceStrL {s : ByteArray} {h : Int} (hx : ρ x = .string s) (hy : ρ y = .int k h) (hb : 0 ≤ h ∧ h ≤ s.size) (ht : P.underlying t = some .string) : Y P ρ (.slice t x (some y) none none) T (.string (s.extract h.toNat s.size)) W := by
  unfold Y execOp
  simp only [hx, hy, Option.map_some, Option.map_none, Instr.sliceAt, Sem.run_bind, Sem.run_pure, Result.andThen_ok, run_underlying' P W t _ ht, Instr.slice, Instr.sliceBounds, Option.isSome_none, Bool.false_eq_true, if_false, run_sliceBound' W k h _ _ hb.1 hb.2]

theorem y_makeFuncL {f : Fn} {as bs : List Operand} {vs ws : List Value} (h1 : as.map ρ = vs) (h2 : bs.map ρ = ws) : Y P ρ (.makeFunc f as.toArray bs.toArray) T (.func f vs.toArray ws.toArray) W :=
  y_makeFunc (by rw [← h1]; simp) (by rw [← h2]; simp)

theorem y_buildL {parts : List (Nat × Operand)} {vs : List (Nat × Value)} {cells : Array Value} (hp : parts.map (fun p => (p.1, ρ p.2)) = vs) (hb : P.built t vs = some cells) : Y P ρ (.build t parts.toArray) T (.agg cells) W := by
  unfold Y execOp
  have := run_build (P := P) W t vs.toArray cells (by simpa using hb)
  simp only [List.map_toArray, hp, Sem.run_bind, Sem.run_pure, Result.andThen_ok, this]

theorem wl_rangeStr {s : ByteArray} (hm : Mem w0 S H W) (hx : ev n l b x = .string s) (ht : P.underlying t = some .string)
    (hn : ∀ W' bk, Mem w0 S (H ++ [.obj bk (· = .stringIter s 0)]) W' → W.heap.size ≤ bk → Upd [] W W' → LW ro P ops Q rest n ((d, .pointer (some ⟨bk, 0, none⟩)) :: l) b ds W') :
    LW ro P ops Q (⟨some d, .range t x, T, pos, aft, none⟩ :: rest) n l b ds W := by
  refine wl_yw (v := .pointer (some ⟨W.heap.size, 0, none⟩)) (W' := W.iter s 0) ?_ (hn _ _ (hm.add (upd_alloc W _) ⟨_, W.iter_heap s 0, rfl⟩ (fun b hb => by simp only [En.foot, Option.some.injEq] at hb; omega)) (Nat.le_refl _) (upd_alloc W _))
  unfold YW execOp
  simp only [hx, run_range_string W t s ht, Sem.run_bind, Sem.run_pure, Result.andThen_ok]

theorem run_nextStr {bk p : Nat} {s : ByteArray} (ho : W.heap[bk]? = some (.stringIter s p)) (hp : p < s.size) : (Instr.next (.pointer (some ⟨bk, 0, none⟩)) true t).run P W =
    .ok (.tuple #[.bool true, .int .i64 p, .int .i32 (Utf8.decode s p).1]) { W with heap := W.heap.setIfInBounds bk (.stringIter s (p + (Utf8.decode s p).2)) } := by
  have hlt : bk < W.heap.size := (Array.getElem?_eq_some_iff.1 ho).1
  simp only [Instr.next, getObj, setObj, Sem.run_bind, Sem.run, ho, Result.andThen, hp, if_true]
  simp [goInt, Sem.run, ho]
theorem run_nextStrEnd {bk p : Nat} {s : ByteArray} (ho : W.heap[bk]? = some (.stringIter s p)) (hp : ¬ p < s.size) : (Instr.next (.pointer (some ⟨bk, 0, none⟩)) true t).run P W = .ok (.tuple #[.bool false]) W := by
  simp [Instr.next, getObj, Sem.run, ho, hp]

theorem obj_turn {i bk : Nat} {p p' : Obj → Prop} {o' : Obj} (hm : Mem w0 S H W) (hi : H[i]? = some (.obj bk p)) (hp : p' o') : Mem w0 S (H.set i (.obj bk p')) { W with heap := W.heap.setIfInBounds bk o' } := by
  obtain ⟨o, ho, _⟩ := hm.at hi
  have hlt : bk < W.heap.size := (Array.getElem?_eq_some_iff.1 ho).1
  refine hm.turn hi rfl rfl rfl (by simp) (fun k hk hne => ?_) ⟨o', by simp [hlt], hp⟩ (fun b hb => .inl hb)
  have : bk ≠ k := fun e => hne (by rw [e]; rfl)
  simp [Array.getElem?_setIfInBounds, this]

theorem wl_nextStr {i bk p : Nat} {s : ByteArray} (hm : Mem w0 S H W) (hx : ev n l b x = .pointer (some ⟨bk, 0, none⟩)) (hi : H[i]? = some (.obj bk (· = .stringIter s p)))
    (h1 : p < s.size → ∀ W', Mem w0 S (H.set i (.obj bk (· = .stringIter s (p + (Utf8.decode s p).2)))) W' → LW ro P ops Q rest n ((d, .tuple #[.bool true, .int .i64 p, .int .i32 ((Utf8.decode s p).1 : Nat)]) :: l) b ds W')
    (h2 : ¬ p < s.size → LW ro P ops Q rest n ((d, .tuple #[.bool false]) :: l) b ds W) :
    LW ro P ops Q (⟨some d, .next x true, T, pos, aft, none⟩ :: rest) n l b ds W := by
  obtain ⟨o, ho, rfl⟩ := hm.at hi
  by_cases hp : p < s.size
  · refine wl_yw ?_ (h1 hp _ (obj_turn hm hi rfl))
    unfold YW execOp
    simp only [hx, run_nextStr ho hp, Sem.run_bind, Sem.run_pure, Result.andThen_ok]
  · refine wl_yw ?_ (h2 hp)
    unfold YW execOp
    simp only [hx, run_nextStrEnd ho hp, Sem.run_bind, Sem.run_pure, Result.andThen_ok]

theorem get_byt {s : ByteArray} {i : Nat} (h : i < s.size) : (s.get! i).toNat = byt s i := by
  simp [byt, ByteArray.get!, getElem!_pos, h]
theorem decode_byt {s : ByteArray} {i : Nat} (h : i < s.size) (ha : byt s i < 128) : Utf8.decode s i = (byt s i, 1) := by
  simp only [Utf8.decode, Nat.add_zero, get_byt h, ha, if_true]
end
section
variable {P : Program} {b : Frame} {a : Act} {k : List Item} {cs : List Frame} {w : World}
theorem stepR_scope {c : Code} : step P (lone (b.atR a (.code (.scope c) :: k)) cs w) = .next (lone (b.atR a (.code c :: .inScope c :: k)) cs w) :=
  step_lone_go (by simp [stepG, stepG.exec, Frame.atR])
theorem stepR_inScope {c : Code} : step P (lone (b.atR a (.inScope c :: k)) cs w) = .next (lone (b.atR a k) cs w) :=
  step_lone_go (by simp [stepG, stepG.exec, Frame.atR])
theorem wpIn_scope {F : Fence} {n : Nat} {Q : Exit → Act → World → Prop} {c : Code} (h : c.wpIn F n P (Exit.noGoto Q) a w) : (Code.scope c).wpIn F n P Q a w := by
  intro b k cs hro hb hr
  have h0 : (lone (b.atR a (.code (.scope c) :: k)) cs w).fenced P F := fenced_calm hb hr rfl
  obtain ⟨e, a₁, w₁, hq, harr⟩ := h b (.inScope c :: k) cs hro hb hr
  cases e with
  | normal => exact ⟨.normal, a₁, w₁, hq, .head h0 stepR_scope (StepsIn.trans harr (.one (fenced_calm hb hr rfl) stepR_inScope))⟩
  | exit id' =>
    have hx : exitTo id' (.inScope c :: k) = exitTo id' k := by simp [exitTo]
    exact ⟨.exit id', a₁, w₁, hq, fun k' hk => .head h0 stepR_scope (harr.1 k' (by rw [hx]; exact hk)),
      fun hr' hk => let ⟨k₁, h1, h2⟩ := harr.2 hr' (by rw [hx]; exact hk); ⟨k₁, h1, .head h0 stepR_scope h2⟩⟩
  | goto l => exact hq.elim
  | ret => exact ⟨_, a₁, w₁, hq, .of_steps (.one h0 stepR_scope) harr⟩
  | panic ch => exact ⟨_, a₁, w₁, hq, .of_steps (.one h0 stepR_scope) harr⟩
  | outgrown => exact ⟨_, a₁, w₁, hq, .of_steps (.one h0 stepR_scope) harr⟩
end
section
variable {ro : Option Nat} {P : Program} {Q : Exit → Act → World → Prop} {n : Nat} {l : Slots} {b : Env} {ds : List Deferred} {W : World}
theorem wc_scope {x : Code} (h : CW ro P x (Exit.noGoto Q) n l b ds W) : CW ro P (.scope x) Q n l b ds W := ⟨wpIn_scope h.h⟩
theorem scope_ret (h : DN Q .ret n l b ds W) : DN (Exit.noGoto Q) .ret n l b ds W := ⟨h.h⟩
end
end Go.Kx
/- Regions that draw their order, with operations that turn the world. -/
namespace Go.Kx
open Go Go.RowKit

def Closed (ops : Array Oper) (listed : Array Bool) : Prop := ∀ (j : Nat) (o : Oper), ops[j]? = some o → listed.getD j false = true → ∀ e ∈ o.after, Region.binds .any e = true → listed.getD e.on false = true

def reqF (ops : Array Oper) : Nat → Nat → Nat → Bool
  | 0, _, _ => false
  | f + 1, i, k => match ops[k]? with
    | none => false
    | some o => o.after.any (fun e => Region.binds .any e && Nat.beq e.on i) || o.after.any (fun e => Region.binds .any e && Nat.blt i e.on && reqF ops f i e.on)

theorem req_spec {ops : Array Oper} {listed : Array Bool} (hc : Closed ops listed) {i : Nat} : ∀ (f k : Nat), reqF ops f i k = true → listed.getD k false = true → listed.getD i false = true
  | 0, _, h, _ => by simp [reqF] at h
  | f + 1, k, h, hk => by
    unfold reqF at h
    split at h
    · cases h
    · rename_i o ho
      rw [Bool.or_eq_true] at h
      rcases h with h | h
      · rw [Array.any_eq_true'] at h
        obtain ⟨e, he, h⟩ := h
        rw [Bool.and_eq_true] at h
        have hn := Nat.eq_of_beq_eq_true h.2
        rw [← hn]; exact hc k o ho hk e he h.1
      · rw [Array.any_eq_true'] at h
        obtain ⟨e, he, h⟩ := h
        rw [Bool.and_eq_true, Bool.and_eq_true] at h
        exact req_spec hc f e.on h.2 (hc k o ho hk e he h.1.1)

theorem getD_f_t {listed : Array Bool} {i : Nat} (h : listed.getD i true = false) : listed.getD i false = false := by
  rcases Nat.lt_or_ge i listed.size with h' | h'
  · simp [h'] at h ⊢; exact h
  · simp [Array.getElem?_eq_none h']
theorem Closed.set {ops : Array Oper} {listed : Array Bool} (hc : Closed ops listed) {i : Nat} (hr : i ∈ Region.ready .any ops listed) : Closed ops (listed.setIfInBounds i true) := by
  obtain ⟨_, oi, hoi, hall⟩ := mem_ready.1 hr
  intro j o ho hj e he hb
  by_cases hji : j = i
  · subst hji
    rw [hoi] at ho; cases ho
    exact getD_set_true (hall e he hb)
  · rw [getD_set_ne false (Ne.symm hji)] at hj
    exact getD_set_true (hc j o ho hj e he hb)

def noQ : Exit → Act → World → Prop := fun _ _ _ => False
def Stable (C : World → Prop) : Prop := ∀ w w', C w → Upd [] w w' → C w'
theorem Mem.stable (w0 : World) (S : List Nat) (H : List En) : Stable (fun W => Mem w0 S H W) := fun _ _ h hu => h.step hu

def Cf (C : World → Prop) (ks : Option Nat) (listed : Array Bool) (w : World) : Prop :=
  match ks with
  | none => C w
  | some k => listed.getD k false = false → C w

section
variable {ro : Option Nat} {P : Program} {ops : Array Oper} {C : World → Prop} {ks : Option Nat} {Q : Act → World → Prop}

def AT (ro : Option Nat) (P : Program) (ops : Array Oper) (C : World → Prop) (ks : Option Nat) (Q : Act → World → Prop) : Nat → Array Bool → Act → World → Prop
  | 0, listed, a, w => Region.ready .any ops listed = [] ∧ Q a w
  | f + 1, listed, a, w => (Region.ready .any ops listed = [] → Q a w) ∧
    ∀ i ∈ Region.ready .any ops listed, wpOpIn (FR ro) 0 P ops noQ i (fun a' w' => Cf C ks (listed.setIfInBounds i true) w' ∧ ∀ w'', Upd [] w' w'' → AT ro P ops C ks Q f (listed.setIfInBounds i true) a' w'') a w

theorem wpIn_noQ {o : Oper} {a : Act} {w : World} {K : Act → World → Prop} {Q' : Exit → Act → World → Prop} (hlo : LetsOut noQ → LetsOut Q') (h : o.wpIn (FR ro) 0 P a w K noQ) : o.wpIn (FR ro) 0 P a w K Q' := by
  refine ⟨h.1, ?_⟩
  have h := h.2
  generalize (o.semAt (FR ro).round a.eval).run P w = r at *
  cases r with
  | ok x w' =>
    cases x <;> simp only [Oper.uponIn] at h ⊢ <;> try exact h
    · refine ⟨h.1, h.2.mono fun e w'' he => ?_⟩
      cases e with
      | returned u => exact he
      | panicked c => exact he.elim
      | outgrown => exact hlo he
    · refine ⟨h.1, h.2.mono fun e w'' he => ?_⟩
      cases e with
      | returned u => exact he
      | panicked c => exact he.elim
      | outgrown => exact hlo he
  | halt x w' => cases x <;> simp only [Oper.uponIn] at h ⊢ <;> exact h.elim

def nQ (Nx : Act → World → Prop) : Exit → Act → World → Prop := fun e a w => e = .normal ∧ Nx a w
theorem wpIn_nQ {o : Oper} {a : Act} {w : World} {K : Act → World → Prop} {Nx : Act → World → Prop} (h : o.wpIn (FR ro) 0 P a w K (nQ Nx)) : o.wpIn (FR ro) 0 P a w K noQ := by
  have hlo : LetsOut (nQ Nx) → False := fun ⟨a, w, h, _⟩ => by cases h
  refine ⟨h.1, ?_⟩
  have h := h.2
  generalize (o.semAt (FR ro).round a.eval).run P w = r at *
  cases r with
  | ok x w' =>
    cases x <;> simp only [Oper.uponIn] at h ⊢ <;> try exact h
    · refine ⟨h.1, h.2.mono fun e w'' he => ?_⟩
      cases e with
      | returned u => exact he
      | panicked c => obtain ⟨he, _⟩ := he; cases he
      | outgrown => exact (hlo he).elim
    · refine ⟨h.1, h.2.mono fun e w'' he => ?_⟩
      cases e with
      | returned u => exact he
      | panicked c => obtain ⟨he, _⟩ := he; cases he
      | outgrown => exact (hlo he).elim
  | halt x w' => cases x <;> simp only [Oper.uponIn] at h ⊢; obtain ⟨h, _⟩ := h; cases h

def quietU (P : Program) (o : Oper) (a : Act) (w : World) (v : Value) : Prop :=
  match (execOp a.eval o).run P w with
  | .ok (.value u) w' => u = v ∧ Upd [] w w'
  | .ok (.enter f args) w' => Upd [] w w' ∧ Cl P f args w' (fun e w'' => e = .returned v ∧ Upd [] w' w'')
  | _ => False
def YC (P : Program) (ops : Array Oper) (C : World → Prop) (o : Oper) (v : Value) (a : Act) : Prop :=
  (Region.wanted o (yielded ops a.tmps) = true ∧ ∀ w, C w → quietU P o a w v) ∨ (Region.wanted o (yielded ops a.tmps) = false ∧ v = undef)

theorem YC.op {i : Nat} {o : Oper} {v : Value} {a : Act} {w : World} {K : Act → World → Prop} (hi : ops[i]? = some o) (hnd : notDefer o.op = true) (hy : YC P ops C o v a) (hw : C w) (h : ∀ w', Upd [] w w' → K (a.put o.dst v) w') :
    wpOpIn (FR ro) 0 P ops noQ i K a w := by
  unfold wpOpIn
  simp only [hi]
  rcases hy with ⟨hwt, hq⟩ | ⟨hwt, rfl⟩
  · simp only [hwt, if_true]
    refine ⟨fun f _ => FR_fn ro f, ?_⟩
    rw [semAt_fr _ _ hnd]
    have h3 := hq w hw
    unfold quietU at h3
    generalize (execOp a.eval o).run P w = r at *
    cases r with
    | ok x w' =>
      cases x <;> simp only [] at h3 <;> simp only [Oper.uponIn]
      case value u => obtain ⟨rfl, hu⟩ := h3; exact h _ hu
      case enter f args =>
        obtain ⟨hu, hc⟩ := h3
        refine ⟨(fun hh => (by cases hh)), (hc.at ro).mono fun e w'' he => ?_⟩
        obtain ⟨rfl, hu'⟩ := he
        exact h _ ⟨hu'.os.trans hu.os, hu'.tape.trans hu.tape, hu'.output.trans hu.output, Nat.le_trans hu.size hu'.size, fun k hk hS => (hu'.block k (Nat.lt_of_lt_of_le hk hu.size) (by simp)).trans (hu.block k hk (by simp))⟩
    | halt x w' => simp only [] at h3
  · simp only [hwt, Bool.false_eq_true, if_false]
    exact ⟨fun f _ => FR_fn ro f, h _ (Upd.refl _ _)⟩

theorem Upd.trans {w w' w'' : World} (hu : Upd [] w w') (hu' : Upd [] w' w'') : Upd [] w w'' :=
  ⟨hu'.os.trans hu.os, hu'.tape.trans hu.tape, hu'.output.trans hu.output, Nat.le_trans hu.size hu'.size, fun k hk _ => (hu'.block k (Nat.lt_of_lt_of_le hk hu.size) (by simp)).trans (hu.block k hk (by simp))⟩

theorem YC.of_same {o : Oper} {v : Value} {a a' : Act} (hy : YC P ops C o v a) (he : execOp a'.eval o = execOp a.eval o) (hw : Region.wanted o (yielded ops a'.tmps) = Region.wanted o (yielded ops a.tmps)) : YC P ops C o v a' := by
  unfold YC quietU at *
  rw [he, hw]; exact hy

theorem op_put {j : Nat} {oi oj : Oper} {v : Value} (hj : ops[j]? = some oj) (hap : oi.apart ops oj = true) (hsi : ∀ cs b, oi.op ≠ .select cs b) (hsj : ∀ cs b, oj.op ≠ .select cs b) (hnd : notDefer oj.op = true)
    {K : Act → World → Prop} {a : Act} {w : World} (hy : YC P ops C oi v a) (h : wpOpIn (FR ro) 0 P ops noQ j K (a.put oi.dst v) w) :
    wpOpIn (FR ro) 0 P ops noQ j (fun a' w' => YC P ops C oi v a' ∧ K (a'.put oi.dst v) w') a w := by
  obtain ⟨h1, h2, h3⟩ := Oper.apart_spec hap
  have keep : ∀ u, YC P ops C oi v (a.put oj.dst u) := fun u => hy.of_same (execOp_put oi hsi a oj.dst u h3) (wanted_put oi a oj.dst u h3)
  unfold wpOpIn at *
  simp only [hj] at *
  rw [wanted_put oj a oi.dst v h1] at h
  by_cases hw : Region.wanted oj (yielded ops a.tmps) = true
  · rw [if_pos hw] at h ⊢
    refine ⟨fun f _ => FR_fn ro f, ?_⟩
    have h := h.2
    rw [semAt_fr _ _ hnd, execOp_put oj hsj a oi.dst v h1] at h
    rw [semAt_fr _ _ hnd]
    generalize hr : (execOp a.eval oj).run P w = r at *
    cases r with
    | ok x w' =>
      cases x <;> simp only [Oper.uponIn] at h ⊢
      case value u => exact ⟨keep u, by rw [← Act.put_comm a v u h2]; exact h⟩
      case skip => exact ⟨keep _, by rw [← Act.put_comm a v undef h2]; exact h⟩
      case defer dd =>
        have hd : YC P ops C oi v { a with defers := dd :: a.defers } := hy.of_same rfl rfl
        refine ⟨hd.of_same (execOp_put oi hsi _ oj.dst undef h3) (wanted_put oi _ oj.dst undef h3), ?_⟩
        rw [← Act.put_comm _ v undef h2, ← Act.put_defers]; exact h
      case enter f args =>
        refine ⟨h.1, h.2.mono fun e w'' he => ?_⟩
        cases e with
        | returned u => exact ⟨keep u, by rw [← Act.put_comm a v u h2]; exact he⟩
        | panicked c => exact he
        | outgrown => exact he
      case row row args => exact ⟨h.1, h.2.mono fun u w'' he => ⟨keep u, by rw [← Act.put_comm a v u h2]; exact he⟩⟩
      case round lp f tmps assign body =>
        refine ⟨h.1, h.2.mono fun e w'' he => ?_⟩
        cases e with
        | returned u => exact ⟨keep u, by rw [← Act.put_comm a v u h2]; exact he⟩
        | panicked c => exact he
        | outgrown => exact he
    | halt x w' => cases x <;> simp only [Oper.uponIn] at h ⊢; exact h
  · rw [if_neg hw] at h ⊢
    exact ⟨fun f _ => FR_fn ro f, keep _, by rw [← Act.put_comm a v undef h2]; exact h.2⟩

theorem AT_first {i : Nat} {oi : Oper} {v : Value} (hst : Stable C) (hi : ops[i]? = some oi) (hnd : ∀ (j : Nat) (o : Oper), ops[j]? = some o → notDefer o.op = true) (hsel : ∀ (j : Nat) (o : Oper) cs b, ops[j]? = some o → o.op ≠ .select cs b)
    (hreq : ∀ k, ks = some k → ∃ f, reqF ops f i k = true) (hks : ∀ k, ks = some k → k ≠ i) :
    ∀ (fuel : Nat) (listed : Array Bool) (a : Act) (w : World), Closed ops listed →
      (∀ j oj, ops[j]? = some oj → j ≠ i → listed.getD j true = false → (∀ e ∈ oj.after, Region.binds .any e = true → e.on ≠ i) → oi.apart ops oj = true) →
      i ∈ Region.ready .any ops listed → YC P ops C oi v a → Cf C ks listed w →
      (∀ w', Upd [] w w' → AT ro P ops C ks Q fuel (listed.setIfInBounds i true) (a.put oi.dst v) w') → AT ro P ops C ks Q (fuel + 1) listed a w := by
  intro fuel
  induction fuel with
  | zero =>
    intro listed a w hcl hfree hr hy hcf H
    have H0 := H w (Upd.refl _ _)
    refine ⟨fun h => (by rw [h] at hr; cases hr), fun j hj => ?_⟩
    by_cases hji : j = i
    · subst hji
      have hpend : ∀ k, ks = some k → listed.getD k false = false := fun k hk => by
        obtain ⟨f, hf⟩ := hreq k hk
        cases hb : listed.getD k false with
        | false => rfl
        | true =>
          have h1 := req_spec hcl f k hf hb
          rw [getD_f_t (mem_ready.1 hr).1] at h1; cases h1
      have hw : C w := by
        cases ks with
        | none => exact hcf
        | some k => exact hcf (hpend k rfl)
      refine YC.op hi (hnd _ _ hi) hy hw fun w' hu => ⟨?_, fun w'' hu' => H w'' (hu.trans hu')⟩
      cases ks with
      | none => exact hst _ _ hw hu
      | some k => exact fun _ => hst _ _ hw hu
    · have := ready_mono hj hji
      rw [H0.1] at this; cases this
  | succ fuel ih =>
    intro listed a w hcl hfree hr hy hcf H
    have H0 := H w (Upd.refl _ _)
    refine ⟨fun h => (by rw [h] at hr; cases hr), fun j hj => ?_⟩
    by_cases hji : j = i
    · subst hji
      have hpend : ∀ k, ks = some k → listed.getD k false = false := fun k hk => by
        obtain ⟨f, hf⟩ := hreq k hk
        cases hb : listed.getD k false with
        | false => rfl
        | true =>
          have h1 := req_spec hcl f k hf hb
          rw [getD_f_t (mem_ready.1 hr).1] at h1; cases h1
      have hw : C w := by
        cases ks with
        | none => exact hcf
        | some k => exact hcf (hpend k rfl)
      refine YC.op hi (hnd _ _ hi) hy hw fun w' hu => ⟨?_, fun w'' hu' => H w'' (hu.trans hu')⟩
      cases ks with
      | none => exact hst _ _ hw hu
      | some k => exact fun _ => hst _ _ hw hu
    · have h1 := H0.2 j (ready_mono hj hji)
      obtain ⟨hjun, oj, hoj, hall⟩ := mem_ready.1 hj
      have hnot : ∀ e ∈ oj.after, Region.binds .any e = true → e.on ≠ i := fun e he hb heq => by
        have h1 := hall e he hb
        rw [heq, getD_f_t (mem_ready.1 hr).1] at h1; cases h1
      have h2 := op_put hoj (hfree j oj hoj hji hjun hnot) (fun cs b => hsel i oi cs b hi) (fun cs b => hsel j oj cs b hoj) (hnd _ _ hoj) hy h1
      have hfree' : ∀ k ok, ops[k]? = some ok → k ≠ i → (listed.setIfInBounds j true).getD k true = false →
          (∀ e ∈ ok.after, Region.binds .any e = true → e.on ≠ i) → oi.apart ops ok = true := fun k ok hk hki hun hno => by
        refine hfree k ok hk hki ?_ hno
        by_cases hjk : j = k
        · subst hjk; exact hjun
        · rw [getD_set_ne true hjk] at hun; exact hun
      refine wpOpIn_mono (fun a' w' h3 => ?_) h2
      obtain ⟨h4, h5, h6⟩ := h3
      have hcf' : Cf C ks (listed.setIfInBounds j true) w' := by
        rw [Array.setIfInBounds_comm _ _ (Ne.symm hji)] at h5
        cases ks with
        | none => exact h5
        | some k =>
          intro hk
          refine h5 ?_
          rw [getD_set_ne false (fun h => hks k rfl h.symm)]; exact hk
      refine ⟨hcf', fun w'' hu => ih (listed.setIfInBounds j true) a' w'' (hcl.set hj) hfree' (ready_mono hr (Ne.symm hji)) h4 ?_ fun w3 hu3 => ?_⟩
      · cases ks with
        | none => exact hst _ _ hcf' hu
        | some k => exact fun hk => hst _ _ (hcf' hk) hu
      · rw [Array.setIfInBounds_comm _ _ hji]
        exact h6 w3 (hu.trans hu3)
end
section
variable {ro : Option Nat} {P : Program} {ops : Array Oper} {C C' : World → Prop} {ks ks' : Option Nat} {Q : Act → World → Prop}

theorem opIn_noQ {i : Nat} {K K' : Act → World → Prop} {Q' : Exit → Act → World → Prop} {a : Act} {w : World} (hK : ∀ a w, K a w → K' a w) (h : wpOpIn (FR ro) 0 P ops noQ i K a w) : wpOpIn (FR ro) 0 P ops Q' i K' a w := by
  unfold wpOpIn at *
  split
  · rename_i ho; simp only [ho] at h; exact hK _ _ h
  · rename_i o ho
    simp only [ho] at h
    split
    · rename_i hw; rw [if_pos hw] at h; exact Oper.wpIn_mono hK (wpIn_noQ (fun ⟨_, _, hh⟩ => hh.elim) h)
    · rename_i hw; rw [if_neg hw] at h; exact ⟨h.1, hK _ _ h.2⟩

theorem AT.toAny {Q' : Exit → Act → World → Prop} (hQ : ∀ a w, Q a w → Q' .normal a w) : ∀ (f : Nat) (listed : Array Bool) (a : Act) (w : World), AT ro P ops C ks Q f listed a w → wpAnyIn (FR ro) 0 P .any ops Q' f listed a w
  | 0, _, _, _, h => ⟨h.1, hQ _ _ h.2⟩
  | f + 1, listed, a, w, h => ⟨fun h0 => hQ _ _ (h.1 h0), fun i hi => opIn_noQ (fun a' w' hh => AT.toAny hQ f _ a' w' (hh.2 w' (Upd.refl _ _))) (h.2 i hi)⟩

theorem AT.conv (p : Array Bool → Prop) (hp : ∀ listed i, p listed → p (listed.setIfInBounds i true)) (hC : ∀ listed w, p listed → Cf C' ks' listed w → Cf C ks listed w) :
    ∀ (f : Nat) (listed : Array Bool) (a : Act) (w : World), p listed → AT ro P ops C' ks' Q f listed a w → AT ro P ops C ks Q f listed a w
  | 0, _, _, _, _, h => h
  | f + 1, listed, a, w, hpl, h => ⟨h.1, fun i hi => opIn_noQ (fun a' w' hh => ⟨hC _ _ (hp _ _ hpl) hh.1, fun w'' hu => AT.conv p hp hC f _ a' w'' (hp _ _ hpl) (hh.2 w'' hu)⟩) (h.2 i hi)⟩
end

def lst (n k : Nat) : Array Bool := ((List.range n).map (fun i => Nat.blt i k)).toArray
theorem lst_get (n k i : Nat) (d : Bool) : (lst n k).getD i d = if i < n then decide (i < k) else d := by
  have e : (lst n k).getD i d = ((List.range n).map (fun i => Nat.blt i k)).getD i d := by simp [lst]
  rw [e]
  have hb : Nat.blt i k = decide (i < k) := by
    rw [Bool.eq_iff_iff]; simp [Nat.blt_eq]
  by_cases h : i < n <;> simp [List.getD, h, hb]
theorem lst_size (n k : Nat) : (lst n k).size = n := by simp [lst]
theorem lst_set {n k : Nat} (h : k < n) : (lst n k).setIfInBounds k true = lst n (k + 1) := by
  apply Array.ext
  · simp [lst_size]
  · intro i h1 h2
    have hi : i < n := by rw [lst_size] at h2; exact h2
    have g : ∀ k', (lst n k')[i]'(by rw [lst_size]; exact hi) = decide (i < k') := fun k' => by
      have := lst_get n k' i false
      rw [if_pos hi] at this
      simpa [lst_size, hi] using this
    rw [Array.getElem_setIfInBounds (by rw [lst_size]; exact hi), g, g]
    split
    · simp; omega
    · rw [decide_eq_decide]; omega
theorem lst_zero (n : Nat) : lst n 0 = Array.replicate n false := by
  apply Array.ext
  · simp [lst_size]
  · intro i h1 h2
    have hi : i < n := by simpa using h2
    have := lst_get n 0 i false
    simpa [lst_size, hi] using this

structure Inv (ops rest : List Oper) : Prop where
  dr : ops.drop (ops.length - rest.length) = rest
  le : rest.length ≤ ops.length
  cl : Closed ops.toArray (lst ops.length (ops.length - rest.length))
  nd : noDefers ops = true
  sel : Region.noSelect ops.toArray = true

theorem Inv.get {ops rest : List Oper} {o : Oper} (h : Inv ops (o :: rest)) : ops[ops.length - (rest.length + 1)]? = some o := by
  have := congrArg (fun l => l[0]?) h.dr
  simpa [List.getElem?_drop] using this
theorem Inv.lt {ops rest : List Oper} {o : Oper} (h : Inv ops (o :: rest)) : ops.length - (rest.length + 1) < ops.length := by
  have := h.le; simp only [List.length_cons] at this; omega
theorem Inv.succ {ops rest : List Oper} {o : Oper} (h : Inv ops (o :: rest)) : ops.length - (rest.length + 1) + 1 = ops.length - rest.length := by
  have := h.le; simp only [List.length_cons] at this; omega
theorem Inv.next {ops rest : List Oper} {o : Oper} (h : Inv ops (o :: rest)) (hr : ops.length - (rest.length + 1) ∈ Region.ready .any ops.toArray (lst ops.length (ops.length - (rest.length + 1)))) : Inv ops rest := by
  refine ⟨?_, ?_, ?_, h.nd, h.sel⟩
  · have := congrArg List.tail h.dr
    rw [List.tail_drop, List.tail_cons, List.length_cons, h.succ] at this
    exact this
  · have := h.le; simp only [List.length_cons] at this; omega
  · have := h.cl
    rw [List.length_cons] at this
    have := this.set hr
    rwa [lst_set h.lt, h.succ] at this

structure AL (ro : Option Nat) (P : Program) (ops : List Oper) (C : World → Prop) (ks : Option Nat) (Q : Act → World → Prop) (rest : List Oper) (n : Nat) (l : Slots) (b : Env) (ds : List Deferred) : Prop where
  h : Inv ops rest → Stable C → ∀ w, C w → AT ro P ops.toArray C ks Q rest.length (lst ops.length (ops.length - rest.length)) (fr n l b ds) w

def chkQ (ops : List Oper) (r : Nat) (ks : Option Nat) : Bool :=
  (Region.ready .any ops.toArray (lst ops.length (ops.length - (r + 1)))).contains (ops.length - (r + 1)) && Region.free .any ops.toArray (lst ops.length (ops.length - (r + 1))) (ops.length - (r + 1)) &&
    match ks with
    | none => true
    | some s => Nat.blt (ops.length - (r + 1)) s && reqF ops.toArray 9 (ops.length - (r + 1)) s
def chkL (ops : List Oper) (r : Nat) : Bool :=
  match Region.ready .any ops.toArray (lst ops.length (ops.length - (r + 1))) with
  | [j] => Nat.beq j (ops.length - (r + 1))
  | _ => false

section
variable {ro : Option Nat} {P : Program} {ops rest : List Oper} {C C' : World → Prop} {ks ks' : Option Nat} {Q : Act → World → Prop} {n : Nat} {l l' : Slots} {b b' : Env} {ds : List Deferred} {W : World}
  {d : Nat} {op : Op} {T : TypeId} {pos : String} {aft : Array Edge} {g : Option (Nat × Bool)}

theorem al_take {o : Oper} {v : Value} (hchk : chkQ ops rest.length ks = true) (hy : YC P ops.toArray C o v (fr n l b ds)) (h : AL ro P ops C ks Q rest n (putO l o.dst v) b ds) : AL ro P ops C ks Q (o :: rest) n l b ds := by
  refine ⟨fun inv hst w hw => ?_⟩
  simp only [chkQ, Bool.and_eq_true] at hchk
  obtain ⟨⟨hr, hf⟩, hk⟩ := hchk
  have hr' := List.contains_iff_mem.1 hr
  have hget : ops.toArray[ops.length - (rest.length + 1)]? = some o := by simpa using inv.get
  refine AT_first (i := ops.length - (rest.length + 1)) hst hget (fun j o' hj => noDefers_at inv.nd (by simpa using hj)) (Region.noSelect_spec inv.sel) ?_ ?_ rest.length _ _ w inv.cl (Region.free_spec hget hf) hr' hy ?_ (fun w' hu => ?_)
  · intro k hks; subst hks
    simp only [Bool.and_eq_true] at hk
    exact ⟨9, hk.2⟩
  · intro k hks; subst hks
    simp only [Bool.and_eq_true, Nat.blt_eq] at hk
    omega
  · cases ks with
    | none => exact hw
    | some k => exact fun _ => hw
  · have hn := inv.next hr'
    rw [List.length_cons, lst_set inv.lt, inv.succ, put_frO]
    exact h.h hn hst w' (hst _ _ hw hu)

theorem al_y {v : Value} (hchk : chkQ ops rest.length ks = true) (hY : ∀ W, C W → Y P (ev n l b) op T v W) (h : AL ro P ops C ks Q rest n ((d, v) :: l) b ds) :
    AL ro P ops C ks Q (⟨some d, op, T, pos, aft, none⟩ :: rest) n l b ds := by
  refine al_take (v := v) hchk (.inl ⟨by simp [Region.wanted], fun w hw => ?_⟩) h
  have hr : (execOp (fr n l b ds).eval ⟨some d, op, T, pos, aft, none⟩).run P w = .ok (.value v) w := by
    rw [eval_fr, ← hY w hw]; exact congrArg (fun s : Sem Next => s.run P w) (execOp_irrel ..)
  unfold quietU; rw [hr]; exact ⟨rfl, Upd.refl _ _⟩
theorem al_yg {v : Value} {j : Nat} {want : Bool} (hg : yv ops n l b j = some want) (hchk : chkQ ops rest.length ks = true) (hY : ∀ W, C W → Y P (ev n l b) op T v W) (h : AL ro P ops C ks Q rest n ((d, v) :: l) b ds) :
    AL ro P ops C ks Q (⟨some d, op, T, pos, aft, some (j, want)⟩ :: rest) n l b ds := by
  refine al_take (v := v) hchk (.inl ⟨by simp only [Region.wanted]; rw [yielded_fr, hg]; exact beq_self_eq_true _, fun w hw => ?_⟩) h
  have hr : (execOp (fr n l b ds).eval ⟨some d, op, T, pos, aft, some (j, want)⟩).run P w = .ok (.value v) w := by
    rw [eval_fr, ← hY w hw]; exact congrArg (fun s : Sem Next => s.run P w) (execOp_irrel ..)
  unfold quietU; rw [hr]; exact ⟨rfl, Upd.refl _ _⟩
theorem al_guard_no {o : Oper} {j : Nat} {want : Bool} (hog : o.guard = some (j, want)) (hy : (yv ops n l b j == some want) = false) (hchk : chkQ ops rest.length ks = true) (h : AL ro P ops C ks Q rest n (putO l o.dst undef) b ds) :
    AL ro P ops C ks Q (o :: rest) n l b ds :=
  al_take (v := undef) hchk (.inr ⟨by simp only [Region.wanted, hog]; rw [yielded_fr]; exact hy, rfl⟩) h
theorem al_callG {f : FuncId} {c : List Operand} {as : Array TypeId} {al : List Value} {v : Value} {x : Operand} (hgd : g = none ∨ ∃ j want, g = some (j, want) ∧ yv ops n l b j = some want) (hchk : chkQ ops rest.length ks = true) (hb : HasBody P f) (hc : ∀ W, C W → Cl P f al.toArray W (Ret W v))
    (hfun : ev n l b x = .func (.func f) #[] #[]) (ha : c.map (ev n l b) = al) (h : AL ro P ops C ks Q rest n ((d, v) :: l) b ds) :
    AL ro P ops C ks Q (⟨some d, .call { callee := .value x, args := c.toArray, argTypes := as }, T, pos, aft, g⟩ :: rest) n l b ds := by
  have hwt : Region.wanted ⟨some d, .call { callee := .value x, args := c.toArray, argTypes := as }, T, pos, aft, g⟩ (yielded ops.toArray (fr n l b ds).tmps) = true := by
    rcases hgd with rfl | ⟨j, want, rfl, hy⟩
    · simp [Region.wanted]
    · simp only [Region.wanted]; rw [yielded_fr, hy]; exact beq_self_eq_true _
  refine al_take (v := v) hchk (.inl ⟨hwt, fun w hw => ?_⟩) h
  have hr : (execOp (fr n l b ds).eval ⟨some d, .call { callee := .value x, args := c.toArray, argTypes := as }, T, pos, aft, g⟩).run P w = .ok (.enter f al.toArray) w := by
    rw [eval_fr, ← enter_run (T := T) hb (show c.toArray.map (ev n l b) = al.toArray by rw [← ha]; simp) hfun]; exact congrArg (fun s : Sem Next => s.run P w) (execOp_irrel ..)
  unfold quietU; rw [hr]; exact ⟨Upd.refl _ _, hc w hw⟩
theorem al_callR {f : FuncId} {c : List Operand} {as : Array TypeId} {al : List Value} {v : Value} {x : Operand} (hchk : chkQ ops rest.length ks = true) (hb : HasBody P f) (hc : ∀ W, C W → Cl P f al.toArray W (Ret W v))
    (hfun : ev n l b x = .func (.func f) #[] #[]) (ha : c.map (ev n l b) = al) (h : AL ro P ops C ks Q rest n ((d, v) :: l) b ds) :
    AL ro P ops C ks Q (⟨some d, .call { callee := .value x, args := c.toArray, argTypes := as }, T, pos, aft, none⟩ :: rest) n l b ds := al_callG (.inl rfl) hchk hb hc hfun ha h
theorem al_callRg {f : FuncId} {c : List Operand} {as : Array TypeId} {al : List Value} {v : Value} {x : Operand} {j : Nat} {want : Bool} (hg : yv ops n l b j = some want) (hchk : chkQ ops rest.length ks = true) (hb : HasBody P f) (hc : ∀ W, C W → Cl P f al.toArray W (Ret W v))
    (hfun : ev n l b x = .func (.func f) #[] #[]) (ha : c.map (ev n l b) = al) (h : AL ro P ops C ks Q rest n ((d, v) :: l) b ds) :
    AL ro P ops C ks Q (⟨some d, .call { callee := .value x, args := c.toArray, argTypes := as }, T, pos, aft, some (j, want)⟩ :: rest) n l b ds := al_callG (.inr ⟨j, want, rfl, hg⟩) hchk hb hc hfun ha h
theorem al_split {x : Operand} {p : Prop} [Decidable p] (hchk : chkQ ops rest.length ks = true) (hx : ev n l b x = .bool (decide p)) (h1 : p → AL ro P ops C ks Q rest n ((d, .bool true) :: l) b ds) (h2 : ¬ p → AL ro P ops C ks Q rest n ((d, .bool false) :: l) b ds) :
    AL ro P ops C ks Q (⟨some d, .move x, T, pos, aft, none⟩ :: rest) n l b ds := by
  by_cases h : p
  · exact al_y hchk (fun _ _ => y_move (by rw [hx, decide_eq_true h])) (h1 h)
  · exact al_y hchk (fun _ _ => y_move (by rw [hx, decide_eq_false h])) (h2 h)
theorem al_nil (hchk : (Region.ready .any ops.toArray (lst ops.length ops.length)).isEmpty = true) {Q' : Exit → Act → World → Prop} (h : ∀ W, C W → DN Q' .normal n l b ds W) : AL ro P ops C ks (fun a w => Q' .normal a w) [] n l b ds :=
  ⟨fun _ _ w hw => ⟨by simpa using hchk, (h w hw).h⟩⟩

structure NX (ro : Option Nat) (P : Program) (ops : List Oper) (C : World → Prop) (ks : Option Nat) (Q : Act → World → Prop) (rest : List Oper) (n : Nat) (ds : List Deferred) (a : Act) (w : World) : Prop where
  h : ∃ l' b' C' ks', Stable C' ∧ C' w ∧ (ks = some (ops.length - (rest.length + 1)) ∨ (ks' = ks ∧ ∀ w, C' w → C w)) ∧ a = fr n l' b' ds ∧ AL ro P ops C' ks' Q rest n l' b' ds

theorem al_loud {o : Oper} (hchk : chkL ops rest.length = true) (h : ∀ W, C W → LW ro P ops (nQ (NX ro P ops C ks Q rest n ds)) [o] n l b ds W) : AL ro P ops C ks Q (o :: rest) n l b ds := by
  refine ⟨fun inv hst w hw => ?_⟩
  have hrd : Region.ready .any ops.toArray (lst ops.length (ops.length - (rest.length + 1))) = [ops.length - (rest.length + 1)] := by
    unfold chkL at hchk
    split at hchk
    · rename_i j hj; rw [hj, Nat.eq_of_beq_eq_true hchk]
    · cases hchk
  have hget : ops.toArray[ops.length - (rest.length + 1)]? = some o := by simpa using inv.get
  have hn := inv.next (by rw [hrd]; simp)
  refine ⟨fun h0 => ?_, fun i hi => ?_⟩
  · rw [List.length_cons, hrd] at h0; cases h0
  · rw [List.length_cons, hrd, List.mem_singleton] at hi
    subst hi
    have h1 := (h w hw).h
    unfold wpListIn at h1
    have key : ∀ a' w', nQ (NX ro P ops C ks Q rest n ds) .normal a' w' → Cf C ks ((lst ops.length (ops.length - (rest.length + 1))).setIfInBounds (ops.length - (rest.length + 1)) true) w' ∧ ∀ w'', Upd [] w' w'' →
        AT ro P ops.toArray C ks Q rest.length ((lst ops.length (ops.length - (rest.length + 1))).setIfInBounds (ops.length - (rest.length + 1)) true) a' w'' := by
      rintro a' w' ⟨_, ⟨l', b', C', ks', hst', hC', hconv, rfl, hal⟩⟩
      rw [lst_set inv.lt]
      have hself : (lst ops.length (ops.length - (rest.length + 1) + 1)).getD (ops.length - (rest.length + 1)) false = true := by
        rw [lst_get, if_pos inv.lt]; simp
      refine ⟨?_, fun w'' hu => ?_⟩
      · rcases hconv with rfl | ⟨rfl, hc⟩
        · intro h0; rw [hself] at h0; cases h0
        · cases ks' with
          | none => exact hc _ hC'
          | some k => exact fun _ => hc _ hC'
      · have hat := hal.h hn hst' w'' (hst' _ _ hC' hu)
        rw [← inv.succ] at hat
        rcases hconv with rfl | ⟨rfl, hc⟩
        · refine AT.conv (fun listed => listed.getD (ops.length - (rest.length + 1)) false = true) (fun listed i hp => getD_set_true hp) (fun listed w hp _ => ?_) _ _ _ _ hself hat
          intro h0; rw [hp] at h0; cases h0
        · refine AT.conv (fun _ => True) (fun _ _ _ => trivial) (fun listed w _ hcf => ?_) _ _ _ _ trivial hat
          cases ks' with
          | none => exact hc _ hcf
          | some k => exact fun h0 => hc _ (hcf h0)
    unfold wpOpIn
    rw [List.length_cons, hget]
    simp only
    split
    · rename_i hw'
      rw [if_pos hw'] at h1
      exact Oper.wpIn_mono key (wpIn_nQ h1)
    · rename_i hw'
      rw [if_neg hw'] at h1
      exact ⟨h1.1, key _ _ h1.2⟩
theorem nx_keep {w0 : World} {S : List Nat} {H' : List En} (hm : Mem w0 S H' W) (hs : ∀ W, Mem w0 S H' W → C W) (h : AL ro P ops (fun W => Mem w0 S H' W) ks Q rest n l b ds) :
    LW ro P ops (nQ (NX ro P ops C ks Q rest n ds)) [] n l b ds W := wl_nil ⟨rfl, ⟨l, b, _, ks, Mem.stable _ _ _, hm, .inr ⟨rfl, hs⟩, rfl, h⟩⟩
theorem nx_store (ks' : Option Nat) {w0 : World} {S : List Nat} {H' : List En} (hm : Mem w0 S H' W) (hk : ks = some (ops.length - (rest.length + 1))) (h : AL ro P ops (fun W => Mem w0 S H' W) ks' Q rest n l b ds) :
    LW ro P ops (nQ (NX ro P ops C ks Q rest n ds)) [] n l b ds W := wl_nil ⟨rfl, ⟨l, b, _, ks', Mem.stable _ _ _, hm, .inl hk, rfl, h⟩⟩
end

theorem wc_draw {ro : Option Nat} {P : Program} {C : World → Prop} {id : Nat} {lo : List Oper} {Q : Exit → Act → World → Prop} {n : Nat} {l : Slots} {b : Env} {ds : List Deferred} {W : World} (ks : Option Nat) (hmix : P.follows .mixedOrders = true) (hnd : noDefers lo = true) (hsel : Region.noSelect lo.toArray = true) (hst : Stable C)
    (hC : C { W with drawn := W.drawn + 1 }) (h : AL ro P lo C ks (fun a w => Q .normal a w) lo n l b ds) : CW ro P (.region id lo.toArray true) Q n l b ds W := by
  refine ⟨wpIn_region_any hmix ?_⟩
  have h0 := h.h ⟨by simp, Nat.le_refl _, ?_, hnd, hsel⟩ hst _ hC
  · rw [Nat.sub_self, lst_zero] at h0
    have := AT.toAny (Q' := Q) (fun _ _ h => h) _ _ _ _ h0
    simpa using this
  · intro j o _ hj
    rw [Nat.sub_self, lst_get] at hj
    split at hj <;> simp at hj
end Go.Kx
/- Ranging over a function: who ranges, and who yields. -/
namespace Go.Kx
open Go Go.RowKit

structure Gr (F : List Nat) (W : World) (F' : List Nat) (W' : World) : Prop where
  upd : Upd F W W'
  fresh : ∀ b ∈ F', b ∈ F ∨ W.heap.size ≤ b
theorem Gr.refl (F : List Nat) (W : World) : Gr F W F W := ⟨Upd.refl _ _, fun _ h => .inl h⟩
theorem Gr.of {F : List Nat} {W W' : World} (h : Upd [] W W') : Gr F W F W' := ⟨⟨h.os, h.tape, h.output, h.size, fun k hk _ => h.block k hk (by simp)⟩, fun _ h => .inl h⟩
theorem Gr.trans {F F' F'' : List Nat} {W W' W'' : World} (h : Gr F W F' W') (h' : Gr F' W' F'' W'') : Gr F W F'' W'' := by
  refine ⟨⟨h'.upd.os.trans h.upd.os, h'.upd.tape.trans h.upd.tape, h'.upd.output.trans h.upd.output, Nat.le_trans h.upd.size h'.upd.size, fun k hk hF => ?_⟩, fun b hb => ?_⟩
  · have hk' : k ∉ F' := fun hh => by
      rcases h.fresh k hh with h1 | h1
      · exact hF h1
      · omega
    exact (h'.upd.block k (Nat.lt_of_lt_of_le hk h.upd.size) hk').trans (h.upd.block k hk hF)
  · rcases h'.fresh b hb with h1 | h1
    · exact h.fresh b h1
    · exact .inr (Nat.le_trans h.upd.size h1)

def Free (Hp : List En) (F : List Nat) (W : World) : Prop := ∀ e ∈ Hp, e.holds W ∧ ∀ b, e.foot = some b → b ∉ F
theorem Free.gr {Hp : List En} {F F' : List Nat} {W W' : World} (h : Free Hp F W) (hg : Gr F W F' W') : Free Hp F' W' := fun e he => by
  obtain ⟨h1, h2⟩ := h e he
  refine ⟨h1.kept fun b hb => hg.upd.block b (h1.lt hb) (h2 b hb), fun b hb hF => ?_⟩
  rcases hg.fresh b hF with h3 | h3
  · exact h2 b hb h3
  · have := h1.lt hb; omega
theorem Free.upd {Hp : List En} {F : List Nat} {W W' : World} (h : Free Hp F W) (hu : Upd [] W W') : Free Hp F W' := h.gr (Gr.of hu)

structure YieldsTo (P : Program) (lp : Nat) (L : List Value) (J : List Value → List Nat → World → Prop) (D : List Nat → World → Prop) : Prop where
  st : ∀ ys F W W', J ys F W → Upd [] W W' → J ys F W'
  sd : ∀ F W W', D F W → Upd [] W W' → D F W'
  lt : ∀ ys F W, J ys F W → ∀ k ∈ F, k < W.heap.size
  rd : ∀ ys v rest F W, L = ys ++ v :: rest → J ys F W → ∃ f tmps assign body, (Instr.yield lp #[v]).run P W = .ok (.round lp f tmps assign body) W ∧
    RoundIn (FR none) 0 P lp f tmps assign body W (fun e W' => ∃ F', Gr F W F' W' ∧ ((e = .returned (.bool true) ∧ J (ys ++ [v]) F' W') ∨ (e = .returned (.bool false) ∧ D F' W')))

section
variable {P : Program} {ops : List Oper} {Q : Exit → Act → World → Prop} {rest : List Oper} {n : Nat} {l : Slots} {b : Env} {ds : List Deferred} {W : World}
  {d : Nat} {T : TypeId} {pos : String} {aft : Array Edge} {x : Operand}

theorem wl_yield {lp : Nat} {L ys rest' : List Value} {J : List Value → List Nat → World → Prop} {D : List Nat → World → Prop} {F : List Nat} {v : Value} {c : List Operand} {as : Array TypeId} (hy : YieldsTo P lp L J D) (hL : L = ys ++ v :: rest') (hJ : J ys F W)
    (hfun : ev n l b x = .func (.yield lp) #[] #[]) (ha : c.map (ev n l b) = [v])
    (h1 : ∀ W' F', Gr F W F' W' → J (ys ++ [v]) F' W' → LW none P ops Q rest n ((d, .bool true) :: l) b ds W')
    (h2 : ∀ W' F', Gr F W F' W' → D F' W' → LW none P ops Q rest n ((d, .bool false) :: l) b ds W') :
    LW none P ops Q (⟨some d, .call { callee := .value x, args := c.toArray, argTypes := as }, T, pos, aft, none⟩ :: rest) n l b ds W := by
  obtain ⟨f, tmps, assign, body, hrun, hrd⟩ := hy.rd ys v rest' F W hL hJ
  refine wl_round (lp := lp) (f := f) (tmps := tmps) (assign := assign) (body := body) (W' := W) rfl ?_ hrd ?_
  · have ha' : c.toArray.map (ev n l b) = #[v] := by rw [show c.toArray.map (ev n l b) = (c.map (ev n l b)).toArray by simp, ha]
    unfold execOp
    simp only [resolve, hfun, ha', Deferred.ofValue, Sem.run_bind, Sem.run_pure, Result.andThen_ok, invoke, Array.empty_append, Array.append_empty, hrun]
  · rintro e W' ⟨F', hg, ⟨rfl, hJ'⟩ | ⟨rfl, hD⟩⟩
    · exact ⟨_, rfl, h1 W' F' hg hJ'⟩
    · exact ⟨_, rfl, h2 W' F' hg hD⟩
end

def feet (H : List En) : List Nat := H.filterMap En.foot
theorem mem_feet {H : List En} {k : Nat} : k ∈ feet H ↔ ∃ e ∈ H, e.foot = some k := by simp [feet, List.mem_filterMap]
theorem Mem.rebase {w0 W : World} {S : List Nat} {H : List En} (h : Mem w0 S H W) : Mem W (feet H) H W :=
  ⟨Upd.refl _ _, h.all, fun e he k hk _ => mem_feet.2 ⟨e, he, hk⟩, h.apart⟩
theorem Mem.back {w0 W W' : World} {S : List Nat} {H H' : List En} (h : Mem w0 S H W) (h' : Mem W (feet H) H' W') : Mem w0 S H' W' := by
  refine ⟨⟨h'.upd.os.trans h.upd.os, h'.upd.tape.trans h.upd.tape, h'.upd.output.trans h.upd.output, Nat.le_trans h.upd.size h'.upd.size, fun k hk hS => ?_⟩, h'.all, fun e he k hk hlt => ?_, h'.apart⟩
  · refine (h'.upd.block k (Nat.lt_of_lt_of_le hk h.upd.size) fun hf => ?_).trans (h.upd.block k hk hS)
    obtain ⟨e, he, hek⟩ := mem_feet.1 hf
    exact hS (h.old e he k hek hk)
  · have := h'.old e he k hk (Nat.lt_of_lt_of_le hlt h.upd.size)
    obtain ⟨e', he', hek⟩ := mem_feet.1 this
    exact h.old e' he' k hek hlt
theorem Mem.gr {W W' : World} {H H' : List En} (h' : Mem W (feet H) H' W') : Gr (feet H) W (feet H') W' := by
  refine ⟨h'.upd, fun k hk => ?_⟩
  obtain ⟨e, he, hek⟩ := mem_feet.1 hk
  rcases Nat.lt_or_ge k W.heap.size with h1 | h1
  · exact .inl (h'.old e he k hek h1)
  · exact .inr h1

theorem Mem.own_shape {w0 W : World} {S : List Nat} {H : List En} (h : Mem w0 S H W) (i : Nat) {e : TypeId} {size : Nat} {v : Value} {n : Nat} {xs : List Value} (hi : H[i]? = some (.own e size v n xs)) : v.cells = #[v] ∧ v.oneCell' = true := by
  obtain ⟨_, ⟨rfl, _⟩ | ⟨g, cap, cur, rfl, _⟩⟩ := (h.at hi : W.ownsRow 0 e size v n xs) <;> exact ⟨rfl, rfl⟩

def blockEn (bd : Nat) : En := .obj bd (fun o => o = .deferred (some []))
def loopEn (lp : Nat) (r : Loop) : En := .obj lp (fun o => o = .loop r)
def theLoop (fn : FuncId) (tmps : Array Value) (ps : Array Tmp) (assign body : Code) (bd : Nat) (st : LoopState) (pd : Option Code) : Loop := { state := st, pending := pd, fn, tmps, params := ps, assign, body, defers := bd }

def RoundR (H : List En) (I : List En → Prop) (ID : List En → Prop) (W : World) (bd lp : Nat) (r : LoopState → Option Code → Loop) (e : Ending) (W' : World) : Prop :=
  ∃ H', Mem W (feet H) H' W' ∧ ((e = .returned (.bool true) ∧ ∃ E, I E ∧ H' = blockEn bd :: loopEn lp (r .ready none) :: E) ∨ (e = .returned (.bool false) ∧ ∃ E, ID E ∧ H' = blockEn bd :: loopEn lp (r .done (some .ret)) :: E))

def AsgQ (P : Program) (lp : Nat) (body : Code) (R : Ending → World → Prop) : Exit → Act → World → Prop :=
  Exit.then (fun a₁ w₁ => ∃ w₂, (Instr.beginRound lp).run P w₁ = .ok () w₂ ∧ body.wpIn (FR (some lp)) 0 P (roundPost P lp R) a₁ w₂) (fun _ _ _ => False)

section
variable {P : Program} {Q : Exit → Act → World → Prop} {n : Nat} {l : Slots} {b : Env} {ds : List Deferred} {W w0 : World} {S : List Nat} {H : List En}

theorem run_beginRound {lp : Nat} {r : Loop} (ho : W.heap[lp]? = some (.loop r)) (hr : r.state = .ready) : (Instr.beginRound lp).run P W = .ok () { W with heap := W.heap.setIfInBounds lp (.loop { r with state := .busy }) } := by
  have hlt : lp < W.heap.size := (Array.getElem?_eq_some_iff.1 ho).1
  simp [Instr.beginRound, Instr.getLoop, getObj, setObj, Sem.run_bind, Sem.run, ho, hr, Result.andThen]
theorem run_endRound {lp : Nat} {r : Loop} {j : Option Code} (ho : W.heap[lp]? = some (.loop r)) : (Instr.endRound lp j).run P W = .ok (.bool j.isNone) { W with heap := W.heap.setIfInBounds lp (.loop { r with state := if j.isNone then .ready else .done, pending := j }) } := by
  simp [Instr.endRound, Instr.getLoop, getObj, setObj, Sem.run_bind, Sem.run, ho, Result.andThen]
theorem run_endLoop {lp : Nat} {r : Loop} (ho : W.heap[lp]? = some (.loop r)) (hr : ¬ r.state = .busy) : (Instr.endLoop lp).run P W = .ok r.pending { W with heap := W.heap.setIfInBounds lp (.loop { r with state := .exhausted }) } := by
  simp [Instr.endLoop, Instr.getLoop, getObj, setObj, Sem.run_bind, Sem.run, ho, hr, Result.andThen]

theorem run_yield1 {lp p : Nat} {r : Loop} {v : Value} (ho : W.heap[lp]? = some (.loop r)) (hp : r.params = #[p]) : (Instr.yield lp #[v]).run P W = .ok (.round lp r.fn (r.tmps.setIfInBounds p v) r.assign r.body) W := by
  simp [Instr.yield, Instr.getLoop, getObj, Sem.run_bind, Sem.run, ho, hp, Result.andThen]

theorem begin_round {lp bd : Nat} {rr : LoopState → Option Code → Loop} {fn : FuncId} {tmps : Array Value} {ps : Array Tmp} {assign body c : Code} {R : Ending → World → Prop} {E : List En} (hr : rr = theLoop fn tmps ps assign c bd) (hm : Mem w0 S (blockEn bd :: loopEn lp (rr .ready none) :: E) W)
    (h : ∀ W', Mem w0 S (blockEn bd :: loopEn lp (rr .busy none) :: E) W' → CW (some lp) P body (roundPost P lp R) n l b ds W') : DN (AsgQ P lp body R) .normal n l b ds W := by
  subst hr
  obtain ⟨o, ho, rfl⟩ := hm.at (i := 1) rfl
  exact ⟨_, run_beginRound ho rfl, (h _ (obj_turn (i := 1) hm rfl rfl)).h⟩
theorem end_round {lp bd : Nat} {rr : LoopState → Option Code → Loop} {fn : FuncId} {tmps : Array Value} {ps : Array Tmp} {assign c : Code} {I ID : List En → Prop} {H0 E : List En} {wr : World} (hr : rr = theLoop fn tmps ps assign c bd) (hS : S = feet H0)
    (hm : Mem wr S (blockEn bd :: loopEn lp (rr .busy none) :: E) W) (hI : I E) : DN (roundPost P lp (RoundR H0 I ID wr bd lp rr)) .normal n l b ds W := by
  subst hr; subst hS
  obtain ⟨o, ho, rfl⟩ := hm.at (i := 1) rfl
  exact ⟨_, _, run_endRound ho, _, obj_turn (i := 1) (p' := (fun o => o = .loop (theLoop fn tmps ps assign c bd .ready none))) hm rfl rfl, .inl ⟨rfl, E, hI, rfl⟩⟩
theorem ret_round {lp bd : Nat} {rr : LoopState → Option Code → Loop} {fn : FuncId} {tmps : Array Value} {ps : Array Tmp} {assign c : Code} {I ID : List En → Prop} {H0 E : List En} {wr : World} (hr : rr = theLoop fn tmps ps assign c bd) (hS : S = feet H0)
    (hm : Mem wr S (blockEn bd :: loopEn lp (rr .busy none) :: E) W) (hI : ID E) : DN (roundPost P lp (RoundR H0 I ID wr bd lp rr)) .ret n l b ds W := by
  subst hr; subst hS
  obtain ⟨o, ho, rfl⟩ := hm.at (i := 1) rfl
  exact ⟨_, _, run_endRound ho, _, obj_turn (i := 1) (p' := (fun o => o = .loop (theLoop fn tmps ps assign c bd .done (some .ret)))) hm rfl rfl, .inr ⟨rfl, E, hI, rfl⟩⟩
def mark (bd : Nat) : Deferred := { target := .collected bd, args := #[] }

theorem wc_rangeFunc {g : Operand} {p : Nat} {assign body : Code} {f : FuncId} {cap : List Value} {Hp : List En} (hm : Mem w0 S (H ++ Hp) W) (hg : ev n l b g = .func (.func f) #[] cap.toArray) (hb : HasBody P f)
    (L : List Value) (I : List Value → List En → Prop) (ID : List En → Prop) (Hs : List En) (hI : I [] H) (hHs : ∀ ys E, I ys E → ∀ e ∈ Hs, e ∈ E)
    (hprod : ∀ lp J D F W', YieldsTo P lp L J D → ((∀ E, ¬ ID E) → ∀ F W, ¬ D F W) → (∀ ys F W, J ys F W → ∀ e ∈ Hs, e.holds W) → J [] F W' → Free Hp F W' → Cl P f (.func (.yield lp) #[] #[] :: cap).toArray W' (fun e W'' => (∃ v, e = .returned v) ∧ ∃ F', (J L F' W'' ∨ D F' W'')))
    (hround : ∀ bd lp fn ys v rest E Wr SR rr, L = ys ++ v :: rest → I ys E → rr = theLoop fn (fr n l b ds).tmps #[p] assign body bd → SR = feet (blockEn bd :: loopEn lp (rr .ready none) :: E) → Mem Wr SR (blockEn bd :: loopEn lp (rr .ready none) :: E) Wr →
      CW (some lp) P assign (AsgQ P lp body (RoundR (blockEn bd :: loopEn lp (rr .ready none) :: E) (I (ys ++ [v])) ID Wr bd lp rr)) n ((p, v) :: l) b [] Wr)
    (hdone : ∀ bd lp r W' E, I L E → Mem w0 S (blockEn bd :: loopEn lp r :: E) W' → DN Q .normal n l b (mark bd :: ds) W')
    (hret : ∀ bd lp r W' E, ID E → Mem w0 S (blockEn bd :: loopEn lp r :: E) W' → DN Q .ret n l b (mark bd :: ds) W') :
    CW none P (.rangeFunc g #[p] assign body) Q n l b ds W := by
  refine ⟨wpIn_rangeFunc fun fn _ => ?_⟩
  let bd := W.heap.size
  let lp := W.heap.size + 1
  let rr := theLoop fn (fr n l b ds).tmps #[p] assign body bd
  let W1 := (W.alloc (.deferred (some []))).alloc (.loop (rr .ready none))
  have hs1 : (W.alloc (.deferred (some []))).heap.size = W.heap.size + 1 := Array.size_push ..
  have hbd : W1.heap[bd]? = some (.deferred (some [])) := by
    show ((W.alloc (.deferred (some []))).heap.push _)[bd]? = _
    rw [Array.getElem?_push, hs1, if_neg (by show ¬ W.heap.size = W.heap.size + 1; omega)]
    exact heap_alloc_new W _
  have hlp : W1.heap[lp]? = some (.loop (rr .ready none)) := by
    have := heap_alloc_new (W.alloc (.deferred (some []))) (.loop (rr .ready none))
    rwa [hs1] at this
  have hu1 : Upd [] W W1 := (upd_alloc W _).trans (upd_alloc _ _)
  have hmW1 := hm.step hu1
  have hlt : ∀ e ∈ H ++ Hp, ∀ k, e.foot = some k → k < W.heap.size := fun e he k hk => (hm.all e he).lt hk
  have hw0 := hm.upd.size
  have hm1 : Mem w0 S (blockEn bd :: loopEn lp (rr .ready none) :: (H ++ Hp)) W1 := by
    refine ⟨hmW1.upd, ?_, ?_, ?_⟩
    · intro e he
      rcases List.mem_cons.1 he with rfl | he
      · exact ⟨_, hbd, rfl⟩
      · rcases List.mem_cons.1 he with rfl | he
        · exact ⟨_, hlp, rfl⟩
        · exact hmW1.all e he
    · intro e he k hk hkl
      rcases List.mem_cons.1 he with rfl | he
      · simp only [blockEn, En.foot, Option.some.injEq] at hk
        have : bd = W.heap.size := rfl
        omega
      · rcases List.mem_cons.1 he with rfl | he
        · simp only [loopEn, En.foot, Option.some.injEq] at hk
          have : lp = W.heap.size + 1 := rfl
          omega
        · exact hmW1.old e he k hk hkl
    · refine List.pairwise_cons.2 ⟨fun e he k hk hk' => ?_, List.pairwise_cons.2 ⟨fun e he k hk hk' => ?_, hmW1.apart⟩⟩
      · simp only [blockEn, En.foot, Option.some.injEq] at hk
        have hbd' : bd = W.heap.size := rfl
        rcases List.mem_cons.1 he with rfl | he
        · simp only [loopEn, En.foot, Option.some.injEq] at hk'
          have : lp = W.heap.size + 1 := rfl
          omega
        · have := hlt e he k hk'; omega
      · simp only [loopEn, En.foot, Option.some.injEq] at hk
        have : lp = W.heap.size + 1 := rfl
        have := hlt e he k hk'; omega
  refine ⟨lp, [mark bd], W1, { target := .fn (.func f) cap.toArray, args := #[] ++ #[.func (.yield lp) #[] #[]] }, W1, f, (.func (.yield lp) #[] #[] :: cap).toArray, W1, ?_, ?_, fun _ _ => trivial, ?_, (fun hh => by cases hh), ?_⟩
  · show (Instr.enterLoop fn (fr n l b ds).tmps #[p] assign body none).run P W = _
    have hnew : ∀ (o : Obj) (W : World), (Sem.new o Sem.pure : Sem Nat).run P W = .ok W.heap.size (W.alloc o) := fun _ _ => rfl
    simp only [Instr.enterLoop, newObj, Sem.run_bind, Sem.run_pure, hnew, Result.andThen_ok, hs1]
    rfl
  · rw [eval_fr]
    simp only [resolve, Deferred.ofValue, List.map_toArray, List.map_cons, List.map_nil, hg, Sem.run_bind, Sem.run_pure, Result.andThen_ok]
    rfl
  · simp only [invoke, hb _ W1]
    congr 2
    simp
  · let J : List Value → List Nat → World → Prop := fun ys F W' => ∃ E, I ys E ∧ Mem w0 S (blockEn bd :: loopEn lp (rr .ready none) :: E) W' ∧ F = feet (blockEn bd :: loopEn lp (rr .ready none) :: E)
    let D : List Nat → World → Prop := fun F W' => ∃ E, ID E ∧ Mem w0 S (blockEn bd :: loopEn lp (rr .done (some .ret)) :: E) W' ∧ F = feet (blockEn bd :: loopEn lp (rr .done (some .ret)) :: E)
    have hY : YieldsTo P lp L J D := by
      refine ⟨?_, ?_, ?_, ?_⟩
      · rintro ys F W W' ⟨E, h1, h2, h3⟩ hu; exact ⟨E, h1, h2.step hu, h3⟩
      · rintro F W W' ⟨E, h1, h2, h3⟩ hu; exact ⟨E, h1, h2.step hu, h3⟩
      · rintro ys F W ⟨E, _, h2, rfl⟩ k hk
        obtain ⟨e, he, hek⟩ := mem_feet.1 hk
        exact (h2.all e he).lt hek
      · rintro ys v rest F W hL ⟨E, hIE, hmE, rfl⟩
        obtain ⟨o, ho, rfl⟩ := hmE.at (i := 1) rfl
        refine ⟨fn, (fr n ((p, v) :: l) b ds).tmps, assign, body, ?_, ?_⟩
        · rw [run_yield1 ho rfl, ← put_fr]
          rfl
        · have hrd := hround bd lp fn ys v rest E W _ rr hL hIE rfl rfl hmE.rebase
          refine (roundIn_of_wpIn (F := FR none) (n := 0) trivial hrd.h).mono ?_
          rintro e W' ⟨H', hmH, ⟨rfl, E', hI', rfl⟩ | ⟨rfl, E', hI', rfl⟩⟩
          · exact ⟨_, hmH.gr, .inl ⟨rfl, E', hI', hmE.back hmH, rfl⟩⟩
          · exact ⟨_, hmH.gr, .inr ⟨rfl, E', hI', hmE.back hmH, rfl⟩⟩
    have hmH : Mem w0 S (blockEn bd :: loopEn lp (rr .ready none) :: H) W1 := hm1.sub (by
      refine List.Sublist.cons_cons _ (List.Sublist.cons_cons _ ?_); exact List.sublist_append_left H Hp)
    have hfree : Free Hp (feet (blockEn bd :: loopEn lp (rr .ready none) :: H)) W1 := fun e he => by
      refine ⟨hmW1.all e (List.mem_append_right _ he), fun k hk hkF => ?_⟩
      obtain ⟨e', he', hk'⟩ := mem_feet.1 hkF
      have hap := hm1.apart
      have hkl := hlt e (List.mem_append_right _ he) k hk
      rcases List.mem_cons.1 he' with rfl | he'
      · simp only [blockEn, En.foot, Option.some.injEq] at hk'
        have : bd = W.heap.size := rfl
        omega
      · rcases List.mem_cons.1 he' with rfl | he'
        · simp only [loopEn, En.foot, Option.some.injEq] at hk'
          have : lp = W.heap.size + 1 := rfl
          omega
        · exact (List.pairwise_append.1 hm.apart).2.2 e' he' e he k hk' hk
    have hc := hprod lp J D (feet (blockEn bd :: loopEn lp (rr .ready none) :: H)) W1 hY (fun hn F W ⟨E, h1, _⟩ => hn E h1) (fun ys F W ⟨E, h1, h2, _⟩ e he => h2.all e (List.mem_cons_of_mem _ (List.mem_cons_of_mem _ (hHs ys E h1 e he)))) ⟨H, hI, hmH, rfl⟩ hfree
    refine CallsIn.mono (hc.at none) ?_
    rintro e W3 ⟨⟨v, rfl⟩, F', ⟨E, hIE, hmE, _⟩ | ⟨E, hIE, hmE, _⟩⟩
    · obtain ⟨o, ho, rfl⟩ := hmE.at (i := 1) rfl
      refine ⟨none, _, run_endLoop ho (by intro h; cases h), ?_⟩
      exact (hdone bd lp (theLoop fn (fr n l b ds).tmps #[p] assign body bd .exhausted none) _ E hIE (obj_turn (i := 1) hmE rfl rfl)).h
    · obtain ⟨o, ho, rfl⟩ := hmE.at (i := 1) rfl
      refine ⟨some .ret, _, run_endLoop ho (by intro h; cases h), ?_⟩
      exact wpIn_ret (hret bd lp (theLoop fn (fr n l b ds).tmps #[p] assign body bd .exhausted (some .ret)) _ E hIE (obj_turn (i := 1) hmE rfl rfl)).h

theorem leaves_mark {fn : Func} {R : Ending → World → Prop} {bd : Nat} {v : Value} (hm : Mem w0 S (blockEn bd :: H) W) (hr : ∀ W', Mem w0 S H W' → (results fn (fr n l b []).tmps).run P W' = .ok v W') (hR : ∀ W', Mem w0 S H W' → R (.returned v) W') :
    LeavesInM (FR none) 0 P fn (fr n l b []).tmps R [mark bd] .returning W := by
  obtain ⟨o, ho, rfl⟩ := hm.at (i := 0) rfl
  have hm' : Mem w0 S H { W with heap := W.heap.setIfInBounds bd (.deferred none) } := (obj_turn (i := 0) (p' := fun o => o = .deferred none) hm rfl rfl).drop 1
  refine ⟨(fun h => by cases h), .inl ⟨bd, _, rfl, ?_, v, hr _ hm', hR _ hm'⟩⟩
  simp [Instr.takeDeferred, getObj, setObj, Sem.run_bind, Sem.run, ho, Result.andThen]
theorem post_retM {fn : Func} {R : Ending → World → Prop} {bd : Nat} {v : Value} (hm : Mem w0 S (blockEn bd :: H) W) (hr : ∀ W', Mem w0 S H W' → (results fn (fr n l b []).tmps).run P W' = .ok v W') (hR : ∀ W', Mem w0 S H W' → R (.returned v) W') :
    DN (bodyPostM (FR none) 0 P fn R) .ret n l b [mark bd] W := ⟨leaves_mark hm hr hR⟩
theorem post_ret0M {fn : Func} {R : Ending → World → Prop} {v : Value} (hr : (results fn (fr n l b []).tmps).run P W = .ok v W) (hR : R (.returned v) W) : DN (bodyPostM (FR none) 0 P fn R) .ret n l b [] W := ⟨v, hr, hR⟩
end

section
variable {ro : Option Nat} {P : Program} {ops rest : List Oper} {C : World → Prop} {ks : Option Nat} {Q : Act → World → Prop} {n : Nat} {l : Slots} {b : Env} {ds : List Deferred} {W : World} {ρ : Operand → Value} {T t t' : TypeId} {x y : Operand}
theorem nx_any (ks' : Option Nat) (C' : World → Prop) (hst : Stable C') (hC : C' W) (hk : ks = some (ops.length - (rest.length + 1))) (h : AL ro P ops C' ks' Q rest n l b ds) :
    LW ro P ops (nQ (NX ro P ops C ks Q rest n ds)) [] n l b ds W := wl_nil ⟨rfl, ⟨l, b, C', ks', hst, hC, .inl hk, rfl, h⟩⟩
theorem y_concat {a c : ByteArray} (hx : ρ x = .string a) (hy : ρ y = .string c) (hs : a.size + c.size ≤ 9223372036854775807) : Y P ρ (.binOp .add t x y t') T (.string (a ++ c)) W := by
  unfold Y execOp
  have h : ¬ ((a.size + c.size : Nat) : Int) > IntKind.i64.max := by
    have : IntKind.i64.max = 9223372036854775807 := by decide
    omega
  simp only [hx, hy, eqGuard_add, Sem.run_bind, Sem.run_pure, Result.andThen_ok, binOp_string_add, Op.stringOp, if_neg h]
end
end Go.Kx
/- Results that lie in cells. -/
namespace Go.Kx
open Go Go.RowKit

section
variable {P : Program} {n : Nat} {l : Slots} {b : Env} {ds : List Deferred} {W : World} {u : TypeDesc}

theorem run_loadVar_agg {T : TypeId} {bk : Nat} {xs : List Value} {zv : Value} {by_ : Nat} (hB : (En.blk bk T xs).holds W) (hu : P.underlying T = some u) (ha : aggD u = true) (hti : TI P T zv xs.length by_) : (loadVar T ⟨bk, 0, none⟩).run P W = .ok (.agg xs.toArray) W := by
  obtain ⟨i, hi, _, hs, _⟩ := hti.parts
  have hl := run_loadCells_list (P := P) W ⟨bk, 0, none⟩ xs (fun j w hw => by rw [addr_add, Nat.zero_add]; exact blk_cell hB hw)
  simp only [loadVar, Sem.run_bind, run_isAgg W T hu, ha, Result.andThen_ok, if_true, sizeOf, run_typeInfo W hi, hs, hl, Sem.run_pure]
theorem run_loadVar_one {T : TypeId} {bk : Nat} {v : Value} {T' : TypeId} (hB : (En.blk bk T' [v]).holds W) (hu : P.underlying T = some u) (ha : aggD u = false) : (loadVar T ⟨bk, 0, none⟩).run P W = .ok v W := by
  have hc := blk_cell hB (j := 0) rfl
  simp only [loadVar, Sem.run_bind, run_isAgg W T hu, ha, Result.andThen_ok]
  simp [load, Sem.run, hc]

theorem run_addr (P : Program) (bk : Nat) (W : World) : (asAddr (.pointer (some ⟨bk, 0, none⟩))).run P W = .ok ⟨bk, 0, none⟩ W := by simp only [asAddr, Sem.run_pure]
theorem results_c1 {fn : Func} {t : Nat} {T : TypeId} {bk : Nat} {v : Value} (h : fn.results = #[.cell t T]) (hv : ev n l b (.tmp t) = .pointer (some ⟨bk, 0, none⟩)) (hl : (loadVar T ⟨bk, 0, none⟩).run P W = .ok v W) :
    (results fn (fr n l b ds).tmps).run P W = .ok v W := by
  have hg : (fr n l b ds).tmps.getD t undef = .pointer (some ⟨bk, 0, none⟩) := (getD_fr t).trans hv
  have e : (results fn (fr n l b ds).tmps).run P W = ((asAddr ((fr n l b ds).tmps.getD t undef)).run P W).andThen fun a w₁ => (loadVar T a).run P w₁ := by
    generalize (fr n l b ds).tmps = tmps
    simp only [results, h]
    simp [Sem.run_bind, Result.andThen]
  rw [e, hg, run_addr, Result.andThen_ok, hl]
theorem results_c3 {fn : Func} {t t' t'' : Nat} {T T' T'' : TypeId} {bk bk' bk'' : Nat} {v v' v'' : Value} (h : fn.results = #[.cell t T, .cell t' T', .cell t'' T'']) (hv : ev n l b (.tmp t) = .pointer (some ⟨bk, 0, none⟩)) (hv' : ev n l b (.tmp t') = .pointer (some ⟨bk', 0, none⟩)) (hv'' : ev n l b (.tmp t'') = .pointer (some ⟨bk'', 0, none⟩))
    (hl : (loadVar T ⟨bk, 0, none⟩).run P W = .ok v W) (hl' : (loadVar T' ⟨bk', 0, none⟩).run P W = .ok v' W) (hl'' : (loadVar T'' ⟨bk'', 0, none⟩).run P W = .ok v'' W) :
    (results fn (fr n l b ds).tmps).run P W = .ok (.tuple #[v, v', v'']) W := by
  have hg : (fr n l b ds).tmps.getD t undef = .pointer (some ⟨bk, 0, none⟩) := (getD_fr t).trans hv
  have hg' : (fr n l b ds).tmps.getD t' undef = .pointer (some ⟨bk', 0, none⟩) := (getD_fr t').trans hv'
  have hg'' : (fr n l b ds).tmps.getD t'' undef = .pointer (some ⟨bk'', 0, none⟩) := (getD_fr t'').trans hv''
  have e : (results fn (fr n l b ds).tmps).run P W = ((asAddr ((fr n l b ds).tmps.getD t undef)).run P W).andThen fun a w₁ => ((loadVar T a).run P w₁).andThen fun v w₂ => ((asAddr ((fr n l b ds).tmps.getD t' undef)).run P w₂).andThen fun a w₁ => ((loadVar T' a).run P w₁).andThen fun v' w₂ =>
      ((asAddr ((fr n l b ds).tmps.getD t'' undef)).run P w₂).andThen fun a w₁ => ((loadVar T'' a).run P w₁).andThen fun v'' w₂ => .ok (.tuple #[v, v', v'']) w₂ := by
    generalize (fr n l b ds).tmps = tmps
    simp only [results, h]
    simp [Sem.run_bind, Result.andThen]
  rw [e]
  simp only [hg, hg', hg'', run_addr, Result.andThen_ok, hl, hl', hl'']
end

section
variable {P : Program} {ρ : Operand → Value} {T : TypeId} {W : World} {x y : Operand} {k k' : IntKind} {a c : Int} {t t' : TypeId} {u : TypeDesc}
def andI (k : IntKind) (a c : Int) : Int := k.wrap ((BitVec.ofInt k.bits a &&& BitVec.ofInt k.bits c).toNat)
theorem y_andB (hx : ρ x = .int k a) (hy : ρ y = .int k c) : Y P ρ (.binOp .and t x y t') T (.int k (andI k a c)) W := by
  refine y_bits (.inl rfl) hx hy ?_
  simp only [Op.intBits]; rfl
theorem y_convW (h : ρ x = .int k a) (hs : P.underlying t = some u) (hd : P.underlying t' = some (.int k')) : Y P ρ (.convert t t' x) T (.int k' (k'.wrap a)) W := by
  unfold Y execOp
  simp only [h]
  have : (convert t t' (.int k a)).run P W = .ok (.int k' (k'.wrap a)) W := by
    unfold convert
    simp only [Sem.run_bind, run_underlying' P W t u hs, run_underlying' P W t' _ hd, Result.andThen_ok]
    cases u <;> simp [Conv.intToInt]
  simp only [Sem.run_bind, Sem.run_pure, Result.andThen_ok, this]
theorem y_shrNI {m : Nat} (hx : ρ x = .int .i64 (m : Int)) (hy : ρ y = .int k' c) (h : 0 ≤ c ∧ c < 64) : Y P ρ (.binOp .shr t x y t') T (.int .i64 ((m >>> c.toNat : Nat) : Int)) W := by
  have := y_shr64 (P := P) (T := T) (W := W) (t := t) (t' := t') hx hy ⟨h.1, h.2, by omega⟩
  simpa using this
def andNotI (k : IntKind) (a c : Int) : Int := k.wrap ((BitVec.ofInt k.bits a &&& ~~~(BitVec.ofInt k.bits c)).toNat)
end
end Go.Kx
/- Maps. -/
namespace Go.Kx
open Go Go.RowKit

def entL {κ : Type} (enc : κ → Value) : List (κ × Value) → Nat → List MapEntry
  | [], _ => []
  | p :: kv, i => { key := enc p.1, val := p.2, born := i } :: entL enc kv (i + 1)
def mapO {κ : Type} (enc : κ → Value) (kv : List (κ × Value)) : Obj := .map (entL enc kv 0).toArray kv.length
def mapEn {κ : Type} (enc : κ → Value) (m : Nat) (kv : List (κ × Value)) : En := .obj m (fun o => o = mapO enc kv)
def iterO (m n : Nat) (seen : List Nat) : Obj := .mapIter (some m) n seen.toArray n
def iterEn (r m n : Nat) (seen : List Nat) : En := .obj r (fun o => o = iterO m n seen)

set_option linter.unusedSectionVars false
section
variable {κ : Type} [DecidableEq κ]
def kvFind : List (κ × Value) → κ → Nat → Option (Nat × Value)
  | [], _, _ => none
  | p :: kv, k, i => if k = p.1 then some (i, p.2) else kvFind kv k (i + 1)
def kvSet : List (κ × Value) → κ → Value → List (κ × Value)
  | [], k, v => [(k, v)]
  | p :: kv, k, v => if k = p.1 then (k, v) :: kv else p :: kvSet kv k v
def kvGet (kv : List (κ × Value)) (k : κ) (z : Value) : Value := match kvFind kv k 0 with | some x => x.2 | none => z
def kvHas (kv : List (κ × Value)) (k : κ) : Bool := (kvFind kv k 0).isSome

theorem entL_len (enc : κ → Value) : ∀ (kv : List (κ × Value)) (i : Nat), (entL enc kv i).length = kv.length
  | [], _ => rfl
  | _ :: kv, i => by simp [entL, entL_len enc kv (i + 1)]
theorem entL_snoc (enc : κ → Value) (k : κ) (v : Value) : ∀ (kv : List (κ × Value)) (i : Nat), entL enc (kv ++ [(k, v)]) i = entL enc kv i ++ [{ key := enc k, val := v, born := i + kv.length }]
  | [], i => by simp [entL]
  | p :: kv, i => by
    simp only [List.cons_append, entL, entL_snoc enc k v kv (i + 1), List.length_cons]
    congr 4; omega
theorem kvSet_none {k : κ} {v : Value} : ∀ {kv : List (κ × Value)} {i : Nat}, kvFind kv k i = none → kvSet kv k v = kv ++ [(k, v)]
  | [], _, _ => rfl
  | p :: kv, i, h => by
    unfold kvFind at h
    split at h
    · cases h
    · rename_i hne
      simp only [kvSet, if_neg hne, kvSet_none h, List.cons_append]
theorem kvFind_ge {k : κ} : ∀ {kv : List (κ × Value)} {i j : Nat} {u : Value}, kvFind kv k i = some (j, u) → i ≤ j ∧ j < i + kv.length
  | [], _, _, _, h => by cases h
  | p :: kv, i, j, u, h => by
    unfold kvFind at h
    split at h
    · obtain ⟨rfl, _⟩ := Prod.mk.inj (Option.some.inj h); simp
    · have := kvFind_ge h; simp only [List.length_cons]; omega
theorem entL_set (enc : κ → Value) (k : κ) (v : Value) : ∀ {kv : List (κ × Value)} {i j : Nat} {u : Value}, kvFind kv k i = some (j, u) →
    (entL enc kv i).modify (j - i) (fun e => { e with key := enc k, val := v }) = entL enc (kvSet kv k v) i ∧ ((entL enc kv i)[j - i]?).map (·.key) = some (enc k)
  | [], _, _, _, h => by cases h
  | p :: kv, i, j, u, h => by
    have hge := kvFind_ge h
    unfold kvFind at h
    split at h
    · rename_i he
      obtain ⟨rfl, _⟩ := Prod.mk.inj (Option.some.inj h)
      rw [Nat.sub_self]
      refine ⟨?_, ?_⟩
      · simp only [entL, kvSet, if_pos he, List.modify_zero_cons]
      · simp [entL, he]
    · rename_i hne
      have hge' := kvFind_ge h
      obtain ⟨h1, h2⟩ := entL_set enc k v h
      obtain ⟨d, rfl⟩ : ∃ d, j = i + 1 + d := ⟨j - (i + 1), by omega⟩
      rw [show i + 1 + d - i = d + 1 by omega]
      rw [show i + 1 + d - (i + 1) = d by omega] at h1 h2
      refine ⟨?_, ?_⟩
      · simp only [entL, kvSet, if_neg hne, List.modify_succ_cons, h1]
      · simpa [entL] using h2

structure KeyOk (P : Program) (t : TypeId) (enc : κ → Value) : Prop where
  chk : ∀ k e W, (Instr.checkKey e 10000 t (enc k)).run P W = .ok () W
  find : ∀ k kv W, (Instr.findKey t (enc k) (entL enc kv 0)).run P W = .ok (kvFind kv k 0) W
  stay : ∀ k, Instr.sameBits 10000 (enc k) (enc k) = true
end

theorem findNow_int {k : IntKind} {k0 : IntKind} (z : Int) : ∀ (kv : List (Int × Value)) (j i : Nat), Instr.findNow (.int k0) (.int k z) (entL (Value.int k) kv j) i = some (kvFind kv z i)
  | [], _, _ => rfl
  | p :: kv, j, i => by
    simp only [entL, Instr.findNow, Instr.sameNow, if_true, kvFind]
    by_cases h : z = p.1
    · have hb : (z == p.1) = true := by simp [h]
      simp only [hb, if_pos h]
    · have hb : (z == p.1) = false := by simp [h]
      simp only [hb, if_neg h, findNow_int z kv (j + 1) (i + 1)]
theorem keyOk_int {P : Program} {t : TypeId} {k : IntKind} (ht : P.underlying t = some (.int k)) : KeyOk P t (Value.int k) where
  chk := fun z e W => by
    unfold Instr.checkKey
    simp only [Sem.run_bind, run_underlying' P W t _ ht, Result.andThen_ok, Sem.run_pure]
  find := fun z kv W => by
    unfold Instr.findKey
    simp only [Sem.run_bind, run_underlying' P W t _ ht, Result.andThen_ok, findNow_int, Sem.run_pure]
  stay := fun z => by simp [Instr.sameBits]

section
variable {κ : Type} [DecidableEq κ] {enc : κ → Value} {ro : Option Nat} {P : Program} {ops : List Oper} {Q : Exit → Act → World → Prop} {rest : List Oper} {n : Nat} {l : Slots} {b : Env} {ds : List Deferred} {W W' w0 : World} {S : List Nat} {H : List En}
  {d : Nat} {T t kt et : TypeId} {pos : String} {aft : Array Edge} {x y z : Operand} {ρ : Operand → Value}

theorem y_lookup {m : Nat} {kv : List (κ × Value)} {k : κ} {zv : Value} {size by_ : Nat} (hm : (mapEn enc m kv).holds W) (hx : ρ x = .map (some m)) (hy : ρ y = enc k) (ht : P.underlying t = some (.map kt et)) (hk : KeyOk P kt enc) (hz : TI P et zv size by_) :
    Y P ρ (.lookup t x y false) T (kvGet kv k zv) W := by
  obtain ⟨o, ho, rfl⟩ := hm
  obtain ⟨i, hi, hzv, _, _⟩ := hz.parts
  have hg : (getObj m).run P W = .ok (mapO enc kv) W := by simp [getObj, Sem.run, ho, mapO]
  unfold Y execOp
  simp only [hx, hy, Instr.lookup, Sem.run_bind, Sem.run_pure, run_underlying' P W t _ ht, Result.andThen_ok, hg, mapO, hk.chk, hk.find]
  unfold kvGet
  cases kvFind kv k 0 with
  | none => simp only [Sem.run_bind, Sem.run_pure, zeroValue, run_typeInfo W hi, hzv, Result.andThen_ok]; rfl
  | some p => simp only [Sem.run_bind, Sem.run_pure, Result.andThen_ok]; rfl
theorem y_lookupOk {m : Nat} {kv : List (κ × Value)} {k : κ} {zv : Value} {size by_ : Nat} (hm : (mapEn enc m kv).holds W) (hx : ρ x = .map (some m)) (hy : ρ y = enc k) (ht : P.underlying t = some (.map kt et)) (hk : KeyOk P kt enc) (hz : TI P et zv size by_) :
    Y P ρ (.lookup t x y true) T (.tuple #[kvGet kv k zv, .bool (kvHas kv k)]) W := by
  obtain ⟨o, ho, rfl⟩ := hm
  obtain ⟨i, hi, hzv, _, _⟩ := hz.parts
  have hg : (getObj m).run P W = .ok (mapO enc kv) W := by simp [getObj, Sem.run, ho, mapO]
  unfold Y execOp
  simp only [hx, hy, Instr.lookup, Sem.run_bind, Sem.run_pure, run_underlying' P W t _ ht, Result.andThen_ok, hg, mapO, hk.chk, hk.find]
  unfold kvGet kvHas
  cases kvFind kv k 0 with
  | none => simp only [Sem.run_bind, Sem.run_pure, zeroValue, run_typeInfo W hi, hzv, Result.andThen_ok]; rfl
  | some p => simp only [Sem.run_bind, Sem.run_pure, Result.andThen_ok]; rfl

theorem wl_makeMap (hm : Mem w0 S H W) (enc : κ → Value)
    (hn : ∀ W' mk, Mem w0 S (H ++ [mapEn enc mk []]) W' → W.heap.size ≤ mk → Upd [] W W' → LW ro P ops Q rest n ((d, .map (some mk)) :: l) b ds W') :
    LW ro P ops Q (⟨some d, .makeMap t none, T, pos, aft, none⟩ :: rest) n l b ds W := by
  refine wl_yw (v := .map (some W.heap.size)) (W' := W.alloc (mapO enc [])) ?_ (hn _ _ (hm.add (upd_alloc W _) ⟨_, heap_alloc_new W _, rfl⟩ (fun b hb => by simp only [mapEn, En.foot, Option.some.injEq] at hb; omega)) (Nat.le_refl _) (upd_alloc W _))
  unfold YW execOp
  have hnew : ∀ (o : Obj) (W : World), (Sem.new o Sem.pure : Sem Nat).run P W = .ok W.heap.size (W.alloc o) := fun _ _ => rfl
  simp only [Option.map_none, Instr.makeMap, newObj, Sem.run_bind, Sem.run_pure, hnew, Result.andThen_ok]
  rfl

theorem run_mapUpdate {m : Nat} {kv : List (κ × Value)} {k : κ} {v : Value} (ho : W.heap[m]? = some (mapO enc kv)) (ht : P.underlying t = some (.map kt et)) (hk : KeyOk P kt enc) :
    (Instr.mapUpdate t (.map (some m)) (enc k) v).run P W = .ok () { W with heap := W.heap.setIfInBounds m (mapO enc (kvSet kv k v)) } := by
  have hg : (getObj m).run P W = .ok (mapO enc kv) W := by simp [getObj, Sem.run, ho, mapO]
  have hset : ∀ o', (setObj m o').run P W = .ok () { W with heap := W.heap.setIfInBounds m o' } := fun o' => by simp [setObj, Sem.run, ho, mapO]
  simp only [Instr.mapUpdate, Sem.run_bind, run_underlying' P W t _ ht, Result.andThen_ok, hg, mapO, hk.chk, hk.find]
  cases hf : kvFind kv k 0 with
  | none =>
    simp only [hset, kvSet_none hf, List.length_append, List.length_singleton, entL_snoc, Nat.zero_add, List.push_toArray]
  | some p =>
    obtain ⟨j, u⟩ := p
    obtain ⟨h1, h2⟩ := entL_set enc k v hf
    rw [Nat.sub_zero] at h1 h2
    have hlen : (kvSet kv k v).length = kv.length := by
      have := congrArg List.length h1
      simpa [entL_len] using this.symm
    have hkey : ((((entL enc kv 0).toArray[j]?).map (·.key)).getD (enc k)) = enc k := by
      rw [List.getElem?_toArray, h2]; rfl
    simp only [Sem.run_bind, hkey, Instr.keyThatStays, hk.stay, if_true, Sem.run_pure, Result.andThen_ok, hset, hlen]
    congr 3
    rw [← h1]; simp

theorem wl_mapUpdate {i m : Nat} {kv : List (κ × Value)} {k : κ} {v : Value} (hm : Mem w0 S H W) (hi : H[i]? = some (mapEn enc m kv)) (hx : ev n l b x = .map (some m)) (hy : ev n l b y = enc k) (hz : ev n l b z = v) (ht : P.underlying t = some (.map kt et)) (hk : KeyOk P kt enc)
    (hn : ∀ W', Mem w0 S (H.set i (mapEn enc m (kvSet kv k v))) W' → LW ro P ops Q rest n l b ds W') :
    LW ro P ops Q (⟨none, .mapUpdate t x y z, T, pos, aft, none⟩ :: rest) n l b ds W := by
  obtain ⟨o, ho, rfl⟩ := hm.at hi
  refine wl_skip rfl ?_ (hn _ (obj_turn hm hi rfl))
  have := run_mapUpdate (P := P) (v := v) ho ht hk (k := k)
  unfold execOp
  simp only [hx, hy, hz, Sem.run_bind, this, Result.andThen_ok, Sem.run_pure]
theorem wl_insert {i m : Nat} {kv : List (κ × Value)} {k : κ} {v : Value} (hm : Mem w0 S H W) (hi : H[i]? = some (mapEn enc m kv)) (hx : ev n l b x = .map (some m)) (hy : ev n l b y = enc k) (hz : ev n l b z = v) (ht : P.underlying t = some (.map kt et)) (hk : KeyOk P kt enc)
    (hn : ∀ W', Mem w0 S (H.set i (mapEn enc m (kvSet kv k v))) W' → LW ro P ops Q rest n l b ds W') :
    LW ro P ops Q (⟨none, .insert t x y z, T, pos, aft, none⟩ :: rest) n l b ds W := by
  obtain ⟨o, ho, rfl⟩ := hm.at hi
  refine wl_skip rfl ?_ (hn _ (obj_turn hm hi rfl))
  have := run_mapUpdate (P := P) (v := v) ho ht hk (k := k)
  unfold execOp
  simp only [hx, hy, hz, Sem.run_bind, this, Result.andThen_ok, Sem.run_pure]

theorem entL_mem {e : MapEntry} : ∀ {kv : List (κ × Value)} {i : Nat}, e ∈ entL enc kv i → ∃ (p : Nat) (q : κ × Value), kv[p]? = some q ∧ e = { key := enc q.1, val := q.2, born := i + p }
  | [], _, h => by simp [entL] at h
  | q :: kv, i, h => by
    simp only [entL, List.mem_cons] at h
    rcases h with rfl | h
    · exact ⟨0, q, rfl, rfl⟩
    · obtain ⟨p, q', h1, h2⟩ := entL_mem h
      exact ⟨p + 1, q', by simpa using h1, by rw [h2]; congr 1; omega⟩
theorem mem_entL : ∀ {kv : List (κ × Value)} {i p : Nat} {q : κ × Value}, kv[p]? = some q → ({ key := enc q.1, val := q.2, born := i + p } : MapEntry) ∈ entL enc kv i
  | [], _, _, _, h => by simp at h
  | q' :: kv, i, 0, q, h => by
    simp only [List.getElem?_cons_zero, Option.some.injEq] at h
    subst h; simp [entL]
  | q' :: kv, i, p + 1, q, h => by
    simp only [List.getElem?_cons_succ] at h
    have := mem_entL (i := i + 1) h
    simp only [entL, List.mem_cons]
    right
    rwa [show i + (p + 1) = i + 1 + p by omega]
theorem entL_born : ∀ (kv : List (κ × Value)) (i : Nat), (entL enc kv i).map (·.born) = List.range' i kv.length
  | [], _ => rfl
  | q :: kv, i => by simp only [entL, List.map_cons, entL_born kv (i + 1), List.length_cons, List.range'_succ]

theorem wl_rangeMap {i m : Nat} {kv : List (κ × Value)} (hm : Mem w0 S H W) (hi : H[i]? = some (mapEn enc m kv)) (hx : ev n l b x = .map (some m)) (ht : P.underlying t = some (.map kt et))
    (hn : ∀ W' r, Mem w0 S (H ++ [iterEn r m kv.length []]) W' → W.heap.size ≤ r → Upd [] W W' → LW ro P ops Q rest n ((d, .pointer (some ⟨r, 0, none⟩)) :: l) b ds W') :
    LW ro P ops Q (⟨some d, .range t x, T, pos, aft, none⟩ :: rest) n l b ds W := by
  obtain ⟨o, ho, rfl⟩ := hm.at hi
  refine wl_yw (v := .pointer (some ⟨W.heap.size, 0, none⟩)) (W' := W.alloc (iterO m kv.length [])) ?_ (hn _ _ (hm.add (upd_alloc W _) ⟨_, heap_alloc_new W _, rfl⟩ (fun b hb => by simp only [iterEn, En.foot, Option.some.injEq] at hb; omega)) (Nat.le_refl _) (upd_alloc W _))
  unfold YW execOp
  have hnew : ∀ (o : Obj) (W : World), (Sem.new o Sem.pure : Sem Nat).run P W = .ok W.heap.size (W.alloc o) := fun _ _ => rfl
  have hg : (getObj m).run P W = .ok (mapO enc kv) W := by simp [getObj, Sem.run, ho, mapO]
  simp only [hx, Instr.range, Sem.run_bind, run_underlying' P W t _ ht, Result.andThen_ok, hg, mapO, Sem.run_pure, newObj, hnew]
  rfl

theorem wl_nextMap {i j m r : Nat} {kv : List (κ × Value)} {seen : List Nat} (hm : Mem w0 S H W) (hi : H[i]? = some (mapEn enc m kv)) (hj : H[j]? = some (iterEn r m kv.length seen)) (hx : ev n l b x = .pointer (some ⟨r, 0, none⟩))
    (h1 : ∀ p q, kv[p]? = some q → p ∉ seen → ∀ W', Mem w0 S (H.set j (iterEn r m kv.length (seen ++ [p]))) W' → LW ro P ops Q rest n ((d, .tuple #[.bool true, enc q.1, q.2]) :: l) b ds W')
    (h2 : (∀ p, p < kv.length → p ∈ seen) → LW ro P ops Q rest n ((d, .tuple #[.bool false]) :: l) b ds W) :
    LW ro P ops Q (⟨some d, .next x false, T, pos, aft, none⟩ :: rest) n l b ds W := by
  obtain ⟨o, ho, rfl⟩ := hm.at hi
  obtain ⟨o', ho', rfl⟩ := hm.at hj
  have hold : ∀ e ∈ ((entL enc kv 0).toArray).toList, e.born < kv.length := fun e he => by
    obtain ⟨p, q, hp, rfl⟩ := entL_mem (by simpa using he)
    have := (List.getElem?_eq_some_iff.1 hp).1
    simp only; omega
  rcases run_next_at (P := P) W T r m kv.length kv.length seen.toArray (entL enc kv 0).toArray kv.length ho' ho hold (Nat.le_refl _) with ⟨h0, hrun⟩ | ⟨e, he, w1, hw1, hrun⟩
  · refine wl_yw ?_ (h2 fun p hp => ?_)
    · unfold YW execOp
      simp only [hx, Sem.run_bind, hrun, Result.andThen_ok, Sem.run_pure]
    · have hmem := mem_entL (enc := enc) (i := 0) (List.getElem?_eq_getElem hp)
      refine Decidable.byContradiction fun hns => ?_
      have : ({ key := enc kv[p].1, val := kv[p].2, born := 0 + p } : MapEntry) ∈ (leftOf (entL enc kv 0).toArray seen.toArray).toList := by
        unfold leftOf
        simp only [Array.toList_filter, List.mem_filter]
        exact ⟨hmem, by simpa using hns⟩
      have hz : (leftOf (entL enc kv 0).toArray seen.toArray).toList = [] := List.eq_nil_of_length_eq_zero (by simpa using h0)
      rw [hz] at this; cases this
  · have hel : e ∈ entL enc kv 0 ∧ ¬ e.born ∈ seen := by
      unfold leftOf at he
      simp only [Array.toList_filter, List.mem_filter] at he
      exact ⟨he.1, by simpa using he.2⟩
    obtain ⟨p, q, hp, rfl⟩ := entL_mem hel.1
    have hnp : p ∉ seen := by simpa using hel.2
    have hu : Upd [] W w1 := by
      rcases hw1 with rfl | rfl
      · exact Upd.refl _ _
      · exact upd_drew W
    refine wl_yw (W' := ChangeMaps.setBlock w1 r (.mapIter (some m) kv.length (seen.toArray.push (0 + p)) kv.length)) ?_ (h1 p q hp hnp _ ?_)
    · unfold YW execOp
      simp only [hx, Sem.run_bind, hrun, Result.andThen_ok, Sem.run_pure]
    · have := obj_turn (p' := fun o => o = iterO m kv.length (seen ++ [p])) (o' := iterO m kv.length (seen ++ [p])) (hm.step hu) hj rfl
      have e : Obj.mapIter (some m) kv.length (seen.toArray.push (0 + p)) kv.length = iterO m kv.length (seen ++ [p]) := by
        unfold iterO; congr 1; simp
      rw [e]; exact this

theorem y_entry {m r p : Nat} {kv : List (κ × Value)} {seen : List Nat} {q : κ × Value} (hM : (mapEn enc m kv).holds W) (hI : (iterEn r m kv.length (seen ++ [p])).holds W) (hx : ρ x = .pointer (some ⟨r, 0, none⟩)) (hp : kv[p]? = some q) :
    Y P ρ (.entry x) T (.tuple #[enc q.1, q.2]) W := by
  obtain ⟨o, ho, rfl⟩ := hM
  obtain ⟨o', ho', rfl⟩ := hI
  have hr : W.heap[r]? = some (.mapIter (some m) kv.length (seen.toArray.push p) kv.length) := by rw [ho', iterO]; congr 2; simp
  have hmem := mem_entL (enc := enc) (i := 0) hp
  rw [Nat.zero_add] at hmem
  have hrun := run_entry_at (P := P) W r m kv.length seen.toArray (entL enc kv 0).toArray kv.length { key := enc q.1, val := q.2, born := p } hr ho (by simpa using hmem) (by
    rw [show (entL enc kv 0).toArray.toList = entL enc kv 0 from rfl, entL_born]; exact List.nodup_range' ..)
  unfold Y execOp
  simp only [hx, Sem.run_bind, hrun, Result.andThen_ok, Sem.run_pure]
end
end Go.Kx
/- Keys of maps: arrays of integers, pairs. -/
namespace Go.Kx
open Go Go.RowKit
section
variable {P : Program} {t e : TypeId} {k : IntKind}
theorem run_checkKey_int (W : World) (he : P.underlying e = some (.int k)) (b : Bool) (n : Nat) (z : Int) : (Instr.checkKey b (n + 1) e (.int k z)).run P W = .ok () W := by
  unfold Instr.checkKey
  simp only [Sem.run_bind, run_underlying' P W e _ he, Result.andThen_ok, Sem.run_pure]
theorem run_checkKey_arr (W : World) {len : Nat} {zs : List Int} {zv : Value} {by_ : Nat} (ht : P.underlying t = some (.array len e)) (hte : TI P e zv 1 by_) (he : P.underlying e = some (.int k)) (hl : zs.length = len) (b : Bool) (n : Nat) :
    (Instr.checkKey b (n + 2) t (.agg (zs.map (Value.int k)).toArray)).run P W = .ok () W := by
  obtain ⟨i, hi, _, hs, _⟩ := hte.parts
  unfold Instr.checkKey
  simp only [Sem.run_bind, run_underlying' P W t _ ht, Result.andThen_ok]
  simp only [Std.Legacy.Range.forIn_eq_forIn_range', Std.Legacy.Range.size]
  have key : ∀ (l : List Nat), (∀ j ∈ l, j < zs.length) → (forIn l PUnit.unit fun i r => do
      (do
        let __do_lift ← sizeOf e
        let __do_lift ← part e (zs.map (Value.int k)).toArray (i * __do_lift)
        Instr.checkKey b (n + 1) e __do_lift)
      pure (ForInStep.yield PUnit.unit) : Sem PUnit).run P W = .ok PUnit.unit W := by
    intro l
    induction l with
    | nil => intro _; simp
    | cons j l ih =>
      intro hj
      have hjl := hj j (by simp)
      have hp : (part e (zs.map (Value.int k)).toArray (j * 1)).run P W = .ok (.int k zs[j]) W := part_one W he rfl (by simp [hjl])
      have hc := run_checkKey_int W he b n zs[j]
      simp only [List.forIn_cons, Sem.run_bind, sizeOf, run_typeInfo W hi, hs, Result.andThen_ok, Sem.run_pure, hp, hc]
      exact ih (fun j hj' => hj j (by simp [hj']))
  have hh := key (List.range' 0 len 1) (fun j hj => by simp at hj; omega)

  rw [show (len - 0 + 1 - 1) / 1 = len by simp]
  simp only [bind_assoc] at hh
  rw [hh]; rfl

theorem eqItems_ints (W : World) {zs ys : List Int} (he : P.underlying e = some (.int k)) (hc : P.cellsOf e = 1) (d : Nat) : ∀ (is : List Nat), (∀ i ∈ is, i < zs.length ∧ i < ys.length) →
    (Op.eqItems (d + 1) e (P.cellsOf e) (zs.map (Value.int k)).toArray (ys.map (Value.int k)).toArray is).run P W = .ok (decide (∀ i ∈ is, zs[i]? = ys[i]?)) W
  | [], _ => by simp [Op.eqItems]
  | i :: is, hi => by
    obtain ⟨h1, h2⟩ := hi i (by simp)
    have ih := eqItems_ints W he hc d is (fun j hj => hi j (by simp [hj]))
    have q1 := part_one W (e := e) (cs := (zs.map (Value.int k)).toArray) (o := i * 1) (v := .int k zs[i]) he rfl (by simp [h1])
    have q2 := part_one W (e := e) (cs := (ys.map (Value.int k)).toArray) (o := i * 1) (v := .int k ys[i]) he rfl (by simp [h2])
    rw [hc] at ih
    simp only [Op.eqItems, hc, Sem.run_bind, q1, q2, Result.andThen_ok, run_equalIn_int W d e k k _ _ he]
    by_cases hz : zs[i] = ys[i]
    · have hb : (zs[i] == ys[i]) = true := by simp [hz]
      simp only [hb, Bool.not_true, Bool.false_eq_true, if_false, ih]
      congr 2
      simp [h1, h2, hz]
    · have hb : (zs[i] == ys[i]) = false := by simp [hz]
      simp only [hb, Bool.not_false, if_true, Sem.run_pure]
      congr 2
      simp [h1, h2, hz]
theorem equal_arr (W : World) {len : Nat} {zs ys : List Int} {zv : Value} {by_ : Nat} (ht : P.underlying t = some (.array len e)) (hte : TI P e zv 1 by_) (he : P.underlying e = some (.int k)) (hl : zs.length = len) (hl' : ys.length = len) :
    (Op.equal t (.agg (zs.map (Value.int k)).toArray) (.agg (ys.map (Value.int k)).toArray)).run P W = .ok (decide (zs = ys)) W := by
  obtain ⟨i, hi, _, hs, _⟩ := hte.parts
  have hc : P.cellsOf e = 1 := by simp [Program.cellsOf, hi, hs]
  show (Op.equalIn (9999 + 1) t _ _).run P W = _
  rw [run_equalIn_array W 9999 _ _ ht hi]
  rw [eqItems_ints W he hc 9998 (List.range len) (fun i h => by have := List.mem_range.1 h; omega)]
  congr 1
  rw [decide_eq_decide]
  constructor
  · intro h
    apply List.ext_getElem?
    intro i
    by_cases hi : i < len
    · exact h i (List.mem_range.2 hi)
    · rw [List.getElem?_eq_none (by omega), List.getElem?_eq_none (by omega)]
  · rintro rfl i _; rfl
def Arr (len : Nat) := { zs : List Int // zs.length = len }
instance (len : Nat) : DecidableEq (Arr len) := fun a c => decidable_of_iff (a.1 = c.1) Subtype.ext_iff.symm
def arrV (k : IntKind) {len : Nat} (a : Arr len) : Value := .agg (a.1.map (Value.int k)).toArray
theorem findAsking_arr (W : World) {len : Nat} {zv : Value} {by_ : Nat} (ht : P.underlying t = some (.array len e)) (hte : TI P e zv 1 by_) (he : P.underlying e = some (.int k)) (z : Arr len) : ∀ (kv : List (Arr len × Value)) (j i : Nat),
    (Instr.findAsking t (arrV k z) (entL (arrV k) kv j) i).run P W = .ok (kvFind kv z i) W
  | [], _, _ => by simp [entL, Instr.findAsking, kvFind]
  | p :: kv, j, i => by
    have hq := equal_arr W ht hte he z.2 p.1.2
    simp only [entL, Instr.findAsking, Sem.run_bind, arrV, hq, Result.andThen_ok, kvFind]
    by_cases h : z = p.1
    · subst h
      simp
    · have h' : ¬ z.1 = p.1.1 := fun hh => h (Subtype.ext hh)
      simp only [h', decide_false, Bool.false_eq_true, if_false, if_neg h]
      exact findAsking_arr W ht hte he z kv (j + 1) (i + 1)
theorem keyOk_arr {len : Nat} {zv : Value} {by_ : Nat} (ht : P.underlying t = some (.array len e)) (hte : TI P e zv 1 by_) (he : P.underlying e = some (.int k)) : KeyOk P t (arrV k (len := len)) where
  chk := fun z b W => run_checkKey_arr W ht hte he z.2 b 9998
  find := fun z kv W => by
    rw [run_findKey_eq W (by rw [ht])]
    exact findAsking_arr W ht hte he z kv 0 0
  stay := fun z => by
    show Instr.sameBits (9999 + 1) (.agg _) (.agg _) = true
    simp only [Instr.sameBits, BEq.rfl, Bool.true_and, List.all_eq_true]
    intro p hp
    have : ∃ v : Int, p = (.int k v, .int k v) := by
      have hz : p ∈ (z.1.map (Value.int k)).zip (z.1.map (Value.int k)) := by simpa using hp
      rw [List.zip_map'] at hz
      obtain ⟨v, _, rfl⟩ := List.mem_map.1 hz
      exact ⟨v, rfl⟩
    obtain ⟨v, rfl⟩ := this
    simp [Instr.sameBits]

def prV (k : IntKind) (p : Int × Int) : Value := .agg #[.int k p.1, .int k p.2]
def pairFields (fs : Array Field) (t1 t2 : TypeId) : Prop := fs.toList.map (fun f => (f.name == "_", f.type, f.offset)) = [(false, t1, 0), (false, t2, 1)]
theorem run_checkKey_pairS (W : World) {fs : Array Field} {t1 t2 : TypeId} {p : Int × Int} (ht : P.underlying t = some (.struct fs)) (hf : pairFields fs t1 t2) (h1 : P.underlying t1 = some (.int k)) (h2 : P.underlying t2 = some (.int k)) (b : Bool) (n : Nat) :
    (Instr.checkKey b (n + 2) t (prV k p)).run P W = .ok () W := by
  unfold pairFields at hf
  rcases hfs : fs.toList with _ | ⟨f, _ | ⟨g, _ | ⟨z, zs⟩⟩⟩
  · rw [hfs] at hf; simp at hf
  · rw [hfs] at hf; simp at hf
  · rw [hfs] at hf
    simp only [List.map_cons, List.map_nil, List.cons.injEq, Prod.mk.injEq, and_true] at hf
    obtain ⟨⟨n1, rfl, o1⟩, n2, rfl, o2⟩ := hf
    have m1 : f.name ≠ "_" := by simpa using n1
    have m2 : g.name ≠ "_" := by simpa using n2
    have q1 := part_one W (e := f.type) (cs := #[.int k p.1, .int k p.2]) (o := 0) (v := .int k p.1) h1 rfl rfl
    have q2 := part_one W (e := g.type) (cs := #[.int k p.1, .int k p.2]) (o := 1) (v := .int k p.2) h2 rfl rfl
    unfold Instr.checkKey prV
    simp only [Sem.run_bind, run_underlying' P W t _ ht, Result.andThen_ok]
    rw [← Array.forIn_toList, hfs]
    simp only [List.forIn_cons, List.forIn_nil, Sem.run_bind, ne_eq, m1, m2, not_false_eq_true, if_true, o1, o2, q1, q2, Result.andThen_ok, run_checkKey_int W h1 b n p.1, run_checkKey_int W h2 b n p.2, Sem.run_pure]
  · rw [hfs] at hf; simp at hf
theorem findAsking_pairS (W : World) {fs : Array Field} {t1 t2 : TypeId} (ht : P.underlying t = some (.struct fs)) (hp : P.stoodInHeld t = false) (hf : pairFields fs t1 t2) (h1 : P.underlying t1 = some (.int k)) (h2 : P.underlying t2 = some (.int k)) (z : Int × Int) : ∀ (kv : List ((Int × Int) × Value)) (j i : Nat),
    (Instr.findAsking t (prV k z) (entL (prV k) kv j) i).run P W = .ok (kvFind kv z i) W
  | [], _, _ => by simp [entL, Instr.findAsking, kvFind]
  | p :: kv, j, i => by
    have hq := equal_pairS W ht hp hf h1 h2 (a := z.1) (c := z.2) (a' := p.1.1) (c' := p.1.2)
    simp only [entL, Instr.findAsking, Sem.run_bind, prV, hq, Result.andThen_ok, kvFind]
    by_cases h : z = p.1
    · subst h; simp
    · have h' : ¬ (z.1 = p.1.1 ∧ z.2 = p.1.2) := fun hh => h (Prod.ext hh.1 hh.2)
      simp only [h', decide_false, Bool.false_eq_true, if_false, if_neg h]
      exact findAsking_pairS W ht hp hf h1 h2 z kv (j + 1) (i + 1)
theorem keyOk_pairS {fs : Array Field} {t1 t2 : TypeId} (ht : P.underlying t = some (.struct fs)) (hp : P.stoodInHeld t = false) (hf : pairFields fs t1 t2) (h1 : P.underlying t1 = some (.int k)) (h2 : P.underlying t2 = some (.int k)) : KeyOk P t (prV k) where
  chk := fun z b W => run_checkKey_pairS W ht hf h1 h2 b 9998
  find := fun z kv W => by
    rw [run_findKey_eq W (by rw [ht])]
    exact findAsking_pairS W ht hp hf h1 h2 z kv 0 0
  stay := fun z => by
    show Instr.sameBits (9999 + 1) (.agg _) (.agg _) = true
    simp [Instr.sameBits]
end
end Go.Kx
/- A block of which only the size is known; results, one of them in a cell. -/
namespace Go.Kx
open Go Go.RowKit
def vagueEn (b : Nat) (T : TypeId) (size : Nat) : En := .obj b (fun o => ∃ xs : List Value, o = .cells xs.toArray T (0, 0) ∧ xs.length = size)
theorem Mem.swap {w0 W : World} {S : List Nat} {H : List En} (h : Mem w0 S H W) {i : Nat} {e e' : En} (hi : H[i]? = some e) (hf : e'.foot = e.foot) (he : e'.holds W) : Mem w0 S (H.set i e') W :=
  h.turn hi rfl rfl rfl (Nat.le_refl _) (fun _ _ _ => rfl) he (fun b hb => .inl (by rw [← hf]; exact hb))
theorem Mem.vague {w0 W : World} {S : List Nat} {H : List En} (h : Mem w0 S H W) (i : Nat) {b : Nat} {T : TypeId} {xs : List Value} (hi : H[i]? = some (.blk b T xs)) : Mem w0 S (H.set i (vagueEn b T xs.length)) W :=
  h.swap hi rfl ⟨_, h.at hi, xs, rfl, rfl⟩
theorem Mem.known {w0 W : World} {S : List Nat} {H : List En} (h : Mem w0 S H W) (i : Nat) {b : Nat} {T : TypeId} {size : Nat} (hi : H[i]? = some (vagueEn b T size)) : ∃ xs : List Value, xs.length = size ∧ Mem w0 S (H.set i (.blk b T xs)) W := by
  obtain ⟨o, ho, xs, rfl, hl⟩ := h.at hi
  exact ⟨xs, hl, h.swap hi rfl ho⟩
section
variable {P : Program} {n : Nat} {l : Slots} {b : Env} {ds : List Deferred} {W : World}
theorem results_ct {fn : Func} {t t' : Nat} {T : TypeId} {bk : Nat} {v : Value} (h : fn.results = #[.cell t T, .tmp t']) (hv : ev n l b (.tmp t) = .pointer (some ⟨bk, 0, none⟩)) (hl : (loadVar T ⟨bk, 0, none⟩).run P W = .ok v W) :
    (results fn (fr n l b ds).tmps).run P W = .ok (.tuple #[v, ev n l b (.tmp t')]) W := by
  have hg : (fr n l b ds).tmps.getD t undef = .pointer (some ⟨bk, 0, none⟩) := (getD_fr t).trans hv
  have hg' : (fr n l b ds).tmps.getD t' undef = ev n l b (.tmp t') := getD_fr t'
  have e : (results fn (fr n l b ds).tmps).run P W = ((asAddr ((fr n l b ds).tmps.getD t undef)).run P W).andThen fun a w₁ => ((loadVar T a).run P w₁).andThen fun v w₂ => .ok (.tuple #[v, (fr n l b ds).tmps.getD t' undef]) w₂ := by
    generalize (fr n l b ds).tmps = tmps
    simp only [results, h]
    simp [Sem.run_bind, Result.andThen]
  rw [e, hg']
  simp only [hg, run_addr, Result.andThen_ok, hl]
end
end Go.Kx
/- More results, some of them in cells. -/
namespace Go.Kx
open Go Go.RowKit
section
variable {P : Program} {n : Nat} {l : Slots} {b : Env} {ds : List Deferred} {W : World}
theorem results_tctt {fn : Func} {t0 t t1 t2 : Nat} {T : TypeId} {bk : Nat} {v : Value} (h : fn.results = #[.tmp t0, .cell t T, .tmp t1, .tmp t2]) (hv : ev n l b (.tmp t) = .pointer (some ⟨bk, 0, none⟩)) (hl : (loadVar T ⟨bk, 0, none⟩).run P W = .ok v W) :
    (results fn (fr n l b ds).tmps).run P W = .ok (.tuple #[ev n l b (.tmp t0), v, ev n l b (.tmp t1), ev n l b (.tmp t2)]) W := by
  have hg : (fr n l b ds).tmps.getD t undef = .pointer (some ⟨bk, 0, none⟩) := (getD_fr t).trans hv
  have hg0 : (fr n l b ds).tmps.getD t0 undef = ev n l b (.tmp t0) := getD_fr t0
  have hg1 : (fr n l b ds).tmps.getD t1 undef = ev n l b (.tmp t1) := getD_fr t1
  have hg2 : (fr n l b ds).tmps.getD t2 undef = ev n l b (.tmp t2) := getD_fr t2
  have e : (results fn (fr n l b ds).tmps).run P W = ((asAddr ((fr n l b ds).tmps.getD t undef)).run P W).andThen fun a w₁ => ((loadVar T a).run P w₁).andThen fun v w₂ => .ok (.tuple #[(fr n l b ds).tmps.getD t0 undef, v, (fr n l b ds).tmps.getD t1 undef, (fr n l b ds).tmps.getD t2 undef]) w₂ := by
    generalize (fr n l b ds).tmps = tmps
    simp only [results, h]
    simp [Sem.run_bind, Result.andThen]
  rw [e, hg0, hg1, hg2]
  simp only [hg, run_addr, Result.andThen_ok, hl]
end
end Go.Kx
/- Drawn regions whose operations are taken in an order of one's own. -/
namespace Go.Kx
open Go Go.RowKit

def lsd (n : Nat) (dn : List Nat) : Array Bool := dn.foldr (fun i a => a.setIfInBounds i true) (Array.replicate n false)
theorem lsd_size (n : Nat) : ∀ dn, (lsd n dn).size = n
  | [] => by simp [lsd]
  | i :: dn => by
    have := lsd_size n dn
    simp only [lsd, List.foldr_cons, Array.size_setIfInBounds] at this ⊢
    exact this
structure InvX (ops : List Oper) (dn : List Nat) : Prop where
  cl : Closed ops.toArray (lsd ops.length dn)
  nd : noDefers ops = true
  sel : Region.noSelect ops.toArray = true
theorem InvX.next {ops : List Oper} {dn : List Nat} {i : Nat} (h : InvX ops dn) (hr : i ∈ Region.ready .any ops.toArray (lsd ops.length dn)) : InvX ops (i :: dn) := ⟨h.cl.set hr, h.nd, h.sel⟩

structure AX (ro : Option Nat) (P : Program) (ops : List Oper) (C : World → Prop) (ks : Option Nat) (Q : Act → World → Prop) (dn : List Nat) (n : Nat) (l : Slots) (b : Env) (ds : List Deferred) : Prop where
  h : InvX ops dn → Stable C → ∀ w, C w → AT ro P ops.toArray C ks Q (ops.length - dn.length) (lsd ops.length dn) (fr n l b ds) w
def chkX (ops : List Oper) (dn : List Nat) (i : Nat) (ks : Option Nat) : Bool :=
  Nat.blt dn.length ops.length && (Region.ready .any ops.toArray (lsd ops.length dn)).contains i && Region.free .any ops.toArray (lsd ops.length dn) i &&
    match ks with
    | none => true
    | some s => !Nat.beq i s && reqF ops.toArray 9 i s
def chkLX (ops : List Oper) (dn : List Nat) (i : Nat) : Bool :=
  Nat.blt dn.length ops.length && match Region.ready .any ops.toArray (lsd ops.length dn) with
  | [j] => Nat.beq j i
  | _ => false

section
variable {ro : Option Nat} {P : Program} {ops : List Oper} {C C' : World → Prop} {ks ks' : Option Nat} {Q : Act → World → Prop} {dn : List Nat} {n : Nat} {l l' : Slots} {b b' : Env} {ds : List Deferred} {W : World}
  {d : Nat} {op : Op} {T : TypeId} {pos : String} {aft : Array Edge} {g : Option (Nat × Bool)} {i : Nat}

theorem wl_lit2S {w0 : World} {S : List Nat} {H : List En} {Q : Exit → Act → World → Prop} {rest : List Oper} {e t : TypeId} {size by_ : Nat} {zv v w : Value} {x y : Operand} (hm : Mem w0 S H W) (hx : ev n l b x = v) (hy : ev n l b y = w) (ht : P.underlying t = some (.slice e)) (hti : TI P e zv size by_) (hv : v.cells.size = size) (hw : w.cells.size = size) (hs : size ≤ 8388608)
    (hn : ∀ W' v', Mem w0 S (H ++ [.own e size v' 2 (v.cells.toList ++ w.cells.toList)]) W' → Upd [] W W' → LW ro P ops Q rest n ((d, v') :: l) b ds W') :
    LW ro P ops Q (⟨some d, .buildSlice t 2 #[(0, x), (1, y)], T, pos, aft, none⟩ :: rest) n l b ds W :=
  wl_buildSlice [v, w] hm ht hti (by simp [numbered, hx, hy]) rfl (by simp [hv, hw]) (by omega) (by decide) (fun W' v' hm' hu => hn W' v' (by simpa using hm') hu)

theorem ax_take {o : Oper} {v : Value} (hget : ops[i]? = some o) (hchk : chkX ops dn i ks = true) (hy : YC P ops.toArray C o v (fr n l b ds)) (h : AX ro P ops C ks Q (i :: dn) n (putO l o.dst v) b ds) : AX ro P ops C ks Q dn n l b ds := by
  refine ⟨fun inv hst w hw => ?_⟩
  simp only [chkX, Bool.and_eq_true, Nat.blt_eq] at hchk
  obtain ⟨⟨⟨hlt, hr⟩, hf⟩, hk⟩ := hchk
  have hr' := List.contains_iff_mem.1 hr
  have hget' : ops.toArray[i]? = some o := by simpa using hget
  obtain ⟨m, hm⟩ : ∃ m, ops.length - dn.length = m + 1 := ⟨ops.length - dn.length - 1, by omega⟩
  rw [hm]
  refine AT_first (i := i) hst hget' (fun j o' hj => noDefers_at inv.nd (by simpa using hj)) (Region.noSelect_spec inv.sel) ?_ ?_ m _ _ w inv.cl (Region.free_spec hget' hf) hr' hy ?_ (fun w' hu => ?_)
  · intro k hks; subst hks
    simp only [Bool.and_eq_true] at hk
    exact ⟨9, hk.2⟩
  · intro k hks; subst hks
    simp only [Bool.and_eq_true, Bool.not_eq_true'] at hk
    intro he; subst he
    simp at hk
  · cases ks with
    | none => exact hw
    | some k => exact fun _ => hw
  · have hh := h.h (inv.next hr') hst w' (hst _ _ hw hu)
    rw [show ops.length - (i :: dn).length = m by rw [List.length_cons]; omega] at hh
    rw [put_frO]
    exact hh

theorem ax_y {v : Value} (hget : ops[i]? = some ⟨some d, op, T, pos, aft, none⟩) (hchk : chkX ops dn i ks = true) (hY : ∀ W, C W → Y P (ev n l b) op T v W) (h : AX ro P ops C ks Q (i :: dn) n ((d, v) :: l) b ds) :
    AX ro P ops C ks Q dn n l b ds := by
  refine ax_take (v := v) hget hchk (.inl ⟨by simp [Region.wanted], fun w hw => ?_⟩) h
  have hr : (execOp (fr n l b ds).eval ⟨some d, op, T, pos, aft, none⟩).run P w = .ok (.value v) w := by
    rw [eval_fr, ← hY w hw]; exact congrArg (fun s : Sem Next => s.run P w) (execOp_irrel ..)
  unfold quietU; rw [hr]; exact ⟨rfl, Upd.refl _ _⟩
theorem ax_yg {v : Value} {j : Nat} {want : Bool} (hget : ops[i]? = some ⟨some d, op, T, pos, aft, some (j, want)⟩) (hg : yv ops n l b j = some want) (hchk : chkX ops dn i ks = true) (hY : ∀ W, C W → Y P (ev n l b) op T v W) (h : AX ro P ops C ks Q (i :: dn) n ((d, v) :: l) b ds) :
    AX ro P ops C ks Q dn n l b ds := by
  refine ax_take (v := v) hget hchk (.inl ⟨by simp only [Region.wanted]; rw [yielded_fr, hg]; exact beq_self_eq_true _, fun w hw => ?_⟩) h
  have hr : (execOp (fr n l b ds).eval ⟨some d, op, T, pos, aft, some (j, want)⟩).run P w = .ok (.value v) w := by
    rw [eval_fr, ← hY w hw]; exact congrArg (fun s : Sem Next => s.run P w) (execOp_irrel ..)
  unfold quietU; rw [hr]; exact ⟨rfl, Upd.refl _ _⟩
theorem ax_guard_no {o : Oper} {j : Nat} {want : Bool} (hget : ops[i]? = some o) (hog : o.guard = some (j, want)) (hy : (yv ops n l b j == some want) = false) (hchk : chkX ops dn i ks = true) (h : AX ro P ops C ks Q (i :: dn) n (putO l o.dst undef) b ds) :
    AX ro P ops C ks Q dn n l b ds :=
  ax_take (v := undef) hget hchk (.inr ⟨by simp only [Region.wanted, hog]; rw [yielded_fr]; exact hy, rfl⟩) h
theorem ax_callG {f : FuncId} {c : List Operand} {as : Array TypeId} {al : List Value} {v : Value} {x : Operand} (hget : ops[i]? = some ⟨some d, .call { callee := .value x, args := c.toArray, argTypes := as }, T, pos, aft, g⟩) (hgd : g = none ∨ ∃ j want, g = some (j, want) ∧ yv ops n l b j = some want) (hchk : chkX ops dn i ks = true) (hb : HasBody P f)
    (hc : ∀ W, C W → Cl P f al.toArray W (Ret W v)) (hfun : ev n l b x = .func (.func f) #[] #[]) (ha : c.map (ev n l b) = al) (h : AX ro P ops C ks Q (i :: dn) n ((d, v) :: l) b ds) :
    AX ro P ops C ks Q dn n l b ds := by
  have hwt : Region.wanted ⟨some d, .call { callee := .value x, args := c.toArray, argTypes := as }, T, pos, aft, g⟩ (yielded ops.toArray (fr n l b ds).tmps) = true := by
    rcases hgd with rfl | ⟨j, want, rfl, hy⟩
    · simp [Region.wanted]
    · simp only [Region.wanted]; rw [yielded_fr, hy]; exact beq_self_eq_true _
  refine ax_take (v := v) hget hchk (.inl ⟨hwt, fun w hw => ?_⟩) h
  have hr : (execOp (fr n l b ds).eval ⟨some d, .call { callee := .value x, args := c.toArray, argTypes := as }, T, pos, aft, g⟩).run P w = .ok (.enter f al.toArray) w := by
    rw [eval_fr, ← enter_run (T := T) hb (show c.toArray.map (ev n l b) = al.toArray by rw [← ha]; simp) hfun]; exact congrArg (fun s : Sem Next => s.run P w) (execOp_irrel ..)
  unfold quietU; rw [hr]; exact ⟨Upd.refl _ _, hc w hw⟩
theorem ax_callR {f : FuncId} {c : List Operand} {as : Array TypeId} {al : List Value} {v : Value} {x : Operand} (hget : ops[i]? = some ⟨some d, .call { callee := .value x, args := c.toArray, argTypes := as }, T, pos, aft, none⟩) (hchk : chkX ops dn i ks = true) (hb : HasBody P f) (hc : ∀ W, C W → Cl P f al.toArray W (Ret W v))
    (hfun : ev n l b x = .func (.func f) #[] #[]) (ha : c.map (ev n l b) = al) (h : AX ro P ops C ks Q (i :: dn) n ((d, v) :: l) b ds) : AX ro P ops C ks Q dn n l b ds := ax_callG hget (.inl rfl) hchk hb hc hfun ha h
theorem ax_callRg {f : FuncId} {c : List Operand} {as : Array TypeId} {al : List Value} {v : Value} {x : Operand} {j : Nat} {want : Bool} (hget : ops[i]? = some ⟨some d, .call { callee := .value x, args := c.toArray, argTypes := as }, T, pos, aft, some (j, want)⟩) (hg : yv ops n l b j = some want) (hchk : chkX ops dn i ks = true) (hb : HasBody P f)
    (hc : ∀ W, C W → Cl P f al.toArray W (Ret W v)) (hfun : ev n l b x = .func (.func f) #[] #[]) (ha : c.map (ev n l b) = al) (h : AX ro P ops C ks Q (i :: dn) n ((d, v) :: l) b ds) : AX ro P ops C ks Q dn n l b ds := ax_callG hget (.inr ⟨j, want, rfl, hg⟩) hchk hb hc hfun ha h
theorem ax_split {x : Operand} {p : Prop} [Decidable p] (hget : ops[i]? = some ⟨some d, .move x, T, pos, aft, none⟩) (hchk : chkX ops dn i ks = true) (hx : ev n l b x = .bool (decide p)) (h1 : p → AX ro P ops C ks Q (i :: dn) n ((d, .bool true) :: l) b ds) (h2 : ¬ p → AX ro P ops C ks Q (i :: dn) n ((d, .bool false) :: l) b ds) :
    AX ro P ops C ks Q dn n l b ds := by
  by_cases h : p
  · exact ax_y hget hchk (fun _ _ => y_move (by rw [hx, decide_eq_true h])) (h1 h)
  · exact ax_y hget hchk (fun _ _ => y_move (by rw [hx, decide_eq_false h])) (h2 h)
theorem ax_nil (hchk : ((Region.ready .any ops.toArray (lsd ops.length dn)).isEmpty && Nat.beq dn.length ops.length) = true) {Q' : Exit → Act → World → Prop} (h : ∀ W, C W → DN Q' .normal n l b ds W) : AX ro P ops C ks (fun a w => Q' .normal a w) dn n l b ds := by
  refine ⟨fun _ _ w hw => ?_⟩
  rw [Bool.and_eq_true] at hchk
  rw [show ops.length - dn.length = 0 by have := Nat.eq_of_beq_eq_true hchk.2; omega]
  exact ⟨by simpa using hchk.1, (h w hw).h⟩

structure NXX (ro : Option Nat) (P : Program) (ops : List Oper) (C : World → Prop) (ks : Option Nat) (Q : Act → World → Prop) (dn : List Nat) (i n : Nat) (ds : List Deferred) (a : Act) (w : World) : Prop where
  h : ∃ l' b' C' ks', Stable C' ∧ C' w ∧ (ks = some i ∨ (ks' = ks ∧ ∀ w, C' w → C w)) ∧ a = fr n l' b' ds ∧ AX ro P ops C' ks' Q (i :: dn) n l' b' ds

theorem lsd_self {m : Nat} (h : i < m) : (lsd m (i :: dn)).getD i false = true := by
  show ((lsd m dn).setIfInBounds i true).getD i false = true
  simp [lsd_size, h]
theorem ax_loud {o : Oper} (hget : ops[i]? = some o) (hchk : chkLX ops dn i = true) (h : ∀ W, C W → LW ro P ops (nQ (NXX ro P ops C ks Q dn i n ds)) [o] n l b ds W) : AX ro P ops C ks Q dn n l b ds := by
  refine ⟨fun inv hst w hw => ?_⟩
  rw [chkLX, Bool.and_eq_true, Nat.blt_eq] at hchk
  obtain ⟨hlt, hchk⟩ := hchk
  have hrd : Region.ready .any ops.toArray (lsd ops.length dn) = [i] := by
    split at hchk
    · rename_i j hj; rw [hj, Nat.eq_of_beq_eq_true hchk]
    · cases hchk
  have hil : i < ops.length := (List.getElem?_eq_some_iff.1 hget).1
  have hget' : ops.toArray[i]? = some o := by simpa using hget
  have hn := inv.next (i := i) (by rw [hrd]; simp)
  obtain ⟨m, hm⟩ : ∃ m, ops.length - dn.length = m + 1 := ⟨ops.length - dn.length - 1, by omega⟩
  rw [hm]
  refine ⟨fun h0 => ?_, fun j hj => ?_⟩
  · rw [hrd] at h0; cases h0
  · rw [hrd, List.mem_singleton] at hj
    subst hj
    have h1 := (h w hw).h
    unfold wpListIn at h1
    have key : ∀ a' w', nQ (NXX ro P ops C ks Q dn j n ds) .normal a' w' → Cf C ks ((lsd ops.length dn).setIfInBounds j true) w' ∧ ∀ w'', Upd [] w' w'' →
        AT ro P ops.toArray C ks Q m ((lsd ops.length dn).setIfInBounds j true) a' w'' := by
      rintro a' w' ⟨_, ⟨l', b', C', ks', hst', hC', hconv, rfl, hal⟩⟩
      have hself : ((lsd ops.length dn).setIfInBounds j true).getD j false = true := lsd_self hil
      refine ⟨?_, fun w'' hu => ?_⟩
      · rcases hconv with rfl | ⟨rfl, hc⟩
        · intro h0; rw [hself] at h0; cases h0
        · cases ks' with
          | none => exact hc _ hC'
          | some k => exact fun _ => hc _ hC'
      · have hat := hal.h hn hst' w'' (hst' _ _ hC' hu)
        rw [show ops.length - (j :: dn).length = m by rw [List.length_cons]; omega] at hat
        rcases hconv with rfl | ⟨rfl, hc⟩
        · refine AT.conv (fun listed => listed.getD j false = true) (fun listed i hp => getD_set_true hp) (fun listed w hp _ => ?_) _ _ _ _ hself hat
          intro h0; rw [hp] at h0; cases h0
        · refine AT.conv (fun _ => True) (fun _ _ _ => trivial) (fun listed w _ hcf => ?_) _ _ _ _ trivial hat
          cases ks' with
          | none => exact hc _ hcf
          | some k => exact fun h0 => hc _ (hcf h0)
    unfold wpOpIn
    rw [hget']
    simp only
    split
    · rename_i hw'
      rw [if_pos hw'] at h1
      exact Oper.wpIn_mono key (wpIn_nQ h1)
    · rename_i hw'
      rw [if_neg hw'] at h1
      exact ⟨h1.1, key _ _ h1.2⟩
theorem nxx_keep {w0 : World} {S : List Nat} {H' : List En} (hm : Mem w0 S H' W) (hs : ∀ W, Mem w0 S H' W → C W) (h : AX ro P ops (fun W => Mem w0 S H' W) ks Q (i :: dn) n l b ds) :
    LW ro P ops (nQ (NXX ro P ops C ks Q dn i n ds)) [] n l b ds W := wl_nil ⟨rfl, ⟨l, b, _, ks, Mem.stable _ _ _, hm, .inr ⟨rfl, hs⟩, rfl, h⟩⟩
theorem wc_drawX {id : Nat} {Q : Exit → Act → World → Prop} (ks : Option Nat) (hmix : P.follows .mixedOrders = true) (hnd : noDefers ops = true) (hsel : Region.noSelect ops.toArray = true) (hst : Stable C)
    (hC : C { W with drawn := W.drawn + 1 }) (h : AX ro P ops C ks (fun a w => Q .normal a w) [] n l b ds) : CW ro P (.region id ops.toArray true) Q n l b ds W := by
  refine ⟨wpIn_region_any hmix ?_⟩
  have h0 := h.h ⟨?_, hnd, hsel⟩ hst _ hC
  · have := AT.toAny (Q' := Q) (fun _ _ h => h) _ _ _ _ h0
    simpa [lsd] using this
  · intro j o _ hj
    simp only [lsd, List.foldr_nil] at hj
    rw [Array.getD_eq_getD_getElem?, Array.getElem?_replicate] at hj
    split at hj <;> simp at hj
end
end Go.Kx
/- Bytes in memory, and the strings they make. -/
namespace Go.Kx
open Go Go.RowKit
def byts (bs : List UInt8) : List Value := bs.map fun b => Value.int .u8 (b.toNat : Int)
@[simp] theorem length_byts (bs : List UInt8) : (byts bs).length = bs.length := by simp [byts]
section
variable {P : Program} {ρ : Operand → Value} {T t t' e : TypeId} {W : World} {x y : Operand}
theorem u64_range (z : Int) : 0 ≤ IntKind.u64.wrap z ∧ IntKind.u64.wrap z ≤ 18446744073709551615 := by
  have : IntKind.u64.wrap z = z % 18446744073709551616 := by simp [IntKind.wrap, IntKind.bits, IntKind.signed]
  rw [this]; omega
end
end Go.Kx
/- The rest of a division of any number. -/
namespace Go.Kx
open Go Go.RowKit
section
variable {P : Program} {ρ : Operand → Value} {T t t' : TypeId} {W : World} {x y : Operand} {k : IntKind} {a c : Int}
theorem y_remT (hx : ρ x = .int k a) (hy : ρ y = .int k c) (h : c ≠ 0) : Y P ρ (.binOp .rem t x y t') T (.int k (a.tmod c)) W := by
  refine y_binInt hx hy ?_
  simp [binOp, Op.intDiv, h]
end
end Go.Kx
/- Guarded parting of ways in drawn regions of one's own order. -/
namespace Go.Kx
open Go Go.RowKit
section
variable {ro : Option Nat} {P : Program} {ops : List Oper} {C : World → Prop} {ks : Option Nat} {Q : Act → World → Prop} {dn : List Nat} {n : Nat} {l : Slots} {b : Env} {ds : List Deferred}
  {d : Nat} {T : TypeId} {pos : String} {aft : Array Edge} {i j : Nat} {want : Bool}
theorem ax_splitg {x : Operand} {p : Prop} [Decidable p] (hget : ops[i]? = some ⟨some d, .move x, T, pos, aft, some (j, want)⟩) (hg : yv ops n l b j = some want) (hchk : chkX ops dn i ks = true) (hx : ev n l b x = .bool (decide p)) (h1 : p → AX ro P ops C ks Q (i :: dn) n ((d, .bool true) :: l) b ds) (h2 : ¬ p → AX ro P ops C ks Q (i :: dn) n ((d, .bool false) :: l) b ds) :
    AX ro P ops C ks Q dn n l b ds := by
  by_cases h : p
  · exact ax_yg hget hg hchk (fun _ _ => y_move (by rw [hx, decide_eq_true h])) (h1 h)
  · exact ax_yg hget hg hchk (fun _ _ => y_move (by rw [hx, decide_eq_false h])) (h2 h)
theorem ax_splitBg {x : Operand} {p : Bool} (hget : ops[i]? = some ⟨some d, .move x, T, pos, aft, some (j, want)⟩) (hg : yv ops n l b j = some want) (hchk : chkX ops dn i ks = true) (hx : ev n l b x = .bool p) (h1 : p = true → AX ro P ops C ks Q (i :: dn) n ((d, .bool true) :: l) b ds) (h2 : p = false → AX ro P ops C ks Q (i :: dn) n ((d, .bool false) :: l) b ds) :
    AX ro P ops C ks Q dn n l b ds := by
  cases p
  · exact ax_yg hget hg hchk (fun _ _ => y_move hx) (h2 rfl)
  · exact ax_yg hget hg hchk (fun _ _ => y_move hx) (h1 rfl)
end
end Go.Kx
