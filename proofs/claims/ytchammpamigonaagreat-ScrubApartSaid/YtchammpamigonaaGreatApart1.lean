/- For every shape, two texts and seven spoils shardloglaw25.ScrubApart returns true and leaves what it was handed as it was; no condition. Part 1 of 6: joined by a program of this repo out of texts of its own. -/
import Derived.Orders
import Derived.OrdersIn
import Derived.RangeFuncRecord
import Derived.Below
import Derived.Laws.Sem
import Derived.Laws.Rows
import Derived.KernelRfl
import Derived.Laws.AppendOwn
import Derived.Laws.CopyRow
import Derived.Laws.MakeOwn
import Derived.Laws.BytesString
import Derived.Maps.RangeRun
import Derived.Test.YtchammpamigonaaGreatProg
import Derived.Lib.ConvBytes
set_option linter.unusedVariables false
set_option linter.unusedSimpArgs false
section
namespace Go.Proofs.YtchammpamigonaaGreatX
open Go Go.RowKit
abbrev Env := List (Nat × Value)
def Env.get? : Env → Nat → Option Value
  | [], _ => none
  | (k, v) :: r, t => bif Nat.beq k t then some v else Env.get? r t
def ev (ρ : Env) : Operand → Option Value
  | .tmp t => ρ.get? t
  | .const v => some v
  | .global g => some (.pointer (some ⟨g, 0, none⟩))
  | .func f => some (.func (.func f) #[] #[])
def EvSat (ρ : Env) (e : Operand → Value) : Prop := ∀ x v, ev ρ x = some v → e x = v
structure Slots where
  size : Nat
  ds : List Deferred := []
  rnd : Option Nat := none
instance (k : Nat) : OfNat Slots k := ⟨⟨k, [], none⟩⟩
def FR (r : Option Nat) : Fence := { fn := fun _ => True, depth := none, alive := false, round := r }
structure Sat (n : Slots) (ρ : Env) (a : Act) : Prop where
  size : a.tmps.size = n.size
  defers : a.defers = n.ds
  sat : EvSat ρ a.eval
theorem Sat.put {n : Slots} {ρ : Env} {a : Act} (h : Sat n ρ a) {d : Nat} (hd : Nat.blt d n.size = true) (v : Value) : Sat n ((d, v) :: ρ) (a.put (some d) v) := by
  have hd' : d < a.tmps.size := by rw [h.size]; exact Nat.blt_eq ▸ hd
  refine ⟨by simp [Act.put, h.size], by simp [Act.put, h.defers], ?_⟩
  intro x u hx
  cases x with
  | tmp t =>
    simp only [ev, Env.get?] at hx
    by_cases e : d = t
    · subst e
      simp at hx
      subst hx
      simp [Act.eval, Act.put, hd']
    · have : Nat.beq d t = false := by rw [← Bool.not_eq_true, Nat.beq_eq]; exact e
      rw [this] at hx
      simp only [cond_false] at hx
      have := h.sat (.tmp t) u hx
      rw [Act.eval_put (by intro d' hd' ht; cases hd'; cases ht; exact e rfl)]
      exact this
  | const c => exact h.sat (.const c) u hx
  | global g => exact h.sat (.global g) u hx
  | func f => exact h.sat (.func f) u hx
theorem Sat.none {n : Slots} {ρ : Env} {a : Act} (h : Sat n ρ a) (v : Value) : Sat n ρ (a.put none v) := h
def Env.sub (ρ : Env) : Env → Prop
  | [] => True
  | (t, v) :: r => ρ.get? t = some v ∧ Env.sub ρ r
theorem Env.sub_get {ρ : Env} : ∀ {ρ' : Env}, ρ.sub ρ' → ∀ t v, ρ'.get? t = some v → ρ.get? t = some v
  | [], _, _, _, h => by simp [Env.get?] at h
  | (k, u) :: r, hs, t, v, h => by
    simp only [Env.get?] at h
    by_cases e : k = t
    · subst e
      simp at h
      subst h
      exact hs.1
    · have : Nat.beq k t = false := by rw [← Bool.not_eq_true, Nat.beq_eq]; exact e
      rw [this] at h
      exact Env.sub_get hs.2 t v h
theorem EvSat.sub {ρ ρ' : Env} {e : Operand → Value} (h : EvSat ρ e) (hs : ρ.sub ρ') : EvSat ρ' e := by
  intro x v hx
  cases x with
  | tmp t => exact h (.tmp t) v (Env.sub_get hs t v hx)
  | const c => exact h (.const c) v hx
  | global g => exact h (.global g) v hx
  | func f => exact h (.func f) v hx
theorem Sat.sub {n : Slots} {ρ ρ' : Env} {a : Act} (h : Sat n ρ a) (hs : ρ.sub ρ') : Sat n ρ' a := ⟨h.size, h.defers, h.sat.sub hs⟩
def Yl (P : Program) (G : Value → World → Prop) : Result Next → Prop
  | .ok (.value v) w' => G v w'
  | .ok .skip w' => G undef w'
  | .ok (.enter f args) w' => Calls P f args w' fun e w'' => ∃ v, e = .returned v ∧ G v w''
  | .ok (.round l f tmps assign body) w' => RoundIn Fence.wide 0 P l f tmps assign body w' fun e w'' => ∃ v, e = .returned v ∧ G v w''
  | _ => False
def OpY (P : Program) (o : Oper) (ρ : Env) (w : World) (G : Value → World → Prop) : Prop := ∀ e, EvSat ρ e → Yl P G ((execOp e o).run P w)
theorem callsIn_FR {r : Option Nat} {n : Nat} {P : Program} {f : FuncId} {args : Array Value} {w : World} {R : Ending → World → Prop} (h : Calls P f args w R) : CallsIn (FR r) n P f args w R := (callsIn_wide (n := n)).2 h
theorem roundIn_FR {r : Option Nat} {P : Program} {l : Nat} {f : FuncId} {tmps : Array Value} {assign body : Code} {w : World} {R : Ending → World → Prop} (h : RoundIn Fence.wide 0 P l f tmps assign body w R) : RoundIn (FR r) 0 P l f tmps assign body w R := h
theorem wpIn_yl {P : Program} {o : Oper} {r : Option Nat} {a : Act} {w : World} {G : Value → World → Prop} {K : Act → World → Prop} {Q : Exit → Act → World → Prop} (h : Yl P G ((execOp a.eval o).run P w)) (hK : ∀ v w', G v w' → K (a.put o.dst v) w') : o.wpIn (FR r) 0 P a w K Q := by
  refine ⟨fun _ _ => trivial, ?_⟩
  have hsem : (o.semAt (FR r).round a.eval) = execOp a.eval o := by
    refine Oper.semAt_eq _ _ _ fun c hc => ?_
    obtain ⟨d, op, ty, pos, af, g⟩ := o
    simp only at hc
    subst hc
    simp only [execOp, Sem.run_bind] at h
    generalize (resolve a.eval c ty).run P w = q at h
    cases q with
    | ok x w' => simp [Yl] at h
    | halt x w' => simp [Yl] at h
  rw [hsem]
  generalize (execOp a.eval o).run P w = r at h
  cases r with
  | ok n w' =>
    cases n <;> simp only [Yl] at h <;> simp only [Oper.uponIn]
    case value v => exact hK _ _ h
    case skip => exact hK _ _ h
    case enter f args => exact ⟨fun h => by simp [FR] at h, callsIn_FR (h.mono fun e w'' ⟨v, he, hg⟩ => by subst he; exact hK _ _ hg)⟩
    case round l f tmps assign body => exact ⟨fun h => by simp [FR] at h, roundIn_FR (h.mono fun e w'' ⟨v, he, hg⟩ => by subst he; exact hK _ _ hg)⟩
  | halt x w' => simp [Yl] at h
theorem OpY.wp {P : Program} {o : Oper} {ρ : Env} {w : World} {G : Value → World → Prop} (h : OpY P o ρ w G) {r : Option Nat} {a : Act} (ha : EvSat ρ a.eval) {K : Act → World → Prop} {Q : Exit → Act → World → Prop}
    (hK : ∀ v w', G v w' → K (a.put o.dst v) w') : o.wpIn (FR r) 0 P a w K Q := wpIn_yl (h a.eval ha) hK
def wpL (P : Program) (r : Option Nat) (ops : Array Oper) (Q : Exit → Act → World → Prop) : List Oper → Act → World → Prop
  | [], a, w => Q .normal a w
  | o :: rest, a, w => if Region.wanted o (yielded ops a.tmps) then o.wpIn (FR r) 0 P a w (wpL P r ops Q rest) Q else wpL P r ops Q rest (a.put o.dst undef) w
theorem wpOps_of_wpL {P : Program} {r : Option Nat} {ops : Array Oper} {Q : Exit → Act → World → Prop} : ∀ (l : List Oper) (k : Nat), (∀ j, l[j]? = ops[k + j]?) → ∀ (a : Act) (w : World),
    wpL P r ops Q l a w → wpOpsIn (FR r) 0 P ops Q (List.range' k l.length) a w
  | [], _, _, _, _, h => h
  | o :: l, k, hl, a, w, h => by
    have h0 : ops[k]? = some o := by simpa using (hl 0).symm
    have ih := wpOps_of_wpL (P := P) (r := r) (Q := Q) l (k + 1) (fun j => by have := hl (j + 1); simpa [Nat.add_assoc, Nat.add_comm 1 j] using this)
    simp only [List.length_cons, List.range'_succ, wpOpsIn, h0]
    simp only [wpL] at h
    split
    · rename_i hw
      simp only [hw, if_true] at h
      exact Oper.wpIn_mono (fun a w => ih a w) h
    · rename_i hw
      simp only [hw] at h
      exact ⟨fun _ _ => trivial, ih _ _ h⟩
def XL (P : Program) (ops : Array Oper) (Q : Exit → Act → World → Prop) (n : Slots) (rem : List Oper) (ρ : Env) (w : World) : Prop := ∀ a, Sat n ρ a → wpL P n.rnd ops Q rem a w
def XC (P : Program) (c : Code) (Q : Exit → Act → World → Prop) (n : Slots) (ρ : Env) (w : World) : Prop := ∀ a, Sat n ρ a → c.wpIn (FR n.rnd) 0 P Q a w
def QN (Q : Exit → Act → World → Prop) (e : Exit) (n : Slots) (ρ : Env) (w : World) : Prop := ∀ a, Sat n ρ a → Q e a w
section
variable {P : Program} {ops : Array Oper} {Q : Exit → Act → World → Prop} {n : Slots} {ρ : Env} {w : World}
theorem XL.s {d : Nat} {op : Op} {ty : TypeId} {pos : String} {af : Array Edge} {rem : List Oper} (hd : Nat.blt d n.size = true)
    (h : OpY P { dst := some d, op := op, type := ty, pos := pos, after := af, guard := none } ρ w fun v w' => XL P ops Q n rem ((d, v) :: ρ) w') :
    XL P ops Q n ({ dst := some d, op := op, type := ty, pos := pos, after := af, guard := none } :: rem) ρ w := by
  intro a ha
  simp only [wpL, Region.wanted, if_true]
  exact h.wp ha.sat fun v w' hg => hg _ (ha.put hd v)
theorem XL.o {op : Op} {ty : TypeId} {pos : String} {af : Array Edge} {rem : List Oper}
    (h : OpY P { dst := none, op := op, type := ty, pos := pos, after := af, guard := none } ρ w fun _ w' => XL P ops Q n rem ρ w') :
    XL P ops Q n ({ dst := none, op := op, type := ty, pos := pos, after := af, guard := none } :: rem) ρ w := by
  intro a ha
  simp only [wpL, Region.wanted, if_true]
  exact h.wp ha.sat fun v w' hg => hg _ (ha.none v)
theorem yielded_eq {a : Act} {j t : Nat} {b : Bool} (ha : EvSat ρ a.eval) (ht : (ops[j]?).bind (·.dst) = some t) (hb : ρ.get? t = some (.bool b)) : yielded ops a.tmps j = some b := by
  have := ha (.tmp t) _ hb
  unfold yielded
  rw [ht]
  simp only [Act.eval] at this
  simp only [Option.bind_some]
  cases h : a.tmps[t]? with
  | none => simp [h, undef] at this
  | some v => simp [h] at this; simp [this]
theorem XL.gt {d j t : Nat} {want b : Bool} {op : Op} {ty : TypeId} {pos : String} {af : Array Edge} {rem : List Oper} (ht : (ops[j]?).bind (·.dst) = some t) (hb : ρ.get? t = some (.bool b)) (hw : b = want) (hd : Nat.blt d n.size = true)
    (h : OpY P { dst := some d, op := op, type := ty, pos := pos, after := af, guard := some (j, want) } ρ w fun v w' => XL P ops Q n rem ((d, v) :: ρ) w') :
    XL P ops Q n ({ dst := some d, op := op, type := ty, pos := pos, after := af, guard := some (j, want) } :: rem) ρ w := by
  intro a ha
  simp only [wpL, Region.wanted, yielded_eq ha.sat ht hb, hw, BEq.rfl, if_true]
  exact h.wp ha.sat fun v w' hg => hg _ (ha.put hd v)
theorem XL.gf {d j t : Nat} {want b : Bool} {op : Op} {ty : TypeId} {pos : String} {af : Array Edge} {rem : List Oper} (ht : (ops[j]?).bind (·.dst) = some t) (hb : ρ.get? t = some (.bool b)) (hw : b = !want) (hd : Nat.blt d n.size = true)
    (h : XL P ops Q n rem ((d, undef) :: ρ) w) :
    XL P ops Q n ({ dst := some d, op := op, type := ty, pos := pos, after := af, guard := some (j, want) } :: rem) ρ w := by
  intro a ha
  have : ((some b : Option Bool) == some want) = false := by rw [hw]; cases want <;> rfl
  simp only [wpL, Region.wanted, yielded_eq ha.sat ht hb, this, Bool.false_eq_true, if_false]
  exact h _ (ha.put hd undef)
theorem XL.nil (h : QN Q .normal n ρ w) : XL P ops Q n [] ρ w := h
theorem XC.region {id : Nat} (h : XL P ops Q n ops.toList ρ w) : XC P (.region id ops false) Q n ρ w := by
  intro a ha
  refine wpIn_region ?_
  have := wpOps_of_wpL ops.toList 0 (by simp) a w (h a ha)
  simpa [List.range_eq_range'] using this
theorem XC.seq {x y : Code} (h : XC P x (Exit.then (y.wpIn (FR n.rnd) 0 P Q) Q) n ρ w) : XC P (.seq x y) Q n ρ w := fun a ha => wpIn_seq (h a ha)
theorem QN.next {y : Code} {r : Option Nat} (h : XC P y Q n ρ w) (hr : n.rnd = r := by rfl) : QN (Exit.then (y.wpIn (FR r) 0 P Q) Q) .normal n ρ w := hr ▸ h
theorem XC.skip (h : QN Q .normal n ρ w) : XC P .skip Q n ρ w := fun a ha => wpIn_skip (h a ha)
theorem XC.condT {c : Operand} {x y : Code} {b : Bool} (hc : ev ρ c = some (.bool b)) (hb : b = true) (h : XC P x Q n ρ w) : XC P (.cond c x y) Q n ρ w :=
  fun a ha => wpIn_cond_true (by rw [ha.sat c _ hc, hb]) (h a ha)
theorem XC.condF {c : Operand} {x y : Code} {b : Bool} (hc : ev ρ c = some (.bool b)) (hb : b = false) (h : XC P y Q n ρ w) : XC P (.cond c x y) Q n ρ w :=
  fun a ha => wpIn_cond_false (by rw [ha.sat c _ hc, hb]) (h a ha)
theorem XC.condS {c : Operand} {x y : Code} {b : Bool} (hc : ev ρ c = some (.bool b)) (h1 : b = true → XC P x Q n ρ w) (h2 : b = false → XC P y Q n ρ w) : XC P (.cond c x y) Q n ρ w :=
  fun a ha => wpIn_cond_split (ha.sat c _ hc) (fun h => h1 h a ha) (fun h => h2 h a ha)
theorem XC.block {id : Nat} {c : Code} (h : XC P c (Exit.inBlock id Q) n ρ w) : XC P (.block id c) Q n ρ w := fun a ha => wpIn_block (h a ha)
theorem QN.blk {id : Nat} (h : QN Q .normal n ρ w) : QN (Exit.inBlock id Q) .normal n ρ w := h
theorem XC.exit {id : Nat} (h : QN Q (.exit id) n ρ w) : XC P (.exit id) Q n ρ w := fun a ha => wpIn_exit (h a ha)
theorem QN.thenE {K : Act → World → Prop} {id : Nat} (h : QN Q (.exit id) n ρ w) : QN (Exit.then K Q) (.exit id) n ρ w := h
theorem QN.hit {id : Nat} (h : QN Q .normal n ρ w) : QN (Exit.inBlock id Q) (.exit id) n ρ w := fun a ha => by simp only [Exit.inBlock, if_true]; exact h a ha
theorem XC.ret (h : QN Q .ret n ρ w) : XC P .ret Q n ρ w := fun a ha => wpIn_ret (h a ha)
theorem XC.loop {c : Code} {α : Type} (ρI : α → Env) (I : α → World → Prop) (μ : α → Nat) (x : α) (hs : ρ.sub (ρI x)) (h0 : I x w)
    (round : ∀ x w, I x w → XC P c (Exit.then (fun a' w' => ∃ x', Sat n (ρI x') a' ∧ I x' w' ∧ μ x' < μ x) Q) n (ρI x) w) : XC P (.loop c) Q n ρ w := by
  intro a ha
  have key : ∀ m x a w, μ x = m → Sat n (ρI x) a → I x w → ∀ b k cs, b.roundOf = (FR n.rnd).round → (FR n.rnd).fn b.fn → (FR n.rnd).room (cs.length + 1 + 0) → ∃ e a' w', Q e a' w' ∧ ArrivesIn (Machine.fenced P (FR n.rnd)) P (lone (b.atR a (.code c :: .inLoop c :: k)) cs w) b k cs e a' w' := by
    intro m
    induction m using Nat.strongRecOn with
    | _ m ih =>
      intro x a w hm hsat hI b k cs hro hb hr
      obtain ⟨e, a₁, w₁, hq, harr⟩ := round x w hI a hsat b (.inLoop c :: k) cs hro hb hr
      cases e with
      | normal =>
        obtain ⟨x', hs', hI', hlt⟩ := hq
        obtain ⟨e₂, a₂, w₂, hq₂, harr₂⟩ := ih (μ x') (hm ▸ hlt) x' a₁ w₁ rfl hs' hI' b k cs hro hb hr
        exact ⟨e₂, a₂, w₂, hq₂, .of_steps (StepsIn.trans harr (.one (fenced_calm hb hr rfl) stepR_inLoop)) harr₂⟩
      | exit id => exact ⟨_, a₁, w₁, hq, .pass (x := .inLoop c) rfl (fun _ _ => .inl (by simp)) harr⟩
      | goto l => exact ⟨_, a₁, w₁, hq, .pass (x := .inLoop c) rfl (fun _ _ => .inl (by simp)) harr⟩
      | ret => exact ⟨_, a₁, w₁, hq, .pass (x := .inLoop c) rfl (fun _ _ => .inl (by simp)) harr⟩
      | panic ch => exact ⟨_, a₁, w₁, hq, .pass (x := .inLoop c) rfl (fun _ _ => .inl (by simp)) harr⟩
      | outgrown => exact ⟨_, a₁, w₁, hq, .pass (x := .inLoop c) rfl (fun _ _ => .inl (by simp)) harr⟩
  intro b k cs hro hb hr
  obtain ⟨e, a', w', hq, harr⟩ := key _ x a w rfl (ha.sub hs) h0 b k cs hro hb hr
  exact ⟨e, a', w', hq, .of_steps (.one (fenced_calm hb hr rfl) stepR_loop) harr⟩
theorem QN.again {α : Type} {ρI : α → Env} {I : α → World → Prop} {μ : α → Nat} {m : Nat} (x' : α) (hs : ρ.sub (ρI x')) (hI : I x' w) (hm : μ x' < m) :
    QN (Exit.then (fun a' w' => ∃ x', Sat n (ρI x') a' ∧ I x' w' ∧ μ x' < m) Q) .normal n ρ w := fun _ ha => ⟨x', ha.sub hs, hI, hm⟩
end
def Rets (P : Program) (f : FuncId) (args : Array Value) (w : World) (R : Value → World → Prop) : Prop := Calls P f args w fun e w' => ∃ v, e = .returned v ∧ R v w'
theorem Rets.mono {P : Program} {f : FuncId} {args : Array Value} {w : World} {R R' : Value → World → Prop} (h : Rets P f args w R) (hr : ∀ v w', R v w' → R' v w') : Rets P f args w R' :=
  Calls.mono h fun _ _ ⟨v, he, h⟩ => ⟨v, he, hr _ _ h⟩
def envOf (args : List Value) : Env := args.zipIdx.map fun (v, i) => (i, v)
theorem envOf_get {args : List Value} {t : Nat} {v : Value} (h : (envOf args).get? t = some v) : args[t]? = some v := by
  have key : ∀ (l : List Value) (k : Nat), Env.get? ((l.zipIdx k).map fun (v, i) => (i, v)) t = some v → k ≤ t ∧ l[t - k]? = some v := by
    intro l
    induction l with
    | nil => intro k h; simp [Env.get?] at h
    | cons x l ih =>
      intro k h
      simp only [List.zipIdx_cons, List.map_cons, Env.get?] at h
      by_cases e : k = t
      · subst e; simp at h; subst h; simp
      · have : Nat.beq k t = false := by rw [← Bool.not_eq_true, Nat.beq_eq]; exact e
        rw [this] at h
        obtain ⟨h1, h2⟩ := ih (k + 1) h
        refine ⟨by omega, ?_⟩
        rw [show t - k = (t - (k + 1)) + 1 from by omega, List.getElem?_cons_succ]
        exact h2
  simpa using (key args 0 h).2
theorem Rets.enter {P : Program} {f : FuncId} {fn : Func} {c : Code} {n : Nat} {args : List Value} {w : World} {R : Value → World → Prop}
    (hf : P.funcs[f]? = some fn) (hb : fn.body = some c) (hn : fn.ntmps = n) (hl : Nat.ble args.length n = true)
    (h : ∀ R' : Value → World → Prop, (∀ v w', R v w' → R' v w') → XC P c (bodyPost P fn fun e w' => ∃ v, e = .returned v ∧ R' v w') ⟨n, [], none⟩ (envOf args) w) : Rets P f args.toArray w R := by
  refine calls_of_wp hf hb ((wpIn_wide (n := 0)).1 (h R (fun _ _ h => h) _ ?_))
  subst hn
  have hl' : args.length ≤ fn.ntmps := by simpa using hl
  refine ⟨by simp; omega, rfl, ?_⟩
  intro x v hx
  cases x with
  | tmp t =>
    have := envOf_get hx
    have hlt : t < args.length := (List.getElem?_eq_some_iff.1 this).1
    simp only [Act.eval]
    rw [Array.getD_eq_getD_getElem?, Array.getElem?_append_left (by simpa using hlt)]
    simp [this]
  | const c => simp [ev] at hx; simpa [Act.eval] using hx
  | global g => simp [ev] at hx; simpa [Act.eval] using hx
  | func f => simp [ev] at hx; simpa [Act.eval] using hx
def resOf (ρ : Env) : List ResultVar → Option (List Value)
  | [] => some []
  | .tmp t :: r => match ρ.get? t, resOf ρ r with | some v, some l => some (v :: l) | _, _ => none
  | .cell _ _ :: _ => none
def resVal : List Value → Value
  | [v] => v
  | l => .tuple l.toArray
theorem mapM_res {P : Program} {ρ : Env} {a : Act} {n : Slots} {w : World} (ha : Sat n ρ a) (g : ResultVar → Sem Value) (hg : ∀ t, g (.tmp t) = Pure.pure (a.tmps.getD t undef)) : ∀ (rs : List ResultVar) (l : List Value), resOf ρ rs = some l → (rs.mapM g).run P w = .ok l w := by
  intro rs
  induction rs with
  | nil => intro l h; simp [resOf] at h; subst h; simp [go_sem]
  | cons r rs ih =>
    intro l h
    cases r with
    | cell x t => simp [resOf] at h
    | tmp t =>
      simp only [resOf] at h
      split at h
      · rename_i v l' hv hl'
        cases h
        have h1 := ih l' hl'
        have h2 : a.tmps.getD t undef = v := ha.sat (.tmp t) v hv
        simp only [List.mapM_cons, hg, h2]
        simp [go_sem, h1]
      · cases h
theorem results_run {P : Program} {fn : Func} {ρ : Env} {a : Act} {n : Slots} {w : World} (ha : Sat n ρ a) (l : List Value) (h : resOf ρ fn.results.toList = some l) : (results fn a.tmps).run P w = .ok (resVal l) w := by
  unfold results
  rw [Array.mapM_eq_mapM_toList]
  generalize hg : (fun x : ResultVar => _) = g
  have h1 := mapM_res (P := P) (w := w) ha g (fun t => by subst hg; rfl) _ _ h
  simp only [map_eq_pure_bind, Sem.run_bind, h1]
  cases l with
  | nil => simp [go_sem, resVal]
  | cons x l =>
    cases l with
    | nil => simp [go_sem, resVal]
    | cons y l => simp [go_sem, resVal]
theorem QN.done {P : Program} {fn : Func} {Q : Exit → Act → World → Prop} {e : Exit} {R : Value → World → Prop} {n : Slots} {ρ : Env} {w : World} {l : List Value} (he : e = .ret ∨ e = .normal) (hQ : Q e = bodyPost P fn (fun e w' => ∃ v, e = .returned v ∧ R v w') e)
    (hr : resOf ρ fn.results.toList = some l) (h : R (resVal l) w) (hds : n.ds = [] := by rfl) : QN Q e n ρ w := by
  intro a ha
  rw [hQ]
  rcases he with rfl | rfl
  · exact ⟨ha.defers.trans hds, _, results_run ha l hr, _, rfl, h⟩
  · exact ⟨ha.defers.trans hds, _, results_run ha l hr, _, rfl, h⟩
theorem QN.done0 {P : Program} {fn : Func} {Q : Exit → Act → World → Prop} {e : Exit} {R : Value → World → Prop} {n : Slots} {ρ : Env} {w : World} (he : e = .ret ∨ e = .normal) (hQ : Q e = bodyPost P fn (fun e w' => ∃ v, e = .returned v ∧ R v w') e)
    (hr : resOf ρ fn.results.toList = some []) (h : R (.tuple #[]) w) (hds : n.ds = [] := by rfl) : QN Q e n ρ w := QN.done he hQ hr h hds
theorem QN.done1 {P : Program} {fn : Func} {Q : Exit → Act → World → Prop} {e : Exit} {R : Value → World → Prop} {n : Slots} {ρ : Env} {w : World} {v : Value} (he : e = .ret ∨ e = .normal) (hQ : Q e = bodyPost P fn (fun e w' => ∃ v, e = .returned v ∧ R v w') e)
    (hr : resOf ρ fn.results.toList = some [v]) (h : R v w) (hds : n.ds = [] := by rfl) : QN Q e n ρ w := QN.done he hQ hr h hds
theorem QN.doneN {P : Program} {fn : Func} {Q : Exit → Act → World → Prop} {e : Exit} {R : Value → World → Prop} {n : Slots} {ρ : Env} {w : World} {a b : Value} {l : List Value} (he : e = .ret ∨ e = .normal) (hQ : Q e = bodyPost P fn (fun e w' => ∃ v, e = .returned v ∧ R v w') e)
    (hr : resOf ρ fn.results.toList = some (a :: b :: l)) (h : R (.tuple (a :: b :: l).toArray) w) (hds : n.ds = [] := by rfl) : QN Q e n ρ w := QN.done he hQ hr h hds
theorem XL.splitAt {P : Program} {ops : Array Oper} {Q : Exit → Act → World → Prop} {n : Slots} {ρ : Env} {w : World} {rem : List Oper} {t : Nat} {c : Bool} (_hb : ρ.get? t = some (.bool c)) (h1 : c = true → XL P ops Q n rem ρ w) (h2 : c = false → XL P ops Q n rem ρ w) : XL P ops Q n rem ρ w := by cases c <;> simp_all
def Env.drop (ks : List Nat) : Env → Env
  | [] => []
  | (k, v) :: r => if ks.any (Nat.beq k) then Env.drop ks r else (k, v) :: Env.drop ks r
theorem Env.drop_get {ks : List Nat} : ∀ {ρ : Env} {t : Nat} {v : Value}, (Env.drop ks ρ).get? t = some v → ρ.get? t = some v := by
  have hno : ∀ {ρ : Env} {t : Nat} {v : Value}, (Env.drop ks ρ).get? t = some v → ks.any (Nat.beq t) = false := by
    intro ρ
    induction ρ with
    | nil => intro t v h; simp [Env.drop, Env.get?] at h
    | cons p r ih =>
      intro t v h
      obtain ⟨k, u⟩ := p
      simp only [Env.drop] at h
      split at h
      · exact ih h
      · rename_i hk
        simp only [Env.get?] at h
        cases hb : Nat.beq k t with
        | true => have := Nat.eq_of_beq_eq_true hb; subst this; exact Bool.eq_false_iff.2 hk
        | false => rw [hb] at h; exact ih h
  intro ρ
  induction ρ with
  | nil => intro t v h; simp [Env.drop, Env.get?] at h
  | cons p r ih =>
    intro t v h
    have hn := hno h
    obtain ⟨k, u⟩ := p
    simp only [Env.drop] at h
    split at h
    · rename_i hk
      have hkt : Nat.beq k t = false := by
        cases hb : Nat.beq k t with
        | true => have := Nat.eq_of_beq_eq_true hb; subst this; rw [hn] at hk; cases hk
        | false => rfl
      simp only [Env.get?, hkt]
      exact ih h
    · simp only [Env.get?] at h ⊢
      cases hb : Nat.beq k t with
      | true => rw [hb] at h; exact h
      | false => rw [hb] at h; exact ih h
inductive DropTo (ks : List Nat) : Env → Env → Prop where
  | nil : DropTo ks [] []
  | skip {k : Nat} {v : Value} {r r' : Env} (h : ks.any (Nat.beq k) = true) (hr : DropTo ks r r') : DropTo ks ((k, v) :: r) r'
  | keep {k : Nat} {v : Value} {r r' : Env} (h : ks.any (Nat.beq k) = false) (hr : DropTo ks r r') : DropTo ks ((k, v) :: r) ((k, v) :: r')
theorem DropTo.eq {ks : List Nat} {ρ ρ' : Env} (h : DropTo ks ρ ρ') : Env.drop ks ρ = ρ' := by
  induction h with
  | nil => rfl
  | skip h hr ih => simp only [Env.drop, h, if_true]; exact ih
  | keep h hr ih => simp only [Env.drop, h]; rw [ih]; rfl
theorem XC.drop {P : Program} {Q : Exit → Act → World → Prop} {n : Slots} {ρ ρ' : Env} {w : World} {c : Code} (ks : List Nat) (hd : DropTo ks ρ ρ') (h : XC P c Q n ρ' w) : XC P c Q n ρ w := by
  have hd := hd.eq
  subst hd
  intro a ha
  refine h a ⟨ha.size, ha.defers, ?_⟩
  intro x v hx
  cases x with
  | tmp t => exact ha.sat (.tmp t) v (Env.drop_get hx)
  | const c => exact ha.sat (.const c) v hx
  | global g => exact ha.sat (.global g) v hx
  | func f => exact ha.sat (.func f) v hx
theorem OpY.of {P : Program} {o : Oper} {ρ : Env} {w : World} {G : Value → World → Prop} (h : ∀ e, EvSat ρ e → Yl P G ((execOp e o).run P w)) : OpY P o ρ w G := h
theorem OpY.run {P : Program} {o : Oper} {ρ : Env} {w : World} {G : Value → World → Prop} (h : OpY P o ρ w G) : ∀ e, EvSat ρ e → Yl P G ((execOp e o).run P w) := h
theorem XL.run {P : Program} {ops : Array Oper} {Q : Exit → Act → World → Prop} {n : Slots} {rem : List Oper} {ρ : Env} {w : World} (h : XL P ops Q n rem ρ w) : ∀ a, Sat n ρ a → wpL P n.rnd ops Q rem a w := h
theorem XC.of {P : Program} {c : Code} {Q : Exit → Act → World → Prop} {n : Slots} {ρ : Env} {w : World} (h : ∀ a, Sat n ρ a → c.wpIn (FR n.rnd) 0 P Q a w) : XC P c Q n ρ w := h
theorem XC.run {P : Program} {c : Code} {Q : Exit → Act → World → Prop} {n : Slots} {ρ : Env} {w : World} (h : XC P c Q n ρ w) : ∀ a, Sat n ρ a → c.wpIn (FR n.rnd) 0 P Q a w := h
theorem QN.run {Q : Exit → Act → World → Prop} {e : Exit} {n : Slots} {ρ : Env} {w : World} (h : QN Q e n ρ w) : ∀ a, Sat n ρ a → Q e a w := h
theorem QN.of {Q : Exit → Act → World → Prop} {e : Exit} {n : Slots} {ρ : Env} {w : World} (h : ∀ a, Sat n ρ a → Q e a w) : QN Q e n ρ w := h
attribute [irreducible] OpY XL XC QN
theorem ya {p : Prop} (h : p := by first | assumption | rfl | exact decide_eq_true (by omega) | exact decide_eq_false (by omega) | (simp only [decide_eq_true_eq, decide_eq_false_iff_not, Bool.not_eq_true', Bool.not_eq_false', Bool.not_eq_eq_eq_not, Bool.not_true, Bool.not_false]; omega) | (simp; done) | (simp; omega)) : p := h
end Go.Proofs.YtchammpamigonaaGreatX
end
section
namespace Go.Proofs.YtchammpamigonaaGreatX
open Go Go.RowKit
structure Chg (S : Nat → Prop) (w w' : World) : Prop where
  os : w'.os = w.os
  tape : w'.tape = w.tape
  output : w'.output = w.output
  size : w.heap.size ≤ w'.heap.size
  blk : ∀ b, b < w.heap.size → ¬ S b → w'.heap[b]? = w.heap[b]?
def NoB : Nat → Prop := fun _ => False
abbrev Ext (w w' : World) : Prop := Chg NoB w w'
def Grow (S : Nat → Prop) (w w' : World) : Nat → Prop := fun b => S b ∨ (w.heap.size ≤ b ∧ b < w'.heap.size)
def Same (S : Nat → Prop) (w w' : World) : Prop := ∀ b, b < w.heap.size → S b → w'.heap[b]? = w.heap[b]?
theorem Chg.refl (S : Nat → Prop) (w : World) : Chg S w w := ⟨rfl, rfl, rfl, Nat.le_refl _, fun _ _ _ => rfl⟩
theorem Chg.trans {S S' S'' : Nat → Prop} {a b c : World} (h : Chg S a b) (k : Chg S' b c) (hS : ∀ x, S x → S'' x) (hS' : ∀ x, x < a.heap.size → S' x → S'' x) : Chg S'' a c :=
  ⟨k.os.trans h.os, k.tape.trans h.tape, k.output.trans h.output, Nat.le_trans h.size k.size, fun i hi hn =>
    (k.blk i (Nat.lt_of_lt_of_le hi h.size) (fun e => hn (hS' i hi e))).trans (h.blk i hi (fun e => hn (hS i e)))⟩
theorem Chg.mono {S S' : Nat → Prop} {a b : World} (h : Chg S a b) (hS : ∀ x, x < a.heap.size → S x → S' x) : Chg S' a b := ⟨h.os, h.tape, h.output, h.size, fun i hi hn => h.blk i hi fun e => hn (hS i hi e)⟩
theorem Ext.trans {a b c : World} (h : Ext a b) (k : Ext b c) : Ext a c := Chg.trans h k (fun _ h => h) (fun _ _ h => h)
theorem Ext.chg {S : Nat → Prop} {a b : World} (h : Ext a b) : Chg S a b := h.mono fun _ _ h => h.elim
theorem Ext.then {S : Nat → Prop} {a b c : World} (h : Ext a b) (k : Chg S b c) : Chg S a c := Chg.trans h k (fun _ h => h.elim) (fun _ _ h => h)
theorem Chg.ext {S : Nat → Prop} {a b c : World} (h : Chg S a b) (k : Ext b c) : Chg S a c := Chg.trans h k (fun _ h => h) (fun _ _ h => h.elim)
theorem Ext.chgNew {S : Nat → Prop} {a b c : World} (h : Ext a b) (k : Chg S b c) (hS : ∀ x, S x → a.heap.size ≤ x) : Ext a c :=
  Chg.trans h k (fun _ h => h) (fun x hx hs => by have := hS x hs; omega)
theorem Ext.drew (w : World) : Ext w w.drew := ⟨rfl, rfl, rfl, Nat.le_refl _, fun _ _ _ => rfl⟩
theorem Ext.alloc (w : World) (o : Obj) : Ext w (w.alloc o) := ⟨rfl, rfl, rfl, by simp, fun b hb _ => by first | exact heap_alloc_old w o b hb | exact heap_alloc_old w o hb⟩
theorem Chg.setRow (w : World) (g : Nat) (cs : Array Value) {S : Nat → Prop} (hS : S g) : Chg S w (w.setRow g cs) :=
  ⟨rfl, rfl, rfl, by simp, fun b _ hn => setRow_other w g b cs (fun e => hn (e ▸ hS))⟩
theorem Ext.below {w w' : World} (h : Ext w w') : Below w.heap.size w w' := ⟨h.os, h.tape, h.output, h.size, fun k hk => h.blk k hk (fun h => h)⟩
theorem Ext.same {w w' : World} (h : Ext w w') (S : Nat → Prop) : Same S w w' := fun b hb _ => h.blk b hb (fun h => h)
theorem Chg.same {S R : Nat → Prop} {w w' : World} (h : Chg S w w') (hd : ∀ b, b < w.heap.size → R b → ¬ S b) : Same R w w' := fun b hb hr => h.blk b hb (hd b hb hr)
theorem lt_of_heap {w : World} {b : Nat} {o : Obj} (h : w.heap[b]? = some o) : b < w.heap.size := (Array.getElem?_eq_some_iff.1 h).1
theorem Same.heap {S : Nat → Prop} {w w' : World} (h : Same S w w') {b : Nat} {o : Obj} (hb : w.heap[b]? = some o) (hs : S b) : w'.heap[b]? = some o := (h b (lt_of_heap hb) hs).trans hb
theorem Ext.heap {w w' : World} (h : Ext w w') {b : Nat} {o : Obj} (hb : w.heap[b]? = some o) : w'.heap[b]? = some o := (h.blk b (lt_of_heap hb) (fun h => h)).trans hb
theorem Chg.heap {S : Nat → Prop} {w w' : World} (h : Chg S w w') {b : Nat} {o : Obj} (hb : w.heap[b]? = some o) (hs : ¬ S b) : w'.heap[b]? = some o := (h.blk b (lt_of_heap hb) hs).trans hb
def HB (w : World) (b : Nat) (o : Obj) : Prop := w.heap[b]? = some o
theorem HB.ext {w w' : World} {b : Nat} {o : Obj} (h : HB w b o) (hE : Ext w w') : HB w' b o := hE.heap h
theorem HB.chg {S : Nat → Prop} {w w' : World} {b : Nat} {o : Obj} (h : HB w b o) (hC : Chg S w w') (hn : ¬ S b) : HB w' b o := hC.heap h hn
theorem HB.lt {w : World} {b : Nat} {o : Obj} (h : HB w b o) : b < w.heap.size := lt_of_heap h
def Row (S : Nat → Prop) (w : World) (v : Value) (n : Nat) (xs : List Value) : Prop :=
  ∃ a cap, v = .slice a n cap ∧ n ≤ cap ∧ cap ≤ maxLen ∧ (n = 0 → xs = []) ∧ (∀ x ∈ xs, x.oneCell' = true) ∧
    (xs ≠ [] → ∃ b o cur T fr, a = some ⟨b, o, none⟩ ∧ S b ∧ w.heap[b]? = some (.cells cur T fr) ∧ ∀ j, j < xs.length → cur[o + j]? = xs[j]?)
def AnyB : Nat → Prop := fun _ => True
theorem Row.nil (S : Nat → Prop) (w : World) : Row S w (.slice none 0 0) 0 [] := ⟨none, 0, rfl, Nat.le_refl _, by simp [maxLen], fun _ => rfl, by simp, fun h => absurd rfl h⟩
theorem Row.same {S : Nat → Prop} {w w' : World} {v : Value} {n : Nat} {xs : List Value} (h : Row S w v n xs) (hs : Same S w w') : Row S w' v n xs := by
  obtain ⟨a, cap, hv, h1, h2, h3, h4, h5⟩ := h
  exact ⟨a, cap, hv, h1, h2, h3, h4, fun hx => let ⟨b, o, cur, T, fr, ha, hb, hh, hc⟩ := h5 hx; ⟨b, o, cur, T, fr, ha, hb, hs.heap hh hb, hc⟩⟩
theorem Row.ext {S : Nat → Prop} {w w' : World} {v : Value} {n : Nat} {xs : List Value} (h : Row S w v n xs) (hs : Ext w w') : Row S w' v n xs := h.same (hs.same S)
theorem Row.chg {S R : Nat → Prop} {w w' : World} {v : Value} {n : Nat} {xs : List Value} (h : Row R w v n xs) (hs : Chg S w w') (hd : ∀ b, b < w.heap.size → R b → ¬ S b) : Row R w' v n xs := h.same (hs.same hd)
theorem Row.mono {S S' : Nat → Prop} {w : World} {v : Value} {n : Nat} {xs : List Value} (h : Row S w v n xs) (hs : ∀ b, b < w.heap.size → S b → S' b) : Row S' w v n xs := by
  obtain ⟨a, cap, hv, h1, h2, h3, h4, h5⟩ := h
  exact ⟨a, cap, hv, h1, h2, h3, h4, fun hx => let ⟨b, o, cur, T, fr, ha, hb, hh, hc⟩ := h5 hx; ⟨b, o, cur, T, fr, ha, hs b (lt_of_heap hh) hb, hh, hc⟩⟩
theorem Row.any {S : Nat → Prop} {w : World} {v : Value} {n : Nat} {xs : List Value} (h : Row S w v n xs) : Row AnyB w v n xs := h.mono fun _ _ _ => trivial
theorem Row.old {S : Nat → Prop} {w : World} {v : Value} {n : Nat} {xs : List Value} (h : Row S w v n xs) : Row (· < w.heap.size) w v n xs := h.mono fun _ hb _ => hb
theorem Row.le {S : Nat → Prop} {w : World} {v : Value} {n : Nat} {xs : List Value} (h : Row S w v n xs) : n ≤ 9223372036854775807 := by
  obtain ⟨a, cap, _, h1, h2, _⟩ := h
  simp only [maxLen] at h2
  omega
theorem Row.val {S : Nat → Prop} {w : World} {v : Value} {n : Nat} {xs : List Value} (h : Row S w v n xs) : ∃ a cap, v = .slice a n cap := let ⟨a, cap, hv, _⟩ := h; ⟨a, cap, hv⟩
theorem Row.cells {S : Nat → Prop} {w : World} {a : Addr} {n cap : Nat} {xs : List Value} (h : Row S w (.slice (some a) n cap) n xs) : ∀ j u, xs[j]? = some u → w.cell? (a.add j) = some u := by
  intro j u hu
  obtain ⟨a', cap', hv, h1, h2, h3, h4, h5⟩ := h
  cases hv
  have hj : j < xs.length := (List.getElem?_eq_some_iff.1 hu).1
  obtain ⟨b, o, cur, T, fr, ha, _, hh, hc⟩ := h5 (by intro e; subst e; simp at hj)
  cases ha
  rw [Addr.add_lit, cell_of_row w b (o + j) cur T fr hh, hc j hj, hu]
theorem run_lenOf {P : Program} {S : Nat → Prop} {w : World} {v : Value} {n : Nat} {xs : List Value} (h : Row S w v n xs) (w' : World) : (Builtin.lenOf v).run P w' = .ok n w' := by
  obtain ⟨a, cap, rfl, _⟩ := h
  rfl
theorem run_firstCells {P : Program} {S : Nat → Prop} {w : World} {v : Value} {n sz : Nat} {xs : List Value} (h : Row S w v n xs) (hl : xs.length = n * sz) : (Builtin.firstCells sz n v).run P w = .ok xs.toArray w := by
  have h0 := h
  obtain ⟨a, cap, rfl, h1, h2, h3, h4, h5⟩ := h
  cases a with
  | none =>
    have : xs = [] := by
      apply Classical.byContradiction
      intro hx
      obtain ⟨b, o, cur, T, fr, ha, _⟩ := h5 hx
      cases ha
    subst this
    exact run_firstCells_none w sz n n cap
  | some a => exact run_firstCells_some w sz n a n cap xs hl h0.cells
def nofr (k : Nat) (fr : Nat × Nat) : Prop := ∀ j, j < k → ¬ (fr.1 ≤ j ∧ j < fr.2)
theorem nofr0 (k : Nat) : nofr k (0, 0) := fun j _ h => by simp at h
theorem nofr_past (k : Nat) : nofr k (k, k + 1) := fun j hj h => by have := h.1; simp at this; omega
theorem run_storeCells_gen {P : Program} (g o : Nat) (t : TypeId) (fr : Nat × Nat) : ∀ (vs : List Value) (i : Nat) (cur : Array Value) (w : World), w.heap[g]? = some (.cells cur t fr) → nofr cur.size fr → o + i + vs.length ≤ cur.size → (∀ v ∈ vs, v.oneCell' = true) →
    (storeCells ⟨g, o, none⟩ vs i).run P w = .ok () (w.setRow g (cur.toList.take (o + i) ++ vs ++ cur.toList.drop (o + i + vs.length)).toArray)
  | [], i, cur, w, hg, _, _, _ => by
    simp only [storeCells, List.append_nil, List.length_nil, Nat.add_zero, List.take_append_drop, Array.toArray_toList]
    rw [setRow_self w g cur t fr hg]
    rfl
  | v :: rest, i, cur, w, hg, hf, hl, h1 => by
    have hi : o + i < cur.size := by simp at hl; omega
    have hadd : (⟨g, o, none⟩ : Addr).add i = ⟨g, o + i, none⟩ := by unfold Addr.add; split <;> simp_all
    have hcell : w.cell? ⟨g, o + i, none⟩ = some cur[o + i] := by simp [World.cell?, hg, hi]
    have hfro : w.frozen? ⟨g, o + i, none⟩ = false := by
      have := hf (o + i) hi
      simp only [World.frozen?, hg]
      rw [Bool.eq_false_iff]
      intro h
      simp at h
      exact this h
    have hst : (store ((⟨g, o, none⟩ : Addr).add i) v).run P w = .ok () (w.setRow g (cur.setIfInBounds (o + i) v)) := by
      rw [hadd, run_store P w _ v _ (h1 v (by simp)), hcell]
      simp [hfro, setCell_eq_setRow w g (o + i) cur t fr v hg]
    have ih := run_storeCells_gen (P := P) g o t fr rest (i + 1) (cur.setIfInBounds (o + i) v) (w.setRow g (cur.setIfInBounds (o + i) v)) (setRow_heap w g cur _ t fr hg) (by simpa using hf) (by simp at hl ⊢; omega) (fun x hx => h1 x (by simp [hx]))
    simp only [storeCells, Sem.run_bind, hst, Result.andThen_ok, ih, setRow_setRow]
    congr 3
    have e := list_seg_step cur.toList (o + i) v rest (by simp at hl ⊢; omega)
    simpa [Array.toList_setIfInBounds, Nat.add_assoc] using e
structure SliceT (P : Program) (t e : TypeId) (sz bytes : Nat) (z : Value) : Prop where
  und : P.underlying t = some (.slice e)
  info : (P.info? e).map (fun i => (i.size, i.bytes, i.zero)) = some (sz, bytes, some z)
  zc : z.cells.size = sz
  pos : 0 < sz
theorem SliceT.get {P : Program} {t e : TypeId} {sz bytes : Nat} {z : Value} (h : SliceT P t e sz bytes z) : ∃ i, P.info? e = some i ∧ i.size = sz ∧ i.bytes = bytes ∧ i.zero = some z := by
  have := h.info
  cases hi : P.info? e with
  | none => simp [hi] at this
  | some i => simp [hi] at this; exact ⟨i, rfl, this.1, this.2.1, this.2.2⟩
def Apd (S : Nat → Prop) (w : World) (T : TypeId) (sz : Nat) (v : Value) (n : Nat) (xs : List Value) : Prop :=
  xs.length = n * sz ∧ (∀ x ∈ xs, x.oneCell' = true) ∧ ∃ a cap, v = .slice a n cap ∧ n ≤ cap ∧ cap ≤ maxLen ∧
    ((cap = n ∧ (xs ≠ [] → ∃ b o cur T' fr, a = some ⟨b, o, none⟩ ∧ S b ∧ w.heap[b]? = some (.cells cur T' fr) ∧ ∀ j, j < xs.length → cur[o + j]? = xs[j]?)) ∨
     ∃ g cur fr, a = some ⟨g, 0, none⟩ ∧ S g ∧ w.heap[g]? = some (.cells cur T fr) ∧ nofr cur.size fr ∧ cur.size = cap * sz ∧ cur.toList.take (n * sz) = xs)
theorem Apd.nil (S : Nat → Prop) (w : World) (T : TypeId) (sz : Nat) : Apd S w T sz (.slice none 0 0) 0 [] := ⟨by simp, by simp, none, 0, rfl, Nat.le_refl _, by simp [maxLen], .inl ⟨rfl, fun h => absurd rfl h⟩⟩
theorem Apd.same {S : Nat → Prop} {w w' : World} {T : TypeId} {sz : Nat} {v : Value} {n : Nat} {xs : List Value} (h : Apd S w T sz v n xs) (hs : Same S w w') : Apd S w' T sz v n xs := by
  obtain ⟨h0, h1, a, cap, hv, h2, h3, h4⟩ := h
  refine ⟨h0, h1, a, cap, hv, h2, h3, ?_⟩
  rcases h4 with ⟨hc, h4⟩ | ⟨g, cur, fr, ha, hg, hh, r⟩
  · exact .inl ⟨hc, fun hx => let ⟨b, o, cur, T, fr, ha, hb, hh, hc⟩ := h4 hx; ⟨b, o, cur, T, fr, ha, hb, hs.heap hh hb, hc⟩⟩
  · exact .inr ⟨g, cur, fr, ha, hg, hs.heap hh hg, r⟩
theorem Apd.ext {S : Nat → Prop} {w w' : World} {T : TypeId} {sz : Nat} {v : Value} {n : Nat} {xs : List Value} (h : Apd S w T sz v n xs) (hs : Ext w w') : Apd S w' T sz v n xs := h.same (hs.same S)
theorem Apd.mono {S S' : Nat → Prop} {w : World} {T : TypeId} {sz : Nat} {v : Value} {n : Nat} {xs : List Value} (h : Apd S w T sz v n xs) (hs : ∀ b, b < w.heap.size → S b → S' b) : Apd S' w T sz v n xs := by
  obtain ⟨h0, h1, a, cap, hv, h2, h3, h4⟩ := h
  refine ⟨h0, h1, a, cap, hv, h2, h3, ?_⟩
  rcases h4 with ⟨hc, h4⟩ | ⟨g, cur, fr, ha, hg, hh, r⟩
  · exact .inl ⟨hc, fun hx => let ⟨b, o, cur, T, fr, ha, hb, hh, hc⟩ := h4 hx; ⟨b, o, cur, T, fr, ha, hs b (lt_of_heap hh) hb, hh, hc⟩⟩
  · exact .inr ⟨g, cur, fr, ha, hs g (lt_of_heap hh) hg, hh, r⟩
theorem Apd.row {S : Nat → Prop} {w : World} {T : TypeId} {sz : Nat} {v : Value} {n : Nat} {xs : List Value} (h : Apd S w T sz v n xs) : Row S w v n xs := by
  obtain ⟨h0, h1, a, cap, hv, h2, h3, h4⟩ := h
  refine ⟨a, cap, hv, h2, h3, fun e => by subst e; simpa using h0, h1, fun hx => ?_⟩
  rcases h4 with ⟨hc, h4⟩ | ⟨g, cur, fr, ha, hg, hh, _, hs, ht⟩
  · exact h4 hx
  · refine ⟨g, 0, cur, T, fr, ha, hg, hh, fun j hj => ?_⟩
    rw [← ht, List.getElem?_take, Nat.zero_add]
    rw [if_pos (by omega)]
    simp
def Own (S : Nat → Prop) (w : World) (T : TypeId) (sz : Nat) (v : Value) (n : Nat) (xs : List Value) : Prop :=
  xs.length = n * sz ∧ (∀ x ∈ xs, x.oneCell' = true) ∧ ∃ g cap cur fr, v = .slice (some ⟨g, 0, none⟩) n cap ∧ n ≤ cap ∧ cap ≤ maxLen ∧ S g ∧ w.heap[g]? = some (.cells cur T fr) ∧ nofr cur.size fr ∧ cur.size = cap * sz ∧ cur.toList.take (n * sz) = xs
theorem Own.apd {S : Nat → Prop} {w : World} {T : TypeId} {sz : Nat} {v : Value} {n : Nat} {xs : List Value} (h : Own S w T sz v n xs) : Apd S w T sz v n xs := by
  obtain ⟨h0, h1, g, cap, cur, fr, hv, h2, h3, h4, h5, h6, h7, h8⟩ := h
  exact ⟨h0, h1, _, cap, hv, h2, h3, .inr ⟨g, cur, fr, rfl, h4, h5, h6, h7, h8⟩⟩
theorem Own.row {S : Nat → Prop} {w : World} {T : TypeId} {sz : Nat} {v : Value} {n : Nat} {xs : List Value} (h : Own S w T sz v n xs) : Row S w v n xs := h.apd.row
theorem Own.same {S : Nat → Prop} {w w' : World} {T : TypeId} {sz : Nat} {v : Value} {n : Nat} {xs : List Value} (h : Own S w T sz v n xs) (hs : Same S w w') : Own S w' T sz v n xs := by
  obtain ⟨h0, h1, g, cap, cur, fr, hv, h2, h3, h4, h5, r⟩ := h
  exact ⟨h0, h1, g, cap, cur, fr, hv, h2, h3, h4, hs.heap h5 h4, r⟩
theorem Own.ext {S : Nat → Prop} {w w' : World} {T : TypeId} {sz : Nat} {v : Value} {n : Nat} {xs : List Value} (h : Own S w T sz v n xs) (hs : Ext w w') : Own S w' T sz v n xs := h.same (hs.same S)
theorem Own.mono {S S' : Nat → Prop} {w : World} {T : TypeId} {sz : Nat} {v : Value} {n : Nat} {xs : List Value} (h : Own S w T sz v n xs) (hs : ∀ b, b < w.heap.size → S b → S' b) : Own S' w T sz v n xs := by
  obtain ⟨h0, h1, g, cap, cur, fr, hv, h2, h3, h4, h5, r⟩ := h
  exact ⟨h0, h1, g, cap, cur, fr, hv, h2, h3, hs g (lt_of_heap h5) h4, h5, r⟩
theorem Own.take {S : Nat → Prop} {w : World} {T : TypeId} {sz : Nat} {v : Value} {n : Nat} {xs : List Value} {k : Nat} (h : Own S w T sz v n xs) (hk : k ≤ n) : ∃ g cap, v = .slice (some ⟨g, 0, none⟩) n cap ∧ n ≤ cap ∧ Own S w T sz (.slice (some ⟨g, 0, none⟩) k cap) k (xs.take (k * sz)) := by
  obtain ⟨h0, h1, g, cap, cur, fr, hv, h2, h3, h4, h5, h6, h7, h8⟩ := h
  have : k * sz ≤ n * sz := Nat.mul_le_mul_right _ hk
  refine ⟨g, cap, hv, h2, ?_, fun x hx => h1 x (List.mem_of_mem_take hx), g, cap, cur, fr, rfl, by omega, h3, h4, h5, h6, h7, ?_⟩
  · rw [List.length_take]; omega
  · rw [← h8, List.take_take, Nat.min_eq_left this]
theorem Own.set {S : Nat → Prop} {w : World} {T : TypeId} {sz : Nat} {v : Value} {n : Nat} {xs : List Value} (h : Own S w T sz v n xs) {g : Nat} (hg : v.ownBlock = some g) {j : Nat} (hj : j < n * sz) {u : Value} (hu : u.oneCell' = true) :
    ∃ w', w' = w.setCell ⟨g, j, none⟩ u ∧ (∃ x, w.cell? ⟨g, j, none⟩ = some x) ∧ w.frozen? ⟨g, j, none⟩ = false ∧ Own S w' T sz v n (xs.set j u) ∧ Chg (· = g) w w' ∧ w'.heap.size = w.heap.size := by
  obtain ⟨h0, h1, g', cap, cur, fr, rfl, h2, h3, h4, h5, h6, h7, h8⟩ := h
  simp [Value.ownBlock] at hg
  subst hg
  have hle : n * sz ≤ cap * sz := Nat.mul_le_mul_right _ h2
  have hjc : j < cur.size := by omega
  have hset := setCell_eq_setRow w g' j cur T fr u h5
  refine ⟨_, rfl, ⟨cur[j], by rw [cell_of_row w g' j cur T fr h5]; simp [hjc]⟩, ?_, ⟨by simp [h0], ?_, g', cap, cur.setIfInBounds j u, fr, rfl, h2, h3, h4, by rw [hset]; exact setRow_heap w g' cur _ T fr h5, by simpa using h6, by simpa using h7, ?_⟩, ?_, by simp [World.setCell]⟩
  · have := h6 j hjc
    simp only [World.frozen?, h5]
    rw [Bool.eq_false_iff]
    intro h
    simp at h
    exact this h
  · intro x hx
    rcases List.mem_or_eq_of_mem_set hx with h | h
    · exact h1 x h
    · exact h ▸ hu
  · rw [Array.toList_setIfInBounds, List.take_set, h8]
  · rw [hset]; exact Chg.setRow w g' _ rfl
theorem run_append {P : Program} {S : Nat → Prop} {w : World} {t u ty e : TypeId} {sz bytes : Nat} {z : Value} (ht : SliceT P t e sz bytes z) (hu : (∃ e', P.underlying u = some (.slice e')) ∨ P.underlying u = some .string)
    {v x : Value} {n m : Nat} {xs ys : List Value} (hv : Apd S w e sz v n xs)
    (hlen : ∀ w', (Builtin.lenOf x).run P w' = .ok m w') (hfirst : ∀ w' : World, w'.heap = w.heap → (Builtin.firstCells sz m x).run P w' = .ok ys.toArray w') (hl : ys.length = m * sz) (h1 : ∀ y ∈ ys, y.oneCell' = true)
    (hby : (n + m) * bytes ≤ 140737488355328) (hnm : n + m ≤ 9223372036854775807) :
    ∃ v' w', (Builtin.append_ #[t, u] ty #[v, x]).run P w = .ok v' w' ∧ Apd (Grow S w w') w' e sz v' (n + m) (xs ++ ys) ∧ Chg S w w' ∧ (0 < m → Own (Grow S w w') w' e sz v' (n + m) (xs ++ ys)) := by
  obtain ⟨i, hi, hsz, hbt, hz⟩ := ht.get
  have hpos := ht.pos
  have hzc := ht.zc
  have hund := ht.und
  have hrow := hv.row
  subst hsz
  subst hbt
  obtain ⟨hxl, hx1, a, cap, rfl, hnc, hcm, hcase⟩ := hv
  have hlen2 : (xs ++ ys).length = (n + m) * i.size := by rw [List.length_append, hxl, hl, Nat.add_mul]
  have hone : ∀ y ∈ xs ++ ys, y.oneCell' = true := by
    intro y hy
    rcases List.mem_append.1 hy with h | h
    · exact hx1 y h
    · exact h1 y h
  by_cases hroom : n + m ≤ cap
  · -- there is room
    rcases hcase with ⟨hc, hcells⟩ | ⟨g, cur, fr, rfl, hg, hh, hf, hcs, htake⟩
    · have hm : m = 0 := by omega
      subst hm
      have hy : ys = [] := List.eq_nil_of_length_eq_zero (by simpa using hl)
      subst hy
      refine ⟨.slice a n cap, w, ?_, ⟨by simpa using hlen2, by simpa using hx1, a, cap, rfl, by omega, hcm, .inl ⟨by omega, fun hx => ?_⟩⟩, Chg.refl _ _, fun h => absurd h (by omega)⟩
      · rcases hu with ⟨e', hud⟩ | hud <;> cases a <;> simp [Builtin.append_, run_underlying hund, run_underlying hud, hlen, sizeOf, typeInfo, hi, hfirst w rfl, hnc, storeCells]
      · obtain ⟨b, o, cur, T', fr, ha, hb, r⟩ := hcells (by simpa using hx)
        exact ⟨b, o, cur, T', fr, ha, .inl hb, by simpa using r⟩
    · have hfit : n * i.size + ys.length ≤ cur.size := by rw [hl, hcs, ← Nat.add_mul]; exact Nat.mul_le_mul_right _ hroom
      have hst := run_storeCells_gen (P := P) g (n * i.size) e fr ys 0 cur w hh hf (by simpa using hfit) h1
      simp only [Nat.add_zero] at hst
      have hO : Own (Grow S w (w.setRow g (cur.toList.take (n * i.size) ++ ys ++ cur.toList.drop (n * i.size + ys.length)).toArray)) (w.setRow g (cur.toList.take (n * i.size) ++ ys ++ cur.toList.drop (n * i.size + ys.length)).toArray) e i.size (.slice (some ⟨g, 0, none⟩) (n + m) cap) (n + m) (xs ++ ys) := by
        refine ⟨hlen2, hone, g, cap, (cur.toList.take (n * i.size) ++ ys ++ cur.toList.drop (n * i.size + ys.length)).toArray, fr, rfl, hroom, hcm, .inl hg, setRow_heap w g cur _ e fr hh, ?_, ?_, ?_⟩
        · have : (cur.toList.take (n * i.size) ++ ys ++ cur.toList.drop (n * i.size + ys.length)).toArray.size = cur.size := by
            simp; omega
          rw [this]; exact hf
        · simp
          omega
        · have h3 : (cur.toList.take (n * i.size) ++ ys).length = (n + m) * i.size := by
            rw [List.length_append, List.length_take, hl, Nat.add_mul]
            simp
            omega
          simp only [List.append_assoc] at *
          rw [← List.append_assoc, ← h3, List.take_left, htake]
      refine ⟨.slice (some ⟨g, 0, none⟩) (n + m) cap, w.setRow g (cur.toList.take (n * i.size) ++ ys ++ cur.toList.drop (n * i.size + ys.length)).toArray, ?_, hO.apd, Chg.setRow w g _ hg, fun _ => hO⟩
      rcases hu with ⟨e', hud⟩ | hud <;> simp [Builtin.append_, run_underlying hund, run_underlying hud, hlen, sizeOf, typeInfo, hi, hroom, hfirst w rfl, Addr.add_lit, hst]
  · -- it grows
    have hneed : cap < n + m := by omega
    have hgs := growslice_fits (bytes := i.bytes) hneed hby
    have hold : ∀ w' : World, w'.heap = w.heap → (Builtin.firstCells i.size n (.slice a n cap)).run P w' = .ok xs.toArray w' := fun w' hw' =>
      run_firstCells (hrow.same (w' := w') (fun b _ _ => by rw [hw'])) hxl
    have hnot48 : ¬ (Builtin.nextslicecap (n + m) cap * i.bytes > 2 ^ 48) := by omega
    have hmax : IntKind.i64.max = 9223372036854775807 := by decide
    have hq : (Question.appendCap (n + m) cap e).forced = false := rfl
    have hge := grownCap_ge w (n + m) cap e
    have hcm' := grownCap_le_maxLen w (n + m) cap e (by simp only [maxLen]; omega)
    have hO : Own (Grow S w (w.drew.alloc (.cells (xs.toArray ++ ys.toArray ++ Builtin.zeroCells z.cells (grownCap w (n + m) cap e - (n + m))) e))) (w.drew.alloc (.cells (xs.toArray ++ ys.toArray ++ Builtin.zeroCells z.cells (grownCap w (n + m) cap e - (n + m))) e)) e i.size (.slice (some ⟨w.heap.size, 0, none⟩) (n + m) (grownCap w (n + m) cap e)) (n + m) (xs ++ ys) := by
      refine ⟨hlen2, hone, w.heap.size, _, _, (0, 0), rfl, hge, hcm', .inr ⟨Nat.le_refl _, by simp⟩, heap_alloc_new w.drew _, nofr0 _, ?_, ?_⟩
      · simp only [Array.size_append, List.size_toArray, size_zeroCells, hzc, hxl, hl, ← Nat.add_mul]
        congr 1
        omega
      · simp only [Array.toList_append, List.append_assoc]
        rw [← List.append_assoc, ← hlen2]
        exact List.take_left
    refine ⟨.slice (some ⟨w.heap.size, 0, none⟩) (n + m) (grownCap w (n + m) cap e), w.drew.alloc (.cells (xs.toArray ++ ys.toArray ++ Builtin.zeroCells z.cells (grownCap w (n + m) cap e - (n + m))) e), ?_, hO.apd, (Ext.chg ((Ext.drew w).trans (Ext.alloc _ _))), fun _ => hO⟩
    rcases hu with ⟨e', hud⟩ | hud <;> simp [Builtin.append_, run_underlying hund, run_underlying hud, hlen, sizeOf, typeInfo, hi, hroom, hnot48, hq, hold w.drew rfl, hfirst w.drew rfl, zeroValue, hz, newRow, grownCap] <;> rw [if_neg (by omega)] <;> simp [hold w.drew rfl, hfirst w.drew rfl, hz] <;> rw [← List.append_toArray, Array.append_assoc]
def Since (w0 : World) : Nat → Prop := fun b => w0.heap.size ≤ b
def New (w0 w : World) (T : TypeId) (sz : Nat) (v : Value) (n : Nat) (xs : List Value) : Prop := Ext w0 w ∧ Apd (Since w0) w T sz v n xs
theorem Since.older {w0 w1 : World} (h : w0.heap.size ≤ w1.heap.size) {b : Nat} (hb : Since w1 b) : Since w0 b := Nat.le_trans h hb
theorem Since.grow {w0 w w' : World} (h0 : w0.heap.size ≤ w.heap.size) {b : Nat} (hb : Grow (Since w0) w w' b) : Since w0 b := by
  rcases hb with h1 | h1
  · exact h1
  · exact Nat.le_trans h0 h1.1
theorem New.of {w w' : World} {T : TypeId} {sz : Nat} {v : Value} {n : Nat} {xs : List Value} (hA : Apd (Grow NoB w w') w' T sz v n xs) (hE : Ext w w') : New w w' T sz v n xs := ⟨hE, hA.mono fun b _ hb => by
  rcases hb with h1 | h1
  · exact h1.elim
  · exact h1.1⟩
def NewO (w0 w : World) (T : TypeId) (sz : Nat) (v : Value) (n : Nat) (xs : List Value) : Prop := Ext w0 w ∧ Own (Since w0) w T sz v n xs
theorem NewO.new {w0 w : World} {T : TypeId} {sz : Nat} {v : Value} {n : Nat} {xs : List Value} (h : NewO w0 w T sz v n xs) : New w0 w T sz v n xs := ⟨h.1, h.2.apd⟩
theorem NewO.ext {w0 w w' : World} {T : TypeId} {sz : Nat} {v : Value} {n : Nat} {xs : List Value} (h : NewO w0 w T sz v n xs) (hE : Ext w w') : NewO w0 w' T sz v n xs := ⟨h.1.trans hE, h.2.ext hE⟩
theorem NewO.row {w0 w : World} {T : TypeId} {sz : Nat} {v : Value} {n : Nat} {xs : List Value} (h : NewO w0 w T sz v n xs) : Row (Since w0) w v n xs := h.2.row
theorem NewO.older {w0 w1 w : World} {T : TypeId} {sz : Nat} {v : Value} {n : Nat} {xs : List Value} (h : NewO w1 w T sz v n xs) (hE : Ext w0 w1) : NewO w0 w T sz v n xs := ⟨hE.trans h.1, h.2.mono fun b _ hb => Since.older hE.size hb⟩
theorem NewO.cast {w0 w : World} {T : TypeId} {sz : Nat} {v : Value} {n n' : Nat} {xs xs' : List Value} (h : NewO w0 w T sz v n xs) (hn : n = n') (hx : xs = xs') : NewO w0 w T sz v n' xs' := by subst hn; subst hx; exact h
theorem Own.cast {S : Nat → Prop} {w : World} {T : TypeId} {sz : Nat} {v : Value} {n n' : Nat} {xs xs' : List Value} (h : Own S w T sz v n xs) (hn : n = n') (hx : xs = xs') : Own S w T sz v n' xs' := by subst hn; subst hx; exact h
theorem New.nil (w : World) (T : TypeId) (sz : Nat) : New w w T sz (.slice none 0 0) 0 [] := ⟨Chg.refl _ _, Apd.nil _ _ _ _⟩
theorem New.ext {w0 w w' : World} {T : TypeId} {sz : Nat} {v : Value} {n : Nat} {xs : List Value} (h : New w0 w T sz v n xs) (hE : Ext w w') : New w0 w' T sz v n xs := ⟨h.1.trans hE, h.2.ext hE⟩
theorem New.older {w0 w1 w : World} {T : TypeId} {sz : Nat} {v : Value} {n : Nat} {xs : List Value} (h : New w1 w T sz v n xs) (hE : Ext w0 w1) : New w0 w T sz v n xs := ⟨hE.trans h.1, h.2.mono fun b _ hb => Since.older hE.size hb⟩
theorem New.row {w0 w : World} {T : TypeId} {sz : Nat} {v : Value} {n : Nat} {xs : List Value} (h : New w0 w T sz v n xs) : Row (Since w0) w v n xs := h.2.row
theorem New.push {w0 w w' : World} {T : TypeId} {sz : Nat} {v v' : Value} {n n' : Nat} {xs xs' : List Value} (h : New w0 w T sz v n xs) (hA : Apd (Grow (Since w0) w w') w' T sz v' n' xs') (hC : Chg (Since w0) w w') : New w0 w' T sz v' n' xs' :=
  ⟨h.1.chgNew hC fun _ hx => hx, hA.mono fun _ _ hb => Since.grow h.1.size hb⟩
theorem Row.keep {w0 w w' : World} (hC : Chg (Since w0) w w') {R : Nat → Prop} {u : Value} {m : Nat} {ys : List Value} (hR : Row R w u m ys) (hlt : ∀ b, R b → b < w0.heap.size) : Row R w' u m ys :=
  hR.chg hC fun b _ hb hg => by have := hlt b hb; simp only [Since] at hg; omega
theorem Row.sinceOf {w0 w1 w : World} {v : Value} {n : Nat} {xs : List Value} (h : Row (Since w1) w v n xs) (hs : w0.heap.size ≤ w1.heap.size) : Row (Since w0) w v n xs := h.mono fun _ _ hb => Since.older hs hb
end Go.Proofs.YtchammpamigonaaGreatX
end
section
namespace Go.Proofs.YtchammpamigonaaGreatX
open Go Go.RowKit
def evs (ρ : Env) : List Operand → Option (List Value)
  | [] => some []
  | x :: r => match ev ρ x, evs ρ r with | some v, some l => some (v :: l) | _, _ => none
theorem evs_map {ρ : Env} {e : Operand → Value} (he : EvSat ρ e) : ∀ {xs : List Operand} {vs : List Value}, evs ρ xs = some vs → xs.map e = vs
  | [], vs, h => by simp [evs] at h; simp [h]
  | x :: r, vs, h => by
    simp only [evs] at h
    split at h
    · rename_i v l hv hl
      cases h
      simp [he x v hv, evs_map he hl]
    · cases h
theorem wrap64 {z : Int} (h1 : -9223372036854775808 ≤ z) (h2 : z ≤ 9223372036854775807) : IntKind.i64.wrap z = z := by
  unfold IntKind.wrap
  simp only [IntKind.bits, IntKind.signed]
  have e1 : (2 : Int) ^ 64 = 18446744073709551616 := by decide
  have e2 : (2 : Int) ^ (64 - 1) = 9223372036854775808 := by decide
  simp only [e1, e2, Bool.true_and, decide_eq_true_eq]
  split <;> omega
theorem wrapU8 {z : Int} (h1 : 0 ≤ z) (h2 : z < 256) : IntKind.u8.wrap z = z := by
  unfold IntKind.wrap
  simp only [IntKind.bits, IntKind.signed]
  have e1 : (2 : Int) ^ 8 = 256 := by decide
  simp only [e1, Bool.false_and]
  simp
  omega
theorem wrapU8m (z : Int) : IntKind.u8.wrap z = z % 256 := by
  unfold IntKind.wrap
  simp only [IntKind.bits, IntKind.signed]
  have e1 : (2 : Int) ^ 8 = 256 := by decide
  simp [e1]
theorem wrapU32m (z : Int) : IntKind.u32.wrap z = z % 4294967296 := by
  unfold IntKind.wrap
  simp only [IntKind.bits, IntKind.signed]
  have e1 : (2 : Int) ^ 32 = 4294967296 := by decide
  simp [e1]
theorem wrapU32 {z : Int} (h1 : 0 ≤ z) (h2 : z < 4294967296) : IntKind.u32.wrap z = z := by rw [wrapU32m]; omega
theorem wrapU64m (z : Int) : IntKind.u64.wrap z = z % 18446744073709551616 := by
  unfold IntKind.wrap
  simp only [IntKind.bits, IntKind.signed]
  have e1 : (2 : Int) ^ 64 = 18446744073709551616 := by decide
  simp [e1]
theorem wrapU64 {z : Int} (h1 : 0 ≤ z) (h2 : z < 18446744073709551616) : IntKind.u64.wrap z = z := by rw [wrapU64m]; omega
def byteV (b : UInt8) : Value := .int .u8 (b.toNat : Int)
def strV (l : List UInt8) : Value := .string ⟨l.toArray⟩
def bytesV (l : List UInt8) : List Value := l.map byteV
theorem ba_toList (l : List UInt8) : (⟨l.toArray⟩ : ByteArray).toList = l := by
  have h : ∀ (b : ByteArray), b.toList = b.data.toList := by
    intro b
    have key : ∀ (m i : Nat) (r : List UInt8), b.size - i = m → ByteArray.toList.loop b i r = r.reverse ++ b.data.toList.drop i := by
      intro m
      induction m with
      | zero =>
        intro i r hm
        rw [ByteArray.toList.loop]
        have hi : b.data.toList.length ≤ i := by simp; exact Nat.sub_eq_zero_iff_le.1 hm
        rw [if_neg (by simp at hi; exact Nat.not_lt.2 hi), List.drop_of_length_le hi]
        simp
      | succ m ih =>
        intro i r hm
        rw [ByteArray.toList.loop]
        have hi : i < b.size := by omega
        rw [if_pos hi, ih (i + 1) _ (by omega)]
        have hi' : i < b.data.toList.length := by simpa using hi
        rw [List.drop_eq_getElem_cons hi']
        have : i < b.data.size := hi
        simp only [ByteArray.get!, List.reverse_cons, List.append_assoc, List.singleton_append, Array.getElem_toList]
        rw [getElem!_pos b.data i this]
    have := key b.size 0 [] (by simp)
    simpa [ByteArray.toList] using this
  rw [h]
section
variable {P : Program} {ρ : Env} {w : World} {G : Value → World → Prop} {d : Option Nat} {ty : TypeId} {pos : String} {af : Array Edge} {g : Option (Nat × Bool)}
theorem OpY.val {o : Oper} {v : Value} {w' : World} (hrun : ∀ e, EvSat ρ e → (execOp e o).run P w = .ok (.value v) w') (h : G v w') : OpY P o ρ w G := OpY.of fun e he => by rw [hrun e he]; exact h
theorem OpY.un {o : Oper} {w' : World} (hrun : ∀ e, EvSat ρ e → (execOp e o).run P w = .ok .skip w') (h : G undef w') : OpY P o ρ w G := OpY.of fun e he => by rw [hrun e he]; exact h
theorem Y.move {x : Operand} {v : Value} (hx : ev ρ x = some v) (h : G v w) : OpY P ⟨d, .move x, ty, pos, af, g⟩ ρ w G := OpY.val (fun e he => by simp only [execOp]; rw [he x v hx]; rfl) h
theorem Y.assign {x : Operand} {v : Value} (hx : ev ρ x = some v) (h : G v w) : OpY P ⟨d, .assign x, ty, pos, af, g⟩ ρ w G := OpY.val (fun e he => by simp only [execOp]; rw [he x v hx]; rfl) h
theorem Y.pickT {c x y : Operand} {b : Bool} {v : Value} (hc : ev ρ c = some (.bool b)) (hb : b = true) (hx : ev ρ x = some v) (h : G v w) : OpY P ⟨d, .pick c x y, ty, pos, af, g⟩ ρ w G :=
  OpY.val (fun e he => by subst hb; simp only [execOp]; rw [he c _ hc, he x v hx]; rfl) h
theorem Y.pickF {c x y : Operand} {b : Bool} {v : Value} (hc : ev ρ c = some (.bool b)) (hb : b = false) (hy : ev ρ y = some v) (h : G v w) : OpY P ⟨d, .pick c x y, ty, pos, af, g⟩ ρ w G :=
  OpY.val (fun e he => by subst hb; simp only [execOp]; rw [he c _ hc, he y v hy]; rfl) h
theorem Y.add {x y : Operand} {xt yt : TypeId} {k : IntKind} {a b c : Int} (hx : ev ρ x = some (.int k a)) (hy : ev ρ y = some (.int k b)) (hv : k.wrap (a + b) = c) (h : G (.int k c) w) : OpY P ⟨d, .binOp .add xt x y yt, ty, pos, af, g⟩ ρ w G :=
  OpY.val (fun e he => by subst hv; simp only [execOp]; rw [he x _ hx, he y _ hy]; simp [eqGuard, binOp, Op.intArith]) h
theorem Y.sub {x y : Operand} {xt yt : TypeId} {k : IntKind} {a b c : Int} (hx : ev ρ x = some (.int k a)) (hy : ev ρ y = some (.int k b)) (hv : k.wrap (a - b) = c) (h : G (.int k c) w) : OpY P ⟨d, .binOp .sub xt x y yt, ty, pos, af, g⟩ ρ w G :=
  OpY.val (fun e he => by subst hv; simp only [execOp]; rw [he x _ hx, he y _ hy]; simp [eqGuard, binOp, Op.intArith]) h
theorem Y.mul {x y : Operand} {xt yt : TypeId} {k : IntKind} {a b c : Int} (hx : ev ρ x = some (.int k a)) (hy : ev ρ y = some (.int k b)) (hv : k.wrap (a * b) = c) (h : G (.int k c) w) : OpY P ⟨d, .binOp .mul xt x y yt, ty, pos, af, g⟩ ρ w G :=
  OpY.val (fun e he => by subst hv; simp only [execOp]; rw [he x _ hx, he y _ hy]; simp [eqGuard, binOp, Op.intArith]) h
theorem Y.quo {x y : Operand} {xt yt : TypeId} {k : IntKind} {a b c : Int} (hx : ev ρ x = some (.int k a)) (hy : ev ρ y = some (.int k b)) (h0 : b ≠ 0) (hv : k.wrap (a.tdiv b) = c) (h : G (.int k c) w) : OpY P ⟨d, .binOp .quo xt x y yt, ty, pos, af, g⟩ ρ w G :=
  OpY.val (fun e he => by subst hv; simp only [execOp]; rw [he x _ hx, he y _ hy]; simp [eqGuard, binOp, Op.intDiv, h0]) h
theorem Y.rem {x y : Operand} {xt yt : TypeId} {k : IntKind} {a b c : Int} (hx : ev ρ x = some (.int k a)) (hy : ev ρ y = some (.int k b)) (h0 : b ≠ 0) (hv : a.tmod b = c) (h : G (.int k c) w) : OpY P ⟨d, .binOp .rem xt x y yt, ty, pos, af, g⟩ ρ w G :=
  OpY.val (fun e he => by subst hv; simp only [execOp]; rw [he x _ hx, he y _ hy]; simp [eqGuard, binOp, Op.intDiv, h0]) h
theorem Y.xor {x y : Operand} {xt yt : TypeId} {k : IntKind} {a b c : Int} (hx : ev ρ x = some (.int k a)) (hy : ev ρ y = some (.int k b)) (hv : k.wrap ((BitVec.ofInt k.bits a ^^^ BitVec.ofInt k.bits b).toNat : Int) = c) (h : G (.int k c) w) : OpY P ⟨d, .binOp .xor xt x y yt, ty, pos, af, g⟩ ρ w G :=
  OpY.val (fun e he => by subst hv; simp only [execOp]; rw [he x _ hx, he y _ hy]; simp only [eqGuard, binOp, Op.intBits]; simp) h
theorem Y.or {x y : Operand} {xt yt : TypeId} {k : IntKind} {a b c : Int} (hx : ev ρ x = some (.int k a)) (hy : ev ρ y = some (.int k b)) (hv : k.wrap ((BitVec.ofInt k.bits a ||| BitVec.ofInt k.bits b).toNat : Int) = c) (h : G (.int k c) w) : OpY P ⟨d, .binOp .or xt x y yt, ty, pos, af, g⟩ ρ w G :=
  OpY.val (fun e he => by subst hv; simp only [execOp]; rw [he x _ hx, he y _ hy]; simp only [eqGuard, binOp, Op.intBits]; simp) h
theorem Y.and {x y : Operand} {xt yt : TypeId} {k : IntKind} {a b c : Int} (hx : ev ρ x = some (.int k a)) (hy : ev ρ y = some (.int k b)) (hv : k.wrap ((BitVec.ofInt k.bits a &&& BitVec.ofInt k.bits b).toNat : Int) = c) (h : G (.int k c) w) : OpY P ⟨d, .binOp .and xt x y yt, ty, pos, af, g⟩ ρ w G :=
  OpY.val (fun e he => by subst hv; simp only [execOp]; rw [he x _ hx, he y _ hy]; simp only [eqGuard, binOp, Op.intBits]; simp) h
theorem Y.shl {x y : Operand} {xt yt : TypeId} {k k' : IntKind} {a b c : Int} (hx : ev ρ x = some (.int k a)) (hy : ev ρ y = some (.int k' b)) (h0 : 0 ≤ b) (hv : k.wrap (a * 2 ^ (min b.toNat k.bits)) = c) (h : G (.int k c) w) : OpY P ⟨d, .binOp .shl xt x y yt, ty, pos, af, g⟩ ρ w G :=
  OpY.val (fun e he => by subst hv; have h0' : ¬ b < 0 := by omega
                          simp only [execOp]; rw [he x _ hx, he y _ hy]; simp [eqGuard, binOp, Op.shift, h0']) h
theorem Y.shr {x y : Operand} {xt yt : TypeId} {k k' : IntKind} {a b c : Int} (hx : ev ρ x = some (.int k a)) (hy : ev ρ y = some (.int k' b)) (h0 : 0 ≤ b) (hv : a.fdiv (2 ^ (min b.toNat k.bits)) = c) (h : G (.int k c) w) : OpY P ⟨d, .binOp .shr xt x y yt, ty, pos, af, g⟩ ρ w G :=
  OpY.val (fun e he => by subst hv; have h0' : ¬ b < 0 := by omega
                          simp only [execOp]; rw [he x _ hx, he y _ hy]; simp [eqGuard, binOp, Op.shift, h0']) h
theorem Y.lss {x y : Operand} {xt yt : TypeId} {k : IntKind} {a b : Int} (hx : ev ρ x = some (.int k a)) (hy : ev ρ y = some (.int k b)) (h : G (.bool (decide (a < b))) w) : OpY P ⟨d, .binOp .lss xt x y yt, ty, pos, af, g⟩ ρ w G :=
  OpY.val (fun e he => by simp only [execOp]; rw [he x _ hx, he y _ hy]; simp [eqGuard, binOp, Op.intCmp]) h
theorem Y.leq {x y : Operand} {xt yt : TypeId} {k : IntKind} {a b : Int} (hx : ev ρ x = some (.int k a)) (hy : ev ρ y = some (.int k b)) (h : G (.bool (decide (a ≤ b))) w) : OpY P ⟨d, .binOp .leq xt x y yt, ty, pos, af, g⟩ ρ w G :=
  OpY.val (fun e he => by simp only [execOp]; rw [he x _ hx, he y _ hy]; simp [eqGuard, binOp, Op.intCmp]) h
theorem Y.gtr {x y : Operand} {xt yt : TypeId} {k : IntKind} {a b : Int} (hx : ev ρ x = some (.int k a)) (hy : ev ρ y = some (.int k b)) (h : G (.bool (decide (b < a))) w) : OpY P ⟨d, .binOp .gtr xt x y yt, ty, pos, af, g⟩ ρ w G :=
  OpY.val (fun e he => by simp only [execOp]; rw [he x _ hx, he y _ hy]; simp [eqGuard, binOp, Op.intCmp]) h
theorem Y.geq {x y : Operand} {xt yt : TypeId} {k : IntKind} {a b : Int} (hx : ev ρ x = some (.int k a)) (hy : ev ρ y = some (.int k b)) (h : G (.bool (decide (b ≤ a))) w) : OpY P ⟨d, .binOp .geq xt x y yt, ty, pos, af, g⟩ ρ w G :=
  OpY.val (fun e he => by simp only [execOp]; rw [he x _ hx, he y _ hy]; simp [eqGuard, binOp, Op.intCmp]) h
theorem Y.eql {x y : Operand} {xt yt : TypeId} {k : IntKind} {a b : Int} (hx : ev ρ x = some (.int k a)) (hy : ev ρ y = some (.int k b)) (h : G (.bool (decide (a = b))) w) : OpY P ⟨d, .binOp .eql xt x y yt, ty, pos, af, g⟩ ρ w G :=
  OpY.val (fun e he => by simp only [execOp]; rw [he x _ hx, he y _ hy]; simp [eqGuard, binOp, Op.intCmp]; rfl) h
theorem Y.neq {x y : Operand} {xt yt : TypeId} {k : IntKind} {a b : Int} (hx : ev ρ x = some (.int k a)) (hy : ev ρ y = some (.int k b)) (h : G (.bool (!decide (a = b))) w) : OpY P ⟨d, .binOp .neq xt x y yt, ty, pos, af, g⟩ ρ w G :=
  OpY.val (fun e he => by simp only [execOp]; rw [he x _ hx, he y _ hy]; simp [eqGuard, binOp, Op.intCmp]; rfl) h
theorem Y.not {x : Operand} {xt : TypeId} {b : Bool} (hx : ev ρ x = some (.bool b)) (h : G (.bool (!b)) w) : OpY P ⟨d, .unOp .not xt x, ty, pos, af, g⟩ ρ w G :=
  OpY.val (fun e he => by simp only [execOp]; rw [he x _ hx]; simp [Op.unary]) h
theorem Y.convI {x : Operand} {s t : TypeId} {k k' : IntKind} {a c : Int} {sd : TypeDesc} (hs : P.underlying s = some sd) (ht : P.underlying t = some (.int k)) (hx : ev ρ x = some (.int k' a)) (hv : k.wrap a = c) (h : G (.int k c) w) : OpY P ⟨d, .convert s t x, ty, pos, af, g⟩ ρ w G :=
  OpY.val (fun e he => by subst hv; simp only [execOp]; rw [he x _ hx]; simp [convert, run_underlying hs, run_underlying ht, Conv.intToInt]) h
theorem Y.eqlS {x y : Operand} {xt yt : TypeId} {a b : List UInt8} (hx : ev ρ x = some (strV a)) (hy : ev ρ y = some (strV b)) (h : G (.bool (decide (a = b))) w) : OpY P ⟨d, .binOp .eql xt x y yt, ty, pos, af, g⟩ ρ w G :=
  OpY.val (fun e he => by simp only [execOp]; rw [he x _ hx, he y _ hy]; simp [strV, eqGuard, binOp, Op.stringOp, ba_toList]; rw [Bool.eq_iff_iff]; simp) h
theorem Y.neqS {x y : Operand} {xt yt : TypeId} {a b : List UInt8} (hx : ev ρ x = some (strV a)) (hy : ev ρ y = some (strV b)) (h : G (.bool (!decide (a = b))) w) : OpY P ⟨d, .binOp .neq xt x y yt, ty, pos, af, g⟩ ρ w G :=
  OpY.val (fun e he => by simp only [execOp]; rw [he x _ hx, he y _ hy]; simp [strV, eqGuard, binOp, Op.stringOp, ba_toList]; rw [Bool.eq_iff_iff]; simp) h
theorem Y.addS {x y : Operand} {xt yt : TypeId} {a b : List UInt8} (hx : ev ρ x = some (strV a)) (hy : ev ρ y = some (strV b)) (hl : a.length + b.length ≤ 9223372036854775807) (h : G (strV (a ++ b)) w) : OpY P ⟨d, .binOp .add xt x y yt, ty, pos, af, g⟩ ρ w G :=
  OpY.val (fun e he => by
    have hm : IntKind.i64.max = 9223372036854775807 := by decide
    have hs : ((⟨a.toArray⟩ : ByteArray) ++ ⟨b.toArray⟩ : ByteArray) = ⟨(a ++ b).toArray⟩ := by
      apply ByteArray.ext
      simp
    have e1 : (⟨a.toArray⟩ : ByteArray).size = a.length := by simp [ByteArray.size]
    have e2 : (⟨b.toArray⟩ : ByteArray).size = b.length := by simp [ByteArray.size]
    simp only [execOp]; rw [he x _ hx, he y _ hy]; simp only [strV, eqGuard, binOp, Op.stringOp, e1, e2, hs]
    simp [hm]
    omega) h
theorem Y.len {x : Operand} {t : TypeId} {v : Value} {S : Nat → Prop} {n : Nat} {xs : List Value} {e : TypeId} (ht : P.underlying t = some (.slice e)) (hx : ev ρ x = some v) (hr : Row S w v n xs) (h : G (.int .i64 n) w) :
    OpY P ⟨d, .call ⟨.builtin .len, #[x], #[t]⟩, ty, pos, af, g⟩ ρ w G :=
  OpY.val (fun e he => by obtain ⟨a, cap, rfl⟩ := hr.val; simp only [execOp, resolve, List.map_toArray, List.map_cons, List.map_nil]; rw [he x _ hx]; simp [invoke, builtin, Builtin.len_, run_underlying ht, goInt]) h
theorem Y.lenS {x : Operand} {t : TypeId} {l : List UInt8} (ht : P.underlying t = some .string) (hx : ev ρ x = some (strV l)) (h : G (.int .i64 l.length) w) :
    OpY P ⟨d, .call ⟨.builtin .len, #[x], #[t]⟩, ty, pos, af, g⟩ ρ w G :=
  OpY.val (fun e he => by simp only [execOp, resolve, List.map_toArray, List.map_cons, List.map_nil]; rw [he x _ hx]; have hsz : (⟨l.toArray⟩ : ByteArray).size = l.length := by simp [ByteArray.size]
                          simp [strV, invoke, builtin, Builtin.len_, run_underlying ht, goInt, hsz]) h
def nthV : List Value → Nat → Option Value
  | [], _ => none
  | v :: _, 0 => some v
  | _ :: r, i + 1 => nthV r i
theorem nthV_eq : ∀ (l : List Value) (i : Nat), nthV l i = l[i]?
  | [], _ => rfl
  | _ :: _, 0 => rfl
  | _ :: r, i + 1 => by simpa [nthV] using nthV_eq r i
theorem Y.extract {x : Operand} {i : Nat} {vs : Array Value} {v : Value} (hx : ev ρ x = some (.tuple vs)) (hi : nthV vs.toList i = some v) (h : G v w) : OpY P ⟨d, .extract x i, ty, pos, af, g⟩ ρ w G :=
  OpY.val (fun e he => by
    have hi' : vs[i]? = some v := by rw [nthV_eq] at hi; simpa using hi
    simp only [execOp]; rw [he x _ hx]; simp [Instr.extract, hi']) h
theorem Y.nilCheck {x : Operand} {a : Addr} (hx : ev ρ x = some (.pointer (some a))) (h : G (.pointer (some a)) w) : OpY P ⟨d, .nilCheck x, ty, pos, af, g⟩ ρ w G :=
  OpY.val (fun e he => by simp only [execOp]; rw [he x _ hx]; rfl) h
def CallOK (P : Program) (f : FuncId) : Prop := ∃ fn, P.funcs[f]? = some fn ∧ (fn.name == "runtime.NumGoroutine") = false ∧ fn.body.isNone = false
theorem Y.call {f : FuncId} {args : List Operand} {ts : Array TypeId} {vs : List Value} {R : Value → World → Prop} (ha : evs ρ args = some vs) (hok : CallOK P f) (hc : Rets P f vs.toArray w R) (h : ∀ v w', R v w' → G v w') :
    OpY P ⟨d, .call ⟨.value (.func f), args.toArray, ts⟩, ty, pos, af, g⟩ ρ w G := by
  refine OpY.of fun e he => ?_
  obtain ⟨fn, h1, h2, h3⟩ := hok
  have h2 : ¬ fn.name = "runtime.NumGoroutine" := by simpa using h2
  have h3 : ¬ fn.body = none := by intro h; simp [h] at h3
  have hrun : (execOp e ⟨d, .call ⟨.value (.func f), args.toArray, ts⟩, ty, pos, af, g⟩).run P w = .ok (.enter f vs.toArray) w := by
    simp only [execOp, resolve, List.map_toArray, evs_map he ha]
    rw [he (.func f) _ rfl]
    simp [Deferred.ofValue, invoke, callFunc, h1, h2, h3]
  rw [hrun]
  exact Calls.mono hc fun e w' ⟨v, hv, hr⟩ => ⟨v, hv, h _ _ hr⟩
theorem Y.callV {f : FuncId} {fx : Operand} {args : List Operand} {ts : Array TypeId} {vs : List Value} {first cap : Array Value} {R : Value → World → Prop} (hf : ev ρ fx = some (.func (.func f) first cap)) (ha : evs ρ args = some vs) (hok : CallOK P f) (hc : Rets P f (first.toList ++ vs ++ cap.toList).toArray w R) (h : ∀ v w', R v w' → G v w') :
    OpY P ⟨d, .call ⟨.value fx, args.toArray, ts⟩, ty, pos, af, g⟩ ρ w G := by
  refine OpY.of fun e he => ?_
  obtain ⟨fn, h1, h2, h3⟩ := hok
  have h2 : ¬ fn.name = "runtime.NumGoroutine" := by simpa using h2
  have h3 : ¬ fn.body = none := by intro h; simp [h] at h3
  have hrun : (execOp e ⟨d, .call ⟨.value fx, args.toArray, ts⟩, ty, pos, af, g⟩).run P w = .ok (.enter f (first.toList ++ vs ++ cap.toList).toArray) w := by
    simp only [execOp, resolve, List.map_toArray, evs_map he ha]
    rw [he fx _ hf]
    simp [Deferred.ofValue, invoke, callFunc, h1, h2, h3]
  rw [hrun]
  exact Calls.mono hc fun e w' ⟨v, hv, hr⟩ => ⟨v, hv, h _ _ hr⟩
theorem Y.makeFunc {fn : Fn} {first captured : List Operand} {vs us : List Value} (h1 : evs ρ first = some vs) (h2 : evs ρ captured = some us) (h : G (.func fn vs.toArray us.toArray) w) : OpY P ⟨d, .makeFunc fn first.toArray captured.toArray, ty, pos, af, g⟩ ρ w G :=
  OpY.val (fun e he => by simp only [execOp, List.map_toArray, evs_map he h1, evs_map he h2]; rfl) h
def OneT (P : Program) (t : TypeId) : Prop := (∃ u, P.underlying t = some u ∧ (match u with | .struct _ | .array _ _ => False | _ => True)) ∧ (P.info? t).map (·.size) = some 1
theorem OneT.run {P : Program} {t : TypeId} (h : OneT P t) (w : World) : (isAgg t).run P w = .ok false w := by
  obtain ⟨⟨u, hu, hm⟩, _⟩ := h
  cases u <;> first | exact hm.elim | simp [isAgg, run_underlying hu]
theorem OneT.sizeOf {P : Program} {t : TypeId} (h : OneT P t) (w : World) : (Go.sizeOf t).run P w = .ok 1 w := by
  have := h.2
  cases hi : P.info? t with
  | none => simp [hi] at this
  | some i => simp [hi] at this; simp [Go.sizeOf, typeInfo, hi, this]
def AggT (P : Program) (t : TypeId) (sz : Nat) : Prop := (∃ u, P.underlying t = some u ∧ (match u with | .struct _ | .array _ _ => True | _ => False)) ∧ (P.info? t).map (·.size) = some sz
theorem AggT.run {P : Program} {t : TypeId} {sz : Nat} (h : AggT P t sz) (w : World) : (isAgg t).run P w = .ok true w := by
  obtain ⟨⟨u, hu, hm⟩, _⟩ := h
  cases u <;> first | exact hm.elim | simp [isAgg, run_underlying hu]
theorem AggT.sizeOf {P : Program} {t : TypeId} {sz : Nat} (h : AggT P t sz) (w : World) : (Go.sizeOf t).run P w = .ok sz w := by
  have := h.2
  cases hi : P.info? t with
  | none => simp [hi] at this
  | some i => simp [hi] at this; simp [Go.sizeOf, typeInfo, hi, this]
theorem Y.load {x : Operand} {t : TypeId} {a : Addr} {v : Value} (ht : OneT P t) (hx : ev ρ x = some (.pointer (some a))) (hc : w.cell? a = some v) (h : G v w) : OpY P ⟨d, .load t x, ty, pos, af, g⟩ ρ w G :=
  OpY.val (fun e he => by simp only [execOp]; rw [he x _ hx]; simp [Instr.loadAt, Instr.sureAddr, loadVar, ht.run, hc]) h
theorem Y.loadA {x : Operand} {t : TypeId} {b o sz : Nat} {cs : List Value} (ht : AggT P t sz) (hx : ev ρ x = some (.pointer (some ⟨b, o, none⟩))) (hl : cs.length = sz) (hc : ∀ j u, cs[j]? = some u → w.cell? ⟨b, o + j, none⟩ = some u) (h : G (.agg cs.toArray) w) : OpY P ⟨d, .load t x, ty, pos, af, g⟩ ρ w G :=
  OpY.val (fun e he => by
    have h1 : (loadCells ⟨b, o, none⟩ sz).run P w = .ok cs.toArray w := by
      rw [← hl]; exact run_loadCells_list w _ cs (fun j u hu => by rw [Addr.add_lit]; exact hc j u hu)
    simp only [execOp]; rw [he x _ hx]; simp [Instr.loadAt, Instr.sureAddr, loadVar, ht.run, ht.sizeOf, h1]) h
def FieldT (P : Program) (s : TypeId) (f off : Nat) : Prop := ∃ fields fd, P.underlying s = some (.struct fields) ∧ fields[f]? = some fd ∧ fd.offset = off ∧ (P.info? fd.type).map (fun i => i.size == 0) = some false
theorem Y.fieldAddr {x : Operand} {s : TypeId} {f off b o : Nat} (hf : FieldT P s f off) (hx : ev ρ x = some (.pointer (some ⟨b, o, none⟩))) (h : G (.pointer (some ⟨b, o + off, none⟩)) w) : OpY P ⟨d, .fieldAddr s x f, ty, pos, af, g⟩ ρ w G :=
  OpY.val (fun e he => by
    obtain ⟨fields, fd, h1, h2, h3, h4⟩ := hf
    subst h3
    cases hi : P.info? fd.type with
    | none => simp [hi] at h4
    | some i =>
      have h5' : ¬ i.size = 0 := by simpa [hi] using h4
      simp only [execOp]; rw [he x _ hx]
      simp [Instr.fieldAt, run_underlying h1, h2, Instr.sureAddr, fieldPlace, Go.sizeOf, typeInfo, hi, h5', Addr.add_lit]) h
theorem Y.indexR {x y : Operand} {t e : TypeId} {bytes : Nat} {z : Value} {v u : Value} {S : Nat → Prop} {n : Nat} {xs : List Value} {k : IntKind} {i : Int} (ht : SliceT P t e 1 bytes z) (hx : ev ρ x = some v) (hy : ev ρ y = some (.int k i))
    (hr : Row S w v n xs) (hi : 0 ≤ i ∧ i < n) (hu : xs[i.toNat]? = some u) (h : ∀ b o, S b → w.cell? ⟨b, o, none⟩ = some u → G (.pointer (some ⟨b, o, none⟩)) w) :
    OpY P ⟨d, .indexAddr t x y, ty, pos, af, g⟩ ρ w G := by
  obtain ⟨ii, hinf, hsz, _, _⟩ := ht.get
  obtain ⟨a, cap, rfl, h1, h2, h3, h4, h5⟩ := hr
  have hne : xs ≠ [] := by intro e; subst e; simp at hu
  obtain ⟨b, o, cur, T, fr, rfl, hs, hh, hc⟩ := h5 hne
  have hj : i.toNat < xs.length := (List.getElem?_eq_some_iff.1 hu).1
  have hcell : w.cell? ⟨b, o + i.toNat, none⟩ = some u := by rw [cell_of_row w b _ cur T fr hh, hc _ hj, hu]
  refine OpY.val (v := .pointer (some ⟨b, o + i.toNat, none⟩)) (w' := w) (fun e he => ?_) (h b (o + i.toNat) hs hcell)
  simp only [execOp]; rw [he x _ hx, he y _ hy]
  simp [Instr.indexAt, asIntOf, run_underlying ht.und, hi.1, hi.2, Go.sizeOf, typeInfo, hinf, hsz, Addr.add_lit]
theorem Row.part {S : Nat → Prop} {w : World} {v : Value} {n : Nat} {xs : List Value} {sz lo hi : Nat} (h : Row S w v n xs) (hx : xs.length = n * sz) (h1 : lo ≤ hi) (h2 : hi ≤ n) :
    ∃ a cap, v = .slice a n cap ∧ n ≤ cap ∧ ∀ c, hi ≤ c → c ≤ cap → Row S w (.slice (if c = lo then a else a.map (·.add (lo * sz))) (hi - lo) (c - lo)) (hi - lo) ((xs.drop (lo * sz)).take ((hi - lo) * sz)) := by
  obtain ⟨a, cap, hv, k1, k2, k3, k4, k5⟩ := h
  refine ⟨a, cap, hv, k1, fun c hc hcc => ⟨_, c - lo, rfl, by omega, by omega, fun e => by rw [e]; simp, fun y hy => k4 y (List.mem_of_mem_drop (List.mem_of_mem_take hy)), fun hne => ?_⟩⟩
  have hlen : ((xs.drop (lo * sz)).take ((hi - lo) * sz)).length = (hi - lo) * sz := by
    rw [List.length_take, List.length_drop, hx]
    have : (hi - lo) * sz ≤ n * sz - lo * sz := by rw [← Nat.sub_mul]; exact Nat.mul_le_mul_right _ (by omega)
    omega
  have hpos : 0 < (hi - lo) * sz := by
    rw [← hlen]; exact List.length_pos_iff.2 hne
  have hlt : lo < hi := by
    rcases Nat.lt_or_ge lo hi with h | h
    · exact h
    · have : hi - lo = 0 := by omega
      rw [this] at hpos; simp at hpos
  obtain ⟨b, o, cur, T, fr, rfl, hs, hh, hcs⟩ := k5 (by intro e; subst e; simp at hne)
  refine ⟨b, o + lo * sz, cur, T, fr, ?_, hs, hh, fun j hj => ?_⟩
  · rw [if_neg (by omega)]; simp [Addr.add_lit]
  · rw [hlen] at hj
    rw [List.getElem?_take, if_pos hj, List.getElem?_drop, Nat.add_assoc]
    refine hcs _ ?_
    rw [hx]
    have : lo * sz + (hi - lo) * sz = hi * sz := by rw [← Nat.add_mul]; congr 1; omega
    have : hi * sz ≤ n * sz := Nat.mul_le_mul_right _ h2
    omega
def optEv (ρ : Env) : Option Operand → Option (Option Value)
  | none => some none
  | some x => (ev ρ x).map some
theorem optEv_map {ρ : Env} {e : Operand → Value} (he : EvSat ρ e) {x : Option Operand} {v : Option Value} (h : optEv ρ x = some v) : x.map e = v := by
  cases x with
  | none => simp [optEv] at h; simp [h]
  | some x =>
    simp only [optEv] at h
    cases hx : ev ρ x with
    | none => simp [hx] at h
    | some u => simp [hx] at h; simp [← h, he x u hx]
def bnd (dflt : Nat) : Option Value → Option Nat
  | none => some dflt
  | some (.int _ i) => if 0 ≤ i then some i.toNat else none
  | _ => none
theorem run_sliceBound {P : Program} {w : World} {v : Value} {y j : Nat} {c : BoundsCode} (h : bnd 0 (some v) = some j) (hj : j ≤ y) : (Instr.sliceBound v y c).run P w = .ok j w := by
  cases v <;> simp only [bnd] at h <;> try (cases h; done)
  rename_i k i
  split at h
  · rename_i h0
    cases h
    have : i ≤ (y : Int) := by omega
    simp [Instr.sliceBound, asIntOf, h0, this]
  · cases h
theorem Y.slice {x : Operand} {lo hi : Option Operand} {lv hv : Option Value} {t e : TypeId} {sz bytes : Nat} {z : Value} {v : Value} {S : Nat → Prop} {n l h' : Nat} {xs : List Value} (ht : SliceT P t e sz bytes z) (hx : ev ρ x = some v)
    (hr : Row S w v n xs) (hxs : xs.length = n * sz) (e1 : optEv ρ lo = some lv) (e2 : optEv ρ hi = some hv) (b1 : bnd 0 lv = some l) (b2 : bnd n hv = some h') (hb : l ≤ h' ∧ h' ≤ n)
    (h : ∀ v', Row S w v' (h' - l) ((xs.drop (l * sz)).take ((h' - l) * sz)) → G v' w) : OpY P ⟨d, .slice t x lo hi none, ty, pos, af, g⟩ ρ w G := by
  obtain ⟨ii, hinf, hsz, _, _⟩ := ht.get
  obtain ⟨a, cap, rfl, hc, hp⟩ := hr.part hxs hb.1 hb.2
  refine OpY.val (v := .slice (if cap = l then a else a.map (·.add (l * sz))) (h' - l) (cap - l)) (w' := w) (fun e he => ?_) (h _ (hp cap (by omega) (Nat.le_refl _)))
  simp only [execOp]
  rw [he x _ hx, optEv_map he e1, optEv_map he e2]
  have hlo : ∀ lv : Option Value, bnd 0 lv = some l → (match lv with | some v => Instr.sliceBound v h' .sliceB | none => (Pure.pure 0 : Sem Nat)).run P w = .ok l w := by
    intro lv hl
    cases lv with
    | none => simp [bnd] at hl; simp [hl]
    | some u => exact run_sliceBound hl hb.1
  cases hv with
  | none =>
    simp [bnd] at b2
    subst b2
    cases lv with
    | none => simp [bnd] at b1; subst b1; simp [Instr.sliceAt, run_underlying ht.und, Instr.slice, Instr.sliceBounds, Go.sizeOf, typeInfo, hinf, hsz]
    | some u => simp [Instr.sliceAt, run_underlying ht.und, Instr.slice, Instr.sliceBounds, Go.sizeOf, typeInfo, hinf, hsz, run_sliceBound b1 hb.1]
  | some q =>
    have b2' : bnd 0 (some q) = some h' := by rw [← b2]; cases q <;> rfl
    have hq := fun c => run_sliceBound (P := P) (w := w) (c := c) b2' (show h' ≤ cap by omega)
    cases lv with
    | none => simp [bnd] at b1; subst b1; simp [Instr.sliceAt, run_underlying ht.und, Instr.slice, Instr.sliceBounds, Go.sizeOf, typeInfo, hinf, hsz, hq]
    | some u => simp [Instr.sliceAt, run_underlying ht.und, Instr.slice, Instr.sliceBounds, Go.sizeOf, typeInfo, hinf, hsz, hq, run_sliceBound b1 hb.1]
def evParts (ρ : Env) (k : Nat) : List (Nat × Operand) → Option (List Value)
  | [] => some []
  | (i, x) :: r => bif Nat.beq i k then (match ev ρ x, evParts ρ (k + 1) r with | some v, some l => some (v :: l) | _, _ => none) else none
theorem fill_parts {ρ : Env} {e : Operand → Value} (he : EvSat ρ e) : ∀ (ps : List (Nat × Operand)) (k : Nat) (vs : List Value) (pre post : List Value), evParts ρ k ps = some vs → (∀ v ∈ vs, v.oneCell' = true) → pre.length = k → post.length = vs.length →
    Instr.fill (fun i => some (i * 1, 1)) (pre ++ post).toArray (ps.map fun p => (p.1, e p.2)) = some (pre ++ vs).toArray
  | [], k, vs, pre, post, h, _, _, hl => by
    simp [evParts] at h
    subst h
    have : post = [] := List.eq_nil_of_length_eq_zero (by simpa using hl)
    simp [Instr.fill, this]
  | (i, x) :: r, k, vs, pre, post, h, h1, hp, hl => by
    simp only [evParts] at h
    by_cases hik : i = k
    · subst hik
      simp only [Nat.beq_refl, cond_true] at h
      split at h
      · rename_i v l hv hr
        cases h
        cases post with
        | nil => simp at hl
        | cons q post =>
          have hcell : v.cells = #[v] := by have := h1 v (by simp); cases v <;> first | rfl | simp [Value.oneCell'] at this
          have ih := fill_parts he r (i + 1) l (pre ++ [v]) post hr (fun y hy => h1 y (by simp [hy])) (by simp [hp]) (by simpa using hl)
          simp only [List.map_cons, he x v hv, Instr.fill, hcell]
          subst hp
          simp at ih ⊢
          exact ih
      · cases h
    · have : Nat.beq i k = false := by rw [← Bool.not_eq_true, Nat.beq_eq]; exact hik
      simp [this] at h
theorem Y.buildSlice {t e : TypeId} {bytes : Nat} {z : Value} {n : Nat} {parts : List (Nat × Operand)} {vs : List Value} (ht : SliceT P t e 1 bytes z) (hp : evParts ρ 0 parts = some vs) (hn : vs.length = n) (hs : n ≤ 16777216) (h1 : ∀ v ∈ vs, v.oneCell' = true)
    (h : ∀ v w', New w w' e 1 v n vs → G v w') : OpY P ⟨d, .buildSlice t n parts.toArray, ty, pos, af, g⟩ ρ w G := by
  obtain ⟨ii, hinf, hsz, _, hz⟩ := ht.get
  refine OpY.val (v := .slice (some ⟨w.heap.size, 0, none⟩) n n) (w' := w.alloc (.cells vs.toArray e)) (fun ee he => ?_) (h _ _ (New.of ?_ (Ext.alloc _ _)))
  · have harr : ∀ f : Nat → Value, (Array.range (n * 1)).map f = ([] ++ (List.range n).map f).toArray := fun f => by
      apply Array.ext'
      simp
    have hf := fun f : Nat → Value => fill_parts he parts 0 vs [] ((List.range n).map f) hp h1 rfl (by simp [hn])
    simp only [execOp, Instr.buildSlice, Sem.run_bind, run_underlying ht.und, Result.andThen_ok]
    simp only [List.nil_append] at hf harr
    have hs' : ¬ (n * ii.size > 2 ^ 24) := by rw [hsz]; omega
    by_cases h0 : n = 0
    · subst h0
      have : vs = [] := List.eq_nil_of_length_eq_zero hn
      subst this
      have := hf fun _ => default
      simp at this
      have h00 : Array.range 0 = #[] := by apply Array.ext'; simp
      simp [Go.sizeOf, typeInfo, hinf, hsz, h00, this, newRow]
    · have hs2 : ¬ (16777216 < n) := by omega
      simp only [Nat.mul_one] at harr hf
      simp [Go.sizeOf, typeInfo, hinf, hsz, hs2, h0, zeroValue, hz]
      rw [harr, hf]
      simp [newRow]
  · refine ⟨by simp [hn], h1, _, n, rfl, Nat.le_refl _, by simp only [maxLen]; omega, .inr ⟨w.heap.size, vs.toArray, (0, 0), rfl, .inr ⟨Nat.le_refl _, by simp⟩, heap_alloc_new w _, nofr0 _, by simp [hn], ?_⟩⟩
    simp [← hn]
theorem Y.append {x y : Operand} {t u e e' : TypeId} {sz bytes : Nat} {z : Value} {v q : Value} {S R : Nat → Prop} {n m : Nat} {xs ys : List Value} (ht : SliceT P t e sz bytes z) (hu : P.underlying u = some (.slice e')) (hx : ev ρ x = some v) (hy : ev ρ y = some q)
    (hv : Apd S w e sz v n xs) (hq : Row R w q m ys) (hl : ys.length = m * sz) (hby : (n + m) * bytes ≤ 140737488355328) (hnm : n + m ≤ 9223372036854775807)
    (h : ∀ v' w', Apd (Grow S w w') w' e sz v' (n + m) (xs ++ ys) → Chg S w w' → G v' w') : OpY P ⟨d, .call ⟨.builtin .append, #[x, y], #[t, u]⟩, ty, pos, af, g⟩ ρ w G := by
  have h1 : ∀ y ∈ ys, y.oneCell' = true := let ⟨_, _, _, _, _, _, h4, _⟩ := hq; h4
  obtain ⟨v', w', hrun, hA, hC, _⟩ := run_append (P := P) (ty := ty) ht (.inl ⟨e', hu⟩) hv (run_lenOf hq) (fun w' hw' => run_firstCells (hq.same (w' := w') (fun b _ _ => by rw [hw'])) hl) hl h1 hby hnm
  refine OpY.val (v := v') (w' := w') (fun e he => ?_) (h _ _ hA hC)
  simp only [execOp, resolve, List.map_toArray, List.map_cons, List.map_nil]
  rw [he x _ hx, he y _ hy]
  simp [invoke, builtin, hrun]
theorem Y.appendO {x y : Operand} {t u e e' : TypeId} {sz bytes : Nat} {z : Value} {v q : Value} {w0 : World} {R : Nat → Prop} {n m : Nat} {xs ys : List Value} (ht : SliceT P t e sz bytes z) (hu : P.underlying u = some (.slice e')) (hx : ev ρ x = some v) (hy : ev ρ y = some q)
    (hv : New w0 w e sz v n xs) (hq : Row R w q m ys) (hm : 0 < m) (hl : ys.length = m * sz) (hby : (n + m) * bytes ≤ 140737488355328) (hnm : n + m ≤ 9223372036854775807)
    (h : ∀ v' w', NewO w0 w' e sz v' (n + m) (xs ++ ys) → Chg (Since w0) w w' → G v' w') : OpY P ⟨d, .call ⟨.builtin .append, #[x, y], #[t, u]⟩, ty, pos, af, g⟩ ρ w G := by
  have h1 : ∀ y ∈ ys, y.oneCell' = true := let ⟨_, _, _, _, _, _, h4, _⟩ := hq; h4
  obtain ⟨v', w', hrun, hA, hC, hO⟩ := run_append (P := P) (ty := ty) ht (.inl ⟨e', hu⟩) hv.2 (run_lenOf hq) (fun w' hw' => run_firstCells (hq.same (w' := w') (fun b _ _ => by rw [hw'])) hl) hl h1 hby hnm
  refine OpY.val (v := v') (w' := w') (fun e he => ?_) (h _ _ ⟨hv.1.chgNew hC fun _ hx => hx, (hO hm).mono fun _ _ hb => Since.grow hv.1.size hb⟩ hC)
  simp only [execOp, resolve, List.map_toArray, List.map_cons, List.map_nil]
  rw [he x _ hx, he y _ hy]
  simp [invoke, builtin, hrun]
theorem Y.appendS {x y : Operand} {t u e : TypeId} {bytes : Nat} {z : Value} {v : Value} {l : List UInt8} {S : Nat → Prop} {n : Nat} {xs : List Value} (ht : SliceT P t e 1 bytes z) (hu : P.underlying u = some .string) (hx : ev ρ x = some v) (hy : ev ρ y = some (strV l))
    (hv : Apd S w e 1 v n xs) (hby : (n + l.length) * bytes ≤ 140737488355328) (hnm : n + l.length ≤ 9223372036854775807)
    (h : ∀ v' w', Apd (Grow S w w') w' e 1 v' (n + l.length) (xs ++ bytesV l) → Chg S w w' → G v' w') : OpY P ⟨d, .call ⟨.builtin .append, #[x, y], #[t, u]⟩, ty, pos, af, g⟩ ρ w G := by
  have hsz : (⟨l.toArray⟩ : ByteArray).size = l.length := by simp [ByteArray.size]
  obtain ⟨v', w', hrun, hA, hC, _⟩ := run_append (P := P) (ty := ty) (x := strV l) (ys := bytesV l) (m := l.length) ht (.inr hu) hv (fun w' => by simp [strV, Builtin.lenOf, hsz]) (fun w' hw' => by
      have : (⟨l.toArray⟩ : ByteArray).extract 0 l.length = ⟨l.toArray⟩ := by rw [← hsz]; exact ByteArray.extract_zero_size
      simp [strV, Builtin.firstCells, this, bytesV, byteV]) (by simp [bytesV]) (by simp [bytesV, byteV, Value.oneCell']) hby hnm
  refine OpY.val (v := v') (w' := w') (fun e he => ?_) (h _ _ hA hC)
  simp only [execOp, resolve, List.map_toArray, List.map_cons, List.map_nil]
  rw [he x _ hx, he y _ hy]
  simp [invoke, builtin, hrun]
theorem Y.toText {x : Operand} {s t e : TypeId} {v : Value} {l : List UInt8} {n : Nat} {S : Nat → Prop} (hs : P.underlying s = some (.slice e)) (ht : P.underlying t = some .string) (he' : P.underlying e = some (.int .u8)) (hx : ev ρ x = some v) (hr : Row S w v n (bytesV l)) (hn : l.length = n)
    (h : G (strV l) w) : OpY P ⟨d, .convert s t x, ty, pos, af, g⟩ ρ w G := by
  subst hn
  have hrun : (Conv.bytesToString v).run P w = .ok (strV l) w := by
    have hr0 := hr
    obtain ⟨a, cap, rfl, h1, h2, h3, h4, h5⟩ := hr
    cases a with
    | none =>
      have : l = [] := by
        apply Classical.byContradiction
        intro hx
        obtain ⟨b, o, cur, T, fr, ha, _⟩ := h5 (by simpa [bytesV] using hx)
        cases ha
      subst this
      rfl
    | some a =>
      have hl := run_loadCells_list (P := P) w a (bytesV l) hr0.cells
      have e1 : (bytesV l).length = l.length := by simp [bytesV]
      rw [e1] at hl
      have e2 : bytesV l = (l.map fun b => (b.toNat : Int)).map (Value.int .u8) := by simp [bytesV, byteV, List.map_map, Function.comp_def]
      rw [e2] at hl
      rw [run_bytesToString w a l.length cap _ hl]
      have key : ∀ (l : List UInt8) (s : ByteArray), (l.map fun b => (b.toNat : Int)).foldl (fun r n => r.push (UInt8.ofNat n.toNat)) s = s ++ ⟨l.toArray⟩ := by
        intro l
        induction l with
        | nil => intro s; apply ByteArray.ext; simp
        | cons b l ih =>
          intro s
          simp only [List.map_cons, List.foldl_cons, Int.toNat_natCast, UInt8.ofNat_toNat]
          rw [ih]
          apply ByteArray.ext
          apply Array.ext'
          simp
      rw [key]
      simp only [strV]
      congr 2
  exact OpY.val (fun e he => by simp only [execOp]; rw [he x _ hx]; obtain ⟨a, cap, rfl⟩ := hr.val; simp [convert, run_underlying hs, run_underlying ht, run_underlying he', hrun]) h
theorem Y.appendN {x y : Operand} {t u e e' : TypeId} {sz bytes : Nat} {z : Value} {v q : Value} {w0 : World} {R : Nat → Prop} {n m : Nat} {xs ys : List Value} (ht : SliceT P t e sz bytes z) (hu : P.underlying u = some (.slice e')) (hx : ev ρ x = some v) (hy : ev ρ y = some q)
    (hv : New w0 w e sz v n xs) (hq : Row R w q m ys) (hl : ys.length = m * sz) (hby : (n + m) * bytes ≤ 140737488355328) (hnm : n + m ≤ 9223372036854775807)
    (h : ∀ v' w', New w0 w' e sz v' (n + m) (xs ++ ys) → Chg (Since w0) w w' → G v' w') : OpY P ⟨d, .call ⟨.builtin .append, #[x, y], #[t, u]⟩, ty, pos, af, g⟩ ρ w G :=
  Y.append ht hu hx hy hv.2 hq hl hby hnm fun v' w' hA hC => h v' w' (hv.push hA hC) hC
theorem Y.appendSN {x y : Operand} {t u e : TypeId} {bytes : Nat} {z : Value} {v : Value} {l : List UInt8} {w0 : World} {n : Nat} {xs : List Value} (ht : SliceT P t e 1 bytes z) (hu : P.underlying u = some .string) (hx : ev ρ x = some v) (hy : ev ρ y = some (strV l))
    (hv : New w0 w e 1 v n xs) (hby : (n + l.length) * bytes ≤ 140737488355328) (hnm : n + l.length ≤ 9223372036854775807)
    (h : ∀ v' w', New w0 w' e 1 v' (n + l.length) (xs ++ bytesV l) → Chg (Since w0) w w' → G v' w') : OpY P ⟨d, .call ⟨.builtin .append, #[x, y], #[t, u]⟩, ty, pos, af, g⟩ ρ w G :=
  Y.appendS ht hu hx hy hv.2 hby hnm fun v' w' hA hC => h v' w' (hv.push hA hC) hC
theorem bnd_nat {n : Nat} {k : IntKind} {j : Nat} : bnd n (some (.int k (j : Int))) = some j := by simp [bnd]
theorem run_equalP {t e : TypeId} (a : Option Addr) (ht : P.underlying t = some (.pointer e)) : (Op.equal t (.pointer a) (.pointer none)).run P w = .ok a.isNone w := by
  have key : ∀ d, (Op.equalIn (d + 1) t (.pointer a) (.pointer none)).run P w = .ok a.isNone w := fun d => by cases a <;> simp [Op.equalIn, run_underlying ht]
  exact key 9999
theorem Y.eqlP {x y : Operand} {xt yt e : TypeId} {a : Option Addr} (ht : P.underlying xt = some (.pointer e)) (hx : ev ρ x = some (.pointer a)) (hy : ev ρ y = some (.pointer none)) (h : G (.bool a.isNone) w) : OpY P ⟨d, .binOp .eql xt x y yt, ty, pos, af, g⟩ ρ w G :=
  OpY.val (fun ee he => by simp only [execOp]; rw [he x _ hx, he y _ hy]; simp [eqGuard, binOp, run_equalP a ht]) h
theorem Y.neqP {x y : Operand} {xt yt e : TypeId} {a : Option Addr} (ht : P.underlying xt = some (.pointer e)) (hx : ev ρ x = some (.pointer a)) (hy : ev ρ y = some (.pointer none)) (h : G (.bool (!a.isNone)) w) : OpY P ⟨d, .binOp .neq xt x y yt, ty, pos, af, g⟩ ρ w G :=
  OpY.val (fun ee he => by simp only [execOp]; rw [he x _ hx, he y _ hy]; simp [eqGuard, binOp, run_equalP a ht]) h
theorem run_equalSl {t e : TypeId} (a : Option Addr) (n c : Nat) (ht : P.underlying t = some (.slice e)) : (Op.equal t (.slice a n c) (.slice none 0 0)).run P w = .ok a.isNone w := by
  have key : ∀ d, (Op.equalIn (d + 1) t (.slice a n c) (.slice none 0 0)).run P w = .ok a.isNone w := fun d => by cases a <;> simp [Op.equalIn, run_underlying ht]
  exact key 9999
theorem Y.eqlN {x y : Operand} {xt yt e : TypeId} {a : Option Addr} {n c : Nat} (ht : P.underlying xt = some (.slice e)) (hx : ev ρ x = some (.slice a n c)) (hy : ev ρ y = some (.slice none 0 0)) (h : G (.bool a.isNone) w) : OpY P ⟨d, .binOp .eql xt x y yt, ty, pos, af, g⟩ ρ w G :=
  OpY.val (fun ee he => by simp only [execOp]; rw [he x _ hx, he y _ hy]; simp [eqGuard, binOp, run_equalSl a n c ht]) h
theorem Y.lenV {x : Operand} {t : TypeId} {a : Option Addr} {n c : Nat} {e : TypeId} (ht : P.underlying t = some (.slice e)) (hx : ev ρ x = some (.slice a n c)) (h : G (.int .i64 n) w) :
    OpY P ⟨d, .call ⟨.builtin .len, #[x], #[t]⟩, ty, pos, af, g⟩ ρ w G :=
  OpY.val (fun e he => by simp only [execOp, resolve, List.map_toArray, List.map_cons, List.map_nil]; rw [he x _ hx]; simp [invoke, builtin, Builtin.len_, run_underlying ht, goInt]) h
theorem Y.cap {x : Operand} {t : TypeId} {a : Option Addr} {n c : Nat} {e : TypeId} (ht : P.underlying t = some (.slice e)) (hx : ev ρ x = some (.slice a n c)) (h : G (.int .i64 c) w) :
    OpY P ⟨d, .call ⟨.builtin .cap, #[x], #[t]⟩, ty, pos, af, g⟩ ρ w G :=
  OpY.val (fun e he => by simp only [execOp, resolve, List.map_toArray, List.map_cons, List.map_nil]; rw [he x _ hx]; simp [invoke, builtin, Builtin.cap_, run_underlying ht, goInt]) h
theorem Y.indexO {x y : Operand} {t e : TypeId} {bytes : Nat} {z : Value} {v : Value} {S : Nat → Prop} {n : Nat} {xs : List Value} {k : IntKind} {i : Int} (ht : SliceT P t e 1 bytes z) (hx : ev ρ x = some v) (hy : ev ρ y = some (.int k i))
    (hr : Own S w e 1 v n xs) (hi : 0 ≤ i ∧ i < n) (h : ∀ b, v.ownBlock = some b → S b → G (.pointer (some ⟨b, i.toNat, none⟩)) w) :
    OpY P ⟨d, .indexAddr t x y, ty, pos, af, g⟩ ρ w G := by
  obtain ⟨ii, hinf, hsz, _, _⟩ := ht.get
  obtain ⟨h0, h1, b, cap, cur, fr, rfl, h2, h3, h4, h5, h6, h7, h8⟩ := hr
  refine OpY.val (v := .pointer (some ⟨b, i.toNat, none⟩)) (w' := w) (fun e he => ?_) (h b rfl h4)
  simp only [execOp]; rw [he x _ hx, he y _ hy]
  simp [Instr.indexAt, asIntOf, run_underlying ht.und, hi.1, hi.2, Go.sizeOf, typeInfo, hinf, hsz, Addr.add_lit]
theorem Y.storeO {x y : Operand} {t e : TypeId} {v u : Value} {S : Nat → Prop} {n b j : Nat} {xs : List Value} (ht : OneT P t) (hx : ev ρ x = some (.pointer (some ⟨b, j, none⟩))) (hy : ev ρ y = some u) (hu : u.oneCell' = true)
    (hr : Own S w e 1 v n xs) (hb : v.ownBlock = some b) (hj : j < n) (h : ∀ w', Own S w' e 1 v n (xs.set j u) → Chg (· = b) w w' → w'.heap.size = w.heap.size → G undef w') :
    OpY P ⟨d, .store t x y, ty, pos, af, g⟩ ρ w G := by
  obtain ⟨w', hw', ⟨c, hc⟩, hf, hO, hC, hz⟩ := hr.set hb (j := j) (by omega) hu
  refine OpY.un (w' := w') (fun ee he => ?_) (h w' hO hC hz)
  have hcell : u.cells = #[u] := by cases u <;> first | rfl | simp [Value.oneCell'] at hu
  have hst := run_store P w ⟨b, j, none⟩ u .plain hu
  rw [hc] at hst
  simp only [hf] at hst
  simp only [execOp]; rw [he x _ hx, he y _ hy]
  have hadd : (⟨b, j, none⟩ : Addr).add 0 = ⟨b, j, none⟩ := rfl
  simp [Instr.storeAt, Instr.sureAddr, storeVar, ht.sizeOf, hcell, storeCells, hadd, hst, hw']
theorem Y.makeSlice {x y : Operand} {t e : TypeId} {sz bytes : Nat} {z : Value} {n c : Nat} (ht : SliceT P t e sz bytes z) (hx : ev ρ x = some (.int .i64 (n : Int))) (hy : ev ρ y = some (.int .i64 (c : Int))) (hnc : n ≤ c) (hb : c * bytes ≤ 281474976710656) (hc : c ≤ 9223372036854775807) (hz1 : ∀ q ∈ z.cells.toList, q.oneCell' = true)
    (h : ∀ v w', Own (Since w) w' e sz v n (((List.range (c * sz)).map fun i => z.cells[i % sz]!).take (n * sz)) → Ext w w' → G v w') : OpY P ⟨d, .makeSlice t x y, ty, pos, af, g⟩ ρ w G := by
  obtain ⟨ii, hinf, hsz, hbt, hz⟩ := ht.get
  have hzc := ht.zc
  have hpos := ht.pos
  subst hsz
  subst hbt
  refine OpY.val (v := .slice (some ⟨w.heap.size, 0, none⟩) n c) (w' := w.alloc (.cells ((List.range (c * ii.size)).map fun i => z.cells[i % ii.size]!).toArray e)) (fun ee he => ?_) (h _ _ ?_ (Ext.alloc _ _))
  · have w1 : IntKind.i64.wrap (n : Int) = n := wrap64 (by omega) (by omega)
    have w2 : IntKind.i64.wrap (c : Int) = c := wrap64 (by omega) (by omega)
    have e1 : ¬ ((c : Int) < 0) := by omega
    have e2 : ¬ ((n : Int) < 0) := by omega
    have e3 : ¬ ((c : Int) < (n : Int)) := by omega
    have e4 : ¬ (2 ^ 48 < (ii.bytes : Int) * (c : Int)) := by
      have : (ii.bytes : Int) * (c : Int) = ((c * ii.bytes : Nat) : Int) := by rw [Nat.mul_comm]; simp
      rw [this]; omega
    have harr : ∀ f : Nat → Value, (Array.range (c * ii.size)).map f = ((List.range (c * ii.size)).map f).toArray := fun f => by
      apply Array.ext'
      simp
    have hc0 : ∀ k : Nat, (if k = 0 then (Pure.pure #[] : Sem (Array Value)) else (Pure.pure z.cells : Sem (Array Value))) = Pure.pure (if k = 0 then #[] else z.cells) := fun k => by split <;> rfl
    simp only [execOp]; rw [he x _ hx, he y _ hy]
    by_cases h0 : c * ii.size = 0
    · have hc00 : c = 0 := by
        rcases Nat.mul_eq_zero.1 h0 with h | h
        · exact h
        · omega
      subst hc00
      have hr0 : Array.range 0 = #[] := by apply Array.ext'; simp
      have w0 : IntKind.i64.wrap 0 = 0 := by decide
      have : n = 0 := by omega
      subst this
      simp [Instr.makeSlice, run_underlying ht.und, asInt, asIntOf, typeInfo, hinf, w0, Go.sizeOf, newRow, hr0]
    · have e4' : ¬ (281474976710656 < (ii.bytes : Int) * (c : Int)) := by simpa using e4
      have hne : ¬ (c = 0 ∨ ii.size = 0) := by
        intro h
        rcases h with h | h <;> simp [h] at h0
      simp [Instr.makeSlice, run_underlying ht.und, asInt, asIntOf, typeInfo, hinf, w1, w2, e1, e2, e3, e4', Go.sizeOf, hne, zeroValue, hz, newRow]
      rw [if_neg h0, harr, hzc]
  · have hle : n * ii.size ≤ c * ii.size := Nat.mul_le_mul_right _ hnc
    refine ⟨by rw [List.length_take, List.length_map, List.length_range]; omega, ?_, w.heap.size, c, _, (0, 0), rfl, hnc, by simp only [maxLen]; omega, Nat.le_refl _, heap_alloc_new w _, nofr0 _, by simp, rfl⟩
    intro q hq
    have hq := List.mem_of_mem_take hq
    simp only [List.mem_map, List.mem_range] at hq
    obtain ⟨i, _, rfl⟩ := hq
    have hm : i % ii.size < z.cells.size := by rw [hzc]; exact Nat.mod_lt _ hpos
    refine hz1 _ ?_
    rw [getElem!_pos z.cells _ hm]
    simp
theorem Y.appendZ {x y : Operand} {t u e : TypeId} {bytes : Nat} {z : Value} {m : Nat} {ku : IntKind} (ht : SliceT P t e 1 bytes z) (hu : P.underlying u = some (.int ku)) (hx : ev ρ x = some (.slice none 0 0)) (hy : ev ρ y = some (.int .i64 (m : Int)))
    (hm0 : 0 < m) (hby : m * bytes ≤ 140737488355328) (hm : m ≤ 9223372036854775807) (hzo : z.oneCell' = true)
    (h : ∀ v' w', Own (Since w) w' e 1 v' m (List.replicate m z) → Ext w w' → G v' w') : OpY P ⟨d, .call ⟨.builtin .append, #[x, y], #[t, u]⟩, ty, pos, af, g⟩ ρ w G := by
  obtain ⟨i, hi, hsz, hbt, hz⟩ := ht.get
  have hzc : z.cells = #[z] := by cases z <;> first | rfl | simp [Value.oneCell'] at hzo
  subst hbt
  have hge := grownCap_ge w m 0 e
  have hcm' := grownCap_le_maxLen w m 0 e (by simp only [maxLen]; omega)
  have hgs := growslice_fits (bytes := i.bytes) (old := 0) hm0 (by omega)
  have hzcells : ∀ k, Builtin.zeroCells z.cells k = (List.replicate k z).toArray := by
    intro k
    apply Array.ext'
    have e : ∀ k : Nat, (List.range k).map (fun _ => z) = List.replicate k z := fun k => by rw [List.map_const', List.length_range]
    simp [Builtin.zeroCells, hzc, Nat.mod_one, e]
  refine OpY.val (v := .slice (some ⟨w.heap.size, 0, none⟩) m (grownCap w m 0 e)) (w' := w.drew.alloc (.cells (List.replicate m z ++ List.replicate (grownCap w m 0 e - m) z).toArray e)) (fun ee he => ?_) (h _ _ ?_ ((Ext.drew w).trans (Ext.alloc _ _)))
  · have w1 : IntKind.i64.wrap (m : Int) = m := wrap64 (by omega) (by omega)
    have e2 : ¬ ((m : Int) < 0) := by omega
    have e3 : ¬ (281474976710656 < (m : Int) * (i.bytes : Int)) := by
      have : (m : Int) * (i.bytes : Int) = ((m * i.bytes : Nat) : Int) := by simp
      rw [this]; omega
    have e4 : ¬ (281474976710656 < Builtin.nextslicecap m 0 * i.bytes) := by omega
    have hmax : IntKind.i64.max = 9223372036854775807 := by decide
    have e5 : ¬ (9223372036854775807 < (m : Int)) := by omega
    have hq : (Question.appendCap m 0 e).forced = false := rfl
    have e6 : ¬ (m = 0) := by omega
    simp only [execOp, resolve, List.map_toArray, List.map_cons, List.map_nil]
    rw [he x _ hx, he y _ hy]
    simp [invoke, builtin, Builtin.append_, run_underlying ht.und, run_underlying hu, sizeOf, typeInfo, hi, hsz, asInt, asIntOf, w1, e2, e3, e4, hmax, e5, hq, e6, Builtin.firstCells, zeroValue, hz, newRow, grownCap, hzcells]
  · refine ⟨by simp, by intro q hq; rw [List.mem_replicate] at hq; exact hq.2 ▸ hzo, w.heap.size, _, _, (0, 0), rfl, hge, hcm', Nat.le_refl _, heap_alloc_new w.drew _, nofr0 _, ?_, ?_⟩
    · simp; omega
    · simp
theorem Y.sliceO {x y : Operand} {t e : TypeId} {sz bytes : Nat} {z : Value} {v q : Value} {S : Nat → Prop} {n k : Nat} {xs : List Value} (ht : SliceT P t e sz bytes z) (hx : ev ρ x = some v) (hr : Own S w e sz v n xs) (hy : ev ρ y = some q) (hb : bnd 0 (some q) = some k) (hk : k ≤ n)
    (h : ∀ v', Own S w e sz v' k (xs.take (k * sz)) → G v' w) : OpY P ⟨d, .slice t x none (some y) none, ty, pos, af, g⟩ ρ w G := by
  obtain ⟨ii, hinf, hsz, _, _⟩ := ht.get
  obtain ⟨b, cap, rfl, hc, hO⟩ := hr.take hk
  refine OpY.val (v := .slice (some ⟨b, 0, none⟩) k cap) (w' := w) (fun e he => ?_) (h _ hO)
  have hq := fun c => run_sliceBound (P := P) (w := w) (c := c) hb (show k ≤ cap by omega)
  simp only [execOp]
  rw [he x _ hx]
  simp [he y _ hy, Instr.sliceAt, run_underlying ht.und, Instr.slice, Instr.sliceBounds, Go.sizeOf, typeInfo, hinf, hsz, hq, Addr.add]
theorem Y.box {x : Operand} {e : TypeId} {v : Value} (hx : ev ρ x = some v) (h : ∀ b w', w'.heap[b]? = some (.cells v.cells e (0, 0)) → b = w.heap.size ∧ w'.heap.size = b + 1 → Ext w w' → G (.pointer (some ⟨b, 0, none⟩)) w') : OpY P ⟨d, .box e x, ty, pos, af, g⟩ ρ w G :=
  OpY.val (fun ee he => by simp only [execOp]; rw [he x _ hx]; simp [Instr.box, newVar, newRow]) (h w.heap.size (w.alloc (.cells v.cells e)) (heap_alloc_new w _) ⟨rfl, by simp⟩ (Ext.alloc _ _))
theorem Y.alloc {e : TypeId} {z : Value} (hz : (P.info? e).map (·.zero) = some (some z)) (h : ∀ b w', w'.heap[b]? = some (.cells z.cells e (0, 0)) → b = w.heap.size ∧ w'.heap.size = b + 1 → Ext w w' → G (.pointer (some ⟨b, 0, none⟩)) w') : OpY P ⟨d, .alloc e, ty, pos, af, g⟩ ρ w G :=
  OpY.val (fun ee he => by
    cases hi : P.info? e with
    | none => simp [hi] at hz
    | some i =>
      simp [hi] at hz
      simp [execOp, Instr.alloc, zeroValue, typeInfo, hi, hz, newVar, newRow]) (h w.heap.size (w.alloc (.cells z.cells e)) (heap_alloc_new w _) ⟨rfl, by simp⟩ (Ext.alloc _ _))
end
end Go.Proofs.YtchammpamigonaaGreatX
end
section
namespace Go.Proofs.YtchammpamigonaaGreatX
open Go Go.RowKit
def Rel (P : Program) (o : Oper) (run : Bool) (V : Option (Value → World → Prop)) (e : Operand → Value) (w : World) : Prop :=
  match o.dst with
  | some d =>
    (match run, V with
     | false, _ => e (.tmp d) = undef
     | true, none => ∀ w2, (execOp e o).run P w2 = .ok (.value (e (.tmp d))) w2
     | true, some V => V (e (.tmp d)) w)
  | none =>
    (match run, V with
     | true, some V => ∃ v, V v w
     | _, _ => True)
structure Steady (E : World → World → Prop) : Prop where
  refl : ∀ w, E w w
  trans : ∀ a b c, E a b → E b c → E a c
  drew : ∀ w, E w w.drew
theorem Steady.chg (S : Nat → Prop) : Steady (Chg S) := ⟨fun w => Chg.refl S w, fun _ _ _ h k => h.trans k (fun _ h => h) (fun _ _ h => h), fun w => Ext.chg (Ext.drew w)⟩
def Step (P : Program) (o : Oper) (run : Bool) (V : Option (Value → World → Prop)) (E : World → World → Prop) (e : Operand → Value) (w : World) : Prop :=
  match run, V with
  | false, _ => True
  | true, none => ∃ v, ∀ w2, (execOp e o).run P w2 = .ok (.value v) w2
  | true, some V => Yl P (fun v w' => E w w' ∧ V v w') ((execOp e o).run P w)
def edges (o : Oper) : List Nat := (o.after.toList.filter (Region.binds .any)).map (·.on)
def slotsOf (o : Oper) : List Nat := o.op.operands.toList.filterMap fun | .tmp t => some t | _ => none
def regB (ops : Array Oper) (N n : Nat) (anc : List (List Nat)) (keys : List Nat) : Bool :=
  Nat.ble N ops.size && Region.noSelect ops &&
  ops.toList.zipIdx.all fun (o, i) =>
    (edges o).all (fun k => Nat.blt k i) &&
    (anc.getD i []).all (fun k => (edges o).contains k || (edges o).any fun j => (anc.getD j []).contains k) &&
    (if Nat.blt i N then
      (match o.dst with
       | some d => Nat.blt d n && !keys.contains d && !(slotsOf o).contains d && ops.toList.zipIdx.all fun (o', j) =>
           Nat.beq i j || !Nat.blt j N || ((o'.dst != some d) && (!(slotsOf o').contains d || (anc.getD j []).contains i) && (match o'.guard with | some (g, _) => ((ops[g]?).bind (·.dst)) != some d || (anc.getD j []).contains i | none => true))
       | none => true)
     else (List.range i).all fun k => (anc.getD i []).contains k)
def keysOf (ρ : Env) : List Nat := ρ.map (·.1)
theorem Env.get?_key {ρ : Env} : ∀ {t : Nat} {v : Value}, ρ.get? t = some v → t ∈ keysOf ρ := by
  induction ρ with
  | nil => intro t v h; simp [Env.get?] at h
  | cons p r ih =>
    intro t v h
    obtain ⟨k, u⟩ := p
    simp only [Env.get?] at h
    by_cases e : k = t
    · subst e; simp [keysOf]
    · have : Nat.beq k t = false := by rw [← Bool.not_eq_true, Nat.beq_eq]; exact e
      rw [this] at h
      exact List.mem_cons_of_mem _ (ih h)
theorem Sat.putFresh {n : Slots} {ρ : Env} {a : Act} (h : Sat n ρ a) {d : Nat} (hd : d ∉ keysOf ρ) (v : Value) : Sat n ρ (a.put (some d) v) := by
  refine ⟨by simp [Act.put, h.size], by simp [Act.put, h.defers], ?_⟩
  intro x u hx
  cases x with
  | tmp t =>
    have : d ≠ t := fun e => hd (e ▸ Env.get?_key hx)
    rw [Act.eval_put (by intro d' hd' ht; cases hd'; cases ht; exact this rfl)]
    exact h.sat (.tmp t) u hx
  | const c => exact h.sat (.const c) u hx
  | global g => exact h.sat (.global g) u hx
  | func f => exact h.sat (.func f) u hx
theorem eval_put_same {a : Act} {d : Nat} (hd : d < a.tmps.size) (v : Value) : (a.put (some d) v).eval (.tmp d) = v := by simp [Act.eval, Act.put, hd]
structure RegH (ops : Array Oper) (N n : Nat) (anc : List (List Nat)) (keys : List Nat) : Prop where
  le : N ≤ ops.size
  sel : ∀ (j : Nat) (o : Oper) cs b, ops[j]? = some o → o.op ≠ .select cs b
  edge : ∀ i o, ops[i]? = some o → ∀ k ∈ edges o, k < i
  clo : ∀ i o, ops[i]? = some o → ∀ k ∈ anc.getD i [], k ∈ edges o ∨ ∃ j ∈ edges o, k ∈ anc.getD j []
  dst : ∀ i o, i < N → ops[i]? = some o → ∀ d, o.dst = some d → d < n ∧ d ∉ keys ∧ d ∉ slotsOf o ∧ ∀ j o', j < N → j ≠ i → ops[j]? = some o' → o'.dst ≠ some d ∧ (d ∈ slotsOf o' → i ∈ anc.getD j []) ∧ (∀ g b, o'.guard = some (g, b) → (ops[g]?).bind (·.dst) = some d → i ∈ anc.getD j [])
  tail : ∀ i o, N ≤ i → ops[i]? = some o → ∀ k, k < i → k ∈ anc.getD i []
theorem regB_spec {ops : Array Oper} {N n : Nat} {anc : List (List Nat)} {keys : List Nat} (h : regB ops N n anc keys = true) : RegH ops N n anc keys := by
  unfold regB at h
  simp only [Bool.and_eq_true] at h
  obtain ⟨⟨h1, h2⟩, h3⟩ := h
  have h3' : ∀ i o, ops[i]? = some o → _ := fun i o hi => (List.all_eq_true.1 h3) (o, i) (by
    rw [List.mem_zipIdx_iff_getElem?]
    simpa using hi)
  refine ⟨by simpa using h1, Region.noSelect_spec h2, ?_, ?_, ?_, ?_⟩
  · intro i o hi k hk
    have := h3' i o hi
    simp only [Bool.and_eq_true] at this
    have := List.all_eq_true.1 this.1.1 k hk
    exact Nat.blt_eq ▸ this
  · intro i o hi k hk
    have := h3' i o hi
    simp only [Bool.and_eq_true] at this
    have := List.all_eq_true.1 this.1.2 k hk
    simpa using this
  · intro i o hN hi d hd
    have := h3' i o hi
    simp only [Bool.and_eq_true] at this
    have h4 := this.2
    have hb : Nat.blt i N = true := by rw [Nat.blt_eq]; exact hN
    simp only [hb, if_true] at h4
    simp only [hd, Bool.and_eq_true] at h4
    obtain ⟨⟨⟨h5, h6⟩, h6'⟩, h7⟩ := h4
    refine ⟨Nat.blt_eq ▸ h5, by simpa using h6, by simpa using h6', ?_⟩
    intro j o' hj hne hj'
    have := (List.all_eq_true.1 h7) (o', j) (by
      rw [List.mem_zipIdx_iff_getElem?]
      simpa using hj')
    have e1 : Nat.beq i j = false := by rw [← Bool.not_eq_true, Nat.beq_eq]; exact fun e => hne e.symm
    have e2 : Nat.blt j N = true := by rw [Nat.blt_eq]; exact hj
    simp only [e1, e2, Bool.false_or, Bool.not_true, Bool.and_eq_true] at this
    obtain ⟨⟨h8, h9⟩, h10⟩ := this
    refine ⟨by simpa using h8, fun hs => ?_, fun g b hg hgd => ?_⟩
    · simp only [Bool.or_eq_true] at h9
      rcases h9 with h9 | h9
      · simp at h9; exact absurd hs h9
      · simpa using h9
    · simp only [hg, Bool.or_eq_true] at h10
      rcases h10 with h10 | h10
      · simp at h10; exact absurd hgd h10
      · simpa using h10
  · intro i o hN hi k hk
    have := h3' i o hi
    simp only [Bool.and_eq_true] at this
    have h4 := this.2
    have hb : Nat.blt i N = false := by rw [← Bool.not_eq_true, Nat.blt_eq]; omega
    simp only [hb, Bool.false_eq_true, if_false] at h4
    have := List.all_eq_true.1 h4 k (List.mem_range.2 hk)
    simpa using this
section
variable {P : Program} {ops : Array Oper} {Q : Exit → Act → World → Prop} {n : Slots} {N m0 : Nat} {ro : Option Nat} {ρ : Env} {w : World} {anc : List (List Nat)} {S : Nat → Prop}
def Closed (anc : List (List Nat)) (L : Array Bool) : Prop := ∀ i, L.getD i false = true → ∀ k ∈ anc.getD i [], L.getD k false = true
theorem ready_anc {keys : List Nat} (hR : RegH ops N n.size anc keys) {L : Array Bool} (hc : Closed anc L) {i : Nat} (hi : i ∈ Region.ready .any ops L) : ∃ o, ops[i]? = some o ∧ L.getD i true = false ∧ ∀ k ∈ anc.getD i [], L.getD k false = true := by
  obtain ⟨h0, o, ho, hall⟩ := mem_ready.1 hi
  have he : ∀ k ∈ edges o, L.getD k false = true := by
    intro k hk
    simp only [edges, List.mem_map, List.mem_filter] at hk
    obtain ⟨e, ⟨he, hb⟩, rfl⟩ := hk
    exact hall e (by simpa using he) hb
  refine ⟨o, ho, h0, fun k hk => ?_⟩
  rcases hR.clo i o ho k hk with h | ⟨j, hj, hkj⟩
  · exact he k h
  · exact hc j (he j hj) k hkj
theorem ready_of {keys : List Nat} (hR : RegH ops N n.size anc keys) {L : Array Bool} {i : Nat} (hlt : i < ops.size) (h0 : L.getD i true = false) (hall : ∀ k, k < i → L.getD k false = true) : i ∈ Region.ready .any ops L := by
  have ho : ops[i]? = some ops[i] := by simp [hlt]
  refine mem_ready.2 ⟨h0, ops[i], ho, fun e he hb => hall e.on (hR.edge i _ ho e.on ?_)⟩
  simp only [edges, List.mem_map, List.mem_filter]
  exact ⟨e, ⟨by simpa using he, hb⟩, rfl⟩
theorem getD_set {L : Array Bool} {i j : Nat} {b : Bool} (hi : i < L.size) : (L.setIfInBounds i true).getD j b = if j = i then true else L.getD j b := by
  by_cases h : j = i
  · subst h; simp [hi]
  · simp [h, Array.getElem?_setIfInBounds_ne (Ne.symm h)]
theorem count_set {L : Array Bool} {i : Nat} (hi : i < L.size) (hun : L.getD i false = false) : ∀ m, ((List.range m).filter fun j => !(L.setIfInBounds i true).getD j false).length + (if i < m then 1 else 0) = ((List.range m).filter fun j => !L.getD j false).length := by
  intro m
  induction m with
  | zero => simp
  | succ m ihm =>
    rw [List.range_succ, List.filter_append, List.filter_append, List.length_append, List.length_append]
    have e1 : ([m].filter fun j => !(L.setIfInBounds i true).getD j false).length + (if i = m then 1 else 0) = ([m].filter fun j => !L.getD j false).length := by
      rw [List.filter_cons, List.filter_cons, getD_set hi]
      by_cases h : m = i
      · subst h
        simp [hun]
      · have h' : ¬ i = m := fun e => h e.symm
        simp [h, h']
    have e2 : (if i < m + 1 then 1 else 0) = (if i < m then 1 else 0) + (if i = m then 1 else 0) := by
      by_cases h : i = m
      · subst h; simp
      · by_cases h' : i < m
        · rw [if_pos (by omega), if_pos h', if_neg h]
        · rw [if_neg (by omega), if_neg h', if_neg h]
    rw [e2]
    omega
theorem wpAny_tail {keys : List Nat} (hR : RegH ops N n.size anc keys) : ∀ (l : List Oper) (m : Nat) (L : Array Bool) (a : Act) (w : World), N ≤ m → (∀ j, l[j]? = ops[m + j]?) → L.size = ops.size → (∀ j, j < ops.size → L.getD j false = decide (j < m)) → m + l.length = ops.size →
    wpL P ro ops Q l a w → wpAnyIn (FR ro) 0 P .any ops Q l.length L a w
  | [], m, L, a, w, _, hl, hs, hL, hm, h => by
    refine ⟨?_, h⟩
    rw [List.eq_nil_iff_forall_not_mem]
    intro i hi
    obtain ⟨h0, o, ho, _⟩ := mem_ready.1 hi
    have hlt := (Array.getElem?_eq_some_iff.1 ho).1
    have := hL i hlt
    simp at hm
    rw [show decide (i < m) = true by simp; omega] at this
    have hi' : i < L.size := by omega
    simp [hi'] at this h0
    rw [this] at h0; cases h0
  | o :: l, m, L, a, w, hN, hl, hs, hL, hm, h => by
    have ho : ops[m]? = some o := by simpa using (hl 0).symm
    have hlt : m < ops.size := (Array.getElem?_eq_some_iff.1 ho).1
    have hLt : ∀ j, j < ops.size → L.getD j true = decide (j < m) := fun j hj => by
      have := hL j hj
      have hj' : j < L.size := by omega
      simp [hj'] at this ⊢
      exact this
    have hclo : Closed anc L := fun i hi k hk => by
      have hil : i < ops.size := by
        rcases Nat.lt_or_ge i L.size with h' | h'
        · omega
        · simp [Array.getElem?_eq_none h'] at hi
      have him : i < m := by rw [hL i hil] at hi; simpa using hi
      have hoi : ops[i]? = some ops[i] := by simp [hil]
      have hki : k < i := by
        have key : ∀ i, i < ops.size → ∀ k ∈ anc.getD i [], k < i := by
          intro i
          induction i using Nat.strongRecOn with
          | _ i ih =>
            intro hil k hk
            have hoi : ops[i]? = some ops[i] := by simp [hil]
            rcases hR.clo i _ hoi k hk with h | ⟨j, hj, hkj⟩
            · exact hR.edge i _ hoi k h
            · have := hR.edge i _ hoi j hj
              have := ih j this (by omega) k hkj
              omega
        exact key i hil k hk
      rw [hL k (by omega)]; simp; omega
    refine ⟨fun h0 => ?_, fun i hi => ?_⟩
    · have := ready_of (anc := anc) hR hlt (by rw [hLt m hlt]; simp) (fun k hk => by rw [hL k (by omega)]; simpa using hk)
      rw [h0] at this; cases this
    · have him : i = m := by
        obtain ⟨o', ho', h0, hanc⟩ := ready_anc hR hclo hi
        have hil := (Array.getElem?_eq_some_iff.1 ho').1
        rw [hLt i hil] at h0
        simp at h0
        rcases Nat.lt_or_ge m i with h' | h'
        · have := hanc m (hR.tail i o' (by omega) ho' m h')
          rw [hL m hlt] at this; simp at this
        · omega
      subst him
      have ih : ∀ a w, wpL P ro ops Q l a w → wpAnyIn (FR ro) 0 P .any ops Q l.length (L.setIfInBounds i true) a w := fun a w h => wpAny_tail hR l (i + 1) _ a w (by omega) (fun j => by have := hl (j + 1); simpa [Nat.add_assoc, Nat.add_comm 1 j] using this) (by simp [hs]) (fun j hj => by
        rw [getD_set (by omega), hL j hj]
        by_cases h : j = i
        · simp [h]
        · rw [if_neg h, Bool.eq_iff_iff]; simp; omega) (by simp at hm; omega) h
      unfold wpOpIn
      simp only [ho]
      simp only [wpL] at h
      split
      · rename_i hw; simp only [hw, if_true] at h; exact Oper.wpIn_mono ih h
      · rename_i hw; simp only [hw] at h; exact ⟨fun _ _ => trivial, ih _ _ h⟩
theorem XC.draw {id : Nat} (N : Nat) (anc : List (List Nat)) (E : World → World → Prop) (hE : Steady E) (run : Nat → Bool) (V : Nat → Option (Value → World → Prop)) (hm : P.follows .mixedOrders = true) (hB : regB ops N n.size anc (keysOf ρ) = true)
    (hV : ∀ i Vi, V i = some Vi → ∀ v w1 w2, E w1 w2 → Vi v w1 → Vi v w2)
    (hstep : ∀ i o, i < N → ops[i]? = some o → ∀ a w', Sat n ρ a → E w w' → (∀ k, k ∈ anc.getD i [] → ∀ ok, ops[k]? = some ok → Rel P ok (run k) (V k) a.eval w') →
      Region.wanted o (yielded ops a.tmps) = run i ∧ Step P o (run i) (V i) E a.eval w')
    (hfin : ∀ a w', Sat n ρ a → E w w' → (∀ k ok, k < N → ops[k]? = some ok → Rel P ok (run k) (V k) a.eval w') → wpL P n.rnd ops Q (ops.toList.drop N) a w') : XC P (.region id ops true) Q n ρ w := by
  refine XC.of fun a ha => ?_
  have hR := regB_spec hB
  refine wpIn_region_any hm ?_
  have key : ∀ (fuel : Nat) (L : Array Bool) (a : Act) (w' : World), L.size = ops.size → ((List.range ops.size).filter fun i => !L.getD i false).length = fuel → Sat n ρ a → E w w' → Closed anc L → (∀ i, i < ops.size → N ≤ i → (∃ k, k < N ∧ L.getD k false = false) → L.getD i false = false) → (∀ i, i < ops.size → N ≤ i → L.getD i false = false) →
      (∀ k ok, k < N → L.getD k false = true → ops[k]? = some ok → Rel P ok (run k) (V k) a.eval w') → wpAnyIn (FR n.rnd) 0 P .any ops Q fuel L a w' := by
    intro fuel
    induction fuel with
    | zero =>
      intro L a w' hs hcnt hsat hC hclo _ hT hrel
      have hall : ∀ i, i < ops.size → L.getD i false = true := by
        intro i hi
        have := List.eq_nil_of_length_eq_zero hcnt
        have h1 := List.filter_eq_nil_iff.1 this i (List.mem_range.2 hi)
        simpa using h1
      have hNs : N = ops.size := by
        rcases Nat.lt_or_ge N ops.size with h | h
        · have h1 := hall N h; have h2 := hT N h (Nat.le_refl _); rw [h1] at h2; cases h2
        · have := hR.le; omega
      have hd : ops.toList.drop N = [] := by rw [List.drop_eq_nil_iff]; simp; omega
      have hf := hfin a w' hsat hC (fun k ok hk hok => hrel k ok hk (hall k (by omega)) hok)
      rw [hd] at hf
      exact wpAny_tail hR [] ops.size L a w' hR.le (by simp) hs (fun j hj => by rw [hall j hj]; simp [hj]) (by simp) hf
    | succ fuel ih =>
      intro L a w' hs hcnt hsat hC hclo hTT hT hrel
      by_cases hdone : ∀ k, k < N → L.getD k false = true
      · -- the head is done
        have hf := hfin a w' hsat hC (fun k ok hk hok => hrel k ok hk (hdone k hk) hok)
        have hLeq : ∀ j, j < ops.size → L.getD j false = decide (j < N) := by
          intro j hj
          rcases Nat.lt_or_ge j N with h | h
          · rw [hdone j h]; simp [h]
          · rw [hT j hj h]; simp; omega
        have hlen : (ops.toList.drop N).length = fuel + 1 := by
          rw [← hcnt]
          have : ∀ m, m ≤ ops.size → ((List.range m).filter fun i => !L.getD i false).length = m - N := by
            intro m
            induction m with
            | zero => intro _; simp
            | succ m ihm =>
              intro hm
              rw [List.range_succ, List.filter_append, List.length_append, ihm (by omega)]
              have := hLeq m (by omega)
              simp only [List.filter_cons, List.filter_nil, this]
              by_cases h : m < N
              · simp [h]; omega
              · simp [h]; omega
          rw [this ops.size (Nat.le_refl _)]
          simp
        rw [← hlen]
        have hle := hR.le
        exact wpAny_tail hR (ops.toList.drop N) N L a w' (Nat.le_refl _) (fun j => by simp) hs hLeq (by simp; omega) hf
      · -- one more of the head
        have hex : ∃ k, k < N ∧ L.getD k false = false := by
          apply Classical.byContradiction
          intro h
          apply hdone
          intro k hk
          cases hb : L.getD k false
          · exact absurd ⟨k, hk, hb⟩ h
          · rfl
        refine ⟨fun h0 => ?_, fun i hi => ?_⟩
        · -- the least that hasn't been is ready
          exfalso
          have hleast : ∀ m, m ≤ N → (∀ k, k < m → L.getD k false = true) ∨ ∃ j, j < m ∧ L.getD j false = false ∧ ∀ k, k < j → L.getD k false = true := by
            intro m
            induction m with
            | zero => intro _; exact .inl (fun k hk => by omega)
            | succ m ihm =>
              intro hm
              rcases ihm (by omega) with h | ⟨j, hj, h1, h2⟩
              · cases hb : L.getD m false
                · exact .inr ⟨m, by omega, hb, h⟩
                · exact .inl (fun k hk => by rcases Nat.lt_or_eq_of_le (Nat.le_of_lt_succ hk) with h' | h'; exact h k h'; exact h' ▸ hb)
              · exact .inr ⟨j, by omega, h1, h2⟩
          rcases hleast N (Nat.le_refl _) with h | ⟨j, hj, h1, h2⟩
          · exact hdone h
          · have hle := hR.le
            have hj' : j < L.size := by omega
            have := ready_of (anc := anc) hR (show j < ops.size by omega) (by simp [hj'] at h1 ⊢; exact h1) h2
            rw [h0] at this; cases this
        · obtain ⟨o, ho, hun, hanc⟩ := ready_anc hR hclo hi
          have hil := (Array.getElem?_eq_some_iff.1 ho).1
          have hiN : i < N := by
            rcases Nat.lt_or_ge i N with h | h
            · exact h
            · obtain ⟨k, hk, hkf⟩ := hex
              have := hanc k (hR.tail i o h ho k (by omega))
              rw [hkf] at this; cases this
          obtain ⟨hwant, hst⟩ := hstep i o hiN ho a w' hsat hC (fun k hk ok hok => hrel k ok (by
            have key : ∀ i, i < ops.size → ∀ k ∈ anc.getD i [], k < i := by
              intro i
              induction i using Nat.strongRecOn with
              | _ i ih =>
                intro hil k hk
                have hoi : ops[i]? = some ops[i] := by simp [hil]
                rcases hR.clo i _ hoi k hk with h | ⟨j, hj, hkj⟩
                · exact hR.edge i _ hoi k h
                · have := hR.edge i _ hoi j hj
                  have := ih j this (by omega) k hkj
                  omega
            have := key i hil k hk
            omega) (hanc k hk) hok)
          have next : ∀ v w'', E w' w'' → (match run i, V i with | false, _ => v = undef | true, none => ∀ w2, (execOp a.eval o).run P w2 = .ok (.value v) w2 | true, some Vi => Vi v w'') →
              wpAnyIn (FR n.rnd) 0 P .any ops Q fuel (L.setIfInBounds i true) (a.put o.dst v) w'' := by
            intro v w'' hC' hv
            have hsat' : Sat n ρ (a.put o.dst v) := by
              cases hd : o.dst with
              | none => exact hsat
              | some d => exact hsat.putFresh (hR.dst i o hiN ho d hd).2.1 v
            refine ih _ _ _ (by simp [hs]) ?_ hsat' (hE.trans _ _ _ hC hC') ?_ ?_ ?_ ?_
            · -- the count
              have hl : i < L.size := by omega
              have hun' : L.getD i false = false := by simp [hl] at hun ⊢; exact hun
              have hrange := fun (m : Nat) (_ : m ≤ ops.size) => count_set (L := L) (i := i) hl hun' m
              have := hrange ops.size (Nat.le_refl _)
              rw [if_pos hil] at this
              omega
            · intro j hj k hk
              rw [getD_set (by omega)] at hj ⊢
              split
              · rfl
              · by_cases hji : j = i
                · subst hji; exact hanc k hk
                · rw [if_neg hji] at hj; exact hclo j hj k hk
            · intro j hj hN' _
              rw [getD_set (by omega), if_neg (by omega)]; exact hT j hj hN'
            · intro j hj hN'
              rw [getD_set (by omega), if_neg (by omega)]; exact hT j hj hN'
            · intro k ok hk hLk hok
              by_cases hki : k = i
              · subst hki
                rw [ho] at hok
                cases hok
                unfold Rel
                cases hd : o.dst with
                | none =>
                  cases hr : run k with
                  | false => trivial
                  | true =>
                    cases hVk : V k with
                    | none => trivial
                    | some Vi => simp only [hr, hVk] at hv; exact ⟨v, hv⟩
                | some d =>
                  obtain ⟨hdn, hdk, hds, hdd⟩ := hR.dst k o hk ho d hd
                  have hput : ∀ x, x ≠ .tmp d → (a.put (some d) v).eval x = a.eval x := fun x hx => Act.eval_put (fun d' hd' => by cases hd'; exact hx)
                  have hself : (a.put (some d) v).eval (.tmp d) = v := eval_put_same (by rw [hsat.size]; exact hdn) v
                  have hcong : execOp (a.put (some d) v).eval o = execOp a.eval o := execOp_congr o (fun cs b => hR.sel k o cs b ho) fun x hx => hput x (fun e => by
                    subst e
                    exact hds (List.mem_filterMap.2 ⟨.tmp d, by simpa using hx, rfl⟩))
                  cases hr : run k with
                  | false => simp only [hr] at hv ⊢; rw [hself]; exact hv
                  | true =>
                    cases hVk : V k with
                    | none => simp only [hr, hVk] at hv ⊢; intro w2; rw [hcong, hself]; exact hv w2
                    | some Vi => simp only [hr, hVk] at hv ⊢; rw [hself]; exact hv
              · rw [getD_set (by omega), if_neg hki] at hLk
                have hold := hrel k ok hk hLk hok
                have hcd : execOp (a.put o.dst v).eval ok = execOp a.eval ok ∧ ∀ d', ok.dst = some d' → (a.put o.dst v).eval (.tmp d') = a.eval (.tmp d') := by
                  cases hd : o.dst with
                  | none => exact ⟨rfl, fun _ _ => rfl⟩
                  | some d =>
                    obtain ⟨hdn, hdk, hds, hdd⟩ := hR.dst i o hiN ho d hd
                    obtain ⟨h1, h2, h3⟩ := hdd k ok hk hki hok
                    have hput : ∀ x, x ≠ .tmp d → (a.put (some d) v).eval x = a.eval x := fun x hx => Act.eval_put (fun d' hd' => by cases hd'; exact hx)
                    have hnr : d ∉ slotsOf ok := fun hin => by
                      have := hclo k hLk i (h2 hin)
                      have hl : i < L.size := by omega
                      simp [hl] at this hun
                      rw [this] at hun; cases hun
                    refine ⟨execOp_congr ok (fun cs b => hR.sel k ok cs b hok) fun x hx => hput x (fun e => by
                      subst e
                      exact hnr (List.mem_filterMap.2 ⟨.tmp d, by simpa using hx, rfl⟩)), fun d' hd' => hput (.tmp d') (fun e => by cases e; exact h1 hd')⟩
                unfold Rel at hold ⊢
                cases hokd : ok.dst with
                | none =>
                  simp only [hokd] at hold ⊢
                  cases hr : run k with
                  | false => trivial
                  | true =>
                    cases hVk : V k with
                    | none => trivial
                    | some Vi => simp only [hr, hVk] at hold ⊢; exact hold.imp fun v h => hV k Vi hVk _ _ _ hC' h
                | some d' =>
                  simp only [hokd] at hold ⊢
                  rw [hcd.1, hcd.2 d' hokd]
                  cases hr : run k with
                  | false => simp only [hr] at hold ⊢; exact hold
                  | true =>
                    cases hVk : V k with
                    | none => simp only [hr, hVk] at hold ⊢; exact hold
                    | some Vi => simp only [hr, hVk] at hold ⊢; exact hV k Vi hVk _ _ _ hC' hold
          unfold wpOpIn
          simp only [ho, hwant]
          cases hr : run i with
          | false => simp only [Bool.false_eq_true, if_false]; exact ⟨fun _ _ => trivial, next undef w' (hE.refl _) (by simp only [hr])⟩
          | true =>
            simp only [if_true]
            unfold Step at hst
            cases hVi : V i with
            | none =>
              simp only [hr, hVi] at hst
              obtain ⟨v, hv⟩ := hst
              refine wpIn_yl (G := fun u w2 => u = v ∧ w2 = w') (by rw [hv w']; exact ⟨rfl, rfl⟩) ?_
              rintro u w2 ⟨hu, hw2⟩; rw [hu, hw2]
              exact next v w' (hE.refl _) (by simp only [hr, hVi]; exact hv)
            | some Vi =>
              simp only [hr, hVi] at hst
              exact wpIn_yl hst fun u w2 hst => next u w2 hst.1 (by simp only [hr, hVi]; exact hst.2)
  have hdr : E w { w with drawn := w.drawn + 1 } := hE.drew w
  refine key ops.size (Array.replicate ops.size false) a _ (by simp) ?_ ha hdr ?_ ?_ ?_ ?_
  · have : ∀ m, m ≤ ops.size → ((List.range m).filter fun i => !(Array.replicate ops.size false).getD i false).length = m := by
      intro m hm
      rw [List.filter_eq_self.2]
      · simp
      · intro i hi
        have : i < ops.size := by have := List.mem_range.1 hi; omega
        simp [this]
    exact this ops.size (Nat.le_refl _)
  · intro i hi
    rcases Nat.lt_or_ge i ops.size with h | h
    · simp [h] at hi
    · simp [h] at hi
  · intro i hi _ _
    simp [hi]
  · intro i hi _
    simp [hi]
  · intro k ok hk hLk
    rcases Nat.lt_or_ge k ops.size with h | h
    · simp [h] at hLk
    · simp [h] at hLk
abbrev VL := List (Nat × (Value → World → Prop))
def vlook : VL → Nat → Option (Value → World → Prop)
  | [], _ => none
  | (k, V) :: r, i => bif Nat.beq k i then some V else vlook r i
def StabAll (E : World → World → Prop) : VL → Prop
  | [] => True
  | (_, V) :: r => (∀ v w1 w2, E w1 w2 → V v w1 → V v w2) ∧ StabAll E r
theorem vlook_stab {E : World → World → Prop} : ∀ {l : VL}, StabAll E l → ∀ i Vi, vlook l i = some Vi → ∀ v w1 w2, E w1 w2 → Vi v w1 → Vi v w2
  | [], _, _, _, h => by simp [vlook] at h
  | (k, V) :: r, hs, i, Vi, h => by
    simp only [vlook] at h
    cases hb : Nat.beq k i with
    | true => simp [hb] at h; subst h; exact hs.1
    | false => simp [hb] at h; exact vlook_stab hs.2 i Vi h
def nrun (l : List Nat) (i : Nat) : Bool := match l with
  | [] => true
  | k :: r => bif Nat.beq k i then false else nrun r i
def RelAll (P : Program) (ops : Array Oper) (off : List Nat) (vs : VL) (e : Operand → Value) (w : World) : List Nat → Prop
  | [] => True
  | k :: r => (match ops.toList[k]? with | some o => Rel P o (nrun off k) (vlook vs k) e w | none => True) ∧ RelAll P ops off vs e w r
theorem RelAll.of {P : Program} {ops : Array Oper} {off : List Nat} {vs : VL} {e : Operand → Value} {w : World} : ∀ {l : List Nat}, (∀ k, k ∈ l → ∀ ok, ops[k]? = some ok → Rel P ok (nrun off k) (vlook vs k) e w) → RelAll P ops off vs e w l
  | [], _ => trivial
  | k :: r, h => ⟨by
      cases ho : ops.toList[k]? with
      | none => trivial
      | some o => exact h k (by simp) o (by simpa using ho), RelAll.of fun j hj => h j (by simp [hj])⟩
def Obl (P : Program) (ops : Array Oper) (n : Slots) (ρ : Env) (w : World) (anc : List (List Nat)) (E : World → World → Prop) (off : List Nat) (vs : VL) (i : Nat) (o : Oper) : Prop :=
  ∀ a w', Sat n ρ a → E w w' → RelAll P ops off vs a.eval w' (anc.getD i []) → Region.wanted o (yielded ops a.tmps) = nrun off i ∧ Step P o (nrun off i) (vlook vs i) E a.eval w'
def OblAll (P : Program) (ops : Array Oper) (n : Slots) (ρ : Env) (w : World) (anc : List (List Nat)) (E : World → World → Prop) (off : List Nat) (vs : VL) : Nat → Nat → List Oper → Prop
  | 0, _, _ => True
  | _ + 1, _, [] => True
  | N + 1, i, o :: l => Obl P ops n ρ w anc E off vs i o ∧ OblAll P ops n ρ w anc E off vs N (i + 1) l
theorem OblAll.get {n : Slots} {ρ : Env} {w : World} {anc : List (List Nat)} {E : World → World → Prop} {off : List Nat} {vs : VL} : ∀ {N k : Nat} {l : List Oper}, OblAll P ops n ρ w anc E off vs N k l → ∀ i o, i < N → l[i]? = some o → Obl P ops n ρ w anc E off vs (k + i) o
  | 0, _, _, _, _, _, h, _ => by omega
  | N + 1, k, [], _, i, o, _, h => by simp at h
  | N + 1, k, x :: l, hA, 0, o, _, h => by simp at h; subst h; exact hA.1
  | N + 1, k, x :: l, hA, i + 1, o, hi, h => by
    have := OblAll.get hA.2 i o (by omega) (by simpa using h)
    rwa [show k + 1 + i = k + (i + 1) by omega] at this
theorem XC.drawL {id : Nat} (N : Nat) (anc : List (List Nat)) (keys : List Nat) (E : World → World → Prop) (hE : Steady E) (off : List Nat) (vs : VL) (all : List Nat) (hm : P.follows .mixedOrders = true) (hB : regB ops N n.size anc keys = true) (hk : keysOf ρ = keys) (hall : List.range N = all) (hV : StabAll E vs)
    (hs : OblAll P ops n ρ w anc E off vs N 0 ops.toList)
    (hf : ∀ a w', Sat n ρ a → E w w' → RelAll P ops off vs a.eval w' all → wpL P n.rnd ops Q (ops.toList.drop N) a w') : XC P (.region id ops true) Q n ρ w := by
  subst hk
  subst hall
  refine XC.draw N anc E hE (nrun off) (vlook vs) hm hB (vlook_stab hV) (fun i o hi ho a w' ha hC hr => ?_) (fun a w' ha hC hr => hf a w' ha hC (RelAll.of fun k hk ok hok => hr k ok (List.mem_range.1 hk) hok))
  have := hs.get i o hi (by simpa using ho)
  rw [Nat.zero_add] at this
  exact this a w' ha hC (RelAll.of hr)
def XD (e : Operand → Value) (ρ : Env) (T : Prop) : Prop := EvSat ρ e → T
theorem XD.start {a : Act} {T : Prop} (ha : Sat n ρ a) (h : XD a.eval ρ T) : T := h ha.sat
theorem EvSat.cons {e : Operand → Value} (h : EvSat ρ e) {d : Nat} {v : Value} (hd : e (.tmp d) = v) : EvSat ((d, v) :: ρ) e := by
  intro x u hx
  cases x with
  | tmp t =>
    simp only [ev, Env.get?] at hx
    by_cases e' : d = t
    · subst e'; simp at hx; subst hx; exact hd
    · have : Nat.beq d t = false := by rw [← Bool.not_eq_true, Nat.beq_eq]; exact e'
      rw [this] at hx
      exact h (.tmp t) u hx
  | const c => exact h (.const c) u hx
  | global g => exact h (.global g) u hx
  | func f => exact h (.func f) u hx
theorem XD.pure {e : Operand → Value} {T : Prop} {d : Nat} {op : Op} {ty : TypeId} {pos : String} {af : Array Edge} {g : Option (Nat × Bool)} {w2 : World} (h : Rel P ⟨some d, op, ty, pos, af, g⟩ true none e w2)
    (hy : OpY P ⟨some d, op, ty, pos, af, g⟩ ρ w2 fun v _ => XD e ((d, v) :: ρ) T) : XD e ρ T := by
  intro he
  have h1 := hy.run e he
  have h2 : (execOp e ⟨some d, op, ty, pos, af, g⟩).run P w2 = .ok (.value (e (.tmp d))) w2 := h w2
  rw [h2] at h1
  exact h1 (he.cons rfl)
theorem XD.imp {e : Operand → Value} {T : Prop} {d : Nat} {op : Op} {ty : TypeId} {pos : String} {af : Array Edge} {g : Option (Nat × Bool)} {w2 : World} {V : Value → World → Prop} (h : Rel P ⟨some d, op, ty, pos, af, g⟩ true (some V) e w2)
    (hk : ∀ v, V v w2 → XD e ((d, v) :: ρ) T) : XD e ρ T := by
  intro he
  exact hk (e (.tmp d)) h (he.cons rfl)
theorem XD.impN {e : Operand → Value} {T : Prop} {op : Op} {ty : TypeId} {pos : String} {af : Array Edge} {g : Option (Nat × Bool)} {w2 : World} {V : Value → World → Prop} (h : Rel P ⟨none, op, ty, pos, af, g⟩ true (some V) e w2)
    (hk : ∀ v, V v w2 → XD e ρ T) : XD e ρ T := by
  intro he
  obtain ⟨v, hv⟩ : ∃ v, V v w2 := h
  exact hk v hv he
theorem XD.skip {e : Operand → Value} {T : Prop} {d : Nat} {op : Op} {ty : TypeId} {pos : String} {af : Array Edge} {g : Option (Nat × Bool)} {w2 : World} {V : Option (Value → World → Prop)} (h : Rel P ⟨some d, op, ty, pos, af, g⟩ false V e w2)
    (hk : XD e ((d, undef) :: ρ) T) : XD e ρ T := fun he => hk (he.cons h)
theorem XD.stepI {e : Operand → Value} {o : Oper} {V : Value → World → Prop} {E : World → World → Prop} {w2 : World} (h : OpY P o ρ w2 fun v w' => E w2 w' ∧ V v w') : XD e ρ (Step P o true (some V) E e w2) := fun he => h.run e he
def valOp : Op → Bool
  | .move _ | .assign _ | .pick .. | .binOp .. | .unOp .. | .convert .. | .extract .. | .fieldAddr .. | .field .. | .makeFunc .. | .indexAddr .. | .index .. | .build .. | .nilCheck _ | .makeInterface .. => true
  | .call ⟨.builtin .len, _, _⟩ | .call ⟨.builtin .min, _, _⟩ | .call ⟨.builtin .max, _, _⟩ => true
  | _ => false
theorem run_bindv {s : Sem Value} {w2 w' : World} {nx : Next} (h : (do let x ← s; (Pure.pure (Next.value x) : Sem Next)).run P w2 = .ok nx w') : ∃ v, nx = .value v := by
  simp only [Sem.run_bind] at h
  cases hs : s.run P w2 with
  | ok x w3 => rw [hs] at h; simp at h; exact ⟨_, h.1.symm⟩
  | halt x w3 => rw [hs] at h; simp at h
theorem valOp_run {e : Operand → Value} {o : Oper} (ho : valOp o.op = true) {w2 w' : World} {nx : Next} (h : (execOp e o).run P w2 = .ok nx w') : ∃ v, nx = .value v := by
  obtain ⟨dst, op, ty, pos, af, g⟩ := o
  cases op <;> simp only [valOp] at ho <;> try (cases ho; done)
  case move x => simp [execOp] at h; exact ⟨_, h.1.symm⟩
  case assign x => simp [execOp] at h; exact ⟨_, h.1.symm⟩
  case pick c a b =>
    simp only [execOp, Sem.run_bind] at h
    cases hs : (asBool (e c)).run P w2 with
    | ok x w3 => rw [hs] at h; simp at h; exact ⟨_, h.1.symm⟩
    | halt x w3 => rw [hs] at h; simp at h
  case binOp => exact run_bindv h
  case unOp => exact run_bindv h
  case convert => exact run_bindv h
  case extract => exact run_bindv h
  case fieldAddr => exact run_bindv h
  case field => exact run_bindv h
  case makeFunc => exact run_bindv h
  case indexAddr => exact run_bindv h
  case index => exact run_bindv h
  case build => exact run_bindv h
  case makeInterface => exact run_bindv h
  case nilCheck x =>
    simp only [execOp] at h
    split at h
    · simp [runtimePanic] at h
    · simp [runtimePanic] at h
    · simp [runtimePanic] at h
    · split at h
      · simp [runtimePanic] at h
      · simp at h
        generalize Sem.run P (nilAhead _ _ _ _) w2 = r at h
        cases r with
        | ok q w3 =>
          simp only [Result.andThen_ok] at h
          split at h
          · simp at h; exact ⟨_, h.1.symm⟩
          · simp at h
        | halt q w3 => simp at h
      · simp at h; exact ⟨_, h.1.symm⟩
    · simp at h; exact ⟨_, h.1.symm⟩
  case call c =>
    obtain ⟨callee, args, ts⟩ := c
    cases callee <;> try (cases ho; done)
    rename_i b
    cases b <;> try (cases ho; done)
    all_goals
      simp only [execOp, resolve, pure_bind, invoke, builtin] at h
      exact run_bindv h
theorem XD.stepP {e : Operand → Value} {o : Oper} {E : World → World → Prop} {w2 : World} {c : Value} (ho : valOp o.op = true) (h : ∀ w3, OpY P o ρ w3 fun v w' => v = c ∧ w' = w3) : XD e ρ (Step P o true none E e w2) := fun he => ⟨c, fun w3 => by
  have := (h w3).run e he
  revert this
  generalize hr : (execOp e o).run P w3 = r
  intro this
  cases r with
  | ok nx w' =>
    obtain ⟨v, rfl⟩ := valOp_run ho hr
    simp only [Yl] at this
    rw [this.1, this.2]
  | halt x w' => simp [Yl] at this⟩
theorem XD.fin {a : Act} {Q : Exit → Act → World → Prop} {tail : List Oper} {ρ0 : Env} {w2 : World} (ha : Sat n ρ0 a) (h : XL P ops Q n tail ρ w2) : XD a.eval ρ (wpL P n.rnd ops Q tail a w2) := fun he => h.run a ⟨ha.size, ha.defers, he⟩
theorem XD.wantT {a : Act} {o : Oper} {j t : Nat} {want b : Bool} {T : Prop} (hg : o.guard = some (j, want)) (ht : (ops[j]?).bind (·.dst) = some t) (hb : ρ.get? t = some (.bool b)) (hw : b = want) (h : XD a.eval ρ T) : XD a.eval ρ (Region.wanted o (yielded ops a.tmps) = true ∧ T) := fun he =>
  ⟨by simp only [Region.wanted, hg, yielded_eq he ht hb, hw, BEq.rfl], h he⟩
theorem XD.wantF {a : Act} {o : Oper} {j t : Nat} {want b : Bool} {E : World → World → Prop} {V : Option (Value → World → Prop)} {w2 : World} (hg : o.guard = some (j, want)) (ht : (ops[j]?).bind (·.dst) = some t) (hb : ρ.get? t = some (.bool b)) (hw : b = !want) : XD a.eval ρ (Region.wanted o (yielded ops a.tmps) = false ∧ Step P o false V E a.eval w2) := fun he =>
  ⟨by simp only [Region.wanted, hg, yielded_eq he ht hb, hw]; cases want <;> rfl, trivial⟩
end
theorem XD.of {e : Operand → Value} {ρ : Env} {T : Prop} (h : EvSat ρ e → T) : XD e ρ T := h
theorem XD.run {e : Operand → Value} {ρ : Env} {T : Prop} (h : XD e ρ T) : EvSat ρ e → T := h
attribute [irreducible] XD
end Go.Proofs.YtchammpamigonaaGreatX
end
section
namespace Go.Proofs.YtchammpamigonaaGreatX
open Go
abbrev Bs (S : Nat → Prop) (w : World) (v : Value) (l : List UInt8) : Prop := Row S w v l.length (bytesV l)
abbrev NewB (T : TypeId) (w0 w : World) (v : Value) (l : List UInt8) : Prop := New w0 w T 1 v l.length (bytesV l)
theorem New.bs {T : TypeId} {w0 w : World} {v : Value} {l : List UInt8} (h : NewB T w0 w v l) : Bs (Since w0) w v l := h.row
theorem New.cast {w0 w : World} {T : TypeId} {sz : Nat} {v : Value} {n n' : Nat} {xs xs' : List Value} (h : New w0 w T sz v n xs) (hn : n = n') (hx : xs = xs') : New w0 w T sz v n' xs' := by subst hn; subst hx; exact h
theorem Row.cast {S : Nat → Prop} {w : World} {v : Value} {n n' : Nat} {xs xs' : List Value} (h : Row S w v n xs) (hn : n = n') (hx : xs = xs') : Row S w v n' xs' := by subst hn; subst hx; exact h
theorem Row.oneC {S : Nat → Prop} {w : World} {v : Value} {n : Nat} {xs : List Value} (h : Row S w v n xs) : v.oneCell' = true := by obtain ⟨a, cap, rfl⟩ := h.val; rfl
theorem Chg.cell {w w' : World} (h : Ext w w') {a : Addr} {v : Value} (hc : w.cell? a = some v) : w'.cell? a = some v :=
  (World.cell?_of_block (h.blk a.block (World.block_lt_of_cell? w a hc) (fun h => h))).trans hc
section
variable {P : Program} {ρ : Env} {w : World} {G : Value → World → Prop} {d : Option Nat} {ty : TypeId} {pos : String} {af : Array Edge} {g : Option (Nat × Bool)}
theorem Y.sliceToB {x y : Operand} {t e : TypeId} {bytes : Nat} {z : Value} {v q : Value} {S : Nat → Prop} {l : List UInt8} {k : Nat} (ht : SliceT P t e 1 bytes z) (hx : ev ρ x = some v) (hr : Bs S w v l) (hy : ev ρ y = some q) (hb : bnd 0 (some q) = some k) (hk : k ≤ l.length)
    (h : ∀ v', Bs S w v' (l.take k) → G v' w) : OpY P ⟨d, .slice t x none (some y) none, ty, pos, af, g⟩ ρ w G :=
  Y.slice ht hx hr (by simp [bytesV]) (lv := none) (hv := some q) rfl (by simp [optEv, hy]) rfl (by rw [← hb]; cases q <;> rfl) ⟨Nat.zero_le _, hk⟩ fun v' hv' => h v' (hv'.cast (by simp; omega) (by simp [bytesV, List.map_take]))
theorem Y.sliceFromB {x y : Operand} {t e : TypeId} {bytes : Nat} {z : Value} {v q : Value} {S : Nat → Prop} {l : List UInt8} {k : Nat} (ht : SliceT P t e 1 bytes z) (hx : ev ρ x = some v) (hr : Bs S w v l) (hy : ev ρ y = some q) (hb : bnd 0 (some q) = some k) (hk : k ≤ l.length)
    (h : ∀ v', Bs S w v' (l.drop k) → G v' w) : OpY P ⟨d, .slice t x (some y) none none, ty, pos, af, g⟩ ρ w G :=
  Y.slice ht hx hr (by simp [bytesV]) (lv := some q) (hv := none) (by simp [optEv, hy]) rfl hb rfl ⟨hk, Nat.le_refl _⟩ fun v' hv' => h v' (hv'.cast (by simp) (by rw [Nat.mul_one, Nat.mul_one, List.take_of_length_le (by simp [bytesV])]; simp [bytesV, List.map_drop]))
theorem Y.sliceMidB {x y y' : Operand} {t e : TypeId} {bytes : Nat} {z : Value} {v q q' : Value} {S : Nat → Prop} {l : List UInt8} {j k : Nat} (ht : SliceT P t e 1 bytes z) (hx : ev ρ x = some v) (hr : Bs S w v l) (hy : ev ρ y = some q) (hy' : ev ρ y' = some q') (hb : bnd 0 (some q) = some j) (hb' : bnd 0 (some q') = some k) (hk : j ≤ k ∧ k ≤ l.length)
    (h : ∀ v', Bs S w v' ((l.drop j).take (k - j)) → G v' w) : OpY P ⟨d, .slice t x (some y) (some y') none, ty, pos, af, g⟩ ρ w G :=
  Y.slice ht hx hr (by simp [bytesV]) (lv := some q) (hv := some q') (by simp [optEv, hy]) (by simp [optEv, hy']) hb (by rw [← hb']; cases q' <;> rfl) hk fun v' hv' => h v' (hv'.cast (by simp; omega) (by simp [bytesV, List.map_drop, List.map_take]))
theorem Y.slice3B {x y y' : Operand} {t e : TypeId} {bytes : Nat} {z : Value} {v : Value} {S : Nat → Prop} {l : List UInt8} {kk : IntKind} {i : Int} {k : Nat} (ht : SliceT P t e 1 bytes z) (hx : ev ρ x = some v) (hr : Bs S w v l) (hy : ev ρ y = some (.int kk i)) (hy' : ev ρ y' = some (.int kk i)) (hb : bnd 0 (some (.int kk i)) = some k) (hk : k ≤ l.length)
    (h : ∀ v', Bs S w v' (l.take k) → G v' w) : OpY P ⟨d, .slice t x none (some y) (some y'), ty, pos, af, g⟩ ρ w G := by
  obtain ⟨ii, hinf, hsz, _, _⟩ := ht.get
  obtain ⟨a, cap, rfl, hc, hp⟩ := hr.part (sz := 1) (lo := 0) (hi := k) (by simp [bytesV]) (Nat.zero_le _) hk
  have hP := hp k (Nat.le_refl _) (by omega)
  refine OpY.val (v := .slice (if k = 0 then a else a.map (·.add (0 * 1))) (k - 0) (k - 0)) (w' := w) (fun e he => ?_) (h _ (hP.cast (by simp; omega) (by simp [bytesV, List.map_take])))
  have hq := fun c (j : Nat) (hj : k ≤ j) => run_sliceBound (P := P) (w := w) (c := c) hb hj
  simp only [execOp]
  rw [he x _ hx]
  simp only [Option.map_some, Option.map_none, he y _ hy, he y' _ hy']
  simp [Instr.sliceAt, run_underlying ht.und, Instr.slice, Instr.sliceBounds, Go.sizeOf, typeInfo, hinf, hsz, hq _ cap (by omega), hq _ k (Nat.le_refl _)]
theorem Y.sliceNil {x y : Operand} {t e : TypeId} {sz bytes : Nat} {z : Value} {k : IntKind} (ht : SliceT P t e sz bytes z) (hx : ev ρ x = some (.slice none 0 0)) (hy : ev ρ y = some (.int k 0)) (h : G (.slice none 0 0) w) : OpY P ⟨d, .slice t x none (some y) none, ty, pos, af, g⟩ ρ w G := by
  obtain ⟨ii, hinf, hsz, _, _⟩ := ht.get
  refine OpY.val (v := .slice none 0 0) (w' := w) (fun e he => ?_) h
  simp only [execOp]
  rw [he x _ hx]
  simp [he y _ hy, Instr.sliceAt, run_underlying ht.und, Instr.slice, Instr.sliceBounds, Instr.sliceBound, asIntOf, Go.sizeOf, typeInfo, hinf]
end
def numB (n : Nat) : List UInt8 := [UInt8.ofNat (n / 16777216), UInt8.ofNat (n / 65536), UInt8.ofNat (n / 256), UInt8.ofNat n]
theorem numB_length (n : Nat) : (numB n).length = 4 := rfl
def textB (l : List UInt8) : List UInt8 := numB l.length ++ l
theorem textB_length (l : List UInt8) : (textB l).length = 4 + l.length := by simp [textB, numB_length]
theorem fdiv_nat (n k : Nat) : ((n : Int).fdiv (2 ^ k)) = ((n / 2 ^ k : Nat) : Int) := by
  have : ((2 : Int) ^ k) = ((2 ^ k : Nat) : Int) := by simp
  rw [this, Int.ofNat_fdiv]
theorem byte_of (n : Nat) : IntKind.u8.wrap (n : Int) = ((UInt8.ofNat n).toNat : Int) := by
  rw [wrapU8m]
  simp
def numOf (l : List UInt8) : Nat := l.foldl (fun a b => a * 256 + b.toNat) 0
theorem numOf_snoc (l : List UInt8) (b : UInt8) : numOf (l ++ [b]) = numOf l * 256 + b.toNat := by simp [numOf]
theorem numOf_lt (l : List UInt8) : numOf l < 256 ^ l.length := by
  have key : ∀ (l : List UInt8) (a k : Nat), a < 256 ^ k → l.foldl (fun a b => a * 256 + b.toNat) a < 256 ^ (k + l.length) := by
    intro l
    induction l with
    | nil => intro a k h; simpa using h
    | cons b l ih =>
      intro a k h
      have := b.toNat_lt
      have h2 := ih (a * 256 + b.toNat) (k + 1) (by rw [Nat.pow_succ]; omega)
      simpa [Nat.add_assoc, Nat.add_comm 1] using h2
  simpa [numOf] using key l 0 0 (by simp)
theorem take_succ_getD (l : List UInt8) (k : Nat) (h : k < l.length) : l.take (k + 1) = l.take k ++ [l[k]] := by
  rw [List.take_succ_eq_append_getElem h]
theorem or_byte (a : Nat) (b : UInt8) (h : a < 2 ^ 32) : IntKind.i64.wrap ((BitVec.ofInt 64 ((a * 256 : Nat) : Int) ||| BitVec.ofInt 64 (b.toNat : Int)).toNat : Int) = ((a * 256 + b.toNat : Nat) : Int) := by
  have hb := b.toNat_lt
  have e1 : BitVec.ofInt 64 ((a * 256 : Nat) : Int) = BitVec.ofNat 64 (a * 256) := BitVec.ofInt_natCast _ _
  have e2 : BitVec.ofInt 64 ((b.toNat : Nat) : Int) = BitVec.ofNat 64 b.toNat := BitVec.ofInt_natCast _ _
  rw [e1, e2]
  have e3 : (BitVec.ofNat 64 (a * 256) ||| BitVec.ofNat 64 b.toNat).toNat = a * 256 + b.toNat := by
    rw [BitVec.toNat_or, BitVec.toNat_ofNat, BitVec.toNat_ofNat, Nat.mod_eq_of_lt (by omega), Nat.mod_eq_of_lt (by omega)]
    have := Nat.two_pow_add_eq_or_of_lt (i := 8) (b := b.toNat) (by omega) a
    rw [Nat.mul_comm a 256]
    exact this.symm
  rw [e3]
  exact wrap64 (by omega) (by omega)
theorem bytesV_get (l : List UInt8) (k : Nat) (h : k < l.length) : (bytesV l)[k]? = some (.int .u8 (l[k].toNat : Int)) := by simp [bytesV, byteV, h]
theorem bytesV_append (l m : List UInt8) : bytesV (l ++ m) = bytesV l ++ bytesV m := by simp [bytesV]
theorem Row.nilN {S : Nat → Prop} {w : World} {n cap : Nat} {xs : List Value} (h : Row S w (.slice none n cap) n xs) : xs = [] := by
  obtain ⟨a, c, hv, _, _, _, _, h5⟩ := h
  cases hv
  apply Classical.byContradiction
  intro hx
  obtain ⟨b, o, cur, T, fr, ha, _⟩ := h5 hx
  cases ha
end Go.Proofs.YtchammpamigonaaGreatX
end
section
namespace Go.Proofs.YtchammpamigonaaGreatX
open Go
def RowsAll (S : Nat → Prop) (w : World) : List Value → List (List UInt8) → Prop
  | [], [] => True
  | u :: us, l :: ls => Bs S w u l ∧ RowsAll S w us ls
  | _, _ => False
def Rows (S : Nat → Prop) (w : World) (v : Value) (m : List (List UInt8)) : Prop := ∃ vs, Row S w v m.length vs ∧ RowsAll S w vs m
theorem RowsAll.len {S : Nat → Prop} {w : World} : ∀ {vs : List Value} {m : List (List UInt8)}, RowsAll S w vs m → vs.length = m.length
  | [], [], _ => rfl
  | _ :: _, _ :: _, h => by simp [RowsAll.len h.2]
  | [], _ :: _, h => h.elim
  | _ :: _, [], h => h.elim
theorem RowsAll.get {S : Nat → Prop} {w : World} : ∀ {vs : List Value} {m : List (List UInt8)}, RowsAll S w vs m → ∀ {i : Nat} {l : List UInt8}, m[i]? = some l → ∃ u, vs[i]? = some u ∧ Bs S w u l
  | [], [], _, i, l, h => by simp at h
  | u :: us, l :: ls, h, 0, l', h' => by simp at h'; subst h'; exact ⟨u, rfl, h.1⟩
  | u :: us, l :: ls, h, i + 1, l', h' => by simpa using RowsAll.get h.2 (i := i) (by simpa using h')
  | [], _ :: _, h, _, _, _ => h.elim
  | _ :: _, [], h, _, _, _ => h.elim
theorem RowsAll.imp {S S' : Nat → Prop} {w w' : World} (hi : ∀ u l, Bs S w u l → Bs S' w' u l) : ∀ {vs : List Value} {m : List (List UInt8)}, RowsAll S w vs m → RowsAll S' w' vs m
  | [], [], _ => trivial
  | _ :: _, _ :: _, h => ⟨hi _ _ h.1, RowsAll.imp hi h.2⟩
  | [], _ :: _, h => h.elim
  | _ :: _, [], h => h.elim
theorem RowsAll.ext {S : Nat → Prop} {w w' : World} {vs : List Value} {m : List (List UInt8)} (h : RowsAll S w vs m) (hE : Ext w w') : RowsAll S w' vs m := h.imp fun _ _ h => h.ext hE
theorem RowsAll.append {S : Nat → Prop} {w : World} {us : List Value} {m' : List (List UInt8)} (h' : RowsAll S w us m') : ∀ {vs : List Value} {m : List (List UInt8)}, RowsAll S w vs m → RowsAll S w (vs ++ us) (m ++ m')
  | [], [], _ => h'
  | _ :: _, _ :: _, h => ⟨h.1, RowsAll.append h' h.2⟩
  | [], _ :: _, h => h.elim
  | _ :: _, [], h => h.elim
theorem RowsAll.set {S : Nat → Prop} {w : World} {u : Value} {l : List UInt8} (hb : Bs S w u l) : ∀ {vs : List Value} {m : List (List UInt8)} {i : Nat}, RowsAll S w vs m → RowsAll S w (vs.set i u) (m.set i l)
  | [], [], _, _ => trivial
  | _ :: _, _ :: _, 0, h => ⟨hb, h.2⟩
  | _ :: _, _ :: _, i + 1, h => ⟨h.1, RowsAll.set hb h.2⟩
  | [], _ :: _, _, h => h.elim
  | _ :: _, [], _, h => h.elim
theorem Rows.ext {S : Nat → Prop} {w w' : World} {v : Value} {m : List (List UInt8)} (h : Rows S w v m) (hE : Ext w w') : Rows S w' v m := let ⟨vs, h1, h2⟩ := h; ⟨vs, h1.ext hE, h2.ext hE⟩
theorem Rows.mono {S S' : Nat → Prop} {w : World} {v : Value} {m : List (List UInt8)} (h : Rows S w v m) (hs : ∀ b, b < w.heap.size → S b → S' b) : Rows S' w v m := let ⟨vs, h1, h2⟩ := h; ⟨vs, h1.mono hs, h2.imp fun _ _ h => h.mono hs⟩
theorem Rows.chg {S R : Nat → Prop} {w w' : World} {v : Value} {m : List (List UInt8)} (h : Rows R w v m) (hC : Chg S w w') (hd : ∀ b, b < w.heap.size → R b → ¬ S b) : Rows R w' v m := let ⟨vs, h1, h2⟩ := h; ⟨vs, h1.chg hC hd, h2.imp fun _ _ h => h.chg hC hd⟩
def w32 (x : BitVec 32) : Value := .int .u32 (x.toNat : Int)
theorem ofInt32 (x : BitVec 32) : BitVec.ofInt 32 (x.toNat : Int) = x := by rw [BitVec.ofInt_natCast]; simp
theorem wrap_w32 (x : BitVec 32) : IntKind.u32.wrap (x.toNat : Int) = (x.toNat : Int) := wrapU32 (by omega) (by have := x.isLt; omega)
theorem xor32 (x y : BitVec 32) : IntKind.u32.wrap ((BitVec.ofInt IntKind.u32.bits (x.toNat : Int) ^^^ BitVec.ofInt IntKind.u32.bits (y.toNat : Int)).toNat : Int) = ((x ^^^ y).toNat : Int) := by
  show IntKind.u32.wrap ((BitVec.ofInt 32 (x.toNat : Int) ^^^ BitVec.ofInt 32 (y.toNat : Int)).toNat : Int) = _
  rw [ofInt32, ofInt32, wrap_w32]
theorem and32 (x y : BitVec 32) : IntKind.u32.wrap ((BitVec.ofInt IntKind.u32.bits (x.toNat : Int) &&& BitVec.ofInt IntKind.u32.bits (y.toNat : Int)).toNat : Int) = ((x &&& y).toNat : Int) := by
  show IntKind.u32.wrap ((BitVec.ofInt 32 (x.toNat : Int) &&& BitVec.ofInt 32 (y.toNat : Int)).toNat : Int) = _
  rw [ofInt32, ofInt32, wrap_w32]
theorem shr32 (x : BitVec 32) : (x.toNat : Int).fdiv (2 ^ 1) = ((x >>> 1).toNat : Int) := by
  rw [fdiv_nat]; simp [BitVec.toNat_ushiftRight, Nat.shiftRight_eq_div_pow]
theorem byte32 (b : UInt8) : IntKind.u32.wrap (b.toNat : Int) = ((BitVec.ofNat 32 b.toNat).toNat : Int) := by
  have := b.toNat_lt
  rw [wrapU32 (by omega) (by omega)]
  simp
theorem odd32 (x : BitVec 32) : x &&& 1 = 1 ↔ ((x &&& 1).toNat : Int) = 1 := by
  constructor
  · intro h; rw [h]; rfl
  · intro h
    have h' : (x &&& 1).toNat = 1 := by omega
    exact BitVec.eq_of_toNat_eq h'
def bitC (x : BitVec 32) : BitVec 32 := if x &&& 1 = 1 then (x >>> 1) ^^^ 2197175160 else x >>> 1
def bitsC : Nat → BitVec 32 → BitVec 32
  | 0, x => x
  | n + 1, x => bitC (bitsC n x)
def byteC (x : BitVec 32) (b : UInt8) : BitVec 32 := bitsC 8 (x ^^^ BitVec.ofNat 32 b.toNat)
def runC (x : BitVec 32) (l : List UInt8) : BitVec 32 := l.foldl byteC x
def crc (l : List UInt8) : BitVec 32 := runC 4294967295 l ^^^ 4294967295
theorem runC_snoc (x : BitVec 32) (l : List UInt8) (b : UInt8) : runC x (l ++ [b]) = byteC (runC x l) b := by simp [runC]
def sumB (l : List UInt8) : List UInt8 := numB (crc l).toNat
theorem sumB_length (l : List UInt8) : (sumB l).length = 4 := rfl
def frameB (r : List UInt8) : List UInt8 := numB r.length ++ sumB (numB r.length) ++ sumB r ++ r
theorem frameB_length (r : List UInt8) : (frameB r).length = 12 + r.length := by simp [frameB, numB_length, sumB_length]; omega
def headOK (l : List UInt8) : Bool := decide (l.take 12 = l.take 4 ++ sumB (l.take 4) ++ sumB ((l.drop 12).take (numOf (l.take 4))))
def cutF (l : List UInt8) : Option (List UInt8 × List UInt8) :=
  if l.length < 12 then none else
  if 65535 < numOf (l.take 4) then none else
  if (l.drop 12).length < numOf (l.take 4) then none else
  if headOK l then some ((l.drop 12).take (numOf (l.take 4)), (l.drop 12).drop (numOf (l.take 4))) else none
theorem flatten_take_succ (m : List (List UInt8)) (k : Nat) (h : k < m.length) : (m.take (k + 1)).flatten = (m.take k).flatten ++ m[k] := by
  rw [List.take_succ_eq_append_getElem h, List.flatten_append]; simp
theorem flatten_take_le (m : List (List UInt8)) (k : Nat) : (m.take k).flatten.length ≤ m.flatten.length := by
  have : m.flatten = (m.take k).flatten ++ (m.drop k).flatten := by rw [← List.flatten_append, List.take_append_drop]
  rw [this]; simp
end Go.Proofs.YtchammpamigonaaGreatX
end
section
namespace Go.Proofs.YtchammpamigonaaGreatX
open Go Go.RowKit
def ArrT (P : Program) (t : TypeId) (n : Nat) (e : TypeId) (sz : Nat) : Prop := P.underlying t = some (.array n e) ∧ (P.info? e).map (·.size) = some sz
section
variable {P : Program} {ρ : Env} {w : World} {G : Value → World → Prop} {d : Option Nat} {ty : TypeId} {pos : String} {af : Array Edge} {g : Option (Nat × Bool)}
theorem Y.indexArr {x y : Operand} {t e : TypeId} {n sz b o : Nat} {k : IntKind} {i : Int} (ht : ArrT P t n e sz) (hx : ev ρ x = some (.pointer (some ⟨b, o, none⟩))) (hy : ev ρ y = some (.int k i)) (hi : 0 ≤ i ∧ i < n) (h : G (.pointer (some ⟨b, o + i.toNat * sz, none⟩)) w) :
    OpY P ⟨d, .indexAddr t x y, ty, pos, af, g⟩ ρ w G :=
  OpY.val (fun ee he => by
    obtain ⟨h1, h2⟩ := ht
    cases hi' : P.info? e with
    | none => simp [hi'] at h2
    | some ii =>
      simp [hi'] at h2
      simp only [execOp]; rw [he x _ hx, he y _ hy]
      simp [Instr.indexAt, asIntOf, run_underlying h1, Instr.sureAddr, hi.1, hi.2, Go.sizeOf, typeInfo, hi', h2, Addr.add_lit]) h
theorem Y.storeB {x y : Operand} {t T : TypeId} {u : Value} {b o : Nat} {cur : Array Value} {fr : Nat × Nat} (ht : OneT P t) (hx : ev ρ x = some (.pointer (some ⟨b, o, none⟩))) (hy : ev ρ y = some u) (hu : u.oneCell' = true)
    (hb : w.heap[b]? = some (.cells cur T fr)) (ho : o < cur.size) (hf : nofr cur.size fr) (h : ∀ w', w'.heap[b]? = some (.cells (cur.setIfInBounds o u) T fr) → Chg (· = b) w w' → w'.heap.size = w.heap.size → w' = w.setCell ⟨b, o, none⟩ u → G undef w') :
    OpY P ⟨d, .store t x y, ty, pos, af, g⟩ ρ w G := by
  have hset := setCell_eq_setRow w b o cur T fr u hb
  refine OpY.un (w' := w.setCell ⟨b, o, none⟩ u) (fun ee he => ?_) (h _ (by rw [hset]; exact setRow_heap w b cur _ T fr hb) (by rw [hset]; exact Chg.setRow w b _ rfl) (by simp [World.setCell]) rfl)
  have hcell : u.cells = #[u] := by cases u <;> first | rfl | simp [Value.oneCell'] at hu
  have hc : w.cell? ⟨b, o, none⟩ = some cur[o] := by rw [cell_of_row w b o cur T fr hb]; simp [ho]
  have hfz : w.frozen? ⟨b, o, none⟩ = false := by
    have := hf o ho
    simp only [World.frozen?, hb]
    rw [Bool.eq_false_iff]
    intro h
    simp at h
    exact this h
  have hst := run_store P w ⟨b, o, none⟩ u .plain hu
  rw [hc] at hst
  simp only [hfz] at hst
  simp only [execOp]; rw [he x _ hx, he y _ hy]
  have hadd : (⟨b, o, none⟩ : Addr).add 0 = ⟨b, o, none⟩ := rfl
  simp [Instr.storeAt, Instr.sureAddr, storeVar, ht.sizeOf, hcell, storeCells, hadd, hst]
def evPs (ρ : Env) : List (Nat × Operand) → Option (List (Nat × Value))
  | [] => some []
  | (i, x) :: r => match ev ρ x, evPs ρ r with | some v, some l => some ((i, v) :: l) | _, _ => none
theorem evPs_map {e : Operand → Value} (he : EvSat ρ e) : ∀ {ps : List (Nat × Operand)} {vs : List (Nat × Value)}, evPs ρ ps = some vs → ps.map (fun (i, x) => (i, e x)) = vs
  | [], vs, h => by simp [evPs] at h; simp [h]
  | (i, x) :: r, vs, h => by
    simp only [evPs] at h
    split at h
    · rename_i v l hv hl
      cases h
      have := evPs_map he hl
      simp only [List.map_cons, he x v hv, this]
    · cases h
theorem Y.build {t : TypeId} {parts : List (Nat × Operand)} {ps : List (Nat × Value)} {v : Value} (hp : evPs ρ parts = some ps) (hrun : ∀ w, (Instr.build t ps.toArray).run P w = .ok v w) (h : G v w) : OpY P ⟨d, .build t parts.toArray, ty, pos, af, g⟩ ρ w G :=
  OpY.val (fun ee he => by
    have := evPs_map he hp
    simp only [execOp, List.map_toArray]
    rw [this]
    simp [hrun]) h
def TwoE (b : Nat) (o0 o1 : Obj) (w w' : World) : Prop := Chg (· = b) w w' ∧ (w.heap[b]? = some o0 → w'.heap[b]? = some o0 ∨ w'.heap[b]? = some o1) ∧ (w.heap[b]? = some o1 → w'.heap[b]? = some o1)
theorem TwoE.steady (b : Nat) (o0 o1 : Obj) : Steady (TwoE b o0 o1) := ⟨fun w => ⟨Chg.refl _ _, .inl, id⟩,
  fun _ _ _ h k => ⟨h.1.trans k.1 (fun _ h => h) (fun _ _ h => h), fun h0 => (h.2.1 h0).elim (fun h => k.2.1 h) (fun h => .inr (k.2.2 h)), fun h1 => k.2.2 (h.2.2 h1)⟩,
  fun w => ⟨Ext.chg (Ext.drew w), .inl, id⟩⟩
theorem Y.storeTwo {x y : Operand} {t T : TypeId} {u : Value} {b o : Nat} {cur : Array Value} {fr : Nat × Nat} (ht : OneT P t) (hx : ev ρ x = some (.pointer (some ⟨b, o, none⟩))) (hy : ev ρ y = some u) (hu : u.oneCell' = true)
    (hb : w.heap[b]? = some (.cells cur T fr) ∨ w.heap[b]? = some (.cells (cur.setIfInBounds o u) T fr)) (ho : o < cur.size) (hf : nofr cur.size fr) :
    OpY P ⟨d, .store t x y, ty, pos, af, g⟩ ρ w fun _ w' => TwoE b (.cells cur T fr) (.cells (cur.setIfInBounds o u) T fr) w w' ∧ w'.heap[b]? = some (.cells (cur.setIfInBounds o u) T fr) := by
  rcases hb with hb | hb
  · exact Y.storeB ht hx hy hu hb ho hf fun w' h1 h2 _ _ => ⟨⟨h2, fun _ => .inr h1, fun _ => h1⟩, h1⟩
  · have e : (cur.setIfInBounds o u).setIfInBounds o u = cur.setIfInBounds o u := by simp
    exact Y.storeB ht hx hy hu hb (by simpa using ho) (by simpa using hf) fun w' h1 h2 _ _ => by rw [e] at h1; exact ⟨⟨h2, fun _ => .inr h1, fun _ => h1⟩, h1⟩
end
end Go.Proofs.YtchammpamigonaaGreatX
end
section
namespace Go.Proofs.YtchammpamigonaaGreatX
open Go Go.RowKit
section
variable {P : Program} {ρ : Env} {w : World} {G : Value → World → Prop} {d : Option Nat} {ty : TypeId} {pos : String} {af : Array Edge} {g : Option (Nat × Bool)}
theorem str_extract (l : List UInt8) (i j : Nat) : ByteArray.extract ⟨l.toArray⟩ i j = ⟨((l.drop i).take (j - i)).toArray⟩ := by
  apply ByteArray.ext
  rw [ByteArray.data_extract]
  simp [List.extract_eq_take_drop]
theorem Y.sliceS {x : Operand} {lo hi : Option Operand} {lv hv : Option Value} {t : TypeId} {l : List UInt8} {i j : Nat} (ht : P.underlying t = some .string) (hx : ev ρ x = some (strV l)) (e1 : optEv ρ lo = some lv) (e2 : optEv ρ hi = some hv) (b1 : bnd 0 lv = some i) (b2 : bnd l.length hv = some j) (hb : i ≤ j ∧ j ≤ l.length)
    (h : G (strV ((l.drop i).take (j - i))) w) : OpY P ⟨d, .slice t x lo hi none, ty, pos, af, g⟩ ρ w G := by
  have hsz : (⟨l.toArray⟩ : ByteArray).size = l.length := by simp [ByteArray.size]
  refine OpY.val (w' := w) (fun e he => ?_) h
  simp only [execOp]
  rw [he x _ hx, optEv_map he e1, optEv_map he e2]
  cases hv with
  | none =>
    simp [bnd] at b2
    subst b2
    cases lv with
    | none => simp [bnd] at b1; subst b1; simp [Instr.sliceAt, strV, run_underlying ht, Instr.slice, Instr.sliceBounds, hsz, str_extract]
    | some u => simp [Instr.sliceAt, strV, run_underlying ht, Instr.slice, Instr.sliceBounds, hsz, run_sliceBound b1 hb.1, str_extract]
  | some q =>
    have b2' : bnd 0 (some q) = some j := by rw [← b2]; cases q <;> rfl
    have hq := fun c => run_sliceBound (P := P) (w := w) (c := c) b2' (show j ≤ l.length by omega)
    cases lv with
    | none => simp [bnd] at b1; subst b1; simp [Instr.sliceAt, strV, run_underlying ht, Instr.slice, Instr.sliceBounds, hsz, hq, str_extract]
    | some u => simp [Instr.sliceAt, strV, run_underlying ht, Instr.slice, Instr.sliceBounds, hsz, hq, run_sliceBound b1 hb.1, str_extract]
theorem Y.min {x y : Operand} {t u : TypeId} {k : IntKind} {a b : Int} (hx : ev ρ x = some (.int k a)) (hy : ev ρ y = some (.int k b)) (h : G (.int k (if b < a then b else a)) w) : OpY P ⟨d, .call ⟨.builtin .min, #[x, y], #[t, u]⟩, ty, pos, af, g⟩ ρ w G :=
  OpY.val (fun e he => by simp only [execOp, resolve, List.map_toArray, List.map_cons, List.map_nil]; rw [he x _ hx, he y _ hy]; simp [invoke, builtin, Builtin.min_, Builtin.min2]) h
theorem Y.max {x y : Operand} {t u : TypeId} {k : IntKind} {a b : Int} (hx : ev ρ x = some (.int k a)) (hy : ev ρ y = some (.int k b)) (h : G (.int k (if b > a then b else a)) w) : OpY P ⟨d, .call ⟨.builtin .max, #[x, y], #[t, u]⟩, ty, pos, af, g⟩ ρ w G :=
  OpY.val (fun e he => by simp only [execOp, resolve, List.map_toArray, List.map_cons, List.map_nil]; rw [he x _ hx, he y _ hy]; simp [invoke, builtin, Builtin.max_, Builtin.max2]) h
end
end Go.Proofs.YtchammpamigonaaGreatX
end
section
namespace Go.Proofs.YtchammpamigonaaGreatX
open Go Go.RowKit
abbrev KV (α : Type) := List (List UInt8 × α)
abbrev KVs := KV Value
def kvOf (p : List UInt8 × Value) : Value × Value := (strV p.1, p.2)
def findIx {α : Type} (k : List UInt8) : KV α → Nat → Option (Nat × α)
  | [], _ => none
  | (k', v) :: r, i => if k = k' then some (i, v) else findIx k r (i + 1)
theorem strV_beq (a b : List UInt8) : ((⟨a.toArray⟩ : ByteArray) == ⟨b.toArray⟩) = decide (a = b) := by
  show (a.toArray == b.toArray) = decide (a = b)
  rw [Bool.eq_iff_iff]
  simp
theorem findNow_str (k : List UInt8) : ∀ (l : List MapEntry) (es : KVs) (i : Nat), l.map (fun e => (e.key, e.val)) = es.map kvOf → Instr.findNow .string (strV k) l i = some (findIx k es i)
  | [], [], i, _ => rfl
  | e :: l, (k', v) :: es, i, h => by
    simp only [List.map_cons, kvOf, List.cons.injEq, Prod.mk.injEq] at h
    obtain ⟨⟨h1, h2⟩, h3⟩ := h
    simp only [Instr.findNow, strV, h1, Instr.sameNow, strV_beq, findIx]
    by_cases hk : k = k'
    · simp [hk, h2]
    · simp only [hk, decide_false, if_false]
      exact findNow_str k l es (i + 1) h3
  | [], _ :: _, _, h => by simp at h
  | _ :: _, [], _, h => by simp at h
structure MapA (arr : Array MapEntry) (clock : Nat) (es : KVs) : Prop where
  kv : arr.toList.map (fun e => (e.key, e.val)) = es.map kvOf
  born : (arr.toList.map (·.born)).Nodup
  lt : ∀ e ∈ arr.toList, e.born < clock
  nd : (es.map (·.1)).Nodup
def MapB (w : World) (r : Nat) (es : KVs) : Prop := ∃ arr clock, HB w r (.map arr clock) ∧ MapA arr clock es
theorem MapB.ext {w w' : World} {r : Nat} {es : KVs} (h : MapB w r es) (hE : Ext w w') : MapB w' r es := let ⟨a, c, h1, h2⟩ := h; ⟨a, c, h1.ext hE, h2⟩
theorem MapB.chg {S : Nat → Prop} {w w' : World} {r : Nat} {es : KVs} (h : MapB w r es) (hC : Chg S w w') (hn : ¬ S r) : MapB w' r es := let ⟨a, c, h1, h2⟩ := h; ⟨a, c, h1.chg hC hn, h2⟩
def lookK {α : Type} (k : List UInt8) (es : KV α) : Option α := (findIx k es 0).map (·.2)
theorem findIx_shift {α : Type} (k : List UInt8) : ∀ (es : KV α) (i : Nat), (findIx k es i).map (·.2) = lookK k es
  | [], _ => rfl
  | (k', v) :: r, i => by
    unfold lookK
    simp only [findIx]
    split
    · rfl
    · rw [findIx_shift k r (i + 1), findIx_shift k r 1]
theorem lookK_nil {α : Type} (k : List UInt8) : lookK k ([] : KV α) = none := rfl
theorem lookK_cons {α : Type} (k k' : List UInt8) (v : α) (es : KV α) : lookK k ((k', v) :: es) = if k = k' then some v else lookK k es := by
  unfold lookK
  simp only [findIx]
  split
  · rfl
  · exact findIx_shift k es 1
section
variable {P : Program} {ρ : Env} {w : World} {G : Value → World → Prop} {d : Option Nat} {ty : TypeId} {pos : String} {af : Array Edge} {g : Option (Nat × Bool)}
theorem run_checkStr (t : TypeId) (ht : P.underlying t = some .string) (b : Bool) (k : List UInt8) : (Instr.checkKey b 10000 t (strV k)).run P w = .ok () w := by
  have key : ∀ n, (Instr.checkKey b (n + 1) t (strV k)).run P w = .ok () w := fun n => by simp [Instr.checkKey, run_underlying ht, strV]
  exact key 9999
theorem run_findStr {t : TypeId} (ht : P.underlying t = some .string) (k : List UInt8) {arr : Array MapEntry} {es : KVs} (h : arr.toList.map (fun e => (e.key, e.val)) = es.map kvOf) : (Instr.findKey t (strV k) arr.toList).run P w = .ok (findIx k es 0) w := by
  simp [Instr.findKey, run_underlying ht, findNow_str k _ es 0 h]
theorem run_getObj' {r : Nat} {arr : Array MapEntry} {clock : Nat} (h : HB w r (.map arr clock)) : (getObj r).run P w = .ok (.map arr clock) w := by
  have h' : w.heap[r]? = some (.map arr clock) := h
  simp [getObj, Sem.run, h']
theorem run_setObj' {r : Nat} {arr : Array MapEntry} {clock : Nat} (o : Obj) (h : HB w r (.map arr clock)) : (setObj r o).run P w = .ok () { w with heap := w.heap.setIfInBounds r o } := by
  have h' : w.heap[r]? = some (.map arr clock) := h
  simp [setObj, Sem.run, h']
theorem chg_setBlock {r : Nat} {o o' : Obj} (h : HB w r o') : Chg (· = r) w { w with heap := w.heap.setIfInBounds r o } ∧ HB { w with heap := w.heap.setIfInBounds r o } r o ∧ ({ w with heap := w.heap.setIfInBounds r o } : World).heap.size = w.heap.size := by
  have hlt := h.lt
  refine ⟨⟨rfl, rfl, rfl, by simp, fun b _ hn => ?_⟩, ?_, by simp⟩
  · have hn' : ¬ r = b := fun e => hn e.symm
    simp [Array.getElem?_setIfInBounds_ne hn']
  · simp [HB, hlt]
def MapT (P : Program) (t kt et : TypeId) (z : Value) : Prop := P.underlying t = some (.map kt et) ∧ P.underlying kt = some .string ∧ (P.info? et).map (·.zero) = some (some z)
theorem Y.lookup {x y : Operand} {t kt et : TypeId} {z : Value} {r : Nat} {k : List UInt8} {es : KVs} (ht : MapT P t kt et z) (hx : ev ρ x = some (.map (some r))) (hy : ev ρ y = some (strV k)) (hm : MapB w r es) (h : G ((lookK k es).getD z) w) :
    OpY P ⟨d, .lookup t x y false, ty, pos, af, g⟩ ρ w G := by
  obtain ⟨h1, h2, h3⟩ := ht
  obtain ⟨arr, clock, hb, hA⟩ := hm
  refine OpY.val (w' := w) (fun e he => ?_) h
  cases hi : P.info? et with
  | none => simp [hi] at h3
  | some ii =>
    simp [hi] at h3
    simp only [execOp]; rw [he x _ hx, he y _ hy]
    cases hf : findIx k es 0 with
    | none => simp [Instr.lookup, run_underlying h1, run_getObj' hb, run_checkStr kt h2, run_findStr h2 k hA.kv, hf, zeroValue, typeInfo, hi, h3, lookK]
    | some q => simp [Instr.lookup, run_underlying h1, run_getObj' hb, run_checkStr kt h2, run_findStr h2 k hA.kv, hf, lookK]
def upK {α : Type} (k : List UInt8) (v : α) : KV α → KV α
  | [] => [(k, v)]
  | (k', v') :: r => if k = k' then (k, v) :: r else (k', v') :: upK k v r
def delK {α : Type} (k : List UInt8) : KV α → KV α
  | [] => []
  | (k', v') :: r => if k = k' then r else (k', v') :: delK k r
theorem lookK_upK {α : Type} (k k' : List UInt8) (v : α) : ∀ es : KV α, lookK k' (upK k v es) = if k' = k then some v else lookK k' es
  | [] => by simp [upK, lookK_cons, lookK_nil]
  | (k2, v2) :: r => by
    simp only [upK]
    split
    · rename_i h
      subst h
      simp only [lookK_cons]
      split <;> rfl
    · rename_i h
      simp only [lookK_cons, lookK_upK k k' v r]
      by_cases h1 : k' = k2
      · rw [if_pos h1, if_neg (fun e => h (e.symm.trans h1)), if_pos h1]
      · rw [if_neg h1, if_neg h1]
theorem keys_upK {α : Type} (k : List UInt8) (v : α) : ∀ es : KV α, (upK k v es).map (·.1) = if k ∈ es.map (·.1) then es.map (·.1) else es.map (·.1) ++ [k]
  | [] => by simp [upK]
  | (k2, v2) :: r => by
    simp only [upK]
    split
    · rename_i h; subst h; simp
    · rename_i h
      simp only [List.map_cons, keys_upK k v r, List.mem_cons, h, false_or]
      split <;> simp
theorem keys_delK {α : Type} (k : List UInt8) : ∀ es : KV α, (es.map (·.1)).Nodup → (delK k es).map (·.1) = (es.map (·.1)).filter (fun x => decide (x ≠ k))
  | [], _ => rfl
  | (k2, v2) :: r, h => by
    simp only [List.map_cons, List.nodup_cons] at h
    simp only [delK]
    split
    · rename_i e
      subst e
      simp only [List.map_cons, List.filter_cons]
      rw [if_neg (by simp)]
      refine (List.filter_eq_self.2 fun a ha => ?_).symm
      simp only [decide_eq_true_eq]
      rintro rfl
      exact h.1 ha
    · rename_i e
      simp only [List.map_cons, List.filter_cons, keys_delK k r h.2]
      rw [if_pos (by simpa using fun e' => e e'.symm)]
theorem lookK_none {α : Type} {k : List UInt8} : ∀ {es : KV α}, k ∉ es.map (·.1) → lookK k es = none
  | [], _ => rfl
  | (k2, v2) :: r, h => by
    simp only [List.map_cons, List.mem_cons, not_or] at h
    rw [lookK_cons, if_neg h.1, lookK_none h.2]
theorem lookK_delK {α : Type} (k k' : List UInt8) : ∀ es : KV α, (es.map (·.1)).Nodup → lookK k' (delK k es) = if k' = k then none else lookK k' es
  | [], _ => by simp [delK, lookK_nil]
  | (k2, v2) :: r, h => by
    simp only [List.map_cons, List.nodup_cons] at h
    simp only [delK]
    split
    · rename_i e
      subst e
      simp only [lookK_cons]
      by_cases h1 : k' = k
      · subst h1; simp [lookK_none h.1]
      · simp [h1]
    · rename_i e
      simp only [lookK_cons, lookK_delK k k' r h.2]
      by_cases h1 : k' = k2
      · rw [if_pos h1, if_neg (fun e' => e (e'.symm.trans h1)), if_pos h1]
      · rw [if_neg h1, if_neg h1]
theorem findIx_some (k : List UInt8) (v : Value) : ∀ (es : KVs) (i0 i : Nat) (v0 : Value), findIx k es i0 = some (i, v0) → i0 ≤ i ∧ i - i0 < es.length ∧ upK k v es = es.set (i - i0) (k, v) ∧ delK k es = es.eraseIdx (i - i0)
  | [], _, _, _, h => by simp [findIx] at h
  | (k2, v2) :: r, i0, i, v0, h => by
    simp only [findIx] at h
    split at h
    · rename_i e
      cases h
      simp [upK, delK, e]
    · rename_i e
      obtain ⟨h1, h2, h3, h4⟩ := findIx_some k v r (i0 + 1) i v0 h
      have hi : i - i0 = (i - (i0 + 1)) + 1 := by omega
      refine ⟨by omega, by simp; omega, ?_, ?_⟩
      · rw [hi, List.set_cons_succ, ← h3]; simp [upK, e]
      · rw [hi, List.eraseIdx_cons_succ, ← h4]; simp [delK, e]
theorem findIx_none (k : List UInt8) (v : Value) : ∀ (es : KVs) (i0 : Nat), findIx k es i0 = none → upK k v es = es ++ [(k, v)] ∧ delK k es = es ∧ k ∉ es.map (·.1)
  | [], _, _ => by simp [upK, delK]
  | (k2, v2) :: r, i0, h => by
    simp only [findIx] at h
    split at h
    · cases h
    · rename_i e
      obtain ⟨h1, h2, h3⟩ := findIx_none k v r (i0 + 1) h
      refine ⟨by simp [upK, e, h1], by simp [delK, e, h2], by simp only [List.map_cons, List.mem_cons, not_or]; exact ⟨e, h3⟩⟩
theorem MapA.len {arr : Array MapEntry} {clock : Nat} {es : KVs} (h : MapA arr clock es) : arr.size = es.length := by
  have := congrArg List.length h.kv
  simpa using this
theorem nodup_upK {α : Type} {k : List UInt8} {v : α} {es : KV α} (h : (es.map (·.1)).Nodup) : ((upK k v es).map (·.1)).Nodup := by
  rw [keys_upK]
  split
  · exact h
  · rename_i hk
    rw [List.nodup_append]
    exact ⟨h, by simp, fun a ha b hb e => by simp at hb; subst hb; subst e; exact hk ha⟩
theorem nodup_delK {α : Type} {k : List UInt8} {es : KV α} (h : (es.map (·.1)).Nodup) : ((delK k es).map (·.1)).Nodup := by
  rw [keys_delK k es h]
  exact h.filter _
theorem MapA.set {arr : Array MapEntry} {clock : Nat} {es : KVs} (h : MapA arr clock es) {k : List UInt8} {v v0 : Value} {i : Nat} (hf : findIx k es 0 = some (i, v0)) : MapA (arr.modify i fun e => { e with key := strV k, val := v }) clock (upK k v es) := by
  obtain ⟨-, h2, h3, -⟩ := findIx_some k v es 0 i v0 hf
  rw [Nat.sub_zero] at h2 h3
  have hl := h.len
  have hkv := h.kv
  refine ⟨?_, ?_, ?_, nodup_upK h.nd⟩
  · rw [h3]
    apply List.ext_getElem?
    intro j
    have hj := congrArg (fun l => l[j]?) hkv
    simp only [List.getElem?_map] at hj ⊢
    rw [Array.getElem?_toList, Array.getElem?_modify, List.getElem?_set]
    rw [Array.getElem?_toList] at hj
    by_cases e : i = j
    · subst e
      simp [h2, kvOf, show i < arr.size by omega]
    · rw [if_neg e, if_neg e]; exact hj
  · have e : (arr.modify i fun e => { e with key := strV k, val := v }).toList.map (·.born) = arr.toList.map (·.born) := by
      apply List.ext_getElem?
      intro j
      simp only [List.getElem?_map, Array.getElem?_toList, Array.getElem?_modify]
      split
      · cases arr[j]? <;> rfl
      · rfl
    rw [e]; exact h.born
  · intro e he
    obtain ⟨j, hj, rfl⟩ := List.mem_iff_getElem.1 he
    simp only [Array.length_toList, Array.size_modify] at hj
    simp only [Array.getElem_toList, Array.getElem_modify]
    have := h.lt arr[j] (by simp)
    split <;> exact this
theorem MapA.push {arr : Array MapEntry} {clock : Nat} {es : KVs} (h : MapA arr clock es) {k : List UInt8} {v : Value} (hf : findIx k es 0 = none) : MapA (arr.push { key := strV k, val := v, born := clock }) (clock + 1) (upK k v es) := by
  obtain ⟨h1, -, -⟩ := findIx_none k v es 0 hf
  refine ⟨?_, ?_, ?_, nodup_upK h.nd⟩
  · rw [h1, Array.toList_push, List.map_append, h.kv, List.map_append]; rfl
  · rw [Array.toList_push, List.map_append, List.nodup_append]
    refine ⟨h.born, by simp, ?_⟩
    intro a ha b hb e
    simp only [List.map_cons, List.map_nil, List.mem_singleton] at hb
    obtain ⟨x, hx, rfl⟩ := List.mem_map.1 ha
    have := h.lt x hx
    omega
  · intro e he
    rw [Array.toList_push, List.mem_append] at he
    rcases he with he | he
    · have := h.lt e he; omega
    · simp at he; subst he; simp
theorem map_eraseIdx' {α β : Type} (f : α → β) : ∀ (l : List α) (i : Nat), (l.eraseIdx i).map f = (l.map f).eraseIdx i
  | [], _ => by simp
  | _ :: _, 0 => by simp
  | x :: l, i + 1 => by simp [map_eraseIdx' f l i]
theorem MapA.erase {arr : Array MapEntry} {clock : Nat} {es : KVs} (h : MapA arr clock es) {k : List UInt8} {v0 : Value} {i : Nat} (hf : findIx k es 0 = some (i, v0)) : MapA (arr.eraseIdxIfInBounds i) clock (delK k es) := by
  obtain ⟨-, h2, -, h4⟩ := findIx_some k v0 es 0 i v0 hf
  rw [Nat.sub_zero] at h2 h4
  have hl := h.len
  have he : (arr.eraseIdxIfInBounds i).toList = arr.toList.eraseIdx i := by
    simp [Array.eraseIdxIfInBounds, show i < arr.size by omega]
  refine ⟨?_, ?_, ?_, nodup_delK h.nd⟩
  · rw [he, h4, map_eraseIdx', h.kv, map_eraseIdx']
  · rw [he, map_eraseIdx']; exact h.born.sublist (List.eraseIdx_sublist _ _)
  · intro e hm
    rw [he] at hm
    exact h.lt e ((List.eraseIdx_sublist _ _).mem hm)
theorem strV_beq_self (k : List UInt8) (h : (10000 : Nat) = 9999 + 1) : Instr.sameBits 10000 (strV k) (strV k) = true := by
  rw [h]; simp only [Instr.sameBits, strV, strV_beq, decide_true]
theorem Y.mapUpdate {x y z' : Operand} {t kt et : TypeId} {z v : Value} {r : Nat} {k : List UInt8} {es : KVs} (ht : MapT P t kt et z) (hx : ev ρ x = some (.map (some r))) (hy : ev ρ y = some (strV k)) (hv : ev ρ z' = some v) (hm : MapB w r es)
    (h : ∀ w', MapB w' r (upK k v es) → Chg (· = r) w w' → w'.heap.size = w.heap.size → G undef w') : OpY P ⟨d, .mapUpdate t x y z', ty, pos, af, g⟩ ρ w G := by
  obtain ⟨h1, h2, h3⟩ := ht
  obtain ⟨arr, clock, hb, hA⟩ := hm
  cases hf : findIx k es 0 with
  | none =>
    obtain ⟨c1, c2, c3⟩ := chg_setBlock (o := .map (arr.push { key := strV k, val := v, born := clock }) (clock + 1)) hb
    refine OpY.un (w' := { w with heap := w.heap.setIfInBounds r (.map (arr.push { key := strV k, val := v, born := clock }) (clock + 1)) }) (fun e he => ?_) (h _ ⟨_, _, c2, hA.push hf⟩ c1 c3)
    simp only [execOp]; rw [he x _ hx, he y _ hy, he z' _ hv]
    simp [Instr.mapUpdate, run_underlying h1, run_getObj' hb, run_checkStr kt h2, run_findStr h2 k hA.kv, hf, run_setObj' _ hb]
  | some q =>
    obtain ⟨i, v0⟩ := q
    have hi := (findIx_some k v es 0 i v0 hf).2.1
    rw [Nat.sub_zero] at hi
    have hl := hA.len
    have hkey : arr[i]? = some arr[i] ∧ (arr[i]).key = strV k := by
      have hkv := congrArg (fun l => l[i]?) hA.kv
      have hi2 : i < arr.size := by omega
      have hfk : es[i]? = some (k, v0) := by
        have key : ∀ (es : KVs) (i0 : Nat), findIx k es i0 = some (i, v0) → es[i - i0]? = some (k, v0) ∧ i0 ≤ i := by
          intro es
          induction es with
          | nil => intro i0 h; simp [findIx] at h
          | cons p r ih =>
            intro i0 h
            obtain ⟨k2, v2⟩ := p
            simp only [findIx] at h
            split at h
            · rename_i e; cases h; simp [e]
            · obtain ⟨a, b⟩ := ih (i0 + 1) h
              refine ⟨?_, by omega⟩
              rw [show i - i0 = (i - (i0 + 1)) + 1 by omega, List.getElem?_cons_succ]; exact a
        simpa using (key es 0 hf).1
      simp only [List.getElem?_map, Array.getElem?_toList, hfk, Option.map_some, kvOf] at hkv
      rw [Array.getElem?_eq_getElem hi2] at hkv ⊢
      simp at hkv
      exact ⟨rfl, hkv.1⟩
    obtain ⟨c1, c2, c3⟩ := chg_setBlock (o := .map (arr.modify i fun e => { e with key := strV k, val := v }) clock) hb
    refine OpY.un (w' := { w with heap := w.heap.setIfInBounds r (.map (arr.modify i fun e => { e with key := strV k, val := v }) clock) }) (fun e he => ?_) (h _ ⟨_, _, c2, hA.set hf⟩ c1 c3)
    simp only [execOp]; rw [he x _ hx, he y _ hy, he z' _ hv]
    simp [Instr.mapUpdate, run_underlying h1, run_getObj' hb, run_checkStr kt h2, run_findStr h2 k hA.kv, hf, hkey.1, hkey.2, Instr.keyThatStays, strV_beq_self k rfl, run_setObj' _ hb]
theorem Y.delete {x y : Operand} {t kt et u : TypeId} {z : Value} {r : Nat} {k : List UInt8} {es : KVs} (ht : MapT P t kt et z) (hx : ev ρ x = some (.map (some r))) (hy : ev ρ y = some (strV k)) (hm : MapB w r es)
    (h : ∀ w', MapB w' r (delK k es) → Chg (· = r) w w' → w'.heap.size = w.heap.size → G (.tuple #[]) w') : OpY P ⟨d, .call ⟨.builtin .delete, #[x, y], #[t, u]⟩, ty, pos, af, g⟩ ρ w G := by
  obtain ⟨h1, h2, h3⟩ := ht
  obtain ⟨arr, clock, hb, hA⟩ := hm
  cases hf : findIx k es 0 with
  | none =>
    obtain ⟨c1, c2, c3⟩ := chg_setBlock (o := .map arr clock) hb
    refine OpY.val (w' := { w with heap := w.heap.setIfInBounds r (.map arr clock) }) (fun e he => ?_) (h _ ⟨_, _, c2, by rw [(findIx_none k z es 0 hf).2.1]; exact hA⟩ c1 c3)
    simp only [execOp, resolve, List.map_toArray, List.map_cons, List.map_nil]; rw [he x _ hx, he y _ hy]
    simp [invoke, builtin, Builtin.delete_, run_underlying h1, run_getObj' hb, run_checkStr kt h2, run_findStr h2 k hA.kv, hf, run_setObj' _ hb]
  | some q =>
    obtain ⟨i, v0⟩ := q
    obtain ⟨c1, c2, c3⟩ := chg_setBlock (o := .map (arr.eraseIdxIfInBounds i) clock) hb
    refine OpY.val (w' := { w with heap := w.heap.setIfInBounds r (.map (arr.eraseIdxIfInBounds i) clock) }) (fun e he => ?_) (h _ ⟨_, _, c2, hA.erase hf⟩ c1 c3)
    simp only [execOp, resolve, List.map_toArray, List.map_cons, List.map_nil]; rw [he x _ hx, he y _ hy]
    simp [invoke, builtin, Builtin.delete_, run_underlying h1, run_getObj' hb, run_checkStr kt h2, run_findStr h2 k hA.kv, hf, run_setObj' _ hb]
theorem Y.makeMap {t : TypeId} (h : ∀ r w', MapB w' r [] → r = w.heap.size → w'.heap.size = r + 1 → Ext w w' → G (.map (some r)) w') : OpY P ⟨d, .makeMap t none, ty, pos, af, g⟩ ρ w G :=
  OpY.val (v := .map (some w.heap.size)) (w' := w.alloc (.map #[] 0)) (fun ee he => by simp [execOp, Instr.makeMap]) (h w.heap.size _ ⟨#[], 0, heap_alloc_new w _, ⟨rfl, List.nodup_nil, by simp, List.nodup_nil⟩⟩ rfl (by simp) (Ext.alloc _ _))
def IterB (w : World) (it r : Nat) (es sn rest : KVs) : Prop := ∃ (arr : Array MapEntry) (clock : Nat) (seen : Array Nat), HB w r (.map arr clock) ∧ MapA arr clock es ∧ HB w it (.mapIter (some r) clock seen clock) ∧ (leftOf arr seen).toList.map (fun e => (e.key, e.val)) = rest.map kvOf ∧ (sn ++ rest).Perm es
def IterC (w : World) (it r : Nat) (es sn rest : KVs) (p : List UInt8 × Value) : Prop := ∃ (arr : Array MapEntry) (clock : Nat) (seen : Array Nat) (e : MapEntry), HB w r (.map arr clock) ∧ MapA arr clock es ∧ HB w it (.mapIter (some r) clock (seen.push e.born) clock) ∧ (leftOf arr (seen.push e.born)).toList.map (fun e => (e.key, e.val)) = rest.map kvOf ∧ (sn ++ rest).Perm es ∧ e ∈ arr.toList ∧ e.key = strV p.1 ∧ e.val = p.2
theorem IterC.b {it r : Nat} {es sn rest : KVs} {p : List UInt8 × Value} (h : IterC w it r es sn rest p) : IterB w it r es sn rest := let ⟨a, c, s, e, h1, h2, h3, h4, h5, _⟩ := h; ⟨a, c, s.push e.born, h1, h2, h3, h4, h5⟩
theorem IterB.chg {S : Nat → Prop} {w' : World} {it r : Nat} {es sn rest : KVs} (h : IterB w it r es sn rest) (hC : Chg S w w') (h1 : ¬ S it) (h2 : ¬ S r) : IterB w' it r es sn rest := let ⟨a, c, s, k1, k2, k3, k4⟩ := h; ⟨a, c, s, k1.chg hC h2, k2, k3.chg hC h1, k4⟩
theorem IterB.ext {w' : World} {it r : Nat} {es sn rest : KVs} (h : IterB w it r es sn rest) (hE : Ext w w') : IterB w' it r es sn rest := h.chg hE (fun h => h) fun h => h
theorem Y.range {x : Operand} {t kt et : TypeId} {z : Value} {r : Nat} {es : KVs} (ht : MapT P t kt et z) (hx : ev ρ x = some (.map (some r))) (hm : MapB w r es)
    (h : ∀ it w', IterB w' it r es [] es → it = w.heap.size → w'.heap.size = it + 1 → Ext w w' → G (.pointer (some ⟨it, 0, none⟩)) w') : OpY P ⟨d, .range t x, ty, pos, af, g⟩ ρ w G := by
  obtain ⟨arr, clock, hb, hA⟩ := hm
  refine OpY.val (v := .pointer (some ⟨w.heap.size, 0, none⟩)) (w' := w.alloc (.mapIter (some r) clock #[] clock)) (fun e he => ?_) (h w.heap.size _ ⟨arr, clock, #[], hb.ext (Ext.alloc _ _), hA, heap_alloc_new w _, ?_, List.Perm.refl _⟩ rfl (by simp) (Ext.alloc _ _))
  · simp only [execOp]; rw [he x _ hx]
    simp [run_range_map w t kt et r arr clock ht.1 hb]
  · have : leftOf arr #[] = arr := by simp [leftOf]
    rw [this]; exact hA.kv
theorem leftOf_push (arr : Array MapEntry) (seen : Array Nat) (b : Nat) : (leftOf arr (seen.push b)).toList = (leftOf arr seen).toList.filter (fun e => decide (e.born ≠ b)) := by
  simp only [leftOf, Array.toList_filter, List.filter_filter]
  refine List.filter_congr fun e _ => ?_
  rw [Bool.eq_iff_iff]
  simp
  constructor
  · intro h; exact ⟨h.2, h.1⟩
  · intro h; exact ⟨h.2, h.1⟩
theorem Y.next {x : Operand} {t : TypeId} {it r : Nat} {es sn rest : KVs} (hx : ev ρ x = some (.pointer (some ⟨it, 0, none⟩))) (hI : IterB w it r es sn rest)
    (h : ∀ vs w', nthV vs.toList 0 = some (.bool (!rest.isEmpty)) → Chg (· = it) w w' → w'.heap.size = w.heap.size → (rest ≠ [] → ∃ p rest', p ∈ rest ∧ IterC w' it r es (sn ++ [p]) rest' p ∧ rest'.length + 1 = rest.length) → G (.tuple vs) w') : OpY P ⟨d, .next x false, t, pos, af, g⟩ ρ w G := by
  obtain ⟨arr, clock, seen, hb, hA, hi, hl, hp⟩ := hI
  have hlen : (leftOf arr seen).size = rest.length := by simpa using congrArg List.length hl
  rcases run_next_at (P := P) w t it r clock clock seen arr clock hi hb hA.lt (Nat.le_refl _) with ⟨h0, hrun⟩ | ⟨e, hmem, w1, hw1, hrun⟩
  · have hr : rest = [] := List.eq_nil_of_length_eq_zero (by omega)
    subst hr
    exact OpY.val (fun ee he => by simp only [execOp]; rw [he x _ hx]; rw [Sem.run_bind, hrun]; rfl) (h #[.bool false] w rfl (Chg.refl _ _) rfl (fun hn => absurd rfl hn))
  · have hwh : w1.heap = w.heap := by rcases hw1 with rfl | rfl <;> rfl
    have hC : Chg (· = it) w (Go.ChangeMaps.setBlock w1 it (.mapIter (some r) clock (seen.push e.born) clock)) := by
      refine ⟨?_, ?_, ?_, ?_, fun b hb' hn => ?_⟩
      · rcases hw1 with rfl | rfl <;> rfl
      · rcases hw1 with rfl | rfl <;> rfl
      · rcases hw1 with rfl | rfl <;> rfl
      · simp [Go.ChangeMaps.setBlock, hwh]
      · have hn' : ¬ it = b := fun e => hn e.symm
        simp [Go.ChangeMaps.setBlock, hwh, Array.getElem?_setIfInBounds_ne hn']
    have hne : it ≠ r := by
      rintro rfl
      have h1 : w.heap[it]? = some (.map arr clock) := hb
      have h2 : w.heap[it]? = some (.mapIter (some it) clock seen clock) := hi
      rw [h1] at h2; cases h2
    have hit : HB (Go.ChangeMaps.setBlock w1 it (.mapIter (some r) clock (seen.push e.born) clock)) it (.mapIter (some r) clock (seen.push e.born) clock) := by
      have := hi.lt
      simp [HB, Go.ChangeMaps.setBlock, hwh, this]
    obtain ⟨l1, l2, hL⟩ := List.append_of_mem hmem
    have hsub : (leftOf arr seen).toList.Sublist arr.toList := by simp only [leftOf, Array.toList_filter]; exact List.filter_sublist
    have hnd : ((leftOf arr seen).toList.map (·.born)).Nodup := hA.born.sublist (hsub.map _)
    rw [hL, List.map_append, List.map_cons, List.nodup_append, List.nodup_cons] at hnd
    obtain ⟨n1, ⟨n2, n3⟩, n4⟩ := hnd
    have hpush : (leftOf arr (seen.push e.born)).toList = l1 ++ l2 := by
      rw [leftOf_push, hL, List.filter_append, List.filter_cons]
      rw [if_neg (by simp)]
      congr 1
      · refine List.filter_eq_self.2 fun a ha => ?_
        have := n4 a.born (List.mem_map_of_mem (f := (·.born)) ha) e.born (by simp)
        simpa using this
      · refine List.filter_eq_self.2 fun a ha => ?_
        simp only [ne_eq, decide_eq_true_eq]
        intro hab
        exact n2 (by rw [← hab]; exact List.mem_map_of_mem (f := (·.born)) ha)
    rw [hL, List.map_append, List.map_cons] at hl
    obtain ⟨r1, r2', hr, hr1, hr2⟩ := List.map_eq_append_iff.1 hl.symm
    obtain ⟨p, r2, rfl, hp1, hp2⟩ := List.map_eq_cons_iff.1 hr2
    subst hr
    simp only [kvOf, Prod.mk.injEq] at hp1
    refine OpY.val (fun ee he => by simp only [execOp]; rw [he x _ hx]; rw [Sem.run_bind, hrun]; rfl) (h #[.bool true, e.key, e.val] _ (by simp [nthV]) hC (by simp [Go.ChangeMaps.setBlock, hwh]) (fun _ => ⟨p, r1 ++ r2, by simp, ⟨arr, clock, seen, e, hb.chg hC (fun e => hne e.symm), hA, hit, ?_, ?_, hsub.mem hmem, hp1.1.symm, hp1.2.symm⟩, by simp; omega⟩))
    · rw [hpush, List.map_append, List.map_append, hr1, hp2]
    · refine List.Perm.trans ?_ hp
      rw [List.append_assoc]
      refine List.Perm.append_left sn ?_
      simp only [List.singleton_append]
      exact List.perm_middle.symm
theorem Y.entry {x : Operand} {it r : Nat} {es sn rest : KVs} {p : List UInt8 × Value} (hx : ev ρ x = some (.pointer (some ⟨it, 0, none⟩))) (hI : IterC w it r es sn rest p) (h : G (.tuple #[strV p.1, p.2]) w) : OpY P ⟨d, .entry x, ty, pos, af, g⟩ ρ w G := by
  obtain ⟨arr, clock, seen, e, hb, hA, hi, hl, hp, hm, h1, h2⟩ := hI
  refine OpY.val (fun ee he => ?_) h
  simp only [execOp]; rw [he x _ hx, Sem.run_bind, run_entry_at w it r clock seen arr clock e hi hb hm hA.born, h1, h2]; rfl
theorem Y.lookupS {x y : Operand} {t kt et : TypeId} {z v : Value} {r : Nat} {k : List UInt8} {es : KVs} (ht : MapT P t kt et z) (hx : ev ρ x = some (.map (some r))) (hy : ev ρ y = some (strV k)) (hm : MapB w r es) (hk : lookK k es = some v) (h : G v w) :
    OpY P ⟨d, .lookup t x y false, ty, pos, af, g⟩ ρ w G := Y.lookup ht hx hy hm (by rw [hk]; exact h)
theorem Y.lookupN {x y : Operand} {t kt et : TypeId} {z : Value} {r : Nat} {k : List UInt8} {es : KVs} (ht : MapT P t kt et z) (hx : ev ρ x = some (.map (some r))) (hy : ev ρ y = some (strV k)) (hm : MapB w r es) (hk : lookK k es = none) (h : G z w) :
    OpY P ⟨d, .lookup t x y false, ty, pos, af, g⟩ ρ w G := Y.lookup ht hx hy hm (by rw [hk]; exact h)
end
end Go.Proofs.YtchammpamigonaaGreatX
end
section
namespace Go.Proofs.YtchammpamigonaaGreatX
open Go Go.Proofs
theorem agg23 : AggT Tryz.prog 23 2 := ⟨⟨_, Tryz.underlying23, trivial⟩, by kernel_rfl⟩
theorem agg47 : AggT Tryz.prog 47 3 := ⟨⟨_, Tryz.underlying47, trivial⟩, by kernel_rfl⟩
theorem agg48 : AggT Tryz.prog 48 21 := ⟨⟨_, Tryz.underlying48, trivial⟩, by kernel_rfl⟩
theorem arr135 : ArrT Tryz.prog 135 255 5 1 := ⟨Tryz.underlying135, by kernel_rfl⟩
theorem arr136 : ArrT Tryz.prog 136 256 3 1 := ⟨Tryz.underlying136, by kernel_rfl⟩
theorem arr48 : ArrT Tryz.prog 48 7 47 3 := ⟨Tryz.underlying48, by kernel_rfl⟩
theorem fld138_0 : FieldT Tryz.prog 138 0 0 := ⟨_, _, Tryz.underlying138, rfl, rfl, by kernel_rfl⟩
theorem fld138_1 : FieldT Tryz.prog 138 1 255 := ⟨_, _, Tryz.underlying138, rfl, rfl, by kernel_rfl⟩
theorem fld23_0 : FieldT Tryz.prog 23 0 0 := ⟨_, _, Tryz.underlying23, rfl, rfl, by kernel_rfl⟩
theorem fld23_1 : FieldT Tryz.prog 23 1 1 := ⟨_, _, Tryz.underlying23, rfl, rfl, by kernel_rfl⟩
theorem fld47_0 : FieldT Tryz.prog 47 0 0 := ⟨_, _, Tryz.underlying47, rfl, rfl, by kernel_rfl⟩
theorem fld47_1 : FieldT Tryz.prog 47 1 1 := ⟨_, _, Tryz.underlying47, rfl, rfl, by kernel_rfl⟩
theorem fld47_2 : FieldT Tryz.prog 47 2 2 := ⟨_, _, Tryz.underlying47, rfl, rfl, by kernel_rfl⟩
theorem fld66_0 : FieldT Tryz.prog 66 0 0 := ⟨_, _, Tryz.underlying66, rfl, rfl, by kernel_rfl⟩
theorem fld66_1 : FieldT Tryz.prog 66 1 2 := ⟨_, _, Tryz.underlying66, rfl, rfl, by kernel_rfl⟩
theorem fld79_0 : FieldT Tryz.prog 79 0 0 := ⟨_, _, Tryz.underlying79, rfl, rfl, by kernel_rfl⟩
theorem fld79_1 : FieldT Tryz.prog 79 1 1 := ⟨_, _, Tryz.underlying79, rfl, rfl, by kernel_rfl⟩
theorem fld82_0 : FieldT Tryz.prog 82 0 0 := ⟨_, _, Tryz.underlying82, rfl, rfl, by kernel_rfl⟩
theorem fld82_1 : FieldT Tryz.prog 82 1 1 := ⟨_, _, Tryz.underlying82, rfl, rfl, by kernel_rfl⟩
theorem fol : Tryz.prog.follows .mixedOrders = true := by kernel_rfl
theorem mt77 : MapT Tryz.prog 77 9 76 (.pointer none) := ⟨Tryz.underlying77, Tryz.underlying9, by kernel_rfl⟩
theorem ok10 : CallOK Tryz.prog 10 := ⟨_, Tryz.func10, by kernel_rfl, rfl⟩
theorem ok100 : CallOK Tryz.prog 100 := ⟨_, Tryz.func100, by kernel_rfl, rfl⟩
theorem ok101 : CallOK Tryz.prog 101 := ⟨_, Tryz.func101, by kernel_rfl, rfl⟩
theorem ok102 : CallOK Tryz.prog 102 := ⟨_, Tryz.func102, by kernel_rfl, rfl⟩
theorem ok103 : CallOK Tryz.prog 103 := ⟨_, Tryz.func103, by kernel_rfl, rfl⟩
theorem ok104 : CallOK Tryz.prog 104 := ⟨_, Tryz.func104, by kernel_rfl, rfl⟩
theorem ok105 : CallOK Tryz.prog 105 := ⟨_, Tryz.func105, by kernel_rfl, rfl⟩
theorem ok106 : CallOK Tryz.prog 106 := ⟨_, Tryz.func106, by kernel_rfl, rfl⟩
theorem ok11 : CallOK Tryz.prog 11 := ⟨_, Tryz.func11, by kernel_rfl, rfl⟩
theorem ok112 : CallOK Tryz.prog 112 := ⟨_, Tryz.func112, by kernel_rfl, rfl⟩
theorem ok117 : CallOK Tryz.prog 117 := ⟨_, Tryz.func117, by kernel_rfl, rfl⟩
theorem ok123 : CallOK Tryz.prog 123 := ⟨_, Tryz.func123, by kernel_rfl, rfl⟩
theorem ok124 : CallOK Tryz.prog 124 := ⟨_, Tryz.func124, by kernel_rfl, rfl⟩
theorem ok13 : CallOK Tryz.prog 13 := ⟨_, Tryz.func13, by kernel_rfl, rfl⟩
theorem ok14 : CallOK Tryz.prog 14 := ⟨_, Tryz.func14, by kernel_rfl, rfl⟩
theorem ok15 : CallOK Tryz.prog 15 := ⟨_, Tryz.func15, by kernel_rfl, rfl⟩
theorem ok16 : CallOK Tryz.prog 16 := ⟨_, Tryz.func16, by kernel_rfl, rfl⟩
theorem ok18 : CallOK Tryz.prog 18 := ⟨_, Tryz.func18, by kernel_rfl, rfl⟩
theorem ok19 : CallOK Tryz.prog 19 := ⟨_, Tryz.func19, by kernel_rfl, rfl⟩
theorem ok20 : CallOK Tryz.prog 20 := ⟨_, Tryz.func20, by kernel_rfl, rfl⟩
theorem ok22 : CallOK Tryz.prog 22 := ⟨_, Tryz.func22, by kernel_rfl, rfl⟩
theorem ok23 : CallOK Tryz.prog 23 := ⟨_, Tryz.func23, by kernel_rfl, rfl⟩
theorem ok24 : CallOK Tryz.prog 24 := ⟨_, Tryz.func24, by kernel_rfl, rfl⟩
theorem ok26 : CallOK Tryz.prog 26 := ⟨_, Tryz.func26, by kernel_rfl, rfl⟩
theorem ok27 : CallOK Tryz.prog 27 := ⟨_, Tryz.func27, by kernel_rfl, rfl⟩
theorem ok28 : CallOK Tryz.prog 28 := ⟨_, Tryz.func28, by kernel_rfl, rfl⟩
theorem ok29 : CallOK Tryz.prog 29 := ⟨_, Tryz.func29, by kernel_rfl, rfl⟩
theorem ok30 : CallOK Tryz.prog 30 := ⟨_, Tryz.func30, by kernel_rfl, rfl⟩
theorem ok31 : CallOK Tryz.prog 31 := ⟨_, Tryz.func31, by kernel_rfl, rfl⟩
theorem ok32 : CallOK Tryz.prog 32 := ⟨_, Tryz.func32, by kernel_rfl, rfl⟩
theorem ok33 : CallOK Tryz.prog 33 := ⟨_, Tryz.func33, by kernel_rfl, rfl⟩
theorem ok34 : CallOK Tryz.prog 34 := ⟨_, Tryz.func34, by kernel_rfl, rfl⟩
theorem ok35 : CallOK Tryz.prog 35 := ⟨_, Tryz.func35, by kernel_rfl, rfl⟩
theorem ok36 : CallOK Tryz.prog 36 := ⟨_, Tryz.func36, by kernel_rfl, rfl⟩
theorem ok37 : CallOK Tryz.prog 37 := ⟨_, Tryz.func37, by kernel_rfl, rfl⟩
theorem ok38 : CallOK Tryz.prog 38 := ⟨_, Tryz.func38, by kernel_rfl, rfl⟩
theorem ok39 : CallOK Tryz.prog 39 := ⟨_, Tryz.func39, by kernel_rfl, rfl⟩
theorem ok40 : CallOK Tryz.prog 40 := ⟨_, Tryz.func40, by kernel_rfl, rfl⟩
theorem ok41 : CallOK Tryz.prog 41 := ⟨_, Tryz.func41, by kernel_rfl, rfl⟩
theorem ok42 : CallOK Tryz.prog 42 := ⟨_, Tryz.func42, by kernel_rfl, rfl⟩
theorem ok43 : CallOK Tryz.prog 43 := ⟨_, Tryz.func43, by kernel_rfl, rfl⟩
theorem ok44 : CallOK Tryz.prog 44 := ⟨_, Tryz.func44, by kernel_rfl, rfl⟩
theorem ok45 : CallOK Tryz.prog 45 := ⟨_, Tryz.func45, by kernel_rfl, rfl⟩
theorem ok46 : CallOK Tryz.prog 46 := ⟨_, Tryz.func46, by kernel_rfl, rfl⟩
theorem ok47 : CallOK Tryz.prog 47 := ⟨_, Tryz.func47, by kernel_rfl, rfl⟩
theorem ok48 : CallOK Tryz.prog 48 := ⟨_, Tryz.func48, by kernel_rfl, rfl⟩
theorem ok49 : CallOK Tryz.prog 49 := ⟨_, Tryz.func49, by kernel_rfl, rfl⟩
theorem ok50 : CallOK Tryz.prog 50 := ⟨_, Tryz.func50, by kernel_rfl, rfl⟩
theorem ok51 : CallOK Tryz.prog 51 := ⟨_, Tryz.func51, by kernel_rfl, rfl⟩
theorem ok52 : CallOK Tryz.prog 52 := ⟨_, Tryz.func52, by kernel_rfl, rfl⟩
theorem ok53 : CallOK Tryz.prog 53 := ⟨_, Tryz.func53, by kernel_rfl, rfl⟩
theorem ok54 : CallOK Tryz.prog 54 := ⟨_, Tryz.func54, by kernel_rfl, rfl⟩
theorem ok55 : CallOK Tryz.prog 55 := ⟨_, Tryz.func55, by kernel_rfl, rfl⟩
theorem ok56 : CallOK Tryz.prog 56 := ⟨_, Tryz.func56, by kernel_rfl, rfl⟩
theorem ok57 : CallOK Tryz.prog 57 := ⟨_, Tryz.func57, by kernel_rfl, rfl⟩
theorem ok58 : CallOK Tryz.prog 58 := ⟨_, Tryz.func58, by kernel_rfl, rfl⟩
theorem ok59 : CallOK Tryz.prog 59 := ⟨_, Tryz.func59, by kernel_rfl, rfl⟩
theorem ok60 : CallOK Tryz.prog 60 := ⟨_, Tryz.func60, by kernel_rfl, rfl⟩
theorem ok61 : CallOK Tryz.prog 61 := ⟨_, Tryz.func61, by kernel_rfl, rfl⟩
theorem ok62 : CallOK Tryz.prog 62 := ⟨_, Tryz.func62, by kernel_rfl, rfl⟩
theorem ok63 : CallOK Tryz.prog 63 := ⟨_, Tryz.func63, by kernel_rfl, rfl⟩
theorem ok64 : CallOK Tryz.prog 64 := ⟨_, Tryz.func64, by kernel_rfl, rfl⟩
theorem ok65 : CallOK Tryz.prog 65 := ⟨_, Tryz.func65, by kernel_rfl, rfl⟩
theorem ok66 : CallOK Tryz.prog 66 := ⟨_, Tryz.func66, by kernel_rfl, rfl⟩
theorem ok67 : CallOK Tryz.prog 67 := ⟨_, Tryz.func67, by kernel_rfl, rfl⟩
theorem ok68 : CallOK Tryz.prog 68 := ⟨_, Tryz.func68, by kernel_rfl, rfl⟩
theorem ok69 : CallOK Tryz.prog 69 := ⟨_, Tryz.func69, by kernel_rfl, rfl⟩
theorem ok70 : CallOK Tryz.prog 70 := ⟨_, Tryz.func70, by kernel_rfl, rfl⟩
theorem ok71 : CallOK Tryz.prog 71 := ⟨_, Tryz.func71, by kernel_rfl, rfl⟩
theorem ok72 : CallOK Tryz.prog 72 := ⟨_, Tryz.func72, by kernel_rfl, rfl⟩
theorem ok73 : CallOK Tryz.prog 73 := ⟨_, Tryz.func73, by kernel_rfl, rfl⟩
theorem ok74 : CallOK Tryz.prog 74 := ⟨_, Tryz.func74, by kernel_rfl, rfl⟩
theorem ok75 : CallOK Tryz.prog 75 := ⟨_, Tryz.func75, by kernel_rfl, rfl⟩
theorem ok76 : CallOK Tryz.prog 76 := ⟨_, Tryz.func76, by kernel_rfl, rfl⟩
theorem ok77 : CallOK Tryz.prog 77 := ⟨_, Tryz.func77, by kernel_rfl, rfl⟩
theorem ok78 : CallOK Tryz.prog 78 := ⟨_, Tryz.func78, by kernel_rfl, rfl⟩
theorem ok79 : CallOK Tryz.prog 79 := ⟨_, Tryz.func79, by kernel_rfl, rfl⟩
theorem ok8 : CallOK Tryz.prog 8 := ⟨_, Tryz.func8, by kernel_rfl, rfl⟩
theorem ok80 : CallOK Tryz.prog 80 := ⟨_, Tryz.func80, by kernel_rfl, rfl⟩
theorem ok81 : CallOK Tryz.prog 81 := ⟨_, Tryz.func81, by kernel_rfl, rfl⟩
theorem ok82 : CallOK Tryz.prog 82 := ⟨_, Tryz.func82, by kernel_rfl, rfl⟩
theorem ok83 : CallOK Tryz.prog 83 := ⟨_, Tryz.func83, by kernel_rfl, rfl⟩
theorem ok84 : CallOK Tryz.prog 84 := ⟨_, Tryz.func84, by kernel_rfl, rfl⟩
theorem ok85 : CallOK Tryz.prog 85 := ⟨_, Tryz.func85, by kernel_rfl, rfl⟩
theorem ok86 : CallOK Tryz.prog 86 := ⟨_, Tryz.func86, by kernel_rfl, rfl⟩
theorem ok87 : CallOK Tryz.prog 87 := ⟨_, Tryz.func87, by kernel_rfl, rfl⟩
theorem ok88 : CallOK Tryz.prog 88 := ⟨_, Tryz.func88, by kernel_rfl, rfl⟩
theorem ok89 : CallOK Tryz.prog 89 := ⟨_, Tryz.func89, by kernel_rfl, rfl⟩
theorem ok9 : CallOK Tryz.prog 9 := ⟨_, Tryz.func9, by kernel_rfl, rfl⟩
theorem ok90 : CallOK Tryz.prog 90 := ⟨_, Tryz.func90, by kernel_rfl, rfl⟩
theorem ok91 : CallOK Tryz.prog 91 := ⟨_, Tryz.func91, by kernel_rfl, rfl⟩
theorem ok92 : CallOK Tryz.prog 92 := ⟨_, Tryz.func92, by kernel_rfl, rfl⟩
theorem ok93 : CallOK Tryz.prog 93 := ⟨_, Tryz.func93, by kernel_rfl, rfl⟩
theorem ok94 : CallOK Tryz.prog 94 := ⟨_, Tryz.func94, by kernel_rfl, rfl⟩
theorem ok95 : CallOK Tryz.prog 95 := ⟨_, Tryz.func95, by kernel_rfl, rfl⟩
theorem ok96 : CallOK Tryz.prog 96 := ⟨_, Tryz.func96, by kernel_rfl, rfl⟩
theorem ok97 : CallOK Tryz.prog 97 := ⟨_, Tryz.func97, by kernel_rfl, rfl⟩
theorem ok98 : CallOK Tryz.prog 98 := ⟨_, Tryz.func98, by kernel_rfl, rfl⟩
theorem ok99 : CallOK Tryz.prog 99 := ⟨_, Tryz.func99, by kernel_rfl, rfl⟩
theorem one24 : OneT Tryz.prog 24 := ⟨⟨_, Tryz.underlying24, trivial⟩, by kernel_rfl⟩
theorem one3 : OneT Tryz.prog 3 := ⟨⟨_, Tryz.underlying3, trivial⟩, by kernel_rfl⟩
theorem one31 : OneT Tryz.prog 31 := ⟨⟨_, Tryz.underlying31, trivial⟩, by kernel_rfl⟩
theorem one37 : OneT Tryz.prog 37 := ⟨⟨_, Tryz.underlying37, trivial⟩, by kernel_rfl⟩
theorem one39 : OneT Tryz.prog 39 := ⟨⟨_, Tryz.underlying39, trivial⟩, by kernel_rfl⟩
theorem one41 : OneT Tryz.prog 41 := ⟨⟨_, Tryz.underlying41, trivial⟩, by kernel_rfl⟩
theorem one5 : OneT Tryz.prog 5 := ⟨⟨_, Tryz.underlying5, trivial⟩, by kernel_rfl⟩
theorem one56 : OneT Tryz.prog 56 := ⟨⟨_, Tryz.underlying56, trivial⟩, by kernel_rfl⟩
theorem one77 : OneT Tryz.prog 77 := ⟨⟨_, Tryz.underlying77, trivial⟩, by kernel_rfl⟩
theorem one9 : OneT Tryz.prog 9 := ⟨⟨_, Tryz.underlying9, trivial⟩, by kernel_rfl⟩
theorem st31 : SliceT Tryz.prog 31 41 1 8 (.pointer none) := ⟨Tryz.underlying31, by kernel_rfl, rfl, by decide⟩
theorem st37 : SliceT Tryz.prog 37 39 1 24 (.slice none 0 0) := ⟨Tryz.underlying37, by kernel_rfl, rfl, by decide⟩
theorem st39 : SliceT Tryz.prog 39 5 1 1 (.int .u8 0) := ⟨Tryz.underlying39, by kernel_rfl, rfl, by decide⟩
theorem st49 : SliceT Tryz.prog 49 3 1 8 (.int .i64 0) := ⟨Tryz.underlying49, by kernel_rfl, rfl, by decide⟩
theorem st51 : SliceT Tryz.prog 51 4 1 1 (.bool false) := ⟨Tryz.underlying51, by kernel_rfl, rfl, by decide⟩
theorem st56 : SliceT Tryz.prog 56 9 1 16 (.string ⟨#[]⟩) := ⟨Tryz.underlying56, by kernel_rfl, rfl, by decide⟩
theorem zt23 : (Tryz.prog.info? 23).map (·.zero) = some (some (.agg #[.int .i64 0, .int .i64 0])) := by kernel_rfl
theorem zt37 : (Tryz.prog.info? 37).map (·.zero) = some (some (.slice none 0 0)) := by kernel_rfl
theorem zt47 : (Tryz.prog.info? 47).map (·.zero) = some (some (.agg #[.int .u8 0, .int .u16 0, .int .u8 0])) := by kernel_rfl
end Go.Proofs.YtchammpamigonaaGreatX
end
section
namespace Go.Proofs.YtchammpamigonaaGreatX
open Go Go.RowKit
def LoopS (n : Slots) (ρ : Env) (ps : Array Tmp) (assign body : Code) (l D : Nat) (st : LoopState) (w : World) : Prop :=
  ∃ fn tmps, HB w l (.loop { state := st, pending := none, fn, tmps, params := ps, assign, body, defers := D }) ∧ HB w D (.deferred (some [])) ∧ Sat n ρ { tmps := tmps, defers := [] }
theorem LoopS.chg {n : Slots} {ρ : Env} {ps : Array Tmp} {assign body : Code} {l D : Nat} {st : LoopState} {w w' : World} {S : Nat → Prop} (h : LoopS n ρ ps assign body l D st w) (hC : Chg S w w') (h1 : ¬ S l) (h2 : ¬ S D) : LoopS n ρ ps assign body l D st w' :=
  let ⟨fn, tmps, a, b, c⟩ := h; ⟨fn, tmps, a.chg hC h1, b.chg hC h2, c⟩
theorem LoopS.ext {n : Slots} {ρ : Env} {ps : Array Tmp} {assign body : Code} {l D : Nat} {st : LoopState} {w w' : World} (h : LoopS n ρ ps assign body l D st w) (hE : Ext w w') : LoopS n ρ ps assign body l D st w' := h.chg hE (fun h => h) fun h => h
theorem chg_putObj {w : World} {r : Nat} {o o' : Obj} (h : HB w r o') : Chg (· = r) w (w.putObj r o) ∧ HB (w.putObj r o) r o ∧ (w.putObj r o).heap.size = w.heap.size :=
  ⟨⟨rfl, rfl, rfl, by simp, fun b _ hn => World.putObj_heap_other hn⟩, World.putObj_heap_same h.lt, by simp⟩
def YieldsTo (P : Program) (l : Nat) (vs : List Value) (w : World) (G : World → Prop) : Prop :=
  ∃ fn tmps assign body, (Instr.yield l vs.toArray).run P w = .ok (.round l fn tmps assign body) w ∧ RoundIn Fence.wide 0 P l fn tmps assign body w fun e w' => e = .returned (.bool true) ∧ G w'
section
variable {P : Program} {ρ : Env} {w : World} {G : Value → World → Prop} {d : Option Nat} {ty : TypeId} {pos : String} {af : Array Edge} {g : Option (Nat × Bool)}
theorem Y.yield {l : Nat} {fx : Operand} {args : List Operand} {ts : Array TypeId} {vs : List Value} {R : World → Prop} (hf : ev ρ fx = some (.func (.yield l) #[] #[])) (ha : evs ρ args = some vs) (hc : YieldsTo P l vs w R) (h : ∀ w', R w' → G (.bool true) w') :
    OpY P ⟨d, .call ⟨.value fx, args.toArray, ts⟩, ty, pos, af, g⟩ ρ w G := by
  refine OpY.of fun e he => ?_
  obtain ⟨fn, tmps, assign, body, hy, hr⟩ := hc
  have hm := evs_map he ha
  have hfe := he fx _ hf
  have : (execOp e ⟨d, .call ⟨.value fx, args.toArray, ts⟩, ty, pos, af, g⟩).run P w = .ok (.round l fn tmps assign body) w := by
    simp only [execOp, resolve, hfe]
    simp [invoke, go_sem, hm, hy]
  rw [this]
  exact hr.mono fun e w' ⟨h1, h2⟩ => ⟨_, h1, h _ h2⟩
end
def RoundQ (n : Slots) (ρ : Env) (ps : Array Tmp) (assign body : Code) (l D : Nat) (G : World → Prop) : Exit → Act → World → Prop
  | .normal, _, w => LoopS n ρ ps assign body l D .busy w ∧ ∀ w', Chg (· = l) w w' → w'.heap.size = w.heap.size → LoopS n ρ ps assign body l D .ready w' → G w'
  | _, _, _ => False
theorem QN.rounded {n m : Slots} {ρ ρ' : Env} {ps : Array Tmp} {assign body : Code} {l D : Nat} {G : World → Prop} {w : World} (hL : LoopS m ρ' ps assign body l D .busy w) (h : ∀ w', Chg (· = l) w w' → w'.heap.size = w.heap.size → LoopS m ρ' ps assign body l D .ready w' → G w') : QN (RoundQ m ρ' ps assign body l D G) .normal n ρ w := QN.of fun _ _ => ⟨hL, h⟩
def BeginQ (P : Program) (n : Slots) (ρ : Env) (ps : Array Tmp) (assign body : Code) (l D : Nat) (G : World → Prop) : Exit → Act → World → Prop :=
  Exit.then (fun a w => LoopS n ρ ps assign body l D .ready w ∧ ∃ ρ', Sat ⟨n.size, [], some l⟩ ρ' a ∧ ∀ w', Chg (· = l) w w' → w'.heap.size = w.heap.size → LoopS n ρ ps assign body l D .busy w' → XC P body (RoundQ n ρ ps assign body l D G) ⟨n.size, [], some l⟩ ρ' w') (fun _ _ _ => False)
theorem QN.begun {P : Program} {m : Slots} {ρ ρ' : Env} {ps : Array Tmp} {assign body : Code} {l D : Nat} {G : World → Prop} {w : World} (hL : LoopS m ρ' ps assign body l D .ready w)
    (h : ∀ w', Chg (· = l) w w' → w'.heap.size = w.heap.size → LoopS m ρ' ps assign body l D .busy w' → XC P body (RoundQ m ρ' ps assign body l D G) ⟨m.size, [], some l⟩ ρ w') : QN (BeginQ P m ρ' ps assign body l D G) .normal ⟨m.size, [], some l⟩ ρ w := QN.of fun _ ha => ⟨hL, ρ, ha, h⟩
def zipEnv : List Tmp → List Value → Env → Env
  | p :: ps, v :: vs, ρ => zipEnv ps vs ((p, v) :: ρ)
  | _, _, ρ => ρ
theorem Sat.zip {n : Slots} : ∀ {ps : List Tmp} {vs : List Value} {ρ : Env} {tmps : Array Value}, (ps.all fun p => Nat.blt p n.size) = true → Sat n ρ { tmps := tmps, defers := [] } → Sat n (zipEnv ps vs ρ) { tmps := (ps.zip vs).foldl (fun t (p, v) => t.setIfInBounds p v) tmps, defers := [] }
  | [], _, _, _, _, h => by cases ‹List Value› <;> exact h
  | p :: ps, [], _, _, _, h => h
  | p :: ps, v :: vs, ρ, tmps, hp, h => by
    simp only [List.all_cons, Bool.and_eq_true] at hp
    have h1 := h.put hp.1 v
    exact Sat.zip (ps := ps) (vs := vs) hp.2 h1
theorem YieldsTo.of {P : Program} {n : Nat} {ρ : Env} {ps : List Tmp} {assign body : Code} {l D : Nat} {w : World} {vs : List Value} {G : World → Prop} (hL : LoopS ⟨n, [], none⟩ ρ ps.toArray assign body l D .ready w) (hps : (ps.all fun p => Nat.blt p n) = true) (hlen : vs.length = ps.length)
    (h : XC P assign (BeginQ P ⟨n, [], none⟩ ρ ps.toArray assign body l D G) ⟨n, [], some l⟩ (zipEnv ps vs ρ) w) : YieldsTo P l vs w G := by
  obtain ⟨fn, tmps, h1, h2, h3⟩ := hL
  have hy := run_yield (P := P) (args := vs.toArray) h1 (by simp [hlen])
  refine ⟨fn, _, assign, body, hy, ?_⟩
  refine roundIn_of_wpIn trivial ?_
  have hs : Sat ⟨n, [], some l⟩ (zipEnv ps vs ρ) { tmps := (ps.toArray.zip vs.toArray).foldl (fun t (p, v) => t.setIfInBounds p v) tmps, defers := [] } := by
    have := Sat.zip (ps := ps) (vs := vs) (n := ⟨n, [], some l⟩) hps ⟨h3.size, rfl, h3.sat⟩
    simpa using this
  refine wpIn_mono (h.run _ hs) ?_
  intro e a1 w1 hq
  cases e with
  | normal =>
    obtain ⟨⟨fn', tmps', k1, k2, k3⟩, ρ', ha, hb⟩ := hq
    refine ⟨_, run_beginRound k1 rfl, ?_⟩
    obtain ⟨c1, c2, c3⟩ := chg_putObj (o := .loop { state := .busy, pending := none, fn := fn', tmps := tmps', params := ps.toArray, assign, body, defers := D }) k1
    have hDl : D ≠ l := fun e => by subst e; rw [HB] at k1 k2; rw [k1] at k2; cases k2
    refine wpIn_mono ((hb _ c1 c3 ⟨fn', tmps', c2, k2.chg c1 hDl, k3⟩).run _ ha) ?_
    intro e a2 w2 hq2
    cases e with
    | normal =>
      obtain ⟨⟨fn2, tmps2, m1, m2, m3⟩, hg⟩ := hq2
      have hr := run_endRound (P := P) none m1
      obtain ⟨d1, d2, d3⟩ := chg_putObj (o := .loop { state := .ready, pending := none, fn := fn2, tmps := tmps2, params := ps.toArray, assign, body, defers := D }) m1
      exact ⟨_, _, hr, rfl, hg _ d1 d3 ⟨fn2, tmps2, d2, m2.chg d1 hDl, m3⟩⟩
    | exit id => exact hq2.elim
    | goto l => exact hq2.elim
    | ret => exact hq2.elim
    | panic ch => exact hq2.elim
    | outgrown => exact hq2.elim
  | exit id => exact hq.elim
  | goto l => exact hq.elim
  | ret => exact hq.elim
  | panic ch => exact hq.elim
  | outgrown => exact hq.elim
def markOf (D : Nat) : Deferred := { target := .collected D, args := #[] }
theorem XC.rangeFunc {P : Program} {Q : Exit → Act → World → Prop} {n : Nat} {ρ : Env} {w : World} {fx : Operand} {ps : Array Tmp} {assign body : Code} {gf : FuncId} {lb : List Value} (hf : ev ρ fx = some (.func (.func gf) #[] lb.toArray)) (hok : CallOK P gf)
    (h : ∀ l D w1, D = w.heap.size → l = w.heap.size + 1 → w1.heap.size = w.heap.size + 2 → Ext w w1 → LoopS ⟨n, [], none⟩ ρ ps assign body l D .ready w1 →
      Rets P gf (#[.func (.yield l) #[] #[]] ++ lb.toArray) w1 fun _ w2 => LoopS ⟨n, [], none⟩ ρ ps assign body l D .ready w2 ∧ ∀ w3, Chg (· = l) w2 w3 → w3.heap.size = w2.heap.size → HB w3 D (.deferred (some [])) → QN Q .normal ⟨n, [markOf D], none⟩ ρ w3) :
    XC P (.rangeFunc fx ps assign body) Q ⟨n, [], none⟩ ρ w := by
  refine XC.of fun a ha => ?_
  refine wpIn_rangeFunc (F := FR none) ?_
  intro fn _
  obtain ⟨c1, c2, c3⟩ : Ext w (w.alloc (.deferred (some []))) ∧ HB (w.alloc (.deferred (some []))) w.heap.size (.deferred (some [])) ∧ (w.alloc (.deferred (some []))).heap.size = w.heap.size + 1 := ⟨Ext.alloc _ _, World.alloc_heap_new _ _, by simp⟩
  have key : ∀ rec, Ext (w.alloc (.deferred (some []))) ((w.alloc (.deferred (some []))).alloc (.loop rec)) ∧ HB ((w.alloc (.deferred (some []))).alloc (.loop rec)) (w.heap.size + 1) (.loop rec) := fun rec => ⟨Ext.alloc _ _, by have := World.alloc_heap_new (w.alloc (.deferred (some []))) (.loop rec); rwa [c3] at this⟩
  obtain ⟨k1, k2⟩ := key { state := .ready, pending := none, fn, tmps := a.tmps, params := ps, assign, body, defers := w.heap.size }
  have hr := h (w.heap.size + 1) w.heap.size _ rfl rfl (by simp) (c1.trans k1) ⟨fn, a.tmps, k2, c2.ext k1, ha.size, rfl, ha.sat⟩
  have hfe := ha.sat fx _ hf
  obtain ⟨fnn, hfn, hname, hbody⟩ := hok
  generalize hW : (w.alloc (.deferred (some []))).alloc (.loop { state := .ready, pending := none, fn, tmps := a.tmps, params := ps, assign, body, defers := w.heap.size }) = W at hr k1 k2
  refine ⟨w.heap.size + 1, [markOf w.heap.size], W, { target := .fn (.func gf) lb.toArray, args := #[.func (.yield (w.heap.size + 1)) #[] #[]] }, W, gf, #[.func (.yield (w.heap.size + 1)) #[] #[]] ++ lb.toArray, W, ?_, ?_, fun _ _ => trivial, ?_, fun h => by simp [FR] at h, ?_⟩
  · rw [← hW]; exact run_enterLoop_outer _ _ _ _ _
  · simp only [resolve, hfe]
    simp [go_sem]
  · have h2 : ¬ fnn.name = "runtime.NumGoroutine" := by simpa using hname
    have h3 : ¬ fnn.body = none := by intro e; simp [e] at hbody
    simp [invoke, go_sem, callFunc, hfn, h2, h3]
  · refine callsIn_FR (Calls.mono hr ?_)
    rintro e w2 ⟨v, rfl, ⟨fn2, tmps2, m1, m2, m3⟩, hq⟩
    have he := run_endLoop (P := P) m1 (by simp)
    obtain ⟨d1, d2, d3⟩ := chg_putObj (o := .loop { state := .exhausted, pending := none, fn := fn2, tmps := tmps2, params := ps, assign, body, defers := w.heap.size }) m1
    exact ⟨none, _, he, (hq _ d1 d3 (m2.chg d1 (by omega))).run _ ⟨ha.size, by simp [ha.defers], ha.sat⟩⟩
theorem Rets.enterM {P : Program} {f : FuncId} {fn : Func} {c : Code} {n : Nat} {args : List Value} {w : World} {R : Value → World → Prop}
    (hf : P.funcs[f]? = some fn) (hb : fn.body = some c) (hn : fn.ntmps = n) (hl : Nat.ble args.length n = true)
    (h : ∀ R' : Value → World → Prop, (∀ v w', R v w' → R' v w') → XC P c (bodyPostM Fence.wide 0 P fn fun e w' => ∃ v, e = .returned v ∧ R' v w') ⟨n, [], none⟩ (envOf args) w) : Rets P f args.toArray w R := by
  refine (callsIn_wide (n := 0)).1 (callsIn_of_wp_marks hf hb trivial ((h R (fun _ _ h => h)).run _ ?_))
  subst hn
  have hl' : args.length ≤ fn.ntmps := by simpa using hl
  refine ⟨by simp; omega, rfl, ?_⟩
  intro x v hx
  cases x with
  | tmp t =>
    have := envOf_get hx
    have hlt : t < args.length := (List.getElem?_eq_some_iff.1 this).1
    simp only [Act.eval]
    rw [Array.getD_eq_getD_getElem?, Array.getElem?_append_left (by simpa using hlt)]
    simp [this]
  | const c => simp [ev] at hx; simpa [Act.eval] using hx
  | global g => simp [ev] at hx; simpa [Act.eval] using hx
  | func f => simp [ev] at hx; simpa [Act.eval] using hx
theorem QN.doneM {P : Program} {fn : Func} {Q : Exit → Act → World → Prop} {e : Exit} {R : Value → World → Prop} {n : Slots} {ρ : Env} {w : World} {l : List Value} {D : Nat} (he : e = .ret ∨ e = .normal) (hQ : Q e = bodyPostM Fence.wide 0 P fn (fun e w' => ∃ v, e = .returned v ∧ R v w') e)
    (hr : resOf ρ fn.results.toList = some l) (hds : n.ds = [markOf D]) (hD : HB w D (.deferred (some []))) (h : ∀ w', Chg (· = D) w w' → w'.heap.size = w.heap.size → R (resVal l) w') : QN Q e n ρ w := by
  refine QN.of fun a ha => ?_
  rw [hQ]
  have key : LeavesInM Fence.wide 0 P fn a.tmps (fun e w' => ∃ v, e = .returned v ∧ R v w') a.defers .returning w := by
    rw [ha.defers, hds]
    obtain ⟨d1, d2, d3⟩ := chg_putObj (o := .deferred none) hD
    exact ⟨by simp, .inl ⟨D, _, rfl, run_takeDeferred hD, _, results_run ha l hr, _, rfl, h _ d1 d3⟩⟩
  rcases he with rfl | rfl
  · exact key
  · exact key
end Go.Proofs.YtchammpamigonaaGreatX
end
section
namespace Go.Proofs.YtchammpamigonaaGreatX
open Go
def pow2F : Nat → Nat
  | 0 => 1
  | k + 1 => let y := pow2F k * 2; if y > 255 then y ^^^ 285 else y
def tabE : Nat → List UInt8
  | 0 => List.replicate 255 0
  | k + 1 => (tabE k).set k (UInt8.ofNat (pow2F k))
def tabL : Nat → List Nat
  | 0 => List.replicate 256 0
  | k + 1 => (tabL k).set (pow2F k) k
theorem tabE_length : ∀ k, (tabE k).length = 255
  | 0 => by rw [tabE, List.length_replicate]
  | k + 1 => by simp [tabE, tabE_length k]
theorem tabL_length : ∀ k, (tabL k).length = 256
  | 0 => by rw [tabL, List.length_replicate]
  | k + 1 => by simp [tabL, tabL_length k]
def fieldCells (k : Nat) : List Value := bytesV (tabE k) ++ (tabL k).map fun n : Nat => Value.int .i64 (n : Int)
theorem pow2F_lt : ∀ k, k ≤ 255 → pow2F k < 256 := by
  have h : (List.range 256).all (fun k => decide (pow2F k < 256)) = true := by decide +kernel
  intro k hk
  have := List.all_eq_true.1 h k (List.mem_range.2 (by omega))
  simpa using this
def expT : List UInt8 := tabE 255
def logT : List Nat := tabL 255
theorem logT_lt : ∀ x, logT.getD x 0 < 255 := by
  have h : logT.all (fun n => decide (n < 255)) = true := by decide +kernel
  intro x
  rcases Nat.lt_or_ge x logT.length with hx | hx
  · have := List.all_eq_true.1 h logT[x] (by simp)
    rw [List.getD_eq_getElem?_getD, List.getElem?_eq_getElem hx]
    simpa using this
  · rw [List.getD_eq_getElem?_getD, List.getElem?_eq_none hx]; simp
def gmul (a b : UInt8) : UInt8 := if a = 0 then 0 else if b = 0 then 0 else expT.getD ((logT.getD a.toNat 0 + logT.getD b.toNat 0) % 255) 0
def ginv (a : UInt8) : UInt8 := if a = 0 then 0 else expT.getD ((255 - logT.getD a.toNat 0) % 255) 0
theorem fieldCells_length (k : Nat) : (fieldCells k).length = 511 := by simp [fieldCells, bytesV, tabE_length, tabL_length]
theorem fieldCells_exp (i : Nat) (h : i < 255) : (fieldCells 255)[i]? = some (byteV (expT.getD i 0)) := by
  have hl : (tabE 255).length = 255 := tabE_length 255
  rw [fieldCells, List.getElem?_append_left (by simp [bytesV, hl]; exact h)]
  simp [bytesV, expT, List.getD_eq_getElem?_getD, hl, h]
theorem fieldCells_log (x : Nat) (h : x < 256) : (fieldCells 255)[255 + x]? = some (.int .i64 (logT.getD x 0 : Nat)) := by
  have hl : (tabE 255).length = 255 := tabE_length 255
  have hl2 : (tabL 255).length = 256 := tabL_length 255
  rw [fieldCells, List.getElem?_append_right (by simp [bytesV, hl])]
  simp [bytesV, hl, logT, List.getD_eq_getElem?_getD, hl2, h]
theorem fieldCells_step (k : Nat) (h : k < 255) : ((fieldCells k).toArray.setIfInBounds k (byteV (UInt8.ofNat (pow2F k)))).setIfInBounds (255 + pow2F k) (.int .i64 (k : Int)) = (fieldCells (k + 1)).toArray := by
  have hl : (bytesV (tabE k)).length = 255 := by simp [bytesV, tabE_length]
  rw [List.setIfInBounds_toArray, List.setIfInBounds_toArray]
  refine congrArg List.toArray ?_
  rw [fieldCells, List.set_append, if_pos (by rw [hl]; exact h), List.set_append, if_neg (by rw [List.length_set, hl]; omega), List.length_set, hl, Nat.add_sub_cancel_left]
  show _ = bytesV ((tabE k).set k (UInt8.ofNat (pow2F k))) ++ ((tabL k).set (pow2F k) k).map fun n : Nat => Value.int .i64 (n : Int)
  rw [List.map_set, bytesV, bytesV, List.map_set]
theorem pow2F_big {k : Nat} (h : 255 < pow2F k * 2) : pow2F (k + 1) = pow2F k * 2 ^^^ 285 := if_pos h
theorem pow2F_small {k : Nat} (h : ¬ 255 < pow2F k * 2) : pow2F (k + 1) = pow2F k * 2 := if_neg h
theorem pow2F_step (k : Nat) (h : k ≤ 255) : IntKind.i64.wrap ((pow2F k : Int) * 2 ^ (min (1 : Int).toNat IntKind.i64.bits)) = ((pow2F k * 2 : Nat) : Int) := by
  have := pow2F_lt k h
  rw [show (2 : Int) ^ (min (1 : Int).toNat IntKind.i64.bits) = 2 from rfl, wrap64 (by omega) (by omega)]; simp
theorem xor_poly (y : Nat) (h : y < 2 ^ 63) : IntKind.i64.wrap ((BitVec.ofInt IntKind.i64.bits (y : Int) ^^^ BitVec.ofInt IntKind.i64.bits 285).toNat : Int) = ((y ^^^ 285 : Nat) : Int) := by
  show IntKind.i64.wrap ((BitVec.ofInt 64 (y : Int) ^^^ BitVec.ofInt 64 ((285 : Nat) : Int)).toNat : Int) = _
  rw [BitVec.ofInt_natCast, BitVec.ofInt_natCast, BitVec.toNat_xor, BitVec.toNat_ofNat, BitVec.toNat_ofNat, Nat.mod_eq_of_lt (by omega), Nat.mod_eq_of_lt (by omega)]
  have : y ^^^ 285 < 2 ^ 63 := Nat.xor_lt_two_pow h (by omega)
  exact wrap64 (by omega) (by omega)
def IsField (T : TypeId) (w : World) (p : Value) : Prop := ∃ b, p = .pointer (some ⟨b, 0, none⟩) ∧ HB w b (.cells (fieldCells 255).toArray T (0, 0))
theorem IsField.ext {T : TypeId} {w w' : World} {p : Value} (h : IsField T w p) (hE : Ext w w') : IsField T w' p := let ⟨b, h1, h2⟩ := h; ⟨b, h1, h2.ext hE⟩
theorem cell_arr {w : World} {b o : Nat} {cs : List Value} {T : TypeId} {fr : Nat × Nat} {v : Value} (h : w.heap[b]? = some (.cells cs.toArray T fr)) (hv : cs[o]? = some v) : w.cell? ⟨b, o, none⟩ = some v := by
  rw [cell_of_row w b o _ T fr h]; simpa using hv
theorem log_cell {w : World} {b : Nat} {T : TypeId} (h : HB w b (.cells (fieldCells 255).toArray T (0, 0))) (a : UInt8) : w.cell? ⟨b, 0 + 255 + (a.toNat : Int).toNat * 1, none⟩ = some (.int .i64 (logT.getD a.toNat 0 : Nat)) :=
  cell_arr h (by rw [Nat.zero_add, Int.toNat_natCast, Nat.mul_one]; exact fieldCells_log _ a.toNat_lt)
theorem exp_cell {w : World} {b : Nat} {T : TypeId} (h : HB w b (.cells (fieldCells 255).toArray T (0, 0))) (i : Nat) (hi : i < 255) : w.cell? ⟨b, 0 + 0 + (i : Int).toNat * 1, none⟩ = some (byteV (expT.getD i 0)) :=
  cell_arr h (by rw [Nat.zero_add, Int.toNat_natCast, Nat.mul_one]; exact fieldCells_exp _ hi)
theorem tmodN (a b : Nat) : (a : Int).tmod (b : Int) = ((a % b : Nat) : Int) := rfl
theorem byte_ne {a : UInt8} (h : ¬ (a.toNat : Int) = 0) : a ≠ 0 := by rintro rfl; exact h rfl
theorem byte_eq0 {a : UInt8} (h : (a.toNat : Int) = 0) : a = 0 := UInt8.toNat_inj.1 (by rw [show a.toNat = 0 from by omega]; rfl)
theorem gmul_zero_left (b : UInt8) : gmul 0 b = 0 := by simp [gmul]
theorem gmul_zero_right (a : UInt8) : gmul a 0 = 0 := by simp [gmul]
theorem gmul_nz {a b : UInt8} (ha : a ≠ 0) (hb : b ≠ 0) : gmul a b = expT.getD ((logT.getD a.toNat 0 + logT.getD b.toNat 0) % 255) 0 := by simp [gmul, ha, hb]
theorem ginv_nz {a : UInt8} (ha : a ≠ 0) : ginv a = expT.getD ((255 - logT.getD a.toNat 0) % 255) 0 := by simp [ginv, ha]
end Go.Proofs.YtchammpamigonaaGreatX
end
section
namespace Go.Proofs.YtchammpamigonaaGreatX
open Go Go.RowKit
theorem Own.at {S : Nat → Prop} {w : World} {T : TypeId} {sz : Nat} {v : Value} {n : Nat} {xs : List Value} (h : Own S w T sz v n xs) : ∃ g, v.ownBlock = some g ∧ S g ∧ g < w.heap.size ∧ Own (· = g) w T sz v n xs := by
  obtain ⟨h0, h1, g, cap, cur, fr, rfl, h2, h3, h4, h5, r⟩ := h
  exact ⟨g, rfl, h4, lt_of_heap h5, h0, h1, g, cap, cur, fr, rfl, h2, h3, rfl, h5, r⟩
theorem Own.chg {S R : Nat → Prop} {w w' : World} {T : TypeId} {sz : Nat} {v : Value} {n : Nat} {xs : List Value} (h : Own R w T sz v n xs) (hC : Chg S w w') (hd : ∀ b, b < w.heap.size → R b → ¬ S b) : Own R w' T sz v n xs := h.same (hC.same hd)
theorem Apd.chg {S R : Nat → Prop} {w w' : World} {T : TypeId} {sz : Nat} {v : Value} {n : Nat} {xs : List Value} (h : Apd R w T sz v n xs) (hC : Chg S w w') (hd : ∀ b, b < w.heap.size → R b → ¬ S b) : Apd R w' T sz v n xs := h.same (hC.same hd)
structure RowsOwn (TB : TypeId) (w : World) (us : List Value) (gs : List Nat) (m : List (List UInt8)) : Prop where
  lu : us.length = m.length
  lg : gs.length = m.length
  nodup : gs.Nodup
  row : ∀ (i : Nat) (u : Value) (g : Nat) (l : List UInt8), us[i]? = some u → gs[i]? = some g → m[i]? = some l → Own (· = g) w TB 1 u l.length (bytesV l)
theorem RowsOwn.chg {TB : TypeId} {w w' : World} {us : List Value} {gs : List Nat} {m : List (List UInt8)} {S : Nat → Prop} (h : RowsOwn TB w us gs m) (hC : Chg S w w') (hd : ∀ g ∈ gs, ¬ S g) : RowsOwn TB w' us gs m :=
  ⟨h.lu, h.lg, h.nodup, fun i u g l h1 h2 h3 => (h.row i u g l h1 h2 h3).chg hC fun b _ hb => by subst hb; exact hd _ (List.mem_of_getElem? h2)⟩
theorem RowsOwn.lt {TB : TypeId} {w : World} {us : List Value} {gs : List Nat} {m : List (List UInt8)} (h : RowsOwn TB w us gs m) : ∀ g ∈ gs, g < w.heap.size := by
  intro g hg
  obtain ⟨i, hi, rfl⟩ := List.mem_iff_getElem.1 hg
  have h1 : i < us.length := by rw [h.lu, ← h.lg]; exact hi
  have h2 : i < m.length := by rw [← h.lg]; exact hi
  obtain ⟨g', _, hg', hlt, _⟩ := (h.row i us[i] gs[i] m[i] (by simp [h1]) (by simp [hi]) (by simp [h2])).at
  rwa [← hg']
theorem RowsOwn.rows {TB : TypeId} {w : World} {us : List Value} {gs : List Nat} {m : List (List UInt8)} {F : Nat → Prop} (h : RowsOwn TB w us gs m) (hF : ∀ g ∈ gs, F g) : RowsAll F w us m := by
  have key : ∀ (us : List Value) (gs : List Nat) (m : List (List UInt8)), us.length = m.length → gs.length = m.length → (∀ (i : Nat) (u : Value) (g : Nat) (l : List UInt8), us[i]? = some u → gs[i]? = some g → m[i]? = some l → Own (· = g) w TB 1 u l.length (bytesV l)) → (∀ g ∈ gs, F g) → RowsAll F w us m := by
    intro us
    induction us with
    | nil => intro gs m h1 h2 _ _; cases m with
      | nil => trivial
      | cons _ _ => simp at h1
    | cons u us ih =>
      intro gs m h1 h2 h3 h4
      cases m with
      | nil => simp at h1
      | cons l m =>
        cases gs with
        | nil => simp at h2
        | cons g gs =>
          refine ⟨((h3 0 u g l rfl rfl rfl).row).mono fun b _ hb => by rw [show b = g from hb]; exact h4 g (by simp), ih gs m (by simpa using h1) (by simpa using h2) (fun i u g l a b c => h3 (i + 1) u g l (by simpa using a) (by simpa using b) (by simpa using c)) fun g hg => h4 g (by simp [hg])⟩
  exact key us gs m h.lu h.lg h.row hF
theorem RowsOwn.snoc {TB : TypeId} {w : World} {us : List Value} {gs : List Nat} {m : List (List UInt8)} (h : RowsOwn TB w us gs m) {u : Value} {g : Nat} {l : List UInt8} (hg : g ∉ gs) (ho : Own (· = g) w TB 1 u l.length (bytesV l)) : RowsOwn TB w (us ++ [u]) (gs ++ [g]) (m ++ [l]) := by
  refine ⟨by simp [h.lu], by simp [h.lg], ?_, ?_⟩
  · rw [List.nodup_append]
    refine ⟨h.nodup, by simp, ?_⟩
    intro a ha b hb
    simp at hb
    subst hb
    exact fun e => hg (e ▸ ha)
  · intro i u' g' l' h1 h2 h3
    rcases Nat.lt_or_ge i m.length with hi | hi
    · rw [List.getElem?_append_left (by rw [h.lu]; exact hi)] at h1
      rw [List.getElem?_append_left (by rw [h.lg]; exact hi)] at h2
      rw [List.getElem?_append_left hi] at h3
      exact h.row i u' g' l' h1 h2 h3
    · rw [List.getElem?_append_right (by rw [h.lu]; exact hi), h.lu] at h1
      rw [List.getElem?_append_right (by rw [h.lg]; exact hi), h.lg] at h2
      rw [List.getElem?_append_right hi] at h3
      cases hk : i - m.length with
      | zero => rw [hk] at h1 h2 h3; simp at h1 h2 h3; subst h1; subst h2; subst h3; exact ho
      | succ k => rw [hk] at h1; simp at h1
theorem RowsOwn.set {TB : TypeId} {w : World} {us : List Value} {gs : List Nat} {m : List (List UInt8)} (h : RowsOwn TB w us gs m) {i : Nat} {u : Value} {g : Nat} {l : List UInt8} (hg : ∀ j : Nat, gs[j]? = some g → j = i) (ho : Own (· = g) w TB 1 u l.length (bytesV l)) : RowsOwn TB w (us.set i u) (gs.set i g) (m.set i l) := by
  refine ⟨by simp [h.lu], by simp [h.lg], ?_, ?_⟩
  · have hn := List.pairwise_iff_getElem.1 h.nodup
    refine List.pairwise_iff_getElem.2 fun a b ha hb hab => ?_
    simp only [List.length_set] at ha hb
    rw [List.getElem_set, List.getElem_set]
    by_cases e1 : i = a
    · rw [if_pos e1, if_neg (by omega)]
      intro he
      have := hg b (by rw [List.getElem?_eq_getElem hb, ← he])
      omega
    · rw [if_neg e1]
      by_cases e2 : i = b
      · rw [if_pos e2]
        intro he
        have := hg a (by rw [List.getElem?_eq_getElem ha, he])
        omega
      · rw [if_neg e2]
        exact hn a b ha hb hab
  · intro j u' g' l' h1 h2 h3
    rw [List.getElem?_set] at h1 h2 h3
    by_cases e : i = j
    · subst e
      simp only [if_true] at h1 h2 h3
      split at h1 <;> simp at h1
      split at h2 <;> simp at h2
      split at h3 <;> simp at h3
      subst h1; subst h2; subst h3
      exact ho
    · rw [if_neg e] at h1 h2 h3
      exact h.row j u' g' l' h1 h2 h3
def OMat (TR TB : TypeId) (F : Nat → Prop) (w : World) (v : Value) (m : List (List UInt8)) : Prop :=
  ∃ So us gs, Apd So w TR 1 v m.length us ∧ (m ≠ [] → Own So w TR 1 v m.length us) ∧ RowsOwn TB w us gs m ∧ (∀ g ∈ gs, ¬ So g) ∧ (∀ b, So b → F b) ∧ (∀ g ∈ gs, F g) ∧ (∀ b, So b → b < w.heap.size)
def btw (lo hi : Nat) : Nat → Prop := fun b => lo ≤ b ∧ b < hi
theorem OMat.nil (TR TB : TypeId) (F : Nat → Prop) (w : World) : OMat TR TB F w (.slice none 0 0) [] :=
  ⟨NoB, [], [], Apd.nil _ _ _ _, fun h => absurd rfl h, ⟨rfl, rfl, List.nodup_nil, fun i u g l h => by simp at h⟩, by simp, fun _ h => h.elim, by simp, fun _ h => h.elim⟩
theorem OMat.chg {TR TB : TypeId} {F S : Nat → Prop} {w w' : World} {v : Value} {m : List (List UInt8)} (h : OMat TR TB F w v m) (hC : Chg S w w') (hd : ∀ b, F b → ¬ S b) : OMat TR TB F w' v m := by
  obtain ⟨So, us, gs, h1, h2, h3, h4, h5, h6, h7⟩ := h
  exact ⟨So, us, gs, h1.chg hC fun b _ hb => hd b (h5 b hb), fun hm => (h2 hm).chg hC fun b _ hb => hd b (h5 b hb), h3.chg hC fun g hg => hd g (h6 g hg), h4, h5, h6, fun b hb => Nat.lt_of_lt_of_le (h7 b hb) hC.size⟩
theorem OMat.ext {TR TB : TypeId} {F : Nat → Prop} {w w' : World} {v : Value} {m : List (List UInt8)} (h : OMat TR TB F w v m) (hE : Ext w w') : OMat TR TB F w' v m := h.chg hE fun _ _ h => h
theorem OMat.mono {TR TB : TypeId} {F F' : Nat → Prop} {w : World} {v : Value} {m : List (List UInt8)} (h : OMat TR TB F w v m) (hF : ∀ b, b < w.heap.size → F b → F' b) : OMat TR TB F' w v m := by
  obtain ⟨So, us, gs, h1, h2, h3, h4, h5, h6, h7⟩ := h
  exact ⟨So, us, gs, h1, h2, h3, h4, fun b hb => hF b (h7 b hb) (h5 b hb), fun g hg => hF g (h3.lt g hg) (h6 g hg), h7⟩
theorem OMat.rows {TR TB : TypeId} {F : Nat → Prop} {w : World} {v : Value} {m : List (List UInt8)} (h : OMat TR TB F w v m) : Rows F w v m := by
  obtain ⟨So, us, gs, h1, h2, h3, h4, h5, h6, h7⟩ := h
  exact ⟨us, h1.row.mono fun b _ hb => h5 b hb, h3.rows h6⟩
theorem OMat.cast {TR TB : TypeId} {F : Nat → Prop} {w : World} {v : Value} {m m' : List (List UInt8)} (h : OMat TR TB F w v m) (he : m = m') : OMat TR TB F w v m' := he ▸ h
theorem Rows.get {S : Nat → Prop} {w : World} {v : Value} {m : List (List UInt8)} (h : Rows S w v m) : ∃ vs, Row S w v m.length vs ∧ vs.length = m.length ∧ ∀ i (hi : i < m.length), ∃ q, vs[i]? = some q ∧ Bs S w q m[i] := by
  obtain ⟨vs, h1, h2⟩ := h
  exact ⟨vs, h1, h2.len, fun i hi => h2.get (i := i) (List.getElem?_eq_getElem hi)⟩
theorem Rows.val {S : Nat → Prop} {w : World} {v : Value} {m : List (List UInt8)} (h : Rows S w v m) : ∃ a cap, v = .slice a m.length cap := let ⟨_, h1, _⟩ := h; h1.val
theorem Rows.old {S : Nat → Prop} {w : World} {v : Value} {m : List (List UInt8)} (h : Rows S w v m) : Rows (· < w.heap.size) w v m := h.mono fun _ hb _ => hb
theorem Rows.any {S : Nat → Prop} {w : World} {v : Value} {m : List (List UInt8)} (h : Rows S w v m) : Rows AnyB w v m := h.mono fun _ _ _ => trivial
theorem OMat.grow {TR TB : TypeId} {lo hi hi2 b : Nat} {w : World} {v : Value} {m : List (List UInt8)} (h : OMat TR TB (fun x => btw lo hi x ∨ x = b ∨ btw hi2 w.heap.size x) w v m) (h1 : lo ≤ b) (h2 : lo ≤ hi2) : OMat TR TB (btw lo w.heap.size) w v m :=
  h.mono fun x hx hF => ⟨hF.elim (fun h => h.1) fun hF => hF.elim (fun h => h ▸ h1) fun h => Nat.le_trans h2 h.1, hx⟩
theorem OMat.wider {TR TB : TypeId} {lo hi : Nat} {w : World} {v : Value} {m : List (List UInt8)} (h : OMat TR TB (btw lo hi) w v m) : OMat TR TB (btw lo w.heap.size) w v m := h.mono fun x hx hF => ⟨hF.1, hx⟩
theorem Own.cell {S : Nat → Prop} {w : World} {T : TypeId} {v x : Value} {n b j : Nat} {xs : List Value} (h : Own S w T 1 v n xs) (hb : v.ownBlock = some b) (hj : xs[j]? = some x) : w.cell? ⟨b, j, none⟩ = some x := by
  obtain ⟨h0, h1, g, cap, cur, fr, rfl, h2, h3, h4, h5, h6, h7, h8⟩ := h
  simp [Value.ownBlock] at hb
  subst hb
  rw [cell_of_row w _ j cur T fr h5]
  have hlt := (List.getElem?_eq_some_iff.1 hj).1
  rw [← h8, List.getElem?_take] at hj
  split at hj
  · simpa using hj
  · cases hj
section
variable {P : Program} {ρ : Env} {w : World} {G : Value → World → Prop} {d : Option Nat} {ty : TypeId} {pos : String} {af : Array Edge} {g : Option (Nat × Bool)}
theorem Y.indexOn {x y : Operand} {t e : TypeId} {bytes : Nat} {z : Value} {v : Value} {S : Nat → Prop} {n i : Nat} {xs : List Value} {k : IntKind} (ht : SliceT P t e 1 bytes z) (hx : ev ρ x = some v) (hy : ev ρ y = some (.int k (i : Int)))
    (hr : Own S w e 1 v n xs) (hi : i < n) (h : ∀ b, v.ownBlock = some b → S b → G (.pointer (some ⟨b, i, none⟩)) w) : OpY P ⟨d, .indexAddr t x y, ty, pos, af, g⟩ ρ w G :=
  Y.indexO ht hx hy hr ⟨by omega, by omega⟩ fun b hb hs => by rw [Int.toNat_natCast]; exact h b hb hs
theorem Y.appendRow {x y : Operand} {t u TR TB e' : TypeId} {bytes : Nat} {z : Value} {v q r : Value} {F R : Nat → Prop} {m : List (List UInt8)} {b : Nat} {l : List UInt8} (ht : SliceT P t TR 1 bytes z) (hu : P.underlying u = some (.slice e')) (hx : ev ρ x = some v) (hy : ev ρ y = some q)
    (hv : OMat TR TB F w v m) (hq : Row R w q 1 [r]) (hr : Own (· = b) w TB 1 r l.length (bytesV l)) (hb : ¬ F b) (hby : (m.length + 1) * bytes ≤ 140737488355328) (hnm : m.length + 1 ≤ 9223372036854775807)
    (h : ∀ v' w', OMat TR TB (fun x => F x ∨ x = b ∨ btw w.heap.size w'.heap.size x) w' v' (m ++ [l]) → Chg F w w' → G v' w') : OpY P ⟨d, .call ⟨.builtin .append, #[x, y], #[t, u]⟩, ty, pos, af, g⟩ ρ w G := by
  obtain ⟨So, us, gs, k1, k2, k3, k4, k5, k6, k7⟩ := hv
  have h1 : ∀ y ∈ [r], y.oneCell' = true := let ⟨_, _, _, _, _, _, h4, _⟩ := hq; h4
  obtain ⟨v', w', hrun, hA, hC, hO⟩ := run_append (P := P) (ty := ty) ht (.inl ⟨e', hu⟩) k1 (run_lenOf hq) (fun w' hw' => run_firstCells (hq.same (w' := w') (fun b _ _ => by rw [hw'])) (sz := 1) rfl) rfl h1 hby hnm
  have hbl : b < w.heap.size := by obtain ⟨_, _, hg', hlt, _⟩ := hr.at; rwa [← hg']
  have hbS : ¬ So b := fun hs => hb (k5 b hs)
  refine OpY.val (v := v') (w' := w') (fun e he => ?_) (h _ _ ⟨Grow So w w', us ++ [r], gs ++ [b], by simpa using hA, fun _ => by simpa using hO (by omega), ?_, ?_, ?_, ?_, ?_⟩ (hC.mono fun x _ hx => k5 x hx))
  · simp only [execOp, resolve, List.map_toArray, List.map_cons, List.map_nil]
    rw [he x _ hx, he y _ hy]
    simp [invoke, builtin, hrun]
  · refine (k3.chg hC k4).snoc (fun hg => hb (k6 b hg)) (hr.chg hC fun x _ hx => by rw [show x = b from hx]; exact hbS)
  · intro x hx
    rcases List.mem_append.1 hx with hx | hx
    · rintro (hs | hs)
      · exact k4 x hx hs
      · have := k3.lt x hx; omega
    · simp at hx
      subst hx
      rintro (hs | hs)
      · exact hbS hs
      · omega
  · rintro x (hx | hx)
    · exact .inl (k5 x hx)
    · exact .inr (.inr hx)
  · intro x hx
    rcases List.mem_append.1 hx with hx | hx
    · exact .inl (k6 x hx)
    · simp at hx; exact .inr (.inl hx)
  · rintro x (hx | hx)
    · exact Nat.lt_of_lt_of_le (k7 x hx) hC.size
    · exact hx.2
end
theorem xor8 (a b : UInt8) : IntKind.u8.wrap ((BitVec.ofInt IntKind.u8.bits (a.toNat : Int) ^^^ BitVec.ofInt IntKind.u8.bits (b.toNat : Int)).toNat : Int) = ((a ^^^ b).toNat : Int) := by
  show IntKind.u8.wrap ((BitVec.ofInt 8 (a.toNat : Int) ^^^ BitVec.ofInt 8 (b.toNat : Int)).toNat : Int) = _
  rw [BitVec.ofInt_natCast, BitVec.ofInt_natCast, BitVec.toNat_xor, BitVec.toNat_ofNat, BitVec.toNat_ofNat, Nat.mod_eq_of_lt a.toNat_lt, Nat.mod_eq_of_lt b.toNat_lt, UInt8.toNat_xor]
  have : a.toNat ^^^ b.toNat < 2 ^ 8 := Nat.xor_lt_two_pow a.toNat_lt b.toNat_lt
  exact wrapU8 (by omega) (by omega)
def xorL (l m : List UInt8) : List UInt8 := List.zipWith (· ^^^ ·) l m
theorem xorL_length (l m : List UInt8) : (xorL l m).length = min l.length m.length := by simp [xorL]
def xorK (k : Nat) (l m : List UInt8) : List UInt8 := xorL (l.take k) (m.take k) ++ l.drop k
theorem xorK_zero (l m : List UInt8) : xorK 0 l m = l := by simp [xorK, xorL]
theorem xorK_all (l m : List UInt8) (h : l.length = m.length) : xorK l.length l m = xorL l m := by rw [xorK, List.take_length, List.drop_length, List.append_nil, h, List.take_length]
theorem xorK_get (k : Nat) (l m : List UInt8) (h : l.length = m.length) (hk : k < l.length) : (xorK k l m)[k]? = some l[k] := by
  have e : (xorL (l.take k) (m.take k)).length = k := by rw [xorL_length, List.length_take, List.length_take]; omega
  rw [xorK, List.getElem?_append_right (by omega), e, Nat.sub_self, List.getElem?_drop, Nat.add_zero, List.getElem?_eq_getElem hk]
theorem xorK_succ (k : Nat) (l m : List UInt8) (h : l.length = m.length) (hk : k < l.length) : xorK (k + 1) l m = (xorK k l m).set k (l[k] ^^^ (m[k]'(h ▸ hk))) := by
  have hk2 : k < m.length := h ▸ hk
  have hl : (xorL (l.take k) (m.take k)).length = k := by rw [xorL_length]; simp; omega
  rw [xorK, xorK, List.set_append, if_neg (by omega), hl, Nat.sub_self, List.drop_eq_getElem_cons hk, List.set_cons_zero, take_succ_getD l k hk, take_succ_getD m k hk2, xorL, List.zipWith_append (by simp; omega)]
  simp [xorL]
def rowMul (n : Nat) (r : List UInt8) (B : List (List UInt8)) : List UInt8 := (List.zip r B).foldl (fun acc p => xorL acc (p.2.map (gmul p.1))) (List.replicate n 0)
def matMul (A B : List (List UInt8)) : List (List UInt8) := A.map fun r => rowMul (B.headD []).length r B
theorem rowMul_succ (n : Nat) (r : List UInt8) (B : List (List UInt8)) (k : Nat) (h1 : k < r.length) (h2 : k < B.length) : rowMul n (r.take (k + 1)) (B.take (k + 1)) = xorL (rowMul n (r.take k) (B.take k)) (B[k].map (gmul r[k])) := by
  rw [rowMul, rowMul, List.take_succ_eq_append_getElem h1, List.take_succ_eq_append_getElem h2, List.zip_append (by simp; omega)]
  simp
theorem rowMul_length (n : Nat) (r : List UInt8) (B : List (List UInt8)) (hB : ∀ l ∈ B, l.length = n) : (rowMul n r B).length = n := by
  rw [rowMul]
  have key : ∀ (ps : List (UInt8 × List UInt8)) (acc : List UInt8), acc.length = n → (∀ p ∈ ps, p.2.length = n) → (ps.foldl (fun acc p => xorL acc (p.2.map (gmul p.1))) acc).length = n := by
    intro ps
    induction ps with
    | nil => intro acc h _; simpa using h
    | cons p ps ih =>
      intro acc h hp
      simp only [List.foldl_cons]
      refine ih _ ?_ fun q hq => hp q (by simp [hq])
      rw [xorL_length, List.length_map, h, hp p (by simp), Nat.min_self]
  exact key _ _ (by simp) fun p hp => hB _ (List.of_mem_zip hp).2
def codingE (K i j : Nat) : UInt8 := if K ≤ i then ginv (UInt8.ofNat (i ^^^ j)) else if i = j then 1 else 0
def codingR (K i : Nat) : List UInt8 := (List.range K).map (codingE K i)
def codingP (K N : Nat) : List (List UInt8) := (List.range N).map (codingR K)
theorem codingP_succ (K i : Nat) : codingP K (i + 1) = codingP K i ++ [codingR K i] := by rw [codingP, List.range_succ, List.map_append]; rfl
theorem codingP_length (K i : Nat) : (codingP K i).length = i := by simp [codingP]
theorem codingR_length (K i : Nat) : (codingR K i).length = K := by simp [codingR]
def codingK (K i j : Nat) : List UInt8 := (List.range K).map fun c => if c < j then codingE K i c else 0
theorem codingK_zero (K i : Nat) : codingK K i 0 = List.replicate K 0 := by simp [codingK, List.map_const']
theorem codingK_all (K i : Nat) : codingK K i K = codingR K i := by
  refine List.map_congr_left fun c hc => ?_
  rw [if_pos (List.mem_range.1 hc)]
theorem codingK_succ (K i j : Nat) : (codingK K i j).set j (codingE K i j) = codingK K i (j + 1) := by
  apply List.ext_getElem?
  intro c
  rw [List.getElem?_set]
  simp only [codingK, List.length_map, List.length_range, List.getElem?_map]
  by_cases e : j = c
  · subst e
    by_cases h : j < K
    · simp [h]
    · simp [h]
  · rw [if_neg e]
    by_cases h : c < K
    · simp only [List.getElem?_range h, Option.map_some]
      have : c < j ↔ c < j + 1 := by omega
      simp [this]
    · simp [h]
theorem codingK_skip (K i j : Nat) (h0 : codingE K i j = 0) : codingK K i j = codingK K i (j + 1) := by
  rw [← codingK_succ, h0]
  apply List.ext_getElem?
  intro c
  rw [List.getElem?_set]
  by_cases e : j = c
  · subst e
    by_cases h : j < K
    · simp [codingK, h]
    · simp [codingK, h]
  · rw [if_neg e]
theorem xor64 (a b : Nat) (ha : a < 2 ^ 63) (hb : b < 2 ^ 63) : IntKind.i64.wrap ((BitVec.ofInt IntKind.i64.bits (a : Int) ^^^ BitVec.ofInt IntKind.i64.bits (b : Int)).toNat : Int) = ((a ^^^ b : Nat) : Int) := by
  show IntKind.i64.wrap ((BitVec.ofInt 64 (a : Int) ^^^ BitVec.ofInt 64 (b : Int)).toNat : Int) = _
  rw [BitVec.ofInt_natCast, BitVec.ofInt_natCast, BitVec.toNat_xor, BitVec.toNat_ofNat, BitVec.toNat_ofNat, Nat.mod_eq_of_lt (by omega), Nat.mod_eq_of_lt (by omega)]
  have : a ^^^ b < 2 ^ 63 := Nat.xor_lt_two_pow ha hb
  exact wrap64 (by omega) (by omega)
theorem zeros_of (n : Nat) (z : Value) (hz : z = .int .u8 0) : ((List.range (n * 1)).map fun i => z.cells[i % 1]!).take (n * 1) = bytesV (List.replicate n 0) := by
  subst hz
  have e : ∀ i : Nat, (Value.cells (.int .u8 0))[i % 1]! = byteV 0 := fun i => by rw [Nat.mod_one]; rfl
  simp only [e, List.map_const', List.length_range, bytesV, List.map_replicate]
  simp
theorem bytesV_set (l : List UInt8) (k : Nat) (b : UInt8) : (bytesV l).set k (byteV b) = bytesV (l.set k b) := by simp [bytesV, List.map_set]
def intsV (l : List Nat) : List Value := l.map fun n : Nat => .int .i64 (n : Int)
abbrev Is (S : Nat → Prop) (w : World) (v : Value) (l : List Nat) : Prop := Row S w v l.length (intsV l)
theorem intsV_get (l : List Nat) (k : Nat) (h : k < l.length) : (intsV l)[k]? = some (.int .i64 (l[k] : Nat)) := by simp [intsV, h]
def rowsP (M : List (List UInt8)) (idx : List Nat) : List (List UInt8) := idx.map fun i => M.getD i []
theorem rowsP_succ (M : List (List UInt8)) (idx : List Nat) (k : Nat) (h : k < idx.length) : rowsP M (idx.take (k + 1)) = rowsP M (idx.take k) ++ [M.getD idx[k] []] := by
  rw [rowsP, List.take_succ_eq_append_getElem h, List.map_append]; rfl
theorem matMul_succ (A B : List (List UInt8)) (k : Nat) (h : k < A.length) : matMul (A.take (k + 1)) B = matMul (A.take k) B ++ [rowMul (B.headD []).length A[k] B] := by
  rw [matMul, List.take_succ_eq_append_getElem h, List.map_append]; rfl
theorem headD_len (B : List (List UInt8)) (n : Nat) (hB : ∀ l ∈ B, l.length = n) (h0 : 0 < B.length) : (B.headD []).length = n := by
  cases B with
  | nil => simp at h0
  | cons l B => exact hB l (by simp)
theorem rowMul_take (n : Nat) (r : List UInt8) (B : List (List UInt8)) (k : Nat) (hB : ∀ l ∈ B, l.length = n) : (rowMul n (r.take k) (B.take k)).length = n := rowMul_length n _ _ fun l hl => hB l (List.mem_of_mem_take hl)
theorem matMul_length (A B : List (List UInt8)) : (matMul A B).length = A.length := by simp [matMul]
end Go.Proofs.YtchammpamigonaaGreatX
end
section
namespace Go.Proofs.YtchammpamigonaaGreatX
open Go Go.RowKit
section
variable {P : Program} {ρ : Env} {w : World} {G : Value → World → Prop} {d : Option Nat} {ty : TypeId} {pos : String} {af : Array Edge} {g : Option (Nat × Bool)}
theorem Y.toBytes {x : Operand} {s t e : TypeId} {bytes : Nat} {z : Value} {l : List UInt8} (ht : SliceT P t e 1 bytes z) (hs : P.underlying s = some .string) (he' : P.underlying e = some (.int .u8)) (hx : ev ρ x = some (strV l)) (hl : l.length ≤ 9223372036854775807)
    (h : ∀ v w', NewO w w' e 1 v l.length (bytesV l) → G v w') : OpY P ⟨d, .convert s t x, ty, pos, af, g⟩ ρ w G := by
  have hrun := Go.Lib.run_convert_string_bytes (P := P) w s t e ⟨l.toArray⟩ hs ht.und he'
  have hsz : (⟨l.toArray⟩ : ByteArray).size = l.length := by simp [ByteArray.size]
  refine OpY.val (v := .slice (some ⟨w.heap.size, 0, none⟩) l.length (grownCap w l.length 0 e)) (w' := Go.Lib.bytesWorld w e ⟨l.toArray⟩) (fun ee he => by simp only [execOp]; rw [he x _ hx]; simp only [strV]; rw [Sem.run_bind, hrun, hsz]; rfl) (h _ _ ⟨⟨rfl, rfl, rfl, by rw [Go.Lib.bytesWorld_size]; omega, fun b hb _ => Go.Lib.bytesWorld_at_old w e _ b hb⟩, ?_⟩)
  have hm : l.length ≤ maxLen := by simp only [maxLen]; omega
  have hge := grownCap_ge w l.length 0 e
  have hcm := grownCap_le_maxLen w l.length 0 e hm
  refine ⟨by simp [bytesV], by intro q hq; simp only [bytesV, List.mem_map] at hq; obtain ⟨b, -, rfl⟩ := hq; rfl, w.heap.size, _, _, _, rfl, hge, hcm, Nat.le_refl _, Go.Lib.bytesWorld_at_new w e _, nofr_past _, ?_, ?_⟩
  · simp [Go.Lib.bytesCells, hsz]; omega
  · simp only [Go.Lib.bytesCells, Nat.mul_one]
    rw [Array.toList_append, List.take_append_of_le_length (by simp)]
    simp [bytesV, byteV, List.take_of_length_le]
end
theorem quo64 (n k : Nat) (h : n ≤ 9223372036854775807) : IntKind.i64.wrap ((n : Int).tdiv (k : Int)) = ((n / k : Nat) : Int) := by
  have h1 : (n : Int).tdiv (k : Int) = ((n / k : Nat) : Int) := rfl
  have h2 : n / k ≤ n := Nat.div_le_self n k
  rw [h1]
  generalize n / k = q at h2
  rw [wrap64 (by omega) (by omega)]
theorem ofNat_mod (n : Nat) : UInt8.ofNat (n % 256) = UInt8.ofNat n := by
  apply UInt8.toNat_inj.1
  simp
theorem rem32 (x : BitVec 32) : (x.toNat : Int).tmod 2 = ((x.toNat % 2 : Nat) : Int) := rfl
theorem quo32 (x : BitVec 32) : IntKind.u32.wrap ((x.toNat : Int).tdiv 2) = ((x >>> 1).toNat : Int) := by
  have h1 : (x.toNat : Int).tdiv 2 = ((x.toNat / 2 : Nat) : Int) := rfl
  have := x.isLt
  rw [h1, wrapU32 (by omega) (by omega)]
  simp [BitVec.toNat_ushiftRight, Nat.shiftRight_eq_div_pow]
theorem one32 (x : BitVec 32) : x &&& 1 = 1 ↔ x.toNat % 2 = 1 := by
  have h : (x &&& 1).toNat = x.toNat % 2 := by
    rw [BitVec.toNat_and]
    show x.toNat &&& 1 = x.toNat % 2
    exact Nat.and_one_is_mod _
  constructor
  · intro e; rw [← h, e]; rfl
  · intro e; apply BitVec.eq_of_toNat_eq; rw [h, e]; rfl
theorem sub32 (x : BitVec 32) : IntKind.u32.wrap (4294967295 - (x.toNat : Int)) = ((x ^^^ 4294967295).toNat : Int) := by
  have h : (x ^^^ 4294967295).toNat = 4294967295 - x.toNat := by
    have e : x ^^^ (4294967295 : BitVec 32) = ~~~x := by
      rw [show (4294967295 : BitVec 32) = BitVec.allOnes 32 from rfl]
      exact BitVec.xor_allOnes
    rw [e, BitVec.toNat_not]
  have := x.isLt
  rw [h, wrapU32 (by omega) (by omega)]
  omega
def pstep (s : Nat × Nat × Nat) : Nat × Nat × Nat :=
  ((if 256 ≤ s.1 * 2 then s.1 * 2 ^^^ 285 else s.1 * 2), s.2.1 / 2, if s.2.1 % 2 = 1 then s.2.2 ^^^ s.1 else s.2.2)
def pK : Nat → Nat × Nat × Nat → Nat × Nat × Nat
  | 0, s => s
  | k + 1, s => pstep (pK k s)
def pmul (a b : UInt8) : UInt8 := UInt8.ofNat (pK 8 (a.toNat, b.toNat, 0)).2.2
theorem pK_lt {s : Nat × Nat × Nat} (h1 : s.1 < 256) (h2 : s.2.1 < 256) (h3 : s.2.2 < 256) : ∀ k, (pK k s).1 < 256 ∧ (pK k s).2.1 < 256 ∧ (pK k s).2.2 < 256
  | 0 => ⟨h1, h2, h3⟩
  | k + 1 => by
    obtain ⟨a1, a2, a3⟩ := pK_lt h1 h2 h3 k
    refine ⟨?_, ?_, ?_⟩
    · show (if 256 ≤ (pK k s).1 * 2 then (pK k s).1 * 2 ^^^ 285 else (pK k s).1 * 2) < 256
      have key : (List.range 256).all (fun x => decide ((if 256 ≤ x * 2 then x * 2 ^^^ 285 else x * 2) < 256)) = true := by decide +kernel
      have := List.all_eq_true.1 key (pK k s).1 (List.mem_range.2 a1)
      simpa using this
    · show (pK k s).2.1 / 2 < 256
      omega
    · show (if (pK k s).2.1 % 2 = 1 then (pK k s).2.2 ^^^ (pK k s).1 else (pK k s).2.2) < 256
      split
      · exact Nat.xor_lt_two_pow (n := 8) a3 a1
      · exact a3
def pinvK (x : UInt8) : Nat → Option UInt8
  | 0 => none
  | k + 1 => match pinvK x k with | some y => some y | none => if pmul x (UInt8.ofNat (k + 1)) = 1 then some (UInt8.ofNat (k + 1)) else none
def pinv (x : UInt8) : UInt8 := (pinvK x 255).getD 0
theorem pinvK_some (x : UInt8) (k n : Nat) {y : UInt8} (h : pinvK x (k + 1) = some y) (hn : k + 1 ≤ n) : pinvK x n = some y := by
  induction n with
  | zero => omega
  | succ n ih =>
    by_cases e : k + 1 = n + 1
    · rw [← e]; exact h
    · rw [pinvK, ih (by omega)]
def dotK (r : List UInt8) (B : List (List UInt8)) (j : Nat) : Nat → UInt8
  | 0 => 0
  | k + 1 => dotK r B j k ^^^ pmul (r.getD k 0) ((B.getD k []).getD j 0)
def rmul (A B : List (List UInt8)) : List (List UInt8) := A.map fun r => (List.range (B.headD []).length).map fun j => dotK r B j B.length
def rcodE (K i j : Nat) : UInt8 := if K ≤ i then pinv (UInt8.ofNat (i ^^^ j)) else if i = j then 1 else 0
def rcodR (K i : Nat) : List UInt8 := (List.range K).map (rcodE K i)
def rcod (K N : Nat) : List (List UInt8) := (List.range N).map (rcodR K)
def shapeV (K F : Int) : Value := .agg #[.int .i64 K, .int .i64 F]
def okShape (K F : Int) : Prop := 1 ≤ K ∧ 0 ≤ F ∧ K + 2 * F ≤ 7
instance (K F : Int) : Decidable (okShape K F) := inferInstanceAs (Decidable (_ ∧ _ ∧ _))
def in64 (z : Int) : Prop := -9223372036854775808 ≤ z ∧ z ≤ 9223372036854775807
theorem shape0 {w : World} {b : Nat} {K F : Int} {T : TypeId} (h : HB w b (.cells (Value.cells (shapeV K F)) T (0, 0))) : w.cell? ⟨b, 0 + 0, none⟩ = some (.int .i64 K) := cell_arr (cs := [.int .i64 K, .int .i64 F]) h rfl
theorem shape1 {w : World} {b : Nat} {K F : Int} {T : TypeId} (h : HB w b (.cells (Value.cells (shapeV K F)) T (0, 0))) : w.cell? ⟨b, 0 + 1, none⟩ = some (.int .i64 F) := cell_arr (cs := [.int .i64 K, .int .i64 F]) h rfl
theorem shapeA {w : World} {b : Nat} {K F : Int} {T : TypeId} (h : HB w b (.cells (Value.cells (shapeV K F)) T (0, 0))) : ∀ j u, [Value.int .i64 K, Value.int .i64 F][j]? = some u → w.cell? ⟨b, 0 + j, none⟩ = some u := fun j u hu => by rw [Nat.zero_add]; exact cell_arr (cs := [.int .i64 K, .int .i64 F]) h hu
theorem bytes_range_succ (f : Nat → UInt8) (j : Nat) : bytesV ((List.range (j + 1)).map f) = bytesV ((List.range j).map f) ++ [byteV (f j)] := by rw [List.range_succ, List.map_append, bytesV_append]; rfl
theorem rcod_succ (K i : Nat) : rcod K (i + 1) = rcod K i ++ [rcodR K i] := by rw [rcod, List.range_succ, List.map_append]; rfl
theorem rcod_length (K i : Nat) : (rcod K i).length = i := by simp [rcod]
theorem rcodR_length (K i : Nat) : (rcodR K i).length = K := by simp [rcodR]
theorem rmul_succ (A B : List (List UInt8)) (k : Nat) (h : k < A.length) : rmul (A.take (k + 1)) B = rmul (A.take k) B ++ [(List.range (B.headD []).length).map fun j => dotK A[k] B j B.length] := by
  rw [rmul, List.take_succ_eq_append_getElem h, List.map_append]; rfl
theorem rmul_length (A B : List (List UInt8)) : (rmul A B).length = A.length := by simp [rmul]
end Go.Proofs.YtchammpamigonaaGreatX
end
section
namespace Go.Proofs.YtchammpamigonaaGreatX
open Go Go.RowKit
section
variable {P : Program} {ops : Array Oper} {Q : Exit → Act → World → Prop} {n : Slots} {N : Nat} {ρ : Env} {w : World} {anc : List (List Nat)} {S : Nat → Prop}
abbrev VE := (Operand → Value) → Value → World → Prop
theorem anc_lt {keys : List Nat} (hR : RegH ops N n.size anc keys) : ∀ i, i < ops.size → ∀ k ∈ anc.getD i [], k < i := by
  intro i
  induction i using Nat.strongRecOn with
  | _ i ih =>
    intro hil k hk
    have hoi : ops[i]? = some ops[i] := by simp [hil]
    rcases hR.clo i _ hoi k hk with h | ⟨j, hj, hkj⟩
    · exact hR.edge i _ hoi k h
    · have := hR.edge i _ hoi j hj
      have := ih j this (by omega) k hkj
      omega
theorem XC.draw2 {id : Nat} (N : Nat) (anc : List (List Nat)) (D : Nat) (E0 E1 : World → World → Prop) (hE0 : Steady E0) (hE1 : Steady E1) (h01 : ∀ a b, E0 a b → E1 a b) (run : Nat → Bool) (V : Nat → Option VE) (hm : P.follows .mixedOrders = true) (hB : regB ops N n.size anc (keysOf ρ) = true)
    (hV : ∀ i Vi, V i = some Vi → ∀ e v w1 w2, (if i = D then E0 w1 w2 else E1 w1 w2) → Vi e v w1 → Vi e v w2)
    (hcg : ∀ k Vk, V k = some Vk → ∀ (e e' : Operand → Value) v w, (∀ j ∈ anc.getD k [], ∀ oj d, ops[j]? = some oj → oj.dst = some d → e (.tmp d) = e' (.tmp d)) → Vk e v w → Vk e' v w)
    (hstep : ∀ i o, i < N → ops[i]? = some o → ∀ a w', Sat n ρ a → E1 w w' → (i = D ∨ i ∈ anc.getD D [] → E0 w w') → (∀ k, k ∈ anc.getD i [] → ∀ ok, ops[k]? = some ok → Rel P ok (run k) ((V k).map (· a.eval)) a.eval w') →
      Region.wanted o (yielded ops a.tmps) = run i ∧ Step P o (run i) ((V i).map (· a.eval)) (fun x y => if i = D then E1 x y else E0 x y) a.eval w')
    (hfin : ∀ a w', Sat n ρ a → E1 w w' → (∀ k ok, k < N → ops[k]? = some ok → Rel P ok (run k) ((V k).map (· a.eval)) a.eval w') → wpL P n.rnd ops Q (ops.toList.drop N) a w') : XC P (.region id ops true) Q n ρ w := by
  refine XC.of fun a ha => ?_
  have hR := regB_spec hB
  refine wpIn_region_any hm ?_
  have key : ∀ (fuel : Nat) (L : Array Bool) (a : Act) (w' : World), L.size = ops.size → ((List.range ops.size).filter fun i => !L.getD i false).length = fuel → Sat n ρ a → E1 w w' → (L.getD D false = false → E0 w w') → Closed anc L → (∀ i, i < ops.size → N ≤ i → (∃ k, k < N ∧ L.getD k false = false) → L.getD i false = false) → (∀ i, i < ops.size → N ≤ i → L.getD i false = false) →
      (∀ k ok, k < N → L.getD k false = true → ops[k]? = some ok → Rel P ok (run k) ((V k).map (· a.eval)) a.eval w') → wpAnyIn (FR n.rnd) 0 P .any ops Q fuel L a w' := by
    intro fuel
    induction fuel with
    | zero =>
      intro L a w' hs hcnt hsat hC hC0 hclo _ hT hrel
      have hall : ∀ i, i < ops.size → L.getD i false = true := by
        intro i hi
        have := List.eq_nil_of_length_eq_zero hcnt
        have h1 := List.filter_eq_nil_iff.1 this i (List.mem_range.2 hi)
        simpa using h1
      have hNs : N = ops.size := by
        rcases Nat.lt_or_ge N ops.size with h | h
        · have h1 := hall N h; have h2 := hT N h (Nat.le_refl _); rw [h1] at h2; cases h2
        · have := hR.le; omega
      have hd : ops.toList.drop N = [] := by rw [List.drop_eq_nil_iff]; simp; omega
      have hf := hfin a w' hsat hC (fun k ok hk hok => hrel k ok hk (hall k (by omega)) hok)
      rw [hd] at hf
      exact wpAny_tail hR [] ops.size L a w' hR.le (by simp) hs (fun j hj => by rw [hall j hj]; simp [hj]) (by simp) hf
    | succ fuel ih =>
      intro L a w' hs hcnt hsat hC hC0 hclo hTT hT hrel
      by_cases hdone : ∀ k, k < N → L.getD k false = true
      · -- the head is done
        have hf := hfin a w' hsat hC (fun k ok hk hok => hrel k ok hk (hdone k hk) hok)
        have hLeq : ∀ j, j < ops.size → L.getD j false = decide (j < N) := by
          intro j hj
          rcases Nat.lt_or_ge j N with h | h
          · rw [hdone j h]; simp [h]
          · rw [hT j hj h]; simp; omega
        have hlen : (ops.toList.drop N).length = fuel + 1 := by
          rw [← hcnt]
          have : ∀ m, m ≤ ops.size → ((List.range m).filter fun i => !L.getD i false).length = m - N := by
            intro m
            induction m with
            | zero => intro _; simp
            | succ m ihm =>
              intro hm
              rw [List.range_succ, List.filter_append, List.length_append, ihm (by omega)]
              have := hLeq m (by omega)
              simp only [List.filter_cons, List.filter_nil, this]
              by_cases h : m < N
              · simp [h]; omega
              · simp [h]; omega
          rw [this ops.size (Nat.le_refl _)]
          simp
        rw [← hlen]
        have hle := hR.le
        exact wpAny_tail hR (ops.toList.drop N) N L a w' (Nat.le_refl _) (fun j => by simp) hs hLeq (by simp; omega) hf
      · -- one more of the head
        have hex : ∃ k, k < N ∧ L.getD k false = false := by
          apply Classical.byContradiction
          intro h
          apply hdone
          intro k hk
          cases hb : L.getD k false
          · exact absurd ⟨k, hk, hb⟩ h
          · rfl
        refine ⟨fun h0 => ?_, fun i hi => ?_⟩
        · -- the least that hasn't been is ready
          exfalso
          have hleast : ∀ m, m ≤ N → (∀ k, k < m → L.getD k false = true) ∨ ∃ j, j < m ∧ L.getD j false = false ∧ ∀ k, k < j → L.getD k false = true := by
            intro m
            induction m with
            | zero => intro _; exact .inl (fun k hk => by omega)
            | succ m ihm =>
              intro hm
              rcases ihm (by omega) with h | ⟨j, hj, h1, h2⟩
              · cases hb : L.getD m false
                · exact .inr ⟨m, by omega, hb, h⟩
                · exact .inl (fun k hk => by rcases Nat.lt_or_eq_of_le (Nat.le_of_lt_succ hk) with h' | h'; exact h k h'; exact h' ▸ hb)
              · exact .inr ⟨j, by omega, h1, h2⟩
          rcases hleast N (Nat.le_refl _) with h | ⟨j, hj, h1, h2⟩
          · exact hdone h
          · have hle := hR.le
            have hj' : j < L.size := by omega
            have := ready_of (anc := anc) hR (show j < ops.size by omega) (by simp [hj'] at h1 ⊢; exact h1) h2
            rw [h0] at this; cases this
        · obtain ⟨o, ho, hun, hanc⟩ := ready_anc hR hclo hi
          have hil := (Array.getElem?_eq_some_iff.1 ho).1
          have hiN : i < N := by
            rcases Nat.lt_or_ge i N with h | h
            · exact h
            · obtain ⟨k, hk, hkf⟩ := hex
              have := hanc k (hR.tail i o h ho k (by omega))
              rw [hkf] at this; cases this
          obtain ⟨hwant, hst⟩ := hstep i o hiN ho a w' hsat hC (fun hpre => hC0 (by
            cases hb : L.getD D false with
            | false => rfl
            | true =>
              have hl : i < L.size := by omega
              rcases hpre with rfl | hpre
              · simp [hl] at hb hun; rw [hb] at hun; cases hun
              · have := hclo D hb i hpre; simp [hl] at this hun; rw [this] at hun; cases hun)) (fun k hk ok hok => hrel k ok (by
            have key : ∀ i, i < ops.size → ∀ k ∈ anc.getD i [], k < i := by
              intro i
              induction i using Nat.strongRecOn with
              | _ i ih =>
                intro hil k hk
                have hoi : ops[i]? = some ops[i] := by simp [hil]
                rcases hR.clo i _ hoi k hk with h | ⟨j, hj, hkj⟩
                · exact hR.edge i _ hoi k h
                · have := hR.edge i _ hoi j hj
                  have := ih j this (by omega) k hkj
                  omega
            have := key i hil k hk
            omega) (hanc k hk) hok)
          have next : ∀ v w'', (if i = D then E1 w' w'' else E0 w' w'') → (match run i, V i with | false, _ => v = undef | true, none => ∀ w2, (execOp a.eval o).run P w2 = .ok (.value v) w2 | true, some Vi => Vi a.eval v w'') →
              wpAnyIn (FR n.rnd) 0 P .any ops Q fuel (L.setIfInBounds i true) (a.put o.dst v) w'' := by
            intro v w'' hC' hv
            have hsat' : Sat n ρ (a.put o.dst v) := by
              cases hd : o.dst with
              | none => exact hsat
              | some d => exact hsat.putFresh (hR.dst i o hiN ho d hd).2.1 v
            have hst2 : ∀ k, ¬ k = i → (if k = D then E0 w' w'' else E1 w' w'') := fun k hki => by
              by_cases hiD : i = D
              · rw [if_pos hiD] at hC'; rw [if_neg (fun e => hki (e.trans hiD.symm))]; exact hC'
              · rw [if_neg hiD] at hC'
                by_cases hkD : k = D
                · rw [if_pos hkD]; exact hC'
                · rw [if_neg hkD]; exact h01 _ _ hC'
            have hC1 : E1 w' w'' := by
              by_cases hiD : i = D
              · rw [if_pos hiD] at hC'; exact hC'
              · rw [if_neg hiD] at hC'; exact h01 _ _ hC'
            have hcge : ∀ k, k < ops.size → k < N → (k = i ∨ L.getD k false = true) → ∀ j ∈ anc.getD k [], ∀ oj d, ops[j]? = some oj → oj.dst = some d → a.eval (.tmp d) = (a.put o.dst v).eval (.tmp d) := by
              intro k hks hkN hk j hj oj d hoj hd
              have hjk := anc_lt hR k hks j hj
              have hji : j ≠ i := by
                rintro rfl
                rcases hk with rfl | hk
                · omega
                · have := hclo k hk j hj
                  have hl : j < L.size := by omega
                  simp [hl] at this hun
                  rw [this] at hun; cases hun
              cases hod : o.dst with
              | none => rfl
              | some di =>
                have := (hR.dst i o hiN ho di hod).2.2.2 j oj (by omega) hji hoj
                exact (Act.eval_put (fun d' hd' => by cases hd'; intro e; cases e; exact this.1 hd)).symm
            refine ih _ _ _ (by simp [hs]) ?_ hsat' (hE1.trans _ _ _ hC hC1) ?_ ?_ ?_ ?_ ?_
            · -- the count
              have hl : i < L.size := by omega
              have hun' : L.getD i false = false := by simp [hl] at hun ⊢; exact hun
              have hrange := fun (m : Nat) (_ : m ≤ ops.size) => count_set (L := L) (i := i) hl hun' m
              have := hrange ops.size (Nat.le_refl _)
              rw [if_pos hil] at this
              omega
            · intro hD
              rw [getD_set (by omega)] at hD
              split at hD
              · cases hD
              · rename_i hne
                rw [if_neg (fun e => hne e.symm)] at hC'
                exact hE0.trans _ _ _ (hC0 hD) hC'
            · intro j hj k hk
              rw [getD_set (by omega)] at hj ⊢
              split
              · rfl
              · by_cases hji : j = i
                · subst hji; exact hanc k hk
                · rw [if_neg hji] at hj; exact hclo j hj k hk
            · intro j hj hN' _
              rw [getD_set (by omega), if_neg (by omega)]; exact hT j hj hN'
            · intro j hj hN'
              rw [getD_set (by omega), if_neg (by omega)]; exact hT j hj hN'
            · intro k ok hk hLk hok
              by_cases hki : k = i
              · subst hki
                rw [ho] at hok
                cases hok
                unfold Rel
                cases hd : o.dst with
                | none =>
                  cases hr : run k with
                  | false => trivial
                  | true =>
                    cases hVk : V k with
                    | none => trivial
                    | some Vi => simp only [hr, hVk] at hv; have hx := hcg k Vi hVk _ _ v w'' (hcge k hil hk (.inl rfl)) hv; rw [hd] at hx; exact ⟨v, hx⟩
                | some d =>
                  obtain ⟨hdn, hdk, hds, hdd⟩ := hR.dst k o hk ho d hd
                  have hput : ∀ x, x ≠ .tmp d → (a.put (some d) v).eval x = a.eval x := fun x hx => Act.eval_put (fun d' hd' => by cases hd'; exact hx)
                  have hself : (a.put (some d) v).eval (.tmp d) = v := eval_put_same (by rw [hsat.size]; exact hdn) v
                  have hcong : execOp (a.put (some d) v).eval o = execOp a.eval o := execOp_congr o (fun cs b => hR.sel k o cs b ho) fun x hx => hput x (fun e => by
                    subst e
                    exact hds (List.mem_filterMap.2 ⟨.tmp d, by simpa using hx, rfl⟩))
                  cases hr : run k with
                  | false => simp only [hr] at hv ⊢; rw [hself]; exact hv
                  | true =>
                    cases hVk : V k with
                    | none => simp only [hr, hVk, Option.map_none] at hv ⊢; intro w2; rw [hcong, hself]; exact hv w2
                    | some Vi => simp only [hr, hVk, Option.map_some] at hv ⊢; rw [hself]; have hx := hcg k Vi hVk _ _ v w'' (hcge k hil hk (.inl rfl)) hv; rw [hd] at hx; exact hx
              · rw [getD_set (by omega), if_neg hki] at hLk
                have hold := hrel k ok hk hLk hok
                have hcd : execOp (a.put o.dst v).eval ok = execOp a.eval ok ∧ ∀ d', ok.dst = some d' → (a.put o.dst v).eval (.tmp d') = a.eval (.tmp d') := by
                  cases hd : o.dst with
                  | none => exact ⟨rfl, fun _ _ => rfl⟩
                  | some d =>
                    obtain ⟨hdn, hdk, hds, hdd⟩ := hR.dst i o hiN ho d hd
                    obtain ⟨h1, h2, h3⟩ := hdd k ok hk hki hok
                    have hput : ∀ x, x ≠ .tmp d → (a.put (some d) v).eval x = a.eval x := fun x hx => Act.eval_put (fun d' hd' => by cases hd'; exact hx)
                    have hnr : d ∉ slotsOf ok := fun hin => by
                      have := hclo k hLk i (h2 hin)
                      have hl : i < L.size := by omega
                      simp [hl] at this hun
                      rw [this] at hun; cases hun
                    refine ⟨execOp_congr ok (fun cs b => hR.sel k ok cs b hok) fun x hx => hput x (fun e => by
                      subst e
                      exact hnr (List.mem_filterMap.2 ⟨.tmp d, by simpa using hx, rfl⟩)), fun d' hd' => hput (.tmp d') (fun e => by cases e; exact h1 hd')⟩
                unfold Rel at hold ⊢
                cases hokd : ok.dst with
                | none =>
                  simp only [hokd] at hold ⊢
                  cases hr : run k with
                  | false => trivial
                  | true =>
                    cases hVk : V k with
                    | none => trivial
                    | some Vi => simp only [hr, hVk, Option.map_some] at hold ⊢; exact hold.imp fun u h => hcg k Vi hVk _ _ u w'' (hcge k (Nat.lt_of_lt_of_le hk hR.le) hk (.inr hLk)) (hV k Vi hVk _ _ _ _ (hst2 k hki) h)
                | some d' =>
                  simp only [hokd] at hold ⊢
                  rw [hcd.1, hcd.2 d' hokd]
                  cases hr : run k with
                  | false => simp only [hr] at hold ⊢; exact hold
                  | true =>
                    cases hVk : V k with
                    | none => simp only [hr, hVk, Option.map_none] at hold ⊢; exact hold
                    | some Vi => simp only [hr, hVk, Option.map_some] at hold ⊢; exact hcg k Vi hVk _ _ _ w'' (hcge k (Nat.lt_of_lt_of_le hk hR.le) hk (.inr hLk)) (hV k Vi hVk _ _ _ _ (hst2 k hki) hold)
          have hrefl : ∀ x, (if i = D then E1 x x else E0 x x) := fun x => by
            by_cases h : i = D
            · rw [if_pos h]; exact hE1.refl x
            · rw [if_neg h]; exact hE0.refl x
          unfold wpOpIn
          simp only [ho, hwant]
          cases hr : run i with
          | false => simp only [Bool.false_eq_true, if_false]; exact ⟨fun _ _ => trivial, next undef w' (hrefl _) (by simp only [hr])⟩
          | true =>
            simp only [if_true]
            unfold Step at hst
            cases hVi : V i with
            | none =>
              simp only [hr, hVi, Option.map_some, Option.map_none] at hst
              obtain ⟨v, hv⟩ := hst
              refine wpIn_yl (G := fun u w2 => u = v ∧ w2 = w') (by rw [hv w']; exact ⟨rfl, rfl⟩) ?_
              rintro u w2 ⟨hu, hw2⟩; rw [hu, hw2]
              exact next v w' (hrefl _) (by simp only [hr, hVi]; exact hv)
            | some Vi =>
              simp only [hr, hVi, Option.map_some, Option.map_none] at hst
              exact wpIn_yl hst fun u w2 hst => next u w2 hst.1 (by simp only [hr, hVi]; exact hst.2)
  have hdr : E1 w { w with drawn := w.drawn + 1 } := hE1.drew w
  refine key ops.size (Array.replicate ops.size false) a _ (by simp) ?_ ha hdr (fun _ => hE0.drew w) ?_ ?_ ?_ ?_
  · have : ∀ m, m ≤ ops.size → ((List.range m).filter fun i => !(Array.replicate ops.size false).getD i false).length = m := by
      intro m hm
      rw [List.filter_eq_self.2]
      · simp
      · intro i hi
        have : i < ops.size := by have := List.mem_range.1 hi; omega
        simp [this]
    exact this ops.size (Nat.le_refl _)
  · intro i hi
    rcases Nat.lt_or_ge i ops.size with h | h
    · simp [h] at hi
    · simp [h] at hi
  · intro i hi _ _
    simp [hi]
  · intro i hi _
    simp [hi]
  · intro k ok hk hLk
    rcases Nat.lt_or_ge k ops.size with h | h
    · simp [h] at hLk
    · simp [h] at hLk
abbrev VL2 := List (Nat × VE)
def vlook2 : VL2 → Nat → Option VE
  | [], _ => none
  | (k, V) :: r, i => bif Nat.beq k i then some V else vlook2 r i
def RelAll2 (P : Program) (ops : Array Oper) (off : List Nat) (vs : VL2) (e : Operand → Value) (w : World) : List Nat → Prop
  | [] => True
  | k :: r => (match ops.toList[k]? with | some o => Rel P o (nrun off k) ((vlook2 vs k).map (· e)) e w | none => True) ∧ RelAll2 P ops off vs e w r
theorem RelAll2.of {P : Program} {ops : Array Oper} {off : List Nat} {vs : VL2} {e : Operand → Value} {w : World} : ∀ {l : List Nat}, (∀ k, k ∈ l → ∀ ok, ops[k]? = some ok → Rel P ok (nrun off k) ((vlook2 vs k).map (· e)) e w) → RelAll2 P ops off vs e w l
  | [], _ => trivial
  | k :: r, h => ⟨by
      cases ho : ops.toList[k]? with
      | none => trivial
      | some o => exact h k (by simp) o (by simpa using ho), RelAll2.of fun j hj => h j (by simp [hj])⟩
def CongAll (ops : Array Oper) (anc : List (List Nat)) : VL2 → Prop
  | [] => True
  | (k, V) :: r => (∀ (e e' : Operand → Value) v w, (∀ j ∈ anc.getD k [], ∀ d, (ops.toList[j]?).bind (·.dst) = some d → e (.tmp d) = e' (.tmp d)) → V e v w → V e' v w) ∧ CongAll ops anc r
theorem vlook2_cong {ops : Array Oper} {anc : List (List Nat)} : ∀ {l : VL2}, CongAll ops anc l → ∀ k Vk, vlook2 l k = some Vk → ∀ (e e' : Operand → Value) v w, (∀ j ∈ anc.getD k [], ∀ oj d, ops[j]? = some oj → oj.dst = some d → e (.tmp d) = e' (.tmp d)) → Vk e v w → Vk e' v w
  | [], _, _, _, h => by simp [vlook2] at h
  | (k, V) :: r, hs, i, Vi, h => by
    simp only [vlook2] at h
    cases hb : Nat.beq k i with
    | true =>
      have := Nat.eq_of_beq_eq_true hb; subst this; simp at h; subst h
      intro e e' v w hj
      refine hs.1 e e' v w fun j hjm d hd => ?_
      cases ho : ops[j]? with
      | none => simp [ho] at hd
      | some oj => simp [ho] at hd; exact hj j hjm oj d ho hd
    | false => simp [hb] at h; exact vlook2_cong hs.2 i Vi h
def Obl2 (P : Program) (ops : Array Oper) (n : Slots) (ρ : Env) (w : World) (anc : List (List Nat)) (D : Nat) (E0 E1 : World → World → Prop) (off : List Nat) (vs : VL2) (pre : List Nat) (i : Nat) (o : Oper) : Prop :=
  ∀ a w', Sat n ρ a → (bif pre.contains i then E0 else E1) w w' → RelAll2 P ops off vs a.eval w' (anc.getD i []) → Region.wanted o (yielded ops a.tmps) = nrun off i ∧ Step P o (nrun off i) ((vlook2 vs i).map (· a.eval)) (bif Nat.beq i D then E1 else E0) a.eval w'
def Obl2All (P : Program) (ops : Array Oper) (n : Slots) (ρ : Env) (w : World) (anc : List (List Nat)) (D : Nat) (E0 E1 : World → World → Prop) (off : List Nat) (vs : VL2) (pre : List Nat) : Nat → Nat → List Oper → Prop
  | 0, _, _ => True
  | _ + 1, _, [] => True
  | N + 1, i, o :: l => Obl2 P ops n ρ w anc D E0 E1 off vs pre i o ∧ Obl2All P ops n ρ w anc D E0 E1 off vs pre N (i + 1) l
theorem Obl2All.get {n : Slots} {ρ : Env} {w : World} {anc : List (List Nat)} {D : Nat} {E0 E1 : World → World → Prop} {off : List Nat} {vs : VL2} {pre : List Nat} : ∀ {N k : Nat} {l : List Oper}, Obl2All P ops n ρ w anc D E0 E1 off vs pre N k l → ∀ i o, i < N → l[i]? = some o → Obl2 P ops n ρ w anc D E0 E1 off vs pre (k + i) o
  | 0, _, _, _, _, _, h, _ => by omega
  | N + 1, k, [], _, i, o, _, h => by simp at h
  | N + 1, k, x :: l, hA, 0, o, _, h => by simp at h; subst h; exact hA.1
  | N + 1, k, x :: l, hA, i + 1, o, hi, h => by
    have := Obl2All.get hA.2 i o (by omega) (by simpa using h)
    rwa [show k + 1 + i = k + (i + 1) by omega] at this
def StabAll2 (D : Nat) (E0 E1 : World → World → Prop) : VL2 → Prop
  | [] => True
  | (k, V) :: r => (∀ e v w1 w2, (bif Nat.beq k D then E0 else E1) w1 w2 → V e v w1 → V e v w2) ∧ StabAll2 D E0 E1 r
theorem vlook_stab2 {D : Nat} {E0 E1 : World → World → Prop} : ∀ {l : VL2}, StabAll2 D E0 E1 l → ∀ i Vi, vlook2 l i = some Vi → ∀ e v w1 w2, (bif Nat.beq i D then E0 else E1) w1 w2 → Vi e v w1 → Vi e v w2
  | [], _, _, _, h => by simp [vlook2] at h
  | (k, V) :: r, hs, i, Vi, h => by
    simp only [vlook2] at h
    cases hb : Nat.beq k i with
    | true => have := Nat.eq_of_beq_eq_true hb; subst this; simp at h; subst h; exact hs.1
    | false => simp [hb] at h; exact vlook_stab2 hs.2 i Vi h
theorem XC.draw2L {id : Nat} (N : Nat) (anc : List (List Nat)) (keys : List Nat) (D : Nat) (pre : List Nat) (S : Nat → Prop) (off : List Nat) (vs : VL2) (all : List Nat) (hm : P.follows .mixedOrders = true) (hB : regB ops N n.size anc keys = true) (hk : keysOf ρ = keys) (hall : List.range N = all)
    (hp : pre.all (fun i => Nat.beq i D || (anc.getD D []).contains i) = true) (hV : StabAll2 D (Chg NoB) (Chg S) vs) (hcg : CongAll ops anc vs)
    (hs : Obl2All P ops n ρ w anc D (Chg NoB) (Chg S) off vs pre N 0 ops.toList)
    (hf : ∀ a w', Sat n ρ a → Chg S w w' → RelAll2 P ops off vs a.eval w' all → wpL P n.rnd ops Q (ops.toList.drop N) a w') : XC P (.region id ops true) Q n ρ w := by
  subst hk
  subst hall
  have conv : ∀ (i : Nat) (A B : World → World → Prop) (x y : World), (bif Nat.beq i D then A else B) x y ↔ (if i = D then A x y else B x y) := fun i A B x y => by
    by_cases h : i = D
    · subst h; simp
    · have : Nat.beq i D = false := by rw [← Bool.not_eq_true, Nat.beq_eq]; exact h
      simp [this, h]
  refine XC.draw2 N anc D (Chg NoB) (Chg S) (Steady.chg _) (Steady.chg _) (fun _ _ h => Ext.chg h) (nrun off) (vlook2 vs) hm hB (fun i Vi hi e v w1 w2 hE => vlook_stab2 hV i Vi hi e v w1 w2 ((conv _ _ _ _ _).2 hE)) (vlook2_cong hcg) (fun i o hi ho a w' ha hC hC0 hr => ?_) (fun a w' ha hC hr => hf a w' ha hC (RelAll2.of fun k hk ok hok => hr k ok (List.mem_range.1 hk) hok))
  have := hs.get i o hi (by simpa using ho)
  rw [Nat.zero_add] at this
  have h2 := this a w' ha (by
    cases hc : pre.contains i with
    | false => exact hC
    | true =>
      refine hC0 ?_
      have := List.all_eq_true.1 hp i (by simpa using hc)
      simp only [Bool.or_eq_true] at this
      rcases this with h | h
      · exact .inl (Nat.eq_of_beq_eq_true h)
      · exact .inr (by simpa using h)) (RelAll2.of hr)
  refine ⟨h2.1, ?_⟩
  have h3 := h2.2
  have he : (bif Nat.beq i D then Chg S else Chg NoB) = fun x y => if i = D then Chg S x y else Chg NoB x y := by
    funext x y
    exact propext (conv _ _ _ _ _)
  rwa [he] at h3
theorem XD.impE {e : Operand → Value} {T : Prop} {d : Nat} {op : Op} {ty : TypeId} {pos : String} {af : Array Edge} {g : Option (Nat × Bool)} {w2 : World} {V : Value → World → Prop} (h : Rel P ⟨some d, op, ty, pos, af, g⟩ true (some V) e w2)
    (hk : ∀ v, e (.tmp d) = v → V v w2 → XD e ((d, v) :: ρ) T) : XD e ρ T := XD.of fun he => (hk (e (.tmp d)) rfl h).run (he.cons rfl)
end
end Go.Proofs.YtchammpamigonaaGreatX
end
