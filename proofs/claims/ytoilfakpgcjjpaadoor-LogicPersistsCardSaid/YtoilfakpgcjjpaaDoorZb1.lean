/- Contracts of functions of the program, and what they rest on: no statement of the seat. -/
import Derived.Calls
import Derived.Orders
import Derived.Below
import Derived.Tactics
import Derived.Laws.Entries
import Derived.Laws.Rows
import Derived.Laws.AppendOwn
import Derived.Laws.Slices
import Derived.Laws.Strings
import Derived.Laws.Strings2
import Derived.Laws.Strings3
import Derived.Laws.Small
import Derived.Laws.Concat
import Derived.Laws.Build
import Derived.Laws.Tables
import Derived.IntWalk
import Derived.Laws.StructEq
import Derived.KernelRfl
import Derived.Deep.AppendSrc
import Derived.Maps.AppendAt
import Derived.Laws.MakeOwn
import Derived.Laws.CopyRow
import Derived.MapKept
import Derived.WideLaws
import Derived.Laws.BytesString
import Derived.Laws.BytesArg
import Derived.Laws.Externs
import Derived.Test.YtoilfakpgcjjpaaDoorProg
import Derived.Recover
namespace Go.Proofs.YtoilfakpgcjjpaaDoor.Eng
open Go Go.RowKit
/-! ### slots -/
def look : List (Nat × Value) → Nat → Option Value
  | [], _ => none
  | (d, v) :: L, t => bif Nat.beq d t then some v else look L t
structure Mt (n : Nat) (a : Act) (L : List (Nat × Value)) : Prop where
  size : a.tmps.size = n
  defers : a.defers = []
  at_ : ∀ t v, look L t = some v → a.tmps.getD t undef = v
def ev (L : List (Nat × Value)) : Operand → Option Value
  | .tmp t => look L t
  | .const v => some v
  | .global g => some (.pointer (some ⟨g, 0, none⟩))
  | .func f => some (.func (.func f) #[] #[])
theorem Mt.ev {n : Nat} {a : Act} {L : List (Nat × Value)} (h : Mt n a L) {x : Operand} {v : Value} (hx : ev L x = some v) : a.eval x = v := by
  cases x <;> simp only [Eng.ev, Option.some.injEq] at hx <;> simp only [Act.eval]
  · exact h.at_ _ _ hx
  all_goals exact hx
theorem beq_false {a b : Nat} (h : Nat.beq a b = false) : a ≠ b := fun e => by rw [e, Nat.beq_refl] at h; cases h
theorem Mt.put {n : Nat} {a : Act} {L : List (Nat × Value)} (h : Mt n a L) (d : Nat) (v : Value) (hd : Nat.blt d n = true) : Mt n (a.put (some d) v) ((d, v) :: L) := by
  have hd' : d < a.tmps.size := by rw [h.size]; exact Nat.le_of_ble_eq_true hd
  refine ⟨by simp [Act.put, h.size], by simp [Act.put, h.defers], fun t u hu => ?_⟩
  simp only [look] at hu
  cases hb : Nat.beq d t with
  | true =>
    rw [hb] at hu
    simp only [cond_true, Option.some.injEq] at hu
    have := Nat.eq_of_beq_eq_true hb
    subst this; subst hu
    simp [Act.put, hd']
  | false =>
    rw [hb] at hu
    simp only [cond_false] at hu
    have hne := beq_false hb
    have := h.at_ t u hu
    simp only [Act.put, Array.getD_eq_getD_getElem?] at this ⊢
    rw [Array.getElem?_setIfInBounds_ne hne]
    exact this
theorem Mt.put_none {n : Nat} {a : Act} {L : List (Nat × Value)} (h : Mt n a L) (v : Value) : Mt n (a.put none v) L := h
/-- forgetting -/
theorem Mt.weak {n : Nat} {a : Act} {L L' : List (Nat × Value)} (h : Mt n a L) (hs : ∀ t v, look L' t = some v → look L t = some v) : Mt n a L' :=
  ⟨h.size, h.defers, fun t v ht => h.at_ t v (hs t v ht)⟩
/-- a list of entries, each known -/
theorem Mt.of_list {n : Nat} {a : Act} {L : List (Nat × Value)} (h : Mt n a L) : ∀ (L' : List (Nat × Value)), (∀ p ∈ L', look L p.1 = some p.2) → Mt n a L'
  | L', hs => by
    refine ⟨h.size, h.defers, ?_⟩
    intro t v ht
    induction L' with
    | nil => simp [look] at ht
    | cons p L' ih =>
      obtain ⟨d, u⟩ := p
      simp only [look] at ht
      cases hb : Nat.beq d t with
      | true =>
        rw [hb] at ht
        simp only [cond_true, Option.some.injEq] at ht
        have := Nat.eq_of_beq_eq_true hb
        subst this; subst ht
        exact h.at_ _ _ (hs (d, u) (.head _))
      | false =>
        rw [hb] at ht
        exact ih (fun p hp => hs p (.tail _ hp)) ht
theorem keep_nil {L : List (Nat × Value)} : ∀ p ∈ ([] : List (Nat × Value)), look L p.1 = some p.2 := fun _ h => by cases h
theorem keep_cons {L L' : List (Nat × Value)} {d : Nat} {v : Value} (h : look L d = some v) (k : ∀ p ∈ L', look L p.1 = some p.2) : ∀ p ∈ (d, v) :: L', look L p.1 = some p.2 := by
  intro p hp
  cases hp with
  | head => exact h
  | tail _ hp => exact k p hp
/-- an element, by recursion (so that it reduces to the element itself) -/
def nth : List Value → Nat → Option Value
  | [], _ => none
  | v :: _, 0 => some v
  | _ :: l, i + 1 => nth l i
def nthA (vs : Array Value) (i : Nat) : Option Value := nth vs.toList i
theorem nth_eq : ∀ (l : List Value) (i : Nat), nth l i = l[i]?
  | [], i => by simp [nth]
  | v :: l, 0 => rfl
  | v :: l, i + 1 => by rw [nth, nth_eq l i]; rfl
theorem nthA_eq (vs : Array Value) (i : Nat) : nthA vs i = vs[i]? := by rw [nthA, nth_eq]; simp
def initL : List Value → Nat → List (Nat × Value)
  | [], _ => []
  | v :: vs, i => (i, v) :: initL vs (i + 1)
/-! ### the code's skeleton -/
section
variable {P : Program} {Q : Exit → Act → World → Prop} {a : Act} {w : World} {n : Nat} {L : List (Nat × Value)}
theorem w_seq {x y : Code} (h : x.wp P (Exit.then (y.wp P Q) Q) a w) : (Code.seq x y).wp P Q a w := wp_seq h
theorem w_region {id : Nat} {l : List Oper} (h : wpList P l.toArray Q l a w) : (Code.region id l.toArray false).wp P Q a w := wp_region_lit h
theorem w_rs {id : Nat} {l : List Oper} {y : Code} (h : wpList P l.toArray (Exit.then (y.wp P Q) Q) l a w) : ((Code.region id l.toArray false).seq y).wp P Q a w := wp_seq (wp_region_lit h)
theorem w_nil {ops : Array Oper} {K : Act → World → Prop} {Q' : Exit → Act → World → Prop} (h : K a w) : wpList P ops (Exit.then K Q') [] a w := h
theorem w_nil' {ops : Array Oper} {Q' : Exit → Act → World → Prop} (h : Q' .normal a w) : wpList P ops Q' [] a w := h
theorem w_cond {c : Operand} {x y : Code} {p : Prop} [Decidable p] (mt : Mt n a L) (hc : ev L c = some (.bool (decide p))) (ht : p → x.wp P Q a w) (hf : ¬ p → y.wp P Q a w) : (Code.cond c x y).wp P Q a w :=
  wp_cond_split (t := decide p) (mt.ev hc) (fun h => ht (of_decide_eq_true h)) (fun h => hf (of_decide_eq_false h))
theorem w_cond_b {c : Operand} {x y : Code} {b : Bool} (mt : Mt n a L) (hc : ev L c = some (.bool b)) (ht : b = true → x.wp P Q a w) (hf : b = false → y.wp P Q a w) : (Code.cond c x y).wp P Q a w :=
  wp_cond_split (t := b) (mt.ev hc) ht hf
theorem w_true {c : Operand} {x y : Code} (mt : Mt n a L) (hc : ev L c = some (.bool true)) (ht : x.wp P Q a w) : (Code.cond c x y).wp P Q a w := wp_cond_true (mt.ev hc) ht
theorem w_false {c : Operand} {x y : Code} (mt : Mt n a L) (hc : ev L c = some (.bool false)) (ht : y.wp P Q a w) : (Code.cond c x y).wp P Q a w := wp_cond_false (mt.ev hc) ht
theorem w_skip (h : Q .normal a w) : Code.skip.wp P Q a w := wp_skip h
theorem w_ret (h : Q .ret a w) : Code.ret.wp P Q a w := wp_ret h
theorem w_exit {id : Nat} (h : Q (.exit id) a w) : (Code.exit id).wp P Q a w := wp_exit h
theorem w_block {id : Nat} {c : Code} (h : c.wp P (Exit.inBlock id Q) a w) : (Code.block id c).wp P Q a w := wp_block h
theorem x_then_n {K : Act → World → Prop} (h : K a w) : Exit.then K Q .normal a w := h
theorem x_then_ret {K : Act → World → Prop} (h : Q .ret a w) : Exit.then K Q .ret a w := h
theorem x_then_exit {K : Act → World → Prop} {i : Nat} (h : Q (.exit i) a w) : Exit.then K Q (.exit i) a w := h
theorem x_block_n {i : Nat} (h : Q .normal a w) : Exit.inBlock i Q .normal a w := h
theorem x_block_ret {i : Nat} (h : Q .ret a w) : Exit.inBlock i Q .ret a w := h
theorem x_block_out {i : Nat} (h : Q .normal a w) : Exit.inBlock i Q (.exit i) a w := by simp only [Exit.inBlock, if_true]; exact h
theorem x_block_on {i j : Nat} (hj : Nat.beq j i = false) (h : Q (.exit j) a w) : Exit.inBlock i Q (.exit j) a w := by
  simp only [Exit.inBlock]; rw [if_neg (beq_false hj)]; exact h
/-- A loop by an invariant over parameters. -/
theorem w_loop {ι : Type} {c : Code} (Inv : ι → Act → World → Prop) (μ : ι → Nat) (i0 : ι) (h0 : Inv i0 a w)
    (round : ∀ i a w, Inv i a w → c.wp P (Exit.then (fun a' w' => ∃ i', Inv i' a' w' ∧ μ i' < μ i) Q) a w) : (Code.loop c).wp P Q a w := by
  intro b k cs
  have key : ∀ n i a w, μ i = n → Inv i a w →
      ∃ e a' w', Q e a' w' ∧ Arrives P (lone (b.at a (.code c :: .inLoop c :: k)) cs w) b k cs e a' w' := by
    intro n
    induction n using Nat.strongRecOn with
    | _ n ih =>
      intro i a w hn hI
      obtain ⟨e, a₁, w₁, hq, harr⟩ := round i a w hI b (.inLoop c :: k) cs
      cases e with
      | normal =>
        obtain ⟨i', hI₁, hlt⟩ := hq
        obtain ⟨e₂, a₂, w₂, hq₂, harr₂⟩ := ih (μ i') (hn ▸ hlt) i' a₁ w₁ rfl hI₁
        exact ⟨e₂, a₂, w₂, hq₂, .of_steps (Steps.trans harr (.one step_inLoop)) harr₂⟩
      | exit id => exact ⟨_, a₁, w₁, hq, .pass (x := .inLoop c) rfl (fun _ _ => .inl (by simp)) harr⟩
      | goto l => exact ⟨_, a₁, w₁, hq, .pass (x := .inLoop c) rfl (fun _ _ => .inl (by simp)) harr⟩
      | ret => exact ⟨_, a₁, w₁, hq, .pass (x := .inLoop c) rfl (fun _ _ => .inl (by simp)) harr⟩
      | panic ch => exact ⟨_, a₁, w₁, hq, .pass (x := .inLoop c) rfl (fun _ _ => .inl (by simp)) harr⟩
      | outgrown => exact ⟨_, a₁, w₁, hq, .pass (x := .inLoop c) rfl (fun _ _ => .inl (by simp)) harr⟩
  obtain ⟨e, a', w', hq, harr⟩ := key _ i0 a w rfl h0
  exact ⟨e, a', w', hq, .of_steps (.one step_loop) harr⟩
end
/-! ### operations that change no memory -/
/-- In every later world (what was there is still there) the operation gives this value and leaves the world. -/
def PureE (P : Program) (n : Nat) (L : List (Nat × Value)) (w1 : World) (o : Oper) (v : Value) : Prop :=
  ∀ a w, Mt n a L → Below w1.heap.size w1 w → (execOp a.eval o).run P w = .ok (.value v) w
section
variable {P : Program} {Q : Exit → Act → World → Prop} {a : Act} {w w1 : World} {n : Nat} {L : List (Nat × Value)} {ops : Array Oper} {rest : List Oper}
  {d : Nat} {op : Op} {ty : TypeId} {pos : String} {af : Array Edge} {g : Option (Nat × Bool)} {dd : Option Tmp}
theorem step_pure {v : Value} (mt : Mt n a L) (hp : PureE P n L w ⟨some d, op, ty, pos, af, none⟩ v) (hd : Nat.blt d n = true)
    (k : ∀ a', Mt n a' ((d, v) :: L) → wpList P ops Q rest a' w) : wpList P ops Q (⟨some d, op, ty, pos, af, none⟩ :: rest) a w := by
  refine wpList_plain rfl fun K hK => ?_
  unfold Oper.wp
  rw [hp a w mt (Below.refl _ _)]
  exact hK _ _ (k _ (mt.put d v hd))
/-- an operation under a guard that is met -/
theorem step_pure_g {v : Value} {j : Nat} {b : Bool} {t : Nat} (mt : Mt n a L) (hj : (ops[j]?).bind (·.dst) = some t) (ht : look L t = some (.bool b))
    (hp : PureE P n L w ⟨some d, op, ty, pos, af, some (j, b)⟩ v) (hd : Nat.blt d n = true)
    (k : ∀ a', Mt n a' ((d, v) :: L) → wpList P ops Q rest a' w) : wpList P ops Q (⟨some d, op, ty, pos, af, some (j, b)⟩ :: rest) a w := by
  refine wpList_step fun K hK => ?_
  have hy : yielded ops a.tmps j = some b := by
    have := mt.at_ t _ ht
    unfold yielded
    rw [hj]
    simp only [Option.bind_some]
    rw [Array.getD_eq_getD_getElem?] at this
    cases hq : a.tmps[t]? with
    | none => rw [hq] at this; simp [undef] at this
    | some u => rw [hq] at this; simp at this; rw [this]
  rw [if_pos (by simp [Region.wanted, hy])]
  unfold Oper.wp
  rw [hp a w mt (Below.refl _ _)]
  exact hK _ _ (k _ (mt.put d v hd))
/-- an operation under a guard that is not met: its slot is undefined -/
theorem step_skip_g {j : Nat} {b c : Bool} {t : Nat} (mt : Mt n a L) (hj : (ops[j]?).bind (·.dst) = some t) (ht : look L t = some (.bool c)) (hbc : c = !b) (hd : Nat.blt d n = true)
    (k : ∀ a', Mt n a' ((d, undef) :: L) → wpList P ops Q rest a' w) : wpList P ops Q (⟨some d, op, ty, pos, af, some (j, b)⟩ :: rest) a w := by
  refine wpList_step fun K hK => ?_
  have hy : yielded ops a.tmps j = some c := by
    have := mt.at_ t _ ht
    unfold yielded
    rw [hj]
    simp only [Option.bind_some]
    rw [Array.getD_eq_getD_getElem?] at this
    cases hq : a.tmps[t]? with
    | none => rw [hq] at this; simp [undef] at this
    | some u => rw [hq] at this; simp at this; rw [this]
  rw [if_neg (by subst hbc; cases b <;> simp [Region.wanted, hy])]
  exact hK _ _ (k _ (mt.put d undef hd))
theorem pu_move {x : Operand} {v : Value} (hx : ev L x = some v) : PureE P n L w1 ⟨dd, .move x, ty, pos, af, g⟩ v := fun a w mt _ => by
  simp [execOp, mt.ev hx]
theorem pu_assign {x : Operand} {v : Value} (hx : ev L x = some v) : PureE P n L w1 ⟨dd, .assign x, ty, pos, af, g⟩ v := fun a w mt _ => by
  simp [execOp, mt.ev hx]
theorem pu_pick {c x y : Operand} {b : Bool} {v : Value} (hc : ev L c = some (.bool b)) (hv : (if b then ev L x else ev L y) = some v) : PureE P n L w1 ⟨dd, .pick c x y, ty, pos, af, g⟩ v := fun a w mt _ => by
  cases b
  · simp only [Bool.false_eq_true, if_false] at hv
    simp [execOp, mt.ev hc, mt.ev hv, asBool]
  · simp only [if_true] at hv
    simp [execOp, mt.ev hc, mt.ev hv, asBool]
theorem pu_pick_t {c x y : Operand} {v : Value} (hc : ev L c = some (.bool true)) (hv : ev L x = some v) : PureE P n L w1 ⟨dd, .pick c x y, ty, pos, af, g⟩ v := pu_pick hc hv
theorem pu_pick_f {c x y : Operand} {v : Value} (hc : ev L c = some (.bool false)) (hv : ev L y = some v) : PureE P n L w1 ⟨dd, .pick c x y, ty, pos, af, g⟩ v := pu_pick hc hv
theorem pu_extract {x : Operand} {vs : Array Value} {i : Nat} {v : Value} (hx : ev L x = some (.tuple vs)) (hi : nthA vs i = some v) : PureE P n L w1 ⟨dd, .extract x i, ty, pos, af, g⟩ v := fun a w mt _ => by
  rw [nthA_eq] at hi
  simp [execOp, mt.ev hx, Instr.extract, hi]
theorem pu_not {x : Operand} {b : Bool} {t : TypeId} (hx : ev L x = some (.bool b)) : PureE P n L w1 ⟨dd, .unOp .not t x, ty, pos, af, g⟩ (.bool (!b)) := fun a w mt _ => by
  simp [execOp, mt.ev hx, Op.unary]
theorem pu_not_p {x : Operand} {p : Prop} [Decidable p] {t : TypeId} (hx : ev L x = some (.bool (decide p))) : PureE P n L w1 ⟨dd, .unOp .not t x, ty, pos, af, g⟩ (.bool (decide (¬ p))) := fun a w mt _ => by
  simp [execOp, mt.ev hx, Op.unary]
theorem pu_neg {x : Operand} {k : IntKind} {m : Int} {t : TypeId} (hx : ev L x = some (.int k m)) : PureE P n L w1 ⟨dd, .unOp .neg t x, ty, pos, af, g⟩ (.int k (k.wrap (0 - m))) := fun a w mt _ => by
  simp [execOp, mt.ev hx, Op.unary, Op.intArith]
/-! integers -/
theorem pu_int {bop : BinOp} {x y : Operand} {s t : TypeId} {k : IntKind} {i j : Int} {v : Value} (hx : ev L x = some (.int k i)) (hy : ev L y = some (.int k j))
    (hv : ∀ w, (binOp bop s (.int k i) (.int k j)).run P w = .ok v w) : PureE P n L w1 ⟨dd, .binOp bop s x y t, ty, pos, af, g⟩ v := fun a w mt _ => by
  simp only [execOp, mt.ev hx, mt.ev hy, Sem.run_bind]
  have : (eqGuard bop s x y (.int k i) (.int k j)).run P w = .ok () w := by unfold eqGuard; cases bop <;> simp
  rw [this]
  simp [hv]
theorem pu_add {x y : Operand} {s t : TypeId} {k : IntKind} {i j : Int} (hx : ev L x = some (.int k i)) (hy : ev L y = some (.int k j)) : PureE P n L w1 ⟨dd, .binOp .add s x y t, ty, pos, af, g⟩ (.int k (k.wrap (i + j))) :=
  pu_int hx hy fun w => by simp [binOp, Op.intArith]
theorem pu_sub {x y : Operand} {s t : TypeId} {k : IntKind} {i j : Int} (hx : ev L x = some (.int k i)) (hy : ev L y = some (.int k j)) : PureE P n L w1 ⟨dd, .binOp .sub s x y t, ty, pos, af, g⟩ (.int k (k.wrap (i - j))) :=
  pu_int hx hy fun w => by simp [binOp, Op.intArith]
theorem pu_mul {x y : Operand} {s t : TypeId} {k : IntKind} {i j : Int} (hx : ev L x = some (.int k i)) (hy : ev L y = some (.int k j)) : PureE P n L w1 ⟨dd, .binOp .mul s x y t, ty, pos, af, g⟩ (.int k (k.wrap (i * j))) :=
  pu_int hx hy fun w => by simp [binOp, Op.intArith]
theorem i64_wrap {x : Int} (h : -9223372036854775808 ≤ x ∧ x ≤ 9223372036854775807) : IntKind.i64.wrap x = x := IntWalk.i64_in _ (by omega)
theorem pu_add_i {x y : Operand} {s t : TypeId} {i j : Int} (hx : ev L x = some (.int .i64 i)) (hy : ev L y = some (.int .i64 j)) (h : -9223372036854775808 ≤ i + j ∧ i + j ≤ 9223372036854775807) :
    PureE P n L w1 ⟨dd, .binOp .add s x y t, ty, pos, af, g⟩ (.int .i64 (i + j)) := by rw [← i64_wrap h]; exact pu_add hx hy
theorem pu_sub_i {x y : Operand} {s t : TypeId} {i j : Int} (hx : ev L x = some (.int .i64 i)) (hy : ev L y = some (.int .i64 j)) (h : -9223372036854775808 ≤ i - j ∧ i - j ≤ 9223372036854775807) :
    PureE P n L w1 ⟨dd, .binOp .sub s x y t, ty, pos, af, g⟩ (.int .i64 (i - j)) := by rw [← i64_wrap h]; exact pu_sub hx hy
theorem pu_mul_i {x y : Operand} {s t : TypeId} {i j : Int} (hx : ev L x = some (.int .i64 i)) (hy : ev L y = some (.int .i64 j)) (h : -9223372036854775808 ≤ i * j ∧ i * j ≤ 9223372036854775807) :
    PureE P n L w1 ⟨dd, .binOp .mul s x y t, ty, pos, af, g⟩ (.int .i64 (i * j)) := by rw [← i64_wrap h]; exact pu_mul hx hy
theorem pu_lss {x y : Operand} {s t : TypeId} {k : IntKind} {i j : Int} (hx : ev L x = some (.int k i)) (hy : ev L y = some (.int k j)) : PureE P n L w1 ⟨dd, .binOp .lss s x y t, ty, pos, af, g⟩ (.bool (decide (i < j))) :=
  pu_int hx hy fun w => by simp [binOp, Op.intCmp]
theorem pu_leq {x y : Operand} {s t : TypeId} {k : IntKind} {i j : Int} (hx : ev L x = some (.int k i)) (hy : ev L y = some (.int k j)) : PureE P n L w1 ⟨dd, .binOp .leq s x y t, ty, pos, af, g⟩ (.bool (decide (i ≤ j))) :=
  pu_int hx hy fun w => by simp [binOp, Op.intCmp]
theorem pu_gtr {x y : Operand} {s t : TypeId} {k : IntKind} {i j : Int} (hx : ev L x = some (.int k i)) (hy : ev L y = some (.int k j)) : PureE P n L w1 ⟨dd, .binOp .gtr s x y t, ty, pos, af, g⟩ (.bool (decide (j < i))) :=
  pu_int hx hy fun w => by simp [binOp, Op.intCmp]
theorem pu_geq {x y : Operand} {s t : TypeId} {k : IntKind} {i j : Int} (hx : ev L x = some (.int k i)) (hy : ev L y = some (.int k j)) : PureE P n L w1 ⟨dd, .binOp .geq s x y t, ty, pos, af, g⟩ (.bool (decide (j ≤ i))) :=
  pu_int hx hy fun w => by simp [binOp, Op.intCmp]
theorem pu_eql {x y : Operand} {s t : TypeId} {k : IntKind} {i j : Int} (hx : ev L x = some (.int k i)) (hy : ev L y = some (.int k j)) : PureE P n L w1 ⟨dd, .binOp .eql s x y t, ty, pos, af, g⟩ (.bool (decide (i = j))) :=
  pu_int hx hy fun w => by simp [binOp, Op.intCmp]; rfl
theorem pu_neq {x y : Operand} {s t : TypeId} {k : IntKind} {i j : Int} (hx : ev L x = some (.int k i)) (hy : ev L y = some (.int k j)) : PureE P n L w1 ⟨dd, .binOp .neq s x y t, ty, pos, af, g⟩ (.bool (decide (i ≠ j))) :=
  pu_int hx hy fun w => by simp [binOp, Op.intCmp]; by_cases h : i = j <;> simp [h]
theorem pu_shr {x y : Operand} {s t : TypeId} {k k' : IntKind} {i j : Int} (hx : ev L x = some (.int k i)) (hy : ev L y = some (.int k' j)) (h0 : 0 ≤ j) :
    PureE P n L w1 ⟨dd, .binOp .shr s x y t, ty, pos, af, g⟩ (.int k (i.fdiv (2 ^ (min j.toNat k.bits)))) := fun a w mt _ => by
  simp only [execOp, mt.ev hx, mt.ev hy, Sem.run_bind]
  have : (eqGuard .shr s x y (.int k i) (.int k' j)).run P w = .ok () w := by unfold eqGuard; simp
  rw [this]
  have h0' : ¬ j < 0 := by omega
  simp [binOp, Op.shift, h0']
theorem pu_shl {x y : Operand} {s t : TypeId} {k k' : IntKind} {i j : Int} (hx : ev L x = some (.int k i)) (hy : ev L y = some (.int k' j)) (h0 : 0 ≤ j) :
    PureE P n L w1 ⟨dd, .binOp .shl s x y t, ty, pos, af, g⟩ (.int k (k.wrap (i * 2 ^ (min j.toNat k.bits)))) := fun a w mt _ => by
  simp only [execOp, mt.ev hx, mt.ev hy, Sem.run_bind]
  have : (eqGuard .shl s x y (.int k i) (.int k' j)).run P w = .ok () w := by unfold eqGuard; simp
  rw [this]
  have h0' : ¬ j < 0 := by omega
  simp [binOp, Op.shift, h0']
theorem pu_quo {x y : Operand} {s t : TypeId} {k : IntKind} {i j : Int} (hx : ev L x = some (.int k i)) (hy : ev L y = some (.int k j)) (hj : j ≠ 0) : PureE P n L w1 ⟨dd, .binOp .quo s x y t, ty, pos, af, g⟩ (.int k (k.wrap (i.tdiv j))) :=
  pu_int hx hy fun w => by simp [binOp, Op.intDiv, hj]
theorem pu_rem {x y : Operand} {s t : TypeId} {k : IntKind} {i j : Int} (hx : ev L x = some (.int k i)) (hy : ev L y = some (.int k j)) (hj : j ≠ 0) : PureE P n L w1 ⟨dd, .binOp .rem s x y t, ty, pos, af, g⟩ (.int k (i.tmod j)) :=
  pu_int hx hy fun w => by simp [binOp, Op.intDiv, hj]
theorem pu_and {x y : Operand} {s t : TypeId} {k : IntKind} {i j : Int} (hx : ev L x = some (.int k i)) (hy : ev L y = some (.int k j)) : PureE P n L w1 ⟨dd, .binOp .and s x y t, ty, pos, af, g⟩ (.int k (k.wrap (BitVec.ofInt k.bits i &&& BitVec.ofInt k.bits j).toNat)) :=
  pu_int hx hy fun w => by simp [binOp, Op.intBits]
theorem pu_or {x y : Operand} {s t : TypeId} {k : IntKind} {i j : Int} (hx : ev L x = some (.int k i)) (hy : ev L y = some (.int k j)) : PureE P n L w1 ⟨dd, .binOp .or s x y t, ty, pos, af, g⟩ (.int k (k.wrap (BitVec.ofInt k.bits i ||| BitVec.ofInt k.bits j).toNat)) :=
  pu_int hx hy fun w => by simp [binOp, Op.intBits]
theorem pu_andNot {x y : Operand} {s t : TypeId} {k : IntKind} {i j : Int} (hx : ev L x = some (.int k i)) (hy : ev L y = some (.int k j)) : PureE P n L w1 ⟨dd, .binOp .andNot s x y t, ty, pos, af, g⟩ (.int k (k.wrap (BitVec.ofInt k.bits i &&& ~~~ BitVec.ofInt k.bits j).toNat)) :=
  pu_int hx hy fun w => by simp [binOp, Op.intBits]
/-- replace the value by an equal one -/
theorem PureE.to {o : Oper} {v u : Value} (h : PureE P n L w1 o v) (e : v = u) : PureE P n L w1 o u := e ▸ h
theorem PureE.toi {o : Oper} {k : IntKind} {i j : Int} (h : PureE P n L w1 o (.int k i)) (e : i = j) : PureE P n L w1 o (.int k j) := e ▸ h
theorem PureE.tob {o : Oper} {i j : Bool} (h : PureE P n L w1 o (.bool i)) (e : i = j) : PureE P n L w1 o (.bool j) := e ▸ h
/-! bools -/
theorem pu_eql_b {x y : Operand} {s t : TypeId} {i j : Bool} (hx : ev L x = some (.bool i)) (hy : ev L y = some (.bool j)) (ht : P.underlying s = some .bool) : PureE P n L w1 ⟨dd, .binOp .eql s x y t, ty, pos, af, g⟩ (.bool (i == j)) := fun a w mt _ => by
  simp only [execOp, mt.ev hx, mt.ev hy, Sem.run_bind]
  have : (eqGuard .eql s x y (.bool i) (.bool j)).run P w = .ok () w := by unfold eqGuard; simp
  rw [this]
  simp only [Result.andThen_ok, run_eql_bool w s i j ht]
  rfl
theorem pu_neq_b {x y : Operand} {s t : TypeId} {i j : Bool} (hx : ev L x = some (.bool i)) (hy : ev L y = some (.bool j)) (ht : P.underlying s = some .bool) : PureE P n L w1 ⟨dd, .binOp .neq s x y t, ty, pos, af, g⟩ (.bool (!(i == j))) := fun a w mt _ => by
  simp only [execOp, mt.ev hx, mt.ev hy, Sem.run_bind]
  have : (eqGuard .neq s x y (.bool i) (.bool j)).run P w = .ok () w := by unfold eqGuard; simp
  rw [this]
  simp only [Result.andThen_ok, run_neq_bool w s i j ht]
  cases i <;> cases j <;> rfl
/-! strings -/
theorem pu_str {bop : BinOp} {x y : Operand} {s t : TypeId} {i j : ByteArray} {v : Value} (hx : ev L x = some (.string i)) (hy : ev L y = some (.string j))
    (hv : ∀ w, (Op.stringOp bop i j).run P w = .ok v w) (hb : bop ≠ .shl ∧ bop ≠ .shr) : PureE P n L w1 ⟨dd, .binOp bop s x y t, ty, pos, af, g⟩ v := fun a w mt _ => by
  simp only [execOp, mt.ev hx, mt.ev hy, Sem.run_bind]
  have : (eqGuard bop s x y (.string i) (.string j)).run P w = .ok () w := by unfold eqGuard; cases bop <;> simp
  rw [this]
  have : (binOp bop s (.string i) (.string j)) = Op.stringOp bop i j := by cases bop <;> simp [binOp] at hb ⊢
  simp [this, hv]
theorem pu_cat {x y : Operand} {s t : TypeId} {i j : ByteArray} (hx : ev L x = some (.string i)) (hy : ev L y = some (.string j)) (h : i.size + j.size ≤ 9223372036854775807) : PureE P n L w1 ⟨dd, .binOp .add s x y t, ty, pos, af, g⟩ (.string (i ++ j)) :=
  pu_str hx hy (fun w => run_string_add_sum w i j h) (by simp)
theorem bytes_beq (i j : ByteArray) : (i.toList == j.toList) = decide (i = j) := by
  have h : i.toList = j.toList ↔ i = j := by
    rw [ByteArray.toList_eq, ByteArray.toList_eq]
    exact ⟨fun h => ByteArray.ext (Array.toList_inj.1 h), fun h => by rw [h]⟩
  by_cases h' : i = j
  · simp [h']
  · simp [h', mt h.1 h']
theorem pu_eql_s {x y : Operand} {s t : TypeId} {i j : ByteArray} (hx : ev L x = some (.string i)) (hy : ev L y = some (.string j)) : PureE P n L w1 ⟨dd, .binOp .eql s x y t, ty, pos, af, g⟩ (.bool (decide (i = j))) :=
  pu_str hx hy (fun w => by simp [Op.stringOp, bytes_beq]) (by simp)
theorem pu_neq_s {x y : Operand} {s t : TypeId} {i j : ByteArray} (hx : ev L x = some (.string i)) (hy : ev L y = some (.string j)) : PureE P n L w1 ⟨dd, .binOp .neq s x y t, ty, pos, af, g⟩ (.bool (decide (i ≠ j))) :=
  pu_str hx hy (fun w => by simp [Op.stringOp, bytes_beq]) (by simp)
theorem pu_lss_s {x y : Operand} {s t : TypeId} {i j : ByteArray} (hx : ev L x = some (.string i)) (hy : ev L y = some (.string j)) : PureE P n L w1 ⟨dd, .binOp .lss s x y t, ty, pos, af, g⟩ (.bool (Op.bytesLess i.toList j.toList)) :=
  pu_str hx hy (fun w => by simp [Op.stringOp]) (by simp)
theorem pu_geq_s {x y : Operand} {s t : TypeId} {i j : ByteArray} (hx : ev L x = some (.string i)) (hy : ev L y = some (.string j)) : PureE P n L w1 ⟨dd, .binOp .geq s x y t, ty, pos, af, g⟩ (.bool (!(Op.bytesLess i.toList j.toList))) :=
  pu_str hx hy (fun w => by simp [Op.stringOp]) (by simp)
theorem pu_len_s {x : Operand} {t : TypeId} {s : ByteArray} (hx : ev L x = some (.string s)) (ht : P.underlying t = some .string) : PureE P n L w1 ⟨dd, .call { callee := .builtin .len, args := #[x], argTypes := #[t] }, ty, pos, af, g⟩ (.int .i64 s.size) := fun a w mt _ => by
  simp [execOp, resolve, invoke, builtin, mt.ev hx, run_len_string w t _ s ht, goInt]
theorem pu_len {x : Operand} {t : TypeId} {e : TypeId} {ad : Option Addr} {m c : Nat} (hx : ev L x = some (.slice ad m c)) (ht : P.underlying t = some (.slice e)) : PureE P n L w1 ⟨dd, .call { callee := .builtin .len, args := #[x], argTypes := #[t] }, ty, pos, af, g⟩ (.int .i64 m) := fun a w mt _ => by
  simp [execOp, resolve, invoke, builtin, mt.ev hx, Builtin.len_, run_underlying ht, goInt]
theorem pu_cap {x : Operand} {t : TypeId} {e : TypeId} {ad : Option Addr} {m c : Nat} (hx : ev L x = some (.slice ad m c)) (ht : P.underlying t = some (.slice e)) : PureE P n L w1 ⟨dd, .call { callee := .builtin .cap, args := #[x], argTypes := #[t] }, ty, pos, af, g⟩ (.int .i64 c) := fun a w mt _ => by
  simp [execOp, resolve, invoke, builtin, mt.ev hx, Builtin.cap_, run_underlying ht, goInt]
theorem pu_min {x y : Operand} {ts : Array TypeId} {k : IntKind} {i j : Int} (hx : ev L x = some (.int k i)) (hy : ev L y = some (.int k j)) : PureE P n L w1 ⟨dd, .call { callee := .builtin .min, args := #[x, y], argTypes := ts }, ty, pos, af, g⟩ (.int k (min i j)) := fun a w mt _ => by
  have : (if j < i then j else i) = min i j := by split <;> omega
  simp [execOp, resolve, invoke, builtin, mt.ev hx, mt.ev hy, Builtin.min_, Builtin.min2, this]
theorem pu_max {x y : Operand} {ts : Array TypeId} {k : IntKind} {i j : Int} (hx : ev L x = some (.int k i)) (hy : ev L y = some (.int k j)) : PureE P n L w1 ⟨dd, .call { callee := .builtin .max, args := #[x, y], argTypes := ts }, ty, pos, af, g⟩ (.int k (max i j)) := fun a w mt _ => by
  have : (if i < j then j else i) = max i j := by split <;> omega
  simp [execOp, resolve, invoke, builtin, mt.ev hx, mt.ev hy, Builtin.max_, Builtin.max2, this]
/-- a byte of a string -/
theorem pu_index_s {x y : Operand} {t : TypeId} {s : ByteArray} {k : IntKind} {i : Int} {b : UInt8} (hx : ev L x = some (.string s)) (hy : ev L y = some (.int k i)) (ht : P.underlying t = some .string) (h0 : 0 ≤ i) (hb : s[i.toNat]? = some b) :
    PureE P n L w1 ⟨dd, .index t x y, ty, pos, af, g⟩ (.int .u8 b.toNat) := fun a w mt _ => by
  simp [execOp, mt.ev hx, mt.ev hy, Instr.index, asIntOf, run_underlying ht, h0, hb]
/-- a part of a string -/
theorem pu_slice_s {x : Operand} {t : TypeId} {s : ByteArray} {lo hi : Option Operand} {l h : Int} (hx : ev L x = some (.string s)) (ht : P.underlying t = some .string)
    (hlo : lo = none ∧ l = 0 ∨ ∃ y k, lo = some y ∧ ev L y = some (.int k l)) (hhi : hi = none ∧ h = s.size ∨ ∃ y k, hi = some y ∧ ev L y = some (.int k h)) (h0 : 0 ≤ l) (h1 : l ≤ h) (h2 : h ≤ s.size) :
    PureE P n L w1 ⟨dd, .slice t x lo hi none, ty, pos, af, g⟩ (.string (s.extract l.toNat h.toNat)) := fun a w mt _ => by
  have e1 : ¬ ((P.underlying t).isNone) := by simp [ht]
  have hl : ∀ kl : IntKind, (Instr.sliceBound (.int kl l) h.toNat .sliceB).run P w = .ok l.toNat w := fun kl => run_sliceBound _ _ _ _ _ h0 (by omega)
  have hh : ∀ kh : IntKind, (Instr.sliceBound (.int kh h) s.size .sliceAlen).run P w = .ok h.toNat w := fun kh => by simp [Instr.sliceBound, asIntOf, h2, show 0 ≤ h by omega]
  have hh' : ∀ kh : IntKind, (Instr.sliceBound (.int kh h) s.size .sliceAlen).run P w = .ok h.toNat w := hh
  rcases hlo with ⟨rfl, rfl⟩ | ⟨y, k, rfl, hy⟩ <;> rcases hhi with ⟨rfl, rfl⟩ | ⟨z, k', rfl, hz⟩
  · simp [execOp, mt.ev hx, Instr.sliceAt, Instr.slice, run_underlying ht, Instr.sliceBounds]
  · simp [execOp, mt.ev hx, mt.ev hz, Instr.sliceAt, Instr.slice, run_underlying ht, Instr.sliceBounds, hh]
  · have hl' : ∀ kl : IntKind, (Instr.sliceBound (.int kl l) s.size .sliceB).run P w = .ok l.toNat w := fun kl => run_sliceBound _ _ _ _ _ h0 (by omega)
    simp [execOp, mt.ev hx, mt.ev hy, Instr.sliceAt, Instr.slice, run_underlying ht, Instr.sliceBounds, hl']
  · simp [execOp, mt.ev hx, mt.ev hy, mt.ev hz, Instr.sliceAt, Instr.slice, run_underlying ht, Instr.sliceBounds, hh, hl]
/-- a part of a slice -/
theorem pu_slice {x : Operand} {t e : TypeId} {ti : TypeInfo} {ad : Option Addr} {m c : Nat} {lo hi mx : Option Operand} {l h : Int} {cc : Int} (hx : ev L x = some (.slice ad m c)) (ht : P.underlying t = some (.slice e)) (hi' : P.info? e = some ti)
    (hlo : lo = none ∧ l = 0 ∨ ∃ y k, lo = some y ∧ ev L y = some (.int k l)) (hhi : hi = none ∧ mx = none ∧ h = m ∨ ∃ y k, hi = some y ∧ ev L y = some (.int k h)) (hmx : mx = none ∧ cc = c ∨ ∃ y k, mx = some y ∧ ev L y = some (.int k cc))
    (h0 : 0 ≤ l) (h1 : l ≤ h) (h2 : h ≤ cc) (h3 : cc ≤ c) :
    PureE P n L w1 ⟨dd, .slice t x lo hi mx, ty, pos, af, g⟩ (.slice (if cc.toNat = l.toNat then ad else ad.map (·.add (l.toNat * ti.size))) (h.toNat - l.toNat) (cc.toNat - l.toNat)) := fun a w mt _ => by
  have B : ∀ (k : IntKind) (i : Int) (y : Nat) (code : BoundsCode), 0 ≤ i → i ≤ y → (Instr.sliceBound (.int k i) y code).run P w = .ok i.toNat w := fun k i y code a b => run_sliceBound _ _ _ _ _ a b
  rcases hlo with ⟨rfl, rfl⟩ | ⟨y, k, rfl, hy⟩ <;> rcases hhi with ⟨rfl, rfl, rfl⟩ | ⟨z, k', rfl, hz⟩ <;> rcases hmx with ⟨e1, rfl⟩ | ⟨u, k'', e1, hu⟩ <;> (try (cases e1)) <;> (try subst e1)
  · simp [execOp, mt.ev hx, Instr.sliceAt, Instr.slice, run_underlying ht, Instr.sliceBounds, sizeOf, typeInfo, hi']
  · simp [execOp, mt.ev hx, mt.ev hz, Instr.sliceAt, Instr.slice, run_underlying ht, Instr.sliceBounds, sizeOf, typeInfo, hi', B _ h c _ (by omega) (by omega)]
  · simp [execOp, mt.ev hx, mt.ev hz, mt.ev hu, Instr.sliceAt, Instr.slice, run_underlying ht, Instr.sliceBounds, sizeOf, typeInfo, hi', B _ cc c _ (by omega) (by omega), B _ h cc.toNat _ (by omega) (by omega)]
  · simp [execOp, mt.ev hx, mt.ev hy, Instr.sliceAt, Instr.slice, run_underlying ht, Instr.sliceBounds, sizeOf, typeInfo, hi', B _ l m _ (by omega) (by omega)]
  · simp [execOp, mt.ev hx, mt.ev hy, mt.ev hz, Instr.sliceAt, Instr.slice, run_underlying ht, Instr.sliceBounds, sizeOf, typeInfo, hi', B _ h c _ (by omega) (by omega), B _ l h.toNat _ (by omega) (by omega)]
  · simp [execOp, mt.ev hx, mt.ev hy, mt.ev hz, mt.ev hu, Instr.sliceAt, Instr.slice, run_underlying ht, Instr.sliceBounds, sizeOf, typeInfo, hi', B _ cc c _ (by omega) (by omega), B _ h cc.toNat _ (by omega) (by omega), B _ l h.toNat _ (by omega) (by omega)]
/-! addresses -/
theorem pu_fieldAddr {x : Operand} {s : TypeId} {fs : Array Field} {f : Field} {ti : TypeInfo} {i : Nat} {ad : Addr} (hs : P.underlying s = some (.struct fs)) (hf : fs[i]? = some f) (hi : P.info? f.type = some ti) (hz : ti.size ≠ 0)
    (hx : ev L x = some (.pointer (some ad))) : PureE P n L w1 ⟨dd, .fieldAddr s x i, ty, pos, af, g⟩ (.pointer (some (ad.add f.offset))) := fun a w mt _ => by
  simp [execOp, mt.ev hx, Instr.fieldAt, run_underlying hs, hf, Instr.sureAddr, fieldPlace, sizeOf, typeInfo, hi, hz]
/-- what a field's address needs: the offset -/
def fldB (P : Program) (s i off : Nat) : Bool :=
  match P.underlying s with
  | some (.struct fs) => match fs[i]? with
    | some f => f.offset == off && (match P.info? f.type with | some ti => ti.size != 0 | none => false)
    | none => false
  | _ => false
theorem pu_fld {x : Operand} {s : TypeId} {i : Nat} {b o : Nat} (off : Nat) (hs : fldB P s i off = true)
    (hx : ev L x = some (.pointer (some ⟨b, o, none⟩))) : PureE P n L w1 ⟨dd, .fieldAddr s x i, ty, pos, af, g⟩ (.pointer (some ⟨b, o + off, none⟩)) := by
  unfold fldB at hs
  cases h1 : P.underlying s with
  | none => simp [h1] at hs
  | some td =>
    cases td <;> simp only [h1] at hs <;> try (cases hs; done)
    rename_i fs
    cases h2 : fs[i]? with
    | none => simp [h2] at hs
    | some f =>
      cases h3 : P.info? f.type with
      | none => simp [h2, h3] at hs
      | some ti =>
        simp only [h2, h3, Bool.and_eq_true, beq_iff_eq, bne_iff_ne, ne_eq] at hs
        have := pu_fieldAddr (P := P) (n := n) (L := L) (w1 := w1) (dd := dd) (ty := ty) (pos := pos) (af := af) (g := g) h1 h2 h3 hs.2 hx
        rw [hs.1] at this
        have e : (⟨b, o, none⟩ : Addr).add off = ⟨b, o + off, none⟩ := by unfold Addr.add; split <;> simp_all
        rwa [e] at this
theorem add_plain (g j k : Nat) : (⟨g, j, none⟩ : Addr).add k = ⟨g, j + k, none⟩ := by unfold Addr.add; split <;> simp_all
/-- the address of a slice's element -/
theorem pu_indexAddr {x y : Operand} {t e : TypeId} {ti : TypeInfo} {b o m c : Nat} {k : IntKind} {i : Int} (ht : P.underlying t = some (.slice e)) (hi : P.info? e = some ti)
    (hx : ev L x = some (.slice (some ⟨b, o, none⟩) m c)) (hy : ev L y = some (.int k i)) (h0 : 0 ≤ i) (h1 : i < m) :
    PureE P n L w1 ⟨dd, .indexAddr t x y, ty, pos, af, g⟩ (.pointer (some ⟨b, o + i.toNat * ti.size, none⟩)) := fun a w mt _ => by
  simp [execOp, mt.ev hx, mt.ev hy, Instr.indexAt, asIntOf, run_underlying ht, h0, h1, sizeOf, typeInfo, hi, add_plain]
theorem pu_indexAddr_arr {x y : Operand} {t e : TypeId} {m : Nat} {ti : TypeInfo} {b o : Nat} {k : IntKind} {i : Int} (ht : P.underlying t = some (.array m e)) (hi : P.info? e = some ti)
    (hx : ev L x = some (.pointer (some ⟨b, o, none⟩))) (hy : ev L y = some (.int k i)) (h0 : 0 ≤ i) (h1 : i < m) :
    PureE P n L w1 ⟨dd, .indexAddr t x y, ty, pos, af, g⟩ (.pointer (some ⟨b, o + i.toNat * ti.size, none⟩)) := fun a w mt _ => by
  simp [execOp, mt.ev hx, mt.ev hy, Instr.indexAt, asIntOf, run_underlying ht, h0, h1, sizeOf, typeInfo, hi, add_plain, Instr.sureAddr]
/-! interfaces, functions -/
theorem pu_makeInterface {x : Operand} {t : TypeId} {v : Value} (hc : P.concrete t = true) (hx : ev L x = some v) : PureE P n L w1 ⟨dd, .makeInterface t x, ty, pos, af, g⟩ (.iface t v) := fun a w mt _ => by
  simp [execOp, mt.ev hx, run_makeInterface w t v hc]
def concB (P : Program) (t : TypeId) : Bool := match P.underlying t with | some (.interface _) => false | some _ => true | none => false
theorem pu_assert_yes {x : Operand} {s t : TypeId} {v : Value} (hc : concB P t = true) (hx : ev L x = some (.iface t v)) : PureE P n L w1 ⟨dd, .typeAssert x s t true, ty, pos, af, g⟩ (.tuple #[v, .bool true]) := fun a w mt _ => by
  unfold concB at hc
  cases h : P.underlying t with
  | none => simp [h] at hc
  | some td => cases td <;> simp [h] at hc <;> simp [execOp, mt.ev hx, Instr.typeAssert, run_underlying h]
theorem pu_assert_no {x : Operand} {s t u : TypeId} {v z : Value} (hc : concB P t = true) (hx : ev L x = some (.iface u v)) (hne : Nat.beq u t = false) (hz : (P.info? t).bind (·.zero) = some z) :
    PureE P n L w1 ⟨dd, .typeAssert x s t true, ty, pos, af, g⟩ (.tuple #[z, .bool false]) := fun a w mt _ => by
  unfold concB at hc
  have hne' := beq_false hne
  cases hi : P.info? t with
  | none => simp [hi] at hz
  | some ti =>
    simp only [hi, Option.bind_some] at hz
    cases h : P.underlying t with
    | none => simp [h] at hc
    | some td => cases td <;> simp [h] at hc <;> simp [execOp, mt.ev hx, Instr.typeAssert, run_underlying h, hne', zeroValue, typeInfo, hi, hz]
theorem pu_makeFunc {f : Fn} {fi ca : Array Operand} {vs us : List Value} (h1 : fi.toList.map (ev L) = vs.map some) (h2 : ca.toList.map (ev L) = us.map some) :
    PureE P n L w1 ⟨dd, .makeFunc f fi ca, ty, pos, af, g⟩ (.func f vs.toArray us.toArray) := fun a w mt _ => by
  have key : ∀ (xs : List Operand) (vs : List Value), xs.map (ev L) = vs.map some → xs.map a.eval = vs := by
    intro xs
    induction xs with
    | nil => intro vs h; cases vs <;> simp at h ⊢
    | cons x xs ih => intro vs h; cases vs with
      | nil => simp at h
      | cons v vs => simp only [List.map_cons, List.cons.injEq] at h ⊢; exact ⟨mt.ev h.1, ih vs h.2⟩
  have e1 : fi.map a.eval = vs.toArray := by rw [← key _ _ h1]; exact Array.toList_inj.1 (by simp)
  have e2 : ca.map a.eval = us.toArray := by rw [← key _ _ h2]; exact Array.toList_inj.1 (by simp)
  simp [execOp, Instr.makeFunc, e1, e2]
theorem pu_nilCheck {x : Operand} {ad : Addr} (hx : ev L x = some (.pointer (some ad))) : PureE P n L w1 ⟨dd, .nilCheck x, ty, pos, af, g⟩ (.pointer (some ad)) := fun a w mt _ => by
  simp [execOp, mt.ev hx]
end
end Go.Proofs.YtoilfakpgcjjpaaDoor.Eng
namespace Go.Proofs.YtoilfakpgcjjpaaDoor.Eng
open Go Go.RowKit
set_option linter.unusedVariables false
set_option linter.unusedSimpArgs false
/-! ### heaps -/
abbrev Hp := Nat → Option Obj
def hp (w : World) : Hp := fun b => w.heap[b]?
def Sub (h g : Hp) : Prop := ∀ b o, h b = some o → g b = some o
theorem Sub.refl (h : Hp) : Sub h h := fun _ _ x => x
theorem Sub.trans {a b c : Hp} (h : Sub a b) (k : Sub b c) : Sub a c := fun i o x => k i o (h i o x)
theorem hp_some {w : World} {b : Nat} {o : Obj} (h : hp w b = some o) : b < w.heap.size := (Array.getElem?_eq_some_iff.1 h).1
theorem Below.sub {w w' : World} (h : Below w.heap.size w w') : Sub (hp w) (hp w') := fun b o x => (h.block b (hp_some x)).trans x
def cellI (I : Hp) (b i : Nat) : Option Value :=
  match I b with
  | some (.cells cs _ _) => cs[i]?
  | _ => none
theorem cellI_mono {I J : Hp} (h : Sub I J) {b i : Nat} {v : Value} (hc : cellI I b i = some v) : cellI J b i = some v := by
  unfold cellI at *
  cases hb : I b with
  | none => simp [hb] at hc
  | some o => rw [h b o hb]; rw [hb] at hc; exact hc
theorem cellI_blk {I : Hp} {b i : Nat} {cs : Array Value} {t : TypeId} {f : Nat × Nat} (h : I b = some (.cells cs t f)) : cellI I b i = cs[i]? := by simp [cellI, h]
theorem cellI_hp (w : World) (b i : Nat) : cellI (hp w) b i = w.cell? ⟨b, i, none⟩ := by
  unfold cellI hp World.cell?
  cases h : w.heap[b]? with
  | none => simp [h]
  | some o => cases o <;> simp [h]
/-- what is sealed behind a step: the old sealed blocks, and every block that is new -/
def Iext (I : Hp) (w w' : World) : Hp := fun b => if b < w.heap.size then I b else w'.heap[b]?
theorem Iext_sub {I : Hp} {w : World} (h : Sub I (hp w)) (w' : World) : Sub I (Iext I w w') := fun b o x => by
  unfold Iext; rw [if_pos (hp_some (h b o x))]; exact x
theorem Iext_hp {I : Hp} {w w' : World} (h : Sub I (hp w)) (hb : Below w.heap.size w w') : Sub (Iext I w w') (hp w') := fun b o x => by
  unfold Iext at x
  split at x
  · exact Below.sub hb b o (h b o x)
  · exact x
theorem Iext_mono {I J : Hp} (h : Sub I J) (w w' : World) : Sub (Iext I w w') (Iext J w w') := fun b o x => by
  unfold Iext at *
  split
  · rename_i hlt; rw [if_pos hlt] at x; exact h b o x
  · rename_i hlt; rw [if_neg hlt] at x; exact x
theorem Iext_later {I : Hp} {w w1 w2 : World} (h1 : Below w.heap.size w w1) (h : Below w1.heap.size w1 w2) : Sub (Iext I w w1) (Iext I w w2) := fun b o x => by
  unfold Iext at *
  split
  · rename_i hlt; rw [if_pos hlt] at x; exact x
  · rename_i hlt; rw [if_neg hlt] at x; exact Below.sub h b o x
/-! ### slices that no longer change -/
def RdS (I : Hp) (v : Value) (sz n : Nat) (vs : List Value) : Prop :=
  ∃ a c, v = .slice a n c ∧ n ≤ c ∧ c ≤ maxLen ∧ vs.length = n * sz ∧ ∀ j u, vs[j]? = some u → ∃ b o, a = some ⟨b, o, none⟩ ∧ cellI I b (o + j) = some u
theorem RdS.mono {I J : Hp} (h : Sub I J) {v : Value} {sz n : Nat} {vs : List Value} (r : RdS I v sz n vs) : RdS J v sz n vs := by
  obtain ⟨a, c, e, h1, h2, h3, h4⟩ := r
  exact ⟨a, c, e, h1, h2, h3, fun j u hu => let ⟨b, o, e, hc⟩ := h4 j u hu; ⟨b, o, e, cellI_mono h hc⟩⟩
theorem RdS.nil (I : Hp) (sz : Nat) : RdS I (.slice none 0 0) sz 0 [] := ⟨none, 0, rfl, Nat.le_refl _, Nat.zero_le _, by simp, fun j u h => by simp at h⟩
/-- its form where there is an element -/
theorem RdS.form {I : Hp} {v : Value} {sz n : Nat} {vs : List Value} (r : RdS I v sz n vs) (hsz : 0 < sz) (hn : 0 < n) :
    ∃ b o c, v = .slice (some ⟨b, o, none⟩) n c ∧ n ≤ c ∧ c ≤ maxLen ∧ ∀ j u, vs[j]? = some u → cellI I b (o + j) = some u := by
  obtain ⟨a, c, e, h1, h2, h3, h4⟩ := r
  have hl : 0 < vs.length := by rw [h3]; exact Nat.mul_pos hn hsz
  obtain ⟨b, o, e', _⟩ := h4 0 vs[0] (List.getElem?_eq_getElem hl)
  subst e'
  refine ⟨b, o, c, e, h1, h2, fun j u hu => ?_⟩
  obtain ⟨b', o', e', hc⟩ := h4 j u hu
  simp only [Option.some.injEq, Addr.mk.injEq, and_true] at e'
  rw [e'.1, e'.2]; exact hc
theorem RdS.len {I : Hp} {v : Value} {sz n : Nat} {vs : List Value} (r : RdS I v sz n vs) : ∃ a c, v = .slice a n c ∧ n ≤ c ∧ c ≤ maxLen ∧ vs.length = n * sz := by
  obtain ⟨a, c, e, h1, h2, h3, _⟩ := r
  exact ⟨a, c, e, h1, h2, h3⟩
theorem RdS.ofOwn {I : Hp} {w : World} {base : Nat} {e : TypeId} {sz n : Nat} {v : Value} {xs : List Value} (h : w.ownsRow base e sz v n xs) (hI : ∀ k, v.ownBlock = some k → I k = w.heap[k]?) : RdS I v sz n xs := by
  obtain ⟨h0, h1⟩ := h
  rcases h1 with ⟨rfl, rfl⟩ | ⟨g, cap, cur, rfl, _, hg, h2, h3, h4, h5⟩
  · have : xs = [] := List.eq_nil_of_length_eq_zero (by simpa using h0)
    subst this
    exact RdS.nil I sz
  · refine ⟨_, _, rfl, h2, h3, h0, fun j u hu => ⟨g, 0, rfl, ?_⟩⟩
    rw [cellI_blk ((hI g rfl).trans hg)]
    subst h5
    rw [List.getElem?_take] at hu
    split at hu
    · simpa using hu
    · cases hu
/-! ### what the call owns -/
inductive Item where
  | blk (b : Nat) (o : Obj)
  | row (v : Value) (e : TypeId) (sz n : Nat) (xs : List Value)
def Item.block : Item → Option Nat
  | .blk b _ => some b
  | .row v _ _ _ _ => v.ownBlock
def Item.sat (w : World) : Item → Prop
  | .blk b o => w.heap[b]? = some o
  | .row v e sz n xs => w.ownsRow 0 e sz v n xs
theorem Item.lt {w : World} {it : Item} (h : it.sat w) {k : Nat} (hk : it.block = some k) : k < w.heap.size := by
  cases it with
  | blk b o => simp only [Item.block, Option.some.injEq] at hk; subst hk; exact hp_some (w := w) h
  | row v e sz n xs => exact (World.ownsRow.lt h k hk).2
theorem Item.kept {w w' : World} {it : Item} (h : it.sat w) (hk : ∀ k, it.block = some k → w'.heap[k]? = w.heap[k]?) : it.sat w' := by
  cases it with
  | blk b o => exact (hk b rfl).trans h
  | row v e sz n xs =>
    refine ⟨h.1, ?_⟩
    rcases h.2 with h' | ⟨g, cap, cur, rfl, hb, hg, rest⟩
    · exact .inl h'
    · exact .inr ⟨g, cap, cur, rfl, hb, (hk g rfl).trans hg, rest⟩
structure St (X : List Nat) (w0 : World) (I0 : Hp) (w : World) (I : Hp) (M : List Item) : Prop where
  os : w.os = w0.os
  tape : w.tape = w0.tape
  output : w.output = w0.output
  size : w0.heap.size ≤ w.heap.size
  old : ∀ b, b < w0.heap.size → b ∉ X → w.heap[b]? = w0.heap[b]?
  le0 : ∀ b, b < w0.heap.size → I b = I0 b
  sub0 : Sub I0 I
  agr : Sub I (hp w)
  sat : ∀ it ∈ M, it.sat w
  own : ∀ it ∈ M, ∀ k, it.block = some k → I k = none ∧ (w0.heap.size ≤ k ∨ k ∈ X)
  sep : M.Pairwise fun x y => ∀ k, x.block = some k → y.block ≠ some k
inductive Pick : List Item → Item → List Item → Prop where
  | here (it : Item) (R : List Item) : Pick (it :: R) it R
  | there (x : Item) {M R : List Item} {it : Item} (h : Pick M it R) : Pick (x :: M) it (x :: R)
theorem Pick.perm {M R : List Item} {it : Item} (h : Pick M it R) : M.Perm (it :: R) := by
  induction h with
  | here it R => exact .refl _
  | there x h ih => exact (List.Perm.cons x ih).trans (.swap _ _ _)
theorem Pick.mem {M R : List Item} {it : Item} (h : Pick M it R) : it ∈ M := h.perm.mem_iff.2 (.head _)
section
variable {X : List Nat} {w0 w w' : World} {I0 I : Hp} {M R : List Item} {it : Item}
theorem all_cons {p : Item → Prop} (h : p it) (k : ∀ x ∈ M, p x) : ∀ x ∈ it :: M, p x := fun x hx => by
  cases hx with
  | head => exact h
  | tail _ hx => exact k x hx
theorem all_tail {p : Item → Prop} (k : ∀ x ∈ it :: M, p x) : ∀ x ∈ M, p x := fun x hx => k x (.tail _ hx)
theorem St.start (hI : Sub I0 (hp w0)) : St [] w0 I0 w0 I0 [] :=
  ⟨rfl, rfl, rfl, Nat.le_refl _, fun _ _ _ => rfl, fun _ _ => rfl, Sub.refl _, hI, (fun _ h => by cases h), (fun _ h => by cases h), List.Pairwise.nil⟩
/-- a call that may turn one old block -/
theorem St.start1 {b : Nat} {o : Obj} (hI : Sub I0 (hp w0)) (hb : w0.heap[b]? = some o) (hn : I0 b = none) : St [b] w0 I0 w0 I0 [.blk b o] :=
  ⟨rfl, rfl, rfl, Nat.le_refl _, fun _ _ _ => rfl, fun _ _ => rfl, Sub.refl _, hI, all_cons hb (fun _ h => by cases h),
    all_cons (fun k hk => by simp [Item.block] at hk; subst hk; exact ⟨hn, .inr (.head _)⟩) (fun _ h => by cases h), List.Pairwise.cons (fun _ h => by cases h) List.Pairwise.nil⟩
theorem St.below (st : St [] w0 I0 w I M) : Below w0.heap.size w0 w := ⟨st.os, st.tape, st.output, st.size, fun k hk => st.old k hk (by simp)⟩
theorem St.perm {M' : List Item} (st : St X w0 I0 w I M) (h : M.Perm M') : St X w0 I0 w I M' :=
  { st with
    sat := fun it hi => st.sat it (h.mem_iff.2 hi)
    own := fun it hi => st.own it (h.mem_iff.2 hi)
    sep := (h.pairwise_iff (fun {x y} hxy k hk => fun hx => hxy k hx hk)).1 st.sep }
theorem St.pick (st : St X w0 I0 w I M) (h : Pick M it R) : St X w0 I0 w I (it :: R) := st.perm h.perm
theorem St.drop (st : St X w0 I0 w I M) (h : Pick M it R) : St X w0 I0 w I R := by
  have s := st.pick h
  exact { s with sat := all_tail s.sat, own := all_tail s.own, sep := (List.pairwise_cons.1 s.sep).2 }
theorem St.clear (st : St X w0 I0 w I M) : St X w0 I0 w I [] := { st with sat := (fun _ h => by cases h), own := (fun _ h => by cases h), sep := List.Pairwise.nil }
/-- every step that leaves all the blocks -/
theorem St.ext (st : St X w0 I0 w I M) (hb : Below w.heap.size w w') : St X w0 I0 w' I M where
  os := hb.os.trans st.os
  tape := hb.tape.trans st.tape
  output := hb.output.trans st.output
  size := Nat.le_trans st.size hb.size
  old := fun b h1 h2 => (hb.block b (Nat.lt_of_lt_of_le h1 st.size)).trans (st.old b h1 h2)
  le0 := st.le0
  sub0 := st.sub0
  agr := st.agr.trans (Below.sub hb)
  sat := fun it hi => Item.kept (st.sat it hi) fun k hk => hb.block k (Item.lt (st.sat it hi) hk)
  own := st.own
  sep := st.sep
/-- what is new is sealed -/
theorem St.extI (st : St X w0 I0 w I M) (hb : Below w.heap.size w w') : St X w0 I0 w' (Iext I w w') M :=
  let s := st.ext hb
  { s with
    le0 := fun b h => by unfold Iext; rw [if_pos (Nat.lt_of_lt_of_le h st.size)]; exact st.le0 b h
    sub0 := st.sub0.trans (Iext_sub st.agr w')
    agr := Iext_hp st.agr hb
    own := fun it hi k hk => ⟨by unfold Iext; rw [if_pos (Item.lt (st.sat it hi) hk)]; exact (st.own it hi k hk).1, (st.own it hi k hk).2⟩ }
/-- an item in new blocks is owned -/
theorem St.gain (st : St X w0 I0 w I M) (hb : Below w.heap.size w w') (hs : it.sat w') (hn : ∀ k, it.block = some k → w.heap.size ≤ k) : St X w0 I0 w' I (it :: M) :=
  let s := st.ext hb
  { s with
    sat := all_cons hs s.sat
    own := all_cons (fun k hk => by
        have hk' := hn k hk
        refine ⟨?_, .inl (Nat.le_trans st.size hk')⟩
        cases hI : I k with
        | none => rfl
        | some o => have := hp_some (st.agr k o hI); omega) s.own
    sep := List.pairwise_cons.2 ⟨fun y hy k hk hy' => by
      have h1 := Item.lt (st.sat y hy) hy'
      have h2 := hn k hk
      omega, s.sep⟩ }
theorem below_then' {w w1 w2 : World} (h : Below w.heap.size w w1) (k : Below w1.heap.size w1 w2) : Below w.heap.size w w2 := h.trans (k.mono h.size)
theorem Below.alloc1 (w : World) (o : Obj) : Below w.heap.size w (w.alloc o) := (Below.refl _ _).alloc (Nat.le_refl _) _
theorem St.alloc (st : St X w0 I0 w I M) (o : Obj) : St X w0 I0 (w.alloc o) I (.blk w.heap.size o :: M) :=
  st.gain (Below.alloc1 w o) (by show (w.heap.push o)[w.heap.size]? = _; simp) (fun k hk => by simp [Item.block] at hk; omega)
/-- one owned block turns into an item of the same block, or of a new one -/
theorem St.turn {it' : Item} (st : St X w0 I0 w I (it :: M)) (hos : w'.os = w.os) (htape : w'.tape = w.tape) (hout : w'.output = w.output) (hsize : w.heap.size ≤ w'.heap.size)
    (hk : ∀ k, k < w.heap.size → some k ≠ it.block → w'.heap[k]? = w.heap[k]?) (hs : it'.sat w') (hb : ∀ k, it'.block = some k → it.block = some k ∨ w.heap.size ≤ k) : St X w0 I0 w' I (it' :: M) where
  os := hos.trans st.os
  tape := htape.trans st.tape
  output := hout.trans st.output
  size := Nat.le_trans st.size hsize
  old := fun b h1 h2 => (hk b (Nat.lt_of_lt_of_le h1 st.size) (fun e => by
    rcases (st.own it (.head _) b e.symm).2 with h | h
    · omega
    · exact h2 h)).trans (st.old b h1 h2)
  le0 := st.le0
  sub0 := st.sub0
  agr := fun b o hbo => (hk b (hp_some (st.agr b o hbo)) (fun e => by have := (st.own it (.head _) b e.symm).1; rw [hbo] at this; cases this)).trans (st.agr b o hbo)
  sat := all_cons hs fun x hx => by
    have hsx := st.sat x (.tail _ hx)
    refine Item.kept hsx fun k hkx => hk k (Item.lt hsx hkx) fun e => ?_
    exact (List.pairwise_cons.1 st.sep).1 x hx k e.symm hkx
  own := all_cons (fun k hkx => by
    rcases hb k hkx with h | h
    · exact st.own it (.head _) k h
    · refine ⟨?_, .inl (Nat.le_trans st.size h)⟩
      cases hI : I k with
      | none => rfl
      | some o => have := hp_some (st.agr k o hI); omega) (all_tail st.own)
  sep := List.pairwise_cons.2 ⟨fun y hy k hky hy' => by
    rcases hb k hky with h | h
    · exact (List.pairwise_cons.1 st.sep).1 y hy k h hy'
    · have := Item.lt (st.sat y (.tail _ hy)) hy'; omega, (List.pairwise_cons.1 st.sep).2⟩
/-- an owned item is sealed -/
def Iseal (I : Hp) (w : World) (it : Item) : Hp := fun b => if it.block = some b then w.heap[b]? else I b
theorem St.sealIt (st : St X w0 I0 w I M) (h : Pick M it R) (hX : ∀ k, it.block = some k → w0.heap.size ≤ k) : St X w0 I0 w (Iseal I w it) R ∧ Sub I (Iseal I w it) ∧ ∀ k, it.block = some k → Iseal I w it k = w.heap[k]? := by
  have s := st.pick h
  have hsub : Sub I (Iseal I w it) := fun b o hb => by
    unfold Iseal
    split
    · rename_i hk; have := (s.own it (.head _) b hk).1; rw [hb] at this; cases this
    · exact hb
  have sd := st.drop h
  refine ⟨⟨sd.os, sd.tape, sd.output, sd.size, sd.old, fun b hb => ?_, st.sub0.trans hsub, fun b o hb => ?_, sd.sat, fun x hx k hk => ?_, sd.sep⟩, hsub, (fun k hk => by unfold Iseal; rw [if_pos hk])⟩
  · unfold Iseal
    split
    · rename_i hk; have := hX b hk; omega
    · exact st.le0 b hb
  · unfold Iseal at hb
    split at hb
    · exact hb
    · exact st.agr b o hb
  · refine ⟨?_, (s.own x (.tail _ hx) k hk).2⟩
    unfold Iseal
    rw [if_neg]
    · exact (s.own x (.tail _ hx) k hk).1
    · intro hk'; exact (List.pairwise_cons.1 s.sep).1 x hx k hk' hk
/-- a row is sealed: it reads from now on -/
theorem St.sealRow {v : Value} {e : TypeId} {sz n : Nat} {xs : List Value} (st : St [] w0 I0 w I M) (h : Pick M (.row v e sz n xs) R) : ∃ I', St [] w0 I0 w I' R ∧ Sub I I' ∧ RdS I' v sz n xs := by
  have hX : ∀ k, (Item.row v e sz n xs).block = some k → w0.heap.size ≤ k := fun k hk => ((st.own _ h.mem k hk).2).resolve_right (by simp)
  obtain ⟨h1, h2, h3⟩ := st.sealIt h hX
  exact ⟨_, h1, h2, RdS.ofOwn (st.sat _ h.mem) h3⟩
theorem St.sealBlk {b : Nat} {o : Obj} (st : St [] w0 I0 w I M) (h : Pick M (.blk b o) R) : ∃ I', St [] w0 I0 w I' R ∧ Sub I I' ∧ I' b = some o := by
  have hX : ∀ k, (Item.blk b o).block = some k → w0.heap.size ≤ k := fun k hk => ((st.own _ h.mem k hk).2).resolve_right (by simp)
  obtain ⟨h1, h2, h3⟩ := st.sealIt h hX
  exact ⟨_, h1, h2, (h3 b rfl).trans (st.sat _ h.mem)⟩
theorem St.swap {it' : Item} (st : St X w0 I0 w I (it :: M)) (hs : it'.sat w) (hb : ∀ k, it'.block = some k → it.block = some k) : St X w0 I0 w I (it' :: M) :=
  st.turn rfl rfl rfl (Nat.le_refl _) (fun _ _ _ => rfl) hs (fun k hk => .inl (hb k hk))
/-- a made block is a row -/
theorem St.toRow {b : Nat} {cs : List Value} {e : TypeId} {sz n : Nat} (st : St X w0 I0 w I M) (h : Pick M (.blk b (.cells cs.toArray e (0, 0))) R) (hl : cs.length = n * sz) (hm : n ≤ maxLen) :
    St X w0 I0 w I (.row (.slice (some ⟨b, 0, none⟩) n n) e sz n cs :: R) := by
  have s := st.pick h
  have hs := s.sat _ (.head _)
  exact s.swap ⟨hl, .inr ⟨b, n, _, rfl, Nat.zero_le _, hs, Nat.le_refl _, hm, by simpa using hl, by simp [← hl]⟩⟩ (fun k hk => hk)
/-- the nil slice is owned -/
theorem St.nilRow (st : St X w0 I0 w I M) (e : TypeId) (sz : Nat) : St X w0 I0 w I (.row (.slice none 0 0) e sz 0 [] :: M) where
  os := st.os
  tape := st.tape
  output := st.output
  size := st.size
  old := st.old
  le0 := st.le0
  sub0 := st.sub0
  agr := st.agr
  sat := all_cons (World.ownsRow_nil w 0 e sz) st.sat
  own := all_cons (fun k hk => by simp [Item.block, Value.ownBlock] at hk) st.own
  sep := List.pairwise_cons.2 ⟨fun y _ k hk => by simp [Item.block, Value.ownBlock] at hk, st.sep⟩
/-- a row with an element, taken apart -/
theorem St.openRow {v : Value} {e : TypeId} {sz n : Nat} {xs : List Value} (st : St X w0 I0 w I M) (h : Pick M (.row v e sz n xs) R) (hn : 0 < n) :
    ∃ (b cap : Nat) (cur : List Value), v = .slice (some ⟨b, 0, none⟩) n cap ∧ n ≤ cap ∧ cap ≤ maxLen ∧ cur.length = cap * sz ∧ cur.take (n * sz) = xs ∧ St X w0 I0 w I (.blk b (.cells cur.toArray e (0, 0)) :: R) := by
  have s := st.pick h
  have hs := s.sat _ (.head _)
  rcases hs.2 with ⟨_, h0⟩ | ⟨b, cap, cur, rfl, _, hb, h1, h2, h3, h4⟩
  · omega
  · exact ⟨b, cap, cur.toList, rfl, h1, h2, by simpa using h3, h4, s.swap (by show w.heap[b]? = _; rw [hb]) (fun k hk => hk)⟩
/-- and put together again -/
theorem St.shutRow {b : Nat} {cur : List Value} {e : TypeId} {sz n cap : Nat} {xs : List Value} (st : St X w0 I0 w I M) (h : Pick M (.blk b (.cells cur.toArray e (0, 0))) R) (h1 : n ≤ cap) (h2 : cap ≤ maxLen) (h3 : cur.length = cap * sz) (h4 : cur.take (n * sz) = xs) (h5 : xs.length = n * sz) :
    St X w0 I0 w I (.row (.slice (some ⟨b, 0, none⟩) n cap) e sz n xs :: R) := by
  have s := st.pick h
  have hs := s.sat _ (.head _)
  exact s.swap ⟨h5, .inr ⟨b, cap, _, rfl, Nat.zero_le _, hs, h1, h2, by simpa using h3, by simpa using h4⟩⟩ (fun k hk => hk)
theorem St.cellM {b i : Nat} {cs : Array Value} {t : TypeId} {f : Nat × Nat} {v : Value} (st : St X w0 I0 w I M) (h : Pick M (.blk b (.cells cs t f)) R) (hc : cs[i]? = some v) : cellI (hp w) b i = some v := by
  rw [cellI_blk (show hp w b = _ from st.sat _ h.mem)]; exact hc
theorem St.cellS {b i : Nat} {v : Value} (st : St X w0 I0 w I M) (hc : cellI I b i = some v) : cellI (hp w) b i = some v := cellI_mono st.agr hc
theorem St.blkM {b : Nat} {o : Obj} (st : St X w0 I0 w I M) (h : Pick M (.blk b o) R) : hp w b = some o := st.sat _ h.mem
theorem St.rowM {v : Value} {e : TypeId} {sz n : Nat} {xs : List Value} (st : St X w0 I0 w I M) (h : Pick M (.row v e sz n xs) R) : RdS (hp w) v sz n xs := RdS.ofOwn (st.sat _ h.mem) fun _ _ => rfl
theorem St.rdS {v : Value} {sz n : Nat} {vs : List Value} (st : St X w0 I0 w I M) (h : RdS I v sz n vs) : RdS (hp w) v sz n vs := h.mono st.agr
end
end Go.Proofs.YtoilfakpgcjjpaaDoor.Eng
namespace Go.Proofs.YtoilfakpgcjjpaaDoor.Eng
open Go Go.RowKit
set_option linter.unusedVariables false
set_option linter.unusedSimpArgs false
/-! ### loads -/
section
variable {P : Program} {Q : Exit → Act → World → Prop} {a : Act} {w w1 : World} {n : Nat} {L : List (Nat × Value)} {ops : Array Oper} {rest : List Oper}
  {d : Nat} {op : Op} {ty : TypeId} {pos : String} {af : Array Edge} {g : Option (Nat × Bool)} {dd : Option Tmp}
/-- a type of one cell that is no struct and no array -/
def scalB (P : Program) (t : TypeId) : Bool := match P.underlying t with | some (.struct _) | some (.array _ _) => false | some _ => true | none => false
/-- a struct's or an array's number of cells -/
def aggB (P : Program) (t m : Nat) : Bool := match P.underlying t with | some (.struct _) | some (.array _ _) => (P.info? t).map (·.size) == some m | _ => false
theorem run_loadVar_scal {P : Program} {w : World} {t : TypeId} {ad : Addr} {v : Value} (hs : scalB P t = true) (hc : w.cell? ad = some v) : (loadVar t ad).run P w = .ok v w := by
  unfold scalB at hs
  cases h : P.underlying t with
  | none => simp [h] at hs
  | some td => cases td <;> simp [h] at hs <;> simp [loadVar, isAgg, run_underlying h, hc]
theorem run_loadVar_agg {P : Program} {w : World} {t m : Nat} {ad : Addr} {cs : List Value} (hs : aggB P t m = true) (hl : cs.length = m) (hc : ∀ j u, cs[j]? = some u → w.cell? (ad.add j) = some u) : (loadVar t ad).run P w = .ok (.agg cs.toArray) w := by
  unfold aggB at hs
  have hr := run_loadCells_list (P := P) w ad cs hc
  cases h : P.underlying t with
  | none => simp [h] at hs
  | some td =>
    cases hi : P.info? t with
    | none => cases td <;> simp [h, hi] at hs
    | some ti => cases td <;> simp [h, hi] at hs <;> (subst hl; simp [loadVar, isAgg, run_underlying h, sizeOf, typeInfo, hi, hs, hr])
theorem below_cell {w w' : World} (h : Below w.heap.size w w') {b i : Nat} {v : Value} (hc : cellI (hp w) b i = some v) : w'.cell? ⟨b, i, none⟩ = some v := by
  rw [← cellI_hp]; exact cellI_mono (Below.sub h) hc
theorem pu_load {x : Operand} {t : TypeId} {b i : Nat} {v : Value} (hs : scalB P t = true) (hx : ev L x = some (.pointer (some ⟨b, i, none⟩))) (hc : cellI (hp w1) b i = some v) :
    PureE P n L w1 ⟨dd, .load t x, ty, pos, af, g⟩ v := fun a w mt hb => by
  simp [execOp, mt.ev hx, Instr.loadAt, Instr.sureAddr, run_loadVar_scal hs (below_cell hb hc)]
theorem pu_load_agg {x : Operand} {t : TypeId} {b i m : Nat} {cs : List Value} (hs : aggB P t m = true) (hx : ev L x = some (.pointer (some ⟨b, i, none⟩))) (hl : cs.length = m) (hc : ∀ j u, cs[j]? = some u → cellI (hp w1) b (i + j) = some u) :
    PureE P n L w1 ⟨dd, .load t x, ty, pos, af, g⟩ (.agg cs.toArray) := fun a w mt hb => by
  simp [execOp, mt.ev hx, Instr.loadAt, Instr.sureAddr, run_loadVar_agg (P := P) (w := w) (ad := ⟨b, i, none⟩) hs hl (fun j u hu => by rw [add_plain]; exact below_cell hb (hc j u hu))]
/-- a whole block -/
theorem pu_load_blk {x : Operand} {t T : TypeId} {b m : Nat} {cs : Array Value} {f : Nat × Nat} (hs : aggB P t m = true) (hx : ev L x = some (.pointer (some ⟨b, 0, none⟩))) (hl : cs.size = m) (hb : hp w1 b = some (.cells cs T f)) :
    PureE P n L w1 ⟨dd, .load t x, ty, pos, af, g⟩ (.agg cs) := by
  have := pu_load_agg (P := P) (n := n) (L := L) (w1 := w1) (dd := dd) (ty := ty) (pos := pos) (af := af) (g := g) (cs := cs.toList) hs hx (by simpa using hl) (fun j u hu => by
    rw [Nat.zero_add, cellI_blk hb]; simpa using hu)
  simpa using this
/-! ### new memory -/
def zeroB (P : Program) (t : TypeId) : Option Value := (P.info? t).bind (·.zero)
theorem run_zero {P : Program} {w : World} {t : TypeId} {z : Value} (h : zeroB P t = some z) : (zeroValue t).run P w = .ok z w := by
  unfold zeroB at h
  cases hi : P.info? t with
  | none => simp [hi] at h
  | some ti => simp [hi] at h; simp [zeroValue, typeInfo, hi, h]
/-- In every later world the operation makes one block with these contents and gives 'mk' of its number. -/
def AllocE (P : Program) (n : Nat) (L : List (Nat × Value)) (w1 : World) (o : Oper) (mk : Nat → Value) (ob : Obj) : Prop :=
  ∀ a w, Mt n a L → Below w1.heap.size w1 w → (execOp a.eval o).run P w = .ok (.value (mk w.heap.size)) (w.alloc ob)
theorem step_alloc {mk : Nat → Value} {ob : Obj} {X : List Nat} {w0 : World} {I0 I : Hp} {M : List Item} (mt : Mt n a L) (st : St X w0 I0 w I M) (hp : AllocE P n L w ⟨some d, op, ty, pos, af, none⟩ mk ob) (hd : Nat.blt d n = true)
    (k : ∀ a' w' b, Mt n a' ((d, mk b) :: L) → St X w0 I0 w' I (.blk b ob :: M) → wpList P ops Q rest a' w') : wpList P ops Q (⟨some d, op, ty, pos, af, none⟩ :: rest) a w := by
  refine wpList_plain rfl fun K hK => ?_
  unfold Oper.wp
  rw [hp a w mt (Below.refl _ _)]
  exact hK _ _ (k _ _ _ (mt.put d _ hd) (st.alloc ob))
theorem al_alloc {t : TypeId} {z : Value} {cs : Array Value} (hz : zeroB P t = some z) (hc : z.cells = cs) : AllocE P n L w1 ⟨dd, .alloc t, ty, pos, af, g⟩ (fun b => .pointer (some ⟨b, 0, none⟩)) (.cells cs t (0, 0)) := fun a w mt _ => by
  subst hc
  simp [execOp, Instr.alloc, run_zero hz, newVar, newRow]
theorem al_box {t : TypeId} {x : Operand} {v : Value} {cs : Array Value} (hx : ev L x = some v) (hc : v.cells = cs) : AllocE P n L w1 ⟨dd, .box t x, ty, pos, af, g⟩ (fun b => .pointer (some ⟨b, 0, none⟩)) (.cells cs t (0, 0)) := fun a w mt _ => by
  subst hc
  simp [execOp, Instr.box, mt.ev hx, newVar, newRow]
theorem one_cells {v : Value} (h : v.oneCell' = true) : v.cells = #[v] := by cases v <;> first | rfl | (simp [Value.oneCell'] at h)
/-- what is known of an element's type -/
structure Elt (P : Program) (t e : TypeId) (sz by_ : Nat) (z : Value) : Prop where
  ty : P.underlying t = some (.slice e)
  inf : (P.info? e).map (fun i => (i.zero, i.size, i.bytes)) = some (some z, sz, by_)
theorem Elt.info {P : Program} {t e : TypeId} {sz by_ : Nat} {z : Value} (h : Elt P t e sz by_ z) : ∃ i, P.info? e = some i ∧ i.zero = some z ∧ i.size = sz ∧ i.bytes = by_ := by
  have := h.inf
  cases hi : P.info? e with
  | none => simp [hi] at this
  | some i => simp [hi] at this; exact ⟨i, rfl, this.1, this.2.1, this.2.2⟩
theorem evs {n : Nat} {a : Act} {L : List (Nat × Value)} (mt : Mt n a L) : ∀ (xs : List Operand) (vs : List Value), xs.map (ev L) = vs.map some → xs.map a.eval = vs := by
  intro xs
  induction xs with
  | nil => intro vs h; cases vs <;> simp at h ⊢
  | cons x xs ih => intro vs h; cases vs with
    | nil => simp at h
    | cons v vs => simp only [List.map_cons, List.cons.injEq] at h ⊢; exact ⟨mt.ev h.1, ih vs h.2⟩
theorem evs_arr {n : Nat} {a : Act} {L : List (Nat × Value)} (mt : Mt n a L) (xs : Array Operand) (vs : List Value) (h : xs.toList.map (ev L) = vs.map some) : xs.map a.eval = vs.toArray := by
  rw [← evs mt _ _ h]; exact Array.toList_inj.1 (by simp)
/-- the parts of a literal, evaluated -/
def evParts (L : List (Nat × Value)) : List (Nat × Operand) → Option (List (Nat × Value))
  | [] => some []
  | (i, x) :: ps => match ev L x, evParts L ps with
    | some v, some vs => some ((i, v) :: vs)
    | _, _ => none
theorem evParts_ok {n : Nat} {a : Act} {L : List (Nat × Value)} (mt : Mt n a L) : ∀ (ps : List (Nat × Operand)) (vs : List (Nat × Value)), evParts L ps = some vs → ps.map (fun p => (p.1, a.eval p.2)) = vs
  | [], vs, h => by simp [evParts] at h; simp [h]
  | (i, x) :: ps, vs, h => by
    simp only [evParts] at h
    cases h1 : ev L x with
    | none => simp [h1] at h
    | some v =>
      cases h2 : evParts L ps with
      | none => simp [h1, h2] at h
      | some us =>
        simp only [h1, h2, Option.some.injEq] at h
        subst h
        simp [mt.ev h1, evParts_ok mt ps us h2]
theorem al_bslice {t e : TypeId} {sz by_ m : Nat} {z : Value} {ps : Array (Nat × Operand)} {vs : List (Nat × Value)} {zc cs : Array Value} (he : Elt P t e sz by_ z) (hz : (Array.range (m * sz)).map (z.cells[· % z.cells.size]!) = zc) (hm : m * sz ≤ 2 ^ 24) (hps : evParts L ps.toList = some vs)
    (hf : Instr.fill (fun i => some (i * sz, sz)) zc vs = some cs) (hnz : m * sz ≠ 0) : AllocE P n L w1 ⟨dd, .buildSlice t m ps, ty, pos, af, g⟩ (fun b => .slice (some ⟨b, 0, none⟩) m m) (.cells cs e (0, 0)) := fun a w mt _ => by
  obtain ⟨i, hi, h1, h2, h3⟩ := he.info
  have hp : (ps.map fun (i, x) => (i, a.eval x)).toList = vs := by rw [← evParts_ok mt _ _ hps]; simp
  have hm' : ¬ (2 ^ 24 < m * sz) := by omega
  subst hz
  subst h2
  simp only [Nat.reducePow] at hm'
  simp [execOp, Instr.buildSlice, run_underlying he.ty, sizeOf, typeInfo, hi, hm', hnz, zeroValue, h1, hf, newRow]
  have hp' : List.map (fun x => (x.1, a.eval x.2)) ps.toList = vs := evParts_ok mt _ _ hps
  rw [hp', hf]
  simp
/-- a literal of one-cell elements, all given in order -/
theorem fill_one (vs : List Value) (h : ∀ v ∈ vs, v.oneCell' = true) : ∀ (pre : List Value) (zs : List Value), zs.length = vs.length →
    Instr.fill (fun i => some (i * 1, 1)) (pre ++ zs).toArray ((List.range vs.length).map fun i => (pre.length + i, vs.getD i undef)) = some (pre ++ vs).toArray := by
  induction vs with
  | nil => intro pre zs hz; cases zs <;> simp at hz ⊢; simp [Instr.fill]
  | cons v vs ih =>
    intro pre zs hz
    cases zs with
    | nil => simp at hz
    | cons z zs =>
      have h1 := one_cells (h v (.head _))
      have ih' := ih (fun u hu => h u (.tail _ hu)) (pre ++ [v]) zs (by simpa using hz)
      rw [List.length_cons, List.range_succ_eq_map]
      simp only [List.map_cons, List.map_map, Nat.add_zero, List.getD_cons_zero, Instr.fill, h1]
      have e : (pre ++ z :: zs).toArray.setIfInBounds (pre.length * 1 + 0) v = (pre ++ [v] ++ zs).toArray := by
        apply Array.ext'
        simp
      simp only [List.size_toArray, List.length_cons, List.length_nil, Nat.zero_add, ne_eq, not_true, decide_false, Bool.false_or, List.length_append, Nat.mul_one]
      rw [if_neg (by simp)]
      simp only [Array.zipIdx, Array.mapIdx, List.foldl, Nat.mul_one] at e ⊢
      have hz' : (#[v] : Array Value).zipIdx = #[(v, 0)] := rfl
      have e2 : ((#[v] : Array Value).zipIdx.foldl (fun cs x => cs.setIfInBounds (pre.length + x.2) x.1) (pre ++ z :: zs).toArray) = (pre ++ [v] ++ zs).toArray := by
        rw [hz']; simp
      refine Eq.trans ?_ (ih'.trans (by simp))
      congr 1
      · simp [Array.zipIdx]
      · apply List.map_congr_left
        intro i _
        simp [Nat.add_assoc, Nat.add_comm 1 i]
/-- makeSlice -/
theorem al_make {t e : TypeId} {sz by_ : Nat} {z : Value} {x y : Operand} {k k' : IntKind} {l c : Int} {ls cs : Nat} (he : Elt P t e sz by_ z) (hx : ev L x = some (.int k l)) (hy : ev L y = some (.int k' c)) (hl : l = (ls : Int)) (hc : c = (cs : Int)) (h1 : ls ≤ cs) (hb : by_ * cs ≤ 281474976710656) (hm : cs ≤ 9223372036854775807) :
    AllocE P n L w1 ⟨dd, .makeSlice t x y, ty, pos, af, g⟩ (fun b => .slice (some ⟨b, 0, none⟩) ls cs) (.cells (madeCells z.cells (cs * sz)) e (0, 0)) := fun a w mt _ => by
  obtain ⟨i, hi, g1, g2, g3⟩ := he.info
  subst hl; subst hc; subst g2; subst g3
  have hb' : (i.bytes : Int) * (cs : Int) ≤ 281474976710656 := by
    have h : ((i.bytes * cs : Nat) : Int) ≤ 281474976710656 := by omega
    rwa [Int.natCast_mul] at h
  have := run_make (P := P) w t e i z he.ty hi g1 k k' ls cs (by omega) (by omega) hb' (by omega)
  simp only [Int.toNat_natCast] at this
  simp [execOp, mt.ev hx, mt.ev hy, this]
/-! ### stores -/
theorem turn_store {X : List Nat} {w0 w : World} {I0 I : Hp} {M R : List Item} {b : Nat} {cs cs' : Array Value} {T : TypeId} (st : St X w0 I0 w I M) (h : Pick M (.blk b (.cells cs T (0, 0))) R) :
    St X w0 I0 (w.setRow b cs') I (.blk b (.cells cs' T (0, 0)) :: R) := by
  have s := st.pick h
  have hs : w.heap[b]? = some (.cells cs T (0, 0)) := s.sat _ (.head _)
  exact s.turn rfl rfl rfl (by simp) (fun k _ hk => setRow_other w b k cs' (fun e => hk (by simp [Item.block, e]))) (setRow_heap w b cs cs' T (0, 0) hs) (fun k hk => .inl hk)
theorem step_store {X : List Nat} {w0 : World} {I0 I : Hp} {M R : List Item} {x y : Operand} {t T : TypeId} {b i : Nat} {v : Value} {cs : Array Value} (mt : Mt n a L) (st : St X w0 I0 w I M)
    (hs : (P.info? t).map (·.size) = some 1) (hx : ev L x = some (.pointer (some ⟨b, i, none⟩))) (hy : ev L y = some v) (hv : v.oneCell' = true) (h : Pick M (.blk b (.cells cs T (0, 0))) R) (hi : i < cs.size)
    (k : ∀ w', St X w0 I0 w' I (.blk b (.cells (cs.setIfInBounds i v) T (0, 0)) :: R) → wpList P ops Q rest a w') : wpList P ops Q (⟨none, .store t x y, ty, pos, af, none⟩ :: rest) a w := by
  refine wpList_plain rfl fun K hK => ?_
  have hb : w.heap[b]? = some (.cells cs T (0, 0)) := st.sat _ h.mem
  have hcell : w.cell? ⟨b, i, none⟩ = some cs[i] := by simp [World.cell?, hb, hi]
  have hfro : w.frozen? ⟨b, i, none⟩ = false := by simp [World.frozen?, hb]
  have hadd : (⟨b, i, none⟩ : Addr).add 0 = ⟨b, i, none⟩ := by simp [Addr.add]
  cases hq : P.info? t with
  | none => simp [hq] at hs
  | some ti =>
    have hti : ti.size = 1 := by simpa [hq] using hs
    unfold Oper.wp
    have : (execOp a.eval ⟨none, .store t x y, ty, pos, af, none⟩).run P w = .ok .skip (w.setRow b (cs.setIfInBounds i v)) := by
      simp [execOp, mt.ev hx, mt.ev hy, Instr.storeAt, Instr.sureAddr, storeVar, one_cells hv, sizeOf, typeInfo, hq, hti, storeCells, hadd, run_store P w _ v _ hv, hcell, hfro, setCell_eq_setRow w b i cs T (0, 0) v hb]
    rw [this]
    exact hK _ _ (k _ (turn_store st h))
theorem step_store_agg {X : List Nat} {w0 : World} {I0 I : Hp} {M R : List Item} {x y : Operand} {t T : TypeId} {b i : Nat} {vs : Array Value} {cs : Array Value} {cs' : List Value} (mt : Mt n a L) (st : St X w0 I0 w I M)
    (hs : (P.info? t).map (·.size) = some vs.size) (hx : ev L x = some (.pointer (some ⟨b, i, none⟩))) (hy : ev L y = some (.agg vs)) (hv : ∀ v ∈ vs.toList, v.oneCell' = true) (h : Pick M (.blk b (.cells cs T (0, 0))) R) (hi : i + vs.size ≤ cs.size)
    (hc : cs.toList.take i ++ vs.toList ++ cs.toList.drop (i + vs.size) = cs')
    (k : ∀ w', St X w0 I0 w' I (.blk b (.cells cs'.toArray T (0, 0)) :: R) → wpList P ops Q rest a w') : wpList P ops Q (⟨none, .store t x y, ty, pos, af, none⟩ :: rest) a w := by
  refine wpList_plain rfl fun K hK => ?_
  have hb : w.heap[b]? = some (.cells cs T (0, 0)) := st.sat _ h.mem
  cases hq : P.info? t with
  | none => simp [hq] at hs
  | some ti =>
    have hti : ti.size = vs.size := by simpa [hq] using hs
    have hst := run_storeCells_at P b i T vs.toList 0 cs w hb (by simpa using hi) hv
    simp only [Nat.add_zero, Array.length_toList, hc] at hst
    unfold Oper.wp
    have : (execOp a.eval ⟨none, .store t x y, ty, pos, af, none⟩).run P w = .ok .skip (w.setRow b cs'.toArray) := by
      simp [execOp, mt.ev hx, mt.ev hy, Instr.storeAt, Instr.sureAddr, storeVar, Value.cells, sizeOf, typeInfo, hq, hti, hst]
    rw [this]
    exact hK _ _ (k _ (turn_store st h))
/-! ### append -/
theorem src_of {P : Program} {w : World} {I : Hp} {tx e' : TypeId} {v : Value} {sz m : Nat} {vs : List Value} (hk : P.underlying tx = some (.slice e')) (hsub : Sub I (hp w)) (r : RdS I v sz m vs) (h1 : ∀ u ∈ vs, u.oneCell' = true) (hsz : 0 < sz) : Src P sz tx v m vs w := by
  rcases Nat.eq_zero_or_pos m with rfl | hm
  · obtain ⟨ad, c, rfl, _, _, hl, _⟩ := r
    have : vs = [] := List.eq_nil_of_length_eq_zero (by simpa using hl)
    subst this
    cases ad with
    | none => exact Src.ofNil w hk c
    | some ad => exact Src.ofSlice w hk ad 0 c [] (by simp) (by simp) (by simp)
  · obtain ⟨b, o, c, rfl, _, _, hc⟩ := r.form hsz hm
    refine Src.ofSlice w hk ⟨b, o, none⟩ m c vs (r.len.choose_spec.choose_spec.2.2.2) (fun j u hu => ?_) h1
    rw [add_plain, ← cellI_hp]
    exact cellI_mono hsub (hc j u hu)
theorem run_append_row {P : Program} {w : World} {t tx ty e : TypeId} {sz by_ : Nat} {z : Value} (he : Elt P t e sz by_ z) (hzs : z.cells.size = sz) (hsz : 0 < sz) {v : Value} {n m : Nat} {xs news : List Value} (hown : w.ownsRow 0 e sz v n xs) {x : Value} (hs : Src P sz tx x m news w)
    (h63 : n + m ≤ maxLen) (hbytes : (n + m) * by_ ≤ 140737488355328) :
    ∃ v' w', (Builtin.append_ #[t, tx] ty #[v, x]).run P w = .ok v' w' ∧ w'.ownsRow 0 e sz v' (n + m) (xs ++ news) ∧ w.grownBy w' v.ownBlock ∧ (v'.ownBlock = v.ownBlock ∨ v'.ownBlock = some w.heap.size) := by
  obtain ⟨i, hi, hz, hsize, hby⟩ := he.info
  subst hsize
  subst hby
  have hsmall : n + m ≤ 9223372036854775807 := by simp only [maxLen] at h63; omega
  have hlen : (xs ++ news).length = (n + m) * i.size := by rw [List.length_append, hown.1, hs.newsLen, Nat.add_mul]
  have grown : ∀ (old : Nat) (row : Option Nat), ∀ cs : List Value, cs = xs ++ news →
      (w.drew.alloc (.cells (cs.toArray ++ Builtin.zeroCells z.cells (grownCap w (n + m) old e - (n + m))) e)).ownsRow 0 e i.size
        (.slice (some ⟨w.heap.size, 0, none⟩) (n + m) (grownCap w (n + m) old e)) (n + m) (xs ++ news) ∧
      w.grownBy (w.drew.alloc (.cells (cs.toArray ++ Builtin.zeroCells z.cells (grownCap w (n + m) old e - (n + m))) e)) row := by
    intro old row cs hcs
    subst hcs
    have hge := grownCap_ge w (n + m) old e
    have hcm : grownCap w (n + m) old e ≤ maxLen := grownCap_le_maxLen w (n + m) old e h63
    refine ⟨⟨hlen, .inr ⟨w.heap.size, _, _, rfl, Nat.zero_le _, heap_alloc_new w.drew _, hge, hcm, ?_, ?_⟩⟩, ⟨rfl, rfl, rfl, by simp, fun k hk _ => heap_alloc_old w.drew _ k hk⟩⟩
    · simp only [Array.size_append, List.size_toArray, size_zeroCells, hzs, hlen, ← Nat.add_mul]
      congr 1
      omega
    · simp only [Array.toList_append]
      rw [← hlen]
      exact List.take_left
  rcases hown.2 with ⟨rfl, rfl⟩ | ⟨g, cap, cur, rfl, hbg, hg, hnc, hcm, hcs, htake⟩
  · have hx : xs = [] := List.eq_nil_of_length_eq_zero (by simpa using hown.1)
    subst hx
    by_cases hm : m = 0
    · subst hm
      have hn : news = [] := List.eq_nil_of_length_eq_zero (by simpa using hs.newsLen)
      subst hn
      refine ⟨.slice none 0 0, w, ?_, World.ownsRow_nil w 0 e i.size, ⟨rfl, rfl, rfl, Nat.le_refl _, fun _ _ _ => rfl⟩, .inl rfl⟩
      rcases hs.kind with ⟨e', hk⟩ | hk <;> simp [Builtin.append_, run_underlying he.ty, run_underlying hk, sizeOf, typeInfo, hi, hs.len, hs.cells]
    · have hr := run_append_grow_src (P := P) w t tx ty e i z he.ty hi hz none 0 0 [] (run_firstCells_none w.drew i.size 0 0 0) x m news hs (by omega) (by omega) (by
        have := nextslicecap_zero (need := m) (by omega)
        simp only [Nat.zero_add] at hbytes ⊢
        rw [this]; omega)
      have hgr := grown 0 (Value.ownBlock (.slice none 0 0)) ([] ++ news) rfl
      simp only [Nat.zero_add] at hr hgr ⊢
      exact ⟨_, _, hr, hgr.1, hgr.2, .inr rfl⟩
  · by_cases hroom : n + m ≤ cap
    · have hfit : n * i.size + news.length ≤ cur.size := by rw [hs.newsLen, hcs, ← Nat.add_mul]; exact Nat.mul_le_mul_right _ hroom
      have hst := run_storeCells_at P g (n * i.size) e news 0 cur w hg (by simpa using hfit) hs.one
      simp only [Nat.add_zero] at hst
      have hr : (Builtin.append_ #[t, tx] ty #[.slice (some ⟨g, 0, none⟩) n cap, x]).run P w = .ok (.slice (some ⟨g, 0, none⟩) (n + m) cap) (w.setRow g (cur.toList.take (n * i.size) ++ news ++ cur.toList.drop (n * i.size + news.length)).toArray) := by
        rcases hs.kind with ⟨e', hk⟩ | hk <;> simp [Builtin.append_, run_underlying he.ty, run_underlying hk, sizeOf, typeInfo, hi, hs.len, hroom, hs.cells, add_plain, hst]
      refine ⟨_, _, hr, ⟨hlen, .inr ⟨g, cap, _, rfl, hbg, setRow_heap w g cur _ e _ hg, hroom, hcm, ?_, ?_⟩⟩, ⟨rfl, rfl, rfl, by simp, fun k _ hk => setRow_other w g k _ (fun e => hk (by simp [Value.ownBlock, e]))⟩, .inl rfl⟩
      · simp only [List.size_toArray, List.length_append, List.length_take, List.length_drop, Array.length_toList]
        omega
      · rw [htake, ← hlen]
        exact List.take_left
    · have hold : (Builtin.firstCells i.size n (.slice (some ⟨g, 0, none⟩) n cap)).run P w.drew = .ok xs.toArray w.drew :=
        run_firstCells_some w.drew i.size n ⟨g, 0, none⟩ n cap xs hown.1 (by simpa using hown.cells (g := g) rfl)
      have hr := run_append_grow_src (P := P) w t tx ty e i z he.ty hi hz (some ⟨g, 0, none⟩) n cap xs hold x m news hs (by omega) (by omega) (growslice_fits (by omega) hbytes)
      have hgr := grown cap (Value.ownBlock (.slice (some ⟨g, 0, none⟩) n cap)) (xs ++ news) rfl
      exact ⟨_, _, hr, hgr.1, hgr.2, .inr rfl⟩
theorem step_append_src {X : List Nat} {w0 : World} {I0 I : Hp} {M R : List Item} {s x : Operand} {t tx e : TypeId} {sz by_ m k : Nat} {z v u : Value} {xs news : List Value} (mt : Mt n a L) (st : St X w0 I0 w I M) (he : Elt P t e sz by_ z) (hzs : z.cells.size = sz) (hsz : 0 < sz)
    (hs : ev L s = some v) (hx : ev L x = some u) (h : Pick M (.row v e sz k xs) R) (hsrc : Src P sz tx u m news w) (h63 : k + m ≤ maxLen) (hbytes : (k + m) * by_ ≤ 140737488355328) (hd : Nat.blt d n = true)
    (K : ∀ a' w' v', Mt n a' ((d, v') :: L) → St X w0 I0 w' I (.row v' e sz (k + m) (xs ++ news) :: R) → wpList P ops Q rest a' w') :
    wpList P ops Q (⟨some d, .call { callee := .builtin .append, args := #[s, x], argTypes := #[t, tx] }, ty, pos, af, none⟩ :: rest) a w := by
  refine wpList_plain rfl fun K' hK => ?_
  have st1 := st.pick h
  obtain ⟨v', w', hr, h2, h3, h4⟩ := run_append_row (P := P) (ty := ty) he hzs hsz (st1.sat _ (.head _)) hsrc h63 hbytes
  unfold Oper.wp
  have : (execOp a.eval ⟨some d, .call { callee := .builtin .append, args := #[s, x], argTypes := #[t, tx] }, ty, pos, af, none⟩).run P w = .ok (.value v') w' := by
    simp [execOp, resolve, invoke, builtin, mt.ev hs, mt.ev hx, hr]
  rw [this]
  refine hK _ _ (K _ _ _ (mt.put d v' hd) ?_)
  exact st1.turn h3.os h3.tape h3.output h3.size (fun k hk hne => h3.block k hk hne) h2 (fun k hk => by
    rcases h4 with h4 | h4
    · exact .inl (h4 ▸ hk : v.ownBlock = some k)
    · refine .inr ?_; rw [show v'.ownBlock = some k from hk] at h4; simp at h4; omega)
/-- append of the elements of a literal that was just made -/
theorem step_append_lit {X : List Nat} {w0 : World} {I0 I : Hp} {M R R' : List Item} {s x : Operand} {t e e2 : TypeId} {sz by_ m k b : Nat} {z v : Value} {xs : List Value} {cs : Array Value} {c : Nat} (mt : Mt n a L) (st : St X w0 I0 w I M) (he : Elt P t e sz by_ z) (hzs : z.cells.size = sz) (hsz : 0 < sz)
    (hs : ev L s = some v) (hx : ev L x = some (.slice (some ⟨b, 0, none⟩) m c)) (h : Pick M (.row v e sz k xs) R) (h' : Pick R (.blk b (.cells cs e2 (0, 0))) R') (hl : cs.size = m * sz) (h1 : ∀ u ∈ cs.toList, u.oneCell' = true)
    (h63 : k + m ≤ maxLen) (hbytes : (k + m) * by_ ≤ 140737488355328) (hd : Nat.blt d n = true)
    (K : ∀ a' w' v', Mt n a' ((d, v') :: L) → St X w0 I0 w' I (.row v' e sz (k + m) (xs ++ cs.toList) :: R') → wpList P ops Q rest a' w') :
    wpList P ops Q (⟨some d, .call { callee := .builtin .append, args := #[s, x], argTypes := #[t, t] }, ty, pos, af, none⟩ :: rest) a w := by
  have hb : w.heap[b]? = some (.cells cs e2 (0, 0)) := (st.drop h).sat _ h'.mem
  refine step_append_src mt st he hzs hsz hs hx h (Src.ofSlice w he.ty ⟨b, 0, none⟩ m c cs.toList (by simpa using hl) (fun j u hu => ?_) h1) h63 hbytes hd fun a' w' v' m' s' => K a' w' v' m' (s'.drop (.there _ h'))
  rw [add_plain, ← cellI_hp, cellI_blk (show hp w b = _ from hb)]
  simpa using hu
/-! ### calls -/
/-- a call that returns: the old blocks stay -/
def CallsX (P : Program) (f : FuncId) (args : Array Value) (w : World) (Φ : Value → World → Prop) : Prop :=
  Calls P f args w fun e w' => ∃ v, e = .returned v ∧ Below w.heap.size w w' ∧ Φ v w'
def callB (P : Program) (f : FuncId) : Bool := match P.funcs[f]? with | some fn => !(fn.name == "runtime.NumGoroutine") && !fn.body.isNone | none => false
theorem run_callFunc {P : Program} {w : World} {f : FuncId} {args : Array Value} (h : callB P f = true) : (callFunc f args).run P w = .ok (.enter f args) w := by
  unfold callB at h
  cases hf : P.funcs[f]? with
  | none => simp [hf] at h
  | some fn =>
    simp only [hf, Bool.and_eq_true, Bool.not_eq_true'] at h
    have h1 := h.1
    have h2 := h.2
    simp only [beq_eq_false_iff_ne, ne_eq] at h1
    have h3 : fn.body ≠ none := fun e => by rw [e] at h2; cases h2
    simp [callFunc, hf, h1, h3]
theorem step_call0 {f : FuncId} {xs : Array Operand} {ts : Array TypeId} {vs : List Value} {R : Ending → World → Prop} (mt : Mt n a L) (hf : callB P f = true) (hx : xs.toList.map (ev L) = vs.map some) (hc : Calls P f vs.toArray w R)
    (k : ∀ v w', R (.returned v) w' → wpList P ops Q rest (a.put dd v) w') (kp : ∀ c w', R (.panicked c) w' → Q (.panic c) a w') (ko : ∀ w', R .outgrown w' → LetsOut Q) :
    wpList P ops Q (⟨dd, .call { callee := .value (.func f), args := xs, argTypes := ts }, ty, pos, af, none⟩ :: rest) a w := by
  refine wpList_plain rfl fun K hK => ?_
  unfold Oper.wp
  have : (execOp a.eval ⟨dd, .call { callee := .value (.func f), args := xs, argTypes := ts }, ty, pos, af, none⟩).run P w = .ok (.enter f vs.toArray) w := by
    have e : a.eval (.func f) = .func (.func f) #[] #[] := rfl
    simp [execOp, resolve, Deferred.ofValue, e, invoke, evs_arr mt xs vs hx, run_callFunc hf]
  rw [this]
  refine hc.mono fun e w' hR => ?_
  cases e with
  | returned v => exact hK _ _ (k v w' hR)
  | panicked c => exact kp c w' hR
  | outgrown => exact ko w' hR
theorem step_call {f : FuncId} {xs : Array Operand} {ts : Array TypeId} {vs : List Value} {Φ : Value → World → Prop} (mt : Mt n a L) (hf : callB P f = true) (hx : xs.toList.map (ev L) = vs.map some) (hc : CallsX P f vs.toArray w Φ) (hd : Nat.blt d n = true)
    (k : ∀ a' w' v, Mt n a' ((d, v) :: L) → Below w.heap.size w w' → Φ v w' → wpList P ops Q rest a' w') :
    wpList P ops Q (⟨some d, .call { callee := .value (.func f), args := xs, argTypes := ts }, ty, pos, af, none⟩ :: rest) a w :=
  step_call0 mt hf hx hc (fun v w' ⟨v', e, hb, hΦ⟩ => by cases e; exact k _ w' _ (mt.put d _ hd) hb hΦ) (fun c w' ⟨_, e, _⟩ => by cases e) (fun w' ⟨_, e, _⟩ => by cases e)
/-- the end of a function -/
theorem CallsX.of {P : Program} {f : FuncId} {fn : Func} {c : Code} {args : Array Value} {w : World} {R : Ending → World → Prop} {nn : Nat}
    (hf : P.funcs[f]? = some fn) (hb : fn.body = some c) (hn : fn.ntmps = nn) (hle : Nat.ble args.size nn = true)
    (h : ∀ a, Mt nn a (initL args.toList 0) → c.wp P (bodyPost P fn R) a w) : Calls P f args w R := by
  replace hle := Nat.le_of_ble_eq_true hle
  refine calls_of_wp hf hb (h _ ⟨?_, rfl, ?_⟩)
  · simp [hn]; omega
  · intro t v hv
    have key : ∀ (l : List Value) (o : Nat), look (initL l o) t = some v → o ≤ t ∧ l[t - o]? = some v := by
      intro l
      induction l with
      | nil => intro o h; simp [look, initL] at h
      | cons x l ih =>
        intro o h
        simp only [initL, look] at h
        cases hb : Nat.beq o t with
        | true =>
          rw [hb] at h
          have := Nat.eq_of_beq_eq_true hb
          subst this
          simp only [cond_true, Option.some.injEq] at h
          simp [h]
        | false =>
          rw [hb] at h
          have hne := beq_false hb
          obtain ⟨h1, h2⟩ := ih (o + 1) h
          refine ⟨by omega, ?_⟩
          rw [show t - o = (t - (o + 1)) + 1 by omega]
          simpa using h2
    have := (key args.toList 0 hv).2
    simp only [Nat.sub_zero] at this
    have hlt : t < args.size := by
      rcases Nat.lt_or_ge t args.size with h | h
      · exact h
      · simp [List.getElem?_eq_none (l := args.toList) (by simpa using h)] at this
    simp only [Array.getD_eq_getD_getElem?]
    rw [Array.getElem?_append_left hlt]
    simp at this
    simp [this]
theorem post_ret1 {fn : Func} {R : Ending → World → Prop} {t : Tmp} {v : Value} (mt : Mt n a L) (hr : fn.results = #[.tmp t]) (ht : look L t = some v) (h : R (.returned v) w) : bodyPost P fn R .ret a w :=
  bodyPost_ret (v := v) (by rw [results_tmp hr, mt.at_ _ _ ht]) mt.defers h
theorem post_ret2 {fn : Func} {R : Ending → World → Prop} {t u : Tmp} {v x : Value} (mt : Mt n a L) (hr : fn.results = #[.tmp t, .tmp u]) (ht : look L t = some v) (hu : look L u = some x) (h : R (.returned (.tuple #[v, x])) w) : bodyPost P fn R .ret a w :=
  bodyPost_ret (v := .tuple #[v, x]) (by rw [results_tmp2 hr, mt.at_ _ _ ht, mt.at_ _ _ hu]) mt.defers h
theorem post_ret0 {fn : Func} {R : Ending → World → Prop} (mt : Mt n a L) (hr : fn.results = #[]) (h : R (.returned (.tuple #[])) w) : bodyPost P fn R .ret a w :=
  bodyPost_ret (v := .tuple #[]) (results_none hr _ _ _) mt.defers h
theorem post_end0 {fn : Func} {R : Ending → World → Prop} (mt : Mt n a L) (hr : fn.results = #[]) (h : R (.returned (.tuple #[])) w) : bodyPost P fn R .normal a w :=
  bodyPost_end (v := .tuple #[]) (results_none hr _ _ _) mt.defers h
end
end Go.Proofs.YtoilfakpgcjjpaaDoor.Eng
namespace Go.Proofs.YtoilfakpgcjjpaaDoor.Eng
open Go Go.RowKit
set_option linter.unusedVariables false
set_option linter.unusedSimpArgs false
/-- what is known of a slot: its value, or a property that stays -/
inductive Ent where
  | ex (v : Value)
  | pr (Φ : Value → World → Prop)
def Ent.holds (e : Ent) (u : Value) (w : World) : Prop := match e with | .ex v => u = v | .pr Φ => Φ u w
def Ent.mono (w1 : World) (e : Ent) : Prop := match e with
  | .ex _ => True
  | .pr Φ => ∀ u w w', Below w1.heap.size w1 w → Below w.heap.size w w' → Φ u w → Φ u w'
theorem Ent.mono_holds {w1 w w' : World} {e : Ent} (h : e.mono w1) (h1 : Below w1.heap.size w1 w) (h2 : Below w.heap.size w w') {u : Value} (hu : e.holds u w) : e.holds u w' := by
  cases e with
  | ex v => exact hu
  | pr Φ => exact h u w w' h1 h2 hu
abbrev Acc := List (Nat × Nat × Ent)
def isIn : List Nat → Nat → Bool
  | [], _ => false
  | x :: xs, t => bif Nat.beq x t then true else isIn xs t
theorem isIn_mem : ∀ {ds : List Nat} {j : Nat}, isIn ds j = true → j ∈ ds
  | [], j, h => by simp [isIn] at h
  | x :: xs, j, h => by
    simp only [isIn] at h
    cases hb : Nat.beq x j with
    | true => rw [Nat.eq_of_beq_eq_true hb]; exact .head _
    | false => rw [hb] at h; exact .tail _ (isIn_mem h)
theorem mem_isIn : ∀ {ds : List Nat} {j : Nat}, j ∈ ds → isIn ds j = true
  | [], j, h => by cases h
  | x :: xs, j, h => by
    simp only [isIn]
    cases hb : Nat.beq x j with
    | true => rfl
    | false =>
      cases h with
      | head => rw [Nat.beq_refl] at hb; cases hb
      | tail _ h => exact mem_isIn h
def knownA (ds : List Nat) : Acc → List (Nat × Value)
  | [] => []
  | (j, d, .ex v) :: r => bif isIn ds j then (d, v) :: knownA ds r else knownA ds r
  | (_, _, .pr _) :: r => knownA ds r
def PrA (ds : List Nat) (a : Act) (w : World) : Acc → Prop
  | [] => True
  | (j, d, .pr Φ) :: r => (isIn ds j = true → Φ (a.tmps.getD d undef) w) ∧ PrA ds a w r
  | (_, _, .ex _) :: r => PrA ds a w r
def allA : Acc → List (Nat × Value)
  | [] => []
  | (_, d, .ex v) :: r => (d, v) :: allA r
  | (_, _, .pr _) :: r => allA r
def PrAll (a : Act) (w : World) : Acc → Prop
  | [] => True
  | (_, d, .pr Φ) :: r => Φ (a.tmps.getD d undef) w ∧ PrAll a w r
  | (_, _, .ex _) :: r => PrAll a w r
def depsOf (o : Oper) : List Nat := (o.after.toList.filter (Region.binds .any)).map (·.on)
def dstD (o : Oper) : Nat := o.dst.getD 0
def app : List (Nat × Value) → List (Nat × Value) → List (Nat × Value)
  | [], M => M
  | x :: L, M => x :: app L M
def baseL (ds : List Nat) : List (Nat × Value) → List (Nat × Value)
  | [] => []
  | (t, v) :: L => bif isIn ds t then baseL ds L else (t, v) :: baseL ds L
def dstsOf (l : List Oper) : List Nat := l.map dstD
def stepO (P : Program) (ops : Array Oper) (Q : Exit → Act → World → Prop) (o : Oper) (K : Act → World → Prop) (a : Act) (w : World) : Prop :=
  if Region.wanted o (yielded ops a.tmps) then o.wp P a w K Q else K (a.put o.dst undef) w
def StepOK (P : Program) (ops : Array Oper) (Q : Exit → Act → World → Prop) (n : Nat) (w1 : World) (B : List (Nat × Value)) (acc : Acc) (o : Oper) (e : Ent) : Prop :=
  ∀ a w, Mt n a (app (knownA (depsOf o) acc) B) → PrA (depsOf o) a w acc → Below w1.heap.size w1 w → ∀ K : Act → World → Prop,
    (∀ v w', Below w.heap.size w w' → e.holds v w' → K (a.put o.dst v) w') → stepO P ops Q o K a w
def MonoL (P : Program) (ops : Array Oper) (Q : Exit → Act → World → Prop) (n : Nat) (w1 : World) (B : List (Nat × Value)) : Nat → List Oper → Acc → Prop
  | _, [], acc => ∀ a w, Mt n a (app (allA acc) B) → PrAll a w acc → Below w1.heap.size w1 w → Q .normal a w
  | i, o :: rest, acc => ∃ e : Ent, e.mono w1 ∧ StepOK P ops Q n w1 B acc o e ∧ MonoL P ops Q n w1 B (i + 1) rest ((i, dstD o, e) :: acc)
def nodupB : List Nat → Bool
  | [] => true
  | x :: xs => !isIn xs x && nodupB xs
def regB (n : Nat) (l : List Oper) : Bool :=
  nodupB (dstsOf l) && l.all (fun o => o.dst.isSome && Nat.blt (dstD o) n) && (l.zipIdx.all fun p => (depsOf p.1).all fun j => Nat.blt j p.2)
theorem look_app {L M : List (Nat × Value)} {t : Nat} {v : Value} (h : look (app L M) t = some v) : look L t = some v ∨ look M t = some v := by
  induction L with
  | nil => exact .inr h
  | cons x L ih =>
    obtain ⟨d, u⟩ := x
    simp only [app, look] at h ⊢
    cases hb : Nat.beq d t with
    | true => rw [hb] at h; exact .inl h
    | false => rw [hb] at h; exact ih h
theorem look_baseL {ds : List Nat} {L : List (Nat × Value)} {t : Nat} {v : Value} (h : look (baseL ds L) t = some v) : isIn ds t = false ∧ look L t = some v := by
  induction L with
  | nil => simp [baseL, look] at h
  | cons x L ih =>
    obtain ⟨d, u⟩ := x
    simp only [baseL] at h
    cases hi : isIn ds d with
    | true =>
      rw [hi] at h
      obtain ⟨h1, h2⟩ := ih h
      refine ⟨h1, ?_⟩
      simp only [look]
      cases hb : Nat.beq d t with
      | true => rw [← Nat.eq_of_beq_eq_true hb, hi] at h1; cases h1
      | false => exact h2
    | false =>
      rw [hi] at h
      simp only [cond_false, look] at h ⊢
      cases hb : Nat.beq d t with
      | true => rw [hb] at h; rw [← Nat.eq_of_beq_eq_true hb]; exact ⟨hi, h⟩
      | false => rw [hb] at h; exact ih h
section
variable {P : Program} {Q : Exit → Act → World → Prop} {n : Nat} {w1 : World} {B : List (Nat × Value)}
/-- the plan, as a function -/
theorem MonoL.plan {ops : Array Oper} : ∀ (rest : List Oper) (i : Nat) (acc : Acc) (f : Nat → Ent), MonoL P ops Q n w1 B i rest acc → (∀ j, rest[j]? = ops[i + j]?) →
    (∀ x ∈ acc, x.1 < i ∧ (∃ o, ops[x.1]? = some o ∧ dstD o = x.2.1) ∧ f x.1 = x.2.2) →
    ∃ f' : Nat → Ent, (∀ j, j < i → f' j = f j) ∧
      (∀ j o, i ≤ j → ops[j]? = some o → (f' j).mono w1 ∧ ∃ acc' : Acc, (∀ x ∈ acc', x.1 < j ∧ (∃ o, ops[x.1]? = some o ∧ dstD o = x.2.1) ∧ f' x.1 = x.2.2) ∧ StepOK P ops Q n w1 B acc' o (f' j)) ∧
      ∃ acc' : Acc, (∀ x ∈ acc', (∃ o, ops[x.1]? = some o ∧ dstD o = x.2.1) ∧ f' x.1 = x.2.2) ∧ ∀ a w, Mt n a (app (allA acc') B) → PrAll a w acc' → Below w1.heap.size w1 w → Q .normal a w
  | [], i, acc, f, h, hr, hacc => ⟨f, fun _ _ => rfl, fun j o hj ho => by
      have := hr (j - i)
      rw [show i + (j - i) = j by omega, ho] at this
      simp at this, acc, fun x hx => (hacc x hx).2, h⟩
  | o :: rest, i, acc, f, ⟨e, hm, hs, h⟩, hr, hacc => by
    have ho : ops[i]? = some o := by simpa using (hr 0).symm
    obtain ⟨f', h1, h2, h3⟩ := MonoL.plan rest (i + 1) ((i, dstD o, e) :: acc) (fun j => if j = i then e else f j) h
      (fun j => by have := hr (j + 1); simpa [Nat.add_assoc, Nat.add_comm 1 j] using this) (fun x hx => by
        cases hx with
        | head => exact ⟨by simp, ⟨o, ho, rfl⟩, by simp⟩
        | tail _ hx =>
          obtain ⟨g1, g2, g3⟩ := hacc x hx
          exact ⟨by omega, g2, by rw [if_neg (by omega)]; exact g3⟩)
    have hfi : f' i = e := by rw [h1 i (by omega)]; simp
    have hfj : ∀ j, j < i → f' j = f j := fun j hj => by rw [h1 j (by omega)]; rw [if_neg (by omega)]
    refine ⟨f', hfj, fun j o' hj ho' => ?_, h3⟩
    rcases Nat.eq_or_lt_of_le hj with rfl | hj
    · rw [ho] at ho'
      obtain rfl := Option.some.inj ho'
      rw [hfi]
      refine ⟨hm, acc, fun x hx => ?_, hs⟩
      obtain ⟨g1, g2, g3⟩ := hacc x hx
      exact ⟨g1, g2, by rw [hfj _ g1]; exact g3⟩
    · exact h2 j o' hj ho'
structure RInv (ops : Array Oper) (n : Nat) (w1 : World) (B : List (Nat × Value)) (f : Nat → Ent) (listed : Array Bool) (a : Act) (w : World) : Prop where
  mt : Mt n a B
  below : Below w1.heap.size w1 w
  done : ∀ j o, ops[j]? = some o → listed.getD j false = true → (f j).holds (a.tmps.getD (dstD o) undef) w
theorem RInv.known {ops : Array Oper} {f : Nat → Ent} {listed : Array Bool} {a : Act} {w : World} (h : RInv ops n w1 B f listed a w) (ds : List Nat) (hds : ∀ j ∈ ds, listed.getD j false = true) :
    ∀ acc : Acc, (∀ x ∈ acc, (∃ o, ops[x.1]? = some o ∧ dstD o = x.2.1) ∧ f x.1 = x.2.2) → Mt n a (app (knownA ds acc) B) ∧ PrA ds a w acc
  | [], _ => ⟨h.mt, trivial⟩
  | (j, d, e) :: acc, hacc => by
    obtain ⟨i1, i2⟩ := RInv.known h ds hds acc (fun x hx => hacc x (.tail _ hx))
    obtain ⟨⟨o, ho, hd⟩, hf⟩ := hacc _ (.head _)
    have hold : isIn ds j = true → e.holds (a.tmps.getD d undef) w := fun hj => by
      have := h.done j o ho (hds j (isIn_mem hj))
      simp only at hd hf
      rw [hd, hf] at this
      exact this
    cases e with
    | ex v =>
      simp only [knownA, PrA]
      refine ⟨?_, i2⟩
      cases hj : isIn ds j with
      | false => exact i1
      | true =>
        simp only [cond_true, app]
        refine ⟨i1.size, i1.defers, fun t u ht => ?_⟩
        simp only [look] at ht
        cases hb : Nat.beq d t with
        | true =>
          rw [hb] at ht
          simp only [cond_true, Option.some.injEq] at ht
          rw [← Nat.eq_of_beq_eq_true hb, ← ht]
          exact hold hj
        | false => rw [hb] at ht; exact i1.at_ t u ht
    | pr Φ => exact ⟨i1, hold, i2⟩
theorem RInv.all {ops : Array Oper} {f : Nat → Ent} {listed : Array Bool} {a : Act} {w : World} (h : RInv ops n w1 B f listed a w) (hall : ∀ j o, ops[j]? = some o → listed.getD j false = true) :
    ∀ acc : Acc, (∀ x ∈ acc, (∃ o, ops[x.1]? = some o ∧ dstD o = x.2.1) ∧ f x.1 = x.2.2) → Mt n a (app (allA acc) B) ∧ PrAll a w acc
  | [], _ => ⟨h.mt, trivial⟩
  | (j, d, e) :: acc, hacc => by
    obtain ⟨i1, i2⟩ := RInv.all h hall acc (fun x hx => hacc x (.tail _ hx))
    obtain ⟨⟨o, ho, hd⟩, hf⟩ := hacc _ (.head _)
    have hold : e.holds (a.tmps.getD d undef) w := by
      have := h.done j o ho (hall j o ho)
      simp only at hd hf
      rw [hd, hf] at this
      exact this
    cases e with
    | ex v =>
      simp only [allA, PrAll, app]
      refine ⟨⟨i1.size, i1.defers, fun t u ht => ?_⟩, i2⟩
      simp only [look] at ht
      cases hb : Nat.beq d t with
      | true =>
        rw [hb] at ht
        simp only [cond_true, Option.some.injEq] at ht
        rw [← Nat.eq_of_beq_eq_true hb, ← ht]
        exact hold
      | false => rw [hb] at ht; exact i1.at_ t u ht
    | pr Φ => exact ⟨i1, hold, i2⟩
theorem nodupB_ne : ∀ {l : List Nat}, nodupB l = true → ∀ (i j x y : Nat), l[i]? = some x → l[j]? = some y → i ≠ j → x ≠ y
  | [], _, i, j, x, y, hi, _, _ => by simp at hi
  | z :: l, h, i, j, x, y, hi, hj, hij => by
    simp only [nodupB, Bool.and_eq_true, Bool.not_eq_true'] at h
    cases i with
    | zero =>
      cases j with
      | zero => omega
      | succ j =>
        simp only [List.getElem?_cons_zero, Option.some.injEq, List.getElem?_cons_succ] at hi hj
        subst hi
        rintro rfl
        have := mem_isIn (List.mem_of_getElem? hj)
        rw [this] at h; cases h.1
    | succ i =>
      cases j with
      | zero =>
        simp only [List.getElem?_cons_zero, Option.some.injEq, List.getElem?_cons_succ] at hi hj
        subst hj
        rintro rfl
        have := mem_isIn (List.mem_of_getElem? hi)
        rw [this] at h; cases h.1
      | succ j => exact nodupB_ne h.2 i j x y (by simpa using hi) (by simpa using hj) (by omega)
theorem arr_get {l : List Oper} {j : Nat} {o : Oper} (h : l.toArray[j]? = some o) : l[j]? = some o := by rw [← List.getElem?_toArray]; exact h
theorem w_region_draw {id : Nat} {l : List Oper} {a : Act} {L : List (Nat × Value)} (hm : P.follows .mixedOrders = true) (hB : regB n l = true) (mt : Mt n a L)
    (h : MonoL P l.toArray Q n w1 (baseL (dstsOf l) L) 0 l []) : (Code.region id l.toArray true).wp P Q a w1 := by
  obtain ⟨f, -, hstep, accE, haccE, hend⟩ := MonoL.plan l 0 [] (fun _ => .ex undef) h (fun j => by simp) (fun x hx => by cases hx)
  simp only [regB, Bool.and_eq_true] at hB
  obtain ⟨⟨hB1, hB2⟩, hB3⟩ := hB
  have hdst : ∀ j o, l.toArray[j]? = some o → o.dst = some (dstD o) ∧ Nat.blt (dstD o) n = true := fun j o ho => by
    have := List.all_eq_true.1 hB2 o (List.mem_of_getElem? (i := j) (arr_get ho))
    simp only [Bool.and_eq_true] at this
    refine ⟨?_, this.2⟩
    cases hd : o.dst with
    | none => simp [hd] at this
    | some d => simp [dstD, hd]
  have hne : ∀ i j oi oj, l.toArray[i]? = some oi → l.toArray[j]? = some oj → i ≠ j → dstD oi ≠ dstD oj := fun i j oi oj hi hj hij =>
    nodupB_ne hB1 i j _ _ (by simp only [dstsOf, List.getElem?_map]; rw [arr_get hi]; rfl) (by simp only [dstsOf, List.getElem?_map]; rw [arr_get hj]; rfl) hij
  have hdeps : ∀ j o, l.toArray[j]? = some o → ∀ k ∈ depsOf o, k < j := fun j o ho k hk => by
    have hm : (o, j) ∈ l.zipIdx := by
      rw [List.mem_zipIdx_iff_getElem?]; exact arr_get ho
    have := List.all_eq_true.1 hB3 (o, j) hm
    have := List.all_eq_true.1 this k hk
    exact Nat.le_of_ble_eq_true this
  have hkeys : ∀ j o, l.toArray[j]? = some o → ∀ v, look (baseL (dstsOf l) L) (dstD o) ≠ some v := fun j o ho v hv => by
    have h1 := (look_baseL hv).1
    have h2 : dstD o ∈ dstsOf l := List.mem_map.2 ⟨o, List.mem_of_getElem? (i := j) (arr_get ho), rfl⟩
    rw [mem_isIn h2] at h1; cases h1
  refine wp_region_any hm ?_
  have hready : ∀ listed : Array Bool, Region.ready .any l.toArray listed = [] → listed.size = l.length → ∀ j o, l.toArray[j]? = some o → listed.getD j false = true := by
    intro listed hr hsz j
    induction j using Nat.strongRecOn with
    | _ j ih =>
      intro o ho
      cases hj : listed.getD j false with
      | true => rfl
      | false =>
        have hjl : j < listed.size := by
          have h1 : j < l.toArray.size := (Array.getElem?_eq_some_iff.1 ho).1
          rw [hsz]; simpa using h1
        have : j ∈ Region.ready .any l.toArray listed := by
          rw [mem_ready]
          refine ⟨?_, o, ho, fun e he hb => ?_⟩
          · have h2 := hj
            rw [Array.getD_eq_getD_getElem?, Array.getElem?_eq_getElem hjl] at h2 ⊢
            simpa using h2
          · have hk : e.on ∈ depsOf o := List.mem_map.2 ⟨e, List.mem_filter.2 ⟨by simpa using he, hb⟩, rfl⟩
            have hlt := hdeps j o ho _ hk
            have hex : ∃ oe, l.toArray[e.on]? = some oe := by
              have h1 : j < l.toArray.size := (Array.getElem?_eq_some_iff.1 ho).1
              exact ⟨_, Array.getElem?_eq_getElem (Nat.lt_trans hlt h1)⟩
            obtain ⟨oe, hoe⟩ := hex
            exact ih e.on hlt oe hoe
        rw [hr] at this; cases this
  have main : ∀ (fuel : Nat) (listed : Array Bool) (a : Act) (w : World), listed.size = l.length → (listed.toList.filter (fun b => !b)).length ≤ fuel → RInv l.toArray n w1 (baseL (dstsOf l) L) f listed a w → wpAny P .any l.toArray Q fuel listed a w := by
    intro fuel
    induction fuel with
    | zero =>
      intro listed a w hsz hf hI
      have hall : ∀ j o, l.toArray[j]? = some o → listed.getD j false = true := by
        intro j o ho
        have h1 : j < l.toArray.size := (Array.getElem?_eq_some_iff.1 ho).1
        have hj : j < listed.size := by rw [hsz]; simpa using h1
        have he : listed.toList.filter (fun b => !b) = [] := List.eq_nil_of_length_eq_zero (by omega)
        have := List.filter_eq_nil_iff.1 he listed[j] (by simp)
        rw [Array.getD_eq_getD_getElem?, Array.getElem?_eq_getElem hj]
        simpa using this
      refine ⟨?_, ?_⟩
      · cases hr : Region.ready .any l.toArray listed with
        | nil => rfl
        | cons j r =>
          have hj : j ∈ Region.ready .any l.toArray listed := by rw [hr]; exact .head _
          obtain ⟨h0, o, ho, _⟩ := mem_ready.1 hj
          have h1 := hall j o ho
          have hjl : j < listed.size := by rw [hsz]; have h1 : j < l.toArray.size := (Array.getElem?_eq_some_iff.1 ho).1; simpa using h1
          rw [Array.getD_eq_getD_getElem?, Array.getElem?_eq_getElem hjl] at h0 h1
          simp at h0 h1
          rw [h0] at h1; cases h1
      · obtain ⟨h1, h2⟩ := hI.all hall accE haccE
        exact hend a w h1 h2 hI.below
    | succ fuel ih =>
      intro listed a w hsz hf hI
      refine ⟨fun hr => ?_, fun i hi => ?_⟩
      · obtain ⟨h1, h2⟩ := hI.all (hready listed hr hsz) accE haccE
        exact hend a w h1 h2 hI.below
      · obtain ⟨h0, o, ho, hall⟩ := mem_ready.1 hi
        obtain ⟨hmono, acc, hacc, hst⟩ := hstep i o (Nat.zero_le _) ho
        have hds : ∀ j ∈ depsOf o, listed.getD j false = true := fun j hj => by
          obtain ⟨e, he, rfl⟩ := List.mem_map.1 hj
          obtain ⟨he1, he2⟩ := List.mem_filter.1 he
          exact hall e (by simpa using he1) he2
        obtain ⟨k1, k2⟩ := hI.known (depsOf o) hds acc (fun x hx => (hacc x hx).2)
        obtain ⟨hd1, hd2⟩ := hdst i o ho
        have hil : i < listed.size := by rw [hsz]; have h1 : i < l.toArray.size := (Array.getElem?_eq_some_iff.1 ho).1; simpa using h1
        have hfi : listed[i] = false := by
          rw [Array.getD_eq_getD_getElem?, Array.getElem?_eq_getElem hil] at h0
          simpa using h0
        have hcont : ∀ v w', Below w.heap.size w w' → (f i).holds v w' → wpAny P .any l.toArray Q fuel (listed.setIfInBounds i true) (a.put o.dst v) w' := fun v w' hb hv => by
          refine ih _ _ _ (by simpa using hsz) ?_ ?_
          · have hcount : (listed.toList.filter fun b => !b).length = ((listed.setIfInBounds i true).toList.filter fun b => !b).length + 1 := by
              have key : ∀ (xs : List Bool) (i : Nat) (h : i < xs.length), xs[i] = false → (xs.filter fun b => !b).length = ((xs.set i true).filter fun b => !b).length + 1 := by
                intro xs
                induction xs with
                | nil => intro i h; simp at h
                | cons x xs ihx =>
                  intro i h hx
                  cases i with
                  | zero => simp at hx; subst hx; simp
                  | succ i =>
                    have := ihx i (by simpa using h) (by simpa using hx)
                    cases x <;> simp [this]
              have := key listed.toList i (by simpa using hil) (by simpa using hfi)
              simpa using this
            omega
          · have hput : ∀ t, t ≠ dstD o → (a.put o.dst v).tmps.getD t undef = a.tmps.getD t undef := fun t ht => by
              rw [hd1]; simp only [Act.put, Array.getD_eq_getD_getElem?]
              rw [Array.getElem?_setIfInBounds_ne (Ne.symm ht)]
            have hsame : (a.put o.dst v).tmps.getD (dstD o) undef = v := by
              have : dstD o < a.tmps.size := by rw [hI.mt.size]; exact Nat.le_of_ble_eq_true hd2
              rw [hd1]; simp [Act.put, this]
            refine ⟨⟨?_, ?_, fun t u ht => ?_⟩, below_then' hI.below hb, fun j o' ho' hj => ?_⟩
            · rw [hd1]; simp [Act.put, hI.mt.size]
            · rw [hd1]; simp [Act.put, hI.mt.defers]
            · have hne' : t ≠ dstD o := fun e => hkeys i o ho u (e ▸ ht)
              rw [hput t hne']; exact hI.mt.at_ t u ht
            · by_cases hji : j = i
              · subst hji
                rw [ho] at ho'
                obtain rfl := Option.some.inj ho'
                rw [hsame]; exact hv
              · rw [getD_set_ne false (Ne.symm hji)] at hj
                rw [hput _ (hne j i o' o ho' ho hji)]
                exact Ent.mono_holds ((hstep j o' (Nat.zero_le _) ho').1) hI.below hb (hI.done j o' ho' hj)
        have := hst a w k1 k2 hI.below _ hcont
        unfold wpOp
        rw [ho]
        unfold stepO at this
        by_cases hw : Region.wanted o (yielded l.toArray a.tmps) = true
        · simp only [hw, if_true] at this ⊢; exact .inl this
        · simp only [hw] at this ⊢; exact this
  refine main _ _ _ _ (by simp) (Nat.le_trans (List.length_filter_le _ _) (by simp)) ⟨?_, ?_, fun j o ho hj => ?_⟩
  · exact mt.weak fun t v ht => (look_baseL ht).2
  · exact (Below.refl _ _).drew
  · exfalso
    rw [Array.getD_eq_getD_getElem?, Array.getElem?_replicate] at hj
    split at hj <;> simp at hj
end
end Go.Proofs.YtoilfakpgcjjpaaDoor.Eng
namespace Go.Proofs.YtoilfakpgcjjpaaDoor.Eng
open Go Go.RowKit
set_option linter.unusedVariables false
set_option linter.unusedSimpArgs false
/-! ### found by instance search -/
class PickB (M : List Item) (b : Nat) (o : outParam Obj) (R : outParam (List Item)) : Prop where
  pick : Pick M (.blk b o) R
instance {b : Nat} {o : Obj} {R : List Item} : PickB (.blk b o :: R) b o R := ⟨.here _ _⟩
instance {x : Item} {M R : List Item} {b : Nat} {o : Obj} [h : PickB M b o R] : PickB (x :: M) b o (x :: R) := ⟨.there x h.pick⟩
class PickR (M : List Item) (v : Value) (e : TypeId) (sz n : outParam Nat) (xs : outParam (List Value)) (R : outParam (List Item)) : Prop where
  pick : Pick M (.row v e sz n xs) R
instance {v : Value} {e : TypeId} {sz n : Nat} {xs : List Value} {R : List Item} : PickR (.row v e sz n xs :: R) v e sz n xs R := ⟨.here _ _⟩
instance {x : Item} {M R : List Item} {v : Value} {e : TypeId} {sz n : Nat} {xs : List Value} [h : PickR M v e sz n xs R] : PickR (x :: M) v e sz n xs (x :: R) := ⟨.there x h.pick⟩
theorem Mt.learn {n : Nat} {a : Act} {L : List (Nat × Value)} (h : Mt n a L) {d : Nat} {v : Value} (e : a.tmps.getD d undef = v) : Mt n a ((d, v) :: L) := by
  refine ⟨h.size, h.defers, fun t u ht => ?_⟩
  simp only [look] at ht
  cases hb : Nat.beq d t with
  | true =>
    rw [hb] at ht
    simp only [cond_true, Option.some.injEq] at ht
    rw [← Nat.eq_of_beq_eq_true hb, ← ht]; exact e
  | false => rw [hb] at ht; exact h.at_ t u ht
theorem Mt.known {n : Nat} {a : Act} {L : List (Nat × Value)} (h : Mt n a L) {d : Nat} {v u : Value} (hd : look L d = some v) (e : v = u) : Mt n a ((d, u) :: L) := h.learn ((h.at_ _ _ hd).trans e)
/-- a slot's test is decided -/
theorem split_p {n : Nat} {a : Act} {L : List (Nat × Value)} {p : Prop} [Decidable p] {G : Prop} (t : Nat) (mt : Mt n a L) (hc : look L t = some (.bool (decide p))) (ht : p → Mt n a ((t, .bool true) :: L) → G) (hf : ¬ p → Mt n a ((t, .bool false) :: L) → G) : G := by
  by_cases h : p
  · exact ht h (mt.known hc (by rw [decide_eq_true h]))
  · exact hf h (mt.known hc (by rw [decide_eq_false h]))
theorem split_b {n : Nat} {a : Act} {L : List (Nat × Value)} {b : Bool} {G : Prop} (t : Nat) (mt : Mt n a L) (hc : look L t = some (.bool b)) (ht : b = true → Mt n a ((t, .bool true) :: L) → G) (hf : b = false → Mt n a ((t, .bool false) :: L) → G) : G := by
  cases h : b with
  | true => exact ht h (mt.known hc (by rw [h]))
  | false => exact hf h (mt.known hc (by rw [h]))
/-! ### a slice's place -/
def adB : Value → Nat
  | .slice (some a) _ _ => a.block
  | _ => 0
def adO : Value → Nat
  | .slice (some a) _ _ => a.off
  | _ => 0
theorem RdS.cell {I : Hp} {v : Value} {sz n : Nat} {vs : List Value} (r : RdS I v sz n vs) {j : Nat} {u : Value} (h : vs[j]? = some u) : cellI I (adB v) (adO v + j) = some u := by
  obtain ⟨a, c, rfl, _, _, _, h4⟩ := r
  obtain ⟨b, o, rfl, hc⟩ := h4 j u h
  exact hc
theorem RdS.nlen {I : Hp} {v : Value} {n : Nat} {vs : List Value} (r : RdS I v 1 n vs) : vs.length = n := by
  obtain ⟨a, c, _, _, _, h⟩ := r.len
  simpa using h
theorem RdS.max {I : Hp} {v : Value} {sz n : Nat} {vs : List Value} (r : RdS I v sz n vs) : n ≤ maxLen := by
  obtain ⟨a, c, _, h1, h2, _⟩ := r.len
  omega
section
variable {P : Program} {Q : Exit → Act → World → Prop} {a : Act} {w w1 : World} {n : Nat} {L : List (Nat × Value)} {ops : Array Oper} {rest : List Oper}
  {d : Nat} {op : Op} {ty : TypeId} {pos : String} {af : Array Edge} {g : Option (Nat × Bool)} {dd : Option Tmp}
  {X : List Nat} {w0 : World} {I0 I : Hp} {M R : List Item}
theorem pu_len_r {x : Operand} {t e : TypeId} {v : Value} {sz m : Nat} {vs : List Value} (hx : ev L x = some v) (r : RdS I v sz m vs) (ht : P.underlying t = some (.slice e)) : PureE P n L w1 ⟨dd, .call { callee := .builtin .len, args := #[x], argTypes := #[t] }, ty, pos, af, g⟩ (.int .i64 m) := by
  obtain ⟨ad, c, rfl, _⟩ := r.len
  exact pu_len hx ht
/-- the length of an owned row -/
theorem pu_len_o {x : Operand} {t e e' : TypeId} {v : Value} {sz m : Nat} {vs : List Value} (st : St X w0 I0 w1 I M) (ht : P.underlying t = some (.slice e)) (hx : ev L x = some v) [h : PickR M v e sz m vs R] : PureE P n L w1 ⟨dd, .call { callee := .builtin .len, args := #[x], argTypes := #[t] }, ty, pos, af, g⟩ (.int .i64 m) :=
  pu_len_r hx (st.rowM h.pick) ht
/-- an element's address -/
theorem pu_ia {x y : Operand} {t e : TypeId} {sz by_ m : Nat} {z v : Value} {vs : List Value} {k : IntKind} {i : Int} (he : Elt P t e sz by_ z) (hsz : 0 < sz) (hx : ev L x = some v) (r : RdS I v sz m vs) (hy : ev L y = some (.int k i)) (h0 : 0 ≤ i) (h1 : i < m) :
    PureE P n L w1 ⟨dd, .indexAddr t x y, ty, pos, af, g⟩ (.pointer (some ⟨adB v, adO v + i.toNat * sz, none⟩)) := by
  obtain ⟨ti, hi, _, h2, _⟩ := he.info
  obtain ⟨b, o, c, rfl, _⟩ := r.form hsz (by omega)
  subst h2
  exact pu_indexAddr he.ty hi hx hy h0 h1
/-- the same where the slice is known -/
theorem pu_iac {x y : Operand} {t e : TypeId} {sz by_ m c b o : Nat} {z : Value} {k : IntKind} {i : Int} (he : Elt P t e sz by_ z) (hx : ev L x = some (.slice (some ⟨b, o, none⟩) m c)) (hy : ev L y = some (.int k i)) (h0 : 0 ≤ i) (h1 : i < m) :
    PureE P n L w1 ⟨dd, .indexAddr t x y, ty, pos, af, g⟩ (.pointer (some ⟨b, o + i.toNat * sz, none⟩)) := by
  obtain ⟨ti, hi, _, h2, _⟩ := he.info
  subst h2
  exact pu_indexAddr he.ty hi hx hy h0 h1
theorem pu_loadM {x : Operand} {t T : TypeId} {b i : Nat} {v : Value} {cs : Array Value} {f : Nat × Nat} (st : St X w0 I0 w1 I M) (hs : scalB P t = true) (hx : ev L x = some (.pointer (some ⟨b, i, none⟩))) [h : PickB M b (.cells cs T f) R] (hc : nthA cs i = some v) :
    PureE P n L w1 ⟨dd, .load t x, ty, pos, af, g⟩ v := pu_load hs hx (st.cellM h.pick (by rw [← nthA_eq]; exact hc))
theorem pu_loadMA {x : Operand} {t T : TypeId} {b m : Nat} {cs : Array Value} {f : Nat × Nat} (st : St X w0 I0 w1 I M) (hs : aggB P t m = true) (hx : ev L x = some (.pointer (some ⟨b, 0, none⟩))) [h : PickB M b (.cells cs T f) R] (hl : cs.size = m) :
    PureE P n L w1 ⟨dd, .load t x, ty, pos, af, g⟩ (.agg cs) := pu_load_blk hs hx hl (st.blkM h.pick)
/-- a part of a block -/
theorem pu_loadMP {x : Operand} {t T : TypeId} {b i m : Nat} {cs : Array Value} {f : Nat × Nat} {vs : List Value} (st : St X w0 I0 w1 I M) (hs : aggB P t m = true) (hx : ev L x = some (.pointer (some ⟨b, i, none⟩))) [h : PickB M b (.cells cs T f) R] (hv : (cs.toList.drop i).take m = vs) (hl : vs.length = m) :
    PureE P n L w1 ⟨dd, .load t x, ty, pos, af, g⟩ (.agg vs.toArray) := pu_load_agg hs hx hl fun j u hu => by
  subst hv
  rw [cellI_blk (st.blkM h.pick)]
  rw [List.getElem?_take] at hu
  split at hu
  · simpa [List.getElem?_drop] using hu
  · cases hu
theorem pu_loadI {x : Operand} {t : TypeId} {b i : Nat} {v : Value} (st : St X w0 I0 w1 I M) (hs : scalB P t = true) (hx : ev L x = some (.pointer (some ⟨b, i, none⟩))) (hc : cellI I b i = some v) :
    PureE P n L w1 ⟨dd, .load t x, ty, pos, af, g⟩ v := pu_load hs hx (st.cellS hc)
/-- an element of a sealed slice of one-cell elements -/
theorem pu_loadR {x : Operand} {t : TypeId} {i : Int} {v u : Value} {m : Nat} {vs : List Value} (st : St X w0 I0 w1 I M) (hs : scalB P t = true) (r : RdS I v 1 m vs) (hx : ev L x = some (.pointer (some ⟨adB v, adO v + i.toNat * 1, none⟩))) (hu : vs[i.toNat]? = some u) :
    PureE P n L w1 ⟨dd, .load t x, ty, pos, af, g⟩ u := pu_load hs hx (st.cellS (by rw [Nat.mul_one]; exact r.cell hu))
theorem pu_loadRA {x : Operand} {t : TypeId} {i : Int} {v : Value} {m sz : Nat} {vs us : List Value} (st : St X w0 I0 w1 I M) (hs : aggB P t sz = true) (r : RdS I v sz m vs) (hx : ev L x = some (.pointer (some ⟨adB v, adO v + i.toNat * sz, none⟩))) (hl : us.length = sz) (hu : ∀ j u, us[j]? = some u → vs[i.toNat * sz + j]? = some u) :
    PureE P n L w1 ⟨dd, .load t x, ty, pos, af, g⟩ (.agg us.toArray) := pu_load_agg hs hx hl fun j u h => st.cellS (by rw [Nat.add_assoc]; exact r.cell (hu j u h))
theorem s_store {x y : Operand} {t T : TypeId} {b i : Nat} {v : Value} {cs : Array Value} (mt : Mt n a L) (st : St X w0 I0 w I M)
    (hs : (P.info? t).map (·.size) = some 1) (hx : ev L x = some (.pointer (some ⟨b, i, none⟩))) (hy : ev L y = some v) (hv : v.oneCell' = true) [h : PickB M b (.cells cs T (0, 0)) R] (hi : i < cs.size)
    (k : ∀ w', St X w0 I0 w' I (.blk b (.cells (cs.setIfInBounds i v) T (0, 0)) :: R) → wpList P ops Q rest a w') : wpList P ops Q (⟨none, .store t x y, ty, pos, af, none⟩ :: rest) a w :=
  step_store mt st hs hx hy hv h.pick hi k
/-- a store into a literal row of cells -/
theorem s_storeL {x y : Operand} {t T : TypeId} {b i : Nat} {v : Value} {cs : Array Value} {cs' : List Value} (mt : Mt n a L) (st : St X w0 I0 w I M)
    (hs : (P.info? t).map (·.size) = some 1) (hx : ev L x = some (.pointer (some ⟨b, i, none⟩))) (hy : ev L y = some v) (hv : v.oneCell' = true) [h : PickB M b (.cells cs T (0, 0)) R] (hi : Nat.blt i cs.size = true) (hc : cs.toList.set i v = cs')
    (k : ∀ w', St X w0 I0 w' I (.blk b (.cells cs'.toArray T (0, 0)) :: R) → wpList P ops Q rest a w') : wpList P ops Q (⟨none, .store t x y, ty, pos, af, none⟩ :: rest) a w :=
  step_store mt st hs hx hy hv h.pick (Nat.le_of_ble_eq_true hi) fun w' st' => k w' (by
    have e : cs.setIfInBounds i v = cs'.toArray := by subst hc; apply Array.ext'; simp
    rw [e] at st'; exact st')
theorem s_storeA {x y : Operand} {t T : TypeId} {b i m : Nat} {vs : Array Value} {cs : Array Value} {cs' : List Value} (mt : Mt n a L) (st : St X w0 I0 w I M)
    (hs : (P.info? t).map (·.size) = some m) (hx : ev L x = some (.pointer (some ⟨b, i, none⟩))) (hy : ev L y = some (.agg vs)) (hm : vs.size = m) (hv : ∀ v ∈ vs.toList, v.oneCell' = true) [h : PickB M b (.cells cs T (0, 0)) R] (hi : Nat.ble (i + vs.size) cs.size = true)
    (hc : cs.toList.take i ++ vs.toList ++ cs.toList.drop (i + vs.size) = cs')
    (k : ∀ w', St X w0 I0 w' I (.blk b (.cells cs'.toArray T (0, 0)) :: R) → wpList P ops Q rest a w') : wpList P ops Q (⟨none, .store t x y, ty, pos, af, none⟩ :: rest) a w :=
  step_store_agg mt st (hm ▸ hs) hx hy hv h.pick (Nat.le_of_ble_eq_true hi) hc k
/-- append of one literal -/
theorem s_append {s x : Operand} {t e e2 : TypeId} {sz by_ m k b : Nat} {z v : Value} {xs : List Value} {cs : Array Value} {c : Nat} {R' : List Item} (mt : Mt n a L) (st : St X w0 I0 w I M) (he : Elt P t e sz by_ z) (hzs : z.cells.size = sz) (hsz : 0 < sz)
    (hs : ev L s = some v) (hx : ev L x = some (.slice (some ⟨b, 0, none⟩) m c)) [h : PickR M v e sz k xs R] [h' : PickB R b (.cells cs e2 (0, 0)) R'] (hl : cs.size = m * sz) (h1 : ∀ u ∈ cs.toList, u.oneCell' = true)
    (h63 : k + m ≤ maxLen) (hbytes : (k + m) * by_ ≤ 140737488355328) (hd : Nat.blt d n = true)
    (K : ∀ a' w' v', Mt n a' ((d, v') :: L) → St X w0 I0 w' I (.row v' e sz (k + m) (xs ++ cs.toList) :: R') → wpList P ops Q rest a' w') :
    wpList P ops Q (⟨some d, .call { callee := .builtin .append, args := #[s, x], argTypes := #[t, t] }, ty, pos, af, none⟩ :: rest) a w :=
  step_append_lit mt st he hzs hsz hs hx h.pick h'.pick hl h1 h63 hbytes hd K
/-- append of a slice that reads -/
theorem s_append_r {s x : Operand} {t tx e e' : TypeId} {sz by_ m k : Nat} {z v u : Value} {xs news : List Value} (mt : Mt n a L) (st : St X w0 I0 w I M) (he : Elt P t e sz by_ z) (hzs : z.cells.size = sz) (hsz : 0 < sz)
    (hs : ev L s = some v) (hx : ev L x = some u) (htx : P.underlying tx = some (.slice e')) [h : PickR M v e sz k xs R] (r : RdS I u sz m news) (h1 : ∀ u ∈ news, u.oneCell' = true) (h63 : k + m ≤ maxLen) (hbytes : (k + m) * by_ ≤ 140737488355328) (hd : Nat.blt d n = true)
    (K : ∀ a' w' v', Mt n a' ((d, v') :: L) → St X w0 I0 w' I (.row v' e sz (k + m) (xs ++ news) :: R) → wpList P ops Q rest a' w') :
    wpList P ops Q (⟨some d, .call { callee := .builtin .append, args := #[s, x], argTypes := #[t, tx] }, ty, pos, af, none⟩ :: rest) a w :=
  step_append_src mt st he hzs hsz hs hx h.pick (src_of htx st.agr r h1 hsz) h63 hbytes hd K
/-- a call whose results are sealed -/
theorem s_call {f : FuncId} {xs : Array Operand} {ts : Array TypeId} {vs : List Value} {Φ : Value → World → Prop} (mt : Mt n a L) (st : St X w0 I0 w I M) (hf : callB P f = true) (hx : xs.toList.map (ev L) = vs.map some) (hc : CallsX P f vs.toArray w Φ) (hd : Nat.blt d n = true)
    (k : ∀ a' w' v, Mt n a' ((d, v) :: L) → St X w0 I0 w' (Iext I w w') M → Sub I (Iext I w w') → Φ v w' → wpList P ops Q rest a' w') :
    wpList P ops Q (⟨some d, .call { callee := .value (.func f), args := xs, argTypes := ts }, ty, pos, af, none⟩ :: rest) a w :=
  step_call mt hf hx hc hd fun a' w' v mt' hb hΦ => k a' w' v mt' (st.extI hb) (Iext_sub st.agr w') hΦ
/-- a call whose result is a value alone -/
theorem s_callv {f : FuncId} {xs : Array Operand} {ts : Array TypeId} {vs : List Value} {v : Value} (mt : Mt n a L) (st : St X w0 I0 w I M) (hf : callB P f = true) (hx : xs.toList.map (ev L) = vs.map some) (hc : CallsX P f vs.toArray w fun u _ => u = v) (hd : Nat.blt d n = true)
    (k : ∀ a' w', Mt n a' ((d, v) :: L) → St X w0 I0 w' I M → wpList P ops Q rest a' w') :
    wpList P ops Q (⟨some d, .call { callee := .value (.func f), args := xs, argTypes := ts }, ty, pos, af, none⟩ :: rest) a w :=
  step_call mt hf hx hc hd fun a' w' u mt' hb hΦ => by subst hΦ; exact k a' w' mt' (st.ext hb)
end
/-! ### the steps of a drawn region -/
section
variable {P : Program} {Q : Exit → Act → World → Prop} {w1 : World} {n i : Nat} {B : List (Nat × Value)} {ops : Array Oper} {rest : List Oper} {acc : Acc}
  {d : Nat} {op : Op} {ty : TypeId} {pos : String} {af : Array Edge}
theorem mo_pure {v : Value} (hp : PureE P n (app (knownA (depsOf ⟨some d, op, ty, pos, af, none⟩) acc) B) w1 ⟨some d, op, ty, pos, af, none⟩ v)
    (k : MonoL P ops Q n w1 B (i + 1) rest ((i, d, .ex v) :: acc)) : MonoL P ops Q n w1 B i (⟨some d, op, ty, pos, af, none⟩ :: rest) acc :=
  ⟨.ex v, trivial, fun a w mt _ hb K hK => by
    unfold stepO
    rw [if_pos (by simp [Region.wanted])]
    unfold Oper.wp
    rw [hp a w mt hb]
    exact hK v w (Below.refl _ _) rfl, k⟩
theorem yields_of {a : Act} {L : List (Nat × Value)} {j t : Nat} {b : Bool} (mt : Mt n a L) (hj : (ops[j]?).bind (·.dst) = some t) (ht : look L t = some (.bool b)) : yielded ops a.tmps j = some b := by
  have := mt.at_ t _ ht
  unfold yielded
  rw [hj]
  simp only [Option.bind_some]
  rw [Array.getD_eq_getD_getElem?] at this
  cases hq : a.tmps[t]? with
  | none => rw [hq] at this; simp [undef] at this
  | some u => rw [hq] at this; simp at this; rw [this]
theorem mo_pure_g {v : Value} {j t : Nat} {b : Bool} (hj : (ops[j]?).bind (·.dst) = some t) (ht : look (app (knownA (depsOf ⟨some d, op, ty, pos, af, some (j, b)⟩) acc) B) t = some (.bool b))
    (hp : PureE P n (app (knownA (depsOf ⟨some d, op, ty, pos, af, some (j, b)⟩) acc) B) w1 ⟨some d, op, ty, pos, af, some (j, b)⟩ v)
    (k : MonoL P ops Q n w1 B (i + 1) rest ((i, d, .ex v) :: acc)) : MonoL P ops Q n w1 B i (⟨some d, op, ty, pos, af, some (j, b)⟩ :: rest) acc :=
  ⟨.ex v, trivial, fun a w mt _ hb K hK => by
    have hy := yields_of mt hj ht
    unfold stepO
    rw [if_pos (by simp [Region.wanted, hy])]
    unfold Oper.wp
    rw [hp a w mt hb]
    exact hK v w (Below.refl _ _) rfl, k⟩
theorem mo_skip_g {j t : Nat} {b c : Bool} (hj : (ops[j]?).bind (·.dst) = some t) (ht : look (app (knownA (depsOf ⟨some d, op, ty, pos, af, some (j, b)⟩) acc) B) t = some (.bool c)) (hbc : c = !b)
    (k : MonoL P ops Q n w1 B (i + 1) rest ((i, d, .ex undef) :: acc)) : MonoL P ops Q n w1 B i (⟨some d, op, ty, pos, af, some (j, b)⟩ :: rest) acc :=
  ⟨.ex undef, trivial, fun a w mt _ hb K hK => by
    have hy := yields_of mt hj ht
    unfold stepO
    rw [if_neg (by subst hbc; cases b <;> simp [Region.wanted, hy])]
    exact hK undef w (Below.refl _ _) rfl, k⟩
/-- one new block -/
def isNew (w1 : World) (mk : Nat → Value) (ob : Obj) (v : Value) (w : World) : Prop := ∃ b, v = mk b ∧ w1.heap.size ≤ b ∧ w.heap[b]? = some ob
theorem mo_alloc {mk : Nat → Value} {ob : Obj} (hp : AllocE P n (app (knownA (depsOf ⟨some d, op, ty, pos, af, none⟩) acc) B) w1 ⟨some d, op, ty, pos, af, none⟩ mk ob)
    (k : MonoL P ops Q n w1 B (i + 1) rest ((i, d, .pr (isNew w1 mk ob)) :: acc)) : MonoL P ops Q n w1 B i (⟨some d, op, ty, pos, af, none⟩ :: rest) acc :=
  ⟨.pr _, fun u w w' _ h2 ⟨b, e, hb, ho⟩ => ⟨b, e, hb, (h2.block b (hp_some (w := w) ho)).trans ho⟩, fun a w mt _ hb K hK => by
    unfold stepO
    rw [if_pos (by simp [Region.wanted])]
    unfold Oper.wp
    rw [hp a w mt hb]
    exact hK _ _ (Below.alloc1 w ob) ⟨w.heap.size, rfl, hb.size, by show (w.heap.push ob)[w.heap.size]? = _; simp⟩, k⟩
/-- a call: its arguments may be known by a property alone -/
theorem mo_call {f : FuncId} {xs : Array Operand} {ts : Array TypeId} (Φ : Value → World → Prop) (hf : callB P f = true)
    (hm : ∀ u w w', Below w1.heap.size w1 w → Below w.heap.size w w' → Φ u w → Φ u w')
    (hc : ∀ a w, Mt n a (app (knownA (depsOf ⟨some d, .call { callee := .value (.func f), args := xs, argTypes := ts }, ty, pos, af, none⟩) acc) B) → PrA (depsOf ⟨some d, .call { callee := .value (.func f), args := xs, argTypes := ts }, ty, pos, af, none⟩) a w acc → Below w1.heap.size w1 w → CallsX P f (xs.map a.eval) w Φ)
    (k : MonoL P ops Q n w1 B (i + 1) rest ((i, d, .pr Φ) :: acc)) : MonoL P ops Q n w1 B i (⟨some d, .call { callee := .value (.func f), args := xs, argTypes := ts }, ty, pos, af, none⟩ :: rest) acc :=
  ⟨.pr Φ, hm, fun a w mt pr hb K hK => by
    unfold stepO
    rw [if_pos (by simp [Region.wanted])]
    unfold Oper.wp
    have : (execOp a.eval ⟨some d, .call { callee := .value (.func f), args := xs, argTypes := ts }, ty, pos, af, none⟩).run P w = .ok (.enter f (xs.map a.eval)) w := by
      have e : a.eval (.func f) = .func (.func f) #[] #[] := rfl
      simp [execOp, resolve, Deferred.ofValue, e, invoke, run_callFunc hf]
    rw [this]
    refine (hc a w mt pr hb).mono fun e w' ⟨v, he, hb', hΦ⟩ => ?_
    subst he
    exact hK v w' hb' hΦ, k⟩
/-- a call whose arguments are known -/
theorem mo_callk {f : FuncId} {xs : Array Operand} {ts : Array TypeId} {vs : List Value} (Φ : Value → World → Prop) (hf : callB P f = true)
    (hx : xs.toList.map (ev (app (knownA (depsOf ⟨some d, .call { callee := .value (.func f), args := xs, argTypes := ts }, ty, pos, af, none⟩) acc) B)) = vs.map some)
    (hm : ∀ u w w', Below w1.heap.size w1 w → Below w.heap.size w w' → Φ u w → Φ u w')
    (hc : ∀ w, Below w1.heap.size w1 w → CallsX P f vs.toArray w Φ)
    (k : MonoL P ops Q n w1 B (i + 1) rest ((i, d, .pr Φ) :: acc)) : MonoL P ops Q n w1 B i (⟨some d, .call { callee := .value (.func f), args := xs, argTypes := ts }, ty, pos, af, none⟩ :: rest) acc :=
  mo_call Φ hf hm (fun a w mt _ hb => by rw [evs_arr mt xs vs hx]; exact hc w hb) k
/-- a call whose arguments are known and whose result is a value alone -/
theorem mo_callv {f : FuncId} {xs : Array Operand} {ts : Array TypeId} {vs : List Value} {v : Value} (hf : callB P f = true)
    (hx : xs.toList.map (ev (app (knownA (depsOf ⟨some d, .call { callee := .value (.func f), args := xs, argTypes := ts }, ty, pos, af, none⟩) acc) B)) = vs.map some)
    (hc : ∀ w, Below w1.heap.size w1 w → CallsX P f vs.toArray w fun u _ => u = v)
    (k : MonoL P ops Q n w1 B (i + 1) rest ((i, d, .ex v) :: acc)) : MonoL P ops Q n w1 B i (⟨some d, .call { callee := .value (.func f), args := xs, argTypes := ts }, ty, pos, af, none⟩ :: rest) acc :=
  ⟨.ex v, trivial, fun a w mt pr hb K hK => by
    unfold stepO
    rw [if_pos (by simp [Region.wanted])]
    unfold Oper.wp
    have : (execOp a.eval ⟨some d, .call { callee := .value (.func f), args := xs, argTypes := ts }, ty, pos, af, none⟩).run P w = .ok (.enter f vs.toArray) w := by
      have e : a.eval (.func f) = .func (.func f) #[] #[] := rfl
      simp [execOp, resolve, Deferred.ofValue, e, invoke, evs_arr mt xs vs hx, run_callFunc hf]
    rw [this]
    refine (hc w hb).mono fun e w' ⟨u, he, hb', hu⟩ => ?_
    subst he; subst hu
    exact hK _ w' hb' rfl, k⟩
theorem mo_end {Q' : Act → World → Prop} {Q2 : Exit → Act → World → Prop} (h : ∀ a w, Mt n a (app (allA acc) B) → PrAll a w acc → Below w1.heap.size w1 w → Q' a w) : MonoL P ops (Exit.then Q' Q2) n w1 B i [] acc := h
theorem w_drs {id : Nat} {l : List Oper} {y : Code} {a : Act} {L : List (Nat × Value)} (hm : P.follows .mixedOrders = true) (hB : regB n l = true) (mt : Mt n a L)
    (h : MonoL P l.toArray (Exit.then (y.wp P Q) Q) n w1 (baseL (dstsOf l) L) 0 l []) : ((Code.region id l.toArray true).seq y).wp P Q a w1 := wp_seq (w_region_draw hm hB mt h)
end
end Go.Proofs.YtoilfakpgcjjpaaDoor.Eng
namespace Go.Proofs.YtoilfakpgcjjpaaDoor.Eng
open Go Go.RowKit
set_option linter.unusedVariables false
set_option linter.unusedSimpArgs false
/-- all entries are known -/
def AllK (L : List (Nat × Value)) : List (Nat × Value) → Prop
  | [] => True
  | (d, v) :: r => look L d = some v ∧ AllK L r
theorem AllK.mem {L : List (Nat × Value)} : ∀ {L' : List (Nat × Value)}, AllK L L' → ∀ p ∈ L', look L p.1 = some p.2
  | [], _, p, h => by cases h
  | (d, v) :: r, ⟨h1, h2⟩, p, h => by
    cases h with
    | head => exact h1
    | tail _ h => exact AllK.mem h2 p h
theorem Mt.sub {n : Nat} {a : Act} {L L' : List (Nat × Value)} (h : Mt n a L) (k : AllK L L') : Mt n a L' := h.of_list L' k.mem
section
variable {P : Program} {Q : Exit → Act → World → Prop} {a : Act} {w w1 : World} {n : Nat} {L : List (Nat × Value)} {ops : Array Oper} {rest : List Oper}
  {d : Nat} {op : Op} {ty : TypeId} {pos : String} {af : Array Edge} {g : Option (Nat × Bool)} {dd : Option Tmp}
  {X : List Nat} {w0 : World} {I0 I : Hp} {M R : List Item}
theorem s_callf0 {x : Operand} {f : FuncId} {xs : Array Operand} {ts : Array TypeId} {vs ca : List Value} {R : Ending → World → Prop} (mt : Mt n a L) (hf : callB P f = true) (hv : ev L x = some (.func (.func f) #[] ca.toArray)) (hx : xs.toList.map (ev L) = vs.map some) (hc : Calls P f (vs ++ ca).toArray w R)
    (k : ∀ v w', R (.returned v) w' → wpList P ops Q rest (a.put dd v) w') (kp : ∀ c w', R (.panicked c) w' → Q (.panic c) a w') (ko : ∀ w', R .outgrown w' → LetsOut Q) :
    wpList P ops Q (⟨dd, .call { callee := .value x, args := xs, argTypes := ts }, ty, pos, af, none⟩ :: rest) a w := by
  refine wpList_plain rfl fun K hK => ?_
  unfold Oper.wp
  have : (execOp a.eval ⟨dd, .call { callee := .value x, args := xs, argTypes := ts }, ty, pos, af, none⟩).run P w = .ok (.enter f (vs ++ ca).toArray) w := by
    simp [execOp, resolve, Deferred.ofValue, mt.ev hv, invoke, evs_arr mt xs vs hx, run_callFunc hf]
  rw [this]
  refine hc.mono fun e w' hR => ?_
  cases e with
  | returned v => exact hK _ _ (k v w' hR)
  | panicked c => exact kp c w' hR
  | outgrown => exact ko w' hR
theorem s_callf {x : Operand} {f : FuncId} {xs : Array Operand} {ts : Array TypeId} {vs ca : List Value} {v : Value} (mt : Mt n a L) (st : St X w0 I0 w I M) (hf : callB P f = true) (hv : ev L x = some (.func (.func f) #[] ca.toArray)) (hx : xs.toList.map (ev L) = vs.map some) (hc : CallsX P f (vs ++ ca).toArray w fun u _ => u = v) (hd : Nat.blt d n = true)
    (k : ∀ a' w', Mt n a' ((d, v) :: L) → St X w0 I0 w' I M → wpList P ops Q rest a' w') :
    wpList P ops Q (⟨some d, .call { callee := .value x, args := xs, argTypes := ts }, ty, pos, af, none⟩ :: rest) a w :=
  s_callf0 mt hf hv hx hc (fun u w' ⟨u', e, hb, hu⟩ => by cases e; subst hu; exact k _ w' (mt.put d _ hd) (st.ext hb)) (fun c w' ⟨_, e, _⟩ => by cases e) (fun w' ⟨_, e, _⟩ => by cases e)
theorem s_panic {x : Operand} {t : TypeId} {v : Value} (mt : Mt n a L) (hx : ev L x = some (.iface t v)) (h : Q (.panic [{ v := .iface t v, recovered := false }]) a w) :
    wpList P ops Q (⟨dd, .panic x, ty, pos, af, none⟩ :: rest) a w := by
  refine wpList_plain rfl fun K hK => ?_
  unfold Oper.wp
  have : (execOp a.eval ⟨dd, .panic x, ty, pos, af, none⟩).run P w = .halt (.panic (.iface t v)) w := by
    simp [execOp, mt.ev hx, Instr.panic]
  rw [this]
  exact h
theorem x_then_panic {K : Act → World → Prop} {c : List PanicEntry} (h : Q (.panic c) a w) : Exit.then K Q (.panic c) a w := h
theorem x_block_panic {i : Nat} {c : List PanicEntry} (h : Q (.panic c) a w) : Exit.inBlock i Q (.panic c) a w := h
theorem post_panic {fn : Func} {R : Ending → World → Prop} {c : List PanicEntry} (mt : Mt n a L) (h : R (.panicked c) w) : bodyPost P fn R (.panic c) a w := ⟨mt.defers, h⟩
/-- a cut between two pieces -/
theorem w_mid {x y : Code} (J : Act → World → Prop) (h : x.wp P (Exit.then J Q) a w) (k : ∀ a w, J a w → y.wp P Q a w) : (Code.seq x y).wp P Q a w :=
  wp_seq (wp_mono h fun e a w q => by cases e <;> first | exact k _ _ q | exact q)
end
/-! ### a contract for every later world -/
theorem CallsX.mono {P : Program} {f : FuncId} {args : Array Value} {w : World} {Φ Ψ : Value → World → Prop} (h : CallsX P f args w Φ) (k : ∀ v w', Below w.heap.size w w' → Φ v w' → Ψ v w') : CallsX P f args w Ψ :=
  Calls.mono h fun e w' ⟨v, he, hb, hΦ⟩ => ⟨v, he, hb, k v w' hb hΦ⟩
theorem RdS.later {w w' : World} (hb : Below w.heap.size w w') {v : Value} {sz n : Nat} {vs : List Value} (r : RdS (hp w) v sz n vs) : RdS (hp w') v sz n vs := r.mono (Below.sub hb)
/-! ### lists -/
def idxI {α : Type} (p : α → Bool) : List α → Int
  | [] => -1
  | x :: xs => if p x then 0 else match idxI p xs with
    | .ofNat k => ((k + 1 : Nat) : Int)
    | .negSucc k => .negSucc k
theorem idxI_hit {α : Type} {p : α → Bool} : ∀ {xs : List α} {k : Nat} {x : α}, xs[k]? = some x → p x = true → (∀ j y, j < k → xs[j]? = some y → p y = false) → idxI p xs = (k : Int)
  | [], k, x, h, _, _ => by simp at h
  | y :: ys, 0, x, h, hp, _ => by simp at h; subst h; simp [idxI, hp]
  | y :: ys, k + 1, x, h, hp, hn => by
    have h0 := hn 0 y (by omega) rfl
    have := idxI_hit (p := p) (xs := ys) (k := k) (x := x) (by simpa using h) hp (fun j z hj hz => hn (j + 1) z (by omega) (by simpa using hz))
    simp only [idxI, h0, Bool.false_eq_true, if_false, this]
theorem idxI_none {α : Type} {p : α → Bool} : ∀ {xs : List α}, (∀ (j : Nat) (y : α), xs[j]? = some y → p y = false) → idxI p xs = -1
  | [], _ => rfl
  | y :: ys, hn => by
    have h0 := hn 0 y rfl
    have := idxI_none (p := p) (xs := ys) (fun j z hz => hn (j + 1) z (by simpa using hz))
    simp only [idxI, h0, Bool.false_eq_true, if_false, this]
    rfl
theorem idxI_ge {α : Type} (p : α → Bool) : ∀ (xs : List α), decide ((0 : Int) ≤ idxI p xs) = xs.any p
  | [] => rfl
  | x :: xs => by
    have ih := idxI_ge p xs
    by_cases hx : p x = true
    · simp [idxI, hx]
    · have hx' : p x = false := by simpa using hx
      simp only [idxI, hx', Bool.false_eq_true, if_false, List.any_cons, Bool.false_or, ← ih]
      cases idxI p xs with
      | ofNat k => simp; omega
      | negSucc k => rfl
end Go.Proofs.YtoilfakpgcjjpaaDoor.Eng
namespace Go.Proofs.YtoilfakpgcjjpaaDoor.Eng
open Go Go.RowKit
set_option linter.unusedVariables false
set_option linter.unusedSimpArgs false
section
variable {P : Program} {Q : Exit → Act → World → Prop} {a : Act} {w w1 : World} {n : Nat} {L : List (Nat × Value)} {ops : Array Oper} {rest : List Oper}
  {d : Nat} {op : Op} {ty : TypeId} {pos : String} {af : Array Edge} {g : Option (Nat × Bool)} {dd : Option Tmp}
  {X : List Nat} {w0 : World} {I0 I : Hp} {M R : List Item}
def ifaceB (P : Program) (t : TypeId) : Bool := match P.underlying t with | some (.interface _) => true | _ => false
theorem ifaceB_und {P : Program} {t : TypeId} (h : ifaceB P t = true) : ∃ ms, P.underlying t = some (.interface ms) := by
  unfold ifaceB at h
  cases hu : P.underlying t with
  | none => simp [hu] at h
  | some td => cases td <;> simp [hu] at h; exact ⟨_, rfl⟩
theorem ifaceB_at {P : Program} {t : TypeId} (h : ifaceB P t = true) : P.underlying t = some (.interface (P.methodsAt t)) := by
  obtain ⟨ms, hu⟩ := ifaceB_und h
  rw [show P.methodsAt t = ms by simp [Program.methodsAt, hu]]; exact hu
theorem pu_eql_inil {x : Operand} {s t u : TypeId} {v : Value} (hs : ifaceB P s = true) (hx : ev L x = some (.iface u v)) : PureE P n L w1 ⟨dd, .binOp .eql s x (.const .nilIface) t, ty, pos, af, g⟩ (.bool false) := fun a w mt _ => by
  have hu := ifaceB_at hs
  have e : a.eval (.const .nilIface) = .nilIface := rfl
  have hg : (eqGuard .eql s x (.const .nilIface) (.iface u v) .nilIface).run P w = .ok () w := by simp [eqGuard]
  have hr := run_eql_held_nil (P := P) w s u v hu
  simp only [execOp, mt.ev hx, e, Sem.run_bind, hg, Result.andThen_ok, hr]
  rfl
theorem pu_neq_inil {x : Operand} {s t u : TypeId} {v : Value} (hs : ifaceB P s = true) (hx : ev L x = some (.iface u v)) : PureE P n L w1 ⟨dd, .binOp .neq s x (.const .nilIface) t, ty, pos, af, g⟩ (.bool true) := fun a w mt _ => by
  have hu := ifaceB_at hs
  have e : a.eval (.const .nilIface) = .nilIface := rfl
  have hg : (eqGuard .neq s x (.const .nilIface) (.iface u v) .nilIface).run P w = .ok () w := by simp [eqGuard]
  have hr := run_neq_held_nil (P := P) w s u v hu
  simp only [execOp, mt.ev hx, e, Sem.run_bind, hg, Result.andThen_ok, hr]
  rfl
theorem pu_eql_nilnil {x : Operand} {s t : TypeId} (hs : ifaceB P s = true) (hx : ev L x = some .nilIface) : PureE P n L w1 ⟨dd, .binOp .eql s x (.const .nilIface) t, ty, pos, af, g⟩ (.bool true) := fun a w mt _ => by
  have hu := ifaceB_at hs
  have e : a.eval (.const .nilIface) = .nilIface := rfl
  have hg : (eqGuard .eql s x (.const .nilIface) .nilIface .nilIface).run P w = .ok () w := by simp [eqGuard]
  have hr := run_eql_nil_nil (P := P) w s hu
  simp only [execOp, mt.ev hx, e, Sem.run_bind, hg, Result.andThen_ok, hr]
  rfl
theorem pu_neq_nilnil {x : Operand} {s t : TypeId} (hs : ifaceB P s = true) (hx : ev L x = some .nilIface) : PureE P n L w1 ⟨dd, .binOp .neq s x (.const .nilIface) t, ty, pos, af, g⟩ (.bool false) := fun a w mt _ => by
  have hu := ifaceB_at hs
  have e : a.eval (.const .nilIface) = .nilIface := rfl
  have hg : (eqGuard .neq s x (.const .nilIface) .nilIface .nilIface).run P w = .ok () w := by simp [eqGuard]
  have hr := run_neq_nil_nil (P := P) w s hu
  simp only [execOp, mt.ev hx, e, Sem.run_bind, hg, Result.andThen_ok, hr]
  rfl
/-- a conversion between integers -/
theorem pu_conv_int {x : Operand} {s t : TypeId} {k k' : IntKind} {i : Int} (hs : P.underlying s = some (.int k')) (ht : P.underlying t = some (.int k)) (hx : ev L x = some (.int k' i)) : PureE P n L w1 ⟨dd, .convert s t x, ty, pos, af, g⟩ (.int k (k.wrap i)) := fun a w mt _ => by
  simp [execOp, mt.ev hx, convert, run_underlying hs, run_underlying ht, Conv.intToInt]
theorem pu_conv_str {x : Operand} {s t : TypeId} {i : ByteArray} (hs : P.underlying s = some .string) (ht : P.underlying t = some .string) (hx : ev L x = some (.string i)) : PureE P n L w1 ⟨dd, .convert s t x, ty, pos, af, g⟩ (.string i) := fun a w mt _ => by
  simp [execOp, mt.ev hx, convert, run_underlying hs, run_underlying ht]
/-! bytes -/
def byteV (b : UInt8) : Value := .int .u8 b.toNat
theorem byteV_one (b : UInt8) : (byteV b).oneCell' = true := rfl
theorem fold_push (l : List UInt8) : ∀ s : ByteArray, (l.map fun b => ((b.toNat : Nat) : Int)).foldl (fun r n => r.push (UInt8.ofNat n.toNat)) s = ⟨s.data ++ l.toArray⟩ := by
  induction l with
  | nil => intro s; simp
  | cons b l ih =>
    intro s
    simp only [List.map_cons, List.foldl_cons, ih, Int.toNat_natCast, UInt8.ofNat_toNat]
    apply ByteArray.ext
    simp [ByteArray.push]
/-- string(bytes) -/
theorem pu_bytes_str {x : Operand} {s e t : TypeId} {v : Value} {m : Nat} {l : List UInt8} (hs : P.underlying s = some (.slice e)) (he : P.underlying e = some (.int .u8)) (ht : P.underlying t = some .string) (hx : ev L x = some v) (r : RdS (hp w1) v 1 m (l.map byteV)) :
    PureE P n L w1 ⟨dd, .convert s t x, ty, pos, af, g⟩ (.string ⟨l.toArray⟩) := fun a w mt hb => by
  have hl : l.length = m := by have := r.nlen; simpa using this
  rcases Nat.eq_zero_or_pos m with rfl | hm
  · have : l = [] := List.eq_nil_of_length_eq_zero hl
    subst this
    obtain ⟨ad, c, rfl, _⟩ := r.len
    cases ad with
    | none => simp [execOp, mt.ev hx, convert, run_underlying hs, run_underlying he, run_underlying ht, Conv.bytesToString]; rfl
    | some ad =>
      have := run_bytesToString (P := P) w ad 0 c [] (by simp [loadCells, loadCellsFrom])
      simp [execOp, mt.ev hx, convert, run_underlying hs, run_underlying he, run_underlying ht, this]; rfl
  · obtain ⟨b, o, c, rfl, _, _, hc⟩ := r.form (by decide) hm
    have hlc : (loadCells ⟨b, o, none⟩ m).run P w = .ok ((l.map fun b => ((b.toNat : Nat) : Int)).map (Value.int .u8)).toArray w := by
      have := run_loadCells_list (P := P) w ⟨b, o, none⟩ (l.map byteV) (fun j u hu => by rw [add_plain]; exact below_cell hb (hc j u hu))
      rw [List.length_map, hl] at this
      rw [this]
      simp [byteV, Function.comp_def]
    have := run_bytesToString (P := P) w ⟨b, o, none⟩ m c _ hlc
    rw [fold_push] at this
    simp [execOp, mt.ev hx, convert, run_underlying hs, run_underlying he, run_underlying ht, this]
/-! methods -/
def methB (P : Program) (t : TypeId) (name : String) (f : FuncId) : Bool :=
  match P.info? t with
  | some i => (match i.methods.find? (·.name == name) with
    | some m => m.path.isEmpty && m.func == some (f, false)
    | none => false) && (match P.underlying t with | some (.pointer _) => false | some _ => true | none => false)
  | none => false
theorem run_method {P : Program} {w : World} {t : TypeId} {name : String} {f : FuncId} {v : Value} (h : methB P t name f = true) (k : Nat) : (method (k + 1) t v name).run P w = .ok (f, v) w := by
  unfold methB at h
  cases hi : P.info? t with
  | none => simp [hi] at h
  | some i =>
    simp only [hi, Bool.and_eq_true] at h
    obtain ⟨h1, h2⟩ := h
    cases hm : i.methods.find? (·.name == name) with
    | none => simp [hm] at h1
    | some m =>
      simp only [hm, Bool.and_eq_true, Array.isEmpty_iff, beq_iff_eq] at h1
      cases hu : P.underlying t with
      | none => simp [hu] at h2
      | some td => cases td <;> simp [hu] at h2 <;> simp [method, typeInfo, hi, hm, h1.1, h1.2, follow, receiverAt, run_underlying hu, Place.get]
theorem run_invoke {P : Program} {w : World} {t : TypeId} {name : String} {f : FuncId} {v : Value} {args : Array Value} (h : methB P t name f = true) (hf : callB P f = true) : (callMethod (.iface t v) name args).run P w = .ok (.enter f (#[v] ++ args)) w := by
  have hm : (method (P.types.size + Made.depth) t v name).run P w = .ok (f, v) w := by
    have : Made.depth = Made.depth - 1 + 1 := rfl
    rw [this, ← Nat.add_assoc]
    exact run_method h _
  simp [callMethod, hm, run_callFunc hf]
/-! struct literals -/
def placesOf (P : Program) (t : TypeId) : Option (List (Nat × Nat)) :=
  match P.underlying t with
  | some (.struct fs) => fs.toList.mapM (fun f => (P.info? f.type).map fun i => (f.offset, i.size))
  | _ => none
theorem pu_build {t : TypeId} {ps : Array (Nat × Operand)} {pl : List (Nat × Nat)} {zc cs : Array Value} {vs : List (Nat × Value)} (hpl : placesOf P t = some pl) (hz : zeroB P t = some (.agg zc)) (hps : evParts L ps.toList = some vs)
    (hf : Instr.fill (fun i => pl[i]?) zc vs = some cs) : PureE P n L w1 ⟨dd, .build t ps, ty, pos, af, g⟩ (.agg cs) := fun a w mt _ => by
  have hb : P.built t (ps.map fun (i, x) => (i, a.eval x)).toList = some cs := by
    have hp : (ps.map fun (i, x) => (i, a.eval x)).toList = vs := by rw [← evParts_ok mt _ _ hps]; simp
    unfold placesOf at hpl
    unfold zeroB at hz
    cases hi : P.info? t with
    | none => simp [hi] at hz
    | some it =>
      cases hu : P.underlying t with
      | none => simp [hu] at hpl
      | some td =>
        cases td <;> simp [hu] at hpl
        simp only [hi, Option.bind_some] at hz
        unfold Program.built
        rw [hp]
        simp only [hi, hu, hz, hpl]
        simpa [Value.cells] using hf
  simp only [execOp, Sem.run_bind]
  rw [run_build w t _ cs hb]
  rfl
/-! maps with integer keys -/
/-- the map's entries read as a function of the key -/
structure mapRd (k : IntKind) (es : Array MapEntry) (f : Int → Option Value) : Prop where
  at_ : ∀ x ∈ es.toList, ∃ i, x.key = .int k i ∧ f i = some x.val
  of_ : ∀ i v, f i = some v → ∃ x ∈ es.toList, x.key = .int k i ∧ x.val = v
  nd : (es.toList.map (·.key)).Nodup
theorem findNow_int {kd : TypeDesc} {k : IntKind} (hkd : kd = .int k) (i : Int) : ∀ (l : List MapEntry) (j : Nat), (∀ x ∈ l, ∃ m, x.key = .int k m) →
    (∃ q x, Instr.findNow kd (.int k i) l j = some (some (q, x.val)) ∧ x ∈ l ∧ x.key = .int k i ∧ j ≤ q ∧ l[q - j]? = some x) ∨ (Instr.findNow kd (.int k i) l j = some none ∧ ∀ x ∈ l, x.key ≠ .int k i)
  | [], j, _ => .inr ⟨rfl, fun x h => by cases h⟩
  | e :: l, j, h => by
    subst hkd
    obtain ⟨m, hm⟩ := h e (.head _)
    by_cases him : i = m
    · subst him
      exact .inl ⟨j, e, by simp [Instr.findNow, hm, Instr.sameNow], .head _, hm, Nat.le_refl _, by simp⟩
    · have hs : Instr.sameNow (.int k) (.int k i) e.key = some false := by simp [hm, Instr.sameNow, him]
      rcases findNow_int (k := k) rfl i l (j + 1) (fun x hx => h x (.tail _ hx)) with ⟨q, x, h1, h2, h3, h4, h5⟩ | ⟨h1, h2⟩
      · refine .inl ⟨q, x, by rw [Instr.findNow, hs]; exact h1, .tail _ h2, h3, by omega, ?_⟩
        rw [show q - j = (q - (j + 1)) + 1 by omega]; simpa using h5
      · refine .inr ⟨by rw [Instr.findNow, hs]; exact h1, fun x hx => ?_⟩
        cases hx with
        | head => rw [hm]; intro he; injection he with _ he; exact him he.symm
        | tail _ hx => exact h2 x hx
theorem run_checkKey_int {P : Program} {w : World} {kt : TypeId} {k : IntKind} {i : Int} (hd : P.underlying kt = some (.int k)) (e : Bool) : (Instr.checkKey e 10000 kt (.int k i)).run P w = .ok () w := by
  exact MapKept.run_checkKey (d := .int k) (k := .int k i) hd rfl e 9999
/-- m[k] -/
theorem pu_lookup {m x : Operand} {t kt et : TypeId} {b : Nat} {es : Array MapEntry} {clock : Nat} {k : IntKind} {i : Int} {f : Int → Option Value} {z v : Value} (hm : ev L m = some (.map (some b))) (hx : ev L x = some (.int k i)) (ht : P.underlying t = some (.map kt et)) (hk : P.underlying kt = some (.int k)) (hz : zeroB P et = some z)
    (hb : hp w1 b = some (.map es clock)) (hr : mapRd k es f) (hv : (f i).getD z = v) : PureE P n L w1 ⟨dd, .lookup t m x false, ty, pos, af, g⟩ v := fun a w mt hbel => by
  have hb' : w.heap[b]? = some (.map es clock) := (hbel.block b (hp_some hb)).trans hb
  have hkeys : ∀ x ∈ es.toList, ∃ m, x.key = .int k m := fun x hx => let ⟨i, h, _⟩ := hr.at_ x hx; ⟨i, h⟩
  rcases findNow_int rfl i es.toList 0 hkeys with ⟨q, y, h1, h2, h3, _⟩ | ⟨h1, h2⟩
  · obtain ⟨i', hk', hf⟩ := hr.at_ y h2
    rw [h3] at hk'
    injection hk' with _ hk'
    subst hk'
    rw [hf] at hv
    simp only [Option.getD_some] at hv
    subst hv
    simp [execOp, mt.ev hm, mt.ev hx, Instr.lookup, run_underlying ht, MapKept.run_getObj_map hb', run_checkKey_int hk, Instr.findKey, run_underlying hk, h1]
  · have hf : f i = none := by
      cases hfi : f i with
      | none => rfl
      | some u => obtain ⟨y, hy, h3, _⟩ := hr.of_ i u hfi; exact absurd h3 (h2 y hy)
    rw [hf] at hv
    simp only [Option.getD_none] at hv
    subst hv
    simp [execOp, mt.ev hm, mt.ev hx, Instr.lookup, run_underlying ht, MapKept.run_getObj_map hb', run_checkKey_int hk, Instr.findKey, run_underlying hk, h1, run_zero hz]
theorem al_makeMap {t : TypeId} : AllocE P n L w1 ⟨dd, .makeMap t none, ty, pos, af, g⟩ (fun b => .map (some b)) (.map #[] 0) := fun a w mt _ => by
  simp [execOp, Instr.makeMap]
theorem mapRd_nil (k : IntKind) : mapRd k #[] fun _ => none := ⟨fun x h => by simp at h, fun i v h => by simp at h, by simp⟩
theorem turn_map {X : List Nat} {w0 w : World} {I0 I : Hp} {M R : List Item} {b : Nat} {o o' : Obj} (st : St X w0 I0 w I M) (h : Pick M (.blk b o) R) :
    St X w0 I0 { w with heap := w.heap.setIfInBounds b o' } I (.blk b o' :: R) := by
  have s := st.pick h
  have hs : w.heap[b]? = some o := s.sat _ (.head _)
  refine s.turn rfl rfl rfl (by simp) (fun k _ hk => ?_) (by show (w.heap.setIfInBounds b o')[b]? = _; simp [hp_some (w := w) hs]) (fun k hk => .inl hk)
  have : b ≠ k := fun e => hk (by simp [Item.block, e])
  show (w.heap.setIfInBounds b o')[k]? = _
  rw [Array.getElem?_setIfInBounds_ne this]
/-- m[k] = v -/
theorem s_mapUpdate {m x y : Operand} {t kt et : TypeId} {b : Nat} {es : Array MapEntry} {clock : Nat} {k : IntKind} {i : Int} {f : Int → Option Value} {v : Value} (mt : Mt n a L) (st : St X w0 I0 w I M) (hm : ev L m = some (.map (some b))) (hx : ev L x = some (.int k i)) (hy : ev L y = some v) (ht : P.underlying t = some (.map kt et)) (hk : P.underlying kt = some (.int k))
    [h : PickB M b (.map es clock) R] (hr : mapRd k es f)
    (K : ∀ w' es' clock', mapRd k es' (fun j => if j = i then some v else f j) → St X w0 I0 w' I (.blk b (.map es' clock') :: R) → wpList P ops Q rest a w') : wpList P ops Q (⟨none, .mapUpdate t m x y, ty, pos, af, none⟩ :: rest) a w := by
  refine wpList_plain rfl fun K' hK => ?_
  have hb' : w.heap[b]? = some (.map es clock) := st.sat _ h.pick.mem
  have hkeys : ∀ x ∈ es.toList, ∃ m, x.key = .int k m := fun x hx => let ⟨i, h, _⟩ := hr.at_ x hx; ⟨i, h⟩
  rcases findNow_int rfl i es.toList 0 hkeys with ⟨q, e, h1, h2, h3, _, h5⟩ | ⟨h1, h2⟩
  · have hq : es.toList[q]? = some e := by simpa using h5
    have hqa : es[q]? = some e := by simpa using hq
    have hstay : (Instr.keyThatStays e.key (.int k i)).run P w = .ok (.int k i) w := by
      rw [h3]; exact MapKept.run_keyThatStays (d := .int k) (k := .int k i) rfl
    have hstay' : (Instr.keyThatStays (.int k i) (.int k i)).run P w = .ok (.int k i) w := by
      exact MapKept.run_keyThatStays (d := .int k) (k := .int k i) rfl
    have hrun : (execOp a.eval ⟨none, .mapUpdate t m x y, ty, pos, af, none⟩).run P w = .ok .skip { w with heap := w.heap.setIfInBounds b (.map (es.modify q fun e => { e with key := .int k i, val := v }) clock) } := by
      have := mt.ev hm
      have := mt.ev hx
      have := mt.ev hy
      simp [execOp, Instr.mapUpdate, run_underlying ht, MapKept.run_getObj_map hb', run_checkKey_int hk, Instr.findKey, run_underlying hk, h1, hqa, h3, hstay', MapKept.run_setObj_map _ hb', *]
    unfold Oper.wp
    rw [hrun]
    have hkeys' : ((es.modify q fun e => { e with key := .int k i, val := v }).toList.map (·.key)) = es.toList.map (·.key) :=
      MapKept.modify_keys q _ fun e' he' => by rw [hqa] at he'; obtain rfl := Option.some.inj he'; exact h3.symm
    have hget : ∀ p z, (es.modify q fun e => { e with key := .int k i, val := v }).toList[p]? = some z → (p = q ∧ z = { e with key := .int k i, val := v }) ∨ (p ≠ q ∧ es.toList[p]? = some z) := by
      intro p z hz
      simp only [Array.getElem?_toList, Array.getElem?_modify] at hz
      by_cases hpq : q = p
      · subst hpq
        rw [if_pos rfl, hqa] at hz
        simp at hz
        exact .inl ⟨rfl, hz.symm⟩
      · rw [if_neg hpq] at hz
        exact .inr ⟨fun e => hpq e.symm, by simpa using hz⟩
    refine hK _ _ (K _ _ _ ⟨fun z hz => ?_, fun j u hju => ?_, by rw [hkeys']; exact hr.nd⟩ (turn_map st h.pick))
    · obtain ⟨p, hp⟩ := List.getElem?_of_mem hz
      rcases hget p z hp with ⟨rfl, rfl⟩ | ⟨hpq, hp'⟩
      · exact ⟨i, rfl, by simp⟩
      · obtain ⟨j, hj, hf⟩ := hr.at_ z (List.mem_of_getElem? hp')
        refine ⟨j, hj, ?_⟩
        have hji : j ≠ i := by
          rintro rfl
          have h6 : (es.toList.map (·.key))[p]? = some (.int k j) := by simp [hp', hj]
          have h7 : (es.toList.map (·.key))[q]? = some (.int k j) := by simp [hq, h3]
          have hpl := (List.getElem?_eq_some_iff.1 h6).1
          exact hpq ((List.getElem?_inj hpl hr.nd).1 (h6.trans h7.symm))
        simp [hji, hf]
    · by_cases hji : j = i
      · subst hji
        simp at hju
        subst hju
        refine ⟨{ e with key := .int k j, val := v }, ?_, rfl, rfl⟩
        refine List.mem_of_getElem? (i := q) ?_
        simp [Array.getElem?_modify, hqa]
      · simp [hji] at hju
        obtain ⟨z, hz, hzk, hzv⟩ := hr.of_ j u hju
        obtain ⟨p, hp⟩ := List.getElem?_of_mem hz
        refine ⟨z, List.mem_of_getElem? (i := p) ?_, hzk, hzv⟩
        have hpq : q ≠ p := by
          rintro rfl
          rw [hq] at hp
          obtain rfl := Option.some.inj hp
          rw [h3] at hzk
          injection hzk with _ hzk
          exact hji hzk.symm
        simp only [Array.getElem?_toList, Array.getElem?_modify]
        rw [if_neg hpq]; simpa using hp
  · have hrun : (execOp a.eval ⟨none, .mapUpdate t m x y, ty, pos, af, none⟩).run P w = .ok .skip { w with heap := w.heap.setIfInBounds b (.map (es.push { key := .int k i, val := v, born := clock }) (clock + 1)) } := by
      have := mt.ev hm
      have := mt.ev hx
      have := mt.ev hy
      simp [execOp, Instr.mapUpdate, run_underlying ht, MapKept.run_getObj_map hb', run_checkKey_int hk, Instr.findKey, run_underlying hk, h1, MapKept.run_setObj_map _ hb', *]
    unfold Oper.wp
    rw [hrun]
    refine hK _ _ (K _ _ _ ⟨fun z hz => ?_, fun j u hju => ?_, ?_⟩ (turn_map st h.pick))
    · simp only [Array.toList_push, List.mem_append, List.mem_singleton] at hz
      rcases hz with hz | rfl
      · obtain ⟨j, hj, hf⟩ := hr.at_ z hz
        refine ⟨j, hj, ?_⟩
        have hji : j ≠ i := by rintro rfl; exact h2 z hz hj
        simp [hji, hf]
      · exact ⟨i, rfl, by simp⟩
    · by_cases hji : j = i
      · subst hji
        simp at hju
        subst hju
        exact ⟨{ key := .int k j, val := v, born := clock }, by simp, rfl, rfl⟩
      · simp [hji] at hju
        obtain ⟨z, hz, hzk, hzv⟩ := hr.of_ j u hju
        exact ⟨z, by simp [hz], hzk, hzv⟩
    · simp only [Array.toList_push, List.map_append, List.map_cons, List.map_nil]
      rw [List.nodup_append]
      refine ⟨hr.nd, by simp, fun x hx y hy => ?_⟩
      obtain ⟨z, hz, rfl⟩ := List.mem_map.1 hx
      simp at hy
      subst hy
      exact h2 z hz
/-- a method called on an interface value -/
theorem s_invoke {x : Operand} {t : TypeId} {u : Value} {name : String} {f : FuncId} {xs : Array Operand} {ts : Array TypeId} {vs : List Value} {Φ : Value → World → Prop} (mt : Mt n a L) (hm : methB P t name f = true) (hf : callB P f = true) (hr : ev L x = some (.iface t u)) (hx : xs.toList.map (ev L) = vs.map some) (hc : CallsX P f (u :: vs).toArray w Φ) (hd : Nat.blt d n = true)
    (k : ∀ a' w' v, Mt n a' ((d, v) :: L) → Below w.heap.size w w' → Φ v w' → wpList P ops Q rest a' w') :
    wpList P ops Q (⟨some d, .call { callee := .invoke x name, args := xs, argTypes := ts }, ty, pos, af, none⟩ :: rest) a w := by
  refine wpList_plain rfl fun K hK => ?_
  unfold Oper.wp
  have : (execOp a.eval ⟨some d, .call { callee := .invoke x name, args := xs, argTypes := ts }, ty, pos, af, none⟩).run P w = .ok (.enter f (u :: vs).toArray) w := by
    simp [execOp, resolve, mt.ev hr, invoke, evs_arr mt xs vs hx, run_invoke hm hf]
  rw [this]
  refine Calls.mono hc fun e w' ⟨v, he, hb, hΦ⟩ => ?_
  subst he
  exact hK _ _ (k _ _ _ (mt.put d _ hd) hb hΦ)
theorem mo_invokev {i : Nat} {B : List (Nat × Value)} {acc : Acc} {x : Operand} {t : TypeId} {u : Value} {name : String} {f : FuncId} {xs : Array Operand} {ts : Array TypeId} {vs : List Value} {v : Value} (hm : methB P t name f = true) (hf : callB P f = true)
    (hr : ev (app (knownA (depsOf ⟨some d, .call { callee := .invoke x name, args := xs, argTypes := ts }, ty, pos, af, none⟩) acc) B) x = some (.iface t u))
    (hx : xs.toList.map (ev (app (knownA (depsOf ⟨some d, .call { callee := .invoke x name, args := xs, argTypes := ts }, ty, pos, af, none⟩) acc) B)) = vs.map some)
    (hc : ∀ w, Below w1.heap.size w1 w → CallsX P f (u :: vs).toArray w fun u _ => u = v)
    (k : MonoL P ops Q n w1 B (i + 1) rest ((i, d, .ex v) :: acc)) : MonoL P ops Q n w1 B i (⟨some d, .call { callee := .invoke x name, args := xs, argTypes := ts }, ty, pos, af, none⟩ :: rest) acc :=
  ⟨.ex v, trivial, fun a w mt pr hb K hK => by
    unfold stepO
    rw [if_pos (by simp [Region.wanted])]
    unfold Oper.wp
    have : (execOp a.eval ⟨some d, .call { callee := .invoke x name, args := xs, argTypes := ts }, ty, pos, af, none⟩).run P w = .ok (.enter f (u :: vs).toArray) w := by
      simp [execOp, resolve, mt.ev hr, invoke, evs_arr mt xs vs hx, run_invoke hm hf]
    rw [this]
    refine Calls.mono (hc w hb) fun e w' ⟨y, he, hb', hu⟩ => ?_
    subst he; subst hu
    exact hK _ w' hb' rfl, k⟩
end
end Go.Proofs.YtoilfakpgcjjpaaDoor.Eng
namespace Go.Proofs.YtoilfakpgcjjpaaDoor.K
open Go Go.Proofs.YtoilfakpgcjjpaaDoor
set_option maxRecDepth 100000
theorem mixed : Tryd.prog.follows .mixedOrders = true := by kernel_rfl
theorem sc3 : Eng.scalB Tryd.prog 3 = true := by kernel_rfl
theorem sz3 : (Tryd.prog.info? 3).map (·.size) = some 1 := by kernel_rfl
theorem un3 : Tryd.prog.underlying 3 = some (.int .i64) := by kernel_rfl
theorem sc4 : Eng.scalB Tryd.prog 4 = true := by kernel_rfl
theorem sz4 : (Tryd.prog.info? 4).map (·.size) = some 1 := by kernel_rfl
theorem un4 : Tryd.prog.underlying 4 = some .bool := by kernel_rfl
theorem ze4 : Eng.zeroB Tryd.prog 4 = some (.bool false) := by kernel_rfl
theorem sc5 : Eng.scalB Tryd.prog 5 = true := by kernel_rfl
theorem un5 : Tryd.prog.underlying 5 = some (.int .u8) := by kernel_rfl
theorem sc9 : Eng.scalB Tryd.prog 9 = true := by kernel_rfl
theorem sz9 : (Tryd.prog.info? 9).map (·.size) = some 1 := by kernel_rfl
theorem un9 : Tryd.prog.underlying 9 = some .string := by kernel_rfl
theorem if20 : Eng.ifaceB Tryd.prog 20 = true := by kernel_rfl
theorem sc23 : Eng.scalB Tryd.prog 23 = true := by kernel_rfl
theorem sz23 : (Tryd.prog.info? 23).map (·.size) = some 1 := by kernel_rfl
theorem ze23 : Eng.zeroB Tryd.prog 23 = some (.int .i64 0) := by kernel_rfl
theorem un37 : Tryd.prog.underlying 37 = some (.slice 5) := by kernel_rfl
theorem el37 : Eng.Elt Tryd.prog 37 5 1 1 (.int .u8 0) := ⟨un37, by kernel_rfl⟩
theorem sz39 : (Tryd.prog.info? 39).map (·.size) = some 10 := by kernel_rfl
theorem un39 : Tryd.prog.underlying 39 = some (.array 10 9) := by kernel_rfl
theorem ze39 : Eng.zeroB Tryd.prog 39 = some (.agg #[.string ByteArray.empty, .string ByteArray.empty, .string ByteArray.empty, .string ByteArray.empty, .string ByteArray.empty, .string ByteArray.empty, .string ByteArray.empty, .string ByteArray.empty, .string ByteArray.empty, .string ByteArray.empty]) := by kernel_rfl
theorem sz40 : (Tryd.prog.info? 40).map (·.size) = some 6 := by kernel_rfl
theorem un40 : Tryd.prog.underlying 40 = some (.array 6 9) := by kernel_rfl
theorem ze40 : Eng.zeroB Tryd.prog 40 = some (.agg #[.string ByteArray.empty, .string ByteArray.empty, .string ByteArray.empty, .string ByteArray.empty, .string ByteArray.empty, .string ByteArray.empty]) := by kernel_rfl
theorem sc41 : Eng.scalB Tryd.prog 41 = true := by kernel_rfl
theorem sz41 : (Tryd.prog.info? 41).map (·.size) = some 1 := by kernel_rfl
theorem un41 : Tryd.prog.underlying 41 = some (.slice 42) := by kernel_rfl
theorem el41 : Eng.Elt Tryd.prog 41 42 1 24 (.slice none 0 0) := ⟨un41, by kernel_rfl⟩
theorem sc42 : Eng.scalB Tryd.prog 42 = true := by kernel_rfl
theorem sz42 : (Tryd.prog.info? 42).map (·.size) = some 1 := by kernel_rfl
theorem un42 : Tryd.prog.underlying 42 = some (.slice 3) := by kernel_rfl
theorem el42 : Eng.Elt Tryd.prog 42 3 1 8 (.int .i64 0) := ⟨un42, by kernel_rfl⟩
theorem ag44 : Eng.aggB Tryd.prog 44 2 = true := by kernel_rfl
theorem sz44 : (Tryd.prog.info? 44).map (·.size) = some 2 := by kernel_rfl
theorem fl44_0 : Eng.fldB Tryd.prog 44 0 0 = true := by kernel_rfl
theorem fl44_1 : Eng.fldB Tryd.prog 44 1 1 = true := by kernel_rfl
theorem pl44 : Eng.placesOf Tryd.prog 44 = some [(0, 1), (1, 1)] := by kernel_rfl
theorem ze44 : Eng.zeroB Tryd.prog 44 = some (.agg #[.slice none 0 0, .slice none 0 0]) := by kernel_rfl
theorem sc49 : Eng.scalB Tryd.prog 49 = true := by kernel_rfl
theorem sz49 : (Tryd.prog.info? 49).map (·.size) = some 1 := by kernel_rfl
theorem un49 : Tryd.prog.underlying 49 = some (.slice 4) := by kernel_rfl
theorem el49 : Eng.Elt Tryd.prog 49 4 1 1 (.bool false) := ⟨un49, by kernel_rfl⟩
theorem ze49 : Eng.zeroB Tryd.prog 49 = some (.slice none 0 0) := by kernel_rfl
theorem sz53 : (Tryd.prog.info? 53).map (·.size) = some 8 := by kernel_rfl
theorem un53 : Tryd.prog.underlying 53 = some (.array 8 4) := by kernel_rfl
theorem ze53 : Eng.zeroB Tryd.prog 53 = some (.agg #[.bool false, .bool false, .bool false, .bool false, .bool false, .bool false, .bool false, .bool false]) := by kernel_rfl
theorem sc54 : Eng.scalB Tryd.prog 54 = true := by kernel_rfl
theorem un54 : Tryd.prog.underlying 54 = some (.slice 60) := by kernel_rfl
theorem el54 : Eng.Elt Tryd.prog 54 60 2 16 (.agg #[.int .i64 0, .int .i64 0]) := ⟨un54, by kernel_rfl⟩
theorem ag56 : Eng.aggB Tryd.prog 56 4 = true := by kernel_rfl
theorem sz56 : (Tryd.prog.info? 56).map (·.size) = some 4 := by kernel_rfl
theorem fl56_0 : Eng.fldB Tryd.prog 56 0 0 = true := by kernel_rfl
theorem fl56_1 : Eng.fldB Tryd.prog 56 1 1 = true := by kernel_rfl
theorem fl56_2 : Eng.fldB Tryd.prog 56 2 2 = true := by kernel_rfl
theorem pl56 : Eng.placesOf Tryd.prog 56 = some [(0, 1), (1, 1), (2, 2)] := by kernel_rfl
theorem ze56 : Eng.zeroB Tryd.prog 56 = some (.agg #[.bool false, .slice none 0 0, .slice none 0 0, .slice none 0 0]) := by kernel_rfl
theorem ag60 : Eng.aggB Tryd.prog 60 2 = true := by kernel_rfl
theorem sz60 : (Tryd.prog.info? 60).map (·.size) = some 2 := by kernel_rfl
theorem fl60_0 : Eng.fldB Tryd.prog 60 0 0 = true := by kernel_rfl
theorem fl60_1 : Eng.fldB Tryd.prog 60 1 1 = true := by kernel_rfl
theorem pl60 : Eng.placesOf Tryd.prog 60 = some [(0, 1), (1, 1)] := by kernel_rfl
theorem ze60 : Eng.zeroB Tryd.prog 60 = some (.agg #[.int .i64 0, .int .i64 0]) := by kernel_rfl
theorem sc66 : Eng.scalB Tryd.prog 66 = true := by kernel_rfl
theorem sz66 : (Tryd.prog.info? 66).map (·.size) = some 1 := by kernel_rfl
theorem if66 : Eng.ifaceB Tryd.prog 66 = true := by kernel_rfl
theorem ze66 : Eng.zeroB Tryd.prog 66 = some (.nilIface) := by kernel_rfl
theorem sz71 : (Tryd.prog.info? 71).map (·.size) = some 0 := by kernel_rfl
theorem pl71 : Eng.placesOf Tryd.prog 71 = some [] := by kernel_rfl
theorem ze71 : Eng.zeroB Tryd.prog 71 = some (.agg #[]) := by kernel_rfl
theorem cc71 : Eng.concB Tryd.prog 71 = true := by kernel_rfl
theorem co71 : Tryd.prog.concrete 71 = true := by kernel_rfl
theorem ag73 : Eng.aggB Tryd.prog 73 2 = true := by kernel_rfl
theorem sz73 : (Tryd.prog.info? 73).map (·.size) = some 2 := by kernel_rfl
theorem fl73_0 : Eng.fldB Tryd.prog 73 0 0 = true := by kernel_rfl
theorem fl73_1 : Eng.fldB Tryd.prog 73 1 1 = true := by kernel_rfl
theorem pl73 : Eng.placesOf Tryd.prog 73 = some [(0, 1), (1, 1)] := by kernel_rfl
theorem ze73 : Eng.zeroB Tryd.prog 73 = some (.agg #[.nilIface, .nilIface]) := by kernel_rfl
theorem cc73 : Eng.concB Tryd.prog 73 = true := by kernel_rfl
theorem co73 : Tryd.prog.concrete 73 = true := by kernel_rfl
theorem un77 : Tryd.prog.underlying 77 = some (.int .u64) := by kernel_rfl
theorem un81 : Tryd.prog.underlying 81 = some (.array 8 53) := by kernel_rfl
theorem ze81 : Eng.zeroB Tryd.prog 81 = some (.agg #[.bool false, .bool false, .bool false, .bool false, .bool false, .bool false, .bool false, .bool false, .bool false, .bool false, .bool false, .bool false, .bool false, .bool false, .bool false, .bool false, .bool false, .bool false, .bool false, .bool false, .bool false, .bool false, .bool false, .bool false, .bool false, .bool false, .bool false, .bool false, .bool false, .bool false, .bool false, .bool false, .bool false, .bool false, .bool false, .bool false, .bool false, .bool false, .bool false, .bool false, .bool false, .bool false, .bool false, .bool false, .bool false, .bool false, .bool false, .bool false, .bool false, .bool false, .bool false, .bool false, .bool false, .bool false, .bool false, .bool false, .bool false, .bool false, .bool false, .bool false, .bool false, .bool false, .bool false, .bool false]) := by kernel_rfl
theorem sc85 : Eng.scalB Tryd.prog 85 = true := by kernel_rfl
theorem sz85 : (Tryd.prog.info? 85).map (·.size) = some 1 := by kernel_rfl
theorem un85 : Tryd.prog.underlying 85 = some (.slice 66) := by kernel_rfl
theorem el85 : Eng.Elt Tryd.prog 85 66 1 16 (.nilIface) := ⟨un85, by kernel_rfl⟩
theorem ag87 : Eng.aggB Tryd.prog 87 2 = true := by kernel_rfl
theorem sz87 : (Tryd.prog.info? 87).map (·.size) = some 2 := by kernel_rfl
theorem fl87_0 : Eng.fldB Tryd.prog 87 0 0 = true := by kernel_rfl
theorem fl87_1 : Eng.fldB Tryd.prog 87 1 1 = true := by kernel_rfl
theorem pl87 : Eng.placesOf Tryd.prog 87 = some [(0, 1), (1, 1)] := by kernel_rfl
theorem ze87 : Eng.zeroB Tryd.prog 87 = some (.agg #[.slice none 0 0, .nilIface]) := by kernel_rfl
theorem sc90 : Eng.scalB Tryd.prog 90 = true := by kernel_rfl
theorem sz90 : (Tryd.prog.info? 90).map (·.size) = some 1 := by kernel_rfl
theorem un90 : Tryd.prog.underlying 90 = some (.slice 9) := by kernel_rfl
theorem el90 : Eng.Elt Tryd.prog 90 9 1 16 (.string ByteArray.empty) := ⟨un90, by kernel_rfl⟩
theorem ag92 : Eng.aggB Tryd.prog 92 2 = true := by kernel_rfl
theorem sz92 : (Tryd.prog.info? 92).map (·.size) = some 2 := by kernel_rfl
theorem fl92_0 : Eng.fldB Tryd.prog 92 0 0 = true := by kernel_rfl
theorem pl92 : Eng.placesOf Tryd.prog 92 = some [(0, 1), (1, 1)] := by kernel_rfl
theorem ze92 : Eng.zeroB Tryd.prog 92 = some (.agg #[.slice none 0 0, .string ByteArray.empty]) := by kernel_rfl
theorem fl98_0 : Eng.fldB Tryd.prog 98 0 0 = true := by kernel_rfl
theorem fl98_1 : Eng.fldB Tryd.prog 98 1 1 = true := by kernel_rfl
theorem pl98 : Eng.placesOf Tryd.prog 98 = some [(0, 1), (1, 1)] := by kernel_rfl
theorem ze98 : Eng.zeroB Tryd.prog 98 = some (.agg #[.string ByteArray.empty, .int .i64 0]) := by kernel_rfl
theorem sc105 : Eng.scalB Tryd.prog 105 = true := by kernel_rfl
theorem sz105 : (Tryd.prog.info? 105).map (·.size) = some 1 := by kernel_rfl
theorem un105 : Tryd.prog.underlying 105 = some (.map 3 4) := by kernel_rfl
theorem ze105 : Eng.zeroB Tryd.prog 105 = some (.map none) := by kernel_rfl
theorem ag109 : Eng.aggB Tryd.prog 109 1 = true := by kernel_rfl
theorem sz109 : (Tryd.prog.info? 109).map (·.size) = some 1 := by kernel_rfl
theorem fl109_0 : Eng.fldB Tryd.prog 109 0 0 = true := by kernel_rfl
theorem pl109 : Eng.placesOf Tryd.prog 109 = some [(0, 1)] := by kernel_rfl
theorem ze109 : Eng.zeroB Tryd.prog 109 = some (.agg #[.int .u8 0]) := by kernel_rfl
theorem cc109 : Eng.concB Tryd.prog 109 = true := by kernel_rfl
theorem co109 : Tryd.prog.concrete 109 = true := by kernel_rfl
theorem sz110 : (Tryd.prog.info? 110).map (·.size) = some 2 := by kernel_rfl
theorem fl110_0 : Eng.fldB Tryd.prog 110 0 0 = true := by kernel_rfl
theorem fl110_1 : Eng.fldB Tryd.prog 110 1 1 = true := by kernel_rfl
theorem pl110 : Eng.placesOf Tryd.prog 110 = some [(0, 1), (1, 1)] := by kernel_rfl
theorem ze110 : Eng.zeroB Tryd.prog 110 = some (.agg #[.nilIface, .nilIface]) := by kernel_rfl
theorem cc110 : Eng.concB Tryd.prog 110 = true := by kernel_rfl
theorem co110 : Tryd.prog.concrete 110 = true := by kernel_rfl
theorem sz111 : (Tryd.prog.info? 111).map (·.size) = some 2 := by kernel_rfl
theorem fl111_0 : Eng.fldB Tryd.prog 111 0 0 = true := by kernel_rfl
theorem fl111_1 : Eng.fldB Tryd.prog 111 1 1 = true := by kernel_rfl
theorem pl111 : Eng.placesOf Tryd.prog 111 = some [(0, 1), (1, 1)] := by kernel_rfl
theorem ze111 : Eng.zeroB Tryd.prog 111 = some (.agg #[.nilIface, .nilIface]) := by kernel_rfl
theorem cc111 : Eng.concB Tryd.prog 111 = true := by kernel_rfl
theorem co111 : Tryd.prog.concrete 111 = true := by kernel_rfl
theorem sc112 : Eng.scalB Tryd.prog 112 = true := by kernel_rfl
theorem sz112 : (Tryd.prog.info? 112).map (·.size) = some 1 := by kernel_rfl
theorem ze112 : Eng.zeroB Tryd.prog 112 = some (.pointer none) := by kernel_rfl
theorem fl114_0 : Eng.fldB Tryd.prog 114 0 0 = true := by kernel_rfl
theorem pl114 : Eng.placesOf Tryd.prog 114 = some [(0, 1)] := by kernel_rfl
theorem ze114 : Eng.zeroB Tryd.prog 114 = some (.agg #[.slice none 0 0]) := by kernel_rfl
theorem sc116 : Eng.scalB Tryd.prog 116 = true := by kernel_rfl
theorem sz116 : (Tryd.prog.info? 116).map (·.size) = some 1 := by kernel_rfl
theorem un116 : Tryd.prog.underlying 116 = some (.slice 119) := by kernel_rfl
theorem el116 : Eng.Elt Tryd.prog 116 119 1 8 (.int .i64 0) := ⟨un116, by kernel_rfl⟩
theorem ze116 : Eng.zeroB Tryd.prog 116 = some (.slice none 0 0) := by kernel_rfl
theorem sc119 : Eng.scalB Tryd.prog 119 = true := by kernel_rfl
theorem sz119 : (Tryd.prog.info? 119).map (·.size) = some 1 := by kernel_rfl
theorem ze119 : Eng.zeroB Tryd.prog 119 = some (.int .i64 0) := by kernel_rfl
theorem un122 : Tryd.prog.underlying 122 = some (.slice 73) := by kernel_rfl
theorem el122 : Eng.Elt Tryd.prog 122 73 2 32 (.agg #[.nilIface, .nilIface]) := ⟨un122, by kernel_rfl⟩
theorem un129 : Tryd.prog.underlying 129 = some (.slice 87) := by kernel_rfl
theorem el129 : Eng.Elt Tryd.prog 129 87 2 40 (.agg #[.slice none 0 0, .nilIface]) := ⟨un129, by kernel_rfl⟩
theorem un133 : Tryd.prog.underlying 133 = some (.slice 92) := by kernel_rfl
theorem sz138 : (Tryd.prog.info? 138).map (·.size) = some 1 := by kernel_rfl
theorem fl138_0 : Eng.fldB Tryd.prog 138 0 0 = true := by kernel_rfl
theorem pl138 : Eng.placesOf Tryd.prog 138 = some [(0, 1)] := by kernel_rfl
theorem ze138 : Eng.zeroB Tryd.prog 138 = some (.agg #[.int .i64 0]) := by kernel_rfl
theorem cc138 : Eng.concB Tryd.prog 138 = true := by kernel_rfl
theorem co138 : Tryd.prog.concrete 138 = true := by kernel_rfl
theorem cb14 : Eng.callB Tryd.prog 14 = true := by kernel_rfl
theorem cb15 : Eng.callB Tryd.prog 15 = true := by kernel_rfl
theorem cb16 : Eng.callB Tryd.prog 16 = true := by kernel_rfl
theorem cb17 : Eng.callB Tryd.prog 17 = true := by kernel_rfl
theorem cb18 : Eng.callB Tryd.prog 18 = true := by kernel_rfl
theorem cb19 : Eng.callB Tryd.prog 19 = true := by kernel_rfl
theorem cb20 : Eng.callB Tryd.prog 20 = true := by kernel_rfl
theorem cb21 : Eng.callB Tryd.prog 21 = true := by kernel_rfl
theorem cb22 : Eng.callB Tryd.prog 22 = true := by kernel_rfl
theorem cb23 : Eng.callB Tryd.prog 23 = true := by kernel_rfl
theorem cb24 : Eng.callB Tryd.prog 24 = true := by kernel_rfl
theorem cb25 : Eng.callB Tryd.prog 25 = true := by kernel_rfl
theorem cb26 : Eng.callB Tryd.prog 26 = true := by kernel_rfl
theorem cb27 : Eng.callB Tryd.prog 27 = true := by kernel_rfl
theorem cb28 : Eng.callB Tryd.prog 28 = true := by kernel_rfl
theorem cb29 : Eng.callB Tryd.prog 29 = true := by kernel_rfl
theorem cb30 : Eng.callB Tryd.prog 30 = true := by kernel_rfl
theorem cb36 : Eng.callB Tryd.prog 36 = true := by kernel_rfl
theorem cb37 : Eng.callB Tryd.prog 37 = true := by kernel_rfl
theorem cb38 : Eng.callB Tryd.prog 38 = true := by kernel_rfl
theorem cb39 : Eng.callB Tryd.prog 39 = true := by kernel_rfl
theorem cb40 : Eng.callB Tryd.prog 40 = true := by kernel_rfl
theorem cb41 : Eng.callB Tryd.prog 41 = true := by kernel_rfl
theorem cb42 : Eng.callB Tryd.prog 42 = true := by kernel_rfl
theorem cb43 : Eng.callB Tryd.prog 43 = true := by kernel_rfl
theorem cb44 : Eng.callB Tryd.prog 44 = true := by kernel_rfl
theorem cb45 : Eng.callB Tryd.prog 45 = true := by kernel_rfl
theorem cb46 : Eng.callB Tryd.prog 46 = true := by kernel_rfl
theorem cb48 : Eng.callB Tryd.prog 48 = true := by kernel_rfl
theorem cb50 : Eng.callB Tryd.prog 50 = true := by kernel_rfl
theorem cb51 : Eng.callB Tryd.prog 51 = true := by kernel_rfl
theorem cb52 : Eng.callB Tryd.prog 52 = true := by kernel_rfl
theorem cb53 : Eng.callB Tryd.prog 53 = true := by kernel_rfl
theorem cb54 : Eng.callB Tryd.prog 54 = true := by kernel_rfl
theorem cb55 : Eng.callB Tryd.prog 55 = true := by kernel_rfl
theorem cb56 : Eng.callB Tryd.prog 56 = true := by kernel_rfl
theorem cb57 : Eng.callB Tryd.prog 57 = true := by kernel_rfl
theorem cb58 : Eng.callB Tryd.prog 58 = true := by kernel_rfl
theorem cb59 : Eng.callB Tryd.prog 59 = true := by kernel_rfl
theorem cb60 : Eng.callB Tryd.prog 60 = true := by kernel_rfl
theorem cb61 : Eng.callB Tryd.prog 61 = true := by kernel_rfl
theorem cb62 : Eng.callB Tryd.prog 62 = true := by kernel_rfl
theorem cb63 : Eng.callB Tryd.prog 63 = true := by kernel_rfl
theorem cb64 : Eng.callB Tryd.prog 64 = true := by kernel_rfl
theorem cb65 : Eng.callB Tryd.prog 65 = true := by kernel_rfl
theorem cb66 : Eng.callB Tryd.prog 66 = true := by kernel_rfl
theorem cb67 : Eng.callB Tryd.prog 67 = true := by kernel_rfl
theorem cb68 : Eng.callB Tryd.prog 68 = true := by kernel_rfl
theorem cb69 : Eng.callB Tryd.prog 69 = true := by kernel_rfl
theorem cb70 : Eng.callB Tryd.prog 70 = true := by kernel_rfl
theorem cb71 : Eng.callB Tryd.prog 71 = true := by kernel_rfl
theorem cb74 : Eng.callB Tryd.prog 74 = true := by kernel_rfl
theorem cb75 : Eng.callB Tryd.prog 75 = true := by kernel_rfl
theorem cb76 : Eng.callB Tryd.prog 76 = true := by kernel_rfl
theorem cb77 : Eng.callB Tryd.prog 77 = true := by kernel_rfl
theorem cb78 : Eng.callB Tryd.prog 78 = true := by kernel_rfl
theorem cb79 : Eng.callB Tryd.prog 79 = true := by kernel_rfl
theorem cb80 : Eng.callB Tryd.prog 80 = true := by kernel_rfl
theorem cb81 : Eng.callB Tryd.prog 81 = true := by kernel_rfl
theorem cb82 : Eng.callB Tryd.prog 82 = true := by kernel_rfl
theorem cb83 : Eng.callB Tryd.prog 83 = true := by kernel_rfl
theorem cb84 : Eng.callB Tryd.prog 84 = true := by kernel_rfl
theorem cb85 : Eng.callB Tryd.prog 85 = true := by kernel_rfl
theorem cb86 : Eng.callB Tryd.prog 86 = true := by kernel_rfl
theorem cb87 : Eng.callB Tryd.prog 87 = true := by kernel_rfl
theorem cb90 : Eng.callB Tryd.prog 90 = true := by kernel_rfl
theorem cb91 : Eng.callB Tryd.prog 91 = true := by kernel_rfl
theorem cb92 : Eng.callB Tryd.prog 92 = true := by kernel_rfl
theorem cb93 : Eng.callB Tryd.prog 93 = true := by kernel_rfl
theorem cb95 : Eng.callB Tryd.prog 95 = true := by kernel_rfl
theorem cb96 : Eng.callB Tryd.prog 96 = true := by kernel_rfl
theorem cb97 : Eng.callB Tryd.prog 97 = true := by kernel_rfl
theorem cb113 : Eng.callB Tryd.prog 113 = true := by kernel_rfl
theorem cb114 : Eng.callB Tryd.prog 114 = true := by kernel_rfl
theorem cb115 : Eng.callB Tryd.prog 115 = true := by kernel_rfl
theorem cb116 : Eng.callB Tryd.prog 116 = true := by kernel_rfl
end Go.Proofs.YtoilfakpgcjjpaaDoor.K
namespace Go.Proofs.YtoilfakpgcjjpaaDoor.Log
open Go Go.RowKit Go.Proofs.YtoilfakpgcjjpaaDoor Go.Proofs.YtoilfakpgcjjpaaDoor.Eng
set_option linter.unusedVariables false
set_option linter.unusedSimpArgs false
set_option maxRecDepth 100000
inductive Fm where
  | fls
  | atm (c : Nat)
  | and (a b : Fm)
  | or (a b : Fm)
  | imp (a b : Fm)
  deriving DecidableEq
def Fm.depth : Fm → Nat
  | .fls => 0
  | .atm _ => 0
  | .and a b => max a.depth b.depth + 1
  | .or a b => max a.depth b.depth + 1
  | .imp a b => max a.depth b.depth + 1
def enc : Fm → Value
  | .fls => .iface 71 (.agg #[])
  | .atm c => .iface 109 (.agg #[.int .u8 c])
  | .and a b => .iface 110 (.agg #[enc a, enc b])
  | .or a b => .iface 111 (.agg #[enc a, enc b])
  | .imp a b => .iface 73 (.agg #[enc a, enc b])
theorem enc_one (x : Fm) : (enc x).oneCell' = true := by cases x <;> rfl
theorem hs_fls : Tryd.prog.stoodInHeld 71 = false := by kernel_rfl
theorem hs_atm : Tryd.prog.stoodInHeld 109 = false := by kernel_rfl
theorem hs_and : Tryd.prog.stoodInHeld 110 = false := by kernel_rfl
theorem hs_or : Tryd.prog.stoodInHeld 111 = false := by kernel_rfl
theorem hs_imp : Tryd.prog.stoodInHeld 73 = false := by kernel_rfl
theorem cmp_fls : (Tryd.prog.info? 71).map (·.comparable) = some true := by kernel_rfl
theorem cmp_atm : (Tryd.prog.info? 109).map (·.comparable) = some true := by kernel_rfl
theorem cmp_and : (Tryd.prog.info? 110).map (·.comparable) = some true := by kernel_rfl
theorem cmp_or : (Tryd.prog.info? 111).map (·.comparable) = some true := by kernel_rfl
theorem cmp_imp : (Tryd.prog.info? 73).map (·.comparable) = some true := by kernel_rfl
/-- a struct type's fields, name, type and offset -/
def flds (P : Program) (t : TypeId) : Option (List (String × TypeId × Nat)) := match P.underlying t with
  | some (.struct fs) => some (fs.toList.map fun f => (f.name, f.type, f.offset))
  | _ => none
theorem fs_fls : flds Tryd.prog 71 = some [] := by kernel_rfl
theorem fs_atm : flds Tryd.prog 109 = some [("name", 5, 0)] := by kernel_rfl
theorem fs_and : flds Tryd.prog 110 = some [("a", 66, 0), ("b", 66, 1)] := by kernel_rfl
theorem fs_or : flds Tryd.prog 111 = some [("a", 66, 0), ("b", 66, 1)] := by kernel_rfl
theorem fs_imp : flds Tryd.prog 73 = some [("a", 66, 0), ("b", 66, 1)] := by kernel_rfl
theorem run_part {P : Program} {w : World} {t : TypeId} {cs : Array Value} {o : Nat} {v : Value} (hs : scalB P t = true) (h : cs[o]? = some v) : (part t cs o).run P w = .ok v w := by
  unfold scalB at hs
  cases hu : P.underlying t with
  | none => simp [hu] at hs
  | some td => cases td <;> simp [hu] at hs <;> simp [part, isAgg, run_underlying hu, h]
theorem len_two {α : Type} {l : List α} (h : l.length = 2) : ∃ a b, l = [a, b] := by
  cases l with
  | nil => simp at h
  | cons a l => cases l with
    | nil => simp at h
    | cons b l => cases l with
      | nil => exact ⟨a, b, rfl⟩
      | cons c l => simp at h
theorem node_und : ∃ ms, Tryd.prog.underlying 66 = some (.interface ms) := ⟨_, Tryd.underlying66⟩
theorem eq_iface_ne (d : Nat) (t u : TypeId) (x y : Value) (h : t ≠ u) (w : World) : (Op.equalIn (d + 1) 66 (.iface t x) (.iface u y)).run Tryd.prog w = .ok false w := by
  obtain ⟨ms, hu⟩ := node_und
  simp [Op.equalIn, run_underlying hu, h]
theorem eq_iface (d : Nat) (t : TypeId) (x y : Value) (hc : (Tryd.prog.info? t).map (·.comparable) = some true) (w : World) : (Op.equalIn (d + 1) 66 (.iface t x) (.iface t y)).run Tryd.prog w = (Op.equalIn d t x y).run Tryd.prog w := by
  obtain ⟨ms, hu⟩ := node_und
  cases hi : Tryd.prog.info? t with
  | none => simp [hi] at hc
  | some i => simp [hi] at hc; simp [Op.equalIn, run_underlying hu, typeInfo, hi, hc]
theorem eq_fields (d : Nat) (t : TypeId) (xs ys : Array Value) (fs : List (String × TypeId × Nat)) (hf : flds Tryd.prog t = some fs) (hs : Tryd.prog.stoodInHeld t = false) (w : World) :
    ∃ gs : List Field, gs.map (fun f => (f.name, f.type, f.offset)) = fs ∧ (Op.equalIn (d + 1) t (.agg xs) (.agg ys)).run Tryd.prog w = (Op.eqFields d xs ys gs).run Tryd.prog w := by
  unfold flds at hf
  cases hu : Tryd.prog.underlying t with
  | none => simp [hu] at hf
  | some td =>
    cases td <;> simp [hu] at hf
    rename_i gs
    refine ⟨gs.toList, hf, ?_⟩
    have he : Tryd.prog.fieldsOf t = gs := by simp [Program.fieldsOf, hu]
    rw [run_equalIn_struct w d t xs ys (by rw [he]; exact hu) hs, he]
theorem eq_two (d : Nat) (t : TypeId) (a b x y : Value) (p q : Bool) (hf : flds Tryd.prog t = some [("a", 66, 0), ("b", 66, 1)]) (hs : Tryd.prog.stoodInHeld t = false) (w : World)
    (h1 : (Op.equalIn d 66 a x).run Tryd.prog w = .ok p w) (h2 : (Op.equalIn d 66 b y).run Tryd.prog w = .ok q w) : (Op.equalIn (d + 1) t (.agg #[a, b]) (.agg #[x, y])).run Tryd.prog w = .ok (p && q) w := by
  obtain ⟨gs, hg, hr⟩ := eq_fields d t #[a, b] #[x, y] _ hf hs w
  rw [hr]
  have hl : gs.length = 2 := by simpa using congrArg List.length hg
  obtain ⟨f1, f2, rfl⟩ := len_two hl
  · simp only [List.map_cons, List.map_nil, List.cons.injEq, Prod.mk.injEq, and_true] at hg
    obtain ⟨⟨n1, t1, o1⟩, n2, t2, o2⟩ := hg
    simp only [Op.eqFields, n1, n2, t1, t2, o1, o2]
    simp only [ne_eq, String.reduceEq, not_false_eq_true, if_true, Sem.run_bind, run_part K.sc66 (cs := #[a, b]) (o := 0) (v := a) rfl, run_part K.sc66 (cs := #[x, y]) (o := 0) (v := x) rfl, run_part K.sc66 (cs := #[a, b]) (o := 1) (v := b) rfl, run_part K.sc66 (cs := #[x, y]) (o := 1) (v := y) rfl, Result.andThen_ok, h1]
    cases p
    · simp
    · simp [run_part K.sc66 (cs := #[a, b]) (o := 1) (v := b) rfl, run_part K.sc66 (cs := #[x, y]) (o := 1) (v := y) rfl, h2]
      cases q <;> simp
theorem eqNode : ∀ (x y : Fm) (d : Nat) (w : World), 2 * x.depth + 3 ≤ d → (Op.equalIn d 66 (enc x) (enc y)).run Tryd.prog w = .ok (decide (x = y)) w := by
  intro x
  have two : ∀ (t : TypeId) (a b : Fm), (∀ (y : Fm) (d : Nat) (w : World), 2 * a.depth + 3 ≤ d → (Op.equalIn d 66 (enc a) (enc y)).run Tryd.prog w = .ok (decide (a = y)) w) →
      (∀ (y : Fm) (d : Nat) (w : World), 2 * b.depth + 3 ≤ d → (Op.equalIn d 66 (enc b) (enc y)).run Tryd.prog w = .ok (decide (b = y)) w) →
      flds Tryd.prog t = some [("a", 66, 0), ("b", 66, 1)] → Tryd.prog.stoodInHeld t = false → (Tryd.prog.info? t).map (·.comparable) = some true →
      ∀ (c e : Fm) (d : Nat) (w : World), 2 * (max a.depth b.depth + 1) + 3 ≤ d → (Op.equalIn d 66 (.iface t (.agg #[enc a, enc b])) (.iface t (.agg #[enc c, enc e]))).run Tryd.prog w = .ok (decide (a = c ∧ b = e)) w := by
    intro t a b iha ihb hf hs hc c e d w hd
    obtain ⟨d, rfl⟩ : ∃ k, d = k + 2 := ⟨d - 2, by omega⟩
    rw [eq_iface _ _ _ _ hc, eq_two d t _ _ _ _ _ _ hf hs w (iha c d w (by omega)) (ihb e d w (by omega))]
    congr 1
    rw [Bool.eq_iff_iff]; simp
  induction x with
  | fls =>
    intro y d w hd
    obtain ⟨d, rfl⟩ : ∃ k, d = k + 2 := ⟨d - 2, by omega⟩
    cases y with
    | fls =>
      rw [enc, eq_iface _ _ _ _ cmp_fls]
      obtain ⟨gs, hg, hr⟩ := eq_fields d 71 #[] #[] _ fs_fls hs_fls w
      rw [hr]
      have : gs = [] := by simpa using hg
      subst this
      simp [Op.eqFields]
    | atm c => rw [enc, enc, eq_iface_ne _ _ _ _ _ (by decide)]; simp
    | and a b => rw [enc, enc, eq_iface_ne _ _ _ _ _ (by decide)]; simp
    | or a b => rw [enc, enc, eq_iface_ne _ _ _ _ _ (by decide)]; simp
    | imp a b => rw [enc, enc, eq_iface_ne _ _ _ _ _ (by decide)]; simp
  | atm c =>
    intro y d w hd
    obtain ⟨d, rfl⟩ : ∃ k, d = k + 3 := ⟨d - 3, by omega⟩
    cases y with
    | atm e =>
      rw [enc, enc, eq_iface _ _ _ _ cmp_atm]
      obtain ⟨gs, hg, hr⟩ := eq_fields (d + 1) 109 #[.int .u8 c] #[.int .u8 e] _ fs_atm hs_atm w
      rw [hr]
      have hl : gs.length = 1 := by simpa using congrArg List.length hg
      obtain ⟨f1, rfl⟩ := List.length_eq_one_iff.1 hl
      · simp only [List.map_cons, List.map_nil, List.cons.injEq, Prod.mk.injEq, and_true] at hg
        obtain ⟨n1, t1, o1⟩ := hg
        simp only [Op.eqFields, n1, t1, o1]
        simp only [ne_eq, String.reduceEq, not_false_eq_true, if_true, Sem.run_bind, run_part K.sc5 (cs := #[Value.int .u8 c]) (o := 0) (v := .int .u8 c) rfl, run_part K.sc5 (cs := #[Value.int .u8 e]) (o := 0) (v := .int .u8 e) rfl, Result.andThen_ok, run_equalIn_int w d _ _ .u8 _ _ K.un5]
        by_cases h : c = e
        · subst h; simp
        · have h' : ((c : Int) == (e : Int)) = false := by rw [beq_eq_false_iff_ne]; omega
          simp [h, h']
    | fls => rw [enc, enc, eq_iface_ne _ _ _ _ _ (by decide)]; simp
    | and a b => rw [enc, enc, eq_iface_ne _ _ _ _ _ (by decide)]; simp
    | or a b => rw [enc, enc, eq_iface_ne _ _ _ _ _ (by decide)]; simp
    | imp a b => rw [enc, enc, eq_iface_ne _ _ _ _ _ (by decide)]; simp
  | and a b iha ihb =>
    intro y d w hd
    obtain ⟨d, rfl⟩ : ∃ k, d = k + 1 := ⟨d - 1, by simp [Fm.depth] at hd; omega⟩
    cases y with
    | and c e => rw [enc, enc, two _ a b iha ihb fs_and hs_and cmp_and c e _ w (by simpa [Fm.depth] using hd)]; simp
    | fls => rw [enc, enc, eq_iface_ne _ _ _ _ _ (by decide)]; simp
    | atm c => rw [enc, enc, eq_iface_ne _ _ _ _ _ (by decide)]; simp
    | or a b => rw [enc, enc, eq_iface_ne _ _ _ _ _ (by decide)]; simp
    | imp a b => rw [enc, enc, eq_iface_ne _ _ _ _ _ (by decide)]; simp
  | or a b iha ihb =>
    intro y d w hd
    obtain ⟨d, rfl⟩ : ∃ k, d = k + 1 := ⟨d - 1, by simp [Fm.depth] at hd; omega⟩
    cases y with
    | or c e => rw [enc, enc, two _ a b iha ihb fs_or hs_or cmp_or c e _ w (by simpa [Fm.depth] using hd)]; simp
    | fls => rw [enc, enc, eq_iface_ne _ _ _ _ _ (by decide)]; simp
    | atm c => rw [enc, enc, eq_iface_ne _ _ _ _ _ (by decide)]; simp
    | and a b => rw [enc, enc, eq_iface_ne _ _ _ _ _ (by decide)]; simp
    | imp a b => rw [enc, enc, eq_iface_ne _ _ _ _ _ (by decide)]; simp
  | imp a b iha ihb =>
    intro y d w hd
    obtain ⟨d, rfl⟩ : ∃ k, d = k + 1 := ⟨d - 1, by simp [Fm.depth] at hd; omega⟩
    cases y with
    | imp c e => rw [enc, enc, two _ a b iha ihb fs_imp hs_imp cmp_imp c e _ w (by simpa [Fm.depth] using hd)]; simp
    | fls => rw [enc, enc, eq_iface_ne _ _ _ _ _ (by decide)]; simp
    | atm c => rw [enc, enc, eq_iface_ne _ _ _ _ _ (by decide)]; simp
    | and a b => rw [enc, enc, eq_iface_ne _ _ _ _ _ (by decide)]; simp
    | or a b => rw [enc, enc, eq_iface_ne _ _ _ _ _ (by decide)]; simp
theorem enc_iface (x : Fm) : ∃ t v, enc x = .iface t v := by cases x <;> exact ⟨_, _, rfl⟩
theorem pu_eql_n {n : Nat} {L : List (Nat × Value)} {w1 : World} {dd : Option Tmp} {ty t : TypeId} {pos : String} {af : Array Edge} {g : Option (Nat × Bool)} {x y : Operand} {a b : Fm} (hd : a.depth ≤ 4000) (hx : ev L x = some (enc a)) (hy : ev L y = some (enc b)) :
    PureE Tryd.prog n L w1 ⟨dd, .binOp .eql 66 x y t, ty, pos, af, g⟩ (.bool (decide (a = b))) := fun act w mt _ => by
  obtain ⟨t1, v1, e1⟩ := enc_iface a
  obtain ⟨t2, v2, e2⟩ := enc_iface b
  have hg : (eqGuard .eql 66 x y (enc a) (enc b)).run Tryd.prog w = .ok () w := by rw [e1, e2]; simp [eqGuard]
  have hb : (binOp .eql 66 (enc a) (enc b)).run Tryd.prog w = .ok (.bool (decide (a = b))) w := by
    have := eqNode a b 10000 w (by omega)
    rw [e1, e2] at this ⊢
    simp only [binOp, Op.equal, Op.maxDepth, Sem.run_bind, this, Result.andThen_ok, Sem.run_pure]
  simp only [execOp, mt.ev hx, mt.ev hy, Sem.run_bind, hg, hb, Result.andThen_ok, Sem.run_pure]
/-- the k-th part of a list of equal parts -/
theorem flat_get {α : Type} (e : α → List Value) (sz : Nat) (he : ∀ x, (e x).length = sz) : ∀ {xs : List α} {k : Nat} {x : α}, xs[k]? = some x → ∀ (j : Nat) (u : Value), (e x)[j]? = some u → (xs.flatMap e)[((k : Nat) : Int).toNat * sz + j]? = some u
  | [], k, x, h, j, u, hu => by simp at h
  | y :: ys, 0, x, h, j, u, hu => by
    simp at h; subst h
    have hj : j < (e y).length := (List.getElem?_eq_some_iff.1 hu).1
    simp only [List.flatMap_cons, Int.toNat_natCast, Nat.zero_mul, Nat.zero_add]
    rw [List.getElem?_append_left hj]; exact hu
  | y :: ys, k + 1, x, h, j, u, hu => by
    have ih := flat_get e sz he (xs := ys) (k := k) (x := x) (by simpa using h) j u hu
    simp only [List.flatMap_cons, Int.toNat_natCast] at ih ⊢
    rw [List.getElem?_append_right (by rw [he, Nat.succ_mul]; omega), he]
    rw [show (k + 1) * sz + j - sz = k * sz + j by rw [Nat.succ_mul]; omega]
    exact ih
theorem indexFunc_int {α : Type} (e : α → Value) (he : ∀ x, (e x).oneCell' = true) (xs : List α) (sv : Value) (w : World) (r : RdS (hp w) sv 1 xs.length (xs.map e)) (F : FuncId) (ca : List Value) (p : α → Bool) (hF : callB Tryd.prog F = true)
    (hf : ∀ x ∈ xs, ∀ w', Below w.heap.size w w' → CallsX Tryd.prog F (e x :: ca).toArray w' fun v _ => v = .bool (p x)) : CallsX Tryd.prog 79 #[sv, .func (.func F) #[] ca.toArray] w fun v _ => v = .int .i64 (idxI p xs) := by
  have st := St.start (w0 := w) (I0 := hp w) (Sub.refl _)
  have hmax := r.max
  unfold maxLen at hmax
  refine CallsX.of (nn := 19) Tryd.func79 rfl rfl rfl (fun a mt => ?_)
  refine w_rs ?_
  refine step_pure mt (pu_assign rfl) rfl (fun a mt => ?_)
  refine w_nil ?_
  refine w_seq ?_
  refine w_rs ?_
  refine step_pure mt (pu_move rfl) rfl (fun a mt => ?_)
  refine step_pure mt (pu_len_r rfl r K.un42) rfl (fun a mt => ?_)
  refine step_pure mt (pu_move rfl) rfl (fun a mt => ?_)
  refine w_nil ?_
  refine w_block ?_
  refine w_loop (ι := Nat) (fun k a w' => k ≤ xs.length ∧ Mt 19 a [(0, sv), (1, .func (.func F) #[] ca.toArray), (7, .int .i64 xs.length), (8, .int .i64 k)] ∧ St [] w (hp w) w' (hp w) [] ∧ ∀ j y, j < k → xs[j]? = some y → p y = false) (fun k => xs.length - k) 0
    ⟨Nat.zero_le _, mt.sub ⟨rfl, rfl, rfl, rfl, trivial⟩, st, fun j y hj => by omega⟩ (fun k a w' hI => ?_)
  obtain ⟨hk, mt, st, hno⟩ := hI
  refine w_rs ?_
  refine step_pure mt (pu_lss rfl rfl) rfl (fun a mt => ?_)
  refine w_nil ?_
  refine w_seq ?_
  refine w_cond mt rfl (fun h => ?_) (fun h => ?_)
  · have hlt : k < xs.length := by omega
    have hx : xs[k]? = some xs[k] := List.getElem?_eq_getElem hlt
    have hm : (xs.map e)[((k : Nat) : Int).toNat]? = some (e xs[k]) := by simp [hlt]
    refine w_skip ?_
    refine x_then_n ?_
    refine w_seq ?_
    refine w_block ?_
    refine w_rs ?_
    refine step_pure mt (pu_move rfl) rfl (fun a mt => ?_)
    refine step_pure mt (pu_assign rfl) rfl (fun a mt => ?_)
    refine w_nil ?_
    refine w_rs ?_
    refine step_pure mt (pu_move rfl) rfl (fun a mt => ?_)
    refine step_pure mt (pu_move rfl) rfl (fun a mt => ?_)
    refine step_pure mt (pu_move rfl) rfl (fun a mt => ?_)
    refine step_pure mt (pu_ia K.el42 (by decide) rfl r rfl (by omega) (by omega)) rfl (fun a mt => ?_)
    refine step_pure mt (pu_loadR st K.sc3 r rfl hm) rfl (fun a mt => ?_)
    refine s_callf mt st hF rfl (vs := [e xs[k]]) (ca := ca) rfl (hf _ (List.getElem_mem hlt) _ st.below) rfl (fun a w' mt st => ?_)
    refine w_nil ?_
    refine w_cond_b mt rfl (fun h => ?_) (fun h => ?_)
    · refine w_rs ?_
      refine step_pure mt (pu_move rfl) rfl (fun a mt => ?_)
      refine step_pure mt (pu_assign rfl) rfl (fun a mt => ?_)
      refine w_nil ?_
      refine w_ret (x_block_ret (x_then_ret (x_then_ret (x_block_ret (x_then_ret ?_)))))
      refine post_ret1 mt rfl rfl ?_
      exact ⟨_, rfl, st.below, by rw [idxI_hit hx h hno]⟩
    · refine w_skip ?_
      refine x_block_n ?_
      refine x_then_n ?_
      refine w_region ?_
      refine step_pure mt (pu_add_i rfl rfl (by omega)) rfl (fun a mt => ?_)
      refine step_pure mt (pu_move rfl) rfl (fun a mt => ?_)
      refine w_nil' ?_
      refine x_then_n ?_
      refine ⟨k + 1, ⟨hlt, mt.sub ⟨rfl, rfl, rfl, rfl, trivial⟩, st, fun j y hj hy => ?_⟩, by omega⟩
      rcases Nat.lt_or_ge j k with h' | h'
      · exact hno j y h' hy
      · obtain rfl : j = k := by omega
        rw [hx] at hy; obtain rfl := Option.some.inj hy; exact h
  · refine w_exit (x_then_exit (x_then_exit (x_block_out ?_)))
    refine x_then_n ?_
    refine w_rs ?_
    refine step_pure mt (pu_assign rfl) rfl (fun a mt => ?_)
    refine w_nil ?_
    refine w_ret ?_
    refine post_ret1 mt rfl rfl ?_
    exact ⟨_, rfl, st.below, by rw [idxI_none fun j y hy => hno j y (by have := (List.getElem?_eq_some_iff.1 hy).1; omega) hy]⟩
theorem indexFunc_theory {α : Type} (e : α → Value) (he : ∀ x, (e x).oneCell' = true) (xs : List α) (sv : Value) (w : World) (r : RdS (hp w) sv 1 xs.length (xs.map e)) (F : FuncId) (ca : List Value) (p : α → Bool) (hF : callB Tryd.prog F = true)
    (hf : ∀ x ∈ xs, ∀ w', Below w.heap.size w w' → CallsX Tryd.prog F (e x :: ca).toArray w' fun v _ => v = .bool (p x)) : CallsX Tryd.prog 62 #[sv, .func (.func F) #[] ca.toArray] w fun v _ => v = .int .i64 (idxI p xs) := by
  have st := St.start (w0 := w) (I0 := hp w) (Sub.refl _)
  have hmax := r.max
  unfold maxLen at hmax
  refine CallsX.of (nn := 19) Tryd.func62 rfl rfl rfl (fun a mt => ?_)
  refine w_rs ?_
  refine step_pure mt (pu_assign rfl) rfl (fun a mt => ?_)
  refine w_nil ?_
  refine w_seq ?_
  refine w_rs ?_
  refine step_pure mt (pu_move rfl) rfl (fun a mt => ?_)
  refine step_pure mt (pu_len_r rfl r K.un116) rfl (fun a mt => ?_)
  refine step_pure mt (pu_move rfl) rfl (fun a mt => ?_)
  refine w_nil ?_
  refine w_block ?_
  refine w_loop (ι := Nat) (fun k a w' => k ≤ xs.length ∧ Mt 19 a [(0, sv), (1, .func (.func F) #[] ca.toArray), (7, .int .i64 xs.length), (8, .int .i64 k)] ∧ St [] w (hp w) w' (hp w) [] ∧ ∀ j y, j < k → xs[j]? = some y → p y = false) (fun k => xs.length - k) 0
    ⟨Nat.zero_le _, mt.sub ⟨rfl, rfl, rfl, rfl, trivial⟩, st, fun j y hj => by omega⟩ (fun k a w' hI => ?_)
  obtain ⟨hk, mt, st, hno⟩ := hI
  refine w_rs ?_
  refine step_pure mt (pu_lss rfl rfl) rfl (fun a mt => ?_)
  refine w_nil ?_
  refine w_seq ?_
  refine w_cond mt rfl (fun h => ?_) (fun h => ?_)
  · have hlt : k < xs.length := by omega
    have hx : xs[k]? = some xs[k] := List.getElem?_eq_getElem hlt
    have hm : (xs.map e)[((k : Nat) : Int).toNat]? = some (e xs[k]) := by simp [hlt]
    refine w_skip ?_
    refine x_then_n ?_
    refine w_seq ?_
    refine w_block ?_
    refine w_rs ?_
    refine step_pure mt (pu_move rfl) rfl (fun a mt => ?_)
    refine step_pure mt (pu_assign rfl) rfl (fun a mt => ?_)
    refine w_nil ?_
    refine w_rs ?_
    refine step_pure mt (pu_move rfl) rfl (fun a mt => ?_)
    refine step_pure mt (pu_move rfl) rfl (fun a mt => ?_)
    refine step_pure mt (pu_move rfl) rfl (fun a mt => ?_)
    refine step_pure mt (pu_ia K.el116 (by decide) rfl r rfl (by omega) (by omega)) rfl (fun a mt => ?_)
    refine step_pure mt (pu_loadR st K.sc119 r rfl hm) rfl (fun a mt => ?_)
    refine s_callf mt st hF rfl (vs := [e xs[k]]) (ca := ca) rfl (hf _ (List.getElem_mem hlt) _ st.below) rfl (fun a w' mt st => ?_)
    refine w_nil ?_
    refine w_cond_b mt rfl (fun h => ?_) (fun h => ?_)
    · refine w_rs ?_
      refine step_pure mt (pu_move rfl) rfl (fun a mt => ?_)
      refine step_pure mt (pu_assign rfl) rfl (fun a mt => ?_)
      refine w_nil ?_
      refine w_ret (x_block_ret (x_then_ret (x_then_ret (x_block_ret (x_then_ret ?_)))))
      refine post_ret1 mt rfl rfl ?_
      exact ⟨_, rfl, st.below, by rw [idxI_hit hx h hno]⟩
    · refine w_skip ?_
      refine x_block_n ?_
      refine x_then_n ?_
      refine w_region ?_
      refine step_pure mt (pu_add_i rfl rfl (by omega)) rfl (fun a mt => ?_)
      refine step_pure mt (pu_move rfl) rfl (fun a mt => ?_)
      refine w_nil' ?_
      refine x_then_n ?_
      refine ⟨k + 1, ⟨hlt, mt.sub ⟨rfl, rfl, rfl, rfl, trivial⟩, st, fun j y hj hy => ?_⟩, by omega⟩
      rcases Nat.lt_or_ge j k with h' | h'
      · exact hno j y h' hy
      · obtain rfl : j = k := by omega
        rw [hx] at hy; obtain rfl := Option.some.inj hy; exact h
  · refine w_exit (x_then_exit (x_then_exit (x_block_out ?_)))
    refine x_then_n ?_
    refine w_rs ?_
    refine step_pure mt (pu_assign rfl) rfl (fun a mt => ?_)
    refine w_nil ?_
    refine w_ret ?_
    refine post_ret1 mt rfl rfl ?_
    exact ⟨_, rfl, st.below, by rw [idxI_none fun j y hy => hno j y (by have := (List.getElem?_eq_some_iff.1 hy).1; omega) hy]⟩
theorem indexFunc_implies {α : Type} (e : α → Value) (he : ∀ x, (e x).cells.size = 2 ∧ e x = .agg (e x).cells) (xs : List α) (sv : Value) (w : World) (r : RdS (hp w) sv 2 xs.length (xs.flatMap fun x => (e x).cells.toList)) (F : FuncId) (ca : List Value) (p : α → Bool) (hF : callB Tryd.prog F = true)
    (hf : ∀ x ∈ xs, ∀ w', Below w.heap.size w w' → CallsX Tryd.prog F (e x :: ca).toArray w' fun v _ => v = .bool (p x)) : CallsX Tryd.prog 91 #[sv, .func (.func F) #[] ca.toArray] w fun v _ => v = .int .i64 (idxI p xs) := by
  have st := St.start (w0 := w) (I0 := hp w) (Sub.refl _)
  have hmax := r.max
  unfold maxLen at hmax
  refine CallsX.of (nn := 19) Tryd.func91 rfl rfl rfl (fun a mt => ?_)
  refine w_rs ?_
  refine step_pure mt (pu_assign rfl) rfl (fun a mt => ?_)
  refine w_nil ?_
  refine w_seq ?_
  refine w_rs ?_
  refine step_pure mt (pu_move rfl) rfl (fun a mt => ?_)
  refine step_pure mt (pu_len_r rfl r K.un122) rfl (fun a mt => ?_)
  refine step_pure mt (pu_move rfl) rfl (fun a mt => ?_)
  refine w_nil ?_
  refine w_block ?_
  refine w_loop (ι := Nat) (fun k a w' => k ≤ xs.length ∧ Mt 19 a [(0, sv), (1, .func (.func F) #[] ca.toArray), (7, .int .i64 xs.length), (8, .int .i64 k)] ∧ St [] w (hp w) w' (hp w) [] ∧ ∀ j y, j < k → xs[j]? = some y → p y = false) (fun k => xs.length - k) 0
    ⟨Nat.zero_le _, mt.sub ⟨rfl, rfl, rfl, rfl, trivial⟩, st, fun j y hj => by omega⟩ (fun k a w' hI => ?_)
  obtain ⟨hk, mt, st, hno⟩ := hI
  refine w_rs ?_
  refine step_pure mt (pu_lss rfl rfl) rfl (fun a mt => ?_)
  refine w_nil ?_
  refine w_seq ?_
  refine w_cond mt rfl (fun h => ?_) (fun h => ?_)
  · have hlt : k < xs.length := by omega
    have hx : xs[k]? = some xs[k] := List.getElem?_eq_getElem hlt
    have hm := flat_get (fun x => (e x).cells.toList) 2 (fun x => by simp [(he x).1]) hx
    refine w_skip ?_
    refine x_then_n ?_
    refine w_seq ?_
    refine w_block ?_
    refine w_rs ?_
    refine step_pure mt (pu_move rfl) rfl (fun a mt => ?_)
    refine step_pure mt (pu_assign rfl) rfl (fun a mt => ?_)
    refine w_nil ?_
    refine w_rs ?_
    refine step_pure mt (pu_move rfl) rfl (fun a mt => ?_)
    refine step_pure mt (pu_move rfl) rfl (fun a mt => ?_)
    refine step_pure mt (pu_move rfl) rfl (fun a mt => ?_)
    refine step_pure mt (pu_ia K.el122 (by decide) rfl r rfl (by omega) (by omega)) rfl (fun a mt => ?_)
    refine step_pure mt ((pu_loadRA st K.ag73 r rfl (us := (e xs[k]).cells.toList) (by simp [(he _).1]) hm).to (v := .agg (e xs[k]).cells.toList.toArray) (u := e xs[k]) (by rw [Array.toArray_toList]; exact (he xs[k]).2.symm)) rfl (fun a mt => ?_)
    refine s_callf mt st hF rfl (vs := [e xs[k]]) (ca := ca) rfl (hf _ (List.getElem_mem hlt) _ st.below) rfl (fun a w' mt st => ?_)
    refine w_nil ?_
    refine w_cond_b mt rfl (fun h => ?_) (fun h => ?_)
    · refine w_rs ?_
      refine step_pure mt (pu_move rfl) rfl (fun a mt => ?_)
      refine step_pure mt (pu_assign rfl) rfl (fun a mt => ?_)
      refine w_nil ?_
      refine w_ret (x_block_ret (x_then_ret (x_then_ret (x_block_ret (x_then_ret ?_)))))
      refine post_ret1 mt rfl rfl ?_
      exact ⟨_, rfl, st.below, by rw [idxI_hit hx h hno]⟩
    · refine w_skip ?_
      refine x_block_n ?_
      refine x_then_n ?_
      refine w_region ?_
      refine step_pure mt (pu_add_i rfl rfl (by omega)) rfl (fun a mt => ?_)
      refine step_pure mt (pu_move rfl) rfl (fun a mt => ?_)
      refine w_nil' ?_
      refine x_then_n ?_
      refine ⟨k + 1, ⟨hlt, mt.sub ⟨rfl, rfl, rfl, rfl, trivial⟩, st, fun j y hj hy => ?_⟩, by omega⟩
      rcases Nat.lt_or_ge j k with h' | h'
      · exact hno j y h' hy
      · obtain rfl : j = k := by omega
        rw [hx] at hy; obtain rfl := Option.some.inj hy; exact h
  · refine w_exit (x_then_exit (x_then_exit (x_block_out ?_)))
    refine x_then_n ?_
    refine w_rs ?_
    refine step_pure mt (pu_assign rfl) rfl (fun a mt => ?_)
    refine w_nil ?_
    refine w_ret ?_
    refine post_ret1 mt rfl rfl ?_
    exact ⟨_, rfl, st.below, by rw [idxI_none fun j y hy => hno j y (by have := (List.getElem?_eq_some_iff.1 hy).1; omega) hy]⟩
theorem index_int (xs : List Int) (x : Int) (sv : Value) (w : World) (r : RdS (hp w) sv 1 xs.length (xs.map (Value.int .i64)))  :
    CallsX Tryd.prog 78 #[sv, (Value.int .i64) x] w fun v _ => v = .int .i64 (idxI (fun y => decide (x = y)) xs) := by
  have st := St.start (w0 := w) (I0 := hp w) (Sub.refl _)
  have hmax := r.max
  unfold maxLen at hmax
  refine CallsX.of (nn := 19) Tryd.func78 rfl rfl rfl (fun a mt => ?_)
  refine w_rs ?_
  refine step_pure mt (pu_assign rfl) rfl (fun a mt => ?_)
  refine w_nil ?_
  refine w_seq ?_
  refine w_rs ?_
  refine step_pure mt (pu_move rfl) rfl (fun a mt => ?_)
  refine step_pure mt (pu_len_r rfl r K.un42) rfl (fun a mt => ?_)
  refine step_pure mt (pu_move rfl) rfl (fun a mt => ?_)
  refine w_nil ?_
  refine w_block ?_
  refine w_loop (ι := Nat) (fun k a w' => k ≤ xs.length ∧ Mt 19 a [(0, sv), (1, (Value.int .i64) x), (7, .int .i64 xs.length), (8, .int .i64 k)] ∧ St [] w (hp w) w' (hp w) [] ∧ ∀ j y, j < k → xs[j]? = some y → decide (x = y) = false) (fun k => xs.length - k) 0
    ⟨Nat.zero_le _, mt.sub ⟨rfl, rfl, rfl, rfl, trivial⟩, st, fun j y hj => by omega⟩ (fun k a w' hI => ?_)
  obtain ⟨hk, mt, st, hno⟩ := hI
  refine w_rs ?_
  refine step_pure mt (pu_lss rfl rfl) rfl (fun a mt => ?_)
  refine w_nil ?_
  refine w_seq ?_
  refine w_cond mt rfl (fun h => ?_) (fun h => ?_)
  · have hlt : k < xs.length := by omega
    have hx : xs[k]? = some xs[k] := List.getElem?_eq_getElem hlt
    have hm : (xs.map (Value.int .i64))[((k : Nat) : Int).toNat]? = some ((Value.int .i64) xs[k]) := by simp [hlt]
    refine w_skip ?_
    refine x_then_n ?_
    refine w_seq ?_
    refine w_block ?_
    refine w_rs ?_
    refine step_pure mt (pu_move rfl) rfl (fun a mt => ?_)
    refine step_pure mt (pu_assign rfl) rfl (fun a mt => ?_)
    refine w_nil ?_
    refine w_rs ?_
    refine step_pure mt (pu_move rfl) rfl (fun a mt => ?_)
    refine step_pure mt (pu_move rfl) rfl (fun a mt => ?_)
    refine step_pure mt (pu_move rfl) rfl (fun a mt => ?_)
    refine step_pure mt (pu_ia K.el42 (by decide) rfl r rfl (by omega) (by omega)) rfl (fun a mt => ?_)
    refine step_pure mt (pu_loadR st K.sc3 r rfl hm) rfl (fun a mt => ?_)
    refine step_pure mt (pu_eql rfl rfl) rfl (fun a mt => ?_)
    refine w_nil ?_
    refine w_cond_b mt rfl (fun h => ?_) (fun h => ?_)
    · refine w_rs ?_
      refine step_pure mt (pu_move rfl) rfl (fun a mt => ?_)
      refine step_pure mt (pu_assign rfl) rfl (fun a mt => ?_)
      refine w_nil ?_
      refine w_ret (x_block_ret (x_then_ret (x_then_ret (x_block_ret (x_then_ret ?_)))))
      refine post_ret1 mt rfl rfl ?_
      exact ⟨_, rfl, st.below, by rw [idxI_hit hx h hno]⟩
    · refine w_skip ?_
      refine x_block_n ?_
      refine x_then_n ?_
      refine w_region ?_
      refine step_pure mt (pu_add_i rfl rfl (by omega)) rfl (fun a mt => ?_)
      refine step_pure mt (pu_move rfl) rfl (fun a mt => ?_)
      refine w_nil' ?_
      refine x_then_n ?_
      refine ⟨k + 1, ⟨hlt, mt.sub ⟨rfl, rfl, rfl, rfl, trivial⟩, st, fun j y hj hy => ?_⟩, by omega⟩
      rcases Nat.lt_or_ge j k with h' | h'
      · exact hno j y h' hy
      · obtain rfl : j = k := by omega
        rw [hx] at hy; obtain rfl := Option.some.inj hy; exact h
  · refine w_exit (x_then_exit (x_then_exit (x_block_out ?_)))
    refine x_then_n ?_
    refine w_rs ?_
    refine step_pure mt (pu_assign rfl) rfl (fun a mt => ?_)
    refine w_nil ?_
    refine w_ret ?_
    refine post_ret1 mt rfl rfl ?_
    exact ⟨_, rfl, st.below, by rw [idxI_none fun j y hy => hno j y (by have := (List.getElem?_eq_some_iff.1 hy).1; omega) hy]⟩
theorem index_theory (xs : List Int) (x : Int) (sv : Value) (w : World) (r : RdS (hp w) sv 1 xs.length (xs.map (Value.int .i64)))  :
    CallsX Tryd.prog 85 #[sv, (Value.int .i64) x] w fun v _ => v = .int .i64 (idxI (fun y => decide (x = y)) xs) := by
  have st := St.start (w0 := w) (I0 := hp w) (Sub.refl _)
  have hmax := r.max
  unfold maxLen at hmax
  refine CallsX.of (nn := 19) Tryd.func85 rfl rfl rfl (fun a mt => ?_)
  refine w_rs ?_
  refine step_pure mt (pu_assign rfl) rfl (fun a mt => ?_)
  refine w_nil ?_
  refine w_seq ?_
  refine w_rs ?_
  refine step_pure mt (pu_move rfl) rfl (fun a mt => ?_)
  refine step_pure mt (pu_len_r rfl r K.un116) rfl (fun a mt => ?_)
  refine step_pure mt (pu_move rfl) rfl (fun a mt => ?_)
  refine w_nil ?_
  refine w_block ?_
  refine w_loop (ι := Nat) (fun k a w' => k ≤ xs.length ∧ Mt 19 a [(0, sv), (1, (Value.int .i64) x), (7, .int .i64 xs.length), (8, .int .i64 k)] ∧ St [] w (hp w) w' (hp w) [] ∧ ∀ j y, j < k → xs[j]? = some y → decide (x = y) = false) (fun k => xs.length - k) 0
    ⟨Nat.zero_le _, mt.sub ⟨rfl, rfl, rfl, rfl, trivial⟩, st, fun j y hj => by omega⟩ (fun k a w' hI => ?_)
  obtain ⟨hk, mt, st, hno⟩ := hI
  refine w_rs ?_
  refine step_pure mt (pu_lss rfl rfl) rfl (fun a mt => ?_)
  refine w_nil ?_
  refine w_seq ?_
  refine w_cond mt rfl (fun h => ?_) (fun h => ?_)
  · have hlt : k < xs.length := by omega
    have hx : xs[k]? = some xs[k] := List.getElem?_eq_getElem hlt
    have hm : (xs.map (Value.int .i64))[((k : Nat) : Int).toNat]? = some ((Value.int .i64) xs[k]) := by simp [hlt]
    refine w_skip ?_
    refine x_then_n ?_
    refine w_seq ?_
    refine w_block ?_
    refine w_rs ?_
    refine step_pure mt (pu_move rfl) rfl (fun a mt => ?_)
    refine step_pure mt (pu_assign rfl) rfl (fun a mt => ?_)
    refine w_nil ?_
    refine w_rs ?_
    refine step_pure mt (pu_move rfl) rfl (fun a mt => ?_)
    refine step_pure mt (pu_move rfl) rfl (fun a mt => ?_)
    refine step_pure mt (pu_move rfl) rfl (fun a mt => ?_)
    refine step_pure mt (pu_ia K.el116 (by decide) rfl r rfl (by omega) (by omega)) rfl (fun a mt => ?_)
    refine step_pure mt (pu_loadR st K.sc119 r rfl hm) rfl (fun a mt => ?_)
    refine step_pure mt (pu_eql rfl rfl) rfl (fun a mt => ?_)
    refine w_nil ?_
    refine w_cond_b mt rfl (fun h => ?_) (fun h => ?_)
    · refine w_rs ?_
      refine step_pure mt (pu_move rfl) rfl (fun a mt => ?_)
      refine step_pure mt (pu_assign rfl) rfl (fun a mt => ?_)
      refine w_nil ?_
      refine w_ret (x_block_ret (x_then_ret (x_then_ret (x_block_ret (x_then_ret ?_)))))
      refine post_ret1 mt rfl rfl ?_
      exact ⟨_, rfl, st.below, by rw [idxI_hit hx h hno]⟩
    · refine w_skip ?_
      refine x_block_n ?_
      refine x_then_n ?_
      refine w_region ?_
      refine step_pure mt (pu_add_i rfl rfl (by omega)) rfl (fun a mt => ?_)
      refine step_pure mt (pu_move rfl) rfl (fun a mt => ?_)
      refine w_nil' ?_
      refine x_then_n ?_
      refine ⟨k + 1, ⟨hlt, mt.sub ⟨rfl, rfl, rfl, rfl, trivial⟩, st, fun j y hj hy => ?_⟩, by omega⟩
      rcases Nat.lt_or_ge j k with h' | h'
      · exact hno j y h' hy
      · obtain rfl : j = k := by omega
        rw [hx] at hy; obtain rfl := Option.some.inj hy; exact h
  · refine w_exit (x_then_exit (x_then_exit (x_block_out ?_)))
    refine x_then_n ?_
    refine w_rs ?_
    refine step_pure mt (pu_assign rfl) rfl (fun a mt => ?_)
    refine w_nil ?_
    refine w_ret ?_
    refine post_ret1 mt rfl rfl ?_
    exact ⟨_, rfl, st.below, by rw [idxI_none fun j y hy => hno j y (by have := (List.getElem?_eq_some_iff.1 hy).1; omega) hy]⟩
theorem index_node (xs : List Fm) (x : Fm) (sv : Value) (w : World) (r : RdS (hp w) sv 1 xs.length (xs.map enc)) (hd : x.depth ≤ 4000) :
    CallsX Tryd.prog 84 #[sv, enc x] w fun v _ => v = .int .i64 (idxI (fun y => decide (x = y)) xs) := by
  have st := St.start (w0 := w) (I0 := hp w) (Sub.refl _)
  have hmax := r.max
  unfold maxLen at hmax
  refine CallsX.of (nn := 19) Tryd.func84 rfl rfl rfl (fun a mt => ?_)
  refine w_rs ?_
  refine step_pure mt (pu_assign rfl) rfl (fun a mt => ?_)
  refine w_nil ?_
  refine w_seq ?_
  refine w_rs ?_
  refine step_pure mt (pu_move rfl) rfl (fun a mt => ?_)
  refine step_pure mt (pu_len_r rfl r K.un85) rfl (fun a mt => ?_)
  refine step_pure mt (pu_move rfl) rfl (fun a mt => ?_)
  refine w_nil ?_
  refine w_block ?_
  refine w_loop (ι := Nat) (fun k a w' => k ≤ xs.length ∧ Mt 19 a [(0, sv), (1, enc x), (7, .int .i64 xs.length), (8, .int .i64 k)] ∧ St [] w (hp w) w' (hp w) [] ∧ ∀ j y, j < k → xs[j]? = some y → decide (x = y) = false) (fun k => xs.length - k) 0
    ⟨Nat.zero_le _, mt.sub ⟨rfl, rfl, rfl, rfl, trivial⟩, st, fun j y hj => by omega⟩ (fun k a w' hI => ?_)
  obtain ⟨hk, mt, st, hno⟩ := hI
  refine w_rs ?_
  refine step_pure mt (pu_lss rfl rfl) rfl (fun a mt => ?_)
  refine w_nil ?_
  refine w_seq ?_
  refine w_cond mt rfl (fun h => ?_) (fun h => ?_)
  · have hlt : k < xs.length := by omega
    have hx : xs[k]? = some xs[k] := List.getElem?_eq_getElem hlt
    have hm : (xs.map enc)[((k : Nat) : Int).toNat]? = some (enc xs[k]) := by simp [hlt]
    refine w_skip ?_
    refine x_then_n ?_
    refine w_seq ?_
    refine w_block ?_
    refine w_rs ?_
    refine step_pure mt (pu_move rfl) rfl (fun a mt => ?_)
    refine step_pure mt (pu_assign rfl) rfl (fun a mt => ?_)
    refine w_nil ?_
    refine w_rs ?_
    refine step_pure mt (pu_move rfl) rfl (fun a mt => ?_)
    refine step_pure mt (pu_move rfl) rfl (fun a mt => ?_)
    refine step_pure mt (pu_move rfl) rfl (fun a mt => ?_)
    refine step_pure mt (pu_ia K.el85 (by decide) rfl r rfl (by omega) (by omega)) rfl (fun a mt => ?_)
    refine step_pure mt (pu_loadR st K.sc66 r rfl hm) rfl (fun a mt => ?_)
    refine step_pure mt (pu_eql_n hd rfl rfl) rfl (fun a mt => ?_)
    refine w_nil ?_
    refine w_cond_b mt rfl (fun h => ?_) (fun h => ?_)
    · refine w_rs ?_
      refine step_pure mt (pu_move rfl) rfl (fun a mt => ?_)
      refine step_pure mt (pu_assign rfl) rfl (fun a mt => ?_)
      refine w_nil ?_
      refine w_ret (x_block_ret (x_then_ret (x_then_ret (x_block_ret (x_then_ret ?_)))))
      refine post_ret1 mt rfl rfl ?_
      exact ⟨_, rfl, st.below, by rw [idxI_hit hx h hno]⟩
    · refine w_skip ?_
      refine x_block_n ?_
      refine x_then_n ?_
      refine w_region ?_
      refine step_pure mt (pu_add_i rfl rfl (by omega)) rfl (fun a mt => ?_)
      refine step_pure mt (pu_move rfl) rfl (fun a mt => ?_)
      refine w_nil' ?_
      refine x_then_n ?_
      refine ⟨k + 1, ⟨hlt, mt.sub ⟨rfl, rfl, rfl, rfl, trivial⟩, st, fun j y hj hy => ?_⟩, by omega⟩
      rcases Nat.lt_or_ge j k with h' | h'
      · exact hno j y h' hy
      · obtain rfl : j = k := by omega
        rw [hx] at hy; obtain rfl := Option.some.inj hy; exact h
  · refine w_exit (x_then_exit (x_then_exit (x_block_out ?_)))
    refine x_then_n ?_
    refine w_rs ?_
    refine step_pure mt (pu_assign rfl) rfl (fun a mt => ?_)
    refine w_nil ?_
    refine w_ret ?_
    refine post_ret1 mt rfl rfl ?_
    exact ⟨_, rfl, st.below, by rw [idxI_none fun j y hy => hno j y (by have := (List.getElem?_eq_some_iff.1 hy).1; omega) hy]⟩
theorem contains_int (xs : List Int) (x : Int) (sv : Value) (w : World) (r : RdS (hp w) sv 1 xs.length (xs.map (Value.int .i64)))  :
    CallsX Tryd.prog 56 #[sv, (Value.int .i64) x] w fun v _ => v = .bool (xs.any fun y => decide (x = y)) := by
  have st := St.start (w0 := w) (I0 := hp w) (Sub.refl _)
  refine CallsX.of (nn := 9) Tryd.func56 rfl rfl rfl (fun a mt => ?_)
  refine w_rs ?_
  refine step_pure mt (pu_assign rfl) rfl (fun a mt => ?_)
  refine w_nil ?_
  refine w_rs ?_
  refine step_pure mt (pu_move rfl) rfl (fun a mt => ?_)
  refine step_pure mt (pu_move rfl) rfl (fun a mt => ?_)
  refine s_callv mt st K.cb78 (vs := [sv, (Value.int .i64) x]) rfl (index_int xs x sv _ r ) rfl (fun a w' mt st => ?_)
  refine step_pure mt ((pu_geq rfl rfl).tob (idxI_ge _ _)) rfl (fun a mt => ?_)
  refine step_pure mt (pu_assign rfl) rfl (fun a mt => ?_)
  refine w_nil ?_
  refine w_ret ?_
  refine post_ret1 mt rfl rfl ?_
  exact ⟨_, rfl, st.below, rfl⟩
theorem contains_theory (xs : List Int) (x : Int) (sv : Value) (w : World) (r : RdS (hp w) sv 1 xs.length (xs.map (Value.int .i64)))  :
    CallsX Tryd.prog 67 #[sv, (Value.int .i64) x] w fun v _ => v = .bool (xs.any fun y => decide (x = y)) := by
  have st := St.start (w0 := w) (I0 := hp w) (Sub.refl _)
  refine CallsX.of (nn := 9) Tryd.func67 rfl rfl rfl (fun a mt => ?_)
  refine w_rs ?_
  refine step_pure mt (pu_assign rfl) rfl (fun a mt => ?_)
  refine w_nil ?_
  refine w_rs ?_
  refine step_pure mt (pu_move rfl) rfl (fun a mt => ?_)
  refine step_pure mt (pu_move rfl) rfl (fun a mt => ?_)
  refine s_callv mt st K.cb85 (vs := [sv, (Value.int .i64) x]) rfl (index_theory xs x sv _ r ) rfl (fun a w' mt st => ?_)
  refine step_pure mt ((pu_geq rfl rfl).tob (idxI_ge _ _)) rfl (fun a mt => ?_)
  refine step_pure mt (pu_assign rfl) rfl (fun a mt => ?_)
  refine w_nil ?_
  refine w_ret ?_
  refine post_ret1 mt rfl rfl ?_
  exact ⟨_, rfl, st.below, rfl⟩
theorem contains_node (xs : List Fm) (x : Fm) (sv : Value) (w : World) (r : RdS (hp w) sv 1 xs.length (xs.map enc)) (hd : x.depth ≤ 4000) :
    CallsX Tryd.prog 80 #[sv, enc x] w fun v _ => v = .bool (xs.any fun y => decide (x = y)) := by
  have st := St.start (w0 := w) (I0 := hp w) (Sub.refl _)
  refine CallsX.of (nn := 9) Tryd.func80 rfl rfl rfl (fun a mt => ?_)
  refine w_rs ?_
  refine step_pure mt (pu_assign rfl) rfl (fun a mt => ?_)
  refine w_nil ?_
  refine w_rs ?_
  refine step_pure mt (pu_move rfl) rfl (fun a mt => ?_)
  refine step_pure mt (pu_move rfl) rfl (fun a mt => ?_)
  refine s_callv mt st K.cb84 (vs := [sv, enc x]) rfl (index_node xs x sv _ r hd) rfl (fun a w' mt st => ?_)
  refine step_pure mt ((pu_geq rfl rfl).tob (idxI_ge _ _)) rfl (fun a mt => ?_)
  refine step_pure mt (pu_assign rfl) rfl (fun a mt => ?_)
  refine w_nil ?_
  refine w_ret ?_
  refine post_ret1 mt rfl rfl ?_
  exact ⟨_, rfl, st.below, rfl⟩
theorem containsFunc_int {α : Type} (e : α → Value) (he : ∀ x, (e x).oneCell' = true) (xs : List α) (sv : Value) (w : World) (r : RdS (hp w) sv 1 xs.length (xs.map e)) (F : FuncId) (ca : List Value) (p : α → Bool) (hF : callB Tryd.prog F = true)
    (hf : ∀ x ∈ xs, ∀ w', Below w.heap.size w w' → CallsX Tryd.prog F (e x :: ca).toArray w' fun v _ => v = .bool (p x)) : CallsX Tryd.prog 57 #[sv, .func (.func F) #[] ca.toArray] w fun v _ => v = .bool (xs.any p) := by
  have st := St.start (w0 := w) (I0 := hp w) (Sub.refl _)
  refine CallsX.of (nn := 9) Tryd.func57 rfl rfl rfl (fun a mt => ?_)
  refine w_rs ?_
  refine step_pure mt (pu_assign rfl) rfl (fun a mt => ?_)
  refine w_nil ?_
  refine w_rs ?_
  refine step_pure mt (pu_move rfl) rfl (fun a mt => ?_)
  refine step_pure mt (pu_move rfl) rfl (fun a mt => ?_)
  refine s_callv mt st K.cb79 (vs := [sv, .func (.func F) #[] ca.toArray]) rfl (indexFunc_int e he xs sv _ r F ca p hF hf) rfl (fun a w' mt st => ?_)
  refine step_pure mt ((pu_geq rfl rfl).tob (idxI_ge _ _)) rfl (fun a mt => ?_)
  refine step_pure mt (pu_assign rfl) rfl (fun a mt => ?_)
  refine w_nil ?_
  refine w_ret ?_
  refine post_ret1 mt rfl rfl ?_
  exact ⟨_, rfl, st.below, rfl⟩
theorem containsFunc_implies {α : Type} (e : α → Value) (he : ∀ x, (e x).cells.size = 2 ∧ e x = .agg (e x).cells) (xs : List α) (sv : Value) (w : World) (r : RdS (hp w) sv 2 xs.length (xs.flatMap fun x => (e x).cells.toList)) (F : FuncId) (ca : List Value) (p : α → Bool) (hF : callB Tryd.prog F = true)
    (hf : ∀ x ∈ xs, ∀ w', Below w.heap.size w w' → CallsX Tryd.prog F (e x :: ca).toArray w' fun v _ => v = .bool (p x)) : CallsX Tryd.prog 83 #[sv, .func (.func F) #[] ca.toArray] w fun v _ => v = .bool (xs.any p) := by
  have st := St.start (w0 := w) (I0 := hp w) (Sub.refl _)
  refine CallsX.of (nn := 9) Tryd.func83 rfl rfl rfl (fun a mt => ?_)
  refine w_rs ?_
  refine step_pure mt (pu_assign rfl) rfl (fun a mt => ?_)
  refine w_nil ?_
  refine w_rs ?_
  refine step_pure mt (pu_move rfl) rfl (fun a mt => ?_)
  refine step_pure mt (pu_move rfl) rfl (fun a mt => ?_)
  refine s_callv mt st K.cb91 (vs := [sv, .func (.func F) #[] ca.toArray]) rfl (indexFunc_implies e he xs sv _ r F ca p hF hf) rfl (fun a w' mt st => ?_)
  refine step_pure mt ((pu_geq rfl rfl).tob (idxI_ge _ _)) rfl (fun a mt => ?_)
  refine step_pure mt (pu_assign rfl) rfl (fun a mt => ?_)
  refine w_nil ?_
  refine w_ret ?_
  refine post_ret1 mt rfl rfl ?_
  exact ⟨_, rfl, st.below, rfl⟩
end Go.Proofs.YtoilfakpgcjjpaaDoor.Log
namespace Go.Proofs.YtoilfakpgcjjpaaDoor.Eng
open Go Go.RowKit
set_option linter.unusedVariables false
set_option linter.unusedSimpArgs false
/-- the parts of a literal, all given and in order -/
def evSeq (L : List (Nat × Value)) : Nat → List (Nat × Operand) → Option (List Value)
  | _, [] => some []
  | i, (j, x) :: ps => match Nat.beq i j, ev L x, evSeq L (i + 1) ps with
    | true, some v, some vs => some (v :: vs)
    | _, _, _ => none
def enumV : Nat → List Value → List (Nat × Value)
  | _, [] => []
  | i, v :: vs => (i, v) :: enumV (i + 1) vs
theorem evSeq_parts {L : List (Nat × Value)} : ∀ {ps : List (Nat × Operand)} {i : Nat} {vs : List Value}, evSeq L i ps = some vs → evParts L ps = some (enumV i vs)
  | [], i, vs, h => by simp [evSeq] at h; subst h; rfl
  | (j, x) :: ps, i, vs, h => by
    simp only [evSeq] at h
    cases hb : Nat.beq i j with
    | false => simp [hb] at h
    | true =>
      have := Nat.eq_of_beq_eq_true hb
      subst this
      cases hx : ev L x with
      | none => simp [hb, hx] at h
      | some v =>
        cases hr : evSeq L (i + 1) ps with
        | none => simp [hb, hx, hr] at h
        | some us =>
          simp only [hb, hx, hr, Option.some.injEq] at h
          subst h
          simp [evParts, hx, evSeq_parts hr, enumV]
theorem fold_set (o : Nat) : ∀ (cs : List Value) (k : Nat) (arr : List Value), o + k + cs.length ≤ arr.length →
    ((cs.zipIdx k).foldl (fun (acc : Array Value) (x : Value × Nat) => acc.setIfInBounds (o + x.2) x.1) arr.toArray) = (arr.take (o + k) ++ cs ++ arr.drop (o + k + cs.length)).toArray
  | [], k, arr, h => by simp
  | c :: cs, k, arr, h => by
    simp only [List.zipIdx_cons, List.foldl_cons]
    have e : arr.toArray.setIfInBounds (o + k) c = (arr.set (o + k) c).toArray := by apply Array.ext'; simp
    rw [e, fold_set o cs (k + 1) (arr.set (o + k) c) (by simp at h ⊢; omega)]
    have := list_seg_step arr (o + k) c cs (by simp at h ⊢; omega)
    congr 1
theorem fill_flat (sz : Nat) : ∀ (vs : List Value) (i : Nat) (pre post : List Value), (∀ v ∈ vs, v.cells.size = sz) → pre.length = i * sz → post.length = vs.length * sz →
    Instr.fill (fun i => some (i * sz, sz)) (pre ++ post).toArray (enumV i vs) = some (pre ++ vs.flatMap fun v => v.cells.toList).toArray
  | [], i, pre, post, _, hp, hq => by
    have : post = [] := List.eq_nil_of_length_eq_zero (by simpa using hq)
    subst this
    simp [enumV, Instr.fill]
  | v :: vs, i, pre, post, hv, hp, hq => by
    have h1 := hv v (.head _)
    have hl : v.cells.toList.length = sz := by simpa using h1
    simp only [enumV, Instr.fill]
    have hle : i * sz + sz ≤ (pre ++ post).length := by rw [List.length_append, hp, hq, List.length_cons, Nat.succ_mul]; omega
    rw [if_neg (by simp only [h1, ne_eq, not_true, decide_false, Bool.false_or, decide_eq_true_eq, List.size_toArray]; omega)]
    have hf := fold_set (i * sz) v.cells.toList 0 (pre ++ post) (by rw [hl]; omega)
    have e0 : v.cells.zipIdx.foldl (fun (cs : Array Value) (x : Value × Nat) => cs.setIfInBounds (i * sz + x.2) x.1) (pre ++ post).toArray = (v.cells.toList.zipIdx.foldl (fun (acc : Array Value) (x : Value × Nat) => acc.setIfInBounds (i * sz + x.2) x.1) (pre ++ post).toArray) := by
      rw [← Array.foldl_toList]; simp
    have e1 : (pre ++ post).take (i * sz + 0) = pre := by rw [Nat.add_zero, ← hp]; exact List.take_left
    have e2 : (pre ++ post).drop (i * sz + 0 + v.cells.toList.length) = post.drop sz := by
      rw [Nat.add_zero, hl, ← hp, ← List.drop_drop, List.drop_left]
    rw [e1, e2] at hf
    refine Eq.trans (congrArg (fun z => Instr.fill _ z _) (e0.trans hf)) ?_
    rw [fill_flat sz vs (i + 1) (pre ++ v.cells.toList) (post.drop sz) (fun u hu => hv u (.tail _ hu)) (by rw [List.length_append, hp, hl, Nat.succ_mul]) (by rw [List.length_drop, hq, List.length_cons, Nat.succ_mul]; omega)]
    simp
section
variable {P : Program} {w1 : World} {n : Nat} {L : List (Nat × Value)} {ty : TypeId} {pos : String} {af : Array Edge} {g : Option (Nat × Bool)} {dd : Option Tmp}
theorem al_lit {t e : TypeId} {sz by_ m : Nat} {z : Value} {ps : Array (Nat × Operand)} {vs : List Value} (he : Elt P t e sz by_ z) (hsz : z.cells.size = sz) (hnz : 0 < sz) (hps : evSeq L 0 ps.toList = some vs) (hm : vs.length = m) (hmn : 0 < m) (hmm : m * sz ≤ 2 ^ 24) (hv : ∀ v ∈ vs, v.cells.size = sz) :
    AllocE P n L w1 ⟨dd, .buildSlice t m ps, ty, pos, af, g⟩ (fun b => .slice (some ⟨b, 0, none⟩) m m) (.cells (vs.flatMap fun v => v.cells.toList).toArray e (0, 0)) := by
  subst hm
  have hnz' : vs.length * sz ≠ 0 := Nat.pos_iff_ne_zero.1 (Nat.mul_pos hmn hnz)
  refine al_bslice he rfl hmm (evSeq_parts hps) ?_ hnz'
  have := fill_flat sz vs 0 [] ((Array.range (vs.length * sz)).map (z.cells[· % z.cells.size]!)).toList hv (by simp) (by simp)
  simp only [List.nil_append, Array.toArray_toList] at this
  exact this
/-- one-cell elements -/
theorem al_lit1 {t e : TypeId} {by_ m : Nat} {z : Value} {ps : Array (Nat × Operand)} {vs : List Value} (he : Elt P t e 1 by_ z) (hsz : z.cells.size = 1) (hps : evSeq L 0 ps.toList = some vs) (hm : vs.length = m) (hmn : Nat.blt 0 m = true) (hmm : Nat.ble m (2 ^ 24) = true) (hv : ∀ v ∈ vs, v.oneCell' = true) :
    AllocE P n L w1 ⟨dd, .buildSlice t m ps, ty, pos, af, g⟩ (fun b => .slice (some ⟨b, 0, none⟩) m m) (.cells vs.toArray e (0, 0)) := by
  have := al_lit (w1 := w1) (n := n) (L := L) (dd := dd) (ty := ty) (pos := pos) (af := af) (g := g) he hsz (by decide) hps hm (Nat.le_of_ble_eq_true hmn) (by rw [Nat.mul_one]; exact Nat.le_of_ble_eq_true hmm) (fun v hv' => by rw [one_cells (hv v hv')]; rfl)
  have e : (vs.flatMap fun v => v.cells.toList) = vs := by
    clear this hps hm
    induction vs with
    | nil => rfl
    | cons v vs ih => simp [one_cells (hv v (.head _)), ih (fun u hu => hv u (.tail _ hu))]
  rwa [e] at this
end
end Go.Proofs.YtoilfakpgcjjpaaDoor.Eng
namespace Go.Proofs.YtoilfakpgcjjpaaDoor.Log
open Go Go.RowKit Go.Proofs.YtoilfakpgcjjpaaDoor Go.Proofs.YtoilfakpgcjjpaaDoor.Eng
set_option linter.unusedVariables false
set_option linter.unusedSimpArgs false
set_option maxRecDepth 100000
def sidesV : Fm → Value
  | .fls => .tuple #[.nilIface, .nilIface]
  | .atm _ => .tuple #[.nilIface, .nilIface]
  | .and a b => .tuple #[enc a, enc b]
  | .or a b => .tuple #[enc a, enc b]
  | .imp a b => .tuple #[enc a, enc b]
theorem sides_ok (x : Fm) (w : World) : CallsX Tryd.prog 54 #[enc x] w fun v _ => v = sidesV x := by
  have st := St.start (w0 := w) (I0 := hp w) (Sub.refl _)
  cases x with
  | fls =>
    refine CallsX.of (nn := 29) Tryd.func54 rfl rfl rfl (fun a mt => ?_)
    refine w_rs ?_
    refine step_pure mt (pu_assign rfl) rfl (fun a mt => ?_)
    refine step_pure mt (pu_assign rfl) rfl (fun a mt => ?_)
    refine w_nil ?_
    refine w_seq ?_
    refine w_rs ?_
    refine step_pure mt (pu_move rfl) rfl (fun a mt => ?_)
    refine w_nil ?_
    refine w_block ?_
    refine w_rs ?_
    refine step_pure mt (pu_assert_no K.cc110 rfl rfl K.ze110) rfl (fun a mt => ?_)
    refine step_pure mt (pu_extract rfl rfl) rfl (fun a mt => ?_)
    refine step_pure mt (pu_extract rfl rfl) rfl (fun a mt => ?_)
    refine w_nil ?_
    refine w_false mt rfl ?_
    refine w_rs ?_
    refine step_pure mt (pu_assert_no K.cc111 rfl rfl K.ze111) rfl (fun a mt => ?_)
    refine step_pure mt (pu_extract rfl rfl) rfl (fun a mt => ?_)
    refine step_pure mt (pu_extract rfl rfl) rfl (fun a mt => ?_)
    refine w_nil ?_
    refine w_false mt rfl ?_
    refine w_rs ?_
    refine step_pure mt (pu_assert_no K.cc73 rfl rfl K.ze73) rfl (fun a mt => ?_)
    refine step_pure mt (pu_extract rfl rfl) rfl (fun a mt => ?_)
    refine step_pure mt (pu_extract rfl rfl) rfl (fun a mt => ?_)
    refine w_nil ?_
    refine w_false mt rfl ?_
    refine w_skip ?_
    refine x_block_n ?_
    refine x_then_n ?_
    refine w_rs ?_
    refine step_pure mt (pu_assign rfl) rfl (fun a mt => ?_)
    refine step_pure mt (pu_assign rfl) rfl (fun a mt => ?_)
    refine w_nil ?_
    refine w_ret ?_
    refine post_ret2 mt rfl rfl rfl ?_
    exact ⟨_, rfl, st.below, rfl⟩
  | atm c =>
    refine CallsX.of (nn := 29) Tryd.func54 rfl rfl rfl (fun a mt => ?_)
    refine w_rs ?_
    refine step_pure mt (pu_assign rfl) rfl (fun a mt => ?_)
    refine step_pure mt (pu_assign rfl) rfl (fun a mt => ?_)
    refine w_nil ?_
    refine w_seq ?_
    refine w_rs ?_
    refine step_pure mt (pu_move rfl) rfl (fun a mt => ?_)
    refine w_nil ?_
    refine w_block ?_
    refine w_rs ?_
    refine step_pure mt (pu_assert_no K.cc110 rfl rfl K.ze110) rfl (fun a mt => ?_)
    refine step_pure mt (pu_extract rfl rfl) rfl (fun a mt => ?_)
    refine step_pure mt (pu_extract rfl rfl) rfl (fun a mt => ?_)
    refine w_nil ?_
    refine w_false mt rfl ?_
    refine w_rs ?_
    refine step_pure mt (pu_assert_no K.cc111 rfl rfl K.ze111) rfl (fun a mt => ?_)
    refine step_pure mt (pu_extract rfl rfl) rfl (fun a mt => ?_)
    refine step_pure mt (pu_extract rfl rfl) rfl (fun a mt => ?_)
    refine w_nil ?_
    refine w_false mt rfl ?_
    refine w_rs ?_
    refine step_pure mt (pu_assert_no K.cc73 rfl rfl K.ze73) rfl (fun a mt => ?_)
    refine step_pure mt (pu_extract rfl rfl) rfl (fun a mt => ?_)
    refine step_pure mt (pu_extract rfl rfl) rfl (fun a mt => ?_)
    refine w_nil ?_
    refine w_false mt rfl ?_
    refine w_skip ?_
    refine x_block_n ?_
    refine x_then_n ?_
    refine w_rs ?_
    refine step_pure mt (pu_assign rfl) rfl (fun a mt => ?_)
    refine step_pure mt (pu_assign rfl) rfl (fun a mt => ?_)
    refine w_nil ?_
    refine w_ret ?_
    refine post_ret2 mt rfl rfl rfl ?_
    exact ⟨_, rfl, st.below, rfl⟩
  | and x y =>
    refine CallsX.of (nn := 29) Tryd.func54 rfl rfl rfl (fun a mt => ?_)
    refine w_rs ?_
    refine step_pure mt (pu_assign rfl) rfl (fun a mt => ?_)
    refine step_pure mt (pu_assign rfl) rfl (fun a mt => ?_)
    refine w_nil ?_
    refine w_seq ?_
    refine w_rs ?_
    refine step_pure mt (pu_move rfl) rfl (fun a mt => ?_)
    refine w_nil ?_
    refine w_block ?_
    refine w_rs ?_
    refine step_pure mt (pu_assert_yes K.cc110 rfl) rfl (fun a mt => ?_)
    refine step_pure mt (pu_extract rfl rfl) rfl (fun a mt => ?_)
    refine step_pure mt (pu_extract rfl rfl) rfl (fun a mt => ?_)
    refine w_nil ?_
    refine w_true mt rfl ?_
    refine w_rs ?_
    refine step_alloc mt st (al_alloc K.ze110 rfl) rfl (fun a w b4 mt st => ?_)
    refine s_storeA mt st K.sz110 rfl rfl rfl (by simp [enc_one]) rfl rfl (fun w st => ?_)
    refine w_nil ?_
    refine w_drs K.mixed rfl mt ?_
    refine mo_pure (pu_fld 0 K.fl110_0 rfl) ?_
    refine mo_pure (pu_loadM st K.sc66 rfl rfl) ?_
    refine mo_pure (pu_fld 1 K.fl110_1 rfl) ?_
    refine mo_pure (pu_loadM st K.sc66 rfl rfl) ?_
    refine mo_pure (pu_assign rfl) ?_
    refine mo_pure (pu_assign rfl) ?_
    refine mo_end (fun a w mt pr hb => ?_)
    replace st := st.ext hb
    refine w_ret (x_block_ret (x_then_ret ?_))
    refine post_ret2 mt rfl rfl rfl ?_
    exact ⟨_, rfl, st.below, rfl⟩
  | or x y =>
    refine CallsX.of (nn := 29) Tryd.func54 rfl rfl rfl (fun a mt => ?_)
    refine w_rs ?_
    refine step_pure mt (pu_assign rfl) rfl (fun a mt => ?_)
    refine step_pure mt (pu_assign rfl) rfl (fun a mt => ?_)
    refine w_nil ?_
    refine w_seq ?_
    refine w_rs ?_
    refine step_pure mt (pu_move rfl) rfl (fun a mt => ?_)
    refine w_nil ?_
    refine w_block ?_
    refine w_rs ?_
    refine step_pure mt (pu_assert_no K.cc110 rfl rfl K.ze110) rfl (fun a mt => ?_)
    refine step_pure mt (pu_extract rfl rfl) rfl (fun a mt => ?_)
    refine step_pure mt (pu_extract rfl rfl) rfl (fun a mt => ?_)
    refine w_nil ?_
    refine w_false mt rfl ?_
    refine w_rs ?_
    refine step_pure mt (pu_assert_yes K.cc111 rfl) rfl (fun a mt => ?_)
    refine step_pure mt (pu_extract rfl rfl) rfl (fun a mt => ?_)
    refine step_pure mt (pu_extract rfl rfl) rfl (fun a mt => ?_)
    refine w_nil ?_
    refine w_true mt rfl ?_
    refine w_rs ?_
    refine step_alloc mt st (al_alloc K.ze111 rfl) rfl (fun a w b5 mt st => ?_)
    refine s_storeA mt st K.sz111 rfl rfl rfl (by simp [enc_one]) rfl rfl (fun w st => ?_)
    refine w_nil ?_
    refine w_drs K.mixed rfl mt ?_
    refine mo_pure (pu_fld 0 K.fl111_0 rfl) ?_
    refine mo_pure (pu_loadM st K.sc66 rfl rfl) ?_
    refine mo_pure (pu_fld 1 K.fl111_1 rfl) ?_
    refine mo_pure (pu_loadM st K.sc66 rfl rfl) ?_
    refine mo_pure (pu_assign rfl) ?_
    refine mo_pure (pu_assign rfl) ?_
    refine mo_end (fun a w mt pr hb => ?_)
    replace st := st.ext hb
    refine w_ret (x_block_ret (x_then_ret ?_))
    refine post_ret2 mt rfl rfl rfl ?_
    exact ⟨_, rfl, st.below, rfl⟩
  | imp x y =>
    refine CallsX.of (nn := 29) Tryd.func54 rfl rfl rfl (fun a mt => ?_)
    refine w_rs ?_
    refine step_pure mt (pu_assign rfl) rfl (fun a mt => ?_)
    refine step_pure mt (pu_assign rfl) rfl (fun a mt => ?_)
    refine w_nil ?_
    refine w_seq ?_
    refine w_rs ?_
    refine step_pure mt (pu_move rfl) rfl (fun a mt => ?_)
    refine w_nil ?_
    refine w_block ?_
    refine w_rs ?_
    refine step_pure mt (pu_assert_no K.cc110 rfl rfl K.ze110) rfl (fun a mt => ?_)
    refine step_pure mt (pu_extract rfl rfl) rfl (fun a mt => ?_)
    refine step_pure mt (pu_extract rfl rfl) rfl (fun a mt => ?_)
    refine w_nil ?_
    refine w_false mt rfl ?_
    refine w_rs ?_
    refine step_pure mt (pu_assert_no K.cc111 rfl rfl K.ze111) rfl (fun a mt => ?_)
    refine step_pure mt (pu_extract rfl rfl) rfl (fun a mt => ?_)
    refine step_pure mt (pu_extract rfl rfl) rfl (fun a mt => ?_)
    refine w_nil ?_
    refine w_false mt rfl ?_
    refine w_rs ?_
    refine step_pure mt (pu_assert_yes K.cc73 rfl) rfl (fun a mt => ?_)
    refine step_pure mt (pu_extract rfl rfl) rfl (fun a mt => ?_)
    refine step_pure mt (pu_extract rfl rfl) rfl (fun a mt => ?_)
    refine w_nil ?_
    refine w_true mt rfl ?_
    refine w_rs ?_
    refine step_alloc mt st (al_alloc K.ze73 rfl) rfl (fun a w b6 mt st => ?_)
    refine s_storeA mt st K.sz73 rfl rfl rfl (by simp [enc_one]) rfl rfl (fun w st => ?_)
    refine w_nil ?_
    refine w_drs K.mixed rfl mt ?_
    refine mo_pure (pu_fld 0 K.fl73_0 rfl) ?_
    refine mo_pure (pu_loadM st K.sc66 rfl rfl) ?_
    refine mo_pure (pu_fld 1 K.fl73_1 rfl) ?_
    refine mo_pure (pu_loadM st K.sc66 rfl rfl) ?_
    refine mo_pure (pu_assign rfl) ?_
    refine mo_pure (pu_assign rfl) ?_
    refine mo_end (fun a w mt pr hb => ?_)
    replace st := st.ext hb
    refine w_ret (x_block_ret (x_then_ret ?_))
    refine post_ret2 mt rfl rfl rfl ?_
    exact ⟨_, rfl, st.below, rfl⟩
def parts : Fm → Nat
  | .fls => 1
  | .atm _ => 1
  | .and a b => 1 + parts a + parts b
  | .or a b => 1 + parts a + parts b
  | .imp a b => 1 + parts a + parts b
theorem size_ok : ∀ (x : Fm) (w : World), parts x ≤ 1000000 → CallsX Tryd.prog 38 #[enc x] w fun v _ => v = .int .i64 (parts x) := by
  have leaf : ∀ (x : Fm) (w : World), sidesV x = .tuple #[.nilIface, .nilIface] → CallsX Tryd.prog 38 #[enc x] w fun v _ => v = .int .i64 1 := by
    intro x w hx
    have st := St.start (w0 := w) (I0 := hp w) (Sub.refl _)
    refine CallsX.of (nn := 18) Tryd.func38 rfl rfl rfl (fun a mt => ?_)
    refine w_rs ?_
    refine step_pure mt (pu_assign rfl) rfl (fun a mt => ?_)
    refine w_nil ?_
    refine w_rs ?_
    refine step_pure mt (pu_move rfl) rfl (fun a mt => ?_)
    refine s_callv mt st K.cb54 (vs := [enc x]) rfl ((sides_ok x _).mono fun v _ _ h => h.trans hx) rfl (fun a w mt st => ?_)
    refine step_pure mt (pu_move rfl) rfl (fun a mt => ?_)
    refine step_pure mt (pu_extract rfl rfl) rfl (fun a mt => ?_)
    refine step_pure mt (pu_extract rfl rfl) rfl (fun a mt => ?_)
    refine step_pure mt (pu_assign rfl) rfl (fun a mt => ?_)
    refine step_pure mt (pu_assign rfl) rfl (fun a mt => ?_)
    refine w_nil ?_
    refine w_seq ?_
    refine w_rs ?_
    refine step_pure mt (pu_move rfl) rfl (fun a mt => ?_)
    refine step_pure mt (pu_eql_nilnil K.if66 rfl) rfl (fun a mt => ?_)
    refine w_nil ?_
    refine w_true mt rfl ?_
    refine w_rs ?_
    refine step_pure mt (pu_assign rfl) rfl (fun a mt => ?_)
    refine w_nil ?_
    refine w_ret (x_then_ret ?_)
    refine post_ret1 mt rfl rfl ?_
    exact ⟨_, rfl, st.below, rfl⟩
  have two : ∀ (x p q : Fm) (w : World), sidesV x = .tuple #[enc p, enc q] → parts p + parts q ≤ 1000000 → (∀ w, CallsX Tryd.prog 38 #[enc p] w fun v _ => v = .int .i64 (parts p)) → (∀ w, CallsX Tryd.prog 38 #[enc q] w fun v _ => v = .int .i64 (parts q)) →
      CallsX Tryd.prog 38 #[enc x] w fun v _ => v = .int .i64 (1 + parts p + parts q) := by
    intro x p q w hx hle hp' hq
    obtain ⟨tp, vp, ep⟩ := enc_iface p
    have st := St.start (w0 := w) (I0 := hp w) (Sub.refl _)
    refine CallsX.of (nn := 18) Tryd.func38 rfl rfl rfl (fun a mt => ?_)
    refine w_rs ?_
    refine step_pure mt (pu_assign rfl) rfl (fun a mt => ?_)
    refine w_nil ?_
    refine w_rs ?_
    refine step_pure mt (pu_move rfl) rfl (fun a mt => ?_)
    refine s_callv mt st K.cb54 (vs := [enc x]) rfl ((sides_ok x _).mono fun v _ _ h => h.trans hx) rfl (fun a w mt st => ?_)
    refine step_pure mt (pu_move rfl) rfl (fun a mt => ?_)
    refine step_pure mt (pu_extract rfl rfl) rfl (fun a mt => ?_)
    refine step_pure mt (pu_extract rfl rfl) rfl (fun a mt => ?_)
    refine step_pure mt (pu_assign rfl) rfl (fun a mt => ?_)
    refine step_pure mt (pu_assign rfl) rfl (fun a mt => ?_)
    refine w_nil ?_
    refine w_seq ?_
    refine w_rs ?_
    refine step_pure mt ((pu_move rfl).to ep) rfl (fun a mt => ?_)
    refine step_pure mt (pu_eql_inil K.if66 rfl) rfl (fun a mt => ?_)
    refine w_nil ?_
    refine w_false mt rfl ?_
    refine w_skip ?_
    refine x_then_n ?_
    refine w_rs ?_
    refine step_pure mt (pu_move rfl) rfl (fun a mt => ?_)
    refine s_callv mt st K.cb38 (vs := [enc p]) rfl (hp' _) rfl (fun a w mt st => ?_)
    refine step_pure mt (pu_add_i rfl rfl (by omega)) rfl (fun a mt => ?_)
    refine step_pure mt (pu_move rfl) rfl (fun a mt => ?_)
    refine s_callv mt st K.cb38 (vs := [enc q]) rfl (hq _) rfl (fun a w mt st => ?_)
    refine step_pure mt (pu_add_i rfl rfl (by omega)) rfl (fun a mt => ?_)
    refine step_pure mt (pu_assign rfl) rfl (fun a mt => ?_)
    refine w_nil ?_
    refine w_ret ?_
    refine post_ret1 mt rfl rfl ?_
    exact ⟨_, rfl, st.below, rfl⟩
  intro x
  induction x with
  | fls => intro w _; exact leaf _ w rfl
  | atm c => intro w _; exact leaf _ w rfl
  | and p q ihp ihq => intro w h; simp only [parts] at h; refine (two _ p q w rfl (by omega) (fun w => ihp w (by omega)) (fun w => ihq w (by omega))).mono fun v _ _ h => h.trans (by simp [parts])
  | or p q ihp ihq => intro w h; simp only [parts] at h; refine (two _ p q w rfl (by omega) (fun w => ihp w (by omega)) (fun w => ihq w (by omega))).mono fun v _ _ h => h.trans (by simp [parts])
  | imp p q ihp ihq => intro w h; simp only [parts] at h; refine (two _ p q w rfl (by omega) (fun w => ihp w (by omega)) (fun w => ihq w (by omega))).mono fun v _ _ h => h.trans (by simp [parts])
/-! ### text -/
def str (l : List UInt8) : ByteArray := ⟨l.toArray⟩
def shw : Fm → List UInt8
  | .fls => [102]
  | .atm c => [UInt8.ofNat c]
  | .and a b => 40 :: shw a ++ [38] ++ shw b ++ [41]
  | .or a b => 40 :: shw a ++ [124] ++ shw b ++ [41]
  | .imp a b => 40 :: shw a ++ [62] ++ shw b ++ [41]
def tyOf : Fm → TypeId
  | .fls => 71
  | .atm _ => 109
  | .and _ _ => 110
  | .or _ _ => 111
  | .imp _ _ => 73
def pay : Fm → Value
  | .fls => .agg #[]
  | .atm c => .agg #[.int .u8 c]
  | .and a b => .agg #[enc a, enc b]
  | .or a b => .agg #[enc a, enc b]
  | .imp a b => .agg #[enc a, enc b]
theorem enc_eq (x : Fm) : enc x = .iface (tyOf x) (pay x) := by cases x <;> rfl
def textFn : Fm → FuncId
  | .fls => 113
  | .atm _ => 114
  | .and _ _ => 115
  | .or _ _ => 116
  | .imp _ _ => 39
theorem m_fls : methB Tryd.prog 71 "turndown/logic.text" 113 = true := by kernel_rfl
theorem m_atm : methB Tryd.prog 109 "turndown/logic.text" 114 = true := by kernel_rfl
theorem m_and : methB Tryd.prog 110 "turndown/logic.text" 115 = true := by kernel_rfl
theorem m_or : methB Tryd.prog 111 "turndown/logic.text" 116 = true := by kernel_rfl
theorem m_imp : methB Tryd.prog 73 "turndown/logic.text" 39 = true := by kernel_rfl
theorem meth_ok (x : Fm) : methB Tryd.prog (tyOf x) "turndown/logic.text" (textFn x) = true := by
  cases x
  · exact m_fls
  · exact m_atm
  · exact m_and
  · exact m_or
  · exact m_imp
theorem cb_text (x : Fm) : callB Tryd.prog (textFn x) = true := by
  cases x
  · exact K.cb113
  · exact K.cb114
  · exact K.cb115
  · exact K.cb116
  · exact K.cb39
theorem cat_le {i j : ByteArray} {m : Nat} (h : i.size + j.size = m) (hm : m ≤ 9223372036854775807) : i.size + j.size ≤ 9223372036854775807 := by omega
/-- the atoms are bytes -/
def wf : Fm → Prop
  | .fls => True
  | .atm c => c < 256
  | .and a b => wf a ∧ wf b
  | .or a b => wf a ∧ wf b
  | .imp a b => wf a ∧ wf b
theorem str_size (l : List UInt8) : (str l).size = l.length := rfl
theorem lit_size (a : UInt8) : (ByteArray.mk #[a]).size = 1 := rfl
theorem text_ok (x : Fm) : ∀ (w : World), wf x → (shw x).length ≤ 1000000 → CallsX Tryd.prog (textFn x) #[pay x] w fun v _ => v = .string (str (shw x)) := by
  induction x with
  | fls =>
    intro w hw hl
    have st := St.start (w0 := w) (I0 := hp w) (Sub.refl _)
    refine CallsX.of (nn := 3) Tryd.func113 rfl rfl rfl (fun a mt => ?_)
    refine w_rs ?_
    refine step_alloc mt st (al_box rfl rfl) rfl (fun a w b1 mt st => ?_)
    refine step_pure mt (pu_assign rfl) rfl (fun a mt => ?_)
    refine w_nil ?_
    refine w_rs ?_
    refine step_pure mt (pu_assign rfl) rfl (fun a mt => ?_)
    refine w_nil ?_
    refine w_ret ?_
    refine post_ret1 mt rfl rfl ?_
    exact ⟨_, rfl, st.below, rfl⟩
  | atm c =>
    intro w hw hl
    have st := St.start (w0 := w) (I0 := hp w) (Sub.refl _)
    refine CallsX.of (nn := 7) Tryd.func114 rfl rfl rfl (fun a mt => ?_)
    refine w_rs ?_
    refine step_alloc mt st (al_box rfl rfl) rfl (fun a w b1 mt st => ?_)
    refine step_pure mt (pu_assign rfl) rfl (fun a mt => ?_)
    refine w_nil ?_
    refine w_rs ?_
    refine step_pure mt (pu_fld 0 K.fl109_0 rfl) rfl (fun a mt => ?_)
    refine step_pure mt (pu_loadM st K.sc5 rfl rfl) rfl (fun a mt => ?_)
    refine step_alloc mt st (al_lit1 K.el37 rfl rfl rfl rfl rfl (by simp [Value.oneCell'])) rfl (fun a w b5 mt st => ?_)
    obtain ⟨I', st, hI, hblk⟩ := st.sealBlk (.here _ _)
    have hc : Value.int .u8 (c : Int) = byteV (UInt8.ofNat c) := by have : c < 256 := hw; simp only [byteV, UInt8.toNat_ofNat']; congr 1; omega
    refine step_pure mt (pu_bytes_str (m := 1) (l := [UInt8.ofNat c]) K.un37 K.un5 K.un9 rfl (st.rdS ⟨_, 1, rfl, Nat.le_refl _, by decide, rfl, fun j u hu => ⟨_, _, rfl, by rw [cellI_blk hblk, hc]; simpa using hu⟩⟩)) rfl (fun a mt => ?_)
    refine step_pure mt (pu_assign rfl) rfl (fun a mt => ?_)
    refine w_nil ?_
    refine w_ret ?_
    refine post_ret1 mt rfl rfl ?_
    exact ⟨_, rfl, st.below, rfl⟩
  | and x y ihx ihy =>
    intro w hw hl
    have st := St.start (w0 := w) (I0 := hp w) (Sub.refl _)
    have hx : (shw x).length ≤ 1000000 := by simp [shw] at hl; omega
    have hy : (shw y).length ≤ 1000000 := by simp [shw] at hl; omega
    have sx : (str (shw x)).size = (shw x).length := rfl
    have sy : (str (shw y)).size = (shw y).length := rfl
    refine CallsX.of (nn := 13) Tryd.func115 rfl rfl rfl (fun a mt => ?_)
    refine w_rs ?_
    refine step_alloc mt st (al_box rfl rfl) rfl (fun a w b1 mt st => ?_)
    refine step_pure mt (pu_assign rfl) rfl (fun a mt => ?_)
    refine w_nil ?_
    refine w_drs K.mixed rfl mt ?_
    refine mo_pure (pu_fld 0 K.fl110_0 rfl) ?_
    refine mo_pure ((pu_loadM st K.sc66 rfl rfl).to (enc_eq x)) ?_
    refine mo_invokev (t := tyOf x) (vs := []) (meth_ok x) (cb_text x) rfl rfl (fun w _ => ihx w hw.1 hx) ?_
    refine mo_pure ((pu_cat rfl rfl (cat_le rfl (by simp [str_size, lit_size]; omega))).to (u := .string (str (40 :: shw x))) (by apply congrArg Value.string; apply ByteArray.ext; simp [str])) ?_
    refine mo_pure ((pu_cat rfl rfl (cat_le rfl (by simp [str_size, lit_size]; omega))).to (u := .string (str (40 :: shw x ++ [38]))) (by apply congrArg Value.string; apply ByteArray.ext; simp [str])) ?_
    refine mo_pure (pu_fld 1 K.fl110_1 rfl) ?_
    refine mo_pure ((pu_loadM st K.sc66 rfl rfl).to (enc_eq y)) ?_
    refine mo_invokev (t := tyOf y) (vs := []) (meth_ok y) (cb_text y) rfl rfl (fun w _ => ihy w hw.2 hy) ?_
    refine mo_pure ((pu_cat rfl rfl (cat_le rfl (by simp [str_size, lit_size]; omega))).to (u := .string (str (40 :: shw x ++ [38] ++ shw y))) (by apply congrArg Value.string; apply ByteArray.ext; simp [str])) ?_
    refine mo_pure ((pu_cat rfl rfl (cat_le rfl (by simp [str_size, lit_size]; omega))).to (u := .string (str (shw (.and x y)))) (by apply congrArg Value.string; apply ByteArray.ext; simp [str, shw])) ?_
    refine mo_pure (pu_assign rfl) ?_
    refine mo_end (fun a w mt pr hb => ?_)
    replace st := st.ext hb
    refine w_ret ?_
    refine post_ret1 mt rfl rfl ?_
    exact ⟨_, rfl, st.below, rfl⟩
  | or x y ihx ihy =>
    intro w hw hl
    have st := St.start (w0 := w) (I0 := hp w) (Sub.refl _)
    have hx : (shw x).length ≤ 1000000 := by simp [shw] at hl; omega
    have hy : (shw y).length ≤ 1000000 := by simp [shw] at hl; omega
    have sx : (str (shw x)).size = (shw x).length := rfl
    have sy : (str (shw y)).size = (shw y).length := rfl
    refine CallsX.of (nn := 13) Tryd.func116 rfl rfl rfl (fun a mt => ?_)
    refine w_rs ?_
    refine step_alloc mt st (al_box rfl rfl) rfl (fun a w b1 mt st => ?_)
    refine step_pure mt (pu_assign rfl) rfl (fun a mt => ?_)
    refine w_nil ?_
    refine w_drs K.mixed rfl mt ?_
    refine mo_pure (pu_fld 0 K.fl111_0 rfl) ?_
    refine mo_pure ((pu_loadM st K.sc66 rfl rfl).to (enc_eq x)) ?_
    refine mo_invokev (t := tyOf x) (vs := []) (meth_ok x) (cb_text x) rfl rfl (fun w _ => ihx w hw.1 hx) ?_
    refine mo_pure ((pu_cat rfl rfl (cat_le rfl (by simp [str_size, lit_size]; omega))).to (u := .string (str (40 :: shw x))) (by apply congrArg Value.string; apply ByteArray.ext; simp [str])) ?_
    refine mo_pure ((pu_cat rfl rfl (cat_le rfl (by simp [str_size, lit_size]; omega))).to (u := .string (str (40 :: shw x ++ [124]))) (by apply congrArg Value.string; apply ByteArray.ext; simp [str])) ?_
    refine mo_pure (pu_fld 1 K.fl111_1 rfl) ?_
    refine mo_pure ((pu_loadM st K.sc66 rfl rfl).to (enc_eq y)) ?_
    refine mo_invokev (t := tyOf y) (vs := []) (meth_ok y) (cb_text y) rfl rfl (fun w _ => ihy w hw.2 hy) ?_
    refine mo_pure ((pu_cat rfl rfl (cat_le rfl (by simp [str_size, lit_size]; omega))).to (u := .string (str (40 :: shw x ++ [124] ++ shw y))) (by apply congrArg Value.string; apply ByteArray.ext; simp [str])) ?_
    refine mo_pure ((pu_cat rfl rfl (cat_le rfl (by simp [str_size, lit_size]; omega))).to (u := .string (str (shw (.or x y)))) (by apply congrArg Value.string; apply ByteArray.ext; simp [str, shw])) ?_
    refine mo_pure (pu_assign rfl) ?_
    refine mo_end (fun a w mt pr hb => ?_)
    replace st := st.ext hb
    refine w_ret ?_
    refine post_ret1 mt rfl rfl ?_
    exact ⟨_, rfl, st.below, rfl⟩
  | imp x y ihx ihy =>
    intro w hw hl
    have st := St.start (w0 := w) (I0 := hp w) (Sub.refl _)
    have hx : (shw x).length ≤ 1000000 := by simp [shw] at hl; omega
    have hy : (shw y).length ≤ 1000000 := by simp [shw] at hl; omega
    have sx : (str (shw x)).size = (shw x).length := rfl
    have sy : (str (shw y)).size = (shw y).length := rfl
    refine CallsX.of (nn := 13) Tryd.func39 rfl rfl rfl (fun a mt => ?_)
    refine w_rs ?_
    refine step_alloc mt st (al_box rfl rfl) rfl (fun a w b1 mt st => ?_)
    refine step_pure mt (pu_assign rfl) rfl (fun a mt => ?_)
    refine w_nil ?_
    refine w_drs K.mixed rfl mt ?_
    refine mo_pure (pu_fld 0 K.fl73_0 rfl) ?_
    refine mo_pure ((pu_loadM st K.sc66 rfl rfl).to (enc_eq x)) ?_
    refine mo_invokev (t := tyOf x) (vs := []) (meth_ok x) (cb_text x) rfl rfl (fun w _ => ihx w hw.1 hx) ?_
    refine mo_pure ((pu_cat rfl rfl (cat_le rfl (by simp [str_size, lit_size]; omega))).to (u := .string (str (40 :: shw x))) (by apply congrArg Value.string; apply ByteArray.ext; simp [str])) ?_
    refine mo_pure ((pu_cat rfl rfl (cat_le rfl (by simp [str_size, lit_size]; omega))).to (u := .string (str (40 :: shw x ++ [62]))) (by apply congrArg Value.string; apply ByteArray.ext; simp [str])) ?_
    refine mo_pure (pu_fld 1 K.fl73_1 rfl) ?_
    refine mo_pure ((pu_loadM st K.sc66 rfl rfl).to (enc_eq y)) ?_
    refine mo_invokev (t := tyOf y) (vs := []) (meth_ok y) (cb_text y) rfl rfl (fun w _ => ihy w hw.2 hy) ?_
    refine mo_pure ((pu_cat rfl rfl (cat_le rfl (by simp [str_size, lit_size]; omega))).to (u := .string (str (40 :: shw x ++ [62] ++ shw y))) (by apply congrArg Value.string; apply ByteArray.ext; simp [str])) ?_
    refine mo_pure ((pu_cat rfl rfl (cat_le rfl (by simp [str_size, lit_size]; omega))).to (u := .string (str (shw (.imp x y)))) (by apply congrArg Value.string; apply ByteArray.ext; simp [str, shw])) ?_
    refine mo_pure (pu_assign rfl) ?_
    refine mo_end (fun a w mt pr hb => ?_)
    replace st := st.ext hb
    refine w_ret ?_
    refine post_ret1 mt rfl rfl ?_
    exact ⟨_, rfl, st.below, rfl⟩
end Go.Proofs.YtoilfakpgcjjpaaDoor.Log
namespace Go.Proofs.YtoilfakpgcjjpaaDoor.Eng
open Go Go.RowKit
set_option linter.unusedVariables false
set_option linter.unusedSimpArgs false
/-- every old block but b is as it was -/
structure KeepB (b : Nat) (w w' : World) : Prop where
  os : w'.os = w.os
  tape : w'.tape = w.tape
  output : w'.output = w.output
  size : w.heap.size ≤ w'.heap.size
  block : ∀ k, k < w.heap.size → k ≠ b → w'.heap[k]? = w.heap[k]?
theorem Below.keepB {w w' : World} (h : Below w.heap.size w w') (b : Nat) : KeepB b w w' := ⟨h.os, h.tape, h.output, h.size, fun k hk _ => h.block k hk⟩
/-- a call that may turn the block b, and that returns or panics -/
def CallsB (P : Program) (f : FuncId) (args : Array Value) (b : Nat) (w : World) (Φ : Value → Obj → Prop) (Ψ : List PanicEntry → Obj → Prop) : Prop :=
  Calls P f args w fun e w' => KeepB b w w' ∧ ∃ o', w'.heap[b]? = some o' ∧ match e with
    | .returned v => Φ v o'
    | .panicked c => Ψ c o'
    | .outgrown => False
theorem CallsB.mono {P : Program} {f : FuncId} {args : Array Value} {b : Nat} {w : World} {Φ Φ' : Value → Obj → Prop} {Ψ Ψ' : List PanicEntry → Obj → Prop} (h : CallsB P f args b w Φ Ψ) (h1 : ∀ v o, Φ v o → Φ' v o) (h2 : ∀ c o, Ψ c o → Ψ' c o) : CallsB P f args b w Φ' Ψ' :=
  Calls.mono h fun e w' ⟨hk, o', ho, hm⟩ => ⟨hk, o', ho, by cases e <;> first | exact h1 _ _ hm | exact h2 _ _ hm | exact hm⟩
section
variable {P : Program} {Q : Exit → Act → World → Prop} {a : Act} {w w1 : World} {n : Nat} {L : List (Nat × Value)} {ops : Array Oper} {rest : List Oper}
  {d : Nat} {op : Op} {ty : TypeId} {pos : String} {af : Array Edge} {g : Option (Nat × Bool)} {dd : Option Tmp}
  {X : List Nat} {w0 w' : World} {I0 I : Hp} {M R : List Item}
theorem St.keepB {b : Nat} {o o' : Obj} (st : St X w0 I0 w I M) (h : Pick M (.blk b o) R) (hk : KeepB b w w') (ho : w'.heap[b]? = some o') : St X w0 I0 w' I (.blk b o' :: R) :=
  (st.pick h).turn hk.os hk.tape hk.output hk.size (fun k h1 h2 => hk.block k h1 (fun e => h2 (by simp [Item.block, e]))) ho (fun k hk => .inl hk)
theorem St.toKeepB {b : Nat} {o : Obj} (st : St [b] w0 I0 w I M) (h : Pick M (.blk b o) R) : KeepB b w0 w ∧ w.heap[b]? = some o :=
  ⟨⟨st.os, st.tape, st.output, st.size, fun k hk hne => st.old k hk (by simpa using hne)⟩, st.sat _ h.mem⟩
theorem St.toKeepB' {b : Nat} {o : Obj} (st : St [b] w0 I0 w I M) [h : PickB M b o R] : KeepB b w0 w ∧ w.heap[b]? = some o := st.toKeepB h.pick
/-- a call that turns a block; its result is kept -/
theorem s_callb {f : FuncId} {xs : Array Operand} {ts : Array TypeId} {vs : List Value} {b : Nat} {o : Obj} {Φ : Value → Obj → Prop} {Ψ : List PanicEntry → Obj → Prop} (mt : Mt n a L) (st : St X w0 I0 w I M) [h : PickB M b o R] (hf : callB P f = true) (hx : xs.toList.map (ev L) = vs.map some) (hc : CallsB P f vs.toArray b w Φ Ψ) (hd : Nat.blt d n = true)
    (k : ∀ a' w' v o', Mt n a' ((d, v) :: L) → St X w0 I0 w' I (.blk b o' :: R) → Φ v o' → wpList P ops Q rest a' w') (kp : ∀ c w' o', St X w0 I0 w' I (.blk b o' :: R) → Ψ c o' → Q (.panic c) a w') :
    wpList P ops Q (⟨some d, .call { callee := .value (.func f), args := xs, argTypes := ts }, ty, pos, af, none⟩ :: rest) a w :=
  step_call0 mt hf hx hc (fun v w' ⟨hk, o', ho, hΦ⟩ => k _ w' v o' (mt.put d _ hd) (st.keepB h.pick hk ho) hΦ) (fun c w' ⟨hk, o', ho, hΨ⟩ => kp c w' o' (st.keepB h.pick hk ho) hΨ) (fun w' ⟨_, _, _, hF⟩ => hF.elim)
/-- a call without a slot for its result -/
theorem s_callb0 {f : FuncId} {xs : Array Operand} {ts : Array TypeId} {vs : List Value} {b : Nat} {o : Obj} {Φ : Value → Obj → Prop} {Ψ : List PanicEntry → Obj → Prop} (mt : Mt n a L) (st : St X w0 I0 w I M) [h : PickB M b o R] (hf : callB P f = true) (hx : xs.toList.map (ev L) = vs.map some) (hc : CallsB P f vs.toArray b w Φ Ψ)
    (k : ∀ w' v o', St X w0 I0 w' I (.blk b o' :: R) → Φ v o' → wpList P ops Q rest a w') (kp : ∀ c w' o', St X w0 I0 w' I (.blk b o' :: R) → Ψ c o' → Q (.panic c) a w') :
    wpList P ops Q (⟨none, .call { callee := .value (.func f), args := xs, argTypes := ts }, ty, pos, af, none⟩ :: rest) a w :=
  step_call0 mt hf hx hc (fun v w' ⟨hk, o', ho, hΦ⟩ => k w' v o' (st.keepB h.pick hk ho) hΦ) (fun c w' ⟨hk, o', ho, hΨ⟩ => kp c w' o' (st.keepB h.pick hk ho) hΨ) (fun w' ⟨_, _, _, hF⟩ => hF.elim)
/-- a call that always panics -/
theorem s_callp {f : FuncId} {xs : Array Operand} {ts : Array TypeId} {vs : List Value} {c : List PanicEntry} (mt : Mt n a L) (st : St X w0 I0 w I M) (hf : callB P f = true) (hx : xs.toList.map (ev L) = vs.map some) (hc : Calls P f vs.toArray w fun e w' => e = .panicked c ∧ Below w.heap.size w w')
    (kp : ∀ w', St X w0 I0 w' I M → Q (.panic c) a w') :
    wpList P ops Q (⟨dd, .call { callee := .value (.func f), args := xs, argTypes := ts }, ty, pos, af, none⟩ :: rest) a w :=
  step_call0 mt hf hx hc (fun v w' ⟨e, _⟩ => by cases e) (fun c' w' ⟨e, hb⟩ => by injection e with e; subst e; exact kp w' (st.ext hb)) (fun w' ⟨e, _⟩ => by cases e)
end
end Go.Proofs.YtoilfakpgcjjpaaDoor.Eng
namespace Go.Proofs.YtoilfakpgcjjpaaDoor.Log
open Go Go.RowKit Go.Proofs.YtoilfakpgcjjpaaDoor Go.Proofs.YtoilfakpgcjjpaaDoor.Eng
set_option linter.unusedVariables false
set_option linter.unusedSimpArgs false
set_option maxRecDepth 100000
def troubleV (e : Int) : Value := .iface 138 (.agg #[.int .i64 e])
def trouble (e : Int) : List PanicEntry := [{ v := troubleV e, recovered := false }]
def PB (s : List UInt8) (k : Nat) : Obj := .cells #[.string (str s), .int .i64 k] 98 (0, 0)
def pv (b : Nat) : Value := .pointer (some ⟨b, 0, none⟩)
def I00 : Hp := fun _ => none
theorem I00_sub (w : World) : Sub I00 (hp w) := fun _ _ h => by cases h
theorem fail_ok (e : Int) (w : World) : Calls Tryd.prog 53 #[.int .i64 e] w fun en w' => en = .panicked (trouble e) ∧ Below w.heap.size w w' := by
  have st := St.start (w0 := w) (I0 := hp w) (Sub.refl _)
  refine CallsX.of (nn := 5) Tryd.func53 rfl rfl rfl (fun a mt => ?_)
  refine w_region ?_
  refine step_pure mt (pu_move rfl) rfl (fun a mt => ?_)
  refine step_pure mt (pu_build K.pl138 K.ze138 rfl rfl) rfl (fun a mt => ?_)
  refine step_pure mt (pu_makeInterface K.co138 rfl) rfl (fun a mt => ?_)
  refine s_panic mt rfl ?_
  exact post_panic mt ⟨rfl, st.below⟩
theorem str_extract (l : List UInt8) (a b : Nat) : (str l).extract a b = str ((l.take b).drop a) := by
  apply ByteArray.ext
  simp [str, ByteArray.data_extract, List.drop_take]
theorem str_get (l : List UInt8) (i : Nat) : (str l)[i]? = l[i]? := by
  by_cases h : i < l.length
  · rw [getElem?_pos (str l) i h, List.getElem?_eq_getElem h]; rfl
  · rw [getElem?_neg (str l) i h, List.getElem?_eq_none (by omega)]
theorem take_nil (b k : Nat) (w : World) (hb : w.heap[b]? = some (PB [] k)) : CallsB Tryd.prog 75 #[pv b] b w (fun _ _ => False) (fun c o' => c = trouble 4 ∧ o' = PB [] k) := by
  have st := St.start1 (w0 := w) (I0 := I00) (I00_sub w) hb rfl
  refine CallsX.of (nn := 24) Tryd.func75 rfl rfl rfl (fun a mt => ?_)
  refine w_rs ?_
  refine step_pure mt (pu_assign rfl) rfl (fun a mt => ?_)
  refine w_nil ?_
  refine w_seq ?_
  refine w_rs ?_
  refine step_pure mt (pu_move rfl) rfl (fun a mt => ?_)
  refine step_pure mt (pu_nilCheck rfl) rfl (fun a mt => ?_)
  refine step_pure mt (pu_fld 0 K.fl98_0 rfl) rfl (fun a mt => ?_)
  refine step_pure mt (pu_loadM st K.sc9 rfl rfl) rfl (fun a mt => ?_)
  refine step_pure mt ((pu_eql_s rfl rfl).tob (j := true) (by simp [str])) rfl (fun a mt => ?_)
  refine w_nil ?_
  refine w_true mt rfl ?_
  refine w_region ?_
  refine s_callp mt st K.cb53 (vs := [.int .i64 4]) rfl (fail_ok 4 _) (fun w st => ?_)
  exact x_then_panic (post_panic mt ⟨st.toKeepB'.1, _, st.toKeepB'.2, rfl, rfl⟩)
theorem take_cons (b k : Nat) (c : UInt8) (s : List UInt8) (w : World) (hb : w.heap[b]? = some (PB (c :: s) k)) : CallsB Tryd.prog 75 #[pv b] b w (fun v o' => v = byteV c ∧ o' = PB s k) (fun _ _ => False) := by
  have st := St.start1 (w0 := w) (I0 := I00) (I00_sub w) hb rfl
  refine CallsX.of (nn := 24) Tryd.func75 rfl rfl rfl (fun a mt => ?_)
  refine w_rs ?_
  refine step_pure mt (pu_assign rfl) rfl (fun a mt => ?_)
  refine w_nil ?_
  refine w_seq ?_
  refine w_rs ?_
  refine step_pure mt (pu_move rfl) rfl (fun a mt => ?_)
  refine step_pure mt (pu_nilCheck rfl) rfl (fun a mt => ?_)
  refine step_pure mt (pu_fld 0 K.fl98_0 rfl) rfl (fun a mt => ?_)
  refine step_pure mt (pu_loadM st K.sc9 rfl rfl) rfl (fun a mt => ?_)
  refine step_pure mt ((pu_eql_s rfl rfl).tob (j := false) (by simp [str])) rfl (fun a mt => ?_)
  refine w_nil ?_
  refine w_false mt rfl ?_
  refine w_skip ?_
  refine x_then_n ?_
  refine w_rs ?_
  refine step_pure mt (pu_move rfl) rfl (fun a mt => ?_)
  refine step_pure mt (pu_nilCheck rfl) rfl (fun a mt => ?_)
  refine step_pure mt (pu_fld 0 K.fl98_0 rfl) rfl (fun a mt => ?_)
  refine step_pure mt (pu_loadM st K.sc9 rfl rfl) rfl (fun a mt => ?_)
  refine step_pure mt (pu_index_s (b := c) rfl rfl K.un9 (by decide) (by rw [str_get]; rfl)) rfl (fun a mt => ?_)
  refine step_pure mt (pu_assign rfl) rfl (fun a mt => ?_)
  refine w_nil ?_
  refine w_rs ?_
  refine step_pure mt (pu_move rfl) rfl (fun a mt => ?_)
  refine step_pure mt (pu_move rfl) rfl (fun a mt => ?_)
  refine step_pure mt (pu_nilCheck rfl) rfl (fun a mt => ?_)
  refine step_pure mt (pu_fld 0 K.fl98_0 rfl) rfl (fun a mt => ?_)
  refine step_pure mt (pu_loadM st K.sc9 rfl rfl) rfl (fun a mt => ?_)
  refine step_pure mt ((pu_slice_s rfl K.un9 (.inr ⟨_, _, rfl, rfl⟩) (.inl ⟨rfl, rfl⟩) (by decide) (by simp [str_size]; omega) (by omega)).to (u := .string (str s)) (by rw [str_extract]; simp [str_size])) rfl (fun a mt => ?_)
  refine step_pure mt (pu_nilCheck rfl) rfl (fun a mt => ?_)
  refine step_pure mt (pu_fld 0 K.fl98_0 rfl) rfl (fun a mt => ?_)
  refine s_storeL mt st K.sz9 rfl rfl rfl rfl rfl (fun w st => ?_)
  refine w_nil ?_
  refine w_rs ?_
  refine step_pure mt (pu_move rfl) rfl (fun a mt => ?_)
  refine step_pure mt (pu_assign rfl) rfl (fun a mt => ?_)
  refine w_nil ?_
  refine w_ret ?_
  refine post_ret1 mt rfl rfl ?_
  exact ⟨st.toKeepB'.1, _, st.toKeepB'.2, rfl, rfl⟩
theorem part_ok (b k : Nat) (s : List UInt8) (w : World) (hk : k ≤ 1000) (hb : w.heap[b]? = some (PB s k)) : CallsB Tryd.prog 76 #[pv b] b w (fun v o' => k + 1 ≤ 12 ∧ o' = PB s (k + 1)) (fun c o' => 12 < k + 1 ∧ c = trouble 4 ∧ ∃ s' k', o' = PB s' k') := by
  have st := St.start1 (w0 := w) (I0 := I00) (I00_sub w) hb rfl
  refine CallsX.of (nn := 15) Tryd.func76 rfl rfl rfl (fun a mt => ?_)
  refine w_rs ?_
  refine step_pure mt (pu_move rfl) rfl (fun a mt => ?_)
  refine step_pure mt (pu_nilCheck rfl) rfl (fun a mt => ?_)
  refine step_pure mt (pu_fld 1 K.fl98_1 rfl) rfl (fun a mt => ?_)
  refine step_pure mt (pu_loadM st K.sc3 rfl rfl) rfl (fun a mt => ?_)
  refine step_pure mt ((pu_add_i rfl rfl (by omega)).toi (j := ((k + 1 : Nat) : Int)) (by omega)) rfl (fun a mt => ?_)
  refine step_pure mt (pu_nilCheck rfl) rfl (fun a mt => ?_)
  refine step_pure mt (pu_fld 1 K.fl98_1 rfl) rfl (fun a mt => ?_)
  refine s_storeL mt st K.sz3 rfl rfl rfl rfl rfl (fun w st => ?_)
  refine w_nil ?_
  refine w_rs ?_
  refine step_pure mt (pu_move rfl) rfl (fun a mt => ?_)
  refine step_pure mt (pu_nilCheck rfl) rfl (fun a mt => ?_)
  refine step_pure mt (pu_fld 1 K.fl98_1 rfl) rfl (fun a mt => ?_)
  refine step_pure mt (pu_loadM st K.sc3 rfl rfl) rfl (fun a mt => ?_)
  refine step_pure mt (pu_gtr rfl rfl) rfl (fun a mt => ?_)
  refine w_nil ?_
  refine w_cond mt rfl (fun h => ?_) (fun h => ?_)
  · refine w_region ?_
    refine s_callp mt st K.cb53 (vs := [.int .i64 4]) rfl (fail_ok 4 _) (fun w st => ?_)
    exact post_panic mt ⟨st.toKeepB'.1, _, st.toKeepB'.2, by omega, rfl, s, k + 1, rfl⟩
  · refine w_skip ?_
    exact post_end0 mt rfl ⟨st.toKeepB'.1, _, st.toKeepB'.2, by omega, rfl⟩
/-! ### is a byte an atom -/
theorem ext_name : (Tryd.f94.name == "runtime.NumGoroutine") = false := by kernel_rfl
theorem ext_body : Tryd.f94.body.isNone = true := by kernel_rfl
theorem ext_next : Extern.findNext Tryd.f94 = none := by kernel_rfl
theorem ext_find : Extern.find Tryd.f94 = some Extern.BytealgIndexByte.indexByte := by kernel_rfl
theorem s_ext {n : Nat} {a : Act} {w : World} {L : List (Nat × Value)} {ops : Array Oper} {rest : List Oper} {Q : Exit → Act → World → Prop} {d : Nat} {ty : TypeId} {pos : String} {af : Array Edge} {f : FuncId} {xs : Array Operand} {ts : Array TypeId} {vs : List Value} {v : Value} (mt : Mt n a L) (hx : xs.toList.map (ev L) = vs.map some)
    (hr : (callFunc f vs.toArray).run Tryd.prog w = .ok (.value v) w) (hd : Nat.blt d n = true) (k : ∀ a', Mt n a' ((d, v) :: L) → wpList Tryd.prog ops Q rest a' w) :
    wpList Tryd.prog ops Q (⟨some d, .call { callee := .value (.func f), args := xs, argTypes := ts }, ty, pos, af, none⟩ :: rest) a w := by
  refine wpList_plain rfl fun K hK => ?_
  unfold Oper.wp
  have : (execOp a.eval ⟨some d, .call { callee := .value (.func f), args := xs, argTypes := ts }, ty, pos, af, none⟩).run Tryd.prog w = .ok (.value v) w := by
    have e : a.eval (.func f) = .func (.func f) #[] #[] := rfl
    simp [execOp, resolve, Deferred.ofValue, e, invoke, evs_arr mt xs vs hx, hr]
  rw [this]
  exact hK _ _ (k _ (mt.put d v hd))
theorem idxByte_lite (s : ByteArray) (c : Int) (w : World) : CallsX Tryd.prog 90 #[.string s, .int .u8 c] w fun v _ => v = .int .i64 (firstIdx s c.toNat.toUInt8) := by
  refine CallsX.of (nn := 8) Tryd.func90 rfl rfl rfl (fun a mt => ?_)
  refine w_rs ?_
  refine step_pure mt (pu_assign rfl) rfl (fun a mt => ?_)
  refine w_nil ?_
  refine w_rs ?_
  refine step_pure mt (pu_move rfl) rfl (fun a mt => ?_)
  refine step_pure mt (pu_move rfl) rfl (fun a mt => ?_)
  refine s_ext mt (vs := [.string s, .int .u8 c]) rfl (v := .int .i64 (firstIdx s c.toNat.toUInt8)) (by rw [run_callFunc_extern Tryd.func94 ext_name ext_body ext_next ext_find, run_indexByte_string]; rfl) rfl (fun a mt => ?_)
  refine step_pure mt (pu_assign rfl) rfl (fun a mt => ?_)
  refine w_nil ?_
  refine w_ret ?_
  refine post_ret1 mt rfl rfl ?_
  exact ⟨_, rfl, Below.refl _ _, rfl⟩
theorem idxByte_ok (s : ByteArray) (c : Int) (w : World) : CallsX Tryd.prog 77 #[.string s, .int .u8 c] w fun v _ => v = .int .i64 (firstIdx s c.toNat.toUInt8) := by
  have st := St.start (w0 := w) (I0 := hp w) (Sub.refl _)
  refine CallsX.of (nn := 8) Tryd.func77 rfl rfl rfl (fun a mt => ?_)
  refine w_rs ?_
  refine step_pure mt (pu_assign rfl) rfl (fun a mt => ?_)
  refine w_nil ?_
  refine w_rs ?_
  refine step_pure mt (pu_move rfl) rfl (fun a mt => ?_)
  refine step_pure mt (pu_move rfl) rfl (fun a mt => ?_)
  refine s_callv mt st K.cb90 (vs := [.string s, .int .u8 c]) rfl (idxByte_lite _ _ _) rfl (fun a w mt st => ?_)
  refine step_pure mt (pu_assign rfl) rfl (fun a mt => ?_)
  refine w_nil ?_
  refine w_ret ?_
  refine post_ret1 mt rfl rfl ?_
  exact ⟨_, rfl, st.below, rfl⟩
theorem atoms_idx (c : UInt8) : (decide (firstIdx ⟨#[112, 113, 114, 115]⟩ c < 0)) = !(decide (112 ≤ c.toNat ∧ c.toNat ≤ 115)) := by
  by_cases h0 : c = 112
  · subst h0; rfl
  by_cases h1 : c = 113
  · subst h1; rfl
  by_cases h2 : c = 114
  · subst h2; rfl
  by_cases h3 : c = 115
  · subst h3; rfl
  have e0 : ((⟨#[112, 113, 114, 115]⟩ : ByteArray)[0]! == c) = false := by show ((112 : UInt8) == c) = false; simpa using Ne.symm h0
  have e1 : ((⟨#[112, 113, 114, 115]⟩ : ByteArray)[1]! == c) = false := by show ((113 : UInt8) == c) = false; simpa using Ne.symm h1
  have e2 : ((⟨#[112, 113, 114, 115]⟩ : ByteArray)[2]! == c) = false := by show ((114 : UInt8) == c) = false; simpa using Ne.symm h2
  have e3 : ((⟨#[112, 113, 114, 115]⟩ : ByteArray)[3]! == c) = false := by show ((115 : UInt8) == c) = false; simpa using Ne.symm h3
  have hr : List.range (ByteArray.size ⟨#[112, 113, 114, 115]⟩) = [0, 1, 2, 3] := rfl
  have hf : firstIdx ⟨#[112, 113, 114, 115]⟩ c = -1 := by
    unfold firstIdx
    rw [hr]
    simp only [List.find?, e0, e1, e2, e3]
  rw [hf]
  have n0 : c.toNat ≠ 112 := fun e => h0 (UInt8.toNat_inj.1 e)
  have n1 : c.toNat ≠ 113 := fun e => h1 (UInt8.toNat_inj.1 e)
  have n2 : c.toNat ≠ 114 := fun e => h2 (UInt8.toNat_inj.1 e)
  have n3 : c.toNat ≠ 115 := fun e => h3 (UInt8.toNat_inj.1 e)
  have : ¬ (112 ≤ c.toNat ∧ c.toNat ≤ 115) := by omega
  simp [this]
/-! ### the parser, as a function -/
def rdF : Nat → List UInt8 → Nat → Option (Fm × List UInt8 × Nat)
  | 0, _, _ => none
  | f + 1, s, k => match s with
    | [] => none
    | c :: s => if c.toNat ≠ 40 then
        if 12 < k + 1 then none
        else if c.toNat = 102 then some (.fls, s, k + 1)
        else if 112 ≤ c.toNat ∧ c.toNat ≤ 115 then some (.atm c.toNat, s, k + 1)
        else none
      else match rdF f s k with
        | none => none
        | some (a, s1, k1) => match s1 with
          | [] => none
          | g :: s2 => if 12 < k1 + 1 then none else match rdF f s2 (k1 + 1) with
            | none => none
            | some (b, s3, k3) => match s3 with
              | [] => none
              | e :: s4 => if e.toNat ≠ 41 then none
                else if g.toNat = 38 then some (.and a b, s4, k3)
                else if g.toNat = 124 then some (.or a b, s4, k3)
                else if g.toNat = 62 then some (.imp a b, s4, k3)
                else none
theorem rdF_len : ∀ (f : Nat) (s : List UInt8) (k : Nat) (x : Fm) (s' : List UInt8) (k' : Nat), rdF f s k = some (x, s', k') → s'.length < s.length ∧ k' ≤ 12 := by
  intro f
  induction f with
  | zero => intro s k x s' k' h; cases h
  | succ f ih =>
    intro s k x s' k' h
    unfold rdF at h
    cases s with
    | nil => cases h
    | cons c s =>
      simp only at h
      split at h
      · split at h
        · cases h
        · split at h
          · injection h with h; injection h with h1 h2; injection h2 with h2 h3; subst h2; subst h3; simp; omega
          · split at h
            · injection h with h; injection h with h1 h2; injection h2 with h2 h3; subst h2; subst h3; simp; omega
            · cases h
      · cases h1 : rdF f s k with
        | none => rw [h1] at h; cases h
        | some p =>
          obtain ⟨a, s1, k1⟩ := p
          rw [h1] at h
          obtain ⟨l1, m1⟩ := ih _ _ _ _ _ h1
          cases s1 with
          | nil => cases h
          | cons g s2 =>
            simp only at h
            split at h
            · cases h
            · cases h2 : rdF f s2 (k1 + 1) with
              | none => rw [h2] at h; cases h
              | some p =>
                obtain ⟨b, s3, k3⟩ := p
                rw [h2] at h
                obtain ⟨l2, m2⟩ := ih _ _ _ _ _ h2
                cases s3 with
                | nil => cases h
                | cons e s4 =>
                  simp only at h
                  simp only [List.length_cons] at l1 l2 ⊢
                  repeat' split at h
                  all_goals first | (cases h; done) | (injection h with h; injection h with h1 h2; injection h2 with h2 h3; subst h2; subst h3; exact ⟨by omega, m2⟩)
theorem formula_ok : ∀ (f b k : Nat) (s : List UInt8) (w : World), s.length < f → k ≤ 12 → w.heap[b]? = some (PB s k) →
    CallsB Tryd.prog 52 #[pv b] b w (fun v o' => ∃ x s' k', rdF f s k = some (x, s', k') ∧ v = enc x ∧ o' = PB s' k') (fun c o' => rdF f s k = none ∧ c = trouble 4 ∧ ∃ s' k', o' = PB s' k') := by
  intro f
  induction f with
  | zero => intro b k s w h; omega
  | succ f ih =>
    intro b k s w hs hk hb
    have st := St.start1 (w0 := w) (I0 := I00) (I00_sub w) hb rfl
    refine CallsX.of (nn := 56) Tryd.func52 rfl rfl rfl (fun a mt => ?_)
    refine w_rs ?_
    refine step_pure mt (pu_assign rfl) rfl (fun a mt => ?_)
    refine w_nil ?_
    refine w_rs ?_
    refine step_pure mt (pu_move rfl) rfl (fun a mt => ?_)
    cases s with
    | nil =>
      refine s_callb mt st K.cb75 (vs := [pv b]) rfl (take_nil b k _ (st.sat _ (.head _))) rfl (fun a w v o mt st h => h.elim) (fun c w o st ⟨hc, ho⟩ => ?_)
      subst hc; subst ho
      exact x_then_panic (post_panic mt ⟨st.toKeepB'.1, _, st.toKeepB'.2, rfl, rfl, _, _, rfl⟩)
    | cons c s =>
    refine s_callb mt st K.cb75 (vs := [pv b]) rfl (take_cons b k c s _ (st.sat _ (.head _))) rfl (fun a w v o mt st ⟨hv, ho⟩ => ?_) (fun c w o st h => h.elim)
    subst hv; subst ho
    refine step_pure mt (pu_assign rfl) rfl (fun a mt => ?_)
    refine w_nil ?_
    refine w_seq ?_
    refine w_rs ?_
    refine step_pure mt (pu_move rfl) rfl (fun a mt => ?_)
    refine step_pure mt (pu_neq rfl rfl) rfl (fun a mt => ?_)
    refine w_nil ?_
    have hlen : s.length < f := by simp at hs; omega
    refine w_cond mt rfl (fun h => ?_) (fun h => ?_)
    · have hc40 : c.toNat ≠ 40 := by omega
      refine w_rs ?_
      refine step_pure mt (pu_move rfl) rfl (fun a mt => ?_)
      refine s_callb mt st K.cb76 (vs := [pv b]) rfl (part_ok b k s _ (by omega) (st.sat _ (.head _))) rfl (fun a w v o mt st ⟨hle, ho⟩ => ?_) (fun c' w o st ⟨hlt, hc, s', k', ho⟩ => ?_)
      rotate_left
      · subst hc; subst ho
        exact x_then_panic (x_then_panic (post_panic mt ⟨st.toKeepB'.1, _, st.toKeepB'.2, by simp only [rdF]; rw [if_pos hc40, if_pos hlt], rfl, _, _, rfl⟩))
      subst ho
      refine w_nil ?_
      refine w_seq ?_
      refine w_rs ?_
      refine step_pure mt (pu_move rfl) rfl (fun a mt => ?_)
      refine step_pure mt (pu_eql rfl rfl) rfl (fun a mt => ?_)
      refine w_nil ?_
      refine w_cond mt rfl (fun h => ?_) (fun h => ?_)
      · refine w_rs ?_
        refine step_pure mt (pu_build K.pl71 K.ze71 rfl rfl) rfl (fun a mt => ?_)
        refine step_pure mt (pu_makeInterface K.co71 rfl) rfl (fun a mt => ?_)
        refine step_pure mt (pu_assign rfl) rfl (fun a mt => ?_)
        refine w_nil ?_
        refine w_ret (x_then_ret (x_then_ret ?_))
        refine post_ret1 mt rfl rfl ?_
        exact ⟨st.toKeepB'.1, _, st.toKeepB'.2, .fls, s, k + 1, by simp only [rdF]; rw [if_pos hc40, if_neg (by omega), if_pos (by omega)], rfl, rfl⟩
      · refine w_skip ?_
        refine x_then_n ?_
        refine w_seq ?_
        refine w_rs ?_
        refine step_pure mt (pu_move rfl) rfl (fun a mt => ?_)
        refine s_callv mt st K.cb77 (vs := [.string ⟨#[112, 113, 114, 115]⟩, byteV c]) rfl (idxByte_ok _ _ _) rfl (fun a w mt st => ?_)
        refine step_pure mt ((pu_lss rfl rfl).tob (j := !(decide (112 ≤ c.toNat ∧ c.toNat ≤ 115))) (by rw [← atoms_idx]; simp)) rfl (fun a mt => ?_)
        refine w_nil ?_
        refine w_cond_b mt rfl (fun h' => ?_) (fun h' => ?_)
        · refine w_region ?_
          refine s_callp mt st K.cb53 (vs := [.int .i64 4]) rfl (fail_ok 4 _) (fun w st => ?_)
          exact (x_then_panic (x_then_panic (post_panic mt ⟨st.toKeepB'.1, _, st.toKeepB'.2, by simp only [rdF]; rw [if_pos hc40, if_neg (by omega), if_neg (by omega), if_neg (by simp at h'; omega)], rfl, _, _, rfl⟩)))
        · have hat : 112 ≤ c.toNat ∧ c.toNat ≤ 115 := by simpa using h'
          refine w_skip ?_
          refine x_then_n ?_
          refine w_rs ?_
          refine step_pure mt (pu_move rfl) rfl (fun a mt => ?_)
          refine step_pure mt (pu_build K.pl109 K.ze109 rfl rfl) rfl (fun a mt => ?_)
          refine step_pure mt (pu_makeInterface K.co109 rfl) rfl (fun a mt => ?_)
          refine step_pure mt (pu_assign rfl) rfl (fun a mt => ?_)
          refine w_nil ?_
          refine w_ret (x_then_ret ?_)
          refine post_ret1 mt rfl rfl ?_
          exact ⟨st.toKeepB'.1, _, st.toKeepB'.2, .atm c.toNat, s, k + 1, by simp only [rdF]; rw [if_pos hc40, if_neg (by omega), if_neg (by omega), if_pos hat], rfl, rfl⟩
    · have hc40 : ¬ c.toNat ≠ 40 := by omega
      have hrd0 : rdF (f + 1) (c :: s) k = (match rdF f s k with
        | none => none
        | some (a, s1, k1) => match s1 with
          | [] => none
          | g :: s2 => if 12 < k1 + 1 then none else match rdF f s2 (k1 + 1) with
            | none => none
            | some (b, s3, k3) => match s3 with
              | [] => none
              | e :: s4 => if e.toNat ≠ 41 then none
                else if g.toNat = 38 then some (.and a b, s4, k3)
                else if g.toNat = 124 then some (.or a b, s4, k3)
                else if g.toNat = 62 then some (.imp a b, s4, k3)
                else none) := by simp only [rdF]; rw [if_neg hc40]
      refine w_skip ?_
      refine x_then_n ?_
      refine w_rs ?_
      refine step_pure mt (pu_move rfl) rfl (fun a mt => ?_)
      refine s_callb mt st K.cb52 (vs := [pv b]) rfl (ih b k s _ hlen hk (st.sat _ (.head _))) rfl (fun a w v o mt st ⟨xa, s1, k1, hra, hv, ho⟩ => ?_) (fun c' w o st ⟨hn, hc, s', k', ho⟩ => ?_)
      rotate_left
      · subst hc; subst ho
        exact x_then_panic (post_panic mt ⟨st.toKeepB'.1, _, st.toKeepB'.2, by rw [hrd0, hn], rfl, _, _, rfl⟩)
      subst hv; subst ho
      rw [hra] at hrd0
      obtain ⟨hl1, hk1⟩ := rdF_len _ _ _ _ _ _ hra
      simp only at hrd0
      refine step_pure mt (pu_assign rfl) rfl (fun a mt => ?_)
      refine w_nil ?_
      refine w_rs ?_
      refine step_pure mt (pu_move rfl) rfl (fun a mt => ?_)
      cases s1 with
      | nil =>
        refine s_callb mt st K.cb75 (vs := [pv b]) rfl (take_nil b k1 _ (st.sat _ (.head _))) rfl (fun a w v o mt st h => h.elim) (fun c w o st ⟨hc, ho⟩ => ?_)
        subst hc; subst ho
        exact x_then_panic (post_panic mt ⟨st.toKeepB'.1, _, st.toKeepB'.2, hrd0, rfl, _, _, rfl⟩)
      | cons g s2 =>
      refine s_callb mt st K.cb75 (vs := [pv b]) rfl (take_cons b k1 g s2 _ (st.sat _ (.head _))) rfl (fun a w v o mt st ⟨hv, ho⟩ => ?_) (fun c w o st h => h.elim)
      subst hv; subst ho
      refine step_pure mt (pu_assign rfl) rfl (fun a mt => ?_)
      refine w_nil ?_
      refine w_rs ?_
      refine step_pure mt (pu_move rfl) rfl (fun a mt => ?_)
      refine s_callb mt st K.cb76 (vs := [pv b]) rfl (part_ok b k1 s2 _ (by omega) (st.sat _ (.head _))) rfl (fun a w v o mt st ⟨hle, ho⟩ => ?_) (fun c' w o st ⟨hlt, hc, s', k', ho⟩ => ?_)
      rotate_left
      · subst hc; subst ho
        exact x_then_panic (post_panic mt ⟨st.toKeepB'.1, _, st.toKeepB'.2, by rw [hrd0]; simp only; rw [if_pos hlt], rfl, _, _, rfl⟩)
      subst ho
      simp only at hrd0
      rw [if_neg (by omega)] at hrd0
      refine w_nil ?_
      refine w_rs ?_
      refine step_pure mt (pu_move rfl) rfl (fun a mt => ?_)
      refine s_callb mt st K.cb52 (vs := [pv b]) rfl (ih b (k1 + 1) s2 _ (by simp at hl1; omega) hle (st.sat _ (.head _))) rfl (fun a w v o mt st ⟨xb, s3, k3, hrb, hv, ho⟩ => ?_) (fun c' w o st ⟨hn, hc, s', k', ho⟩ => ?_)
      rotate_left
      · subst hc; subst ho
        exact x_then_panic (post_panic mt ⟨st.toKeepB'.1, _, st.toKeepB'.2, by rw [hrd0, hn], rfl, _, _, rfl⟩)
      subst hv; subst ho
      rw [hrb] at hrd0
      simp only at hrd0
      refine step_pure mt (pu_assign rfl) rfl (fun a mt => ?_)
      refine w_nil ?_
      refine w_seq ?_
      refine w_rs ?_
      refine step_pure mt (pu_move rfl) rfl (fun a mt => ?_)
      cases s3 with
      | nil =>
        refine s_callb mt st K.cb75 (vs := [pv b]) rfl (take_nil b k3 _ (st.sat _ (.head _))) rfl (fun a w v o mt st h => h.elim) (fun c w o st ⟨hc, ho⟩ => ?_)
        subst hc; subst ho
        exact x_then_panic (x_then_panic (post_panic mt ⟨st.toKeepB'.1, _, st.toKeepB'.2, hrd0, rfl, _, _, rfl⟩))
      | cons e s4 =>
      refine s_callb mt st K.cb75 (vs := [pv b]) rfl (take_cons b k3 e s4 _ (st.sat _ (.head _))) rfl (fun a w v o mt st ⟨hv, ho⟩ => ?_) (fun c w o st h => h.elim)
      subst hv; subst ho
      simp only at hrd0
      refine step_pure mt (pu_neq rfl rfl) rfl (fun a mt => ?_)
      refine w_nil ?_
      refine w_cond mt rfl (fun h => ?_) (fun h => ?_)
      · rw [if_pos (by omega)] at hrd0
        refine w_region ?_
        refine s_callp mt st K.cb53 (vs := [.int .i64 4]) rfl (fail_ok 4 _) (fun w st => ?_)
        exact x_then_panic (post_panic mt ⟨st.toKeepB'.1, _, st.toKeepB'.2, hrd0, rfl, _, _, rfl⟩)
      · rw [if_neg (by omega)] at hrd0
        refine w_skip ?_
        refine x_then_n ?_
        refine w_seq ?_
        refine w_rs ?_
        refine step_pure mt (pu_move rfl) rfl (fun a mt => ?_)
        refine w_nil ?_
        refine w_block ?_
        refine w_rs ?_
        refine step_pure mt (pu_eql rfl rfl) rfl (fun a mt => ?_)
        refine step_pure mt (pu_assign rfl) rfl (fun a mt => ?_)
        refine w_nil ?_
        refine w_cond mt rfl (fun h1 => ?_) (fun h1 => ?_)
        · rw [if_pos (by omega)] at hrd0
          refine w_rs ?_
          refine step_pure mt (pu_move rfl) rfl (fun a mt => ?_)
          refine step_pure mt (pu_move rfl) rfl (fun a mt => ?_)
          refine step_pure mt (pu_build K.pl110 K.ze110 rfl (by simp [Instr.fill, one_cells (enc_one _)]; rfl)) rfl (fun a mt => ?_)
          refine step_pure mt ((pu_makeInterface K.co110 rfl).to (u := enc (.and xa xb)) rfl) rfl (fun a mt => ?_)
          refine step_pure mt (pu_assign rfl) rfl (fun a mt => ?_)
          refine w_nil ?_
          refine w_ret (x_block_ret (x_then_ret ?_))
          refine post_ret1 mt rfl rfl ?_
          exact ⟨st.toKeepB'.1, _, st.toKeepB'.2, .and xa xb, s4, k3, hrd0, rfl, rfl⟩
        · rw [if_neg (by omega)] at hrd0
          refine w_rs ?_
          refine step_pure mt (pu_eql rfl rfl) rfl (fun a mt => ?_)
          refine step_pure mt (pu_assign rfl) rfl (fun a mt => ?_)
          refine w_nil ?_
          refine w_cond mt rfl (fun h2 => ?_) (fun h2 => ?_)
          · rw [if_pos (by omega)] at hrd0
            refine w_rs ?_
            refine step_pure mt (pu_move rfl) rfl (fun a mt => ?_)
            refine step_pure mt (pu_move rfl) rfl (fun a mt => ?_)
            refine step_pure mt (pu_build K.pl111 K.ze111 rfl (by simp [Instr.fill, one_cells (enc_one _)]; rfl)) rfl (fun a mt => ?_)
            refine step_pure mt ((pu_makeInterface K.co111 rfl).to (u := enc (.or xa xb)) rfl) rfl (fun a mt => ?_)
            refine step_pure mt (pu_assign rfl) rfl (fun a mt => ?_)
            refine w_nil ?_
            refine w_ret (x_block_ret (x_then_ret ?_))
            refine post_ret1 mt rfl rfl ?_
            exact ⟨st.toKeepB'.1, _, st.toKeepB'.2, .or xa xb, s4, k3, hrd0, rfl, rfl⟩
          · rw [if_neg (by omega)] at hrd0
            refine w_rs ?_
            refine step_pure mt (pu_eql rfl rfl) rfl (fun a mt => ?_)
            refine step_pure mt (pu_assign rfl) rfl (fun a mt => ?_)
            refine w_nil ?_
            refine w_cond mt rfl (fun h3 => ?_) (fun h3 => ?_)
            · rw [if_pos (by omega)] at hrd0
              refine w_rs ?_
              refine step_pure mt (pu_move rfl) rfl (fun a mt => ?_)
              refine step_pure mt (pu_move rfl) rfl (fun a mt => ?_)
              refine step_pure mt (pu_build K.pl73 K.ze73 rfl (by simp [Instr.fill, one_cells (enc_one _)]; rfl)) rfl (fun a mt => ?_)
              refine step_pure mt ((pu_makeInterface K.co73 rfl).to (u := enc (.imp xa xb)) rfl) rfl (fun a mt => ?_)
              refine step_pure mt (pu_assign rfl) rfl (fun a mt => ?_)
              refine w_nil ?_
              refine w_ret (x_block_ret (x_then_ret ?_))
              refine post_ret1 mt rfl rfl ?_
              exact ⟨st.toKeepB'.1, _, st.toKeepB'.2, .imp xa xb, s4, k3, hrd0, rfl, rfl⟩
            · rw [if_neg (by omega)] at hrd0
              refine w_skip ?_
              refine x_block_n ?_
              refine x_then_n ?_
              refine w_rs ?_
              refine s_callp mt st K.cb53 (vs := [.int .i64 4]) rfl (fail_ok 4 _) (fun w st => ?_)
              exact x_then_panic (post_panic mt ⟨st.toKeepB'.1, _, st.toKeepB'.2, hrd0, rfl, _, _, rfl⟩)
end Go.Proofs.YtoilfakpgcjjpaaDoor.Log
namespace Go.Proofs.YtoilfakpgcjjpaaDoor.Eng
open Go Go.RowKit
set_option linter.unusedVariables false
set_option linter.unusedSimpArgs false
/-- more deferred calls below those that an activation has -/
def plus (a : Act) (ds : List Deferred) : Act := { a with defers := a.defers ++ ds }
theorem plus_eval (a : Act) (ds : List Deferred) : (plus a ds).eval = a.eval := by funext x; cases x <;> rfl
theorem plus_put (a : Act) (ds : List Deferred) (d : Option Tmp) (v : Value) : (plus a ds).put d v = plus (a.put d v) ds := by cases d <;> rfl
theorem plus_tmps (a : Act) (ds : List Deferred) : (plus a ds).tmps = a.tmps := rfl
theorem upon_plus {P : Program} {o : Oper} {Q : Exit → Act → World → Prop} {ds : List Deferred} {next next' : Act → World → Prop} (h : ∀ a w, next a w → next' (plus a ds) w) {a : Act}
    (r : Result Next) (hr : o.upon P a next (fun e a w => Q e (plus a ds) w) r) : o.upon P (plus a ds) next' Q r := by
  cases r with
  | halt hl w' => cases hl <;> first | exact hr | exact hr.elim
  | ok x w' =>
    cases x with
    | value v => show next' ((plus a ds).put o.dst v) w'; rw [plus_put]; exact h _ _ hr
    | skip => show next' ((plus a ds).put o.dst undef) w'; rw [plus_put]; exact h _ _ hr
    | defer d =>
      show next' ({ plus a ds with defers := d :: (plus a ds).defers }.put o.dst undef) w'
      have e : ({ plus a ds with defers := d :: (plus a ds).defers } : Act) = plus { a with defers := d :: a.defers } ds := rfl
      rw [e, plus_put]
      exact h _ _ hr
    | enter f args =>
      refine Calls.mono (R := fun
        | .returned v, w'' => next (a.put o.dst v) w''
        | .panicked chain, w'' => Q (.panic chain) (plus a ds) w''
        | .outgrown, _ => LetsOut (fun e a w => Q e (plus a ds) w)) hr fun e w'' hR => ?_
      cases e with
      | returned v => show next' ((plus a ds).put o.dst v) w''; rw [plus_put]; exact h _ _ hR
      | panicked c => exact hR
      | outgrown => obtain ⟨a0, w0, h0⟩ := hR; exact ⟨_, _, h0⟩
    | row row args =>
      refine Rows.mono (R := fun v w'' => next (a.put o.dst v) w'') hr fun v w'' hR => ?_
      rw [plus_put]
      exact h _ _ hR
    | _ => exact hr.elim
theorem asks_plus {P : Program} {o : Oper} {a : Act} {w : World} {ds : List Deferred} (h : o.asks P a w) : o.asks P (plus a ds) w := by
  unfold Oper.asks at *
  rw [plus_eval]
  exact h
/-- a region is walked as if nothing were deferred -/
theorem wpList_plus {P : Program} {ops : Array Oper} {Q : Exit → Act → World → Prop} (ds : List Deferred) : ∀ (l : List Oper) (a : Act) (w : World), wpList P ops (fun e a w => Q e (plus a ds) w) l a w → wpList P ops Q l (plus a ds) w := by
  intro l
  induction l with
  | nil => exact fun a w h => h
  | cons o l ih =>
    intro a w h
    unfold wpList at h ⊢
    rw [plus_tmps]
    split
    · rename_i hw
      rw [if_pos hw] at h
      rcases h with h | ⟨h1, h2⟩
      · refine .inl ?_
        unfold Oper.wp at h ⊢
        rw [plus_eval]
        exact upon_plus (fun a w h => ih a w h) _ h
      · exact .inr ⟨asks_plus h1, let ⟨a0, w0, h0⟩ := h2; ⟨_, _, h0⟩⟩
    · rename_i hw
      rw [if_neg hw] at h
      rw [plus_put]
      exact ih _ _ h
theorem mt_init {nn : Nat} {args : Array Value} {ns : Nat} (hn : ns = nn) (hle : Nat.ble args.size nn = true) : Mt nn { tmps := args ++ Array.replicate (ns - args.size) undef, defers := [] } (initL args.toList 0) := by
  replace hle := Nat.le_of_ble_eq_true hle
  refine ⟨by simp [hn]; omega, rfl, ?_⟩
  intro t v hv
  have key : ∀ (l : List Value) (o : Nat), look (initL l o) t = some v → o ≤ t ∧ l[t - o]? = some v := by
    intro l
    induction l with
    | nil => intro o h; simp [look, initL] at h
    | cons x l ih =>
      intro o h
      simp only [initL, look] at h
      cases hb : Nat.beq o t with
      | true =>
        rw [hb] at h
        have := Nat.eq_of_beq_eq_true hb
        subst this
        simp only [cond_true, Option.some.injEq] at h
        simp [h]
      | false =>
        rw [hb] at h
        have hne := beq_false hb
        obtain ⟨h1, h2⟩ := ih (o + 1) h
        refine ⟨by omega, ?_⟩
        rw [show t - o = (t - (o + 1)) + 1 by omega]
        simpa using h2
  have := (key args.toList 0 hv).2
  simp only [Nat.sub_zero] at this
  have hlt : t < args.size := by
    rcases Nat.lt_or_ge t args.size with h | h
    · exact h
    · simp [List.getElem?_eq_none (l := args.toList) (by simpa using h)] at this
  simp only [Array.getD_eq_getD_getElem?]
  rw [Array.getElem?_append_left hlt]
  simp at this
  simp [this]
/-- a function that defers calls -/
theorem CallsX.ofD {P : Program} {f : FuncId} {fn : Func} {c : Code} {args : Array Value} {w : World} {R : Ending → World → Prop} {nn : Nat}
    (hf : P.funcs[f]? = some fn) (hb : fn.body = some c) (hn : fn.ntmps = nn) (hle : Nat.ble args.size nn = true)
    (h : ∀ a, Mt nn a (initL args.toList 0) → c.wp P (bodyPostD P fn R) a w) : Calls P f args w R :=
  calls_of_wp_defers hf hb (h _ (mt_init hn hle))
/-- a deferred call of a function value -/
theorem step_defer1 {P : Program} {ops : Array Oper} {Q : Exit → Act → World → Prop} {a : Act} {w : World} {n : Nat} {L : List (Nat × Value)} {rest : List Oper} {x : Operand} {fv : Fn} {ca : Array Value} {ty : TypeId} {pos : String} {af : Array Edge}
    (mt : Mt n a L) (hx : ev L x = some (.func fv #[] ca)) (k : wpList P ops Q rest (plus a [{ target := .fn fv ca, args := #[] }]) w) :
    wpList P ops Q (⟨none, .defer { callee := .value x, args := #[], argTypes := #[] }, ty, pos, af, none⟩ :: rest) a w := by
  refine wpList_plain rfl fun K hK => ?_
  unfold Oper.wp
  have : (execOp a.eval ⟨none, .defer { callee := .value x, args := #[], argTypes := #[] }, ty, pos, af, none⟩).run P w = .ok (.defer { target := .fn fv ca, args := #[] }) w := by
    simp [execOp, resolve, Deferred.ofValue, mt.ev hx]
  rw [this]
  refine hK _ _ ?_
  have e : ({ a with defers := { target := .fn fv ca, args := #[] } :: a.defers } : Act) = plus a [{ target := .fn fv ca, args := #[] }] := by
    simp [plus, mt.defers]
  show wpList P ops Q rest ({ a with defers := { target := .fn fv ca, args := #[] } :: a.defers }.put none undef) w
  rw [e]
  exact k
section
variable {P : Program} {f : FuncId} {fn : Func} {c : Code} {args : Array Value} {w : World} {R : Ending → World → Prop} {nn id : Nat} {d : Nat} {ty : TypeId} {pos : String} {af : Array Edge}
/-- a deferred function that begins with recover, in a frame that panics -/
theorem callsD_rec {v : Value} {older : List PanicEntry} (hf : P.funcs[f]? = some fn) (hb : fn.body = some ((Code.region id [(⟨some d, .call { callee := .builtin .recover, args := #[], argTypes := #[] }, ty, pos, af, none⟩ : Oper)].toArray false).seq c)) (hn : fn.ntmps = nn) (hle : Nat.ble args.size nn = true) (hd : Nat.blt d nn = true)
    (h : ∀ a, Mt nn a ((d, v) :: initL args.toList 0) → c.wp P (bodyPost P fn R) a w) :
    CallsD P f args (.panicking ({ v, recovered := false } :: older)) w fun e u' w' => u' = .panicking ({ v, recovered := true } :: older) ∧ R e w' := by
  refine callsD_of_wpS hf hb fun c₀ cs hu => ?_
  have mt := mt_init (args := args) hn hle
  apply wpS_seq
  apply wpS_region
  have hr : recoverD (c₀ :: cs) = some (v, { c₀ with mode := .panicking ({ v, recovered := true } :: older) } :: cs) := by simp [recoverD, hu]
  simp [wpOpsS, go_sem, Exit.thenS, hr]
  refine wpS_of_wp (wp_mono (h _ (mt.put d v hd)) fun e a w q => ?_)
  cases e with
  | normal => obtain ⟨h1, v', h2, h3⟩ := q; exact ⟨h1, _, rfl, v', h2, rfl, h3⟩
  | ret => obtain ⟨h1, v', h2, h3⟩ := q; exact ⟨h1, _, rfl, v', h2, rfl, h3⟩
  | panic ch => obtain ⟨h1, h3⟩ := q; exact ⟨h1, _, rfl, rfl, h3⟩
  | outgrown => exact ⟨_, rfl, q⟩
  | exit i => exact q.elim
  | goto l => exact q.elim
/-- and in a frame that returns -/
theorem callsD_rec0 (hf : P.funcs[f]? = some fn) (hb : fn.body = some ((Code.region id [(⟨some d, .call { callee := .builtin .recover, args := #[], argTypes := #[] }, ty, pos, af, none⟩ : Oper)].toArray false).seq c)) (hn : fn.ntmps = nn) (hle : Nat.ble args.size nn = true) (hd : Nat.blt d nn = true)
    (h : ∀ a, Mt nn a ((d, .nilIface) :: initL args.toList 0) → c.wp P (bodyPost P fn R) a w) :
    CallsD P f args .returning w fun e u' w' => u' = .returning ∧ R e w' := by
  refine callsD_of_wpS hf hb fun c₀ cs hu => ?_
  have mt := mt_init (args := args) hn hle
  apply wpS_seq
  apply wpS_region
  have hr : recoverD (c₀ :: cs) = none := by simp [recoverD, hu]
  simp [wpOpsS, go_sem, Exit.thenS, hr]
  refine wpS_of_wp (wp_mono (h _ (mt.put d .nilIface hd)) fun e a w q => ?_)
  have hc : ({ c₀ with mode := .returning } : Frame) = c₀ := by rw [← hu]
  cases e with
  | normal => obtain ⟨h1, v', h2, h3⟩ := q; exact ⟨h1, .returning, by rw [hc], v', h2, rfl, h3⟩
  | ret => obtain ⟨h1, v', h2, h3⟩ := q; exact ⟨h1, .returning, by rw [hc], v', h2, rfl, h3⟩
  | panic ch => obtain ⟨h1, h3⟩ := q; exact ⟨h1, .returning, by rw [hc], rfl, h3⟩
  | outgrown => exact ⟨.returning, rfl, q⟩
  | exit i => exact q.elim
  | goto l => exact q.elim
end
end Go.Proofs.YtoilfakpgcjjpaaDoor.Eng
