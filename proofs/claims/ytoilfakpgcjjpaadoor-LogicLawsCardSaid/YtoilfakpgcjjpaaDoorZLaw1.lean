/- For every input the law LogicLaws returns true, and its arguments read afterwards as they read before; the package's list of rules holds what the program's text lays there. -/
import Derived.Test.YtoilfakpgcjjpaaDoorRows
import Derived.Test.YtoilfakpgcjjpaaDoorTie
import Derived.Test.YtoilfakpgcjjpaaDoorCards
import Derived.WalkKit
import Derived.ProofKit
import Derived.LaidMore
import Derived.OpenShut
import Derived.ShutString
import Derived.ChangeOld
import Derived.Below
import Derived.SizedLaws
import Derived.Stop.Joined
import Derived.Test.YtoilfakpgcjjpaaDoorZb4
namespace Go.Proofs.YtoilfakpgcjjpaaDoor.Row
open Go Go.ChangeShapes Go.WideShapes Go.ChangeAt Go.RowKit Go.Proofs.YtoilfakpgcjjpaaDoor Go.Proofs.YtoilfakpgcjjpaaDoor.Eng Go.Proofs.YtoilfakpgcjjpaaDoor.Log
open Go.ChangeMaps (open_string shut_string)
set_option linter.unusedVariables false
set_option linter.unusedSimpArgs false
set_option maxRecDepth 100000
theorem own : ownKnob Tryd.prog.godebug = none := by kernel_rfl
theorem laidOut : laidOutB Tryd.prog = true := by kernel_rfl
def laid : List (String × DataW Unit) := [("turndown/logic.safe", Rows.laid_turndown_logic_safe)]
theorem door_met (os : Os) (args : Array Value) : laidMetH Tryd.prog laid ((World.doorLaid Tryd.prog 400 os).forCall (fun _ _ => 0) ⟨#[], args, []⟩).memory :=
  laidMetH_of_parts3 (fuel := 8) (laidMet_of_run' 8 (by kernel_rfl) (by kernel_rfl)) (by kernel_rfl) (by kernel_rfl)
theorem door_shaped (os : Os) (args : Array Value) : ((World.doorLaid Tryd.prog 400 os).forCall (fun _ _ => 0) ⟨#[], args, []⟩).Shaped Tryd.prog := World.shaped_of_RefB (by kernel_rfl) (by kernel_rfl)
theorem gSafe : Tryd.prog.globalNamed "turndown/logic.safe" = some 0 := by kernel_rfl
theorem tSafe : (Tryd.prog.globals[0]?).map (·.type) = some 42 := by kernel_rfl
/-- a slice whose cells are known reads -/
theorem rdS_cells {w : World} {a : Option Addr} {len cap : Nat} {vs : List Value} (hl : vs.length = len) (h1 : len ≤ cap) (h2 : cap ≤ maxLen) (hc : ∀ j u, vs[j]? = some u → ∃ x, a = some x ∧ w.cell? (x.add j) = some u) : RdS (hp w) (.slice a len cap) 1 len vs := by
  refine ⟨a, cap, rfl, h1, h2, by simpa using hl, fun j u hu => ?_⟩
  have hj := (List.getElem?_eq_some_iff.1 hu).1
  have h0 : vs[0]? = some (vs[0]'(by omega)) := List.getElem?_eq_getElem (by omega)
  obtain ⟨x, rfl, hx0⟩ := hc 0 _ h0
  obtain ⟨x', e, hx⟩ := hc j u hu
  cases e
  have hs : x.spot = none := by
    have e0 : x.add 0 = x := by simp [Addr.add]
    rw [e0] at hx0
    unfold World.cell? at hx0
    split at hx0
    · split at hx0
      · cases hx0
      · rename_i h; simpa using h
    · cases hx0
  obtain ⟨b, o, sp⟩ := x
  simp only at hs
  subst hs
  refine ⟨b, o, rfl, ?_⟩
  rw [cellI_hp, ← Eng.add_plain]; exact hx
theorem lits_get {k : IntKind} {l : List Int} {x : List (DataW Unit)} (h : DataW.slice (H := Unit) (lits k l) x = DataW.slice (lits k []) []) : l = [] := by
  simp [lits] at h; exact h.1
theorem lits_inj {H : Type} {k : IntKind} : ∀ {l m : List Int}, lits (H := H) k l = lits k m → l = m
  | [], [], _ => rfl
  | [], _ :: _, h => by simp [lits] at h
  | _ :: _, [], h => by simp [lits] at h
  | x :: l, y :: m, h => by
    simp only [lits, List.map_cons, List.cons.injEq, DataW.lit.injEq, Lit.int.injEq, true_and] at h
    obtain ⟨h1, h2⟩ := h
    have := lits_inj (k := k) (l := l) (m := m) h2
    subst this; subst h1; rfl
theorem of_laid {W : World} (h : laidMetH Tryd.prog laid W) : Gl (hp W) := by
  rw [MakeChecks.laidMetH_plain _ _ _ (by kernel_rfl)] at h
  obtain ⟨ps, ⟨g0, t0, cs0, f0, p0, q0, hg0, ht0, hv0, hd0, _, _⟩, _, _⟩ := h
  obtain rfl := Option.some.inj (gSafe.symm.trans hg0)
  obtain rfl := Option.some.inj (tSafe.symm.trans ht0)
  have e : Rows.laid_turndown_logic_safe (H := Unit) = .slice (lits .i64 safeR) [] := rfl
  rcases open_ints Tryd.underlying42 Tryd.underlying3 (by kernel_rfl) hd0 with ⟨_, hx⟩ | ⟨a, len, cap, zs, hcs, _, hl, hm, hz, hx, hcell, _⟩
  · rw [e] at hx; simp [lits, safeR] at hx
  · rw [e] at hx
    simp only [Prod.mk.injEq, DataW.slice.injEq] at hx
    obtain ⟨⟨h1, h2⟩, _⟩ := hx
    have h5 : zs.drop len = [] := lits_inj (m := []) h2.symm
    have hzc : zs.length = cap := by simpa using hz
    have hzs : zs.length = len := by
      have := congrArg List.length h5
      simp at this; omega
    have h3 : zs.take len = zs := by rw [List.take_of_length_le (by omega)]
    rw [h3] at h1
    have h4 := lits_inj h1
    subst h4
    have hlen : len = 9 := by rw [← hzs]; rfl
    subst hlen
    refine ⟨.slice (some a) 9 cap, ?_, rdS_cells rfl hl hm fun j u hu => ⟨a, rfl, ?_⟩⟩
    · have := World.var?_cell hg0 hv0 0
      rw [Array.eq_one_of_toList hcs] at this
      rw [cellI_hp]
      simpa using this
    · have hj : j < safeR.length := by have := (List.getElem?_eq_some_iff.1 hu).1; simpa [rulesV] using this
      rw [hcell j hj]
      simp only [rulesV, List.getElem?_map, Option.map_eq_some_iff] at hu
      obtain ⟨z, hz1, rfl⟩ := hu
      simp [hz1]
theorem str_of (a : ByteArray) : a = str a.data.toList := by
  cases a; simp [str]
end Go.Proofs.YtoilfakpgcjjpaaDoor.Row
namespace Go.Proofs.YtoilfakpgcjjpaaDoor.Log
open Go Go.RowKit Go.Proofs.YtoilfakpgcjjpaaDoor Go.Proofs.YtoilfakpgcjjpaaDoor.Eng
set_option linter.unusedVariables false
set_option linter.unusedSimpArgs false
set_option maxRecDepth 100000
def errO (o : Option Fm) : Int := match o with | some _ => 0 | none => 4
def clO (o : Option Fm) : Bool := match o with | some x => clF x | none => false
def negS (o : Option Fm) : List UInt8 := match o with | some x => if 12 < parts x + 2 then [] else shw (.imp x .fls) | none => []
def negE (o : Option Fm) : Int := match o with | some x => if 12 < parts x + 2 then 2 else 0 | none => 4
theorem Classical2_ok (s : List UInt8) (w : World) : CallsX Tryd.prog 15 #[.string (str s)] w fun v _ => v = .tuple #[.bool (clO (fmOf s)), .int .i64 (errO (fmOf s))] :=
  (Classical_ok s w).mono fun v w' _ h => by rw [h]; cases fmOf s <;> rfl
theorem Negate2_ok (s : List UInt8) (w : World) : CallsX Tryd.prog 16 #[.string (str s)] w fun v _ => v = .tuple #[.string (str (negS (fmOf s))), .int .i64 (negE (fmOf s))] :=
  (Negate_ok s w).mono fun v w' _ h => by
    rw [h]
    cases fmOf s with
    | none => rfl
    | some x =>
      simp only [negS, negE]
      split <;> rfl
theorem short_len (s : List UInt8) : (shortF s).length ≤ 200 := by unfold shortF; rw [List.length_take]; omega
theorem LogicClassical_ok {I : Hp} (s : List UInt8) (w : World) (hI : Sub I (hp w)) (hG : Gl I) : CallsX Tryd.prog 3 #[.string (str s)] w fun v _ => v = .bool true := by
  have st := St.start (w0 := w) (I0 := I) hI
  refine CallsX.of (nn := 72) Tryd.func3 rfl rfl rfl (fun a mt => ?_)
  refine w_rs ?_
  refine step_pure mt (pu_assign rfl) rfl (fun a mt => ?_)
  refine w_nil ?_
  refine w_rs ?_
  refine step_pure mt (pu_move rfl) rfl (fun a mt => ?_)
  refine s_callv mt st K.cb14 (vs := [.string (str s)]) rfl (short_ok s _) rfl (fun a w' mt st => ?_)
  have hl := short_len s
  generalize shortF s = s' at *
  have hfm := isFm_fmOf s'
  refine step_pure mt (pu_assign rfl) rfl (fun a mt => ?_)
  refine w_nil ?_
  refine w_rs ?_
  refine step_pure mt (pu_move rfl) rfl (fun a mt => ?_)
  refine s_callv mt st K.cb15 (vs := [.string (str s')]) rfl (Classical2_ok s' _) rfl (fun a w' mt st => ?_)
  refine step_pure mt (pu_move rfl) rfl (fun a mt => ?_)
  refine step_pure mt (pu_extract rfl rfl) rfl (fun a mt => ?_)
  refine step_pure mt (pu_extract rfl rfl) rfl (fun a mt => ?_)
  refine step_pure mt (pu_assign rfl) rfl (fun a mt => ?_)
  refine step_pure mt (pu_assign rfl) rfl (fun a mt => ?_)
  refine w_nil ?_
  refine w_rs ?_
  refine step_pure mt (pu_move rfl) rfl (fun a mt => ?_)
  refine s_callv mt st K.cb16 (vs := [.string (str s')]) rfl (Negate2_ok s' _) rfl (fun a w' mt st => ?_)
  refine step_pure mt (pu_move rfl) rfl (fun a mt => ?_)
  refine step_pure mt (pu_extract rfl rfl) rfl (fun a mt => ?_)
  refine step_pure mt (pu_extract rfl rfl) rfl (fun a mt => ?_)
  refine step_pure mt (pu_assign rfl) rfl (fun a mt => ?_)
  refine step_pure mt (pu_assign rfl) rfl (fun a mt => ?_)
  refine w_nil ?_
  refine w_seq ?_
  refine w_rs ?_
  refine step_pure mt (pu_move rfl) rfl (fun a mt => ?_)
  refine s_callv mt st K.cb17 (vs := [.string (str s'), .int .i64 ((12 : Nat) : Int)]) rfl (Formula_ok 12 s' _ (by omega)) rfl (fun a w' mt st => ?_)
  cases hx : fmOf s' with
  | none =>
    rw [hx] at mt hfm
    rw [show isFm 12 s' = false from hfm] at mt
    refine step_pure mt (pu_not rfl) rfl (fun a mt => ?_)
    refine w_nil ?_
    refine w_true mt rfl ?_
    refine w_rs ?_
    refine step_pure mt (pu_move rfl) rfl (fun a mt => ?_)
    refine step_pure mt (pu_not rfl) rfl (fun a mt => ?_)
    refine step_pure mt (pu_move rfl) rfl (fun a mt => ?_)
    refine step_pure_g mt rfl rfl (pu_move rfl) rfl (fun a mt => ?_)
    refine step_pure_g mt rfl rfl ((pu_eql rfl rfl).tob (j := true) rfl) rfl (fun a mt => ?_)
    refine step_pure mt (pu_pick rfl rfl) rfl (fun a mt => ?_)
    refine step_pure mt (pu_move rfl) rfl (fun a mt => ?_)
    refine step_pure_g mt rfl rfl (pu_move rfl) rfl (fun a mt => ?_)
    refine step_pure_g mt rfl rfl ((pu_eql_str rfl rfl).tob (j := true) rfl) rfl (fun a mt => ?_)
    refine step_pure mt (pu_pick rfl rfl) rfl (fun a mt => ?_)
    refine step_pure mt (pu_move rfl) rfl (fun a mt => ?_)
    refine step_pure_g mt rfl rfl (pu_move rfl) rfl (fun a mt => ?_)
    refine step_pure_g mt rfl rfl ((pu_eql rfl rfl).tob (j := true) rfl) rfl (fun a mt => ?_)
    refine step_pure mt (pu_pick rfl rfl) rfl (fun a mt => ?_)
    refine step_pure mt (pu_move rfl) rfl (fun a mt => ?_)
    refine s_callv_g mt st rfl rfl K.cb18 (vs := []) rfl (awake_ok _ st.agr (hG.mono st.sub0)) rfl (fun a w' mt st => ?_)
    refine step_pure mt (pu_pick rfl rfl) rfl (fun a mt => ?_)
    refine step_pure mt (pu_assign rfl) rfl (fun a mt => ?_)
    refine w_nil ?_
    refine w_ret (x_then_ret ?_)
    refine post_ret1 mt rfl rfl ?_
    exact ⟨_, rfl, st.below, rfl⟩
  | some x =>
    rw [hx] at mt hfm
    rw [show isFm 12 s' = true from hfm] at mt
    obtain ⟨hats, rfl, hpa⟩ := fmOf_iff.1 hx
    refine step_pure mt (pu_not rfl) rfl (fun a mt => ?_)
    refine w_nil ?_
    refine w_false mt rfl ?_
    refine w_skip ?_
    refine x_then_n ?_
    refine w_seq ?_
    refine w_rs ?_
    refine step_pure mt (pu_move rfl) rfl (fun a mt => ?_)
    refine step_pure mt (pu_move rfl) rfl (fun a mt => ?_)
    refine s_callv mt st K.cb19 (vs := [.string (str (shw x))]) rfl (RClassical_ok x hats (by omega) _) rfl (fun a w' mt st => ?_)
    refine step_pure mt ((pu_neq_b rfl rfl K.un4).tob (j := false) (by simp [clO])) rfl (fun a mt => ?_)
    refine step_pure mt (pu_move rfl) rfl (fun a mt => ?_)
    refine step_pure_g mt rfl rfl (pu_move rfl) rfl (fun a mt => ?_)
    refine step_pure_g mt rfl rfl ((pu_neq rfl rfl).tob (j := false) rfl) rfl (fun a mt => ?_)
    refine step_pure mt (pu_pick rfl rfl) rfl (fun a mt => ?_)
    refine w_nil ?_
    refine w_false mt rfl ?_
    refine w_skip ?_
    refine x_then_n ?_
    refine w_seq ?_
    refine w_rs ?_
    refine step_pure mt (pu_move rfl) rfl (fun a mt => ?_)
    refine s_callv mt st K.cb20 (vs := [.string (str (shw x))]) rfl (Size_ok (shw x) _ (by omega)) rfl (fun a w' mt st => ?_)
    rw [szF_shw hats] at mt
    refine step_pure mt (pu_add_i rfl rfl (by omega)) rfl (fun a mt => ?_)
    refine step_pure mt (pu_gtr rfl rfl) rfl (fun a mt => ?_)
    refine w_nil ?_
    refine w_cond mt rfl (fun h50 => ?_) (fun h50 => ?_)
    · have hn1 : negS (some x) = [] := by unfold negS; simp only; rw [if_pos (by omega)]
      have hn2 : negE (some x) = 2 := by unfold negE; simp only; rw [if_pos (by omega)]
      rw [hn1, hn2] at mt
      refine w_rs ?_
      refine step_pure mt (pu_move rfl) rfl (fun a mt => ?_)
      refine step_pure mt ((pu_eql_str rfl rfl).tob (j := true) rfl) rfl (fun a mt => ?_)
      refine step_pure mt (pu_move rfl) rfl (fun a mt => ?_)
      refine step_pure_g mt rfl rfl (pu_move rfl) rfl (fun a mt => ?_)
      refine step_pure_g mt rfl rfl ((pu_eql rfl rfl).tob (j := true) rfl) rfl (fun a mt => ?_)
      refine step_pure mt (pu_pick rfl rfl) rfl (fun a mt => ?_)
      refine step_pure mt (pu_move rfl) rfl (fun a mt => ?_)
      refine s_callv_g mt st rfl rfl K.cb18 (vs := []) rfl (awake_ok _ st.agr (hG.mono st.sub0)) rfl (fun a w' mt st => ?_)
      refine step_pure mt (pu_pick rfl rfl) rfl (fun a mt => ?_)
      refine step_pure mt (pu_assign rfl) rfl (fun a mt => ?_)
      refine w_nil ?_
      refine w_ret (x_then_ret ?_)
      refine post_ret1 mt rfl rfl ?_
      exact ⟨_, rfl, st.below, rfl⟩
    · have hn1 : negS (some x) = [40] ++ shw x ++ [62, 102, 41] := by unfold negS; simp only; rw [if_neg (by omega)]; simp [shw]
      have hn2 : negE (some x) = 0 := by unfold negE; simp only; rw [if_neg (by omega)]
      rw [hn1, hn2] at mt
      refine w_skip ?_
      refine x_then_n ?_
      refine w_rs ?_
      refine step_pure mt (pu_move rfl) rfl (fun a mt => ?_)
      refine step_pure mt (pu_move rfl) rfl (fun a mt => ?_)
      refine step_pure mt (pu_cat_str (i := [40]) rfl rfl (by simp; omega)) rfl (fun a mt => ?_)
      refine step_pure mt (pu_cat_str (j := [62, 102, 41]) rfl rfl (by simp; omega)) rfl (fun a mt => ?_)
      refine step_pure mt ((pu_eql_str rfl rfl).tob (j := true) (decide_eq_true rfl)) rfl (fun a mt => ?_)
      refine step_pure mt (pu_move rfl) rfl (fun a mt => ?_)
      refine step_pure_g mt rfl rfl (pu_move rfl) rfl (fun a mt => ?_)
      refine step_pure_g mt rfl rfl ((pu_eql rfl rfl).tob (j := true) rfl) rfl (fun a mt => ?_)
      refine step_pure mt (pu_pick rfl rfl) rfl (fun a mt => ?_)
      refine step_pure mt (pu_move rfl) rfl (fun a mt => ?_)
      refine s_callv_g mt st rfl rfl K.cb18 (vs := []) rfl (awake_ok _ st.agr (hG.mono st.sub0)) rfl (fun a w' mt st => ?_)
      refine step_pure mt (pu_pick rfl rfl) rfl (fun a mt => ?_)
      refine step_pure mt (pu_assign rfl) rfl (fun a mt => ?_)
      refine w_nil ?_
      refine w_ret ?_
      refine post_ret1 mt rfl rfl ?_
      exact ⟨_, rfl, st.below, rfl⟩
end Go.Proofs.YtoilfakpgcjjpaaDoor.Log
namespace Go.Proofs.YtoilfakpgcjjpaaDoor.Log
open Go Go.RowKit Go.Proofs.YtoilfakpgcjjpaaDoor Go.Proofs.YtoilfakpgcjjpaaDoor.Eng
set_option linter.unusedVariables false
set_option linter.unusedSimpArgs false
/-! ### bits -/
theorem bitN_test (t k : Nat) : bitN t k = t.testBit k := by
  unfold bitN
  rw [Nat.testBit_eq_decide_div_mod_eq]
theorem subN_bits {t u : Nat} (ht : t < 4096) : subN t u = true ↔ ∀ i, i < 12 → bitN t i = true → bitN u i = true := by
  rw [subN_iff]
  constructor
  · intro h i hi; rw [bitN_test, bitN_test]; exact h i (by omega)
  · intro h i hi hti
    rcases Nat.lt_or_ge i 12 with h12 | h12
    · rw [← bitN_test] at hti ⊢; exact h i h12 hti
    · have : t < 2 ^ i := Nat.lt_of_lt_of_le ht (by rw [show (4096 : Nat) = 2 ^ 12 from rfl]; exact Nat.pow_le_pow_right (by decide) h12)
      rw [Nat.testBit_lt_two_pow this] at hti; cases hti
theorem subN_refl (t : Nat) : subN t t = true := subN_iff.2 fun _ _ h => h
theorem subN_trans {t u v : Nat} (h : subN t u = true) (k : subN u v = true) : subN t v = true := subN_iff.2 fun i hi ht => subN_iff.1 k i hi (subN_iff.1 h i hi ht)
theorem bits_of : ∀ (n : Nat) (p : Nat → Bool), ∃ t, t < 2 ^ n ∧ ∀ i, i < n → bitN t i = p i
  | 0, p => ⟨0, by simp, fun i hi => by omega⟩
  | n + 1, p => by
    obtain ⟨t, ht, h⟩ := bits_of n p
    have h2 : 2 ^ (n + 1) = 2 ^ n + 2 ^ n := by rw [Nat.pow_succ]; omega
    cases hp : p n with
    | false =>
      refine ⟨t, by omega, fun i hi => ?_⟩
      rcases Nat.lt_or_ge i n with h3 | h3
      · exact h i h3
      · have : i = n := by omega
        subst this
        rw [hp, bitN_test, Nat.testBit_lt_two_pow ht]
    | true =>
      refine ⟨2 ^ n + t, by omega, fun i hi => ?_⟩
      rcases Nat.lt_or_ge i n with h3 | h3
      · rw [← h i h3, bitN_test, bitN_test, Nat.testBit_two_pow_add_gt h3]
      · have : i = n := by omega
        subst this
        rw [hp, bitN_test, Nat.testBit_two_pow_add_eq, Nat.testBit_lt_two_pow ht]; rfl
/-! ### the list of parts -/
theorem nodup_put {x : Fm} {xs : List Fm} (h : xs.Nodup) : (putF x xs).Nodup := by
  unfold putF
  split
  · exact h
  · rename_i hn
    rw [List.nodup_append]
    refine ⟨h, by simp, fun a ha b hb => ?_⟩
    simp at hb
    subst hb
    rintro rfl
    exact hn (List.any_eq_true.2 ⟨a, ha, by simp⟩)
theorem nodup_add : ∀ (x : Fm) (xs : List Fm), xs.Nodup → (addF x xs).Nodup
  | .fls, xs, h => nodup_put h
  | .atm c, xs, h => nodup_put h
  | .and a b, xs, h => nodup_put (nodup_add b _ (nodup_add a _ h))
  | .or a b, xs, h => nodup_put (nodup_add b _ (nodup_add a _ h))
  | .imp a b, xs, h => nodup_put (nodup_add b _ (nodup_add a _ h))
theorem idxN_get {x : Fm} : ∀ {l : List Fm}, x ∈ l → l[idxN x l]? = some x
  | y :: ys, h => by
    unfold idxN
    split
    · rename_i e; subst e; simp
    · rename_i hne
      have hx : x ∈ ys := by
        cases h with
        | head => exact absurd rfl hne
        | tail _ h => exact h
      simpa using idxN_get hx
theorem idxN_of {x : Fm} : ∀ {l : List Fm} {i : Nat}, l.Nodup → l[i]? = some x → idxN x l = i
  | [], i, _, h => by simp at h
  | y :: ys, 0, _, h => by simp at h; subst h; simp [idxN]
  | y :: ys, i + 1, hn, h => by
    rw [List.nodup_cons] at hn
    have h' : ys[i]? = some x := by simpa using h
    have hx := List.mem_of_getElem? h'
    unfold idxN
    rw [if_neg (by rintro rfl; exact hn.1 hx), idxN_of hn.2 h']
/-- what is asked of the list of parts -/
structure Good (l : List Fm) : Prop where
  nd : l.Nodup
  cl : Closed l
  le : l.length ≤ 12
  at_ : ∀ x ∈ l, ats x
theorem good_add {x : Fm} (hx : ats x) (hp : parts x ≤ 12) : Good (addF x []) :=
  ⟨nodup_add x [] List.nodup_nil, add_closed x hp, by have := addF_len x []; simp at this; omega, fun y hy => isSub_ats (mem_addN.1 hy) hx⟩
/-! ### theories -/
theorem isThF_get {l : List Fm} {t : Nat} (h : isThF l t = true) {i : Nat} {x : Fm} (hx : l[i]? = some x) : thG l t i = true := range_all_get h (List.getElem?_eq_some_iff.1 hx).1
section
variable {l : List Fm} (hg : Good l)
theorem th_fls {t : Nat} (h : isThF l t = true) (hm : Fm.fls ∈ l) : hasF l t .fls = false := by
  have := isThF_get h (idxN_get hm)
  unfold thG at this
  rw [idxN_get hm] at this
  simpa [hasF] using this
theorem th_and {t : Nat} {a b : Fm} (h : isThF l t = true) (hm : Fm.and a b ∈ l) : hasF l t (.and a b) = (hasF l t a && hasF l t b) := by
  have := isThF_get h (idxN_get hm)
  unfold thG at this
  rw [idxN_get hm] at this
  simpa [hasF] using this
theorem th_or {t : Nat} {a b : Fm} (h : isThF l t = true) (hm : Fm.or a b ∈ l) : hasF l t (.or a b) = (hasF l t a || hasF l t b) := by
  have := isThF_get h (idxN_get hm)
  unfold thG at this
  rw [idxN_get hm] at this
  simpa [hasF] using this
theorem th_imp {t : Nat} {a b : Fm} (h : isThF l t = true) (hm : Fm.imp a b ∈ l) : hasF l t (.imp a b) = true → hasF l t a = true → hasF l t b = true := by
  have := isThF_get h (idxN_get hm)
  unfold thG at this
  rw [idxN_get hm] at this
  simp only [hasF] at this ⊢
  intro h1 h2
  rw [h1, h2] at this
  simpa using this
theorem has_sub {t u : Nat} {x : Fm} (hl : l.length ≤ 12) (ht : t < 4096) (h : subN t u = true) (hx : x ∈ l) (hh : hasF l t x = true) : hasF l u x = true :=
  (subN_bits ht).1 h _ (by have := idxN_lt hx; omega) hh
theorem need_iff (hnd : l.Nodup) {t : Nat} {a b : Fm} : (a, b) ∈ needF l t ↔ Fm.imp a b ∈ l ∧ hasF l t (.imp a b) = false := by
  unfold needF needTo
  rw [List.mem_filterMap]
  constructor
  · rintro ⟨i, hi, h⟩
    unfold needG at h
    split at h
    · rename_i a' b' e
      split at h
      · cases h
      · rename_i hb
        cases h
        refine ⟨List.mem_of_getElem? e, ?_⟩
        unfold hasF
        rw [idxN_of hnd e]
        simpa using hb
    · cases h
  · rintro ⟨hm, hh⟩
    have hi := idxN_get hm
    refine ⟨idxN (.imp a b) l, by simpa using idxN_lt hm, ?_⟩
    unfold needG
    rw [hi]
    simp only
    unfold hasF at hh
    rw [hh]; rfl
theorem wit_some {all : List Nat} {t : Nat} {a b : Fm} {u : Nat} (h : witF l all t a b = some u) : u ∈ all ∧ subN t u = true ∧ hasF l u a = true ∧ hasF l u b = false := by
  unfold witF at h
  have h1 := List.find?_some h
  simp only [Bool.and_eq_true, Bool.not_eq_true'] at h1
  exact ⟨List.mem_of_find?_eq_some h, h1.1, h1.2.1, h1.2.2⟩
theorem wit_ex {all : List Nat} {t : Nat} {a b : Fm} {u : Nat} (hu : u ∈ all) (h1 : subN t u = true) (h2 : hasF l u a = true) (h3 : hasF l u b = false) : ∃ v, witF l all t a b = some v := by
  unfold witF
  cases hf : all.find? _ with
  | some v => exact ⟨v, rfl⟩
  | none =>
    have := List.find?_eq_none.1 hf u hu
    simp [h1, h2, h3] at this
/-- the fixed point -/
theorem iterT_fix : ∀ (f : Nat) (all : List Nat), all.length < f → leftF l (iterT l f all) = iterT l f all
  | 0, all, h => by omega
  | f + 1, all, h => by
    simp only [iterT]
    split
    · rename_i he
      unfold leftF at he ⊢
      exact List.filter_eq_self.2 (List.length_filter_eq_length_iff.1 he)
    · rename_i he
      have hle : (leftF l all).length ≤ all.length := List.length_filter_le _ _
      exact iterT_fix f _ (by omega)
theorem ths_fix : ∀ t ∈ thsF l, badT l (thsF l) t = false := fun t ht => by
  have h : leftF l (thsF l) = thsF l := iterT_fix _ _ (Nat.lt_succ_self _)
  have := List.filter_eq_self.1 h t ht
  simpa using this
theorem ths_base : ∀ t ∈ thsF l, isThF l t = true := fun t ht => (List.mem_filter.1 (iterT_sub _ _ t ht)).2
theorem iterT_sup {B : Nat → Prop} (hB : ∀ all : List Nat, (∀ t, B t → t ∈ all) → ∀ t, B t → badT l all t = false) : ∀ (f : Nat) (all : List Nat), (∀ t, B t → t ∈ all) → ∀ t, B t → t ∈ iterT l f all
  | 0, all, h => h
  | f + 1, all, h => by
    simp only [iterT]
    split
    · exact h
    · refine iterT_sup hB f _ fun t ht => List.mem_filter.2 ⟨h t ht, ?_⟩
      rw [hB all h t ht]; rfl
end
/-! ### there is a counter-model of what is not valid -/
theorem cnt_complete {x : Fm} (hg : Good (addF x [])) (hc : cntF (addF x []) x = none) : vld [] x := by
  intro K w0 _
  refine Classical.byContradiction fun hx => ?_
  obtain ⟨l, hle⟩ : ∃ l, l = addF x [] := ⟨_, rfl⟩
  have hxl : x ∈ l := by rw [hle]; exact mem_addN.2 (isSub_self x)
  rw [← hle] at hg hc
  have dec : ∀ v : K.W, ∃ p : Nat → Bool, ∀ i, p i = true ↔ ∃ y, l[i]? = some y ∧ K.forces v y := fun v => by
    refine ⟨fun i => @decide (∃ y, l[i]? = some y ∧ K.forces v y) (Classical.propDecidable _), fun i => ?_⟩
    exact @decide_eq_true_iff _ (Classical.propDecidable _)
  have hT : ∀ v : K.W, ∃ t, t < 2 ^ l.length ∧ ∀ y ∈ l, (hasF l t y = true ↔ K.forces v y) := fun v => by
    obtain ⟨p, hp⟩ := dec v
    obtain ⟨t, ht, hb⟩ := bits_of l.length p
    refine ⟨t, ht, fun y hy => ?_⟩
    unfold hasF
    rw [hb _ (idxN_lt hy), hp, idxN_get hy]
    constructor
    · rintro ⟨z, e, h⟩; cases e; exact h
    · exact fun h => ⟨y, rfl, h⟩
  let B : Nat → Prop := fun t => t < 2 ^ l.length ∧ ∃ v : K.W, ∀ y ∈ l, (hasF l t y = true ↔ K.forces v y)
  have h12 : 2 ^ l.length ≤ 4096 := Nat.le_trans (Nat.pow_le_pow_right (by decide) hg.le) (by decide)
  have hbase : ∀ t, B t → t ∈ baseTo l (2 ^ l.length) := fun t ⟨ht, v, hv⟩ => by
    refine List.mem_filter.2 ⟨by simpa using ht, ?_⟩
    unfold isThF
    rw [List.all_eq_true]
    intro i hi
    have hi' : i < l.length := by simpa using hi
    have hy : l[i]? = some l[i] := List.getElem?_eq_getElem hi'
    have hym := List.getElem_mem hi'
    generalize l[i] = y at hy hym
    have hbit : bitN t i = hasF l t y := by unfold hasF; rw [idxN_of hg.nd hy]
    have hcl := (hg.cl y hym).2
    have eqb : ∀ {a b : Bool}, (a = true ↔ b = true) → a = b := fun {a b} h => Bool.eq_iff_iff.2 h
    unfold thG
    rw [hy]
    cases y with
    | fls =>
      simp only [hbit, Bool.not_eq_true', ← Bool.not_eq_true]
      intro h
      exact (hv .fls hym).1 h
    | atm c => rfl
    | and a b =>
      simp only [hbit, beq_iff_eq]
      refine eqb ?_
      rw [hv _ hym, Bool.and_eq_true, hv a hcl.1, hv b hcl.2]; exact Iff.rfl
    | or a b =>
      simp only [hbit, beq_iff_eq]
      refine eqb ?_
      rw [hv _ hym, Bool.or_eq_true, hv a hcl.1, hv b hcl.2]; exact Iff.rfl
    | imp a b =>
      simp only [hbit, Bool.not_eq_true']
      refine Bool.eq_false_iff.2 fun h => ?_
      simp only [Bool.and_eq_true, Bool.not_eq_true'] at h
      obtain ⟨⟨h1, h2⟩, h3⟩ := h
      have := (hv _ hym).1 h1 v (K.refl v) ((hv a hcl.1).1 h2)
      rw [(hv b hcl.2).2 this] at h3; cases h3
  have hB : ∀ all : List Nat, (∀ t, B t → t ∈ all) → ∀ t, B t → badT l all t = false := fun all hall t ⟨ht, v, hv⟩ => by
    unfold badT
    rw [List.any_eq_false]
    rintro ⟨a, b⟩ hp
    rw [need_iff hg.nd] at hp
    obtain ⟨hm, hh⟩ := hp
    have hcl := (hg.cl _ hm).2
    have hnf : ¬ K.forces v (.imp a b) := fun h => by rw [(hv _ hm).2 h] at hh; cases hh
    have hex : ∃ u, K.le v u ∧ K.forces u a ∧ ¬ K.forces u b := Classical.byContradiction fun hc => hnf fun u hu ha => Classical.byContradiction fun hb => hc ⟨u, hu, ha, hb⟩
    obtain ⟨u, hu, ha, hb⟩ := hex
    obtain ⟨s, hs, hsu⟩ := hT u
    have hsub : subN t s = true := (subN_bits (by omega)).2 fun i hi hti => by
      rcases Nat.lt_or_ge i l.length with h | h
      · have hy : l[i]? = some l[i] := List.getElem?_eq_getElem h
        have hym := List.getElem_mem h
        generalize l[i] = y at hy hym
        have e1 : hasF l t y = bitN t i := by unfold hasF; rw [idxN_of hg.nd hy]
        have e2 : hasF l s y = bitN s i := by unfold hasF; rw [idxN_of hg.nd hy]
        rw [← e2, hsu y hym]
        rw [← e1, hv y hym] at hti
        exact K.mono y v u hu hti
      · have : t < 2 ^ i := Nat.lt_of_lt_of_le ht (Nat.pow_le_pow_right (by decide) h)
        rw [bitN_test, Nat.testBit_lt_two_pow this] at hti; cases hti
    obtain ⟨r, hr⟩ := wit_ex (l := l) (all := all) (hall s ⟨hs, u, hsu⟩) hsub ((hsu a hcl.1).2 ha) (by
      cases h : hasF l s b with
      | false => rfl
      | true => exact absurd ((hsu b hcl.2).1 h) hb)
    simp [hr]
  have hall := iterT_sup hB ((baseTo l (2 ^ l.length)).length + 1) _ hbase
  obtain ⟨t, ht, htv⟩ := hT w0
  have htm : t ∈ thsF l := hall t ⟨ht, w0, htv⟩
  have hno : hasF l t x = false := by
    cases h : hasF l t x with
    | false => rfl
    | true => exact absurd ((htv x hxl).1 h) hx
  unfold cntF at hc
  split at hc
  · rename_i hneg
    have h0 : (thsF l).any (fun t => !hasF l t x) = true := List.any_eq_true.2 ⟨t, htm, by simp [hno]⟩
    rw [← idxI_ge, decide_eq_true_eq] at h0
    omega
  · cases hc
end Go.Proofs.YtoilfakpgcjjpaaDoor.Log
namespace Go.Proofs.YtoilfakpgcjjpaaDoor.Log
open Go Go.RowKit Go.Proofs.YtoilfakpgcjjpaaDoor Go.Proofs.YtoilfakpgcjjpaaDoor.Eng
set_option linter.unusedVariables false
set_option linter.unusedSimpArgs false
/-! ### the worlds -/
/-- all needs of the worlds before i are met -/
def Met (l : List Fm) (i : Nat) (ws : List Nat) : Prop := ∀ k t, k < i → ws[k]? = some t → ∀ p ∈ needF l t, ∃ u ∈ ws, subN t u = true ∧ hasF l u p.1 = true ∧ hasF l u p.2 = false
section
variable {l : List Fm} {all : List Nat}
theorem step_pre (t : Nat) (ws : List Nat) (p : Fm × Fm) : ∃ more, stepW l all t ws p = ws ++ more := by
  unfold stepW
  split
  · exact ⟨[], by simp⟩
  · exact ⟨_, rfl⟩
theorem fold_pre (t : Nat) : ∀ (ps : List (Fm × Fm)) (ws : List Nat), ∃ more, ps.foldl (stepW l all t) ws = ws ++ more
  | [], ws => ⟨[], by simp⟩
  | p :: ps, ws => by
    obtain ⟨m1, h1⟩ := step_pre (l := l) (all := all) t ws p
    obtain ⟨m2, h2⟩ := fold_pre t ps (stepW l all t ws p)
    exact ⟨m1 ++ m2, by rw [List.foldl_cons, h2, h1, List.append_assoc]⟩
theorem step_mem {t : Nat} {ws : List Nat} {p : Fm × Fm} (hw : ∀ u ∈ ws, u ∈ all) (h : ∃ u, witF l all t p.1 p.2 = some u) :
    (∀ u ∈ stepW l all t ws p, u ∈ all) ∧ ∃ u ∈ stepW l all t ws p, subN t u = true ∧ hasF l u p.1 = true ∧ hasF l u p.2 = false := by
  obtain ⟨u, hu⟩ := h
  have h1 := wit_some hu
  unfold stepW
  rw [hu]
  simp only [Option.getD_some]
  split
  · rename_i hc
    obtain ⟨y, hy, he⟩ := List.any_eq_true.1 hc
    have : u = y := by simpa using he
    subst this
    exact ⟨hw, u, hy, h1.2⟩
  · refine ⟨fun v hv => ?_, u, by simp, h1.2⟩
    rcases List.mem_append.1 hv with h | h
    · exact hw v h
    · simp at h; subst h; exact h1.1
theorem step_nd {t : Nat} {ws : List Nat} {p : Fm × Fm} (h : ws.Nodup) : (stepW l all t ws p).Nodup := by
  unfold stepW
  split
  · exact h
  · rename_i hn
    rw [List.nodup_append]
    refine ⟨h, by simp, fun a ha b hb => ?_⟩
    simp at hb
    subst hb
    rintro rfl
    exact hn (List.any_eq_true.2 ⟨_, ha, by simp⟩)
theorem fold_mem {t : Nat} : ∀ (ps : List (Fm × Fm)) (ws : List Nat), (∀ u ∈ ws, u ∈ all) → ws.Nodup → (∀ p ∈ ps, ∃ u, witF l all t p.1 p.2 = some u) →
    (∀ u ∈ ps.foldl (stepW l all t) ws, u ∈ all) ∧ (ps.foldl (stepW l all t) ws).Nodup ∧ ∀ p ∈ ps, ∃ u ∈ ps.foldl (stepW l all t) ws, subN t u = true ∧ hasF l u p.1 = true ∧ hasF l u p.2 = false
  | [], ws, hw, hn, _ => ⟨hw, hn, fun p h => by cases h⟩
  | p :: ps, ws, hw, hn, hp => by
    obtain ⟨h1, h2⟩ := step_mem hw (hp p (.head _))
    obtain ⟨h3, h4, h5⟩ := fold_mem ps (stepW l all t ws p) h1 (step_nd hn) fun q hq => hp q (.tail _ hq)
    refine ⟨h3, h4, fun q hq => ?_⟩
    cases hq with
    | head =>
      obtain ⟨u, hu, hh⟩ := h2
      obtain ⟨more, hm⟩ := fold_pre (l := l) (all := all) t ps (stepW l all t ws p)
      exact ⟨u, by rw [List.foldl_cons, hm]; exact List.mem_append_left _ hu, hh⟩
    | tail _ hq => exact h5 q hq
theorem worF_ok (hall : ∀ t ∈ all, badT l all t = false) (hlt : ∀ t ∈ all, t < 4096) : ∀ (f i : Nat) (ws : List Nat), 4096 < i + f → i ≤ ws.length → (∀ u ∈ ws, u ∈ all) → ws.Nodup → Met l i ws →
    ∃ more, worF l all f i ws = ws ++ more ∧ (∀ u ∈ worF l all f i ws, u ∈ all) ∧ (worF l all f i ws).Nodup ∧ Met l (worF l all f i ws).length (worF l all f i ws)
  | 0, i, ws, hf, hi, hw, hn, hm => by
    have := nodup_len 4096 ws hn fun u hu => hlt u (hw u hu)
    omega
  | f + 1, i, ws, hf, hi, hw, hn, hm => by
    simp only [worF]
    cases ht : ws[i]? with
    | none =>
      have : i = ws.length := by have := List.getElem?_eq_none_iff.1 ht; omega
      subst this
      exact ⟨[], by simp, hw, hn, hm⟩
    | some t =>
      have hil := (List.getElem?_eq_some_iff.1 ht).1
      have hta := hw t (List.mem_of_getElem? ht)
      have hne : ∀ p ∈ needF l t, ∃ u, witF l all t p.1 p.2 = some u := fun p hp => by
        have := hall t hta
        unfold badT at this
        rw [List.any_eq_false] at this
        have := this p hp
        cases hx : witF l all t p.1 p.2 with
        | none => simp [hx] at this
        | some u => exact ⟨u, rfl⟩
      obtain ⟨h1, h2, h3⟩ := fold_mem (needF l t) ws hw hn hne
      obtain ⟨m1, hm1⟩ := fold_pre (l := l) (all := all) t (needF l t) ws
      have hm' : Met l (i + 1) ((needF l t).foldl (stepW l all t) ws) := fun k s hk hs p hp => by
        rcases Nat.lt_or_ge k i with h | h
        · rw [hm1, List.getElem?_append_left (by omega)] at hs
          obtain ⟨u, hu, hh⟩ := hm k s h hs p hp
          exact ⟨u, by rw [hm1]; exact List.mem_append_left _ hu, hh⟩
        · have : k = i := by omega
          subst this
          rw [hm1, List.getElem?_append_left (by omega), ht] at hs
          cases hs
          exact h3 p hp
      obtain ⟨m2, e, h4⟩ := worF_ok hall hlt f (i + 1) ((needF l t).foldl (stepW l all t) ws) (by omega) (by rw [hm1]; simp; omega) h1 h2 hm'
      simp only
      exact ⟨m1 ++ m2, by rw [e, hm1, List.append_assoc], h4⟩
end
/-- what is known of the worlds -/
structure Wor (l : List Fm) (ws : List Nat) : Prop where
  all : ∀ u ∈ ws, isThF l u = true ∧ u < 4096
  nd : ws.Nodup
  met : Met l ws.length ws
theorem cnt_wor {l : List Fm} {x : Fm} {ws : List Nat} (hl : l.length ≤ 12) (h : cntF l x = some ws) : Wor l ws ∧ ∃ t, ws[0]? = some t ∧ hasF l t x = false := by
  unfold cntF at h
  split at h
  · cases h
  · rename_i hneg
    cases h
    have hany : (thsF l).any (fun t => !hasF l t x) = true := by rw [← idxI_ge, decide_eq_true_eq]; omega
    have hlt := idxI_lt (fun t => !hasF l t x) (thsF l)
    have hfirst : ∀ (xs : List Nat), 0 ≤ idxI (fun t => !hasF l t x) xs → ∃ t, xs[(idxI (fun t => !hasF l t x) xs).toNat]? = some t ∧ hasF l t x = false := by
      intro xs
      induction xs with
      | nil => intro h; simp [idxI] at h
      | cons y ys ih =>
        intro h
        unfold idxI at h ⊢
        split
        · rename_i hy; exact ⟨y, rfl, by simpa using hy⟩
        · rename_i hy
          rw [if_neg hy] at h
          cases hq : idxI (fun t => !hasF l t x) ys with
          | ofNat k =>
            obtain ⟨t, ht, hh⟩ := ih (by rw [hq]; exact Int.natCast_nonneg k)
            rw [hq] at ht
            refine ⟨t, ?_, hh⟩
            show (y :: ys)[((k + 1 : Nat) : Int).toNat]? = some t
            simpa using ht
          | negSucc k => rw [hq] at h; simp at h
    obtain ⟨t, ht, hh⟩ := hfirst (thsF l) (by omega)
    have e : (thsF l).getD (idxI (fun t => !hasF l t x) (thsF l)).toNat 0 = t := by simp [ht]
    rw [e]
    have htm := List.mem_of_getElem? ht
    obtain ⟨more, e1, h1, h2, h3⟩ := worF_ok (l := l) (all := thsF l) ths_fix (thsF_lt hl) 5000 0 [t] (by omega) (Nat.zero_le _) (fun u hu => by simp at hu; subst hu; exact htm) (by simp) (fun k s hk => by omega)
    refine ⟨⟨fun u hu => ⟨ths_base u (h1 u hu), thsF_lt hl u (h1 u hu)⟩, h2, h3⟩, t, by rw [e1]; rfl, hh⟩
/-! ### the model -/
theorem above_iff {ws : List Nat} {t : Nat} {v : Int} : v ∈ aboveF ws t ↔ ∃ (k u : Nat), v = (k : Int) ∧ ws[k]? = some u ∧ subN t u = true := by
  unfold aboveF aboveTo
  rw [List.mem_map]
  constructor
  · rintro ⟨k, hk, rfl⟩
    rw [List.mem_filter] at hk
    have hkl : k < ws.length := by simpa using hk.1
    exact ⟨k, ws[k], rfl, List.getElem?_eq_getElem hkl, by simpa [hkl] using hk.2⟩
  · rintro ⟨k, u, rfl, hu, hs⟩
    refine ⟨k, List.mem_filter.2 ⟨by simpa using (List.getElem?_eq_some_iff.1 hu).1, ?_⟩, rfl⟩
    simpa [hu] using hs
theorem modA_get {ws : List Nat} {k t : Nat} (h : ws[k]? = some t) : (modA ws).getD k [] = aboveF ws t := by simp [modA, h]
theorem modM_get {l : List Fm} {ws : List Nat} {k t : Nat} (h : ws[k]? = some t) : (modM l ws).getD k 0 = (markF l t : Int) := by simp [modM, h]
theorem asc_range : ∀ (n : Nat) (p : Nat → Bool) (i j : Nat), i < j → j < ((List.range n).filter p).length → ((List.range n).filter p).getD i 0 < ((List.range n).filter p).getD j 0 := by
  intro n p i j hij hj
  have hs : ((List.range n).filter p).Pairwise (· < ·) := (List.pairwise_lt_range).filter p
  have h1 : ((List.range n).filter p)[i]? = some ((List.range n).filter p)[i] := List.getElem?_eq_getElem (by omega)
  have h2 : ((List.range n).filter p)[j]? = some ((List.range n).filter p)[j] := List.getElem?_eq_getElem hj
  have := List.pairwise_iff_getElem.1 hs i j (by omega) hj hij
  simpa [h1, h2, hj, show i < ((List.range n).filter p).length by omega] using this
/-- the atoms of a theory -/
theorem mark_bit {l : List Fm} (hat : ∀ x ∈ l, ats x) {t c : Nat} (hc : 112 ≤ c ∧ c ≤ 115) : ∀ n, (markTo l t n).testBit (c - 112) = true ↔ ∃ k, k < n ∧ l[k]? = some (.atm c) ∧ bitN t k = true
  | 0 => by simp [markTo]
  | n + 1 => by
    have ih := mark_bit hat (t := t) hc n
    simp only [markTo]
    unfold markG
    cases hx : l[n]? with
    | none =>
      simp only
      rw [ih]
      constructor
      · rintro ⟨k, hk, h⟩; exact ⟨k, by omega, h⟩
      · rintro ⟨k, hk, h1, h2⟩
        rcases Nat.lt_succ_iff_lt_or_eq.1 hk with h | rfl
        · exact ⟨k, h, h1, h2⟩
        · rw [hx] at h1; cases h1
    | some y =>
      cases y with
      | atm d =>
        have hd := hat _ (List.mem_of_getElem? hx)
        simp only [ats] at hd
        simp only
        cases hb : bitN t n with
        | true =>
          rw [if_pos rfl, Nat.testBit_or, Bool.or_eq_true, ih, Nat.testBit_two_pow]
          simp only [decide_eq_true_eq]
          constructor
          · rintro (⟨k, hk, h⟩ | h)
            · exact ⟨k, by omega, h⟩
            · exact ⟨n, by omega, by rw [hx]; congr 2; omega, hb⟩
          · rintro ⟨k, hk, h1, h2⟩
            rcases Nat.lt_succ_iff_lt_or_eq.1 hk with h | rfl
            · exact .inl ⟨k, h, h1, h2⟩
            · rw [hx] at h1; cases h1; exact .inr rfl
        | false =>
          rw [if_neg (by decide), ih]
          constructor
          · rintro ⟨k, hk, h⟩; exact ⟨k, by omega, h⟩
          · rintro ⟨k, hk, h1, h2⟩
            rcases Nat.lt_succ_iff_lt_or_eq.1 hk with h | rfl
            · exact ⟨k, h, h1, h2⟩
            · rw [hb] at h2; cases h2
      | _ =>
        simp only
        rw [ih]
        constructor
        · rintro ⟨k, hk, h⟩; exact ⟨k, by omega, h⟩
        · rintro ⟨k, hk, h1, h2⟩
          rcases Nat.lt_succ_iff_lt_or_eq.1 hk with h | rfl
          · exact ⟨k, h, h1, h2⟩
          · rw [hx] at h1; cases h1
theorem bit_test (m c : Nat) : bit (m : Int) c = m.testBit (c - 112) := by
  unfold bit
  rw [Nat.testBit_eq_decide_div_mod_eq]
  refine decide_eq_decide.2 ?_
  have : ((m : Int) / 2 ^ (c - 112)) % 2 = ((m / 2 ^ (c - 112) % 2 : Nat) : Int) := by norm_cast
  rw [this]
  omega
theorem mark_sub {l : List Fm} (hg : Good l) {t u : Nat} (ht : t < 4096) (h : subN t u = true) : subN (markF l t) (markF l u) = true := by
  rw [subN_iff]
  intro i hi hti
  have h16 := markTo_lt hg.at_ t l.length
  have hi4 : i < 4 := by
    rcases Nat.lt_or_ge i 4 with h4 | h4
    · exact h4
    · have : markTo l t l.length < 2 ^ i := Nat.lt_of_lt_of_le h16 (by rw [show (16 : Nat) = 2 ^ 4 from rfl]; exact Nat.pow_le_pow_right (by decide) h4)
      unfold markF at hti
      rw [Nat.testBit_lt_two_pow this] at hti; cases hti
  have e : i = (112 + i) - 112 := by omega
  unfold markF at hti ⊢
  rw [e] at hti ⊢
  rw [mark_bit hg.at_ (by omega)] at hti ⊢
  obtain ⟨k, hk, h1, h2⟩ := hti
  exact ⟨k, hk, h1, (subN_bits ht).1 h k (by have := hg.le; omega) h2⟩
theorem cnt_model {l : List Fm} (hg : Good l) {ws : List Nat} (hw : Wor l ws) (hpos : 0 < ws.length) : isModF (modA ws) (modM l ws) = true := by
  have hlen : (modA ws).length = ws.length := by simp [modA]
  have hmlen : (modM l ws).length = ws.length := by simp [modM]
  have hle : ws.length ≤ 4096 := nodup_len 4096 ws hw.nd fun u hu => (hw.all u hu).2
  unfold isModF
  rw [hlen, hmlen]
  simp only [Bool.and_eq_true, decide_eq_true_eq]
  refine ⟨⟨⟨⟨hpos, hle⟩, trivial⟩, ?_⟩, ?_⟩
  · rw [List.all_eq_true]
    intro k hk
    have hkl : k < ws.length := by simpa using hk
    have ht : ws[k]? = some ws[k] := List.getElem?_eq_getElem hkl
    generalize ws[k] = t at ht
    have h16 := markTo_lt hg.at_ t l.length
    unfold mdG1
    rw [modA_get ht, modM_get ht, hlen]
    simp only [Bool.and_eq_true, decide_eq_true_eq]
    refine ⟨⟨⟨Int.natCast_nonneg _, by unfold markF; omega⟩, List.any_eq_true.2 ⟨(k : Int), above_iff.2 ⟨k, t, rfl, ht, subN_refl t⟩, by simp⟩⟩, ?_⟩
    rw [List.all_eq_true]
    intro i hi
    have hil : i < (aboveF ws t).length := by simpa using hi
    have hv : (aboveF ws t)[i]? = some (aboveF ws t)[i] := List.getElem?_eq_getElem hil
    have hvm := List.getElem_mem hil
    generalize hve : (aboveF ws t)[i] = v at hv hvm
    obtain ⟨j, u, rfl, hu, _⟩ := above_iff.1 hvm
    have hjl := (List.getElem?_eq_some_iff.1 hu).1
    unfold rowG
    rw [show (aboveF ws t).getD i 0 = (j : Int) by simp [hv]]
    simp only [Bool.and_eq_true, Bool.or_eq_true, decide_eq_true_eq]
    refine ⟨⟨Int.natCast_nonneg _, by omega⟩, ?_⟩
    rcases Nat.eq_zero_or_pos i with h0 | h0
    · exact .inl h0
    · refine .inr ?_
      have hl' : (aboveF ws t).length = ((List.range ws.length).filter fun v => subN t (ws.getD v 0)).length := by simp [aboveF, aboveTo]
      have ha := asc_range ws.length (fun v => subN t (ws.getD v 0)) (i - 1) i (by omega) (by omega)
      have e1 : ∀ m, m < (aboveF ws t).length → (aboveF ws t).getD m 0 = ((((List.range ws.length).filter fun v => subN t (ws.getD v 0)).getD m 0 : Nat) : Int) := fun m hm => by
        have h2 : m < ((List.range ws.length).filter fun v => subN t (ws.getD v 0)).length := by omega
        unfold aboveF aboveTo
        rw [List.getD_eq_getElem?_getD, List.getD_eq_getElem?_getD, List.getElem?_map, List.getElem?_eq_getElem h2]
        rfl
      have e2 := e1 i hil
      rw [show (aboveF ws t).getD i 0 = (j : Int) by simp [hv]] at e2
      rw [e1 (i - 1) (by omega)]
      omega
  · rw [List.all_eq_true]
    intro k hk
    have hkl : k < ws.length := by simpa using hk
    have ht : ws[k]? = some ws[k] := List.getElem?_eq_getElem hkl
    have htm := List.getElem_mem hkl
    generalize ws[k] = t at ht htm
    unfold mdG2
    rw [modA_get ht, List.all_eq_true]
    intro v hv
    obtain ⟨j, u, rfl, hu, hs⟩ := above_iff.1 hv
    unfold upG
    rw [modM_get ht, modA_get ht]
    simp only [Int.toNat_natCast]
    rw [modM_get hu, modA_get hu]
    simp only [Int.toNat_natCast, Bool.and_eq_true, Bool.not_eq_true']
    refine ⟨mark_sub hg (hw.all t htm).2 hs, ?_⟩
    rw [List.any_eq_false]
    intro y hy
    obtain ⟨i, r, rfl, hr, hs2⟩ := above_iff.1 hy
    have : ((i : Int)) ∈ aboveF ws t := above_iff.2 ⟨i, r, rfl, hr, subN_trans hs hs2⟩
    simp [this]
/-- what a world forces is its theory -/
theorem cnt_truth {l : List Fm} (hg : Good l) {ws : List Nat} (hw : Wor l ws) : ∀ (y : Fm), y ∈ l → ∀ (k t : Nat), ws[k]? = some t → fc (modA ws) (modM l ws) y k = hasF l t y
  | .fls, hy, k, t, ht => by
    rw [th_fls (hw.all t (List.mem_of_getElem? ht)).1 hy]; rfl
  | .atm c, hy, k, t, ht => by
    have hc := hg.at_ _ hy
    simp only [ats] at hc
    simp only [fc]
    rw [modM_get ht, bit_test, Bool.eq_iff_iff]
    unfold markF
    rw [mark_bit hg.at_ hc]
    unfold hasF
    constructor
    · rintro ⟨i, hi, h1, h2⟩; rw [idxN_of hg.nd h1]; exact h2
    · intro h; exact ⟨_, idxN_lt hy, idxN_get hy, h⟩
  | .and a b, hy, k, t, ht => by
    have hcl := (hg.cl _ hy).2
    simp only [fc]
    rw [cnt_truth hg hw a hcl.1 k t ht, cnt_truth hg hw b hcl.2 k t ht, th_and (hw.all t (List.mem_of_getElem? ht)).1 hy]
  | .or a b, hy, k, t, ht => by
    have hcl := (hg.cl _ hy).2
    simp only [fc]
    rw [cnt_truth hg hw a hcl.1 k t ht, cnt_truth hg hw b hcl.2 k t ht, th_or (hw.all t (List.mem_of_getElem? ht)).1 hy]
  | .imp a b, hy, k, t, ht => by
    have hcl := (hg.cl _ hy).2
    have htm := List.mem_of_getElem? ht
    simp only [fc]
    rw [modA_get ht]
    cases hh : hasF l t (.imp a b) with
    | true =>
      rw [Bool.not_eq_true', List.any_eq_false]
      intro v hv
      obtain ⟨j, u, rfl, hu, hs⟩ := above_iff.1 hv
      have hum := List.mem_of_getElem? hu
      simp only [Int.toNat_natCast]
      rw [cnt_truth hg hw a hcl.1 j u hu, cnt_truth hg hw b hcl.2 j u hu]
      have h1 := has_sub hg.le (hw.all t htm).2 hs hy hh
      have h2 := th_imp (hw.all u hum).1 hy h1
      cases ha : hasF l u a with
      | false => simp
      | true => simp [h2 ha]
    | false =>
      rw [Bool.not_eq_false', List.any_eq_true]
      obtain ⟨u, hu, hs, h1, h2⟩ := hw.met k t (List.getElem?_eq_some_iff.1 ht).1 ht (a, b) ((need_iff hg.nd).2 ⟨hy, hh⟩)
      obtain ⟨j, hj⟩ := List.getElem?_of_mem hu
      refine ⟨(j : Int), above_iff.2 ⟨j, u, rfl, hj, hs⟩, ?_⟩
      simp only [Int.toNat_natCast]
      rw [cnt_truth hg hw a hcl.1 j u hj, cnt_truth hg hw b hcl.2 j u hj, h1, h2]; rfl
theorem cnt_sound {x : Fm} {ws : List Nat} (hg : Good (addF x [])) (h : cntF (addF x []) x = some ws) : isModF (modA ws) (modM (addF x []) ws) = true ∧ fc (modA ws) (modM (addF x []) ws) x 0 = false := by
  obtain ⟨hw, t, ht, hx⟩ := cnt_wor hg.le h
  have hpos := (List.getElem?_eq_some_iff.1 ht).1
  exact ⟨cnt_model hg hw hpos, by rw [cnt_truth hg hw x (mem_addN.2 (isSub_self x)) 0 t ht]; exact hx⟩
/-! ### finite models as models -/
def finK (ab : List (List Int)) (mk : List Int) (h : isModF ab mk = true) : KM where
  W := {k : Nat // k < ab.length}
  le := fun v u => ((u.1 : Nat) : Int) ∈ ab.getD v.1 []
  refl := fun w => by
    have hl : ab[w.1]? = some (ab[w.1]'w.2) := List.getElem?_eq_getElem w.2
    have := (isModF_row h hl).2.2.1
    rw [show ab.getD w.1 [] = ab[w.1]'w.2 by simp [hl]]; exact this
  trans := fun a b c hab hbc => by
    have h2 := (isModF_get h).2.2.2.2 a.1 a.2
    unfold mdG2 at h2
    have h3 := List.all_eq_true.1 h2 _ hab
    unfold upG at h3
    simp only [Int.toNat_natCast, Bool.and_eq_true, Bool.not_eq_true'] at h3
    have h4 := List.any_eq_false.1 h3.2 _ hbc
    simpa using h4
  val := fun w c => 112 ≤ c ∧ c ≤ 115 ∧ bit (mk.getD w.1 0) c = true
  up := fun a b c hab hv => by
    have h2 := (isModF_get h).2.2.2.2 a.1 a.2
    unfold mdG2 at h2
    have h3 := List.all_eq_true.1 h2 _ hab
    unfold upG at h3
    simp only [Int.toNat_natCast, Bool.and_eq_true] at h3
    have hm : ∀ w : {k : Nat // k < ab.length}, 0 ≤ mk.getD w.1 0 := fun w => (isModF_row h (List.getElem?_eq_getElem w.2)).1
    refine ⟨hv.1, hv.2.1, ?_⟩
    have e1 := Int.toNat_of_nonneg (hm a)
    have e2 := Int.toNat_of_nonneg (hm b)
    have h5 := hv.2.2
    rw [← e1, bit_test] at h5
    rw [← e2, bit_test]
    exact subN_iff.1 h3.1 _ (by omega) h5
theorem finK_forces {ab : List (List Int)} {mk : List Int} (h : isModF ab mk = true) : ∀ (x : Fm), ats x → ∀ w : (finK ab mk h).W, (finK ab mk h).forces w x ↔ fc ab mk x w.1 = true
  | .fls, _, w => by simp [KM.forces, fc]
  | .atm c, hc, w => by simp only [KM.forces, fc]; exact ⟨fun k => k.2.2, fun k => ⟨hc.1, hc.2, k⟩⟩
  | .and a b, hx, w => by simp only [KM.forces, fc, Bool.and_eq_true]; rw [finK_forces h a hx.1, finK_forces h b hx.2]
  | .or a b, hx, w => by simp only [KM.forces, fc, Bool.or_eq_true]; rw [finK_forces h a hx.1, finK_forces h b hx.2]
  | .imp a b, hx, w => by
    have hl : ab[w.1]? = some (ab[w.1]'w.2) := List.getElem?_eq_getElem w.2
    have hrow := (isModF_row h hl).2.2.2.2.2
    have eg : ab.getD w.1 [] = ab[w.1]'w.2 := by simp [hl]
    simp only [KM.forces, fc]
    rw [Bool.not_eq_true', List.any_eq_false]
    constructor
    · intro hf v hv
      have hv' := hv
      rw [eg] at hv'
      have hb := hrow v hv'
      have hvl : v.toNat < ab.length := by omega
      have hi := hf ⟨v.toNat, hvl⟩ (by show ((v.toNat : Nat) : Int) ∈ ab.getD w.1 []; rw [Int.toNat_of_nonneg hb.1]; exact hv)
      have ea := finK_forces h a hx.1 ⟨v.toNat, hvl⟩
      have eb := finK_forces h b hx.2 ⟨v.toNat, hvl⟩
      cases h1 : fc ab mk a v.toNat with
      | false => simp
      | true => have h2 := eb.1 (hi (ea.2 h1)); simp only at h2; simp [h2]
    · intro hf v hv ha
      rw [finK_forces h a hx.1] at ha
      rw [finK_forces h b hx.2]
      have := hf _ hv
      simp only [Int.toNat_natCast] at this
      rw [ha] at this
      simpa using this
theorem cnt_vld {x : Fm} (hx : ats x) (hp : parts x ≤ 12) : cntF (addF x []) x = none ↔ vld [] x := by
  have hg := good_add hx hp
  constructor
  · exact cnt_complete hg
  · intro hv
    cases hc : cntF (addF x []) x with
    | none => rfl
    | some ws =>
      obtain ⟨h1, h2⟩ := cnt_sound hg hc
      have hpos := (isModF_get h1).1
      have h3 := (finK_forces h1 x hx ⟨0, hpos⟩).1 (hv (finK _ _ h1) ⟨0, hpos⟩ (fun y hy => by cases hy))
      simp only at h3
      rw [h2] at h3; cases h3
theorem dec_vld {x : Fm} (hx : ats x) (hp : parts x ≤ 12) : (decF x).valid = true ↔ vld [] x := by
  rw [← cnt_vld hx hp]
  unfold decF
  cases cntF (addF x []) x <;> simp
end Go.Proofs.YtoilfakpgcjjpaaDoor.Log
namespace Go.Proofs.YtoilfakpgcjjpaaDoor.Log
open Go Go.RowKit Go.Proofs.YtoilfakpgcjjpaaDoor Go.Proofs.YtoilfakpgcjjpaaDoor.Eng
set_option linter.unusedVariables false
set_option linter.unusedSimpArgs false
def cval (v : Nat → Bool) : Fm → Bool
  | .fls => false
  | .atm c => v c
  | .and a b => cval v a && cval v b
  | .or a b => cval v a || cval v b
  | .imp a b => !(cval v a && !cval v b)
theorem cval_congr {v u : Nat → Bool} (h : ∀ c, 112 ≤ c → c ≤ 115 → v c = u c) : ∀ x, ats x → cval v x = cval u x
  | .fls, _ => rfl
  | .atm c, hx => h c hx.1 hx.2
  | .and a b, hx => by simp only [cval]; rw [cval_congr h a hx.1, cval_congr h b hx.2]
  | .or a b, hx => by simp only [cval]; rw [cval_congr h a hx.1, cval_congr h b hx.2]
  | .imp a b, hx => by simp only [cval]; rw [cval_congr h a hx.1, cval_congr h b hx.2]
theorem fc_one (m : Int) : ∀ x, fc [[0]] [m] x 0 = cval (fun c => bit m c) x
  | .fls => rfl
  | .atm c => rfl
  | .and a b => by simp only [fc, cval]; rw [fc_one m a, fc_one m b]
  | .or a b => by simp only [fc, cval]; rw [fc_one m a, fc_one m b]
  | .imp a b => by simp only [fc, cval]; rw [← fc_one m a, ← fc_one m b]; simp
theorem clF_iff {x : Fm} (hx : ats x) : clF x = true ↔ ∀ v, cval v x = true := by
  unfold clF
  rw [List.all_eq_true]
  constructor
  · intro h v
    obtain ⟨t, ht, hb⟩ := bits_of 4 (fun i => v (112 + i))
    have := h t (by simpa using ht)
    rw [fc_one] at this
    rw [cval_congr (u := fun c => bit (t : Int) c) (fun c h1 h2 => ?_) x hx]
    · exact this
    · rw [bit_test, ← bitN_test, hb _ (by omega)]; congr 1; omega
  · intro h m _
    rw [fc_one]; exact h _
/-- a model with one world -/
def oneK (v : Nat → Bool) : KM where
  W := Unit
  le := fun _ _ => True
  refl := fun _ => trivial
  trans := fun _ _ _ _ _ => trivial
  val := fun _ c => v c = true
  up := fun _ _ _ _ h => h
theorem oneK_forces (v : Nat → Bool) : ∀ (x : Fm) (w : (oneK v).W), (oneK v).forces w x ↔ cval v x = true
  | .fls, w => by simp [KM.forces, cval]
  | .atm c, w => Iff.rfl
  | .and a b, w => by simp only [KM.forces, cval, Bool.and_eq_true]; rw [oneK_forces v a, oneK_forces v b]
  | .or a b, w => by simp only [KM.forces, cval, Bool.or_eq_true]; rw [oneK_forces v a, oneK_forces v b]
  | .imp a b, w => by
    simp only [KM.forces, cval]
    constructor
    · intro h
      have := h w trivial
      rw [oneK_forces v a, oneK_forces v b] at this
      cases h1 : cval v a <;> simp [h1] at this ⊢; exact this
    · intro h u _ ha
      rw [oneK_forces v a] at ha
      rw [oneK_forces v b]
      rw [ha] at h; simpa using h
theorem vld_cl {x : Fm} (hx : ats x) (h : vld [] x) : clF x = true := (clF_iff hx).2 fun v => (oneK_forces v x ()).1 (h (oneK v) () (fun y hy => by cases hy))
/-- above every world lies one that decides the atoms -/
theorem decides (K : KM) : ∀ (cs : List Nat) (v : K.W), ∃ u, K.le v u ∧ ∀ c ∈ cs, K.val u c ∨ ∀ r, K.le u r → ¬ K.val r c
  | [], v => ⟨v, K.refl v, fun c h => by cases h⟩
  | c :: cs, v => by
    obtain ⟨u, hu, hc⟩ := decides K cs v
    by_cases h : ∃ r, K.le u r ∧ K.val r c
    · obtain ⟨r, hr, hv⟩ := h
      refine ⟨r, K.trans _ _ _ hu hr, fun d hd => ?_⟩
      cases hd with
      | head => exact .inl hv
      | tail _ hd =>
        rcases hc d hd with h | h
        · exact .inl (K.up _ _ _ hr h)
        · exact .inr fun s hs => h s (K.trans _ _ _ hr hs)
    · refine ⟨u, hu, fun d hd => ?_⟩
      cases hd with
      | head => exact .inr fun r hr hv => h ⟨r, hr, hv⟩
      | tail _ hd => exact hc d hd
theorem decided {K : KM} {u : K.W} {v : Nat → Bool} (h : ∀ c, 112 ≤ c → c ≤ 115 → ∀ r, K.le u r → (K.val r c ↔ v c = true)) : ∀ (x : Fm), ats x → ∀ r, K.le u r → (K.forces r x ↔ cval v x = true)
  | .fls, _, r, _ => by simp [KM.forces, cval]
  | .atm c, hx, r, hr => h c hx.1 hx.2 r hr
  | .and a b, hx, r, hr => by simp only [KM.forces, cval, Bool.and_eq_true]; rw [decided h a hx.1 r hr, decided h b hx.2 r hr]
  | .or a b, hx, r, hr => by simp only [KM.forces, cval, Bool.or_eq_true]; rw [decided h a hx.1 r hr, decided h b hx.2 r hr]
  | .imp a b, hx, r, hr => by
    simp only [KM.forces, cval]
    constructor
    · intro hf
      have := hf r (K.refl r)
      rw [decided h a hx.1 r hr, decided h b hx.2 r hr] at this
      cases h1 : cval v a <;> simp [h1] at this ⊢; exact this
    · intro hf s hs ha
      have hus := K.trans _ _ _ hr hs
      rw [decided h a hx.1 s hus] at ha
      rw [decided h b hx.2 s hus]
      rw [ha] at hf; simpa using hf
abbrev nn (x : Fm) : Fm := .imp (.imp x .fls) .fls
theorem glivenko {x : Fm} (hx : ats x) : vld [] (nn x) ↔ clF x = true := by
  constructor
  · intro h
    refine (clF_iff hx).2 fun v => ?_
    have := (oneK_forces v (nn x) ()).1 (h (oneK v) () (fun y hy => by cases hy))
    simp only [cval] at this
    cases h1 : cval v x <;> simp [h1] at this ⊢
  · intro hc K w _ v hv hn
    obtain ⟨u, hu, hd⟩ := decides K [112, 113, 114, 115] v
    have hval : ∃ val : Nat → Bool, ∀ c, val c = true ↔ K.val u c := ⟨fun c => @decide (K.val u c) (Classical.propDecidable _), fun c => @decide_eq_true_iff _ (Classical.propDecidable _)⟩
    obtain ⟨val, hval⟩ := hval
    have hdec : ∀ c, 112 ≤ c → c ≤ 115 → ∀ r, K.le u r → (K.val r c ↔ val c = true) := fun c h1 h2 r hr => by
      rw [hval]
      have hm : c ∈ [112, 113, 114, 115] := by
        have : c = 112 ∨ c = 113 ∨ c = 114 ∨ c = 115 := by omega
        rcases this with rfl | rfl | rfl | rfl <;> simp
      rcases hd c hm with h | h
      · exact ⟨fun _ => h, fun _ => K.up _ _ _ hr h⟩
      · exact ⟨fun k => absurd k (h r hr), fun k => absurd k (h u (K.refl u))⟩
    have hfx := (decided hdec x hx u (K.refl u)).2 ((clF_iff hx).1 hc val)
    exact hn u hu hfx
theorem vld_or {a b : Fm} : vld [] (.or a b) ↔ vld [] a ∨ vld [] b := by
  constructor
  · intro h
    rcases stuck (G := []) (g := .or a b) (fun x hx => by cases hx) (.inr (.inr ⟨a, b, rfl⟩)) h with ⟨a', b', e, h⟩ | ⟨i, a', b', c, hi, _⟩
    · cases e; exact h
    · simp at hi
  · rintro (h | h) K w hw
    · exact .inl (h K w hw)
    · exact .inr (h K w hw)
/-! ### atoms replaced -/
def subF (σ : Nat → Fm) : Fm → Fm
  | .fls => .fls
  | .atm c => σ c
  | .and a b => .and (subF σ a) (subF σ b)
  | .or a b => .or (subF σ a) (subF σ b)
  | .imp a b => .imp (subF σ a) (subF σ b)
def subK (K : KM) (σ : Nat → Fm) : KM where
  W := K.W
  le := K.le
  refl := K.refl
  trans := K.trans
  val := fun w c => K.forces w (σ c)
  up := fun a b c h hv => K.mono (σ c) a b h hv
theorem subK_forces (K : KM) (σ : Nat → Fm) : ∀ (x : Fm) (w : K.W), (subK K σ).forces w x ↔ K.forces w (subF σ x)
  | .fls, w => Iff.rfl
  | .atm c, w => Iff.rfl
  | .and a b, w => and_congr (subK_forces K σ a w) (subK_forces K σ b w)
  | .or a b, w => or_congr (subK_forces K σ a w) (subK_forces K σ b w)
  | .imp a b, w => ⟨fun h v hv ha => (subK_forces K σ b v).1 (h v hv ((subK_forces K σ a v).2 ha)), fun h v hv ha => (subK_forces K σ b v).2 (h v hv ((subK_forces K σ a v).1 ha))⟩
theorem vld_sub {x : Fm} (σ : Nat → Fm) (h : vld [] x) : vld [] (subF σ x) := fun K w _ => (subK_forces K σ x w).1 (h (subK K σ) w (fun y hy => by cases hy))
theorem sub_sub {σ τ : Nat → Fm} (h : ∀ c, 112 ≤ c → c ≤ 115 → subF τ (σ c) = .atm c) : ∀ x, ats x → subF τ (subF σ x) = x
  | .fls, _ => rfl
  | .atm c, hx => h c hx.1 hx.2
  | .and a b, hx => by simp only [subF]; rw [sub_sub h a hx.1, sub_sub h b hx.2]
  | .or a b, hx => by simp only [subF]; rw [sub_sub h a hx.1, sub_sub h b hx.2]
  | .imp a b, hx => by simp only [subF]; rw [sub_sub h a hx.1, sub_sub h b hx.2]
def rot (k c : Nat) : Fm := .atm (112 + (c - 112 + k) % 4)
theorem vld_rot {x : Fm} (hx : ats x) {k : Nat} (hk : k ≤ 4) : vld [] x ↔ vld [] (subF (rot k) x) := by
  constructor
  · exact vld_sub _
  · intro h
    have := vld_sub (rot (4 - k)) h
    rw [sub_sub (fun c h1 h2 => ?_) x hx] at this
    · exact this
    · simp only [rot, subF]; congr 1; omega
theorem parts_rot (k : Nat) : ∀ x, parts (subF (rot k) x) = parts x
  | .fls => rfl
  | .atm c => rfl
  | .and a b => by simp only [subF, parts]; rw [parts_rot k a, parts_rot k b]
  | .or a b => by simp only [subF, parts]; rw [parts_rot k a, parts_rot k b]
  | .imp a b => by simp only [subF, parts]; rw [parts_rot k a, parts_rot k b]
theorem ats_sub {σ : Nat → Fm} (h : ∀ c, 112 ≤ c → c ≤ 115 → ats (σ c)) : ∀ x, ats x → ats (subF σ x)
  | .fls, _ => trivial
  | .atm c, hx => h c hx.1 hx.2
  | .and a b, hx => ⟨ats_sub h a hx.1, ats_sub h b hx.2⟩
  | .or a b, hx => ⟨ats_sub h a hx.1, ats_sub h b hx.2⟩
  | .imp a b, hx => ⟨ats_sub h a hx.1, ats_sub h b hx.2⟩
theorem ats_rot (k c : Nat) : ats (rot k c) := ⟨by omega, by omega⟩
/-! ### the intuitionistic laws -/
theorem law0 (a b : Fm) : vld [] (.imp a (.imp b a)) := fun K w _ v hv ha u hu _ => K.mono a v u hu ha
theorem law1 (a b : Fm) : vld [] (.imp (.and a b) (.and b a)) := fun K w _ v hv h => ⟨h.2, h.1⟩
theorem law2 (a b : Fm) : vld [] (.imp (.or a b) (.or b a)) := fun K w _ v hv h => h.elim .inr .inl
theorem law3 (a : Fm) : vld [] (.imp a (nn a)) := fun K w _ v hv ha u hu hn => hn u (K.refl u) (K.mono a v u hu ha)
theorem law4 (a : Fm) : vld [] (.imp (.imp (nn a) .fls) (.imp a .fls)) := fun K w _ v hv h u hu ha => h u hu fun r hr hn => hn r (K.refl r) (K.mono a u r hr ha)
theorem law5 (a : Fm) : vld [] (.imp .fls a) := fun K w _ v hv h => h.elim
theorem law6 (a b : Fm) : vld [] (.imp (.and a (.imp a b)) b) := fun K w _ v hv h => h.2 v (K.refl v) h.1
theorem law7 (a b : Fm) : vld [] (.imp (.imp (.or a b) .fls) (.imp a .fls)) := fun K w _ v hv h u hu ha => h u hu (.inl ha)
theorem law8 (a b : Fm) : vld [] (.imp (.imp a b) (.imp (.imp b .fls) (.imp a .fls))) := fun K w _ v hv h u hu hn r hr ha => hn r hr (h r (K.trans _ _ _ hu hr) ha)
theorem law9 (a : Fm) : vld [] (.imp (.imp (.or a (.imp a .fls)) .fls) .fls) := fun K w _ v hv h => h v (K.refl v) (.inr fun u hu ha => h u hu (.inl ha))
end Go.Proofs.YtoilfakpgcjjpaaDoor.Log
namespace Go.Proofs.YtoilfakpgcjjpaaDoor.Log
open Go Go.RowKit Go.Proofs.YtoilfakpgcjjpaaDoor Go.Proofs.YtoilfakpgcjjpaaDoor.Eng
set_option linter.unusedVariables false
set_option linter.unusedSimpArgs false
set_option maxRecDepth 100000
def fmlF (m : Nat) (s : List UInt8) : List UInt8 := if s.length ≤ 200 ∧ isFm m s = true then s else [112]
theorem fmlF_ex {m : Nat} (hm : 1 ≤ m) (s : List UInt8) : ∃ x, ats x ∧ parts x ≤ m ∧ fmlF m s = shw x := by
  unfold fmlF
  split
  · rename_i h
    obtain ⟨x, h1, h2, h3⟩ := isFm_iff.1 h.2
    exact ⟨x, h1, h3, h2⟩
  · exact ⟨.atm 112, ⟨by decide, by decide⟩, hm, rfl⟩
theorem formula2_ok (m : Nat) (s : List UInt8) (w : World) : CallsX Tryd.prog 21 #[.string (str s), .int .i64 m] w fun v _ => v = .string (str (fmlF m s)) := by
  have st := St.start (w0 := w) (I0 := hp w) (Sub.refl _)
  refine CallsX.of (nn := 14) Tryd.func21 rfl rfl rfl (fun a mt => ?_)
  refine w_rs ?_
  refine step_pure mt (pu_assign rfl) rfl (fun a mt => ?_)
  refine w_nil ?_
  refine w_seq ?_
  refine w_rs ?_
  refine step_pure mt (pu_move rfl) rfl (fun a mt => ?_)
  refine step_pure mt (pu_len_str rfl K.un9) rfl (fun a mt => ?_)
  refine step_pure mt (pu_leq rfl rfl) rfl (fun a mt => ?_)
  refine step_pure mt (pu_move rfl) rfl (fun a mt => ?_)
  refine split_p 8 mt rfl (fun g8 mt => ?_) (fun g8 mt => ?_)
  · have hl2 : s.length ≤ 200 := by omega
    refine step_pure_g mt rfl rfl (pu_move rfl) rfl (fun a mt => ?_)
    refine step_pure_g mt rfl rfl (pu_move rfl) rfl (fun a mt => ?_)
    refine s_callv_g mt st rfl rfl K.cb17 (vs := [.string (str s), .int .i64 m]) rfl (Formula_ok m s _ (by omega)) rfl (fun a w' mt st => ?_)
    refine step_pure mt (pu_pick rfl rfl) rfl (fun a mt => ?_)
    refine w_nil ?_
    refine w_cond_b mt rfl (fun h12 => ?_) (fun h12 => ?_)
    · refine w_rs ?_
      refine step_pure mt (pu_move rfl) rfl (fun a mt => ?_)
      refine step_pure mt (pu_assign rfl) rfl (fun a mt => ?_)
      refine w_nil ?_
      refine w_ret (x_then_ret ?_)
      refine post_ret1 mt rfl rfl ?_
      exact ⟨_, rfl, st.below, by unfold fmlF; rw [if_pos ⟨hl2, h12⟩]⟩
    · refine w_skip ?_
      refine x_then_n ?_
      refine w_rs ?_
      refine step_pure mt (pu_assign rfl) rfl (fun a mt => ?_)
      refine w_nil ?_
      refine w_ret ?_
      refine post_ret1 mt rfl rfl ?_
      first
      | exact ⟨_, rfl, st.below, by unfold fmlF; rw [if_neg (fun h => by rw [h.2] at h12; cases h12)]; rfl⟩
      | exact ⟨_, rfl, st.below, by unfold fmlF; rw [if_neg (fun h => by have := h.1; omega)]; rfl⟩
  · refine step_skip_g mt rfl rfl rfl rfl (fun a mt => ?_)
    refine step_skip_g mt rfl rfl rfl rfl (fun a mt => ?_)
    refine step_skip_g mt rfl rfl rfl rfl (fun a mt => ?_)
    refine step_pure mt (pu_pick rfl rfl) rfl (fun a mt => ?_)
    refine w_nil ?_
    refine w_false mt rfl ?_
    refine w_skip ?_
    refine x_then_n ?_
    refine w_rs ?_
    refine step_pure mt (pu_assign rfl) rfl (fun a mt => ?_)
    refine w_nil ?_
    refine w_ret ?_
    refine post_ret1 mt rfl rfl ?_
    first
    | exact ⟨_, rfl, st.below, by unfold fmlF; rw [if_neg (fun h => by rw [h.2] at h12; cases h12)]; rfl⟩
    | exact ⟨_, rfl, st.below, by unfold fmlF; rw [if_neg (fun h => by have := h.1; omega)]; rfl⟩
def valF (s : List UInt8) : Bool := match fmOf s with | some x => (decF x).valid | none => false
theorem valF_iff {x : Fm} (hx : ats x) (hp : parts x ≤ 12) : valF (shw x) = true ↔ vld [] x := by
  unfold valF; rw [fmOf_shw hx hp]; exact dec_vld hx hp
theorem valF_ok {x : Fm} (hx : ats x) (hp : parts x ≤ 12) : (fmOf (shw x)).isSome = true := by rw [fmOf_shw hx hp]; rfl
theorem valid_ok {I : Hp} (s : List UInt8) (w : World) (hI : Sub I (hp w)) (hG : Gl I) : CallsX Tryd.prog 22 #[.string (str s)] w fun v _ => v = .tuple #[.bool (valF s), .bool (fmOf s).isSome] := by
  have st := St.start (w0 := w) (I0 := I) hI
  refine CallsX.of (nn := 15) Tryd.func22 rfl rfl rfl (fun a mt => ?_)
  refine w_rs ?_
  refine step_pure mt (pu_assign rfl) rfl (fun a mt => ?_)
  refine step_pure mt (pu_assign rfl) rfl (fun a mt => ?_)
  refine w_nil ?_
  refine w_rs ?_
  refine step_pure mt (pu_move rfl) rfl (fun a mt => ?_)
  refine s_call mt st K.cb30 (vs := [.string (str s)]) rfl (Decide_ok s _ st.agr (hG.mono st.sub0)) rfl (fun a w' v8 mt st hI8 hv8 => ?_)
  obtain ⟨b, lv, va, vm, e, rfl, o1, o2, o3, hb, he⟩ : ∃ b lv va vm e, v8 = .tuple #[.agg #[.bool b, lv, va, vm], .int .i64 e] ∧ lv.oneCell' = true ∧ va.oneCell' = true ∧ vm.oneCell' = true ∧ b = valF s ∧ decide (e = 0) = (fmOf s).isSome := by
    unfold valF
    cases hx : fmOf s with
    | none => rw [hx] at hv8; exact ⟨_, _, _, _, _, hv8, rfl, rfl, rfl, rfl, rfl⟩
    | some x =>
      rw [hx] at hv8
      obtain ⟨rv, rfl, lv, va, vm, rfl, h1, _, _, rows, e0, r1, _, r3⟩ := hv8
      cases e0
      exact ⟨_, _, _, _, _, rfl, by obtain ⟨ad, c, rfl, _⟩ := RdS.len h1; rfl, RdS.one r1, RdS.one r3, rfl, rfl⟩
  refine step_pure mt (pu_move rfl) rfl (fun a mt => ?_)
  refine step_pure mt (pu_extract rfl rfl) rfl (fun a mt => ?_)
  refine step_pure mt (pu_extract rfl rfl) rfl (fun a mt => ?_)
  refine step_alloc mt st (al_alloc K.ze56 rfl) rfl (fun a w' b4 mt st => ?_)
  refine s_storeA mt st K.sz56 rfl rfl rfl (by simp [o1, o2, o3, one_bool]) rfl rfl (fun w' st => ?_)
  refine step_pure mt (pu_assign rfl) rfl (fun a mt => ?_)
  refine w_nil ?_
  refine w_rs ?_
  refine step_pure mt (pu_fld 0 K.fl56_0 rfl) rfl (fun a mt => ?_)
  refine step_pure mt (pu_loadM st K.sc4 rfl rfl) rfl (fun a mt => ?_)
  refine step_pure mt (pu_move rfl) rfl (fun a mt => ?_)
  refine step_pure mt (pu_eql rfl rfl) rfl (fun a mt => ?_)
  refine step_pure mt (pu_assign rfl) rfl (fun a mt => ?_)
  refine step_pure mt (pu_assign rfl) rfl (fun a mt => ?_)
  refine w_nil ?_
  refine w_ret ?_
  refine post_ret2 mt rfl rfl rfl ?_
  exact ⟨_, rfl, st.below, by rw [hb, ← he]⟩
def modI (x : Int) (n : Nat) : Nat := (IntKind.u64.wrap x).toNat % n
theorem modI_lt (x : Int) {n : Nat} (h : 0 < n) : modI x n < n := Nat.mod_lt _ h
theorem u64_nonneg (x : Int) : 0 ≤ IntKind.u64.wrap x := by
  have : (Lit.int .u64 (IntKind.u64.wrap x)).wf = true := wf_wrap _ _
  simp [Lit.wf, IntKind.min, IntKind.max, IntKind.signed, IntKind.bits] at this
  omega
theorem mod_ok (x : Int) (n : Nat) (hn : 0 < n) (hn2 : n ≤ 1000000) (w : World) : CallsX Tryd.prog 23 #[.int .i64 x, .int .i64 n] w fun v _ => v = .int .i64 (modI x n) := by
  have st := St.start (w0 := w) (I0 := hp w) (Sub.refl _)
  have h0 := u64_nonneg x
  have e8 : IntKind.u64.wrap (n : Int) = (n : Int) := by
    simp only [IntKind.wrap, IntKind.signed, IntKind.bits]
    simp
    omega
  have hlt := modI_lt x hn
  have e9 : (IntKind.u64.wrap x).tmod (n : Int) = ((modI x n : Nat) : Int) := by
    rw [Int.tmod_eq_emod_of_nonneg h0]
    unfold modI
    rw [Int.natCast_emod, Int.toNat_of_nonneg h0]
  refine CallsX.of (nn := 11) Tryd.func23 rfl rfl rfl (fun a mt => ?_)
  refine w_rs ?_
  refine step_pure mt (pu_assign rfl) rfl (fun a mt => ?_)
  refine w_nil ?_
  refine w_rs ?_
  refine step_pure mt (pu_move rfl) rfl (fun a mt => ?_)
  refine step_pure mt (pu_conv_int K.un3 K.un77 rfl) rfl (fun a mt => ?_)
  refine step_pure mt (pu_move rfl) rfl (fun a mt => ?_)
  refine step_pure mt ((pu_conv_int K.un3 K.un77 rfl).to (u := .int .u64 n) (by rw [e8])) rfl (fun a mt => ?_)
  refine step_pure mt ((pu_rem rfl rfl (by omega)).to (u := .int .u64 ((modI x n : Nat) : Int)) (by rw [e9])) rfl (fun a mt => ?_)
  refine step_pure mt ((pu_conv_int K.un77 K.un3 rfl).to (u := .int .i64 ((modI x n : Nat) : Int)) (by rw [i64_wrap (by omega)])) rfl (fun a mt => ?_)
  refine step_pure mt (pu_assign rfl) rfl (fun a mt => ?_)
  refine w_nil ?_
  refine w_ret ?_
  refine post_ret1 mt rfl rfl ?_
  exact ⟨_, rfl, st.below, rfl⟩
end Go.Proofs.YtoilfakpgcjjpaaDoor.Log
namespace Go.Proofs.YtoilfakpgcjjpaaDoor.Log
open Go Go.RowKit Go.Proofs.YtoilfakpgcjjpaaDoor Go.Proofs.YtoilfakpgcjjpaaDoor.Eng
set_option linter.unusedVariables false
set_option linter.unusedSimpArgs false
set_option maxRecDepth 100000
theorem LogicGlivenko_ok {I : Hp} (s : List UInt8) (w : World) (hI : Sub I (hp w)) (hG : Gl I) : CallsX Tryd.prog 4 #[.string (str s)] w fun v _ => v = .bool true := by
  have st := St.start (w0 := w) (I0 := I) hI
  obtain ⟨x, hx, hp8, hsx⟩ := fmlF_ex (m := 8) (by decide) s
  have hlx := shw_len x
  have hnx : ats (nn x) := ⟨⟨hx, trivial⟩, trivial⟩
  have hnp : parts (nn x) ≤ 12 := by simp only [parts]; omega
  have enn : [40, 40] ++ shw x ++ [62, 102, 41, 62, 102, 41] = shw (nn x) := by simp [shw]
  refine CallsX.of (nn := 51) Tryd.func4 rfl rfl rfl (fun a mt => ?_)
  refine w_rs ?_
  refine step_pure mt (pu_assign rfl) rfl (fun a mt => ?_)
  refine w_nil ?_
  refine w_rs ?_
  refine step_pure mt (pu_move rfl) rfl (fun a mt => ?_)
  refine s_callv mt st K.cb21 (vs := [.string (str s), .int .i64 ((8 : Nat) : Int)]) rfl (formula2_ok 8 s _) rfl (fun a w' mt st => ?_)
  rw [hsx] at mt
  refine step_pure mt (pu_assign rfl) rfl (fun a mt => ?_)
  refine w_nil ?_
  refine w_rs ?_
  refine step_pure mt (pu_move rfl) rfl (fun a mt => ?_)
  refine s_callv mt st K.cb22 (vs := [.string (str (shw x))]) rfl (valid_ok (shw x) _ st.agr (hG.mono st.sub0)) rfl (fun a w' mt st => ?_)
  rw [valF_ok hx (by omega)] at mt
  refine step_pure mt (pu_move rfl) rfl (fun a mt => ?_)
  refine step_pure mt (pu_extract rfl rfl) rfl (fun a mt => ?_)
  refine step_pure mt (pu_extract rfl rfl) rfl (fun a mt => ?_)
  refine step_pure mt (pu_assign rfl) rfl (fun a mt => ?_)
  refine step_pure mt (pu_assign rfl) rfl (fun a mt => ?_)
  refine w_nil ?_
  refine w_rs ?_
  refine step_pure mt (pu_move rfl) rfl (fun a mt => ?_)
  refine step_pure mt (pu_cat_str (i := [40, 40]) rfl rfl (by simp; omega)) rfl (fun a mt => ?_)
  refine step_pure mt ((pu_cat_str (j := [62, 102, 41, 62, 102, 41]) rfl rfl (by simp; omega)).to (u := .string (str (shw (nn x)))) (by rw [enn])) rfl (fun a mt => ?_)
  refine s_callv mt st K.cb22 (vs := [.string (str (shw (nn x)))]) rfl (valid_ok (shw (nn x)) _ st.agr (hG.mono st.sub0)) rfl (fun a w' mt st => ?_)
  rw [valF_ok hnx hnp, show valF (shw (nn x)) = clF x from Bool.eq_iff_iff.2 ((valF_iff hnx hnp).trans (glivenko hx))] at mt
  refine step_pure mt (pu_move rfl) rfl (fun a mt => ?_)
  refine step_pure mt (pu_extract rfl rfl) rfl (fun a mt => ?_)
  refine step_pure mt (pu_extract rfl rfl) rfl (fun a mt => ?_)
  refine step_pure mt (pu_assign rfl) rfl (fun a mt => ?_)
  refine step_pure mt (pu_assign rfl) rfl (fun a mt => ?_)
  refine w_nil ?_
  refine w_rs ?_
  refine step_pure mt (pu_move rfl) rfl (fun a mt => ?_)
  refine s_callv mt st K.cb15 (vs := [.string (str (shw x))]) rfl (Classical2_ok (shw x) _) rfl (fun a w' mt st => ?_)
  cases hc : clF x with
  | true =>
    rw [fmOf_shw hx (by omega), show clO (some x) = clF x from rfl, hc] at mt
    refine step_pure mt (pu_move rfl) rfl (fun a mt => ?_)
    refine step_pure mt (pu_extract rfl rfl) rfl (fun a mt => ?_)
    refine step_pure mt (pu_extract rfl rfl) rfl (fun a mt => ?_)
    refine step_pure mt (pu_assign rfl) rfl (fun a mt => ?_)
    refine step_pure mt (pu_assign rfl) rfl (fun a mt => ?_)
    refine w_nil ?_
    refine w_rs ?_
    refine step_pure mt (pu_move rfl) rfl (fun a mt => ?_)
    refine step_pure mt (pu_move rfl) rfl (fun a mt => ?_)
    refine step_pure_g mt rfl rfl (pu_move rfl) rfl (fun a mt => ?_)
    refine step_pure mt (pu_pick rfl rfl) rfl (fun a mt => ?_)
    refine step_pure mt (pu_move rfl) rfl (fun a mt => ?_)
    refine step_pure_g mt rfl rfl (pu_move rfl) rfl (fun a mt => ?_)
    refine step_pure_g mt rfl rfl ((pu_eql rfl rfl).tob (j := true) rfl) rfl (fun a mt => ?_)
    refine step_pure mt (pu_pick rfl rfl) rfl (fun a mt => ?_)
    refine step_pure mt (pu_move rfl) rfl (fun a mt => ?_)
    refine step_pure_g mt rfl rfl (pu_move rfl) rfl (fun a mt => ?_)
    refine step_pure_g mt rfl rfl (pu_not rfl) rfl (fun a mt => ?_)
    refine step_pure_g mt rfl rfl (pu_move rfl) rfl (fun a mt => ?_)
    refine split_b 39 mt rfl (fun g39 mt => ?_) (fun g39 mt => ?_)
    · refine step_skip_g mt rfl rfl rfl rfl (fun a mt => ?_)
      refine step_pure_g mt rfl rfl (pu_pick rfl rfl) rfl (fun a mt => ?_)
      refine step_pure mt (pu_pick rfl rfl) rfl (fun a mt => ?_)
      refine step_pure mt (pu_move rfl) rfl (fun a mt => ?_)
      refine step_pure_g mt rfl rfl (pu_move rfl) rfl (fun a mt => ?_)
      refine step_pure_g mt rfl rfl (pu_move rfl) rfl (fun a mt => ?_)
      refine step_pure_g mt rfl rfl ((pu_eql_b rfl rfl K.un4).tob (j := true) rfl) rfl (fun a mt => ?_)
      refine step_pure mt (pu_pick rfl rfl) rfl (fun a mt => ?_)
      refine step_pure mt (pu_move rfl) rfl (fun a mt => ?_)
      refine s_callv_g mt st rfl rfl K.cb18 (vs := []) rfl (awake_ok _ st.agr (hG.mono st.sub0)) rfl (fun a w' mt st => ?_)
      refine step_pure mt (pu_pick rfl rfl) rfl (fun a mt => ?_)
      refine step_pure mt (pu_assign rfl) rfl (fun a mt => ?_)
      refine w_nil ?_
      refine w_ret ?_
      refine post_ret1 mt rfl rfl ?_
      exact ⟨_, rfl, st.below, rfl⟩
    · refine step_pure_g mt rfl rfl (pu_move rfl) rfl (fun a mt => ?_)
      refine step_pure_g mt rfl rfl (pu_pick rfl rfl) rfl (fun a mt => ?_)
      refine step_pure mt (pu_pick rfl rfl) rfl (fun a mt => ?_)
      refine step_pure mt (pu_move rfl) rfl (fun a mt => ?_)
      refine step_pure_g mt rfl rfl (pu_move rfl) rfl (fun a mt => ?_)
      refine step_pure_g mt rfl rfl (pu_move rfl) rfl (fun a mt => ?_)
      refine step_pure_g mt rfl rfl ((pu_eql_b rfl rfl K.un4).tob (j := true) rfl) rfl (fun a mt => ?_)
      refine step_pure mt (pu_pick rfl rfl) rfl (fun a mt => ?_)
      refine step_pure mt (pu_move rfl) rfl (fun a mt => ?_)
      refine s_callv_g mt st rfl rfl K.cb18 (vs := []) rfl (awake_ok _ st.agr (hG.mono st.sub0)) rfl (fun a w' mt st => ?_)
      refine step_pure mt (pu_pick rfl rfl) rfl (fun a mt => ?_)
      refine step_pure mt (pu_assign rfl) rfl (fun a mt => ?_)
      refine w_nil ?_
      refine w_ret ?_
      refine post_ret1 mt rfl rfl ?_
      exact ⟨_, rfl, st.below, rfl⟩
  | false =>
    have hb : valF (shw x) = false := by
      cases h : valF (shw x) with
      | false => rfl
      | true => have := vld_cl hx ((valF_iff hx (by omega)).1 h); rw [hc] at this; cases this
    rw [fmOf_shw hx (by omega), show clO (some x) = clF x from rfl, hc, hb] at mt
    refine step_pure mt (pu_move rfl) rfl (fun a mt => ?_)
    refine step_pure mt (pu_extract rfl rfl) rfl (fun a mt => ?_)
    refine step_pure mt (pu_extract rfl rfl) rfl (fun a mt => ?_)
    refine step_pure mt (pu_assign rfl) rfl (fun a mt => ?_)
    refine step_pure mt (pu_assign rfl) rfl (fun a mt => ?_)
    refine w_nil ?_
    refine w_rs ?_
    refine step_pure mt (pu_move rfl) rfl (fun a mt => ?_)
    refine step_pure mt (pu_move rfl) rfl (fun a mt => ?_)
    refine step_pure_g mt rfl rfl (pu_move rfl) rfl (fun a mt => ?_)
    refine step_pure mt (pu_pick rfl rfl) rfl (fun a mt => ?_)
    refine step_pure mt (pu_move rfl) rfl (fun a mt => ?_)
    refine step_pure_g mt rfl rfl (pu_move rfl) rfl (fun a mt => ?_)
    refine step_pure_g mt rfl rfl ((pu_eql rfl rfl).tob (j := true) rfl) rfl (fun a mt => ?_)
    refine step_pure mt (pu_pick rfl rfl) rfl (fun a mt => ?_)
    refine step_pure mt (pu_move rfl) rfl (fun a mt => ?_)
    refine step_pure_g mt rfl rfl (pu_move rfl) rfl (fun a mt => ?_)
    refine step_pure_g mt rfl rfl (pu_not rfl) rfl (fun a mt => ?_)
    refine step_pure_g mt rfl rfl (pu_move rfl) rfl (fun a mt => ?_)
    refine step_skip_g mt rfl rfl rfl rfl (fun a mt => ?_)
    refine step_pure_g mt rfl rfl (pu_pick rfl rfl) rfl (fun a mt => ?_)
    refine step_pure mt (pu_pick rfl rfl) rfl (fun a mt => ?_)
    refine step_pure mt (pu_move rfl) rfl (fun a mt => ?_)
    refine step_pure_g mt rfl rfl (pu_move rfl) rfl (fun a mt => ?_)
    refine step_pure_g mt rfl rfl (pu_move rfl) rfl (fun a mt => ?_)
    refine step_pure_g mt rfl rfl ((pu_eql_b rfl rfl K.un4).tob (j := true) rfl) rfl (fun a mt => ?_)
    refine step_pure mt (pu_pick rfl rfl) rfl (fun a mt => ?_)
    refine step_pure mt (pu_move rfl) rfl (fun a mt => ?_)
    refine s_callv_g mt st rfl rfl K.cb18 (vs := []) rfl (awake_ok _ st.agr (hG.mono st.sub0)) rfl (fun a w' mt st => ?_)
    refine step_pure mt (pu_pick rfl rfl) rfl (fun a mt => ?_)
    refine step_pure mt (pu_assign rfl) rfl (fun a mt => ?_)
    refine w_nil ?_
    refine w_ret ?_
    refine post_ret1 mt rfl rfl ?_
    exact ⟨_, rfl, st.below, rfl⟩
end Go.Proofs.YtoilfakpgcjjpaaDoor.Log
namespace Go.Proofs.YtoilfakpgcjjpaaDoor.Log
set_option linter.unusedVariables false
set_option linter.unusedSimpArgs false
theorem parts_pos (x : Fm) : 1 ≤ parts x := by cases x <;> simp only [parts] <;> omega
theorem shw_len1 {y : Fm} (h : parts y ≤ 2) : (shw y).length = 1 := by
  cases y with
  | fls => rfl
  | atm c => rfl
  | and a b => have := parts_pos a; have := parts_pos b; simp only [parts] at h; omega
  | or a b => have := parts_pos a; have := parts_pos b; simp only [parts] at h; omega
  | imp a b => have := parts_pos a; have := parts_pos b; simp only [parts] at h; omega
def renB (k : Nat) (c : UInt8) : UInt8 := if 112 ≤ c.toNat ∧ c.toNat ≤ 115 then UInt8.ofNat (112 + (c.toNat - 112 + k) % 4) else c
def repB (t : List UInt8) (c : UInt8) : List UInt8 := if c = 112 then 40 :: (t ++ [62, 113, 41]) else [c]
theorem rep_len (t : List UInt8) : ∀ l : List UInt8, (l.flatMap (repB t)).length ≤ (t.length + 4) * l.length
  | [] => Nat.le_refl _
  | c :: l => by
    have := rep_len t l
    have h : (repB t c).length ≤ t.length + 4 := by unfold repB; split <;> simp <;> omega
    simp only [List.flatMap_cons, List.length_append, List.length_cons, Nat.mul_add]
    omega
theorem shw_ren (k : Nat) : ∀ x, ats x → shw (subF (rot k) x) = (shw x).map (renB k) := by
  intro x
  induction x with
  | fls => intro _; rfl
  | atm c =>
    intro h
    have e := u8_ofNat h
    have h1 := h.1
    have h2 := h.2
    simp only [subF, rot, shw, List.map_cons, List.map_nil, renB, e]
    rw [if_pos ⟨h1, h2⟩]
  | and a b iha ihb => intro h; simp only [subF, shw, List.map_append, List.map_cons, List.map_nil, iha h.1, ihb h.2]; rfl
  | or a b iha ihb => intro h; simp only [subF, shw, List.map_append, List.map_cons, List.map_nil, iha h.1, ihb h.2]; rfl
  | imp a b iha ihb => intro h; simp only [subF, shw, List.map_append, List.map_cons, List.map_nil, iha h.1, ihb h.2]; rfl
def repS (y : Fm) (c : Nat) : Fm := if c = 112 then .imp y (.atm 113) else .atm c
theorem ats_repS {y : Fm} (hy : ats y) : ∀ c, 112 ≤ c → c ≤ 115 → ats (repS y c) := by
  intro c h1 h2
  unfold repS
  split
  · exact ⟨hy, by decide, by decide⟩
  · exact ⟨h1, h2⟩
theorem shw_rep (y : Fm) : ∀ x, ats x → shw (subF (repS y) x) = (shw x).flatMap (repB (shw y)) := by
  intro x
  induction x with
  | fls => intro _; rfl
  | atm c =>
    intro h
    have e := u8_ofNat h
    simp only [subF, repS, shw, List.flatMap_cons, List.flatMap_nil, List.append_nil, repB]
    by_cases hc : c = 112
    · subst hc; rw [if_pos (show UInt8.ofNat 112 = 112 from rfl)]; simp [shw]
    · rw [if_neg hc, if_neg (fun h' => hc (by rw [← e, h']; rfl))]; rfl
  | and a b iha ihb => intro h; simp only [subF, shw, List.flatMap_append, List.flatMap_cons, List.flatMap_nil, iha h.1, ihb h.2]; rfl
  | or a b iha ihb => intro h; simp only [subF, shw, List.flatMap_append, List.flatMap_cons, List.flatMap_nil, iha h.1, ihb h.2]; rfl
  | imp a b iha ihb => intro h; simp only [subF, shw, List.flatMap_append, List.flatMap_cons, List.flatMap_nil, iha h.1, ihb h.2]; rfl
end Go.Proofs.YtoilfakpgcjjpaaDoor.Log
namespace Go.Proofs.YtoilfakpgcjjpaaDoor.Log
set_option linter.unusedVariables false
set_option linter.unusedSimpArgs false
def lawsL (x y : Fm) : List Fm := [.imp x (.imp y x), .imp (.and x y) (.and y x), .imp (.or x y) (.or y x), .imp x (nn x), .imp (.imp (nn x) .fls) (.imp x .fls), .imp .fls x, .imp (.and x (.imp x y)) y,
  .imp (.imp (.or x y) .fls) (.imp x .fls), .imp (.imp x y) (.imp (.imp y .fls) (.imp x .fls)), .imp (.imp (.or x (.imp x .fls)) .fls) .fls]
theorem lawsL_ok {x y : Fm} (hx : ats x) (hy : ats y) (px : parts x ≤ 3) (py : parts y ≤ 1) : ∀ z ∈ lawsL x y, ats z ∧ parts z ≤ 40 ∧ vld [] z := by
  intro z hz
  have h : z = .imp x (.imp y x) ∨ z = .imp (.and x y) (.and y x) ∨ z = .imp (.or x y) (.or y x) ∨ z = .imp x (nn x) ∨ z = .imp (.imp (nn x) .fls) (.imp x .fls) ∨ z = .imp .fls x ∨ z = .imp (.and x (.imp x y)) y ∨
    z = .imp (.imp (.or x y) .fls) (.imp x .fls) ∨ z = .imp (.imp x y) (.imp (.imp y .fls) (.imp x .fls)) ∨ z = .imp (.imp (.or x (.imp x .fls)) .fls) .fls := by simpa [lawsL] using hz
  have ht : ats .fls := trivial
  rcases h with rfl | rfl | rfl | rfl | rfl | rfl | rfl | rfl | rfl | rfl
  · exact ⟨⟨hx, hy, hx⟩, by simp only [parts]; omega, law0 _ _⟩
  · exact ⟨⟨⟨hx, hy⟩, hy, hx⟩, by simp only [parts]; omega, law1 _ _⟩
  · exact ⟨⟨⟨hx, hy⟩, hy, hx⟩, by simp only [parts]; omega, law2 _ _⟩
  · exact ⟨⟨hx, ⟨hx, ht⟩, ht⟩, by simp only [parts, nn]; omega, law3 _⟩
  · exact ⟨⟨⟨⟨⟨hx, ht⟩, ht⟩, ht⟩, hx, ht⟩, by simp only [parts, nn]; omega, law4 _⟩
  · exact ⟨⟨ht, hx⟩, by simp only [parts]; omega, law5 _⟩
  · exact ⟨⟨⟨hx, hx, hy⟩, hy⟩, by simp only [parts]; omega, law6 _ _⟩
  · exact ⟨⟨⟨⟨hx, hy⟩, ht⟩, hx, ht⟩, by simp only [parts]; omega, law7 _ _⟩
  · exact ⟨⟨⟨hx, hy⟩, ⟨hy, ht⟩, hx, ht⟩, by simp only [parts]; omega, law8 _ _⟩
  · exact ⟨⟨⟨⟨hx, hx, ht⟩, ht⟩, ht⟩, by simp only [parts]; omega, law9 _⟩
def neverL : List Fm :=
  let p := Fm.atm 112
  let q := Fm.atm 113
  let n := fun a => Fm.imp a .fls
  [.or p (n p), .imp (n (n p)) p, .imp (.imp (.imp p q) p) p, .or (.imp p q) (.imp q p), .or (.imp p q) (.imp q (n p)), .or (n p) (n (n p))]
theorem no_vld (ab : List (List Int)) (mk : List Int) (h : isModF ab mk = true) (x : Fm) (hx : ats x) (hp : fc ab mk x 0 = false) : ¬ vld [] x := by
  intro hv
  have h0 : 0 < ab.length := (isModF_get h).1
  have h1 := hv (finK ab mk h) ⟨0, h0⟩ (fun y hy => by cases hy)
  rw [finK_forces h x hx ⟨0, h0⟩] at h1
  rw [hp] at h1
  cases h1
theorem neverL_ok : ∀ z ∈ neverL, ats z ∧ parts z ≤ 12 ∧ ¬ vld [] z ∧ clF z = true := by
  intro z hz
  simp only [neverL, List.mem_cons, List.not_mem_nil, or_false] at hz
  have h2 : isModF [[0, 1], [1]] [0, 1] = true := by decide
  have h3 : isModF [[0, 1, 2], [1], [2]] [0, 1, 2] = true := by decide
  have h4 : isModF [[0, 1, 2], [1], [2]] [0, 1, 3] = true := by decide
  have h5 : isModF [[0, 1, 2], [1], [2]] [0, 1, 0] = true := by decide
  have ap : ats (.atm 112) := ⟨by decide, by decide⟩
  have aq : ats (.atm 113) := ⟨by decide, by decide⟩
  have ht : ats .fls := trivial
  rcases hz with rfl | rfl | rfl | rfl | rfl | rfl
  · have ha : ats (.or (.atm 112) (.imp (.atm 112) .fls)) := ⟨ap, ap, ht⟩
    exact ⟨ha, by decide, no_vld _ _ h2 _ ha (by decide), by decide⟩
  · have ha : ats (.imp (.imp (.imp (.atm 112) .fls) .fls) (.atm 112)) := ⟨⟨⟨ap, ht⟩, ht⟩, ap⟩
    exact ⟨ha, by decide, no_vld _ _ h2 _ ha (by decide), by decide⟩
  · have ha : ats (.imp (.imp (.imp (.atm 112) (.atm 113)) (.atm 112)) (.atm 112)) := ⟨⟨⟨ap, aq⟩, ap⟩, ap⟩
    exact ⟨ha, by decide, no_vld _ _ h2 _ ha (by decide), by decide⟩
  · have ha : ats (.or (.imp (.atm 112) (.atm 113)) (.imp (.atm 113) (.atm 112))) := ⟨⟨ap, aq⟩, aq, ap⟩
    exact ⟨ha, by decide, no_vld _ _ h3 _ ha (by decide), by decide⟩
  · have ha : ats (.or (.imp (.atm 112) (.atm 113)) (.imp (.atm 113) (.imp (.atm 112) .fls))) := ⟨⟨ap, aq⟩, aq, ap, ht⟩
    exact ⟨ha, by decide, no_vld _ _ h4 _ ha (by decide), by decide⟩
  · have ha : ats (.or (.imp (.atm 112) .fls) (.imp (.imp (.atm 112) .fls) .fls)) := ⟨⟨ap, ht⟩, ⟨ap, ht⟩, ht⟩
    exact ⟨ha, by decide, no_vld _ _ h5 _ ha (by decide), by decide⟩
end Go.Proofs.YtoilfakpgcjjpaaDoor.Log
namespace Go.Proofs.YtoilfakpgcjjpaaDoor.Log
open Go Go.RowKit Go.Proofs.YtoilfakpgcjjpaaDoor Go.Proofs.YtoilfakpgcjjpaaDoor.Eng
set_option linter.unusedVariables false
set_option linter.unusedSimpArgs false
set_option maxRecDepth 100000
section
variable {P : Program} {w1 : World} {n : Nat} {L : List (Nat × Value)} {dd : Option Tmp} {ty : TypeId} {pos : String} {af : Array Edge} {g : Option (Nat × Bool)}
theorem pu_build_arr {t e : TypeId} {m : Nat} {sz : Nat} {ps : Array (Nat × Operand)} {zc cs : Array Value} {vs : List (Nat × Value)} (ht : P.underlying t = some (.array m e)) (hs : (P.info? e).map (·.size) = some sz) (hz : zeroB P t = some (.agg zc)) (hps : evParts L ps.toList = some vs)
    (hf : Instr.fill (fun i => some (i * sz, sz)) zc vs = some cs) : PureE P n L w1 ⟨dd, .build t ps, ty, pos, af, g⟩ (.agg cs) := fun a w mt _ => by
  obtain ⟨ti, he, rfl⟩ := Option.map_eq_some_iff.1 hs
  have hb : P.built t (ps.map fun (i, x) => (i, a.eval x)).toList = some cs := by
    have hp : (ps.map fun (i, x) => (i, a.eval x)).toList = vs := by rw [← evParts_ok mt _ _ hps]; simp
    unfold zeroB at hz
    cases hi : P.info? t with
    | none => simp [hi] at hz
    | some it =>
      simp only [hi, Option.bind_some] at hz
      unfold Program.built
      rw [hp]
      simp only [hi, ht, hz, he]
      simpa [Value.cells] using hf
  simp only [execOp, Sem.run_bind]
  rw [run_build w t _ cs hb]
  rfl
theorem pu_build_arr1 {t e : TypeId} {m : Nat} {ps : Array (Nat × Operand)} {zc : Array Value} {vs : List Value} (ht : P.underlying t = some (.array m e)) (hs : (P.info? e).map (·.size) = some 1) (hz : zeroB P t = some (.agg zc)) (hps : evSeq L 0 ps.toList = some vs)
    (hm : vs.length = zc.size) (hv : ∀ v ∈ vs, v.oneCell' = true) : PureE P n L w1 ⟨dd, .build t ps, ty, pos, af, g⟩ (.agg vs.toArray) := by
  refine pu_build_arr ht hs hz (evSeq_parts hps) ?_
  have h := fill_flat 1 vs 0 [] zc.toList (fun v h => by rw [one_cells (hv v h)]; rfl) (by simp) (by simp [hm])
  have e : (vs.flatMap fun v => v.cells.toList) = vs := by
    clear h hps hm
    induction vs with
    | nil => rfl
    | cons v vs ih => simp [one_cells (hv v (.head _)), ih (fun u hu => hv u (.tail _ hu))]
  rw [e] at h
  simpa using h
theorem pu_ia_arr {x y : Operand} {t e : TypeId} {m sz : Nat} {b o : Nat} {k : IntKind} {i : Int} (ht : P.underlying t = some (.array m e)) (hs : (P.info? e).map (·.size) = some sz)
    (hx : ev L x = some (.pointer (some ⟨b, o, none⟩))) (hy : ev L y = some (.int k i)) (h0 : 0 ≤ i) (h1 : i < m) :
    PureE P n L w1 ⟨dd, .indexAddr t x y, ty, pos, af, g⟩ (.pointer (some ⟨b, o + i.toNat * sz, none⟩)) := by
  obtain ⟨ti, he, rfl⟩ := Option.map_eq_some_iff.1 hs
  exact pu_indexAddr_arr ht he hx hy h0 h1
end
theorem str_one (l : List Fm) : ∀ v ∈ l.map (fun z => Value.string (str (shw z))), v.oneCell' = true := fun v h => by
  obtain ⟨z, _, rfl⟩ := List.mem_map.1 h
  rfl
theorem store_all (cs : Array Value) (vs : List Value) (h : vs.length = cs.size) : cs.toList.take 0 ++ vs.toArray.toList ++ cs.toList.drop (0 + vs.toArray.size) = vs := by
  simp [h]
theorem LogicLaws_ok {I : Hp} (s t : List UInt8) (by_ : Int) (w : World) (_h : (Lit.int .i64 by_).wf = true) (hI : Sub I (hp w)) (hG : Gl I) : CallsX Tryd.prog 7 #[.string (str s), .string (str t), .int .i64 by_] w fun v _ => v = .bool true := by
  have st := St.start (w0 := w) (I0 := I) hI
  obtain ⟨x, hx, hp3, hsx⟩ := fmlF_ex (m := 3) (by decide) s
  obtain ⟨y, hy, hq1, hty⟩ := fmlF_ex (m := 1) (by decide) t
  have hlx := shw_len x
  have hly := shw_len y
  have hi10 := modI_lt by_ (n := 10) (by decide)
  have hi6 := modI_lt by_ (n := 6) (by decide)
  obtain ⟨z, hz⟩ : ∃ z, (lawsL x y)[modI by_ 10]? = some z := ⟨_, List.getElem?_eq_getElem (by exact hi10)⟩
  obtain ⟨u, hu⟩ : ∃ u, neverL[modI by_ 6]? = some u := ⟨_, List.getElem?_eq_getElem (by exact hi6)⟩
  obtain ⟨hza, hzp, hzv⟩ := lawsL_ok hx hy hp3 hq1 z (List.mem_of_getElem? hz)
  obtain ⟨hua, hup, hun, huc⟩ := neverL_ok u (List.mem_of_getElem? hu)
  have hlz := shw_len z
  have hvu : valF (shw u) = false := by rw [← Bool.not_eq_true, valF_iff hua hup]; exact hun
  have hou : (fmOf (shw u)).isSome = true := valF_ok hua hup
  have hcu : clO (fmOf (shw u)) = true := by rw [fmOf_shw hua hup]; exact huc
  have heu : errO (fmOf (shw u)) = 0 := by rw [fmOf_shw hua hup]; rfl
  have hz7 : ((lawsL x y).map fun z => Value.string (str (shw z)))[0 + ((modI by_ 10 : Nat) : Int).toNat * 1]? = some (.string (str (shw z))) := by
    rw [Nat.zero_add, Nat.mul_one, Int.toNat_natCast, List.getElem?_map, hz]; rfl
  have hu8 : (neverL.map fun z => Value.string (str (shw z)))[0 + ((modI by_ 6 : Nat) : Int).toNat * 1]? = some (.string (str (shw u))) := by
    rw [Nat.zero_add, Nat.mul_one, Int.toNat_natCast, List.getElem?_map, hu]; rfl
  refine CallsX.of (nn := 156) Tryd.func7 rfl rfl rfl (fun a mt => ?_)
  refine w_rs ?_
  refine step_pure mt (pu_assign rfl) rfl (fun a mt => ?_)
  refine w_nil ?_
  refine w_rs ?_
  refine step_pure mt (pu_move rfl) rfl (fun a mt => ?_)
  refine s_callv mt st K.cb21 (vs := [.string (str s), .int .i64 ((3 : Nat) : Int)]) rfl (formula2_ok 3 s _) rfl (fun a w' mt st => ?_)
  refine step_pure mt (pu_move rfl) rfl (fun a mt => ?_)
  refine s_callv mt st K.cb21 (vs := [.string (str t), .int .i64 ((1 : Nat) : Int)]) rfl (formula2_ok 1 t _) rfl (fun a w' mt st => ?_)
  rw [hsx, hty] at mt
  refine step_pure mt (pu_assign rfl) rfl (fun a mt => ?_)
  refine step_pure mt (pu_assign rfl) rfl (fun a mt => ?_)
  refine w_nil ?_
  refine w_rs ?_
  refine step_pure mt (pu_move rfl) rfl (fun a mt => ?_)
  refine step_pure mt (pu_cat_str (i := [40]) rfl rfl (by simp only [List.length_append, List.length_cons, List.length_nil]; omega)) rfl (fun a mt => ?_)
  refine step_pure mt (pu_cat_str (j := [62, 40]) rfl rfl (by simp only [List.length_append, List.length_cons, List.length_nil]; omega)) rfl (fun a mt => ?_)
  refine step_pure mt (pu_move rfl) rfl (fun a mt => ?_)
  refine step_pure mt (pu_cat_str rfl rfl (by simp only [List.length_append, List.length_cons, List.length_nil]; omega)) rfl (fun a mt => ?_)
  refine step_pure mt (pu_cat_str (j := [62]) rfl rfl (by simp only [List.length_append, List.length_cons, List.length_nil]; omega)) rfl (fun a mt => ?_)
  refine step_pure mt (pu_move rfl) rfl (fun a mt => ?_)
  refine step_pure mt (pu_cat_str rfl rfl (by simp only [List.length_append, List.length_cons, List.length_nil]; omega)) rfl (fun a mt => ?_)
  refine step_pure mt ((pu_cat_str (j := [41, 41]) rfl rfl (by simp only [List.length_append, List.length_cons, List.length_nil]; omega)).to (u := .string (str (shw (Fm.imp x (.imp y x))))) (by simp [shw, nn])) rfl (fun a mt => ?_)
  refine step_pure mt (pu_move rfl) rfl (fun a mt => ?_)
  refine step_pure mt (pu_cat_str (i := [40, 40]) rfl rfl (by simp only [List.length_append, List.length_cons, List.length_nil]; omega)) rfl (fun a mt => ?_)
  refine step_pure mt (pu_cat_str (j := [38]) rfl rfl (by simp only [List.length_append, List.length_cons, List.length_nil]; omega)) rfl (fun a mt => ?_)
  refine step_pure mt (pu_move rfl) rfl (fun a mt => ?_)
  refine step_pure mt (pu_cat_str rfl rfl (by simp only [List.length_append, List.length_cons, List.length_nil]; omega)) rfl (fun a mt => ?_)
  refine step_pure mt (pu_cat_str (j := [41, 62, 40]) rfl rfl (by simp only [List.length_append, List.length_cons, List.length_nil]; omega)) rfl (fun a mt => ?_)
  refine step_pure mt (pu_move rfl) rfl (fun a mt => ?_)
  refine step_pure mt (pu_cat_str rfl rfl (by simp only [List.length_append, List.length_cons, List.length_nil]; omega)) rfl (fun a mt => ?_)
  refine step_pure mt (pu_cat_str (j := [38]) rfl rfl (by simp only [List.length_append, List.length_cons, List.length_nil]; omega)) rfl (fun a mt => ?_)
  refine step_pure mt (pu_move rfl) rfl (fun a mt => ?_)
  refine step_pure mt (pu_cat_str rfl rfl (by simp only [List.length_append, List.length_cons, List.length_nil]; omega)) rfl (fun a mt => ?_)
  refine step_pure mt ((pu_cat_str (j := [41, 41]) rfl rfl (by simp only [List.length_append, List.length_cons, List.length_nil]; omega)).to (u := .string (str (shw (Fm.imp (.and x y) (.and y x))))) (by simp [shw, nn])) rfl (fun a mt => ?_)
  refine step_pure mt (pu_move rfl) rfl (fun a mt => ?_)
  refine step_pure mt (pu_cat_str (i := [40, 40]) rfl rfl (by simp only [List.length_append, List.length_cons, List.length_nil]; omega)) rfl (fun a mt => ?_)
  refine step_pure mt (pu_cat_str (j := [124]) rfl rfl (by simp only [List.length_append, List.length_cons, List.length_nil]; omega)) rfl (fun a mt => ?_)
  refine step_pure mt (pu_move rfl) rfl (fun a mt => ?_)
  refine step_pure mt (pu_cat_str rfl rfl (by simp only [List.length_append, List.length_cons, List.length_nil]; omega)) rfl (fun a mt => ?_)
  refine step_pure mt (pu_cat_str (j := [41, 62, 40]) rfl rfl (by simp only [List.length_append, List.length_cons, List.length_nil]; omega)) rfl (fun a mt => ?_)
  refine step_pure mt (pu_move rfl) rfl (fun a mt => ?_)
  refine step_pure mt (pu_cat_str rfl rfl (by simp only [List.length_append, List.length_cons, List.length_nil]; omega)) rfl (fun a mt => ?_)
  refine step_pure mt (pu_cat_str (j := [124]) rfl rfl (by simp only [List.length_append, List.length_cons, List.length_nil]; omega)) rfl (fun a mt => ?_)
  refine step_pure mt (pu_move rfl) rfl (fun a mt => ?_)
  refine step_pure mt (pu_cat_str rfl rfl (by simp only [List.length_append, List.length_cons, List.length_nil]; omega)) rfl (fun a mt => ?_)
  refine step_pure mt ((pu_cat_str (j := [41, 41]) rfl rfl (by simp only [List.length_append, List.length_cons, List.length_nil]; omega)).to (u := .string (str (shw (Fm.imp (.or x y) (.or y x))))) (by simp [shw, nn])) rfl (fun a mt => ?_)
  refine step_pure mt (pu_move rfl) rfl (fun a mt => ?_)
  refine step_pure mt (pu_cat_str (i := [40]) rfl rfl (by simp only [List.length_append, List.length_cons, List.length_nil]; omega)) rfl (fun a mt => ?_)
  refine step_pure mt (pu_cat_str (j := [62, 40, 40]) rfl rfl (by simp only [List.length_append, List.length_cons, List.length_nil]; omega)) rfl (fun a mt => ?_)
  refine step_pure mt (pu_move rfl) rfl (fun a mt => ?_)
  refine step_pure mt (pu_cat_str rfl rfl (by simp only [List.length_append, List.length_cons, List.length_nil]; omega)) rfl (fun a mt => ?_)
  refine step_pure mt ((pu_cat_str (j := [62, 102, 41, 62, 102, 41, 41]) rfl rfl (by simp only [List.length_append, List.length_cons, List.length_nil]; omega)).to (u := .string (str (shw (Fm.imp x (nn x))))) (by simp [shw, nn])) rfl (fun a mt => ?_)
  refine step_pure mt (pu_move rfl) rfl (fun a mt => ?_)
  refine step_pure mt (pu_cat_str (i := [40, 40, 40, 40]) rfl rfl (by simp only [List.length_append, List.length_cons, List.length_nil]; omega)) rfl (fun a mt => ?_)
  refine step_pure mt (pu_cat_str (j := [62, 102, 41, 62, 102, 41, 62, 102, 41, 62, 40]) rfl rfl (by simp only [List.length_append, List.length_cons, List.length_nil]; omega)) rfl (fun a mt => ?_)
  refine step_pure mt (pu_move rfl) rfl (fun a mt => ?_)
  refine step_pure mt (pu_cat_str rfl rfl (by simp only [List.length_append, List.length_cons, List.length_nil]; omega)) rfl (fun a mt => ?_)
  refine step_pure mt ((pu_cat_str (j := [62, 102, 41, 41]) rfl rfl (by simp only [List.length_append, List.length_cons, List.length_nil]; omega)).to (u := .string (str (shw (Fm.imp (.imp (nn x) .fls) (.imp x .fls))))) (by simp [shw, nn])) rfl (fun a mt => ?_)
  refine step_pure mt (pu_move rfl) rfl (fun a mt => ?_)
  refine step_pure mt (pu_cat_str (i := [40, 102, 62]) rfl rfl (by simp only [List.length_append, List.length_cons, List.length_nil]; omega)) rfl (fun a mt => ?_)
  refine step_pure mt ((pu_cat_str (j := [41]) rfl rfl (by simp only [List.length_append, List.length_cons, List.length_nil]; omega)).to (u := .string (str (shw (Fm.imp .fls x)))) (by simp [shw, nn])) rfl (fun a mt => ?_)
  refine step_pure mt (pu_move rfl) rfl (fun a mt => ?_)
  refine step_pure mt (pu_cat_str (i := [40, 40]) rfl rfl (by simp only [List.length_append, List.length_cons, List.length_nil]; omega)) rfl (fun a mt => ?_)
  refine step_pure mt (pu_cat_str (j := [38, 40]) rfl rfl (by simp only [List.length_append, List.length_cons, List.length_nil]; omega)) rfl (fun a mt => ?_)
  refine step_pure mt (pu_move rfl) rfl (fun a mt => ?_)
  refine step_pure mt (pu_cat_str rfl rfl (by simp only [List.length_append, List.length_cons, List.length_nil]; omega)) rfl (fun a mt => ?_)
  refine step_pure mt (pu_cat_str (j := [62]) rfl rfl (by simp only [List.length_append, List.length_cons, List.length_nil]; omega)) rfl (fun a mt => ?_)
  refine step_pure mt (pu_move rfl) rfl (fun a mt => ?_)
  refine step_pure mt (pu_cat_str rfl rfl (by simp only [List.length_append, List.length_cons, List.length_nil]; omega)) rfl (fun a mt => ?_)
  refine step_pure mt (pu_cat_str (j := [41, 41, 62]) rfl rfl (by simp only [List.length_append, List.length_cons, List.length_nil]; omega)) rfl (fun a mt => ?_)
  refine step_pure mt (pu_move rfl) rfl (fun a mt => ?_)
  refine step_pure mt (pu_cat_str rfl rfl (by simp only [List.length_append, List.length_cons, List.length_nil]; omega)) rfl (fun a mt => ?_)
  refine step_pure mt ((pu_cat_str (j := [41]) rfl rfl (by simp only [List.length_append, List.length_cons, List.length_nil]; omega)).to (u := .string (str (shw (Fm.imp (.and x (.imp x y)) y)))) (by simp [shw, nn])) rfl (fun a mt => ?_)
  refine step_pure mt (pu_move rfl) rfl (fun a mt => ?_)
  refine step_pure mt (pu_cat_str (i := [40, 40, 40]) rfl rfl (by simp only [List.length_append, List.length_cons, List.length_nil]; omega)) rfl (fun a mt => ?_)
  refine step_pure mt (pu_cat_str (j := [124]) rfl rfl (by simp only [List.length_append, List.length_cons, List.length_nil]; omega)) rfl (fun a mt => ?_)
  refine step_pure mt (pu_move rfl) rfl (fun a mt => ?_)
  refine step_pure mt (pu_cat_str rfl rfl (by simp only [List.length_append, List.length_cons, List.length_nil]; omega)) rfl (fun a mt => ?_)
  refine step_pure mt (pu_cat_str (j := [41, 62, 102, 41, 62, 40]) rfl rfl (by simp only [List.length_append, List.length_cons, List.length_nil]; omega)) rfl (fun a mt => ?_)
  refine step_pure mt (pu_move rfl) rfl (fun a mt => ?_)
  refine step_pure mt (pu_cat_str rfl rfl (by simp only [List.length_append, List.length_cons, List.length_nil]; omega)) rfl (fun a mt => ?_)
  refine step_pure mt ((pu_cat_str (j := [62, 102, 41, 41]) rfl rfl (by simp only [List.length_append, List.length_cons, List.length_nil]; omega)).to (u := .string (str (shw (Fm.imp (.imp (.or x y) .fls) (.imp x .fls))))) (by simp [shw, nn])) rfl (fun a mt => ?_)
  refine step_pure mt (pu_move rfl) rfl (fun a mt => ?_)
  refine step_pure mt (pu_cat_str (i := [40, 40]) rfl rfl (by simp only [List.length_append, List.length_cons, List.length_nil]; omega)) rfl (fun a mt => ?_)
  refine step_pure mt (pu_cat_str (j := [62]) rfl rfl (by simp only [List.length_append, List.length_cons, List.length_nil]; omega)) rfl (fun a mt => ?_)
  refine step_pure mt (pu_move rfl) rfl (fun a mt => ?_)
  refine step_pure mt (pu_cat_str rfl rfl (by simp only [List.length_append, List.length_cons, List.length_nil]; omega)) rfl (fun a mt => ?_)
  refine step_pure mt (pu_cat_str (j := [41, 62, 40, 40]) rfl rfl (by simp only [List.length_append, List.length_cons, List.length_nil]; omega)) rfl (fun a mt => ?_)
  refine step_pure mt (pu_move rfl) rfl (fun a mt => ?_)
  refine step_pure mt (pu_cat_str rfl rfl (by simp only [List.length_append, List.length_cons, List.length_nil]; omega)) rfl (fun a mt => ?_)
  refine step_pure mt (pu_cat_str (j := [62, 102, 41, 62, 40]) rfl rfl (by simp only [List.length_append, List.length_cons, List.length_nil]; omega)) rfl (fun a mt => ?_)
  refine step_pure mt (pu_move rfl) rfl (fun a mt => ?_)
  refine step_pure mt (pu_cat_str rfl rfl (by simp only [List.length_append, List.length_cons, List.length_nil]; omega)) rfl (fun a mt => ?_)
  refine step_pure mt ((pu_cat_str (j := [62, 102, 41, 41, 41]) rfl rfl (by simp only [List.length_append, List.length_cons, List.length_nil]; omega)).to (u := .string (str (shw (Fm.imp (.imp x y) (.imp (.imp y .fls) (.imp x .fls)))))) (by simp [shw, nn])) rfl (fun a mt => ?_)
  refine step_pure mt (pu_move rfl) rfl (fun a mt => ?_)
  refine step_pure mt (pu_cat_str (i := [40, 40, 40]) rfl rfl (by simp only [List.length_append, List.length_cons, List.length_nil]; omega)) rfl (fun a mt => ?_)
  refine step_pure mt (pu_cat_str (j := [124, 40]) rfl rfl (by simp only [List.length_append, List.length_cons, List.length_nil]; omega)) rfl (fun a mt => ?_)
  refine step_pure mt (pu_move rfl) rfl (fun a mt => ?_)
  refine step_pure mt (pu_cat_str rfl rfl (by simp only [List.length_append, List.length_cons, List.length_nil]; omega)) rfl (fun a mt => ?_)
  refine step_pure mt ((pu_cat_str (j := [62, 102, 41, 41, 62, 102, 41, 62, 102, 41]) rfl rfl (by simp only [List.length_append, List.length_cons, List.length_nil]; omega)).to (u := .string (str (shw (Fm.imp (.imp (.or x (.imp x .fls)) .fls) .fls)))) (by simp [shw, nn])) rfl (fun a mt => ?_)
  refine step_pure mt (pu_build_arr1 (vs := (lawsL x y).map fun z => .string (str (shw z))) K.un39 K.sz9 K.ze39 rfl rfl (str_one _)) rfl (fun a mt => ?_)
  refine step_alloc mt st (al_alloc K.ze39 rfl) rfl (fun a w' b7 mt st => ?_)
  refine s_storeA (cs' := (lawsL x y).map fun z => .string (str (shw z))) mt st K.sz39 rfl rfl rfl (str_one _) rfl (by exact store_all _ _ rfl) (fun w' st => ?_)
  refine w_nil ?_
  refine w_rs ?_
  refine step_pure mt (pu_build_arr1 (vs := neverL.map fun z => .string (str (shw z))) K.un40 K.sz9 K.ze40 rfl rfl (str_one _)) rfl (fun a mt => ?_)
  refine step_alloc mt st (al_alloc K.ze40 rfl) rfl (fun a w' b8 mt st => ?_)
  refine s_storeA (cs' := neverL.map fun z => .string (str (shw z))) mt st K.sz40 rfl rfl rfl (str_one _) rfl (by exact store_all _ _ rfl) (fun w' st => ?_)
  refine w_nil ?_
  refine w_drs K.mixed rfl mt ?_
  refine mo_pure (pu_move rfl) ?_
  refine mo_callv K.cb23 (vs := [.int .i64 by_, .int .i64 ((10 : Nat) : Int)]) rfl (fun w hb => mod_ok by_ 10 (by decide) (by decide) w) ?_
  refine mo_pure (pu_ia_arr (i := ((modI by_ 10 : Nat) : Int)) K.un39 K.sz9 rfl rfl (by omega) (by omega)) ?_
  refine mo_pure (pu_loadM (v := .string (str (shw z))) st K.sc9 rfl (by rw [nthA_eq, List.getElem?_toArray]; exact hz7)) ?_
  refine mo_pure (pu_move rfl) ?_
  refine mo_callv K.cb23 (vs := [.int .i64 by_, .int .i64 ((6 : Nat) : Int)]) rfl (fun w hb => mod_ok by_ 6 (by decide) (by decide) w) ?_
  refine mo_pure (pu_ia_arr (i := ((modI by_ 6 : Nat) : Int)) K.un40 K.sz9 rfl rfl (by omega) (by omega)) ?_
  refine mo_pure (pu_loadM (v := .string (str (shw u))) st K.sc9 rfl (by rw [nthA_eq, List.getElem?_toArray]; exact hu8)) ?_
  refine mo_pure (pu_assign rfl) ?_
  refine mo_pure (pu_assign rfl) ?_
  refine mo_end (fun a w' mt pr hb => ?_)
  have hIx := Iext_sub st.agr w'
  replace st := st.extI hb
  refine w_seq ?_
  refine w_rs ?_
  refine step_pure mt (pu_move rfl) rfl (fun a mt => ?_)
  refine s_callv mt st K.cb17 (vs := [.string (str (shw z)), .int .i64 ((12 : Nat) : Int)]) rfl (Formula_ok 12 (shw z) _ (by omega)) rfl (fun a w' mt st => ?_)
  refine w_nil ?_
  refine w_cond_b mt rfl (fun h119 => ?_) (fun h119 => ?_)
  · have hz12 : parts z ≤ 12 := by
      obtain ⟨z', h1, h2, h3⟩ := isFm_iff.1 h119
      rw [(shw_inj hza h1).1 h2]; exact h3
    refine w_rs ?_
    refine step_pure mt (pu_move rfl) rfl (fun a mt => ?_)
    refine s_callv mt st K.cb22 (vs := [.string (str (shw z))]) rfl (valid_ok (shw z) _ st.agr (hG.mono st.sub0)) rfl (fun a w' mt st => ?_)
    rw [valF_ok hza hz12, (valF_iff hza hz12).2 hzv] at mt
    refine step_pure mt (pu_move rfl) rfl (fun a mt => ?_)
    refine step_pure mt (pu_extract rfl rfl) rfl (fun a mt => ?_)
    refine step_pure mt (pu_extract rfl rfl) rfl (fun a mt => ?_)
    refine step_pure mt (pu_assign rfl) rfl (fun a mt => ?_)
    refine step_pure mt (pu_assign rfl) rfl (fun a mt => ?_)
    refine w_nil ?_
    refine w_rs ?_
    refine step_pure mt (pu_move rfl) rfl (fun a mt => ?_)
    refine step_pure mt (pu_not rfl) rfl (fun a mt => ?_)
    refine step_pure mt (pu_move rfl) rfl (fun a mt => ?_)
    refine step_pure_g mt rfl rfl (pu_move rfl) rfl (fun a mt => ?_)
    refine step_pure_g mt rfl rfl (pu_not rfl) rfl (fun a mt => ?_)
    refine step_pure mt (pu_pick rfl rfl) rfl (fun a mt => ?_)
    refine w_nil ?_
    refine w_false mt rfl ?_
    refine w_skip ?_
    refine x_then_n ?_
    refine w_rs ?_
    refine step_pure mt (pu_move rfl) rfl (fun a mt => ?_)
    refine s_callv mt st K.cb22 (vs := [.string (str (shw u))]) rfl (valid_ok (shw u) _ st.agr (hG.mono st.sub0)) rfl (fun a w' mt st => ?_)
    rw [hvu, hou] at mt
    refine step_pure mt (pu_move rfl) rfl (fun a mt => ?_)
    refine step_pure mt (pu_extract rfl rfl) rfl (fun a mt => ?_)
    refine step_pure mt (pu_extract rfl rfl) rfl (fun a mt => ?_)
    refine step_pure mt (pu_assign rfl) rfl (fun a mt => ?_)
    refine step_pure mt (pu_assign rfl) rfl (fun a mt => ?_)
    refine w_nil ?_
    refine w_rs ?_
    refine step_pure mt (pu_move rfl) rfl (fun a mt => ?_)
    refine s_callv mt st K.cb15 (vs := [.string (str (shw u))]) rfl (Classical2_ok (shw u) _) rfl (fun a w' mt st => ?_)
    rw [hcu, heu] at mt
    refine step_pure mt (pu_move rfl) rfl (fun a mt => ?_)
    refine step_pure mt (pu_extract rfl rfl) rfl (fun a mt => ?_)
    refine step_pure mt (pu_extract rfl rfl) rfl (fun a mt => ?_)
    refine step_pure mt (pu_assign rfl) rfl (fun a mt => ?_)
    refine step_pure mt (pu_assign rfl) rfl (fun a mt => ?_)
    refine w_nil ?_
    refine w_rs ?_
    refine step_pure mt (pu_move rfl) rfl (fun a mt => ?_)
    refine step_pure mt (pu_move rfl) rfl (fun a mt => ?_)
    refine step_pure_g mt rfl rfl (pu_move rfl) rfl (fun a mt => ?_)
    refine step_pure_g mt rfl rfl (pu_not rfl) rfl (fun a mt => ?_)
    refine step_pure mt (pu_pick rfl rfl) rfl (fun a mt => ?_)
    refine step_pure mt (pu_move rfl) rfl (fun a mt => ?_)
    refine step_pure_g mt rfl rfl (pu_move rfl) rfl (fun a mt => ?_)
    refine step_pure_g mt rfl rfl ((pu_eql rfl rfl).tob (j := true) rfl) rfl (fun a mt => ?_)
    refine step_pure mt (pu_pick rfl rfl) rfl (fun a mt => ?_)
    refine step_pure mt (pu_move rfl) rfl (fun a mt => ?_)
    refine step_pure_g mt rfl rfl (pu_move rfl) rfl (fun a mt => ?_)
    refine step_pure mt (pu_pick rfl rfl) rfl (fun a mt => ?_)
    refine step_pure mt (pu_move rfl) rfl (fun a mt => ?_)
    refine s_callv_g mt st rfl rfl K.cb18 (vs := []) rfl (awake_ok _ st.agr (hG.mono st.sub0)) rfl (fun a w' mt st => ?_)
    refine step_pure mt (pu_pick rfl rfl) rfl (fun a mt => ?_)
    refine step_pure mt (pu_assign rfl) rfl (fun a mt => ?_)
    refine w_nil ?_
    refine w_ret ?_
    refine post_ret1 mt rfl rfl ?_
    exact ⟨_, rfl, st.below, rfl⟩
  · refine w_skip ?_
    refine x_then_n ?_
    refine w_rs ?_
    refine step_pure mt (pu_move rfl) rfl (fun a mt => ?_)
    refine s_callv mt st K.cb22 (vs := [.string (str (shw u))]) rfl (valid_ok (shw u) _ st.agr (hG.mono st.sub0)) rfl (fun a w' mt st => ?_)
    rw [hvu, hou] at mt
    refine step_pure mt (pu_move rfl) rfl (fun a mt => ?_)
    refine step_pure mt (pu_extract rfl rfl) rfl (fun a mt => ?_)
    refine step_pure mt (pu_extract rfl rfl) rfl (fun a mt => ?_)
    refine step_pure mt (pu_assign rfl) rfl (fun a mt => ?_)
    refine step_pure mt (pu_assign rfl) rfl (fun a mt => ?_)
    refine w_nil ?_
    refine w_rs ?_
    refine step_pure mt (pu_move rfl) rfl (fun a mt => ?_)
    refine s_callv mt st K.cb15 (vs := [.string (str (shw u))]) rfl (Classical2_ok (shw u) _) rfl (fun a w' mt st => ?_)
    rw [hcu, heu] at mt
    refine step_pure mt (pu_move rfl) rfl (fun a mt => ?_)
    refine step_pure mt (pu_extract rfl rfl) rfl (fun a mt => ?_)
    refine step_pure mt (pu_extract rfl rfl) rfl (fun a mt => ?_)
    refine step_pure mt (pu_assign rfl) rfl (fun a mt => ?_)
    refine step_pure mt (pu_assign rfl) rfl (fun a mt => ?_)
    refine w_nil ?_
    refine w_rs ?_
    refine step_pure mt (pu_move rfl) rfl (fun a mt => ?_)
    refine step_pure mt (pu_move rfl) rfl (fun a mt => ?_)
    refine step_pure_g mt rfl rfl (pu_move rfl) rfl (fun a mt => ?_)
    refine step_pure_g mt rfl rfl (pu_not rfl) rfl (fun a mt => ?_)
    refine step_pure mt (pu_pick rfl rfl) rfl (fun a mt => ?_)
    refine step_pure mt (pu_move rfl) rfl (fun a mt => ?_)
    refine step_pure_g mt rfl rfl (pu_move rfl) rfl (fun a mt => ?_)
    refine step_pure_g mt rfl rfl ((pu_eql rfl rfl).tob (j := true) rfl) rfl (fun a mt => ?_)
    refine step_pure mt (pu_pick rfl rfl) rfl (fun a mt => ?_)
    refine step_pure mt (pu_move rfl) rfl (fun a mt => ?_)
    refine step_pure_g mt rfl rfl (pu_move rfl) rfl (fun a mt => ?_)
    refine step_pure mt (pu_pick rfl rfl) rfl (fun a mt => ?_)
    refine step_pure mt (pu_move rfl) rfl (fun a mt => ?_)
    refine s_callv_g mt st rfl rfl K.cb18 (vs := []) rfl (awake_ok _ st.agr (hG.mono st.sub0)) rfl (fun a w' mt st => ?_)
    refine step_pure mt (pu_pick rfl rfl) rfl (fun a mt => ?_)
    refine step_pure mt (pu_assign rfl) rfl (fun a mt => ?_)
    refine w_nil ?_
    refine w_ret ?_
    refine post_ret1 mt rfl rfl ?_
    exact ⟨_, rfl, st.below, rfl⟩
end Go.Proofs.YtoilfakpgcjjpaaDoor.Log
namespace Go.Proofs.YtoilfakpgcjjpaaDoor.Row
open Go Go.ChangeShapes Go.WideShapes Go.ChangeAt Go.RowKit Go.Proofs.YtoilfakpgcjjpaaDoor Go.Proofs.YtoilfakpgcjjpaaDoor.Eng Go.Proofs.YtoilfakpgcjjpaaDoor.Log
open Go.ChangeMaps (open_string shut_string)
set_option linter.unusedVariables false
set_option linter.unusedSimpArgs false
set_option maxRecDepth 100000
theorem logicLaws_lifted (os : Os) (started : os.Started) (H : Type) (enc : TypeId × Value → H) :
    ReturnsInHanded {} Tryd.checked os 7 .any (fun w args => (Rows.logicLawsSpec.pre enc Tryd.prog Tryd.f7 [] false w args ∧ laidMetH Tryd.prog laid w) ∧ sizedMet enc Tryd.prog Tryd.f7 (OpenSpec.ofChange Rows.logicLawsSpec) false w args)
      (Rows.logicLawsSpec.post enc Tryd.prog Tryd.f7 false true false false) := by
  refine returnsInHanded_of_change_and (C := Tryd.checked) (X := fun w _ => laidMetH Tryd.prog laid w) (fun _ _ _ hh h => h.of_heap hh) own started (by kernel_rfl) Tryd.func7
    (ChangeSpec.witness_shaped (enc := enc) (C := Tryd.checked) (os := os) (X := fun w _ => laidMetH Tryd.prog laid w) false (World.doorLaid Tryd.prog 400 os) #[.string ByteArray.empty, .string ByteArray.empty, .int .i64 0] 8 rfl (door_shaped os _) (by kernel_rfl) (by kernel_rfl) (by kernel_rfl) (door_met os _)) ?_
  intro W base args ds gs before hval0 hW _ hsz0 hL _
  have hval : ∀ (j : Nat) t v, Tryd.f7.params[j]? = some t → args[j]? = some v → Value.okWide Tryd.prog W .any base t v := hval0
  have hW' := hW
  obtain ⟨p, q, hA0, hV, rfl, hfz, hnd⟩ := hW
  have hA : DataW.TrodAll enc Tryd.prog W 0 (fun _ => true) true Tryd.f7.params.toList args.toList ds p := hA0
  rw [Tryd.params7] at hA hval
  obtain ⟨rfl, rfl⟩ := trodVars_none hV
  obtain ⟨v0, vs0, d0, ds0, p0, q0, hargs, rfl, rfl, h0, r0⟩ := trodAll_cons hA
  obtain ⟨v1, vs1, d1, ds1, p1, q1, rfl, rfl, rfl, h1, r1⟩ := trodAll_cons r0
  obtain ⟨v2, vs2, d2, ds2, p2, q2, rfl, rfl, rfl, h2, r2⟩ := trodAll_cons r1
  obtain ⟨rfl, rfl, rfl⟩ := trodAll_nil r2
  obtain rfl : args = #[v0, v1, v2] := by cases args; simp_all
  obtain ⟨a0, rfl, rfl, rfl, y0⟩ := open_string Tryd.underlying9 (hval 0 9 v0 rfl rfl) h0
  obtain ⟨a1, rfl, rfl, rfl, y1⟩ := open_string Tryd.underlying9 (hval 1 9 v1 rfl rfl) h1
  obtain ⟨a2, rfl, rfl, rfl, w2⟩ := open_int Tryd.underlying3 (hval 2 3 v2 rfl rfl) h2
  have hG := of_laid hL
  clear hA0 hval0 hsz0
  have hwalk := LogicLaws_ok (I := hp W) a0.data.toList a1.data.toList a2 W w2 (Sub.refl _) hG
  rw [← str_of a0] at hwalk
  rw [← str_of a1] at hwalk
  refine Calls.mono hwalk fun e W' ⟨v, he, bel, hv⟩ => ?_
  subst he; subst hv
  exact ⟨_, rfl, _, _, _, [], _, [], hW', trodAll_mk1 (shut_bool Tryd.underlying4 _), (trodAll_cons_mk (shut_string Tryd.underlying9 y0) (trodAll_cons_mk (shut_string Tryd.underlying9 y1) (trodAll_cons_mk (shut_int Tryd.underlying3 w2) trodAll_mk0))), rfl, bel.frame _, fun h => by cases h⟩
theorem logicLaws_said : Rows.LogicLawsSaid :=
  OpenClaim.holds_of_wide 7 Tryd.f7 rfl rfl rfl rfl rfl rfl rfl ⟨rfl, rfl, rfl, rfl, rfl⟩ rfl rfl rfl rfl rfl (by kernel_rfl) Tryd.func7 (by kernel_rfl)
    (of_decide_eq_true (by kernel_rfl)) (by unfold Func.isWrapper; first | (rw [if_pos (by decide +kernel)]; kernel_rfl) | (rw [if_neg (by decide +kernel)]; exact ⟨rfl, rfl⟩))
    (fun os started H enc _ => logicLaws_lifted os started H enc)
end Go.Proofs.YtoilfakpgcjjpaaDoor.Row
namespace Go.Proofs.YtoilfakpgcjjpaaDoor
open Go
set_option maxRecDepth 100000
theorem logicLaws_card : Rows.LogicLawsCardSaid :=
  Claim7.holds_tied_plain_at .later [] [.data] true (true, "66d8a7d6c21dbc4c2189cf199939abe6f41982707b0fa5edfb9c32b2d1b9ae15") true
    Row.logicLaws_said (fun _ h => by cases h) (by kernel_rfl) (fun _ h => by cases h) logicLaws_row_tie rfl ⟨rfl, rfl⟩ (by kernel_rfl) rfl
    (fun f fn hf hfn => by
      obtain rfl : f = 7 := Option.some.inj ((show Tryd.prog.funcNamed "turndown/turndownlaw04.LogicLaws" = some 7 by kernel_rfl).symm.trans hf) |>.symm
      obtain rfl : fn = Tryd.f7 := (Option.some.inj (Tryd.func7.symm.trans hfn)).symm
      exact ⟨by kernel_rfl, fun j t ht => by
        rw [Tryd.params7] at ht
        have hall : ∀ t ∈ [9, 9, 3], Tryd.prog.wantsStandIn t = false := by decide +kernel
        exact hall t (Array.mem_toList_iff.2 (Array.mem_of_getElem? ht))⟩)
    (by kernel_rfl)
#print axioms logicLaws_card
end Go.Proofs.YtoilfakpgcjjpaaDoor
