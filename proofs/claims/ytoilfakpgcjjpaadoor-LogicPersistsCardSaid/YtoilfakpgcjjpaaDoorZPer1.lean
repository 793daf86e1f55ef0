/- For every input the law LogicPersists returns true, and its arguments read afterwards as they read before; the package's list of rules holds what the program's text lays there. -/
import Derived.Test.YtoilfakpgcjjpaaDoorRows
import Derived.Test.YtoilfakpgcjjpaaDoorTie
import Derived.Test.YtoilfakpgcjjpaaDoorCards
import Derived.WalkKit
import Derived.ProofKit
import Derived.LaidMore
import Derived.OpenShut
import Derived.ShutString
import Derived.ChangeOld
import Derived.Below
import Derived.SizedLaws
import Derived.Stop.Joined
import Derived.Lib.SmallJoins
import Derived.Deep.Matrix
import Derived.Carry
import Derived.Test.YtoilfakpgcjjpaaDoorZb4
namespace Go.Proofs.YtoilfakpgcjjpaaDoor.Row
open Go Go.ChangeShapes Go.WideShapes Go.ChangeAt Go.RowKit Go.Proofs.YtoilfakpgcjjpaaDoor Go.Proofs.YtoilfakpgcjjpaaDoor.Eng Go.Proofs.YtoilfakpgcjjpaaDoor.Log
open Go.ChangeMaps (open_string shut_string)
set_option linter.unusedVariables false
set_option linter.unusedSimpArgs false
set_option maxRecDepth 100000
theorem own : ownKnob Tryd.prog.godebug = none := by kernel_rfl
theorem laidOut : laidOutB Tryd.prog = true := by kernel_rfl
def laid : List (String × DataW Unit) := [("turndown/logic.safe", Rows.laid_turndown_logic_safe)]
theorem door_met (os : Os) (args : Array Value) : laidMetH Tryd.prog laid ((World.doorLaid Tryd.prog 400 os).forCall (fun _ _ => 0) ⟨#[], args, []⟩).memory :=
  laidMetH_of_parts3 (fuel := 8) (laidMet_of_run' 8 (by kernel_rfl) (by kernel_rfl)) (by kernel_rfl) (by kernel_rfl)
theorem door_shaped (os : Os) (args : Array Value) : ((World.doorLaid Tryd.prog 400 os).forCall (fun _ _ => 0) ⟨#[], args, []⟩).Shaped Tryd.prog := World.shaped_of_RefB (by kernel_rfl) (by kernel_rfl)
theorem gSafe : Tryd.prog.globalNamed "turndown/logic.safe" = some 0 := by kernel_rfl
theorem tSafe : (Tryd.prog.globals[0]?).map (·.type) = some 42 := by kernel_rfl
/-- a slice whose cells are known reads -/
theorem rdS_cells {w : World} {a : Option Addr} {len cap : Nat} {vs : List Value} (hl : vs.length = len) (h1 : len ≤ cap) (h2 : cap ≤ maxLen) (hc : ∀ j u, vs[j]? = some u → ∃ x, a = some x ∧ w.cell? (x.add j) = some u) : RdS (hp w) (.slice a len cap) 1 len vs := by
  refine ⟨a, cap, rfl, h1, h2, by simpa using hl, fun j u hu => ?_⟩
  have hj := (List.getElem?_eq_some_iff.1 hu).1
  have h0 : vs[0]? = some (vs[0]'(by omega)) := List.getElem?_eq_getElem (by omega)
  obtain ⟨x, rfl, hx0⟩ := hc 0 _ h0
  obtain ⟨x', e, hx⟩ := hc j u hu
  cases e
  have hs : x.spot = none := by
    have e0 : x.add 0 = x := by simp [Addr.add]
    rw [e0] at hx0
    unfold World.cell? at hx0
    split at hx0
    · split at hx0
      · cases hx0
      · rename_i h; simpa using h
    · cases hx0
  obtain ⟨b, o, sp⟩ := x
  simp only at hs
  subst hs
  refine ⟨b, o, rfl, ?_⟩
  rw [cellI_hp, ← Eng.add_plain]; exact hx
theorem lits_get {k : IntKind} {l : List Int} {x : List (DataW Unit)} (h : DataW.slice (H := Unit) (lits k l) x = DataW.slice (lits k []) []) : l = [] := by
  simp [lits] at h; exact h.1
theorem lits_inj {H : Type} {k : IntKind} : ∀ {l m : List Int}, lits (H := H) k l = lits k m → l = m
  | [], [], _ => rfl
  | [], _ :: _, h => by simp [lits] at h
  | _ :: _, [], h => by simp [lits] at h
  | x :: l, y :: m, h => by
    simp only [lits, List.map_cons, List.cons.injEq, DataW.lit.injEq, Lit.int.injEq, true_and] at h
    obtain ⟨h1, h2⟩ := h
    have := lits_inj (k := k) (l := l) (m := m) h2
    subst this; subst h1; rfl
theorem of_laid {W : World} (h : laidMetH Tryd.prog laid W) : Gl (hp W) := by
  rw [MakeChecks.laidMetH_plain _ _ _ (by kernel_rfl)] at h
  obtain ⟨ps, ⟨g0, t0, cs0, f0, p0, q0, hg0, ht0, hv0, hd0, _, _⟩, _, _⟩ := h
  obtain rfl := Option.some.inj (gSafe.symm.trans hg0)
  obtain rfl := Option.some.inj (tSafe.symm.trans ht0)
  have e : Rows.laid_turndown_logic_safe (H := Unit) = .slice (lits .i64 safeR) [] := rfl
  rcases open_ints Tryd.underlying42 Tryd.underlying3 (by kernel_rfl) hd0 with ⟨_, hx⟩ | ⟨a, len, cap, zs, hcs, _, hl, hm, hz, hx, hcell, _⟩
  · rw [e] at hx; simp [lits, safeR] at hx
  · rw [e] at hx
    simp only [Prod.mk.injEq, DataW.slice.injEq] at hx
    obtain ⟨⟨h1, h2⟩, _⟩ := hx
    have h5 : zs.drop len = [] := lits_inj (m := []) h2.symm
    have hzc : zs.length = cap := by simpa using hz
    have hzs : zs.length = len := by
      have := congrArg List.length h5
      simp at this; omega
    have h3 : zs.take len = zs := by rw [List.take_of_length_le (by omega)]
    rw [h3] at h1
    have h4 := lits_inj h1
    subst h4
    have hlen : len = 9 := by rw [← hzs]; rfl
    subst hlen
    refine ⟨.slice (some a) 9 cap, ?_, rdS_cells rfl hl hm fun j u hu => ⟨a, rfl, ?_⟩⟩
    · have := World.var?_cell hg0 hv0 0
      rw [Array.eq_one_of_toList hcs] at this
      rw [cellI_hp]
      simpa using this
    · have hj : j < safeR.length := by have := (List.getElem?_eq_some_iff.1 hu).1; simpa [rulesV] using this
      rw [hcell j hj]
      simp only [rulesV, List.getElem?_map, Option.map_eq_some_iff] at hu
      obtain ⟨z, hz1, rfl⟩ := hu
      simp [hz1]
theorem str_of (a : ByteArray) : a = str a.data.toList := by
  cases a; simp [str]
end Go.Proofs.YtoilfakpgcjjpaaDoor.Row
namespace Go.Proofs.YtoilfakpgcjjpaaDoor.Row
open Go Go.ChangeShapes Go.WideShapes Go.ChangeAt Go.RowKit Go.Proofs.YtoilfakpgcjjpaaDoor Go.Proofs.YtoilfakpgcjjpaaDoor.Eng Go.Proofs.YtoilfakpgcjjpaaDoor.Log
set_option linter.unusedVariables false
set_option linter.unusedSimpArgs false
set_option maxRecDepth 100000
theorem ints_rd {W : World} {a : Option Addr} {len cap : Nat} {zs : List Int} (h1 : len ≤ cap) (h2 : cap ≤ maxLen) (hz : len ≤ zs.length) (hn : a = none → len = 0) (hc : ∀ x, a = some x → ∀ j, j < len → W.cell? (x.add j) = some (.int .i64 (zs.getD j 0))) :
    RdS (hp W) (.slice a len cap) 1 (zs.take len).length ((zs.take len).map intV) := by
  have hl : (zs.take len).length = len := by rw [List.length_take]; omega
  rw [hl]
  refine rdS_cells (by simpa using hl) h1 h2 fun j u hu => ?_
  have hj : j < len := by
    have := (List.getElem?_eq_some_iff.1 hu).1
    rw [List.length_map, hl] at this; exact this
  cases a with
  | none => have := hn rfl; omega
  | some x =>
    refine ⟨x, rfl, ?_⟩
    rw [hc x rfl j hj]
    rw [List.getElem?_map, List.getElem?_take, if_pos hj, Option.map_eq_some_iff] at hu
    obtain ⟨z, hz1, rfl⟩ := hu
    simp [hz1, intV]
theorem model_of {H : Type} {enc : TypeId × Value → H} {W : World} {base : Nat} {v : Value} {d : DataW H} {p : List MemPlace} (hv : Value.okWide Tryd.prog W .any base 44 v) (h : DataW.Trod enc Tryd.prog W 0 (fun _ => true) true 44 v d p) :
    ∃ ab mk, ModV (hp W) ab mk v := by
  obtain ⟨v0, v1, y0, y1, n, rfl, _, _, h0, h1⟩ := Go.Joins.open_agg2 Tryd.underlying44 (by kernel_rfl) (by kernel_rfl) hv h
  obtain ⟨mk, hmk⟩ : ∃ mk : List Int, RdS (hp W) v1 1 mk.length (mk.map intV) := by
    rcases open_ints Tryd.underlying42 Tryd.underlying3 (by kernel_rfl) h1 with ⟨hcs, _⟩ | ⟨a, len, cap, zs, hcs, _, hl, hm, hz, _, hcell, _⟩
    · obtain rfl : v1 = .slice none 0 0 := by simpa using hcs
      exact ⟨[], RdS.nil _ _⟩
    · obtain rfl : v1 = .slice (some a) len cap := by simpa using hcs
      simp only [if_true] at hz
      exact ⟨zs.take len, ints_rd hl hm (by omega) (fun h => by cases h) (fun x hx j hj => by cases hx; exact hcell j (by omega))⟩
  rcases Go.Deep.open_int_rows Tryd.underlying41 Tryd.underlying42 Tryd.underlying3 (by kernel_rfl) (by kernel_rfl) h0 with ⟨hcs, _⟩ | ⟨a, len, cap, A, L, C, Z, hcs, _, hl, hm, _, hr⟩
  · obtain rfl : v0 = .slice none 0 0 := by simpa using hcs
    exact ⟨[], mk, _, v1, [], rfl, RdS.nil _ _, fun i l r h => by simp at h, hmk⟩
  · obtain rfl : v0 = .slice (some a) len cap := by simpa using hcs
    have hlen : ((List.range len).map fun r => (Z r).take (L r)).length = len := by simp
    refine ⟨(List.range len).map fun r => (Z r).take (L r), mk, _, v1, (List.range len).map fun r => .slice (A r) (L r) (C r), rfl, ?_, fun i l r h1 h2 => ?_, hmk⟩
    · rw [hlen]
      refine rdS_cells (by simp) hl hm fun j u hu => ⟨a, rfl, ?_⟩
      have hj : j < len := by have := (List.getElem?_eq_some_iff.1 hu).1; simpa using this
      rw [(hr j (by omega)).1]
      simp [hj] at hu
      rw [hu]
    · have hi : i < len := by have := (List.getElem?_eq_some_iff.1 h1).1; simpa using this
      simp [hi] at h1 h2
      subst h1; subst h2
      obtain ⟨_, r1, r2, r3, _, r5, r6⟩ := hr i (by omega)
      exact ints_rd r1 r2 (by omega) (fun h => by have := r5 h; omega) (fun x hx j hj => (r6 x hx).2 j (by omega))
end Go.Proofs.YtoilfakpgcjjpaaDoor.Row
namespace Go.Proofs.YtoilfakpgcjjpaaDoor.Log
open Go Go.RowKit Go.Proofs.YtoilfakpgcjjpaaDoor Go.Proofs.YtoilfakpgcjjpaaDoor.Eng
set_option linter.unusedVariables false
set_option linter.unusedSimpArgs false
set_option maxRecDepth 100000
def errO (o : Option Fm) : Int := match o with | some _ => 0 | none => 4
def clO (o : Option Fm) : Bool := match o with | some x => clF x | none => false
def negS (o : Option Fm) : List UInt8 := match o with | some x => if 12 < parts x + 2 then [] else shw (.imp x .fls) | none => []
def negE (o : Option Fm) : Int := match o with | some x => if 12 < parts x + 2 then 2 else 0 | none => 4
theorem Classical2_ok (s : List UInt8) (w : World) : CallsX Tryd.prog 15 #[.string (str s)] w fun v _ => v = .tuple #[.bool (clO (fmOf s)), .int .i64 (errO (fmOf s))] :=
  (Classical_ok s w).mono fun v w' _ h => by rw [h]; cases fmOf s <;> rfl
theorem Negate2_ok (s : List UInt8) (w : World) : CallsX Tryd.prog 16 #[.string (str s)] w fun v _ => v = .tuple #[.string (str (negS (fmOf s))), .int .i64 (negE (fmOf s))] :=
  (Negate_ok s w).mono fun v w' _ h => by
    rw [h]
    cases fmOf s with
    | none => rfl
    | some x =>
      simp only [negS, negE]
      split <;> rfl
theorem short_len (s : List UInt8) : (shortF s).length ≤ 200 := by unfold shortF; rw [List.length_take]; omega
theorem LogicClassical_ok {I : Hp} (s : List UInt8) (w : World) (hI : Sub I (hp w)) (hG : Gl I) : CallsX Tryd.prog 3 #[.string (str s)] w fun v _ => v = .bool true := by
  have st := St.start (w0 := w) (I0 := I) hI
  refine CallsX.of (nn := 72) Tryd.func3 rfl rfl rfl (fun a mt => ?_)
  refine w_rs ?_
  refine step_pure mt (pu_assign rfl) rfl (fun a mt => ?_)
  refine w_nil ?_
  refine w_rs ?_
  refine step_pure mt (pu_move rfl) rfl (fun a mt => ?_)
  refine s_callv mt st K.cb14 (vs := [.string (str s)]) rfl (short_ok s _) rfl (fun a w' mt st => ?_)
  have hl := short_len s
  generalize shortF s = s' at *
  have hfm := isFm_fmOf s'
  refine step_pure mt (pu_assign rfl) rfl (fun a mt => ?_)
  refine w_nil ?_
  refine w_rs ?_
  refine step_pure mt (pu_move rfl) rfl (fun a mt => ?_)
  refine s_callv mt st K.cb15 (vs := [.string (str s')]) rfl (Classical2_ok s' _) rfl (fun a w' mt st => ?_)
  refine step_pure mt (pu_move rfl) rfl (fun a mt => ?_)
  refine step_pure mt (pu_extract rfl rfl) rfl (fun a mt => ?_)
  refine step_pure mt (pu_extract rfl rfl) rfl (fun a mt => ?_)
  refine step_pure mt (pu_assign rfl) rfl (fun a mt => ?_)
  refine step_pure mt (pu_assign rfl) rfl (fun a mt => ?_)
  refine w_nil ?_
  refine w_rs ?_
  refine step_pure mt (pu_move rfl) rfl (fun a mt => ?_)
  refine s_callv mt st K.cb16 (vs := [.string (str s')]) rfl (Negate2_ok s' _) rfl (fun a w' mt st => ?_)
  refine step_pure mt (pu_move rfl) rfl (fun a mt => ?_)
  refine step_pure mt (pu_extract rfl rfl) rfl (fun a mt => ?_)
  refine step_pure mt (pu_extract rfl rfl) rfl (fun a mt => ?_)
  refine step_pure mt (pu_assign rfl) rfl (fun a mt => ?_)
  refine step_pure mt (pu_assign rfl) rfl (fun a mt => ?_)
  refine w_nil ?_
  refine w_seq ?_
  refine w_rs ?_
  refine step_pure mt (pu_move rfl) rfl (fun a mt => ?_)
  refine s_callv mt st K.cb17 (vs := [.string (str s'), .int .i64 ((12 : Nat) : Int)]) rfl (Formula_ok 12 s' _ (by omega)) rfl (fun a w' mt st => ?_)
  cases hx : fmOf s' with
  | none =>
    rw [hx] at mt hfm
    rw [show isFm 12 s' = false from hfm] at mt
    refine step_pure mt (pu_not rfl) rfl (fun a mt => ?_)
    refine w_nil ?_
    refine w_true mt rfl ?_
    refine w_rs ?_
    refine step_pure mt (pu_move rfl) rfl (fun a mt => ?_)
    refine step_pure mt (pu_not rfl) rfl (fun a mt => ?_)
    refine step_pure mt (pu_move rfl) rfl (fun a mt => ?_)
    refine step_pure_g mt rfl rfl (pu_move rfl) rfl (fun a mt => ?_)
    refine step_pure_g mt rfl rfl ((pu_eql rfl rfl).tob (j := true) rfl) rfl (fun a mt => ?_)
    refine step_pure mt (pu_pick rfl rfl) rfl (fun a mt => ?_)
    refine step_pure mt (pu_move rfl) rfl (fun a mt => ?_)
    refine step_pure_g mt rfl rfl (pu_move rfl) rfl (fun a mt => ?_)
    refine step_pure_g mt rfl rfl ((pu_eql_str rfl rfl).tob (j := true) rfl) rfl (fun a mt => ?_)
    refine step_pure mt (pu_pick rfl rfl) rfl (fun a mt => ?_)
    refine step_pure mt (pu_move rfl) rfl (fun a mt => ?_)
    refine step_pure_g mt rfl rfl (pu_move rfl) rfl (fun a mt => ?_)
    refine step_pure_g mt rfl rfl ((pu_eql rfl rfl).tob (j := true) rfl) rfl (fun a mt => ?_)
    refine step_pure mt (pu_pick rfl rfl) rfl (fun a mt => ?_)
    refine step_pure mt (pu_move rfl) rfl (fun a mt => ?_)
    refine s_callv_g mt st rfl rfl K.cb18 (vs := []) rfl (awake_ok _ st.agr (hG.mono st.sub0)) rfl (fun a w' mt st => ?_)
    refine step_pure mt (pu_pick rfl rfl) rfl (fun a mt => ?_)
    refine step_pure mt (pu_assign rfl) rfl (fun a mt => ?_)
    refine w_nil ?_
    refine w_ret (x_then_ret ?_)
    refine post_ret1 mt rfl rfl ?_
    exact ⟨_, rfl, st.below, rfl⟩
  | some x =>
    rw [hx] at mt hfm
    rw [show isFm 12 s' = true from hfm] at mt
    obtain ⟨hats, rfl, hpa⟩ := fmOf_iff.1 hx
    refine step_pure mt (pu_not rfl) rfl (fun a mt => ?_)
    refine w_nil ?_
    refine w_false mt rfl ?_
    refine w_skip ?_
    refine x_then_n ?_
    refine w_seq ?_
    refine w_rs ?_
    refine step_pure mt (pu_move rfl) rfl (fun a mt => ?_)
    refine step_pure mt (pu_move rfl) rfl (fun a mt => ?_)
    refine s_callv mt st K.cb19 (vs := [.string (str (shw x))]) rfl (RClassical_ok x hats (by omega) _) rfl (fun a w' mt st => ?_)
    refine step_pure mt ((pu_neq_b rfl rfl K.un4).tob (j := false) (by simp [clO])) rfl (fun a mt => ?_)
    refine step_pure mt (pu_move rfl) rfl (fun a mt => ?_)
    refine step_pure_g mt rfl rfl (pu_move rfl) rfl (fun a mt => ?_)
    refine step_pure_g mt rfl rfl ((pu_neq rfl rfl).tob (j := false) rfl) rfl (fun a mt => ?_)
    refine step_pure mt (pu_pick rfl rfl) rfl (fun a mt => ?_)
    refine w_nil ?_
    refine w_false mt rfl ?_
    refine w_skip ?_
    refine x_then_n ?_
    refine w_seq ?_
    refine w_rs ?_
    refine step_pure mt (pu_move rfl) rfl (fun a mt => ?_)
    refine s_callv mt st K.cb20 (vs := [.string (str (shw x))]) rfl (Size_ok (shw x) _ (by omega)) rfl (fun a w' mt st => ?_)
    rw [szF_shw hats] at mt
    refine step_pure mt (pu_add_i rfl rfl (by omega)) rfl (fun a mt => ?_)
    refine step_pure mt (pu_gtr rfl rfl) rfl (fun a mt => ?_)
    refine w_nil ?_
    refine w_cond mt rfl (fun h50 => ?_) (fun h50 => ?_)
    · have hn1 : negS (some x) = [] := by unfold negS; simp only; rw [if_pos (by omega)]
      have hn2 : negE (some x) = 2 := by unfold negE; simp only; rw [if_pos (by omega)]
      rw [hn1, hn2] at mt
      refine w_rs ?_
      refine step_pure mt (pu_move rfl) rfl (fun a mt => ?_)
      refine step_pure mt ((pu_eql_str rfl rfl).tob (j := true) rfl) rfl (fun a mt => ?_)
      refine step_pure mt (pu_move rfl) rfl (fun a mt => ?_)
      refine step_pure_g mt rfl rfl (pu_move rfl) rfl (fun a mt => ?_)
      refine step_pure_g mt rfl rfl ((pu_eql rfl rfl).tob (j := true) rfl) rfl (fun a mt => ?_)
      refine step_pure mt (pu_pick rfl rfl) rfl (fun a mt => ?_)
      refine step_pure mt (pu_move rfl) rfl (fun a mt => ?_)
      refine s_callv_g mt st rfl rfl K.cb18 (vs := []) rfl (awake_ok _ st.agr (hG.mono st.sub0)) rfl (fun a w' mt st => ?_)
      refine step_pure mt (pu_pick rfl rfl) rfl (fun a mt => ?_)
      refine step_pure mt (pu_assign rfl) rfl (fun a mt => ?_)
      refine w_nil ?_
      refine w_ret (x_then_ret ?_)
      refine post_ret1 mt rfl rfl ?_
      exact ⟨_, rfl, st.below, rfl⟩
    · have hn1 : negS (some x) = [40] ++ shw x ++ [62, 102, 41] := by unfold negS; simp only; rw [if_neg (by omega)]; simp [shw]
      have hn2 : negE (some x) = 0 := by unfold negE; simp only; rw [if_neg (by omega)]
      rw [hn1, hn2] at mt
      refine w_skip ?_
      refine x_then_n ?_
      refine w_rs ?_
      refine step_pure mt (pu_move rfl) rfl (fun a mt => ?_)
      refine step_pure mt (pu_move rfl) rfl (fun a mt => ?_)
      refine step_pure mt (pu_cat_str (i := [40]) rfl rfl (by simp; omega)) rfl (fun a mt => ?_)
      refine step_pure mt (pu_cat_str (j := [62, 102, 41]) rfl rfl (by simp; omega)) rfl (fun a mt => ?_)
      refine step_pure mt ((pu_eql_str rfl rfl).tob (j := true) (decide_eq_true rfl)) rfl (fun a mt => ?_)
      refine step_pure mt (pu_move rfl) rfl (fun a mt => ?_)
      refine step_pure_g mt rfl rfl (pu_move rfl) rfl (fun a mt => ?_)
      refine step_pure_g mt rfl rfl ((pu_eql rfl rfl).tob (j := true) rfl) rfl (fun a mt => ?_)
      refine step_pure mt (pu_pick rfl rfl) rfl (fun a mt => ?_)
      refine step_pure mt (pu_move rfl) rfl (fun a mt => ?_)
      refine s_callv_g mt st rfl rfl K.cb18 (vs := []) rfl (awake_ok _ st.agr (hG.mono st.sub0)) rfl (fun a w' mt st => ?_)
      refine step_pure mt (pu_pick rfl rfl) rfl (fun a mt => ?_)
      refine step_pure mt (pu_assign rfl) rfl (fun a mt => ?_)
      refine w_nil ?_
      refine w_ret ?_
      refine post_ret1 mt rfl rfl ?_
      exact ⟨_, rfl, st.below, rfl⟩
end Go.Proofs.YtoilfakpgcjjpaaDoor.Log
namespace Go.Proofs.YtoilfakpgcjjpaaDoor.Log
open Go Go.RowKit Go.Proofs.YtoilfakpgcjjpaaDoor Go.Proofs.YtoilfakpgcjjpaaDoor.Eng
set_option linter.unusedVariables false
set_option linter.unusedSimpArgs false
/-! ### bits -/
theorem bitN_test (t k : Nat) : bitN t k = t.testBit k := by
  unfold bitN
  rw [Nat.testBit_eq_decide_div_mod_eq]
theorem subN_bits {t u : Nat} (ht : t < 4096) : subN t u = true ↔ ∀ i, i < 12 → bitN t i = true → bitN u i = true := by
  rw [subN_iff]
  constructor
  · intro h i hi; rw [bitN_test, bitN_test]; exact h i (by omega)
  · intro h i hi hti
    rcases Nat.lt_or_ge i 12 with h12 | h12
    · rw [← bitN_test] at hti ⊢; exact h i h12 hti
    · have : t < 2 ^ i := Nat.lt_of_lt_of_le ht (by rw [show (4096 : Nat) = 2 ^ 12 from rfl]; exact Nat.pow_le_pow_right (by decide) h12)
      rw [Nat.testBit_lt_two_pow this] at hti; cases hti
theorem subN_refl (t : Nat) : subN t t = true := subN_iff.2 fun _ _ h => h
theorem subN_trans {t u v : Nat} (h : subN t u = true) (k : subN u v = true) : subN t v = true := subN_iff.2 fun i hi ht => subN_iff.1 k i hi (subN_iff.1 h i hi ht)
theorem bits_of : ∀ (n : Nat) (p : Nat → Bool), ∃ t, t < 2 ^ n ∧ ∀ i, i < n → bitN t i = p i
  | 0, p => ⟨0, by simp, fun i hi => by omega⟩
  | n + 1, p => by
    obtain ⟨t, ht, h⟩ := bits_of n p
    have h2 : 2 ^ (n + 1) = 2 ^ n + 2 ^ n := by rw [Nat.pow_succ]; omega
    cases hp : p n with
    | false =>
      refine ⟨t, by omega, fun i hi => ?_⟩
      rcases Nat.lt_or_ge i n with h3 | h3
      · exact h i h3
      · have : i = n := by omega
        subst this
        rw [hp, bitN_test, Nat.testBit_lt_two_pow ht]
    | true =>
      refine ⟨2 ^ n + t, by omega, fun i hi => ?_⟩
      rcases Nat.lt_or_ge i n with h3 | h3
      · rw [← h i h3, bitN_test, bitN_test, Nat.testBit_two_pow_add_gt h3]
      · have : i = n := by omega
        subst this
        rw [hp, bitN_test, Nat.testBit_two_pow_add_eq, Nat.testBit_lt_two_pow ht]; rfl
/-! ### the list of parts -/
theorem nodup_put {x : Fm} {xs : List Fm} (h : xs.Nodup) : (putF x xs).Nodup := by
  unfold putF
  split
  · exact h
  · rename_i hn
    rw [List.nodup_append]
    refine ⟨h, by simp, fun a ha b hb => ?_⟩
    simp at hb
    subst hb
    rintro rfl
    exact hn (List.any_eq_true.2 ⟨a, ha, by simp⟩)
theorem nodup_add : ∀ (x : Fm) (xs : List Fm), xs.Nodup → (addF x xs).Nodup
  | .fls, xs, h => nodup_put h
  | .atm c, xs, h => nodup_put h
  | .and a b, xs, h => nodup_put (nodup_add b _ (nodup_add a _ h))
  | .or a b, xs, h => nodup_put (nodup_add b _ (nodup_add a _ h))
  | .imp a b, xs, h => nodup_put (nodup_add b _ (nodup_add a _ h))
theorem idxN_get {x : Fm} : ∀ {l : List Fm}, x ∈ l → l[idxN x l]? = some x
  | y :: ys, h => by
    unfold idxN
    split
    · rename_i e; subst e; simp
    · rename_i hne
      have hx : x ∈ ys := by
        cases h with
        | head => exact absurd rfl hne
        | tail _ h => exact h
      simpa using idxN_get hx
theorem idxN_of {x : Fm} : ∀ {l : List Fm} {i : Nat}, l.Nodup → l[i]? = some x → idxN x l = i
  | [], i, _, h => by simp at h
  | y :: ys, 0, _, h => by simp at h; subst h; simp [idxN]
  | y :: ys, i + 1, hn, h => by
    rw [List.nodup_cons] at hn
    have h' : ys[i]? = some x := by simpa using h
    have hx := List.mem_of_getElem? h'
    unfold idxN
    rw [if_neg (by rintro rfl; exact hn.1 hx), idxN_of hn.2 h']
/-- what is asked of the list of parts -/
structure Good (l : List Fm) : Prop where
  nd : l.Nodup
  cl : Closed l
  le : l.length ≤ 12
  at_ : ∀ x ∈ l, ats x
theorem good_add {x : Fm} (hx : ats x) (hp : parts x ≤ 12) : Good (addF x []) :=
  ⟨nodup_add x [] List.nodup_nil, add_closed x hp, by have := addF_len x []; simp at this; omega, fun y hy => isSub_ats (mem_addN.1 hy) hx⟩
/-! ### theories -/
theorem isThF_get {l : List Fm} {t : Nat} (h : isThF l t = true) {i : Nat} {x : Fm} (hx : l[i]? = some x) : thG l t i = true := range_all_get h (List.getElem?_eq_some_iff.1 hx).1
section
variable {l : List Fm} (hg : Good l)
theorem th_fls {t : Nat} (h : isThF l t = true) (hm : Fm.fls ∈ l) : hasF l t .fls = false := by
  have := isThF_get h (idxN_get hm)
  unfold thG at this
  rw [idxN_get hm] at this
  simpa [hasF] using this
theorem th_and {t : Nat} {a b : Fm} (h : isThF l t = true) (hm : Fm.and a b ∈ l) : hasF l t (.and a b) = (hasF l t a && hasF l t b) := by
  have := isThF_get h (idxN_get hm)
  unfold thG at this
  rw [idxN_get hm] at this
  simpa [hasF] using this
theorem th_or {t : Nat} {a b : Fm} (h : isThF l t = true) (hm : Fm.or a b ∈ l) : hasF l t (.or a b) = (hasF l t a || hasF l t b) := by
  have := isThF_get h (idxN_get hm)
  unfold thG at this
  rw [idxN_get hm] at this
  simpa [hasF] using this
theorem th_imp {t : Nat} {a b : Fm} (h : isThF l t = true) (hm : Fm.imp a b ∈ l) : hasF l t (.imp a b) = true → hasF l t a = true → hasF l t b = true := by
  have := isThF_get h (idxN_get hm)
  unfold thG at this
  rw [idxN_get hm] at this
  simp only [hasF] at this ⊢
  intro h1 h2
  rw [h1, h2] at this
  simpa using this
theorem has_sub {t u : Nat} {x : Fm} (hl : l.length ≤ 12) (ht : t < 4096) (h : subN t u = true) (hx : x ∈ l) (hh : hasF l t x = true) : hasF l u x = true :=
  (subN_bits ht).1 h _ (by have := idxN_lt hx; omega) hh
theorem need_iff (hnd : l.Nodup) {t : Nat} {a b : Fm} : (a, b) ∈ needF l t ↔ Fm.imp a b ∈ l ∧ hasF l t (.imp a b) = false := by
  unfold needF needTo
  rw [List.mem_filterMap]
  constructor
  · rintro ⟨i, hi, h⟩
    unfold needG at h
    split at h
    · rename_i a' b' e
      split at h
      · cases h
      · rename_i hb
        cases h
        refine ⟨List.mem_of_getElem? e, ?_⟩
        unfold hasF
        rw [idxN_of hnd e]
        simpa using hb
    · cases h
  · rintro ⟨hm, hh⟩
    have hi := idxN_get hm
    refine ⟨idxN (.imp a b) l, by simpa using idxN_lt hm, ?_⟩
    unfold needG
    rw [hi]
    simp only
    unfold hasF at hh
    rw [hh]; rfl
theorem wit_some {all : List Nat} {t : Nat} {a b : Fm} {u : Nat} (h : witF l all t a b = some u) : u ∈ all ∧ subN t u = true ∧ hasF l u a = true ∧ hasF l u b = false := by
  unfold witF at h
  have h1 := List.find?_some h
  simp only [Bool.and_eq_true, Bool.not_eq_true'] at h1
  exact ⟨List.mem_of_find?_eq_some h, h1.1, h1.2.1, h1.2.2⟩
theorem wit_ex {all : List Nat} {t : Nat} {a b : Fm} {u : Nat} (hu : u ∈ all) (h1 : subN t u = true) (h2 : hasF l u a = true) (h3 : hasF l u b = false) : ∃ v, witF l all t a b = some v := by
  unfold witF
  cases hf : all.find? _ with
  | some v => exact ⟨v, rfl⟩
  | none =>
    have := List.find?_eq_none.1 hf u hu
    simp [h1, h2, h3] at this
/-- the fixed point -/
theorem iterT_fix : ∀ (f : Nat) (all : List Nat), all.length < f → leftF l (iterT l f all) = iterT l f all
  | 0, all, h => by omega
  | f + 1, all, h => by
    simp only [iterT]
    split
    · rename_i he
      unfold leftF at he ⊢
      exact List.filter_eq_self.2 (List.length_filter_eq_length_iff.1 he)
    · rename_i he
      have hle : (leftF l all).length ≤ all.length := List.length_filter_le _ _
      exact iterT_fix f _ (by omega)
theorem ths_fix : ∀ t ∈ thsF l, badT l (thsF l) t = false := fun t ht => by
  have h : leftF l (thsF l) = thsF l := iterT_fix _ _ (Nat.lt_succ_self _)
  have := List.filter_eq_self.1 h t ht
  simpa using this
theorem ths_base : ∀ t ∈ thsF l, isThF l t = true := fun t ht => (List.mem_filter.1 (iterT_sub _ _ t ht)).2
theorem iterT_sup {B : Nat → Prop} (hB : ∀ all : List Nat, (∀ t, B t → t ∈ all) → ∀ t, B t → badT l all t = false) : ∀ (f : Nat) (all : List Nat), (∀ t, B t → t ∈ all) → ∀ t, B t → t ∈ iterT l f all
  | 0, all, h => h
  | f + 1, all, h => by
    simp only [iterT]
    split
    · exact h
    · refine iterT_sup hB f _ fun t ht => List.mem_filter.2 ⟨h t ht, ?_⟩
      rw [hB all h t ht]; rfl
end
/-! ### there is a counter-model of what is not valid -/
theorem cnt_complete {x : Fm} (hg : Good (addF x [])) (hc : cntF (addF x []) x = none) : vld [] x := by
  intro K w0 _
  refine Classical.byContradiction fun hx => ?_
  obtain ⟨l, hle⟩ : ∃ l, l = addF x [] := ⟨_, rfl⟩
  have hxl : x ∈ l := by rw [hle]; exact mem_addN.2 (isSub_self x)
  rw [← hle] at hg hc
  have dec : ∀ v : K.W, ∃ p : Nat → Bool, ∀ i, p i = true ↔ ∃ y, l[i]? = some y ∧ K.forces v y := fun v => by
    refine ⟨fun i => @decide (∃ y, l[i]? = some y ∧ K.forces v y) (Classical.propDecidable _), fun i => ?_⟩
    exact @decide_eq_true_iff _ (Classical.propDecidable _)
  have hT : ∀ v : K.W, ∃ t, t < 2 ^ l.length ∧ ∀ y ∈ l, (hasF l t y = true ↔ K.forces v y) := fun v => by
    obtain ⟨p, hp⟩ := dec v
    obtain ⟨t, ht, hb⟩ := bits_of l.length p
    refine ⟨t, ht, fun y hy => ?_⟩
    unfold hasF
    rw [hb _ (idxN_lt hy), hp, idxN_get hy]
    constructor
    · rintro ⟨z, e, h⟩; cases e; exact h
    · exact fun h => ⟨y, rfl, h⟩
  let B : Nat → Prop := fun t => t < 2 ^ l.length ∧ ∃ v : K.W, ∀ y ∈ l, (hasF l t y = true ↔ K.forces v y)
  have h12 : 2 ^ l.length ≤ 4096 := Nat.le_trans (Nat.pow_le_pow_right (by decide) hg.le) (by decide)
  have hbase : ∀ t, B t → t ∈ baseTo l (2 ^ l.length) := fun t ⟨ht, v, hv⟩ => by
    refine List.mem_filter.2 ⟨by simpa using ht, ?_⟩
    unfold isThF
    rw [List.all_eq_true]
    intro i hi
    have hi' : i < l.length := by simpa using hi
    have hy : l[i]? = some l[i] := List.getElem?_eq_getElem hi'
    have hym := List.getElem_mem hi'
    generalize l[i] = y at hy hym
    have hbit : bitN t i = hasF l t y := by unfold hasF; rw [idxN_of hg.nd hy]
    have hcl := (hg.cl y hym).2
    have eqb : ∀ {a b : Bool}, (a = true ↔ b = true) → a = b := fun {a b} h => Bool.eq_iff_iff.2 h
    unfold thG
    rw [hy]
    cases y with
    | fls =>
      simp only [hbit, Bool.not_eq_true', ← Bool.not_eq_true]
      intro h
      exact (hv .fls hym).1 h
    | atm c => rfl
    | and a b =>
      simp only [hbit, beq_iff_eq]
      refine eqb ?_
      rw [hv _ hym, Bool.and_eq_true, hv a hcl.1, hv b hcl.2]; exact Iff.rfl
    | or a b =>
      simp only [hbit, beq_iff_eq]
      refine eqb ?_
      rw [hv _ hym, Bool.or_eq_true, hv a hcl.1, hv b hcl.2]; exact Iff.rfl
    | imp a b =>
      simp only [hbit, Bool.not_eq_true']
      refine Bool.eq_false_iff.2 fun h => ?_
      simp only [Bool.and_eq_true, Bool.not_eq_true'] at h
      obtain ⟨⟨h1, h2⟩, h3⟩ := h
      have := (hv _ hym).1 h1 v (K.refl v) ((hv a hcl.1).1 h2)
      rw [(hv b hcl.2).2 this] at h3; cases h3
  have hB : ∀ all : List Nat, (∀ t, B t → t ∈ all) → ∀ t, B t → badT l all t = false := fun all hall t ⟨ht, v, hv⟩ => by
    unfold badT
    rw [List.any_eq_false]
    rintro ⟨a, b⟩ hp
    rw [need_iff hg.nd] at hp
    obtain ⟨hm, hh⟩ := hp
    have hcl := (hg.cl _ hm).2
    have hnf : ¬ K.forces v (.imp a b) := fun h => by rw [(hv _ hm).2 h] at hh; cases hh
    have hex : ∃ u, K.le v u ∧ K.forces u a ∧ ¬ K.forces u b := Classical.byContradiction fun hc => hnf fun u hu ha => Classical.byContradiction fun hb => hc ⟨u, hu, ha, hb⟩
    obtain ⟨u, hu, ha, hb⟩ := hex
    obtain ⟨s, hs, hsu⟩ := hT u
    have hsub : subN t s = true := (subN_bits (by omega)).2 fun i hi hti => by
      rcases Nat.lt_or_ge i l.length with h | h
      · have hy : l[i]? = some l[i] := List.getElem?_eq_getElem h
        have hym := List.getElem_mem h
        generalize l[i] = y at hy hym
        have e1 : hasF l t y = bitN t i := by unfold hasF; rw [idxN_of hg.nd hy]
        have e2 : hasF l s y = bitN s i := by unfold hasF; rw [idxN_of hg.nd hy]
        rw [← e2, hsu y hym]
        rw [← e1, hv y hym] at hti
        exact K.mono y v u hu hti
      · have : t < 2 ^ i := Nat.lt_of_lt_of_le ht (Nat.pow_le_pow_right (by decide) h)
        rw [bitN_test, Nat.testBit_lt_two_pow this] at hti; cases hti
    obtain ⟨r, hr⟩ := wit_ex (l := l) (all := all) (hall s ⟨hs, u, hsu⟩) hsub ((hsu a hcl.1).2 ha) (by
      cases h : hasF l s b with
      | false => rfl
      | true => exact absurd ((hsu b hcl.2).1 h) hb)
    simp [hr]
  have hall := iterT_sup hB ((baseTo l (2 ^ l.length)).length + 1) _ hbase
  obtain ⟨t, ht, htv⟩ := hT w0
  have htm : t ∈ thsF l := hall t ⟨ht, w0, htv⟩
  have hno : hasF l t x = false := by
    cases h : hasF l t x with
    | false => rfl
    | true => exact absurd ((htv x hxl).1 h) hx
  unfold cntF at hc
  split at hc
  · rename_i hneg
    have h0 : (thsF l).any (fun t => !hasF l t x) = true := List.any_eq_true.2 ⟨t, htm, by simp [hno]⟩
    rw [← idxI_ge, decide_eq_true_eq] at h0
    omega
  · cases hc
end Go.Proofs.YtoilfakpgcjjpaaDoor.Log
namespace Go.Proofs.YtoilfakpgcjjpaaDoor.Log
open Go Go.RowKit Go.Proofs.YtoilfakpgcjjpaaDoor Go.Proofs.YtoilfakpgcjjpaaDoor.Eng
set_option linter.unusedVariables false
set_option linter.unusedSimpArgs false
/-! ### the worlds -/
/-- all needs of the worlds before i are met -/
def Met (l : List Fm) (i : Nat) (ws : List Nat) : Prop := ∀ k t, k < i → ws[k]? = some t → ∀ p ∈ needF l t, ∃ u ∈ ws, subN t u = true ∧ hasF l u p.1 = true ∧ hasF l u p.2 = false
section
variable {l : List Fm} {all : List Nat}
theorem step_pre (t : Nat) (ws : List Nat) (p : Fm × Fm) : ∃ more, stepW l all t ws p = ws ++ more := by
  unfold stepW
  split
  · exact ⟨[], by simp⟩
  · exact ⟨_, rfl⟩
theorem fold_pre (t : Nat) : ∀ (ps : List (Fm × Fm)) (ws : List Nat), ∃ more, ps.foldl (stepW l all t) ws = ws ++ more
  | [], ws => ⟨[], by simp⟩
  | p :: ps, ws => by
    obtain ⟨m1, h1⟩ := step_pre (l := l) (all := all) t ws p
    obtain ⟨m2, h2⟩ := fold_pre t ps (stepW l all t ws p)
    exact ⟨m1 ++ m2, by rw [List.foldl_cons, h2, h1, List.append_assoc]⟩
theorem step_mem {t : Nat} {ws : List Nat} {p : Fm × Fm} (hw : ∀ u ∈ ws, u ∈ all) (h : ∃ u, witF l all t p.1 p.2 = some u) :
    (∀ u ∈ stepW l all t ws p, u ∈ all) ∧ ∃ u ∈ stepW l all t ws p, subN t u = true ∧ hasF l u p.1 = true ∧ hasF l u p.2 = false := by
  obtain ⟨u, hu⟩ := h
  have h1 := wit_some hu
  unfold stepW
  rw [hu]
  simp only [Option.getD_some]
  split
  · rename_i hc
    obtain ⟨y, hy, he⟩ := List.any_eq_true.1 hc
    have : u = y := by simpa using he
    subst this
    exact ⟨hw, u, hy, h1.2⟩
  · refine ⟨fun v hv => ?_, u, by simp, h1.2⟩
    rcases List.mem_append.1 hv with h | h
    · exact hw v h
    · simp at h; subst h; exact h1.1
theorem step_nd {t : Nat} {ws : List Nat} {p : Fm × Fm} (h : ws.Nodup) : (stepW l all t ws p).Nodup := by
  unfold stepW
  split
  · exact h
  · rename_i hn
    rw [List.nodup_append]
    refine ⟨h, by simp, fun a ha b hb => ?_⟩
    simp at hb
    subst hb
    rintro rfl
    exact hn (List.any_eq_true.2 ⟨_, ha, by simp⟩)
theorem fold_mem {t : Nat} : ∀ (ps : List (Fm × Fm)) (ws : List Nat), (∀ u ∈ ws, u ∈ all) → ws.Nodup → (∀ p ∈ ps, ∃ u, witF l all t p.1 p.2 = some u) →
    (∀ u ∈ ps.foldl (stepW l all t) ws, u ∈ all) ∧ (ps.foldl (stepW l all t) ws).Nodup ∧ ∀ p ∈ ps, ∃ u ∈ ps.foldl (stepW l all t) ws, subN t u = true ∧ hasF l u p.1 = true ∧ hasF l u p.2 = false
  | [], ws, hw, hn, _ => ⟨hw, hn, fun p h => by cases h⟩
  | p :: ps, ws, hw, hn, hp => by
    obtain ⟨h1, h2⟩ := step_mem hw (hp p (.head _))
    obtain ⟨h3, h4, h5⟩ := fold_mem ps (stepW l all t ws p) h1 (step_nd hn) fun q hq => hp q (.tail _ hq)
    refine ⟨h3, h4, fun q hq => ?_⟩
    cases hq with
    | head =>
      obtain ⟨u, hu, hh⟩ := h2
      obtain ⟨more, hm⟩ := fold_pre (l := l) (all := all) t ps (stepW l all t ws p)
      exact ⟨u, by rw [List.foldl_cons, hm]; exact List.mem_append_left _ hu, hh⟩
    | tail _ hq => exact h5 q hq
theorem worF_ok (hall : ∀ t ∈ all, badT l all t = false) (hlt : ∀ t ∈ all, t < 4096) : ∀ (f i : Nat) (ws : List Nat), 4096 < i + f → i ≤ ws.length → (∀ u ∈ ws, u ∈ all) → ws.Nodup → Met l i ws →
    ∃ more, worF l all f i ws = ws ++ more ∧ (∀ u ∈ worF l all f i ws, u ∈ all) ∧ (worF l all f i ws).Nodup ∧ Met l (worF l all f i ws).length (worF l all f i ws)
  | 0, i, ws, hf, hi, hw, hn, hm => by
    have := nodup_len 4096 ws hn fun u hu => hlt u (hw u hu)
    omega
  | f + 1, i, ws, hf, hi, hw, hn, hm => by
    simp only [worF]
    cases ht : ws[i]? with
    | none =>
      have : i = ws.length := by have := List.getElem?_eq_none_iff.1 ht; omega
      subst this
      exact ⟨[], by simp, hw, hn, hm⟩
    | some t =>
      have hil := (List.getElem?_eq_some_iff.1 ht).1
      have hta := hw t (List.mem_of_getElem? ht)
      have hne : ∀ p ∈ needF l t, ∃ u, witF l all t p.1 p.2 = some u := fun p hp => by
        have := hall t hta
        unfold badT at this
        rw [List.any_eq_false] at this
        have := this p hp
        cases hx : witF l all t p.1 p.2 with
        | none => simp [hx] at this
        | some u => exact ⟨u, rfl⟩
      obtain ⟨h1, h2, h3⟩ := fold_mem (needF l t) ws hw hn hne
      obtain ⟨m1, hm1⟩ := fold_pre (l := l) (all := all) t (needF l t) ws
      have hm' : Met l (i + 1) ((needF l t).foldl (stepW l all t) ws) := fun k s hk hs p hp => by
        rcases Nat.lt_or_ge k i with h | h
        · rw [hm1, List.getElem?_append_left (by omega)] at hs
          obtain ⟨u, hu, hh⟩ := hm k s h hs p hp
          exact ⟨u, by rw [hm1]; exact List.mem_append_left _ hu, hh⟩
        · have : k = i := by omega
          subst this
          rw [hm1, List.getElem?_append_left (by omega), ht] at hs
          cases hs
          exact h3 p hp
      obtain ⟨m2, e, h4⟩ := worF_ok hall hlt f (i + 1) ((needF l t).foldl (stepW l all t) ws) (by omega) (by rw [hm1]; simp; omega) h1 h2 hm'
      simp only
      exact ⟨m1 ++ m2, by rw [e, hm1, List.append_assoc], h4⟩
end
/-- what is known of the worlds -/
structure Wor (l : List Fm) (ws : List Nat) : Prop where
  all : ∀ u ∈ ws, isThF l u = true ∧ u < 4096
  nd : ws.Nodup
  met : Met l ws.length ws
theorem cnt_wor {l : List Fm} {x : Fm} {ws : List Nat} (hl : l.length ≤ 12) (h : cntF l x = some ws) : Wor l ws ∧ ∃ t, ws[0]? = some t ∧ hasF l t x = false := by
  unfold cntF at h
  split at h
  · cases h
  · rename_i hneg
    cases h
    have hany : (thsF l).any (fun t => !hasF l t x) = true := by rw [← idxI_ge, decide_eq_true_eq]; omega
    have hlt := idxI_lt (fun t => !hasF l t x) (thsF l)
    have hfirst : ∀ (xs : List Nat), 0 ≤ idxI (fun t => !hasF l t x) xs → ∃ t, xs[(idxI (fun t => !hasF l t x) xs).toNat]? = some t ∧ hasF l t x = false := by
      intro xs
      induction xs with
      | nil => intro h; simp [idxI] at h
      | cons y ys ih =>
        intro h
        unfold idxI at h ⊢
        split
        · rename_i hy; exact ⟨y, rfl, by simpa using hy⟩
        · rename_i hy
          rw [if_neg hy] at h
          cases hq : idxI (fun t => !hasF l t x) ys with
          | ofNat k =>
            obtain ⟨t, ht, hh⟩ := ih (by rw [hq]; exact Int.natCast_nonneg k)
            rw [hq] at ht
            refine ⟨t, ?_, hh⟩
            show (y :: ys)[((k + 1 : Nat) : Int).toNat]? = some t
            simpa using ht
          | negSucc k => rw [hq] at h; simp at h
    obtain ⟨t, ht, hh⟩ := hfirst (thsF l) (by omega)
    have e : (thsF l).getD (idxI (fun t => !hasF l t x) (thsF l)).toNat 0 = t := by simp [ht]
    rw [e]
    have htm := List.mem_of_getElem? ht
    obtain ⟨more, e1, h1, h2, h3⟩ := worF_ok (l := l) (all := thsF l) ths_fix (thsF_lt hl) 5000 0 [t] (by omega) (Nat.zero_le _) (fun u hu => by simp at hu; subst hu; exact htm) (by simp) (fun k s hk => by omega)
    refine ⟨⟨fun u hu => ⟨ths_base u (h1 u hu), thsF_lt hl u (h1 u hu)⟩, h2, h3⟩, t, by rw [e1]; rfl, hh⟩
/-! ### the model -/
theorem above_iff {ws : List Nat} {t : Nat} {v : Int} : v ∈ aboveF ws t ↔ ∃ (k u : Nat), v = (k : Int) ∧ ws[k]? = some u ∧ subN t u = true := by
  unfold aboveF aboveTo
  rw [List.mem_map]
  constructor
  · rintro ⟨k, hk, rfl⟩
    rw [List.mem_filter] at hk
    have hkl : k < ws.length := by simpa using hk.1
    exact ⟨k, ws[k], rfl, List.getElem?_eq_getElem hkl, by simpa [hkl] using hk.2⟩
  · rintro ⟨k, u, rfl, hu, hs⟩
    refine ⟨k, List.mem_filter.2 ⟨by simpa using (List.getElem?_eq_some_iff.1 hu).1, ?_⟩, rfl⟩
    simpa [hu] using hs
theorem modA_get {ws : List Nat} {k t : Nat} (h : ws[k]? = some t) : (modA ws).getD k [] = aboveF ws t := by simp [modA, h]
theorem modM_get {l : List Fm} {ws : List Nat} {k t : Nat} (h : ws[k]? = some t) : (modM l ws).getD k 0 = (markF l t : Int) := by simp [modM, h]
theorem asc_range : ∀ (n : Nat) (p : Nat → Bool) (i j : Nat), i < j → j < ((List.range n).filter p).length → ((List.range n).filter p).getD i 0 < ((List.range n).filter p).getD j 0 := by
  intro n p i j hij hj
  have hs : ((List.range n).filter p).Pairwise (· < ·) := (List.pairwise_lt_range).filter p
  have h1 : ((List.range n).filter p)[i]? = some ((List.range n).filter p)[i] := List.getElem?_eq_getElem (by omega)
  have h2 : ((List.range n).filter p)[j]? = some ((List.range n).filter p)[j] := List.getElem?_eq_getElem hj
  have := List.pairwise_iff_getElem.1 hs i j (by omega) hj hij
  simpa [h1, h2, hj, show i < ((List.range n).filter p).length by omega] using this
/-- the atoms of a theory -/
theorem mark_bit {l : List Fm} (hat : ∀ x ∈ l, ats x) {t c : Nat} (hc : 112 ≤ c ∧ c ≤ 115) : ∀ n, (markTo l t n).testBit (c - 112) = true ↔ ∃ k, k < n ∧ l[k]? = some (.atm c) ∧ bitN t k = true
  | 0 => by simp [markTo]
  | n + 1 => by
    have ih := mark_bit hat (t := t) hc n
    simp only [markTo]
    unfold markG
    cases hx : l[n]? with
    | none =>
      simp only
      rw [ih]
      constructor
      · rintro ⟨k, hk, h⟩; exact ⟨k, by omega, h⟩
      · rintro ⟨k, hk, h1, h2⟩
        rcases Nat.lt_succ_iff_lt_or_eq.1 hk with h | rfl
        · exact ⟨k, h, h1, h2⟩
        · rw [hx] at h1; cases h1
    | some y =>
      cases y with
      | atm d =>
        have hd := hat _ (List.mem_of_getElem? hx)
        simp only [ats] at hd
        simp only
        cases hb : bitN t n with
        | true =>
          rw [if_pos rfl, Nat.testBit_or, Bool.or_eq_true, ih, Nat.testBit_two_pow]
          simp only [decide_eq_true_eq]
          constructor
          · rintro (⟨k, hk, h⟩ | h)
            · exact ⟨k, by omega, h⟩
            · exact ⟨n, by omega, by rw [hx]; congr 2; omega, hb⟩
          · rintro ⟨k, hk, h1, h2⟩
            rcases Nat.lt_succ_iff_lt_or_eq.1 hk with h | rfl
            · exact .inl ⟨k, h, h1, h2⟩
            · rw [hx] at h1; cases h1; exact .inr rfl
        | false =>
          rw [if_neg (by decide), ih]
          constructor
          · rintro ⟨k, hk, h⟩; exact ⟨k, by omega, h⟩
          · rintro ⟨k, hk, h1, h2⟩
            rcases Nat.lt_succ_iff_lt_or_eq.1 hk with h | rfl
            · exact ⟨k, h, h1, h2⟩
            · rw [hb] at h2; cases h2
      | _ =>
        simp only
        rw [ih]
        constructor
        · rintro ⟨k, hk, h⟩; exact ⟨k, by omega, h⟩
        · rintro ⟨k, hk, h1, h2⟩
          rcases Nat.lt_succ_iff_lt_or_eq.1 hk with h | rfl
          · exact ⟨k, h, h1, h2⟩
          · rw [hx] at h1; cases h1
theorem bit_test (m c : Nat) : bit (m : Int) c = m.testBit (c - 112) := by
  unfold bit
  rw [Nat.testBit_eq_decide_div_mod_eq]
  refine decide_eq_decide.2 ?_
  have : ((m : Int) / 2 ^ (c - 112)) % 2 = ((m / 2 ^ (c - 112) % 2 : Nat) : Int) := by norm_cast
  rw [this]
  omega
theorem mark_sub {l : List Fm} (hg : Good l) {t u : Nat} (ht : t < 4096) (h : subN t u = true) : subN (markF l t) (markF l u) = true := by
  rw [subN_iff]
  intro i hi hti
  have h16 := markTo_lt hg.at_ t l.length
  have hi4 : i < 4 := by
    rcases Nat.lt_or_ge i 4 with h4 | h4
    · exact h4
    · have : markTo l t l.length < 2 ^ i := Nat.lt_of_lt_of_le h16 (by rw [show (16 : Nat) = 2 ^ 4 from rfl]; exact Nat.pow_le_pow_right (by decide) h4)
      unfold markF at hti
      rw [Nat.testBit_lt_two_pow this] at hti; cases hti
  have e : i = (112 + i) - 112 := by omega
  unfold markF at hti ⊢
  rw [e] at hti ⊢
  rw [mark_bit hg.at_ (by omega)] at hti ⊢
  obtain ⟨k, hk, h1, h2⟩ := hti
  exact ⟨k, hk, h1, (subN_bits ht).1 h k (by have := hg.le; omega) h2⟩
theorem cnt_model {l : List Fm} (hg : Good l) {ws : List Nat} (hw : Wor l ws) (hpos : 0 < ws.length) : isModF (modA ws) (modM l ws) = true := by
  have hlen : (modA ws).length = ws.length := by simp [modA]
  have hmlen : (modM l ws).length = ws.length := by simp [modM]
  have hle : ws.length ≤ 4096 := nodup_len 4096 ws hw.nd fun u hu => (hw.all u hu).2
  unfold isModF
  rw [hlen, hmlen]
  simp only [Bool.and_eq_true, decide_eq_true_eq]
  refine ⟨⟨⟨⟨hpos, hle⟩, trivial⟩, ?_⟩, ?_⟩
  · rw [List.all_eq_true]
    intro k hk
    have hkl : k < ws.length := by simpa using hk
    have ht : ws[k]? = some ws[k] := List.getElem?_eq_getElem hkl
    generalize ws[k] = t at ht
    have h16 := markTo_lt hg.at_ t l.length
    unfold mdG1
    rw [modA_get ht, modM_get ht, hlen]
    simp only [Bool.and_eq_true, decide_eq_true_eq]
    refine ⟨⟨⟨Int.natCast_nonneg _, by unfold markF; omega⟩, List.any_eq_true.2 ⟨(k : Int), above_iff.2 ⟨k, t, rfl, ht, subN_refl t⟩, by simp⟩⟩, ?_⟩
    rw [List.all_eq_true]
    intro i hi
    have hil : i < (aboveF ws t).length := by simpa using hi
    have hv : (aboveF ws t)[i]? = some (aboveF ws t)[i] := List.getElem?_eq_getElem hil
    have hvm := List.getElem_mem hil
    generalize hve : (aboveF ws t)[i] = v at hv hvm
    obtain ⟨j, u, rfl, hu, _⟩ := above_iff.1 hvm
    have hjl := (List.getElem?_eq_some_iff.1 hu).1
    unfold rowG
    rw [show (aboveF ws t).getD i 0 = (j : Int) by simp [hv]]
    simp only [Bool.and_eq_true, Bool.or_eq_true, decide_eq_true_eq]
    refine ⟨⟨Int.natCast_nonneg _, by omega⟩, ?_⟩
    rcases Nat.eq_zero_or_pos i with h0 | h0
    · exact .inl h0
    · refine .inr ?_
      have hl' : (aboveF ws t).length = ((List.range ws.length).filter fun v => subN t (ws.getD v 0)).length := by simp [aboveF, aboveTo]
      have ha := asc_range ws.length (fun v => subN t (ws.getD v 0)) (i - 1) i (by omega) (by omega)
      have e1 : ∀ m, m < (aboveF ws t).length → (aboveF ws t).getD m 0 = ((((List.range ws.length).filter fun v => subN t (ws.getD v 0)).getD m 0 : Nat) : Int) := fun m hm => by
        have h2 : m < ((List.range ws.length).filter fun v => subN t (ws.getD v 0)).length := by omega
        unfold aboveF aboveTo
        rw [List.getD_eq_getElem?_getD, List.getD_eq_getElem?_getD, List.getElem?_map, List.getElem?_eq_getElem h2]
        rfl
      have e2 := e1 i hil
      rw [show (aboveF ws t).getD i 0 = (j : Int) by simp [hv]] at e2
      rw [e1 (i - 1) (by omega)]
      omega
  · rw [List.all_eq_true]
    intro k hk
    have hkl : k < ws.length := by simpa using hk
    have ht : ws[k]? = some ws[k] := List.getElem?_eq_getElem hkl
    have htm := List.getElem_mem hkl
    generalize ws[k] = t at ht htm
    unfold mdG2
    rw [modA_get ht, List.all_eq_true]
    intro v hv
    obtain ⟨j, u, rfl, hu, hs⟩ := above_iff.1 hv
    unfold upG
    rw [modM_get ht, modA_get ht]
    simp only [Int.toNat_natCast]
    rw [modM_get hu, modA_get hu]
    simp only [Int.toNat_natCast, Bool.and_eq_true, Bool.not_eq_true']
    refine ⟨mark_sub hg (hw.all t htm).2 hs, ?_⟩
    rw [List.any_eq_false]
    intro y hy
    obtain ⟨i, r, rfl, hr, hs2⟩ := above_iff.1 hy
    have : ((i : Int)) ∈ aboveF ws t := above_iff.2 ⟨i, r, rfl, hr, subN_trans hs hs2⟩
    simp [this]
/-- what a world forces is its theory -/
theorem cnt_truth {l : List Fm} (hg : Good l) {ws : List Nat} (hw : Wor l ws) : ∀ (y : Fm), y ∈ l → ∀ (k t : Nat), ws[k]? = some t → fc (modA ws) (modM l ws) y k = hasF l t y
  | .fls, hy, k, t, ht => by
    rw [th_fls (hw.all t (List.mem_of_getElem? ht)).1 hy]; rfl
  | .atm c, hy, k, t, ht => by
    have hc := hg.at_ _ hy
    simp only [ats] at hc
    simp only [fc]
    rw [modM_get ht, bit_test, Bool.eq_iff_iff]
    unfold markF
    rw [mark_bit hg.at_ hc]
    unfold hasF
    constructor
    · rintro ⟨i, hi, h1, h2⟩; rw [idxN_of hg.nd h1]; exact h2
    · intro h; exact ⟨_, idxN_lt hy, idxN_get hy, h⟩
  | .and a b, hy, k, t, ht => by
    have hcl := (hg.cl _ hy).2
    simp only [fc]
    rw [cnt_truth hg hw a hcl.1 k t ht, cnt_truth hg hw b hcl.2 k t ht, th_and (hw.all t (List.mem_of_getElem? ht)).1 hy]
  | .or a b, hy, k, t, ht => by
    have hcl := (hg.cl _ hy).2
    simp only [fc]
    rw [cnt_truth hg hw a hcl.1 k t ht, cnt_truth hg hw b hcl.2 k t ht, th_or (hw.all t (List.mem_of_getElem? ht)).1 hy]
  | .imp a b, hy, k, t, ht => by
    have hcl := (hg.cl _ hy).2
    have htm := List.mem_of_getElem? ht
    simp only [fc]
    rw [modA_get ht]
    cases hh : hasF l t (.imp a b) with
    | true =>
      rw [Bool.not_eq_true', List.any_eq_false]
      intro v hv
      obtain ⟨j, u, rfl, hu, hs⟩ := above_iff.1 hv
      have hum := List.mem_of_getElem? hu
      simp only [Int.toNat_natCast]
      rw [cnt_truth hg hw a hcl.1 j u hu, cnt_truth hg hw b hcl.2 j u hu]
      have h1 := has_sub hg.le (hw.all t htm).2 hs hy hh
      have h2 := th_imp (hw.all u hum).1 hy h1
      cases ha : hasF l u a with
      | false => simp
      | true => simp [h2 ha]
    | false =>
      rw [Bool.not_eq_false', List.any_eq_true]
      obtain ⟨u, hu, hs, h1, h2⟩ := hw.met k t (List.getElem?_eq_some_iff.1 ht).1 ht (a, b) ((need_iff hg.nd).2 ⟨hy, hh⟩)
      obtain ⟨j, hj⟩ := List.getElem?_of_mem hu
      refine ⟨(j : Int), above_iff.2 ⟨j, u, rfl, hj, hs⟩, ?_⟩
      simp only [Int.toNat_natCast]
      rw [cnt_truth hg hw a hcl.1 j u hj, cnt_truth hg hw b hcl.2 j u hj, h1, h2]; rfl
theorem cnt_sound {x : Fm} {ws : List Nat} (hg : Good (addF x [])) (h : cntF (addF x []) x = some ws) : isModF (modA ws) (modM (addF x []) ws) = true ∧ fc (modA ws) (modM (addF x []) ws) x 0 = false := by
  obtain ⟨hw, t, ht, hx⟩ := cnt_wor hg.le h
  have hpos := (List.getElem?_eq_some_iff.1 ht).1
  exact ⟨cnt_model hg hw hpos, by rw [cnt_truth hg hw x (mem_addN.2 (isSub_self x)) 0 t ht]; exact hx⟩
/-! ### finite models as models -/
def finK (ab : List (List Int)) (mk : List Int) (h : isModF ab mk = true) : KM where
  W := {k : Nat // k < ab.length}
  le := fun v u => ((u.1 : Nat) : Int) ∈ ab.getD v.1 []
  refl := fun w => by
    have hl : ab[w.1]? = some (ab[w.1]'w.2) := List.getElem?_eq_getElem w.2
    have := (isModF_row h hl).2.2.1
    rw [show ab.getD w.1 [] = ab[w.1]'w.2 by simp [hl]]; exact this
  trans := fun a b c hab hbc => by
    have h2 := (isModF_get h).2.2.2.2 a.1 a.2
    unfold mdG2 at h2
    have h3 := List.all_eq_true.1 h2 _ hab
    unfold upG at h3
    simp only [Int.toNat_natCast, Bool.and_eq_true, Bool.not_eq_true'] at h3
    have h4 := List.any_eq_false.1 h3.2 _ hbc
    simpa using h4
  val := fun w c => 112 ≤ c ∧ c ≤ 115 ∧ bit (mk.getD w.1 0) c = true
  up := fun a b c hab hv => by
    have h2 := (isModF_get h).2.2.2.2 a.1 a.2
    unfold mdG2 at h2
    have h3 := List.all_eq_true.1 h2 _ hab
    unfold upG at h3
    simp only [Int.toNat_natCast, Bool.and_eq_true] at h3
    have hm : ∀ w : {k : Nat // k < ab.length}, 0 ≤ mk.getD w.1 0 := fun w => (isModF_row h (List.getElem?_eq_getElem w.2)).1
    refine ⟨hv.1, hv.2.1, ?_⟩
    have e1 := Int.toNat_of_nonneg (hm a)
    have e2 := Int.toNat_of_nonneg (hm b)
    have h5 := hv.2.2
    rw [← e1, bit_test] at h5
    rw [← e2, bit_test]
    exact subN_iff.1 h3.1 _ (by omega) h5
theorem finK_forces {ab : List (List Int)} {mk : List Int} (h : isModF ab mk = true) : ∀ (x : Fm), ats x → ∀ w : (finK ab mk h).W, (finK ab mk h).forces w x ↔ fc ab mk x w.1 = true
  | .fls, _, w => by simp [KM.forces, fc]
  | .atm c, hc, w => by simp only [KM.forces, fc]; exact ⟨fun k => k.2.2, fun k => ⟨hc.1, hc.2, k⟩⟩
  | .and a b, hx, w => by simp only [KM.forces, fc, Bool.and_eq_true]; rw [finK_forces h a hx.1, finK_forces h b hx.2]
  | .or a b, hx, w => by simp only [KM.forces, fc, Bool.or_eq_true]; rw [finK_forces h a hx.1, finK_forces h b hx.2]
  | .imp a b, hx, w => by
    have hl : ab[w.1]? = some (ab[w.1]'w.2) := List.getElem?_eq_getElem w.2
    have hrow := (isModF_row h hl).2.2.2.2.2
    have eg : ab.getD w.1 [] = ab[w.1]'w.2 := by simp [hl]
    simp only [KM.forces, fc]
    rw [Bool.not_eq_true', List.any_eq_false]
    constructor
    · intro hf v hv
      have hv' := hv
      rw [eg] at hv'
      have hb := hrow v hv'
      have hvl : v.toNat < ab.length := by omega
      have hi := hf ⟨v.toNat, hvl⟩ (by show ((v.toNat : Nat) : Int) ∈ ab.getD w.1 []; rw [Int.toNat_of_nonneg hb.1]; exact hv)
      have ea := finK_forces h a hx.1 ⟨v.toNat, hvl⟩
      have eb := finK_forces h b hx.2 ⟨v.toNat, hvl⟩
      cases h1 : fc ab mk a v.toNat with
      | false => simp
      | true => have h2 := eb.1 (hi (ea.2 h1)); simp only at h2; simp [h2]
    · intro hf v hv ha
      rw [finK_forces h a hx.1] at ha
      rw [finK_forces h b hx.2]
      have := hf _ hv
      simp only [Int.toNat_natCast] at this
      rw [ha] at this
      simpa using this
theorem cnt_vld {x : Fm} (hx : ats x) (hp : parts x ≤ 12) : cntF (addF x []) x = none ↔ vld [] x := by
  have hg := good_add hx hp
  constructor
  · exact cnt_complete hg
  · intro hv
    cases hc : cntF (addF x []) x with
    | none => rfl
    | some ws =>
      obtain ⟨h1, h2⟩ := cnt_sound hg hc
      have hpos := (isModF_get h1).1
      have h3 := (finK_forces h1 x hx ⟨0, hpos⟩).1 (hv (finK _ _ h1) ⟨0, hpos⟩ (fun y hy => by cases hy))
      simp only at h3
      rw [h2] at h3; cases h3
theorem dec_vld {x : Fm} (hx : ats x) (hp : parts x ≤ 12) : (decF x).valid = true ↔ vld [] x := by
  rw [← cnt_vld hx hp]
  unfold decF
  cases cntF (addF x []) x <;> simp
end Go.Proofs.YtoilfakpgcjjpaaDoor.Log
namespace Go.Proofs.YtoilfakpgcjjpaaDoor.Log
open Go Go.RowKit Go.Proofs.YtoilfakpgcjjpaaDoor Go.Proofs.YtoilfakpgcjjpaaDoor.Eng
set_option linter.unusedVariables false
set_option linter.unusedSimpArgs false
def cval (v : Nat → Bool) : Fm → Bool
  | .fls => false
  | .atm c => v c
  | .and a b => cval v a && cval v b
  | .or a b => cval v a || cval v b
  | .imp a b => !(cval v a && !cval v b)
theorem cval_congr {v u : Nat → Bool} (h : ∀ c, 112 ≤ c → c ≤ 115 → v c = u c) : ∀ x, ats x → cval v x = cval u x
  | .fls, _ => rfl
  | .atm c, hx => h c hx.1 hx.2
  | .and a b, hx => by simp only [cval]; rw [cval_congr h a hx.1, cval_congr h b hx.2]
  | .or a b, hx => by simp only [cval]; rw [cval_congr h a hx.1, cval_congr h b hx.2]
  | .imp a b, hx => by simp only [cval]; rw [cval_congr h a hx.1, cval_congr h b hx.2]
theorem fc_one (m : Int) : ∀ x, fc [[0]] [m] x 0 = cval (fun c => bit m c) x
  | .fls => rfl
  | .atm c => rfl
  | .and a b => by simp only [fc, cval]; rw [fc_one m a, fc_one m b]
  | .or a b => by simp only [fc, cval]; rw [fc_one m a, fc_one m b]
  | .imp a b => by simp only [fc, cval]; rw [← fc_one m a, ← fc_one m b]; simp
theorem clF_iff {x : Fm} (hx : ats x) : clF x = true ↔ ∀ v, cval v x = true := by
  unfold clF
  rw [List.all_eq_true]
  constructor
  · intro h v
    obtain ⟨t, ht, hb⟩ := bits_of 4 (fun i => v (112 + i))
    have := h t (by simpa using ht)
    rw [fc_one] at this
    rw [cval_congr (u := fun c => bit (t : Int) c) (fun c h1 h2 => ?_) x hx]
    · exact this
    · rw [bit_test, ← bitN_test, hb _ (by omega)]; congr 1; omega
  · intro h m _
    rw [fc_one]; exact h _
/-- a model with one world -/
def oneK (v : Nat → Bool) : KM where
  W := Unit
  le := fun _ _ => True
  refl := fun _ => trivial
  trans := fun _ _ _ _ _ => trivial
  val := fun _ c => v c = true
  up := fun _ _ _ _ h => h
theorem oneK_forces (v : Nat → Bool) : ∀ (x : Fm) (w : (oneK v).W), (oneK v).forces w x ↔ cval v x = true
  | .fls, w => by simp [KM.forces, cval]
  | .atm c, w => Iff.rfl
  | .and a b, w => by simp only [KM.forces, cval, Bool.and_eq_true]; rw [oneK_forces v a, oneK_forces v b]
  | .or a b, w => by simp only [KM.forces, cval, Bool.or_eq_true]; rw [oneK_forces v a, oneK_forces v b]
  | .imp a b, w => by
    simp only [KM.forces, cval]
    constructor
    · intro h
      have := h w trivial
      rw [oneK_forces v a, oneK_forces v b] at this
      cases h1 : cval v a <;> simp [h1] at this ⊢; exact this
    · intro h u _ ha
      rw [oneK_forces v a] at ha
      rw [oneK_forces v b]
      rw [ha] at h; simpa using h
theorem vld_cl {x : Fm} (hx : ats x) (h : vld [] x) : clF x = true := (clF_iff hx).2 fun v => (oneK_forces v x ()).1 (h (oneK v) () (fun y hy => by cases hy))
/-- above every world lies one that decides the atoms -/
theorem decides (K : KM) : ∀ (cs : List Nat) (v : K.W), ∃ u, K.le v u ∧ ∀ c ∈ cs, K.val u c ∨ ∀ r, K.le u r → ¬ K.val r c
  | [], v => ⟨v, K.refl v, fun c h => by cases h⟩
  | c :: cs, v => by
    obtain ⟨u, hu, hc⟩ := decides K cs v
    by_cases h : ∃ r, K.le u r ∧ K.val r c
    · obtain ⟨r, hr, hv⟩ := h
      refine ⟨r, K.trans _ _ _ hu hr, fun d hd => ?_⟩
      cases hd with
      | head => exact .inl hv
      | tail _ hd =>
        rcases hc d hd with h | h
        · exact .inl (K.up _ _ _ hr h)
        · exact .inr fun s hs => h s (K.trans _ _ _ hr hs)
    · refine ⟨u, hu, fun d hd => ?_⟩
      cases hd with
      | head => exact .inr fun r hr hv => h ⟨r, hr, hv⟩
      | tail _ hd => exact hc d hd
theorem decided {K : KM} {u : K.W} {v : Nat → Bool} (h : ∀ c, 112 ≤ c → c ≤ 115 → ∀ r, K.le u r → (K.val r c ↔ v c = true)) : ∀ (x : Fm), ats x → ∀ r, K.le u r → (K.forces r x ↔ cval v x = true)
  | .fls, _, r, _ => by simp [KM.forces, cval]
  | .atm c, hx, r, hr => h c hx.1 hx.2 r hr
  | .and a b, hx, r, hr => by simp only [KM.forces, cval, Bool.and_eq_true]; rw [decided h a hx.1 r hr, decided h b hx.2 r hr]
  | .or a b, hx, r, hr => by simp only [KM.forces, cval, Bool.or_eq_true]; rw [decided h a hx.1 r hr, decided h b hx.2 r hr]
  | .imp a b, hx, r, hr => by
    simp only [KM.forces, cval]
    constructor
    · intro hf
      have := hf r (K.refl r)
      rw [decided h a hx.1 r hr, decided h b hx.2 r hr] at this
      cases h1 : cval v a <;> simp [h1] at this ⊢; exact this
    · intro hf s hs ha
      have hus := K.trans _ _ _ hr hs
      rw [decided h a hx.1 s hus] at ha
      rw [decided h b hx.2 s hus]
      rw [ha] at hf; simpa using hf
abbrev nn (x : Fm) : Fm := .imp (.imp x .fls) .fls
theorem glivenko {x : Fm} (hx : ats x) : vld [] (nn x) ↔ clF x = true := by
  constructor
  · intro h
    refine (clF_iff hx).2 fun v => ?_
    have := (oneK_forces v (nn x) ()).1 (h (oneK v) () (fun y hy => by cases hy))
    simp only [cval] at this
    cases h1 : cval v x <;> simp [h1] at this ⊢
  · intro hc K w _ v hv hn
    obtain ⟨u, hu, hd⟩ := decides K [112, 113, 114, 115] v
    have hval : ∃ val : Nat → Bool, ∀ c, val c = true ↔ K.val u c := ⟨fun c => @decide (K.val u c) (Classical.propDecidable _), fun c => @decide_eq_true_iff _ (Classical.propDecidable _)⟩
    obtain ⟨val, hval⟩ := hval
    have hdec : ∀ c, 112 ≤ c → c ≤ 115 → ∀ r, K.le u r → (K.val r c ↔ val c = true) := fun c h1 h2 r hr => by
      rw [hval]
      have hm : c ∈ [112, 113, 114, 115] := by
        have : c = 112 ∨ c = 113 ∨ c = 114 ∨ c = 115 := by omega
        rcases this with rfl | rfl | rfl | rfl <;> simp
      rcases hd c hm with h | h
      · exact ⟨fun _ => h, fun _ => K.up _ _ _ hr h⟩
      · exact ⟨fun k => absurd k (h r hr), fun k => absurd k (h u (K.refl u))⟩
    have hfx := (decided hdec x hx u (K.refl u)).2 ((clF_iff hx).1 hc val)
    exact hn u hu hfx
theorem vld_or {a b : Fm} : vld [] (.or a b) ↔ vld [] a ∨ vld [] b := by
  constructor
  · intro h
    rcases stuck (G := []) (g := .or a b) (fun x hx => by cases hx) (.inr (.inr ⟨a, b, rfl⟩)) h with ⟨a', b', e, h⟩ | ⟨i, a', b', c, hi, _⟩
    · cases e; exact h
    · simp at hi
  · rintro (h | h) K w hw
    · exact .inl (h K w hw)
    · exact .inr (h K w hw)
/-! ### atoms replaced -/
def subF (σ : Nat → Fm) : Fm → Fm
  | .fls => .fls
  | .atm c => σ c
  | .and a b => .and (subF σ a) (subF σ b)
  | .or a b => .or (subF σ a) (subF σ b)
  | .imp a b => .imp (subF σ a) (subF σ b)
def subK (K : KM) (σ : Nat → Fm) : KM where
  W := K.W
  le := K.le
  refl := K.refl
  trans := K.trans
  val := fun w c => K.forces w (σ c)
  up := fun a b c h hv => K.mono (σ c) a b h hv
theorem subK_forces (K : KM) (σ : Nat → Fm) : ∀ (x : Fm) (w : K.W), (subK K σ).forces w x ↔ K.forces w (subF σ x)
  | .fls, w => Iff.rfl
  | .atm c, w => Iff.rfl
  | .and a b, w => and_congr (subK_forces K σ a w) (subK_forces K σ b w)
  | .or a b, w => or_congr (subK_forces K σ a w) (subK_forces K σ b w)
  | .imp a b, w => ⟨fun h v hv ha => (subK_forces K σ b v).1 (h v hv ((subK_forces K σ a v).2 ha)), fun h v hv ha => (subK_forces K σ b v).2 (h v hv ((subK_forces K σ a v).1 ha))⟩
theorem vld_sub {x : Fm} (σ : Nat → Fm) (h : vld [] x) : vld [] (subF σ x) := fun K w _ => (subK_forces K σ x w).1 (h (subK K σ) w (fun y hy => by cases hy))
theorem sub_sub {σ τ : Nat → Fm} (h : ∀ c, 112 ≤ c → c ≤ 115 → subF τ (σ c) = .atm c) : ∀ x, ats x → subF τ (subF σ x) = x
  | .fls, _ => rfl
  | .atm c, hx => h c hx.1 hx.2
  | .and a b, hx => by simp only [subF]; rw [sub_sub h a hx.1, sub_sub h b hx.2]
  | .or a b, hx => by simp only [subF]; rw [sub_sub h a hx.1, sub_sub h b hx.2]
  | .imp a b, hx => by simp only [subF]; rw [sub_sub h a hx.1, sub_sub h b hx.2]
def rot (k c : Nat) : Fm := .atm (112 + (c - 112 + k) % 4)
theorem vld_rot {x : Fm} (hx : ats x) {k : Nat} (hk : k ≤ 4) : vld [] x ↔ vld [] (subF (rot k) x) := by
  constructor
  · exact vld_sub _
  · intro h
    have := vld_sub (rot (4 - k)) h
    rw [sub_sub (fun c h1 h2 => ?_) x hx] at this
    · exact this
    · simp only [rot, subF]; congr 1; omega
theorem parts_rot (k : Nat) : ∀ x, parts (subF (rot k) x) = parts x
  | .fls => rfl
  | .atm c => rfl
  | .and a b => by simp only [subF, parts]; rw [parts_rot k a, parts_rot k b]
  | .or a b => by simp only [subF, parts]; rw [parts_rot k a, parts_rot k b]
  | .imp a b => by simp only [subF, parts]; rw [parts_rot k a, parts_rot k b]
theorem ats_sub {σ : Nat → Fm} (h : ∀ c, 112 ≤ c → c ≤ 115 → ats (σ c)) : ∀ x, ats x → ats (subF σ x)
  | .fls, _ => trivial
  | .atm c, hx => h c hx.1 hx.2
  | .and a b, hx => ⟨ats_sub h a hx.1, ats_sub h b hx.2⟩
  | .or a b, hx => ⟨ats_sub h a hx.1, ats_sub h b hx.2⟩
  | .imp a b, hx => ⟨ats_sub h a hx.1, ats_sub h b hx.2⟩
theorem ats_rot (k c : Nat) : ats (rot k c) := ⟨by omega, by omega⟩
/-! ### the intuitionistic laws -/
theorem law0 (a b : Fm) : vld [] (.imp a (.imp b a)) := fun K w _ v hv ha u hu _ => K.mono a v u hu ha
theorem law1 (a b : Fm) : vld [] (.imp (.and a b) (.and b a)) := fun K w _ v hv h => ⟨h.2, h.1⟩
theorem law2 (a b : Fm) : vld [] (.imp (.or a b) (.or b a)) := fun K w _ v hv h => h.elim .inr .inl
theorem law3 (a : Fm) : vld [] (.imp a (nn a)) := fun K w _ v hv ha u hu hn => hn u (K.refl u) (K.mono a v u hu ha)
theorem law4 (a : Fm) : vld [] (.imp (.imp (nn a) .fls) (.imp a .fls)) := fun K w _ v hv h u hu ha => h u hu fun r hr hn => hn r (K.refl r) (K.mono a u r hr ha)
theorem law5 (a : Fm) : vld [] (.imp .fls a) := fun K w _ v hv h => h.elim
theorem law6 (a b : Fm) : vld [] (.imp (.and a (.imp a b)) b) := fun K w _ v hv h => h.2 v (K.refl v) h.1
theorem law7 (a b : Fm) : vld [] (.imp (.imp (.or a b) .fls) (.imp a .fls)) := fun K w _ v hv h u hu ha => h u hu (.inl ha)
theorem law8 (a b : Fm) : vld [] (.imp (.imp a b) (.imp (.imp b .fls) (.imp a .fls))) := fun K w _ v hv h u hu hn r hr ha => hn r hr (h r (K.trans _ _ _ hu hr) ha)
theorem law9 (a : Fm) : vld [] (.imp (.imp (.or a (.imp a .fls)) .fls) .fls) := fun K w _ v hv h => h v (K.refl v) (.inr fun u hu ha => h u hu (.inl ha))
end Go.Proofs.YtoilfakpgcjjpaaDoor.Log
namespace Go.Proofs.YtoilfakpgcjjpaaDoor.Log
open Go Go.RowKit Go.Proofs.YtoilfakpgcjjpaaDoor Go.Proofs.YtoilfakpgcjjpaaDoor.Eng
set_option linter.unusedVariables false
set_option linter.unusedSimpArgs false
set_option maxRecDepth 100000
def fmlF (m : Nat) (s : List UInt8) : List UInt8 := if s.length ≤ 200 ∧ isFm m s = true then s else [112]
theorem fmlF_ex {m : Nat} (hm : 1 ≤ m) (s : List UInt8) : ∃ x, ats x ∧ parts x ≤ m ∧ fmlF m s = shw x := by
  unfold fmlF
  split
  · rename_i h
    obtain ⟨x, h1, h2, h3⟩ := isFm_iff.1 h.2
    exact ⟨x, h1, h3, h2⟩
  · exact ⟨.atm 112, ⟨by decide, by decide⟩, hm, rfl⟩
theorem formula2_ok (m : Nat) (s : List UInt8) (w : World) : CallsX Tryd.prog 21 #[.string (str s), .int .i64 m] w fun v _ => v = .string (str (fmlF m s)) := by
  have st := St.start (w0 := w) (I0 := hp w) (Sub.refl _)
  refine CallsX.of (nn := 14) Tryd.func21 rfl rfl rfl (fun a mt => ?_)
  refine w_rs ?_
  refine step_pure mt (pu_assign rfl) rfl (fun a mt => ?_)
  refine w_nil ?_
  refine w_seq ?_
  refine w_rs ?_
  refine step_pure mt (pu_move rfl) rfl (fun a mt => ?_)
  refine step_pure mt (pu_len_str rfl K.un9) rfl (fun a mt => ?_)
  refine step_pure mt (pu_leq rfl rfl) rfl (fun a mt => ?_)
  refine step_pure mt (pu_move rfl) rfl (fun a mt => ?_)
  refine split_p 8 mt rfl (fun g8 mt => ?_) (fun g8 mt => ?_)
  · have hl2 : s.length ≤ 200 := by omega
    refine step_pure_g mt rfl rfl (pu_move rfl) rfl (fun a mt => ?_)
    refine step_pure_g mt rfl rfl (pu_move rfl) rfl (fun a mt => ?_)
    refine s_callv_g mt st rfl rfl K.cb17 (vs := [.string (str s), .int .i64 m]) rfl (Formula_ok m s _ (by omega)) rfl (fun a w' mt st => ?_)
    refine step_pure mt (pu_pick rfl rfl) rfl (fun a mt => ?_)
    refine w_nil ?_
    refine w_cond_b mt rfl (fun h12 => ?_) (fun h12 => ?_)
    · refine w_rs ?_
      refine step_pure mt (pu_move rfl) rfl (fun a mt => ?_)
      refine step_pure mt (pu_assign rfl) rfl (fun a mt => ?_)
      refine w_nil ?_
      refine w_ret (x_then_ret ?_)
      refine post_ret1 mt rfl rfl ?_
      exact ⟨_, rfl, st.below, by unfold fmlF; rw [if_pos ⟨hl2, h12⟩]⟩
    · refine w_skip ?_
      refine x_then_n ?_
      refine w_rs ?_
      refine step_pure mt (pu_assign rfl) rfl (fun a mt => ?_)
      refine w_nil ?_
      refine w_ret ?_
      refine post_ret1 mt rfl rfl ?_
      first
      | exact ⟨_, rfl, st.below, by unfold fmlF; rw [if_neg (fun h => by rw [h.2] at h12; cases h12)]; rfl⟩
      | exact ⟨_, rfl, st.below, by unfold fmlF; rw [if_neg (fun h => by have := h.1; omega)]; rfl⟩
  · refine step_skip_g mt rfl rfl rfl rfl (fun a mt => ?_)
    refine step_skip_g mt rfl rfl rfl rfl (fun a mt => ?_)
    refine step_skip_g mt rfl rfl rfl rfl (fun a mt => ?_)
    refine step_pure mt (pu_pick rfl rfl) rfl (fun a mt => ?_)
    refine w_nil ?_
    refine w_false mt rfl ?_
    refine w_skip ?_
    refine x_then_n ?_
    refine w_rs ?_
    refine step_pure mt (pu_assign rfl) rfl (fun a mt => ?_)
    refine w_nil ?_
    refine w_ret ?_
    refine post_ret1 mt rfl rfl ?_
    first
    | exact ⟨_, rfl, st.below, by unfold fmlF; rw [if_neg (fun h => by rw [h.2] at h12; cases h12)]; rfl⟩
    | exact ⟨_, rfl, st.below, by unfold fmlF; rw [if_neg (fun h => by have := h.1; omega)]; rfl⟩
def valF (s : List UInt8) : Bool := match fmOf s with | some x => (decF x).valid | none => false
theorem valF_iff {x : Fm} (hx : ats x) (hp : parts x ≤ 12) : valF (shw x) = true ↔ vld [] x := by
  unfold valF; rw [fmOf_shw hx hp]; exact dec_vld hx hp
theorem valF_ok {x : Fm} (hx : ats x) (hp : parts x ≤ 12) : (fmOf (shw x)).isSome = true := by rw [fmOf_shw hx hp]; rfl
theorem valid_ok {I : Hp} (s : List UInt8) (w : World) (hI : Sub I (hp w)) (hG : Gl I) : CallsX Tryd.prog 22 #[.string (str s)] w fun v _ => v = .tuple #[.bool (valF s), .bool (fmOf s).isSome] := by
  have st := St.start (w0 := w) (I0 := I) hI
  refine CallsX.of (nn := 15) Tryd.func22 rfl rfl rfl (fun a mt => ?_)
  refine w_rs ?_
  refine step_pure mt (pu_assign rfl) rfl (fun a mt => ?_)
  refine step_pure mt (pu_assign rfl) rfl (fun a mt => ?_)
  refine w_nil ?_
  refine w_rs ?_
  refine step_pure mt (pu_move rfl) rfl (fun a mt => ?_)
  refine s_call mt st K.cb30 (vs := [.string (str s)]) rfl (Decide_ok s _ st.agr (hG.mono st.sub0)) rfl (fun a w' v8 mt st hI8 hv8 => ?_)
  obtain ⟨b, lv, va, vm, e, rfl, o1, o2, o3, hb, he⟩ : ∃ b lv va vm e, v8 = .tuple #[.agg #[.bool b, lv, va, vm], .int .i64 e] ∧ lv.oneCell' = true ∧ va.oneCell' = true ∧ vm.oneCell' = true ∧ b = valF s ∧ decide (e = 0) = (fmOf s).isSome := by
    unfold valF
    cases hx : fmOf s with
    | none => rw [hx] at hv8; exact ⟨_, _, _, _, _, hv8, rfl, rfl, rfl, rfl, rfl⟩
    | some x =>
      rw [hx] at hv8
      obtain ⟨rv, rfl, lv, va, vm, rfl, h1, _, _, rows, e0, r1, _, r3⟩ := hv8
      cases e0
      exact ⟨_, _, _, _, _, rfl, by obtain ⟨ad, c, rfl, _⟩ := RdS.len h1; rfl, RdS.one r1, RdS.one r3, rfl, rfl⟩
  refine step_pure mt (pu_move rfl) rfl (fun a mt => ?_)
  refine step_pure mt (pu_extract rfl rfl) rfl (fun a mt => ?_)
  refine step_pure mt (pu_extract rfl rfl) rfl (fun a mt => ?_)
  refine step_alloc mt st (al_alloc K.ze56 rfl) rfl (fun a w' b4 mt st => ?_)
  refine s_storeA mt st K.sz56 rfl rfl rfl (by simp [o1, o2, o3, one_bool]) rfl rfl (fun w' st => ?_)
  refine step_pure mt (pu_assign rfl) rfl (fun a mt => ?_)
  refine w_nil ?_
  refine w_rs ?_
  refine step_pure mt (pu_fld 0 K.fl56_0 rfl) rfl (fun a mt => ?_)
  refine step_pure mt (pu_loadM st K.sc4 rfl rfl) rfl (fun a mt => ?_)
  refine step_pure mt (pu_move rfl) rfl (fun a mt => ?_)
  refine step_pure mt (pu_eql rfl rfl) rfl (fun a mt => ?_)
  refine step_pure mt (pu_assign rfl) rfl (fun a mt => ?_)
  refine step_pure mt (pu_assign rfl) rfl (fun a mt => ?_)
  refine w_nil ?_
  refine w_ret ?_
  refine post_ret2 mt rfl rfl rfl ?_
  exact ⟨_, rfl, st.below, by rw [hb, ← he]⟩
def modI (x : Int) (n : Nat) : Nat := (IntKind.u64.wrap x).toNat % n
theorem modI_lt (x : Int) {n : Nat} (h : 0 < n) : modI x n < n := Nat.mod_lt _ h
theorem u64_nonneg (x : Int) : 0 ≤ IntKind.u64.wrap x := by
  have : (Lit.int .u64 (IntKind.u64.wrap x)).wf = true := wf_wrap _ _
  simp [Lit.wf, IntKind.min, IntKind.max, IntKind.signed, IntKind.bits] at this
  omega
theorem mod_ok (x : Int) (n : Nat) (hn : 0 < n) (hn2 : n ≤ 1000000) (w : World) : CallsX Tryd.prog 23 #[.int .i64 x, .int .i64 n] w fun v _ => v = .int .i64 (modI x n) := by
  have st := St.start (w0 := w) (I0 := hp w) (Sub.refl _)
  have h0 := u64_nonneg x
  have e8 : IntKind.u64.wrap (n : Int) = (n : Int) := by
    simp only [IntKind.wrap, IntKind.signed, IntKind.bits]
    simp
    omega
  have hlt := modI_lt x hn
  have e9 : (IntKind.u64.wrap x).tmod (n : Int) = ((modI x n : Nat) : Int) := by
    rw [Int.tmod_eq_emod_of_nonneg h0]
    unfold modI
    rw [Int.natCast_emod, Int.toNat_of_nonneg h0]
  refine CallsX.of (nn := 11) Tryd.func23 rfl rfl rfl (fun a mt => ?_)
  refine w_rs ?_
  refine step_pure mt (pu_assign rfl) rfl (fun a mt => ?_)
  refine w_nil ?_
  refine w_rs ?_
  refine step_pure mt (pu_move rfl) rfl (fun a mt => ?_)
  refine step_pure mt (pu_conv_int K.un3 K.un77 rfl) rfl (fun a mt => ?_)
  refine step_pure mt (pu_move rfl) rfl (fun a mt => ?_)
  refine step_pure mt ((pu_conv_int K.un3 K.un77 rfl).to (u := .int .u64 n) (by rw [e8])) rfl (fun a mt => ?_)
  refine step_pure mt ((pu_rem rfl rfl (by omega)).to (u := .int .u64 ((modI x n : Nat) : Int)) (by rw [e9])) rfl (fun a mt => ?_)
  refine step_pure mt ((pu_conv_int K.un77 K.un3 rfl).to (u := .int .i64 ((modI x n : Nat) : Int)) (by rw [i64_wrap (by omega)])) rfl (fun a mt => ?_)
  refine step_pure mt (pu_assign rfl) rfl (fun a mt => ?_)
  refine w_nil ?_
  refine w_ret ?_
  refine post_ret1 mt rfl rfl ?_
  exact ⟨_, rfl, st.below, rfl⟩
end Go.Proofs.YtoilfakpgcjjpaaDoor.Log
namespace Go.Proofs.YtoilfakpgcjjpaaDoor.Log
open Go Go.RowKit Go.Proofs.YtoilfakpgcjjpaaDoor Go.Proofs.YtoilfakpgcjjpaaDoor.Eng
set_option linter.unusedVariables false
set_option linter.unusedSimpArgs false
set_option maxRecDepth 100000
theorem ints_ok {I : Hp} (l m : List Int) (va vb : Value) (w : World) (hI : Sub I (hp w)) (ra : RdS I va 1 l.length (l.map intV)) (rb : RdS I vb 1 m.length (m.map intV)) : CallsX Tryd.prog 28 #[va, vb] w fun v _ => v = .bool (decide (l = m)) := by
  have st := St.start (w0 := w) (I0 := I) hI
  have hmaxa := ra.max
  have hmaxb := rb.max
  unfold maxLen at hmaxa hmaxb
  refine CallsX.of (nn := 26) Tryd.func28 rfl rfl rfl (fun a mt => ?_)
  refine w_rs ?_
  refine step_pure mt (pu_assign rfl) rfl (fun a mt => ?_)
  refine w_nil ?_
  refine w_seq ?_
  refine w_rs ?_
  refine step_pure mt (pu_move rfl) rfl (fun a mt => ?_)
  refine step_pure mt (pu_len_r rfl (st.rdS ra) K.un42) rfl (fun a mt => ?_)
  refine step_pure mt (pu_move rfl) rfl (fun a mt => ?_)
  refine step_pure mt (pu_len_r rfl (st.rdS rb) K.un42) rfl (fun a mt => ?_)
  refine step_pure mt (pu_neq rfl rfl) rfl (fun a mt => ?_)
  refine w_nil ?_
  refine w_cond mt rfl (fun h10 => ?_) (fun h10 => ?_)
  · refine w_rs ?_
    refine step_pure mt (pu_assign rfl) rfl (fun a mt => ?_)
    refine w_nil ?_
    refine w_ret (x_then_ret ?_)
    refine post_ret1 mt rfl rfl ?_
    exact ⟨_, rfl, st.below, by rw [decide_eq_false (fun h => by rw [h] at h10; exact h10 rfl)]⟩
  · have hlm : l.length = m.length := by omega
    refine w_skip ?_
    refine x_then_n ?_
    refine w_seq ?_
    refine w_rs ?_
    refine step_pure mt (pu_assign rfl) rfl (fun a mt => ?_)
    refine w_nil ?_
    refine w_block ?_
    refine w_loop (ι := Nat) (fun k a w' => k ≤ l.length ∧ l.take k = m.take k ∧ ∃ I', Mt 26 a [(0, va), (1, vb), (5, .int .i64 k)] ∧ Sub I I' ∧ St [] w I w' I' []) (fun k => l.length - k) 0
      ⟨Nat.zero_le _, rfl, _, mt.sub ⟨rfl, rfl, rfl, trivial⟩, Sub.refl _, st⟩ (fun k a w' hI' => ?_)
    obtain ⟨hk, he, I', mt, hs, st⟩ := hI'
    have ra' := ra.mono hs
    have rb' := rb.mono hs
    refine w_seq ?_
    refine w_rs ?_
    refine step_pure mt (pu_move rfl) rfl (fun a mt => ?_)
    refine step_pure mt (pu_move rfl) rfl (fun a mt => ?_)
    refine step_pure mt (pu_len_r rfl (st.rdS ra') K.un42) rfl (fun a mt => ?_)
    refine step_pure mt (pu_lss rfl rfl) rfl (fun a mt => ?_)
    refine w_nil ?_
    refine w_cond mt rfl (fun h14 => ?_) (fun h14 => ?_)
    · have hkl : k < l.length := by omega
      have hkm : k < m.length := by omega
      have hx : l[k]? = some l[k] := List.getElem?_eq_getElem hkl
      have hy : m[k]? = some m[k] := List.getElem?_eq_getElem hkm
      generalize l[k] = x at hx
      generalize m[k] = y at hy
      have hux : (l.map intV)[((k : Nat) : Int).toNat]? = some (.int .i64 x) := by simp [hx, intV]
      have huy : (m.map intV)[((k : Nat) : Int).toNat]? = some (.int .i64 y) := by simp [hy, intV]
      refine w_skip ?_
      refine x_then_n ?_
      refine w_seq ?_
      refine w_block ?_
      refine w_drs K.mixed rfl mt ?_
      refine mo_pure (pu_move rfl) ?_
      refine mo_pure (pu_move rfl) ?_
      refine mo_pure (pu_ia (m := l.length) (i := k) K.el42 (by decide) rfl ra' rfl (by omega) (by omega)) ?_
      refine mo_pure (pu_loadR st K.sc3 ra' rfl hux) ?_
      refine mo_pure (pu_move rfl) ?_
      refine mo_pure (pu_move rfl) ?_
      refine mo_pure (pu_ia (m := m.length) (i := k) K.el42 (by decide) rfl rb' rfl (by omega) (by omega)) ?_
      refine mo_pure (pu_loadR st K.sc3 rb' rfl huy) ?_
      refine mo_pure (pu_neq rfl rfl) ?_
      refine mo_end (fun a w' mt pr hb => ?_)
      have hIx := Iext_sub st.agr w'
      replace st := st.extI hb
      refine w_cond mt rfl (fun h25 => ?_) (fun h25 => ?_)
      · refine w_rs ?_
        refine step_pure mt (pu_assign rfl) rfl (fun a mt => ?_)
        refine w_nil ?_
        refine w_ret (x_block_ret (x_then_ret (x_then_ret (x_block_ret (x_then_ret ?_)))))
        refine post_ret1 mt rfl rfl ?_
        exact ⟨_, rfl, st.below, by rw [decide_eq_false (fun h => by subst h; rw [hx] at hy; exact h25 (Option.some.inj hy))]⟩
      · have hxy : x = y := by omega
        refine w_skip ?_
        refine x_block_n ?_
        refine x_then_n ?_
        refine w_region ?_
        refine step_pure mt (pu_move rfl) rfl (fun a mt => ?_)
        refine step_pure mt (pu_add_i rfl rfl (by omega)) rfl (fun a mt => ?_)
        refine step_pure mt (pu_assign rfl) rfl (fun a mt => ?_)
        refine w_nil' ?_
        refine x_then_n ?_
        exact ⟨k + 1, ⟨by omega, by rw [List.take_add_one, List.take_add_one, he, hx, hy, hxy], _, mt.sub ⟨rfl, rfl, rfl, trivial⟩, hs.trans hIx, st⟩, by omega⟩
    · have hkl : k = l.length := by omega
      refine w_exit (x_then_exit (x_then_exit (x_block_out ?_)))
      refine x_then_n ?_
      refine w_rs ?_
      refine step_pure mt (pu_assign rfl) rfl (fun a mt => ?_)
      refine w_nil ?_
      refine w_ret ?_
      refine post_ret1 mt rfl rfl ?_
      exact ⟨_, rfl, st.below, by rw [decide_eq_true (by rw [← List.take_length (l := l), ← hkl, he, hkl, hlm, List.take_length])]⟩
def asc (l : List Int) : Prop := ∀ i x y, l[i]? = some x → l[i + 1]? = some y → x < y
theorem asc_lt {l : List Int} (h : asc l) : ∀ (n i : Nat) (x y : Int), l[i]? = some x → l[i + n + 1]? = some y → x < y
  | 0, i, x, y, hx, hy => h i x y hx hy
  | n + 1, i, x, y, hx, hy => by
    have hl : i + (n + 1) < l.length := by have := (List.getElem?_eq_some_iff.1 hy).1; omega
    have hz : l[i + n + 1]? = some (l[i + n + 1]'(by omega)) := List.getElem?_eq_getElem (by omega)
    have h1 := asc_lt h n i x _ hx hz
    have h2 := h (i + n + 1) _ y hz hy
    omega
/-- an element of an ascending list that is greater than all in front of k and less than the k-th is none -/
theorem asc_not {l : List Int} (h : asc l) {k : Nat} {x : Int} (hb : ∀ j y, j < k → l[j]? = some y → y < x) (hk : ∀ y, l[k]? = some y → x < y) : ¬ x ∈ l := by
  intro hm
  obtain ⟨j, hj⟩ := List.getElem?_of_mem hm
  rcases Nat.lt_trichotomy j k with h1 | h1 | h1
  · have := hb j x h1 hj; omega
  · subst h1; have := hk x hj; omega
  · have hjl := (List.getElem?_eq_some_iff.1 hj).1
    have hkk : l[k]? = some (l[k]'(by omega)) := List.getElem?_eq_getElem (by omega)
    have h2 := hk _ hkk
    obtain ⟨n, rfl⟩ : ∃ n, j = k + n + 1 := ⟨j - k - 1, by omega⟩
    have := asc_lt h n k _ x hkk hj
    omega
theorem inside_ok {I : Hp} (l m : List Int) (va vb : Value) (w : World) (hI : Sub I (hp w)) (ra : RdS I va 1 l.length (l.map intV)) (rb : RdS I vb 1 m.length (m.map intV)) (al : asc l) (am : asc m) : CallsX Tryd.prog 43 #[va, vb] w fun v _ => v = .bool (l.all fun x => decide (x ∈ m)) := by
  have st := St.start (w0 := w) (I0 := I) hI
  have hmaxa := ra.max
  have hmaxb := rb.max
  unfold maxLen at hmaxa hmaxb
  refine CallsX.of (nn := 45) Tryd.func43 rfl rfl rfl (fun a mt => ?_)
  refine w_rs ?_
  refine step_pure mt (pu_assign rfl) rfl (fun a mt => ?_)
  refine w_nil ?_
  refine w_rs ?_
  refine step_pure mt (pu_assign rfl) rfl (fun a mt => ?_)
  refine w_nil ?_
  refine w_seq ?_
  refine w_rs ?_
  refine step_pure mt (pu_assign rfl) rfl (fun a mt => ?_)
  refine w_nil ?_
  refine w_block ?_
  refine w_loop (ι := Nat × Nat) (fun p a w' => p.1 ≤ l.length ∧ p.2 ≤ m.length ∧ (∀ j y x, j < p.2 → m[j]? = some y → l[p.1]? = some x → y < x) ∧ (∀ x ∈ l.take p.1, x ∈ m) ∧ ∃ I', Mt 45 a [(0, va), (1, vb), (5, .int .i64 p.2), (6, .int .i64 p.1)] ∧ Sub I I' ∧ St [] w I w' I' []) (fun p => l.length - p.1) (0, 0)
    ⟨Nat.zero_le _, Nat.zero_le _, fun j y x h => absurd h (by omega), fun x h => by simp at h, _, mt.sub ⟨rfl, rfl, rfl, rfl, trivial⟩, Sub.refl _, st⟩ (fun p a w' hI' => ?_)
  obtain ⟨i, k0⟩ := p
  obtain ⟨hi, hk0, hlt0, hall, I0', mt, hs0, st⟩ := hI'
  simp only at hi hk0 hlt0 hall mt st
  have ra0 := ra.mono hs0
  refine w_seq ?_
  refine w_rs ?_
  refine step_pure mt (pu_move rfl) rfl (fun a mt => ?_)
  refine step_pure mt (pu_move rfl) rfl (fun a mt => ?_)
  refine step_pure mt (pu_len_r rfl (st.rdS ra0) K.un42) rfl (fun a mt => ?_)
  refine step_pure mt (pu_lss rfl rfl) rfl (fun a mt => ?_)
  refine w_nil ?_
  refine w_cond mt rfl (fun h10 => ?_) (fun h10 => ?_)
  · have hil : i < l.length := by omega
    have hx : l[i]? = some l[i] := List.getElem?_eq_getElem hil
    generalize l[i] = x at hx
    have hux : (l.map intV)[((i : Nat) : Int).toNat]? = some (.int .i64 x) := by simp [hx, intV]
    have hlt1 : ∀ j y, j < k0 → m[j]? = some y → y < x := fun j y h1 h2 => hlt0 j y x h1 h2 hx
    refine w_skip ?_
    refine x_then_n ?_
    refine w_seq ?_
    refine w_block ?_
    refine w_seq ?_
    refine w_block ?_
    refine w_loop (ι := Nat) (fun k a w' => k ≤ m.length ∧ (∀ j y, j < k → m[j]? = some y → y < x) ∧ ∃ I', Mt 45 a [(0, va), (1, vb), (5, .int .i64 k), (6, .int .i64 i)] ∧ Sub I I' ∧ St [] w I w' I' []) (fun k => m.length - k) k0
      ⟨hk0, hlt1, _, mt.sub ⟨rfl, rfl, rfl, rfl, trivial⟩, hs0, st⟩ (fun k a w' hI' => ?_)
    obtain ⟨hk, hlt, I', mt, hs, st⟩ := hI'
    have ra' := ra.mono hs
    have rb' := rb.mono hs
    refine w_seq ?_
    by_cases d17 : (k : Int) < m.length
    · have hkm : k < m.length := by omega
      have hy : m[k]? = some m[k] := List.getElem?_eq_getElem hkm
      generalize m[k] = y at hy
      have huy : (m.map intV)[((k : Nat) : Int).toNat]? = some (.int .i64 y) := by simp [hy, intV]
      refine w_drs K.mixed rfl mt ?_
      refine mo_pure (pu_move rfl) ?_
      refine mo_pure (pu_move rfl) ?_
      refine mo_pure (pu_len_r rfl (st.rdS rb') K.un42) ?_
      refine mo_pure (pu_lss rfl rfl) ?_
      refine mo_pure ((pu_move rfl).tob (decide_eq_true d17)) ?_
      refine mo_pure_g rfl rfl (pu_move rfl) ?_
      refine mo_pure_g rfl rfl (pu_move rfl) ?_
      refine mo_pure_g rfl rfl (pu_ia (m := m.length) (i := k) K.el42 (by decide) rfl rb' rfl (by omega) (by omega)) ?_
      refine mo_pure_g rfl rfl (pu_loadR st K.sc3 rb' rfl huy) ?_
      refine mo_pure_g rfl rfl (pu_move rfl) ?_
      refine mo_pure_g rfl rfl (pu_move rfl) ?_
      refine mo_pure_g rfl rfl (pu_ia (m := l.length) (i := i) K.el42 (by decide) rfl ra' rfl (by omega) (by omega)) ?_
      refine mo_pure_g rfl rfl (pu_loadR st K.sc3 ra' rfl hux) ?_
      refine mo_pure_g rfl rfl (pu_lss rfl rfl) ?_
      refine mo_pure (pu_pick rfl rfl) ?_
      refine mo_end (fun a w' mt pr hb => ?_)
      have hIx := Iext_sub st.agr w'
      replace st := st.extI hb
      replace ra' := ra'.mono hIx
      replace rb' := rb'.mono hIx
      replace hs := hs.trans hIx
      refine w_cond mt rfl (fun h27 => ?_) (fun h27 => ?_)
      · refine w_skip ?_
        refine x_then_n ?_
        refine w_block ?_
        refine w_region ?_
        refine step_pure mt (pu_move rfl) rfl (fun a mt => ?_)
        refine step_pure mt (pu_add_i rfl rfl (by omega)) rfl (fun a mt => ?_)
        refine step_pure mt (pu_assign rfl) rfl (fun a mt => ?_)
        refine w_nil' ?_
        refine x_block_n ?_
        refine x_then_n ?_
        refine ⟨k + 1, ⟨by omega, fun j z h1 h2 => ?_, _, mt.sub ⟨rfl, rfl, rfl, rfl, trivial⟩, hs, st⟩, by omega⟩
        have hjk : j < k ∨ j = k := by omega
        rcases hjk with h | rfl
        · exact hlt j z h h2
        · rw [hy] at h2; cases h2; omega
      · refine w_exit (x_then_exit (x_then_exit (x_block_out ?_)))
        refine x_then_n ?_
        by_cases d34 : (k : Int) = m.length
        · refine w_drs K.mixed rfl mt ?_
          refine mo_pure (pu_move rfl) ?_
          refine mo_pure (pu_move rfl) ?_
          refine mo_pure (pu_len_r rfl (st.rdS rb') K.un42) ?_
          refine mo_pure (pu_eql rfl rfl) ?_
          refine mo_pure ((pu_move rfl).tob (decide_eq_true d34)) ?_
          refine mo_skip_g rfl rfl rfl ?_
          refine mo_skip_g rfl rfl rfl ?_
          refine mo_skip_g rfl rfl rfl ?_
          refine mo_skip_g rfl rfl rfl ?_
          refine mo_skip_g rfl rfl rfl ?_
          refine mo_skip_g rfl rfl rfl ?_
          refine mo_skip_g rfl rfl rfl ?_
          refine mo_skip_g rfl rfl rfl ?_
          refine mo_skip_g rfl rfl rfl ?_
          refine mo_pure (pu_pick rfl rfl) ?_
          refine mo_end (fun a w' mt pr hb => ?_)
          have hIx := Iext_sub st.agr w'
          replace st := st.extI hb
          refine w_true mt rfl ?_
          refine w_rs ?_
          refine step_pure mt (pu_assign rfl) rfl (fun a mt => ?_)
          refine w_nil ?_
          refine w_ret (x_block_ret (x_then_ret (x_then_ret (x_block_ret (x_then_ret ?_)))))
          refine post_ret1 mt rfl rfl ?_
          have hno : ¬ x ∈ m := asc_not am hlt (fun z hz => by
            first
            | (have := (List.getElem?_eq_some_iff.1 hz).1; omega)
            | (rw [hy2] at hz; rw [hy2] at hy; cases hz; cases hy; omega))
          exact ⟨_, rfl, st.below, by rw [show (l.all fun x => decide (x ∈ m)) = false from List.all_eq_false.2 ⟨x, List.mem_of_getElem? hx, by simpa using hno⟩]⟩
        · have hkm2 : k < m.length := by omega
          have hy2 : m[k]? = some m[k] := List.getElem?_eq_getElem hkm2
          generalize m[k] = y2 at hy2
          have huy2 : (m.map intV)[((k : Nat) : Int).toNat]? = some (.int .i64 y2) := by simp [hy2, intV]
          refine w_drs K.mixed rfl mt ?_
          refine mo_pure (pu_move rfl) ?_
          refine mo_pure (pu_move rfl) ?_
          refine mo_pure (pu_len_r rfl (st.rdS rb') K.un42) ?_
          refine mo_pure (pu_eql rfl rfl) ?_
          refine mo_pure ((pu_move rfl).tob (decide_eq_false d34)) ?_
          refine mo_pure_g rfl rfl (pu_move rfl) ?_
          refine mo_pure_g rfl rfl (pu_move rfl) ?_
          refine mo_pure_g rfl rfl (pu_ia (m := m.length) (i := k) K.el42 (by decide) rfl rb' rfl (by omega) (by omega)) ?_
          refine mo_pure_g rfl rfl (pu_loadR st K.sc3 rb' rfl huy2) ?_
          refine mo_pure_g rfl rfl (pu_move rfl) ?_
          refine mo_pure_g rfl rfl (pu_move rfl) ?_
          refine mo_pure_g rfl rfl (pu_ia (m := l.length) (i := i) K.el42 (by decide) rfl ra' rfl (by omega) (by omega)) ?_
          refine mo_pure_g rfl rfl (pu_loadR st K.sc3 ra' rfl hux) ?_
          refine mo_pure_g rfl rfl (pu_neq rfl rfl) ?_
          refine mo_pure (pu_pick rfl rfl) ?_
          refine mo_end (fun a w' mt pr hb => ?_)
          have hIx := Iext_sub st.agr w'
          replace st := st.extI hb
          refine w_cond mt rfl (fun h44 => ?_) (fun h44 => ?_)
          · refine w_rs ?_
            refine step_pure mt (pu_assign rfl) rfl (fun a mt => ?_)
            refine w_nil ?_
            refine w_ret (x_block_ret (x_then_ret (x_then_ret (x_block_ret (x_then_ret ?_)))))
            refine post_ret1 mt rfl rfl ?_
            have hno : ¬ x ∈ m := asc_not am hlt (fun z hz => by
              first
              | (have := (List.getElem?_eq_some_iff.1 hz).1; omega)
              | (rw [hy2] at hz; rw [hy2] at hy; cases hz; cases hy; omega))
            exact ⟨_, rfl, st.below, by rw [show (l.all fun x => decide (x ∈ m)) = false from List.all_eq_false.2 ⟨x, List.mem_of_getElem? hx, by simpa using hno⟩]⟩
          · have hyx : y2 = x := by omega
            refine w_skip ?_
            refine x_block_n ?_
            refine x_then_n ?_
            refine w_region ?_
            refine step_pure mt (pu_move rfl) rfl (fun a mt => ?_)
            refine step_pure mt (pu_add_i rfl rfl (by omega)) rfl (fun a mt => ?_)
            refine step_pure mt (pu_assign rfl) rfl (fun a mt => ?_)
            refine w_nil' ?_
            refine x_then_n ?_
            refine ⟨(i + 1, k), ⟨by simp only; omega, hk, fun j y' x' h1 h2 h3 => ?_, fun z hz => ?_, _, mt.sub ⟨rfl, rfl, rfl, rfl, trivial⟩, hs.trans hIx, st⟩, by simp only; omega⟩
            · have h4 := hlt j y' h1 h2
              have h5 := al i x x' hx h3
              omega
            · simp only at hz
              rw [List.take_add_one, hx] at hz
              rcases List.mem_append.1 hz with h | h
              · exact hall z h
              · simp at h; subst h; rw [← hyx]; exact List.mem_of_getElem? hy2
    · refine w_drs K.mixed rfl mt ?_
      refine mo_pure (pu_move rfl) ?_
      refine mo_pure (pu_move rfl) ?_
      refine mo_pure (pu_len_r rfl (st.rdS rb') K.un42) ?_
      refine mo_pure (pu_lss rfl rfl) ?_
      refine mo_pure ((pu_move rfl).tob (decide_eq_false d17)) ?_
      refine mo_skip_g rfl rfl rfl ?_
      refine mo_skip_g rfl rfl rfl ?_
      refine mo_skip_g rfl rfl rfl ?_
      refine mo_skip_g rfl rfl rfl ?_
      refine mo_skip_g rfl rfl rfl ?_
      refine mo_skip_g rfl rfl rfl ?_
      refine mo_skip_g rfl rfl rfl ?_
      refine mo_skip_g rfl rfl rfl ?_
      refine mo_skip_g rfl rfl rfl ?_
      refine mo_pure (pu_pick rfl rfl) ?_
      refine mo_end (fun a w' mt pr hb => ?_)
      have hIx := Iext_sub st.agr w'
      replace st := st.extI hb
      replace ra' := ra'.mono hIx
      replace rb' := rb'.mono hIx
      replace hs := hs.trans hIx
      refine w_false mt rfl ?_
      refine w_exit (x_then_exit (x_then_exit (x_block_out ?_)))
      refine x_then_n ?_
      by_cases d34 : (k : Int) = m.length
      · refine w_drs K.mixed rfl mt ?_
        refine mo_pure (pu_move rfl) ?_
        refine mo_pure (pu_move rfl) ?_
        refine mo_pure (pu_len_r rfl (st.rdS rb') K.un42) ?_
        refine mo_pure (pu_eql rfl rfl) ?_
        refine mo_pure ((pu_move rfl).tob (decide_eq_true d34)) ?_
        refine mo_skip_g rfl rfl rfl ?_
        refine mo_skip_g rfl rfl rfl ?_
        refine mo_skip_g rfl rfl rfl ?_
        refine mo_skip_g rfl rfl rfl ?_
        refine mo_skip_g rfl rfl rfl ?_
        refine mo_skip_g rfl rfl rfl ?_
        refine mo_skip_g rfl rfl rfl ?_
        refine mo_skip_g rfl rfl rfl ?_
        refine mo_skip_g rfl rfl rfl ?_
        refine mo_pure (pu_pick rfl rfl) ?_
        refine mo_end (fun a w' mt pr hb => ?_)
        have hIx := Iext_sub st.agr w'
        replace st := st.extI hb
        refine w_true mt rfl ?_
        refine w_rs ?_
        refine step_pure mt (pu_assign rfl) rfl (fun a mt => ?_)
        refine w_nil ?_
        refine w_ret (x_block_ret (x_then_ret (x_then_ret (x_block_ret (x_then_ret ?_)))))
        refine post_ret1 mt rfl rfl ?_
        have hno : ¬ x ∈ m := asc_not am hlt (fun z hz => by
          first
          | (have := (List.getElem?_eq_some_iff.1 hz).1; omega)
          | (rw [hy2] at hz; rw [hy2] at hy; cases hz; cases hy; omega))
        exact ⟨_, rfl, st.below, by rw [show (l.all fun x => decide (x ∈ m)) = false from List.all_eq_false.2 ⟨x, List.mem_of_getElem? hx, by simpa using hno⟩]⟩
      · have hkm2 : k < m.length := by omega
        have hy2 : m[k]? = some m[k] := List.getElem?_eq_getElem hkm2
        generalize m[k] = y2 at hy2
        have huy2 : (m.map intV)[((k : Nat) : Int).toNat]? = some (.int .i64 y2) := by simp [hy2, intV]
        refine w_drs K.mixed rfl mt ?_
        refine mo_pure (pu_move rfl) ?_
        refine mo_pure (pu_move rfl) ?_
        refine mo_pure (pu_len_r rfl (st.rdS rb') K.un42) ?_
        refine mo_pure (pu_eql rfl rfl) ?_
        refine mo_pure ((pu_move rfl).tob (decide_eq_false d34)) ?_
        refine mo_pure_g rfl rfl (pu_move rfl) ?_
        refine mo_pure_g rfl rfl (pu_move rfl) ?_
        refine mo_pure_g rfl rfl (pu_ia (m := m.length) (i := k) K.el42 (by decide) rfl rb' rfl (by omega) (by omega)) ?_
        refine mo_pure_g rfl rfl (pu_loadR st K.sc3 rb' rfl huy2) ?_
        refine mo_pure_g rfl rfl (pu_move rfl) ?_
        refine mo_pure_g rfl rfl (pu_move rfl) ?_
        refine mo_pure_g rfl rfl (pu_ia (m := l.length) (i := i) K.el42 (by decide) rfl ra' rfl (by omega) (by omega)) ?_
        refine mo_pure_g rfl rfl (pu_loadR st K.sc3 ra' rfl hux) ?_
        refine mo_pure_g rfl rfl (pu_neq rfl rfl) ?_
        refine mo_pure (pu_pick rfl rfl) ?_
        refine mo_end (fun a w' mt pr hb => ?_)
        have hIx := Iext_sub st.agr w'
        replace st := st.extI hb
        refine w_cond mt rfl (fun h44 => ?_) (fun h44 => ?_)
        · refine w_rs ?_
          refine step_pure mt (pu_assign rfl) rfl (fun a mt => ?_)
          refine w_nil ?_
          refine w_ret (x_block_ret (x_then_ret (x_then_ret (x_block_ret (x_then_ret ?_)))))
          refine post_ret1 mt rfl rfl ?_
          have hno : ¬ x ∈ m := asc_not am hlt (fun z hz => by
            first
            | (have := (List.getElem?_eq_some_iff.1 hz).1; omega)
            | (rw [hy2] at hz; rw [hy2] at hy; cases hz; cases hy; omega))
          exact ⟨_, rfl, st.below, by rw [show (l.all fun x => decide (x ∈ m)) = false from List.all_eq_false.2 ⟨x, List.mem_of_getElem? hx, by simpa using hno⟩]⟩
        · have hyx : y2 = x := by omega
          refine w_skip ?_
          refine x_block_n ?_
          refine x_then_n ?_
          refine w_region ?_
          refine step_pure mt (pu_move rfl) rfl (fun a mt => ?_)
          refine step_pure mt (pu_add_i rfl rfl (by omega)) rfl (fun a mt => ?_)
          refine step_pure mt (pu_assign rfl) rfl (fun a mt => ?_)
          refine w_nil' ?_
          refine x_then_n ?_
          refine ⟨(i + 1, k), ⟨by simp only; omega, hk, fun j y' x' h1 h2 h3 => ?_, fun z hz => ?_, _, mt.sub ⟨rfl, rfl, rfl, rfl, trivial⟩, hs.trans hIx, st⟩, by simp only; omega⟩
          · have h4 := hlt j y' h1 h2
            have h5 := al i x x' hx h3
            omega
          · simp only at hz
            rw [List.take_add_one, hx] at hz
            rcases List.mem_append.1 hz with h | h
            · exact hall z h
            · simp at h; subst h; rw [← hyx]; exact List.mem_of_getElem? hy2
  · have hie : l.take i = l := List.take_of_length_le (by omega)
    refine w_exit (x_then_exit (x_then_exit (x_block_out ?_)))
    refine x_then_n ?_
    refine w_rs ?_
    refine step_pure mt (pu_assign rfl) rfl (fun a mt => ?_)
    refine w_nil ?_
    refine w_ret ?_
    refine post_ret1 mt rfl rfl ?_
    exact ⟨_, rfl, st.below, by rw [show (l.all fun x => decide (x ∈ m)) = true from List.all_eq_true.2 fun x hx => by simpa using hall x (by rw [hie]; exact hx)]⟩
end Go.Proofs.YtoilfakpgcjjpaaDoor.Log
namespace Go.Proofs.YtoilfakpgcjjpaaDoor.Log
open Go Go.RowKit Go.Proofs.YtoilfakpgcjjpaaDoor Go.Proofs.YtoilfakpgcjjpaaDoor.Eng
set_option linter.unusedVariables false
set_option linter.unusedSimpArgs false
set_option maxRecDepth 100000
section
variable {P : Program} {Q : Exit → Act → World → Prop} {w1 : World} {n : Nat} {B : List (Nat × Value)} {ops : Array Oper} {rest : List Oper}
  {d : Nat} {op : Op} {ty : TypeId} {pos : String} {af : Array Edge}
theorem mo_skip_u {i : Nat} {acc : Acc} {j t : Nat} {b : Bool} (hj : (ops[j]?).bind (·.dst) = some t) (ht : Eng.look (app (knownA (depsOf ⟨some d, op, ty, pos, af, some (j, b)⟩) acc) B) t = some undef)
    (k : MonoL P ops Q n w1 B (i + 1) rest ((i, d, .ex undef) :: acc)) : MonoL P ops Q n w1 B i (⟨some d, op, ty, pos, af, some (j, b)⟩ :: rest) acc :=
  ⟨.ex undef, trivial, fun a w mt _ hb K hK => by
    have hy : yielded ops a.tmps j = none := by
      have := mt.at_ t _ ht
      unfold yielded
      rw [hj]
      simp only [Option.bind_some]
      rw [Array.getD_eq_getD_getElem?] at this
      cases hq : a.tmps[t]? with
      | none => rfl
      | some u => rw [hq] at this; simp at this; rw [this]; rfl
    unfold stepO
    rw [if_neg (by cases b <;> simp [Region.wanted, hy])]
    exact hK undef w (Below.refl _ _) rfl, k⟩
end
theorem mdG1_rows {ab : List (List Int)} {mk : List Int} (hdone : ∀ i, i < ab.length → mdG1 ab mk i = true) {k : Nat} {l : List Int} (hk : k < ab.length) (hl : ab[k]? = some l) : ∀ i, i < l.length → rowG ab.length l i = true := fun i hi => by
  have h1k := hdone k hk
  unfold mdG1 at h1k
  simp only [Bool.and_eq_true] at h1k
  have := h1k.2
  rw [show ab.getD k [] = l by simp [hl]] at this
  exact range_all_get this hi
theorem rows_asc {n : Nat} {l : List Int} (h : ∀ i, i < l.length → rowG n l i = true) : asc l := fun i x y hx hy => by
  have h1 := h (i + 1) (List.getElem?_eq_some_iff.1 hy).1
  unfold rowG at h1
  simp only [Bool.and_eq_true, Bool.or_eq_true, decide_eq_true_eq, Nat.add_sub_cancel] at h1
  rw [show l.getD (i + 1) 0 = y by simp [hy], show l.getD i 0 = x by simp [hx]] at h1
  omega
theorem all_not_any (l2 l : List Int) : (l2.all fun u => decide (u ∈ l)) = !(l2.any fun u => !decide (u ∈ l)) := by
  rw [Bool.eq_iff_iff]; simp
theorem mem_snoc {l : List Int} {i : Nat} {x : Int} {k : Int} (hx : l[i]? = some x) : k ∈ l.take (i + 1) ↔ k ∈ l.take i ∨ x = k := by
  rw [List.take_add_one, hx]; simp [eq_comm]
theorem Model_ok {I : Hp} (ab : List (List Int)) (mk : List Int) (mv : Value) (w : World) (hI : Sub I (hp w)) (hm : ModV I ab mk mv) :
    CallsX Tryd.prog 26 #[mv] w fun v _ => v = .bool (isModF ab mk) := by
  obtain ⟨va, vm, rows, rfl, rva, rrow, rvm⟩ := hm
  obtain ⟨aad, acc0, rfl, _⟩ := rva.len
  obtain ⟨mad, mcc, rfl, _⟩ := rvm.len
  have hrl : rows.length = ab.length := by have := rva.nlen; exact this
  have hmaxa := rva.max
  have hmaxm := rvm.max
  unfold maxLen at hmaxa hmaxm
  have st := St.start (w0 := w) (I0 := I) hI
  refine CallsX.of (nn := 146) Tryd.func26 rfl rfl rfl (fun a mt => ?_)
  refine w_rs ?_
  refine step_alloc mt st (al_box rfl rfl) rfl (fun a w' b1 mt st => ?_)
  refine step_pure mt (pu_assign rfl) rfl (fun a mt => ?_)
  refine w_nil ?_
  refine w_rs ?_
  refine step_pure mt (pu_fld 0 K.fl44_0 rfl) rfl (fun a mt => ?_)
  refine step_pure mt (pu_loadM st K.sc41 rfl rfl) rfl (fun a mt => ?_)
  refine step_pure mt (pu_len rfl K.un41) rfl (fun a mt => ?_)
  refine step_pure mt (pu_assign rfl) rfl (fun a mt => ?_)
  refine w_nil ?_
  refine w_seq ?_
  refine w_rs ?_
  refine step_pure mt (pu_move rfl) rfl (fun a mt => ?_)
  refine step_pure mt (pu_lss rfl rfl) rfl (fun a mt => ?_)
  refine step_pure mt (pu_move rfl) rfl (fun a mt => ?_)
  refine split_p 16 mt rfl (fun g16 mt => ?_) (fun g16 mt => ?_)
  · refine step_skip_g mt rfl rfl rfl rfl (fun a mt => ?_)
    refine step_skip_g mt rfl rfl rfl rfl (fun a mt => ?_)
    refine step_pure mt (pu_pick rfl rfl) rfl (fun a mt => ?_)
    refine step_pure mt (pu_move rfl) rfl (fun a mt => ?_)
    refine step_skip_g mt rfl rfl rfl rfl (fun a mt => ?_)
    refine step_skip_g mt rfl rfl rfl rfl (fun a mt => ?_)
    refine step_skip_g mt rfl rfl rfl rfl (fun a mt => ?_)
    refine step_skip_g mt rfl rfl rfl rfl (fun a mt => ?_)
    refine step_skip_g mt rfl rfl rfl rfl (fun a mt => ?_)
    refine step_pure mt (pu_pick rfl rfl) rfl (fun a mt => ?_)
    refine w_nil ?_
    refine w_true mt rfl ?_
    refine w_rs ?_
    refine step_pure mt (pu_assign rfl) rfl (fun a mt => ?_)
    refine w_nil ?_
    refine w_ret (x_then_ret ?_)
    refine post_ret1 mt rfl rfl ?_
    exact ⟨_, rfl, st.below, by unfold isModF; simp; omega⟩
  · refine step_pure_g mt rfl rfl (pu_move rfl) rfl (fun a mt => ?_)
    refine step_pure_g mt rfl rfl (pu_gtr rfl rfl) rfl (fun a mt => ?_)
    refine step_pure mt (pu_pick rfl rfl) rfl (fun a mt => ?_)
    refine step_pure mt (pu_move rfl) rfl (fun a mt => ?_)
    refine split_p 20 mt rfl (fun g20 mt => ?_) (fun g20 mt => ?_)
    · refine step_skip_g mt rfl rfl rfl rfl (fun a mt => ?_)
      refine step_skip_g mt rfl rfl rfl rfl (fun a mt => ?_)
      refine step_skip_g mt rfl rfl rfl rfl (fun a mt => ?_)
      refine step_skip_g mt rfl rfl rfl rfl (fun a mt => ?_)
      refine step_skip_g mt rfl rfl rfl rfl (fun a mt => ?_)
      refine step_pure mt (pu_pick rfl rfl) rfl (fun a mt => ?_)
      refine w_nil ?_
      refine w_true mt rfl ?_
      refine w_rs ?_
      refine step_pure mt (pu_assign rfl) rfl (fun a mt => ?_)
      refine w_nil ?_
      refine w_ret (x_then_ret ?_)
      refine post_ret1 mt rfl rfl ?_
      exact ⟨_, rfl, st.below, by unfold isModF; simp; omega⟩
    · refine step_pure_g mt rfl rfl (pu_fld 1 K.fl44_1 rfl) rfl (fun a mt => ?_)
      refine step_pure_g mt rfl rfl (pu_loadM st K.sc42 rfl rfl) rfl (fun a mt => ?_)
      refine step_pure_g mt rfl rfl (pu_len rfl K.un42) rfl (fun a mt => ?_)
      refine step_pure_g mt rfl rfl (pu_move rfl) rfl (fun a mt => ?_)
      refine step_pure_g mt rfl rfl (pu_neq rfl rfl) rfl (fun a mt => ?_)
      refine step_pure mt (pu_pick rfl rfl) rfl (fun a mt => ?_)
      refine w_nil ?_
      refine w_cond mt rfl (fun h26 => ?_) (fun h26 => ?_)
      · refine w_rs ?_
        refine step_pure mt (pu_assign rfl) rfl (fun a mt => ?_)
        refine w_nil ?_
        refine w_ret (x_then_ret ?_)
        refine post_ret1 mt rfl rfl ?_
        exact ⟨_, rfl, st.below, by unfold isModF; simp; omega⟩
      · have hn1 : 1 ≤ ab.length := by omega
        have hn2 : ab.length ≤ 4096 := by omega
        have hnm : mk.length = ab.length := by omega
        have hall : isModF ab mk = ((List.range ab.length).all (mdG1 ab mk) && (List.range ab.length).all (mdG2 ab mk)) := by unfold isModF; simp [hn1, hn2, hnm]
        refine w_skip ?_
        refine x_then_n ?_
        refine w_seq ?_
        refine w_rs ?_
        refine step_pure mt (pu_assign rfl) rfl (fun a mt => ?_)
        refine w_nil ?_
        refine w_block ?_
        refine w_loop (ι := Nat) (fun k a w' => k ≤ ab.length ∧ ∃ I' M, Mt 146 a [(1, pv b1), (3, .int .i64 ab.length), (4, .int .i64 k)] ∧ Sub I I' ∧ St [] w I w' I' (.blk b1 (.cells #[.slice aad ab.length acc0, .slice mad mk.length mcc] 44 (0, 0)) :: M) ∧ isModF ab mk = (((List.range ab.length).drop k).all (mdG1 ab mk) && (List.range ab.length).all (mdG2 ab mk)) ∧ ∀ i, i < k → mdG1 ab mk i = true) (fun k => ab.length - k) 0
          ⟨Nat.zero_le _, _, _, mt.sub ⟨rfl, rfl, rfl, trivial⟩, Sub.refl _, st, hall, fun i hi => absurd hi (by omega)⟩ (fun k a w' hI' => ?_)
        obtain ⟨hk, I0', M, mt, hs0, st, hall, hdone⟩ := hI'
        refine w_seq ?_
        refine w_rs ?_
        refine step_pure mt (pu_move rfl) rfl (fun a mt => ?_)
        refine step_pure mt (pu_move rfl) rfl (fun a mt => ?_)
        refine step_pure mt (pu_lss rfl rfl) rfl (fun a mt => ?_)
        refine w_nil ?_
        refine w_cond mt rfl (fun h29 => ?_) (fun h29 => ?_)
        · have hkl : k < ab.length := by omega
          rw [all_drop hkl] at hall
          have hl : ab[k]? = some ab[k] := List.getElem?_eq_getElem hkl
          have hm0 : mk[k]? = some (mk[k]'(by omega)) := List.getElem?_eq_getElem (by omega)
          have hrr : rows[k]? = some (rows[k]'(by omega)) := List.getElem?_eq_getElem (by omega)
          generalize ab[k] = l at hl
          generalize mk[k]'(by omega) = m at hm0
          generalize rows[k]'(by omega) = r at hrr
          have rl := rrow k l r hl hrr
          have hlmax := rl.max
          unfold maxLen at hlmax
          have hum : (mk.map intV)[((k : Nat) : Int).toNat]? = some (.int .i64 m) := by simp [hm0, intV]
          have hur : rows[((k : Nat) : Int).toNat]? = some r := by simp [hrr]
          have hg : mdG1 ab mk k = (decide (0 ≤ m) && decide (m ≤ 15) && (l.any fun y => decide ((k : Int) = y)) && (List.range l.length).all (rowG ab.length l)) := by unfold mdG1; simp [hl, hm0]
          refine w_skip ?_
          refine x_then_n ?_
          refine w_seq ?_
          refine w_block ?_
          refine w_seq ?_
          refine w_rs ?_
          refine step_pure mt (pu_fld 1 K.fl44_1 rfl) rfl (fun a mt => ?_)
          refine step_pure mt (pu_loadM st K.sc42 rfl rfl) rfl (fun a mt => ?_)
          refine step_pure mt (pu_move rfl) rfl (fun a mt => ?_)
          refine step_pure mt (pu_ia (m := mk.length) (i := k) K.el42 (by decide) rfl rvm rfl (by omega) (by omega)) rfl (fun a mt => ?_)
          refine step_pure mt (pu_loadR st K.sc3 (rvm.mono hs0) rfl hum) rfl (fun a mt => ?_)
          refine step_pure mt (pu_lss rfl rfl) rfl (fun a mt => ?_)
          refine step_pure mt (pu_move rfl) rfl (fun a mt => ?_)
          refine split_p 38 mt rfl (fun g38 mt => ?_) (fun g38 mt => ?_)
          · refine step_skip_g mt rfl rfl rfl rfl (fun a mt => ?_)
            refine step_skip_g mt rfl rfl rfl rfl (fun a mt => ?_)
            refine step_skip_g mt rfl rfl rfl rfl (fun a mt => ?_)
            refine step_skip_g mt rfl rfl rfl rfl (fun a mt => ?_)
            refine step_skip_g mt rfl rfl rfl rfl (fun a mt => ?_)
            refine step_skip_g mt rfl rfl rfl rfl (fun a mt => ?_)
            refine step_pure mt (pu_pick rfl rfl) rfl (fun a mt => ?_)
            refine w_nil ?_
            refine w_true mt rfl ?_
            refine w_rs ?_
            refine step_pure mt (pu_assign rfl) rfl (fun a mt => ?_)
            refine w_nil ?_
            refine w_ret (x_then_ret (x_block_ret (x_then_ret (x_then_ret (x_block_ret (x_then_ret ?_))))))
            refine post_ret1 mt rfl rfl ?_
            have hz : mdG1 ab mk k = false := by
              rw [hg]; refine Bool.eq_false_iff.2 fun h => ?_
              simp only [Bool.and_eq_true, decide_eq_true_eq] at h
              omega
            exact ⟨_, rfl, st.below, by rw [hall, hz]; rfl⟩
          · refine step_pure_g mt rfl rfl (pu_fld 1 K.fl44_1 rfl) rfl (fun a mt => ?_)
            refine step_pure_g mt rfl rfl (pu_loadM st K.sc42 rfl rfl) rfl (fun a mt => ?_)
            refine step_pure_g mt rfl rfl (pu_move rfl) rfl (fun a mt => ?_)
            refine step_pure_g mt rfl rfl (pu_ia (m := mk.length) (i := k) K.el42 (by decide) rfl rvm rfl (by omega) (by omega)) rfl (fun a mt => ?_)
            refine step_pure_g mt rfl rfl (pu_loadR st K.sc3 (rvm.mono hs0) rfl hum) rfl (fun a mt => ?_)
            refine step_pure_g mt rfl rfl (pu_gtr rfl rfl) rfl (fun a mt => ?_)
            refine step_pure mt (pu_pick rfl rfl) rfl (fun a mt => ?_)
            refine w_nil ?_
            refine w_cond mt rfl (fun h45 => ?_) (fun h45 => ?_)
            · refine w_rs ?_
              refine step_pure mt (pu_assign rfl) rfl (fun a mt => ?_)
              refine w_nil ?_
              refine w_ret (x_then_ret (x_block_ret (x_then_ret (x_then_ret (x_block_ret (x_then_ret ?_))))))
              refine post_ret1 mt rfl rfl ?_
              have hz : mdG1 ab mk k = false := by
                rw [hg]; refine Bool.eq_false_iff.2 fun h => ?_
                simp only [Bool.and_eq_true, decide_eq_true_eq] at h
                omega
              exact ⟨_, rfl, st.below, by rw [hall, hz]; rfl⟩
            · refine w_skip ?_
              refine x_then_n ?_
              refine w_rs ?_
              refine step_pure mt (pu_fld 0 K.fl44_0 rfl) rfl (fun a mt => ?_)
              refine step_pure mt (pu_loadM st K.sc41 rfl rfl) rfl (fun a mt => ?_)
              refine step_pure mt (pu_move rfl) rfl (fun a mt => ?_)
              refine step_pure mt (pu_ia (m := ab.length) (i := k) K.el41 (by decide) rfl rva rfl (by omega) (by omega)) rfl (fun a mt => ?_)
              refine step_pure mt (pu_loadR st K.sc42 (rva.mono hs0) rfl hur) rfl (fun a mt => ?_)
              refine step_pure mt (pu_assign rfl) rfl (fun a mt => ?_)
              refine w_nil ?_
              refine w_rs ?_
              refine step_pure mt (pu_assign rfl) rfl (fun a mt => ?_)
              refine w_nil ?_
              refine w_seq ?_
              refine w_rs ?_
              refine step_pure mt (pu_assign rfl) rfl (fun a mt => ?_)
              refine w_nil ?_
              refine w_block ?_
              refine w_loop (ι := Nat) (fun i a w' => i ≤ l.length ∧ ∃ I' M, Mt 146 a [(1, pv b1), (3, .int .i64 ab.length), (4, .int .i64 k), (5, r), (6, .bool (decide ((k : Int) ∈ l.take i))), (7, .int .i64 i)] ∧ Sub I I' ∧ St [] w I w' I' (.blk b1 (.cells #[.slice aad ab.length acc0, .slice mad mk.length mcc] 44 (0, 0)) :: M) ∧ ∀ j, j < i → rowG ab.length l j = true) (fun i => l.length - i) 0
                ⟨Nat.zero_le _, _, _, mt.sub ⟨rfl, rfl, rfl, rfl, rfl, rfl, trivial⟩, hs0, st, fun j h => absurd h (by omega)⟩ (fun i a w' hI' => ?_)
              obtain ⟨hi, I', M, mt, hs, st, hrowd⟩ := hI'
              have rl' := rl.mono hs
              refine w_seq ?_
              refine w_rs ?_
              refine step_pure mt (pu_move rfl) rfl (fun a mt => ?_)
              refine step_pure mt (pu_move rfl) rfl (fun a mt => ?_)
              refine step_pure mt (pu_len_r rfl (st.rdS rl') K.un42) rfl (fun a mt => ?_)
              refine step_pure mt (pu_lss rfl rfl) rfl (fun a mt => ?_)
              refine w_nil ?_
              refine w_cond mt rfl (fun h54 => ?_) (fun h54 => ?_)
              · have hil : i < l.length := by omega
                have hx : l[i]? = some l[i] := List.getElem?_eq_getElem hil
                generalize l[i] = x at hx
                have hxu : (l.map intV)[((i : Nat) : Int).toNat]? = some (.int .i64 x) := by simp [hx, intV]
                have hgx : l.getD i 0 = x := by simp [hx]
                refine w_skip ?_
                refine x_then_n ?_
                refine w_seq ?_
                refine w_block ?_
                refine w_seq ?_
                by_cases d62 : (x : Int) < 0
                · refine w_drs K.mixed rfl mt ?_
                  refine mo_pure (pu_move rfl) ?_
                  refine mo_pure (pu_move rfl) ?_
                  refine mo_pure (pu_ia (m := l.length) (i := i) K.el42 (by decide) rfl rl' rfl (by omega) (by omega)) ?_
                  refine mo_pure (pu_loadR st K.sc3 rl' rfl hxu) ?_
                  refine mo_pure (pu_lss rfl rfl) ?_
                  refine mo_pure ((pu_move rfl).tob (decide_eq_true d62)) ?_
                  refine mo_skip_g rfl rfl rfl ?_
                  refine mo_skip_g rfl rfl rfl ?_
                  refine mo_skip_g rfl rfl rfl ?_
                  refine mo_skip_g rfl rfl rfl ?_
                  refine mo_skip_g rfl rfl rfl ?_
                  refine mo_skip_g rfl rfl rfl ?_
                  refine mo_pure (pu_pick rfl rfl) ?_
                  refine mo_pure (pu_move rfl) ?_
                  refine mo_skip_g rfl rfl rfl ?_
                  refine mo_skip_g rfl rfl rfl ?_
                  refine mo_skip_g rfl rfl rfl ?_
                  refine mo_skip_u rfl rfl ?_
                  refine mo_skip_u rfl rfl ?_
                  refine mo_skip_u rfl rfl ?_
                  refine mo_skip_u rfl rfl ?_
                  refine mo_skip_u rfl rfl ?_
                  refine mo_skip_u rfl rfl ?_
                  refine mo_skip_u rfl rfl ?_
                  refine mo_skip_u rfl rfl ?_
                  refine mo_skip_u rfl rfl ?_
                  refine mo_skip_u rfl rfl ?_
                  refine mo_skip_g rfl rfl rfl ?_
                  refine mo_pure (pu_pick rfl rfl) ?_
                  refine mo_end (fun a w' mt pr hb => ?_)
                  have hIx := Iext_sub st.agr w'
                  replace st := st.extI hb
                  replace rl' := rl'.mono hIx
                  replace hs := hs.trans hIx
                  refine w_true mt rfl ?_
                  refine w_rs ?_
                  refine step_pure mt (pu_assign rfl) rfl (fun a mt => ?_)
                  refine w_nil ?_
                  refine w_ret (x_then_ret (x_block_ret (x_then_ret (x_then_ret (x_block_ret (x_then_ret (x_block_ret (x_then_ret (x_then_ret (x_block_ret (x_then_ret ?_)))))))))))
                  refine post_ret1 mt rfl rfl ?_
                  have hzr : rowG ab.length l i = false := by
                    unfold rowG; rw [hgx]; refine Bool.eq_false_iff.2 fun h => ?_
                    simp only [Bool.and_eq_true, Bool.or_eq_true, decide_eq_true_eq] at h
                    first | omega | (rw [hgy] at h; omega)
                  have hz : mdG1 ab mk k = false := by
                    have h2 : (List.range l.length).all (rowG ab.length l) = false := List.all_eq_false.2 ⟨i, by simpa using hil, by rw [hzr]; decide⟩
                    rw [hg, h2, Bool.and_false]
                  exact ⟨_, rfl, st.below, by rw [hall, hz]; rfl⟩
                · by_cases d68 : (x : Int) ≥ ab.length
                  · refine w_drs K.mixed rfl mt ?_
                    refine mo_pure (pu_move rfl) ?_
                    refine mo_pure (pu_move rfl) ?_
                    refine mo_pure (pu_ia (m := l.length) (i := i) K.el42 (by decide) rfl rl' rfl (by omega) (by omega)) ?_
                    refine mo_pure (pu_loadR st K.sc3 rl' rfl hxu) ?_
                    refine mo_pure (pu_lss rfl rfl) ?_
                    refine mo_pure ((pu_move rfl).tob (decide_eq_false d62)) ?_
                    refine mo_pure_g rfl rfl (pu_move rfl) ?_
                    refine mo_pure_g rfl rfl (pu_move rfl) ?_
                    refine mo_pure_g rfl rfl (pu_ia (m := l.length) (i := i) K.el42 (by decide) rfl rl' rfl (by omega) (by omega)) ?_
                    refine mo_pure_g rfl rfl (pu_loadR st K.sc3 rl' rfl hxu) ?_
                    refine mo_pure_g rfl rfl (pu_move rfl) ?_
                    refine mo_pure_g rfl rfl ((pu_geq rfl rfl).tob (decide_eq_true d68)) ?_
                    refine mo_pure (pu_pick rfl rfl) ?_
                    refine mo_pure (pu_move rfl) ?_
                    refine mo_skip_g rfl rfl rfl ?_
                    refine mo_skip_g rfl rfl rfl ?_
                    refine mo_skip_g rfl rfl rfl ?_
                    refine mo_skip_u rfl rfl ?_
                    refine mo_skip_u rfl rfl ?_
                    refine mo_skip_u rfl rfl ?_
                    refine mo_skip_u rfl rfl ?_
                    refine mo_skip_u rfl rfl ?_
                    refine mo_skip_u rfl rfl ?_
                    refine mo_skip_u rfl rfl ?_
                    refine mo_skip_u rfl rfl ?_
                    refine mo_skip_u rfl rfl ?_
                    refine mo_skip_u rfl rfl ?_
                    refine mo_skip_g rfl rfl rfl ?_
                    refine mo_pure (pu_pick rfl rfl) ?_
                    refine mo_end (fun a w' mt pr hb => ?_)
                    have hIx := Iext_sub st.agr w'
                    replace st := st.extI hb
                    replace rl' := rl'.mono hIx
                    replace hs := hs.trans hIx
                    refine w_true mt rfl ?_
                    refine w_rs ?_
                    refine step_pure mt (pu_assign rfl) rfl (fun a mt => ?_)
                    refine w_nil ?_
                    refine w_ret (x_then_ret (x_block_ret (x_then_ret (x_then_ret (x_block_ret (x_then_ret (x_block_ret (x_then_ret (x_then_ret (x_block_ret (x_then_ret ?_)))))))))))
                    refine post_ret1 mt rfl rfl ?_
                    have hzr : rowG ab.length l i = false := by
                      unfold rowG; rw [hgx]; refine Bool.eq_false_iff.2 fun h => ?_
                      simp only [Bool.and_eq_true, Bool.or_eq_true, decide_eq_true_eq] at h
                      first | omega | (rw [hgy] at h; omega)
                    have hz : mdG1 ab mk k = false := by
                      have h2 : (List.range l.length).all (rowG ab.length l) = false := List.all_eq_false.2 ⟨i, by simpa using hil, by rw [hzr]; decide⟩
                      rw [hg, h2, Bool.and_false]
                    exact ⟨_, rfl, st.below, by rw [hall, hz]; rfl⟩
                  · by_cases d73 : (i : Int) > 0
                    · have hy : l[i - 1]? = some (l[i - 1]'(by omega)) := List.getElem?_eq_getElem (by omega)
                      generalize l[i - 1]'(by omega) = y at hy
                      have hyu : (l.map intV)[((i : Int) - 1).toNat]? = some (.int .i64 y) := by
                        have e : ((i : Int) - 1).toNat = i - 1 := by omega
                        rw [e]; simp [hy, intV]
                      have hgy : l.getD (i - 1) 0 = y := by simp [hy]
                      refine w_drs K.mixed rfl mt ?_
                      refine mo_pure (pu_move rfl) ?_
                      refine mo_pure (pu_move rfl) ?_
                      refine mo_pure (pu_ia (m := l.length) (i := i) K.el42 (by decide) rfl rl' rfl (by omega) (by omega)) ?_
                      refine mo_pure (pu_loadR st K.sc3 rl' rfl hxu) ?_
                      refine mo_pure (pu_lss rfl rfl) ?_
                      refine mo_pure ((pu_move rfl).tob (decide_eq_false d62)) ?_
                      refine mo_pure_g rfl rfl (pu_move rfl) ?_
                      refine mo_pure_g rfl rfl (pu_move rfl) ?_
                      refine mo_pure_g rfl rfl (pu_ia (m := l.length) (i := i) K.el42 (by decide) rfl rl' rfl (by omega) (by omega)) ?_
                      refine mo_pure_g rfl rfl (pu_loadR st K.sc3 rl' rfl hxu) ?_
                      refine mo_pure_g rfl rfl (pu_move rfl) ?_
                      refine mo_pure_g rfl rfl ((pu_geq rfl rfl).tob (decide_eq_false d68)) ?_
                      refine mo_pure (pu_pick rfl rfl) ?_
                      refine mo_pure (pu_move rfl) ?_
                      refine mo_pure_g rfl rfl (pu_move rfl) ?_
                      refine mo_pure_g rfl rfl (pu_gtr rfl rfl) ?_
                      refine mo_pure_g rfl rfl ((pu_move rfl).tob (decide_eq_true d73)) ?_
                      refine mo_pure_g rfl rfl (pu_move rfl) ?_
                      refine mo_pure_g rfl rfl (pu_move rfl) ?_
                      refine mo_pure_g rfl rfl (pu_sub_i rfl rfl (by omega)) ?_
                      refine mo_pure_g rfl rfl (pu_ia (m := l.length) (i := (i : Int) - 1) K.el42 (by decide) rfl rl' rfl (by omega) (by omega)) ?_
                      refine mo_pure_g rfl rfl (pu_loadR (i := (i : Int) - 1) st K.sc3 rl' rfl hyu) ?_
                      refine mo_pure_g rfl rfl (pu_move rfl) ?_
                      refine mo_pure_g rfl rfl (pu_move rfl) ?_
                      refine mo_pure_g rfl rfl (pu_ia (m := l.length) (i := i) K.el42 (by decide) rfl rl' rfl (by omega) (by omega)) ?_
                      refine mo_pure_g rfl rfl (pu_loadR st K.sc3 rl' rfl hxu) ?_
                      refine mo_pure_g rfl rfl (pu_geq rfl rfl) ?_
                      refine mo_pure_g rfl rfl (pu_pick rfl rfl) ?_
                      refine mo_pure (pu_pick rfl rfl) ?_
                      refine mo_end (fun a w' mt pr hb => ?_)
                      have hIx := Iext_sub st.agr w'
                      replace st := st.extI hb
                      replace rl' := rl'.mono hIx
                      replace hs := hs.trans hIx
                      refine w_cond mt rfl (fun h85 => ?_) (fun h85 => ?_)
                      · refine w_rs ?_
                        refine step_pure mt (pu_assign rfl) rfl (fun a mt => ?_)
                        refine w_nil ?_
                        refine w_ret (x_then_ret (x_block_ret (x_then_ret (x_then_ret (x_block_ret (x_then_ret (x_block_ret (x_then_ret (x_then_ret (x_block_ret (x_then_ret ?_)))))))))))
                        refine post_ret1 mt rfl rfl ?_
                        have hzr : rowG ab.length l i = false := by
                          unfold rowG; rw [hgx]; refine Bool.eq_false_iff.2 fun h => ?_
                          simp only [Bool.and_eq_true, Bool.or_eq_true, decide_eq_true_eq] at h
                          first | omega | (rw [hgy] at h; omega)
                        have hz : mdG1 ab mk k = false := by
                          have h2 : (List.range l.length).all (rowG ab.length l) = false := List.all_eq_false.2 ⟨i, by simpa using hil, by rw [hzr]; decide⟩
                          rw [hg, h2, Bool.and_false]
                        exact ⟨_, rfl, st.below, by rw [hall, hz]; rfl⟩
                      · refine w_skip ?_
                        refine x_then_n ?_
                        refine w_region ?_
                        refine step_pure mt (pu_move rfl) rfl (fun a mt => ?_)
                        refine step_pure mt (pu_move rfl) rfl (fun a mt => ?_)
                        refine split_p 87 mt rfl (fun g87 mt => ?_) (fun g87 mt => ?_)
                        · refine step_skip_g mt rfl rfl rfl rfl (fun a mt => ?_)
                          refine step_skip_g mt rfl rfl rfl rfl (fun a mt => ?_)
                          refine step_skip_g mt rfl rfl rfl rfl (fun a mt => ?_)
                          refine step_skip_g mt rfl rfl rfl rfl (fun a mt => ?_)
                          refine step_skip_g mt rfl rfl rfl rfl (fun a mt => ?_)
                          refine step_skip_g mt rfl rfl rfl rfl (fun a mt => ?_)
                          refine step_pure mt ((pu_pick rfl rfl).to (u := .bool (decide ((k : Int) ∈ l.take (i + 1)))) (by congr 1; rw [Bool.eq_iff_iff]; simp [mem_snoc hx, g87])) rfl (fun a mt => ?_)
                          refine step_pure mt (pu_assign rfl) rfl (fun a mt => ?_)
                          refine w_nil' ?_
                          refine x_block_n ?_
                          refine x_then_n ?_
                          refine w_region ?_
                          refine step_pure mt (pu_move rfl) rfl (fun a mt => ?_)
                          refine step_pure mt (pu_add_i rfl rfl (by omega)) rfl (fun a mt => ?_)
                          refine step_pure mt (pu_assign rfl) rfl (fun a mt => ?_)
                          refine w_nil' ?_
                          refine x_then_n ?_
                          have hrow : rowG ab.length l i = true := by
                            unfold rowG; rw [hgx]
                            simp only [Bool.and_eq_true, Bool.or_eq_true, decide_eq_true_eq]
                            first | omega | (rw [hgy]; omega)
                          exact ⟨i + 1, ⟨by omega, _, _, mt.sub ⟨rfl, rfl, rfl, rfl, rfl, rfl, trivial⟩, hs, st, fun j hj => by
                            rcases Nat.lt_or_ge j i with h | h
                            · exact hrowd j h
                            · have : j = i := by omega
                              rw [this]; exact hrow⟩, by omega⟩
                        · refine step_pure_g mt rfl rfl (pu_move rfl) rfl (fun a mt => ?_)
                          refine step_pure_g mt rfl rfl (pu_move rfl) rfl (fun a mt => ?_)
                          refine step_pure_g mt rfl rfl (pu_ia (m := l.length) (i := i) K.el42 (by decide) rfl rl' rfl (by omega) (by omega)) rfl (fun a mt => ?_)
                          refine step_pure_g mt rfl rfl (pu_loadR st K.sc3 rl' rfl hxu) rfl (fun a mt => ?_)
                          refine step_pure_g mt rfl rfl (pu_move rfl) rfl (fun a mt => ?_)
                          refine step_pure_g mt rfl rfl (pu_eql rfl rfl) rfl (fun a mt => ?_)
                          refine step_pure mt ((pu_pick rfl rfl).to (u := .bool (decide ((k : Int) ∈ l.take (i + 1)))) (by congr 1; rw [Bool.eq_iff_iff]; simp [mem_snoc hx, g87])) rfl (fun a mt => ?_)
                          refine step_pure mt (pu_assign rfl) rfl (fun a mt => ?_)
                          refine w_nil' ?_
                          refine x_block_n ?_
                          refine x_then_n ?_
                          refine w_region ?_
                          refine step_pure mt (pu_move rfl) rfl (fun a mt => ?_)
                          refine step_pure mt (pu_add_i rfl rfl (by omega)) rfl (fun a mt => ?_)
                          refine step_pure mt (pu_assign rfl) rfl (fun a mt => ?_)
                          refine w_nil' ?_
                          refine x_then_n ?_
                          have hrow : rowG ab.length l i = true := by
                            unfold rowG; rw [hgx]
                            simp only [Bool.and_eq_true, Bool.or_eq_true, decide_eq_true_eq]
                            first | omega | (rw [hgy]; omega)
                          exact ⟨i + 1, ⟨by omega, _, _, mt.sub ⟨rfl, rfl, rfl, rfl, rfl, rfl, trivial⟩, hs, st, fun j hj => by
                            rcases Nat.lt_or_ge j i with h | h
                            · exact hrowd j h
                            · have : j = i := by omega
                              rw [this]; exact hrow⟩, by omega⟩
                    · refine w_drs K.mixed rfl mt ?_
                      refine mo_pure (pu_move rfl) ?_
                      refine mo_pure (pu_move rfl) ?_
                      refine mo_pure (pu_ia (m := l.length) (i := i) K.el42 (by decide) rfl rl' rfl (by omega) (by omega)) ?_
                      refine mo_pure (pu_loadR st K.sc3 rl' rfl hxu) ?_
                      refine mo_pure (pu_lss rfl rfl) ?_
                      refine mo_pure ((pu_move rfl).tob (decide_eq_false d62)) ?_
                      refine mo_pure_g rfl rfl (pu_move rfl) ?_
                      refine mo_pure_g rfl rfl (pu_move rfl) ?_
                      refine mo_pure_g rfl rfl (pu_ia (m := l.length) (i := i) K.el42 (by decide) rfl rl' rfl (by omega) (by omega)) ?_
                      refine mo_pure_g rfl rfl (pu_loadR st K.sc3 rl' rfl hxu) ?_
                      refine mo_pure_g rfl rfl (pu_move rfl) ?_
                      refine mo_pure_g rfl rfl ((pu_geq rfl rfl).tob (decide_eq_false d68)) ?_
                      refine mo_pure (pu_pick rfl rfl) ?_
                      refine mo_pure (pu_move rfl) ?_
                      refine mo_pure_g rfl rfl (pu_move rfl) ?_
                      refine mo_pure_g rfl rfl (pu_gtr rfl rfl) ?_
                      refine mo_pure_g rfl rfl ((pu_move rfl).tob (decide_eq_false d73)) ?_
                      refine mo_skip_g rfl rfl rfl ?_
                      refine mo_skip_g rfl rfl rfl ?_
                      refine mo_skip_g rfl rfl rfl ?_
                      refine mo_skip_g rfl rfl rfl ?_
                      refine mo_skip_g rfl rfl rfl ?_
                      refine mo_skip_g rfl rfl rfl ?_
                      refine mo_skip_g rfl rfl rfl ?_
                      refine mo_skip_g rfl rfl rfl ?_
                      refine mo_skip_g rfl rfl rfl ?_
                      refine mo_skip_g rfl rfl rfl ?_
                      refine mo_pure_g rfl rfl (pu_pick rfl rfl) ?_
                      refine mo_pure (pu_pick rfl rfl) ?_
                      refine mo_end (fun a w' mt pr hb => ?_)
                      have hIx := Iext_sub st.agr w'
                      replace st := st.extI hb
                      replace rl' := rl'.mono hIx
                      replace hs := hs.trans hIx
                      refine w_false mt rfl ?_
                      refine w_skip ?_
                      refine x_then_n ?_
                      refine w_region ?_
                      refine step_pure mt (pu_move rfl) rfl (fun a mt => ?_)
                      refine step_pure mt (pu_move rfl) rfl (fun a mt => ?_)
                      refine split_p 87 mt rfl (fun g87 mt => ?_) (fun g87 mt => ?_)
                      · refine step_skip_g mt rfl rfl rfl rfl (fun a mt => ?_)
                        refine step_skip_g mt rfl rfl rfl rfl (fun a mt => ?_)
                        refine step_skip_g mt rfl rfl rfl rfl (fun a mt => ?_)
                        refine step_skip_g mt rfl rfl rfl rfl (fun a mt => ?_)
                        refine step_skip_g mt rfl rfl rfl rfl (fun a mt => ?_)
                        refine step_skip_g mt rfl rfl rfl rfl (fun a mt => ?_)
                        refine step_pure mt ((pu_pick rfl rfl).to (u := .bool (decide ((k : Int) ∈ l.take (i + 1)))) (by congr 1; rw [Bool.eq_iff_iff]; simp [mem_snoc hx, g87])) rfl (fun a mt => ?_)
                        refine step_pure mt (pu_assign rfl) rfl (fun a mt => ?_)
                        refine w_nil' ?_
                        refine x_block_n ?_
                        refine x_then_n ?_
                        refine w_region ?_
                        refine step_pure mt (pu_move rfl) rfl (fun a mt => ?_)
                        refine step_pure mt (pu_add_i rfl rfl (by omega)) rfl (fun a mt => ?_)
                        refine step_pure mt (pu_assign rfl) rfl (fun a mt => ?_)
                        refine w_nil' ?_
                        refine x_then_n ?_
                        have hrow : rowG ab.length l i = true := by
                          unfold rowG; rw [hgx]
                          simp only [Bool.and_eq_true, Bool.or_eq_true, decide_eq_true_eq]
                          first | omega | (rw [hgy]; omega)
                        exact ⟨i + 1, ⟨by omega, _, _, mt.sub ⟨rfl, rfl, rfl, rfl, rfl, rfl, trivial⟩, hs, st, fun j hj => by
                          rcases Nat.lt_or_ge j i with h | h
                          · exact hrowd j h
                          · have : j = i := by omega
                            rw [this]; exact hrow⟩, by omega⟩
                      · refine step_pure_g mt rfl rfl (pu_move rfl) rfl (fun a mt => ?_)
                        refine step_pure_g mt rfl rfl (pu_move rfl) rfl (fun a mt => ?_)
                        refine step_pure_g mt rfl rfl (pu_ia (m := l.length) (i := i) K.el42 (by decide) rfl rl' rfl (by omega) (by omega)) rfl (fun a mt => ?_)
                        refine step_pure_g mt rfl rfl (pu_loadR st K.sc3 rl' rfl hxu) rfl (fun a mt => ?_)
                        refine step_pure_g mt rfl rfl (pu_move rfl) rfl (fun a mt => ?_)
                        refine step_pure_g mt rfl rfl (pu_eql rfl rfl) rfl (fun a mt => ?_)
                        refine step_pure mt ((pu_pick rfl rfl).to (u := .bool (decide ((k : Int) ∈ l.take (i + 1)))) (by congr 1; rw [Bool.eq_iff_iff]; simp [mem_snoc hx, g87])) rfl (fun a mt => ?_)
                        refine step_pure mt (pu_assign rfl) rfl (fun a mt => ?_)
                        refine w_nil' ?_
                        refine x_block_n ?_
                        refine x_then_n ?_
                        refine w_region ?_
                        refine step_pure mt (pu_move rfl) rfl (fun a mt => ?_)
                        refine step_pure mt (pu_add_i rfl rfl (by omega)) rfl (fun a mt => ?_)
                        refine step_pure mt (pu_assign rfl) rfl (fun a mt => ?_)
                        refine w_nil' ?_
                        refine x_then_n ?_
                        have hrow : rowG ab.length l i = true := by
                          unfold rowG; rw [hgx]
                          simp only [Bool.and_eq_true, Bool.or_eq_true, decide_eq_true_eq]
                          first | omega | (rw [hgy]; omega)
                        exact ⟨i + 1, ⟨by omega, _, _, mt.sub ⟨rfl, rfl, rfl, rfl, rfl, rfl, trivial⟩, hs, st, fun j hj => by
                          rcases Nat.lt_or_ge j i with h | h
                          · exact hrowd j h
                          · have : j = i := by omega
                            rw [this]; exact hrow⟩, by omega⟩
              · have hie : l.take i = l := List.take_of_length_le (by omega)
                have hrall : (List.range l.length).all (rowG ab.length l) = true := List.all_eq_true.2 fun j hj => hrowd j (Nat.lt_of_lt_of_le (List.mem_range.1 hj) (by omega))
                have hany : (l.any fun y => decide ((k : Int) = y)) = decide ((k : Int) ∈ l) := by rw [Bool.eq_iff_iff]; simp
                rw [hie] at mt
                rw [hrall, Bool.and_true, hany] at hg
                refine w_exit (x_then_exit (x_then_exit (x_block_out ?_)))
                refine x_then_n ?_
                refine w_rs ?_
                refine step_pure mt (pu_move rfl) rfl (fun a mt => ?_)
                refine step_pure mt (pu_not rfl) rfl (fun a mt => ?_)
                refine w_nil ?_
                refine w_cond_b mt rfl (fun h96 => ?_) (fun h96 => ?_)
                · refine w_rs ?_
                  refine step_pure mt (pu_assign rfl) rfl (fun a mt => ?_)
                  refine w_nil ?_
                  refine w_ret (x_block_ret (x_then_ret (x_then_ret (x_block_ret (x_then_ret ?_)))))
                  refine post_ret1 mt rfl rfl ?_
                  have hz : mdG1 ab mk k = false := by
                    rw [hg]; refine Bool.eq_false_iff.2 fun h => ?_
                    simp only [Bool.and_eq_true, decide_eq_true_eq] at h
                    simp only [Bool.not_eq_true', decide_eq_false_iff_not] at h96
                    exact h96 h.2
                  exact ⟨_, rfl, st.below, by rw [hall, hz]; rfl⟩
                · have hB1 : mdG1 ab mk k = true := by
                    simp only [Bool.not_eq_false', decide_eq_true_eq] at h96
                    rw [hg]; simp only [Bool.and_eq_true, decide_eq_true_eq]
                    exact ⟨⟨by omega, by omega⟩, h96⟩
                  refine w_skip ?_
                  refine x_block_n ?_
                  refine x_then_n ?_
                  refine w_region ?_
                  refine step_pure mt (pu_move rfl) rfl (fun a mt => ?_)
                  refine step_pure mt (pu_add_i rfl rfl (by omega)) rfl (fun a mt => ?_)
                  refine step_pure mt (pu_assign rfl) rfl (fun a mt => ?_)
                  refine w_nil' ?_
                  refine x_then_n ?_
                  exact ⟨k + 1, ⟨by omega, _, _, mt.sub ⟨rfl, rfl, rfl, trivial⟩, hs, st, by rw [hall, hB1]; rfl, fun i hi => by
                    rcases Nat.lt_or_ge i k with h | h
                    · exact hdone i h
                    · have : i = k := by omega
                      rw [this]; exact hB1⟩, by omega⟩
        · have hkn : k = ab.length := by omega
          have e1 : (List.range ab.length).drop k = [] := List.drop_eq_nil_of_le (by simp; omega)
          rw [e1] at hall
          have hall : isModF ab mk = (List.range ab.length).all (mdG2 ab mk) := by rw [hall]; rfl
          rw [hkn] at hdone
          clear hkn e1 hk h29
          refine w_exit (x_then_exit (x_then_exit (x_block_out ?_)))
          refine x_then_n ?_
          refine w_seq ?_
          refine w_rs ?_
          refine step_pure mt (pu_assign rfl) rfl (fun a mt => ?_)
          refine w_nil ?_
          refine w_block ?_
          refine w_loop (ι := Nat) (fun k a w' => k ≤ ab.length ∧ ∃ I' M, Mt 146 a [(1, pv b1), (3, .int .i64 ab.length), (8, .int .i64 k)] ∧ Sub I I' ∧ St [] w I w' I' (.blk b1 (.cells #[.slice aad ab.length acc0, .slice mad mk.length mcc] 44 (0, 0)) :: M) ∧ isModF ab mk = ((List.range ab.length).drop k).all (mdG2 ab mk)) (fun k => ab.length - k) 0
            ⟨Nat.zero_le _, _, _, mt.sub ⟨rfl, rfl, rfl, trivial⟩, hs0, st, hall⟩ (fun k a w' hI' => ?_)
          obtain ⟨hk, I1', M, mt, hs1, st, hall⟩ := hI'
          refine w_seq ?_
          refine w_rs ?_
          refine step_pure mt (pu_move rfl) rfl (fun a mt => ?_)
          refine step_pure mt (pu_move rfl) rfl (fun a mt => ?_)
          refine step_pure mt (pu_lss rfl rfl) rfl (fun a mt => ?_)
          refine w_nil ?_
          refine w_cond mt rfl (fun h99 => ?_) (fun h99 => ?_)
          · have hkl : k < ab.length := by omega
            rw [all_drop hkl] at hall
            have hl : ab[k]? = some ab[k] := List.getElem?_eq_getElem hkl
            have hm0 : mk[k]? = some (mk[k]'(by omega)) := List.getElem?_eq_getElem (by omega)
            have hrr : rows[k]? = some (rows[k]'(by omega)) := List.getElem?_eq_getElem (by omega)
            generalize ab[k] = l at hl
            generalize mk[k]'(by omega) = m at hm0
            generalize rows[k]'(by omega) = r at hrr
            have rl := rrow k l r hl hrr
            have hlmax := rl.max
            unfold maxLen at hlmax
            have hum : (mk.map intV)[((k : Nat) : Int).toNat]? = some (.int .i64 m) := by simp [hm0, intV]
            have hur : rows[((k : Nat) : Int).toNat]? = some r := by simp [hrr]
            have hg : mdG2 ab mk k = l.all (upG ab mk k) := by unfold mdG2; simp [hl]
            have h1k := hdone k hkl
            have hmb : 0 ≤ m ∧ m ≤ 15 := by
              unfold mdG1 at h1k; simp [hm0] at h1k; exact ⟨h1k.1.1.1, h1k.1.1.2⟩
            have hrows := mdG1_rows hdone hkl hl
            have hal := rows_asc hrows
            refine w_skip ?_
            refine x_then_n ?_
            refine w_seq ?_
            refine w_block ?_
            refine w_rs ?_
            refine step_pure mt (pu_assign rfl) rfl (fun a mt => ?_)
            refine w_nil ?_
            refine w_block ?_
            refine w_loop (ι := Nat) (fun j a w' => j ≤ l.length ∧ ∃ I' M, Mt 146 a [(1, pv b1), (3, .int .i64 ab.length), (8, .int .i64 k), (9, .int .i64 j)] ∧ Sub I I' ∧ St [] w I w' I' (.blk b1 (.cells #[.slice aad ab.length acc0, .slice mad mk.length mcc] 44 (0, 0)) :: M) ∧ mdG2 ab mk k = (l.drop j).all (upG ab mk k)) (fun j => l.length - j) 0
              ⟨Nat.zero_le _, _, _, mt.sub ⟨rfl, rfl, rfl, rfl, trivial⟩, hs1, st, hg⟩ (fun j a w' hI' => ?_)
            obtain ⟨hj, I', M, mt, hs, st, hB⟩ := hI'
            have rl' := rl.mono hs
            have rva' := rva.mono hs
            have rvm' := rvm.mono hs
            refine w_seq ?_
            refine w_rs ?_
            refine step_pure mt (pu_move rfl) rfl (fun a mt => ?_)
            refine step_pure mt (pu_fld 0 K.fl44_0 rfl) rfl (fun a mt => ?_)
            refine step_pure mt (pu_loadM st K.sc41 rfl rfl) rfl (fun a mt => ?_)
            refine step_pure mt (pu_move rfl) rfl (fun a mt => ?_)
            refine step_pure mt (pu_ia (m := ab.length) (i := k) K.el41 (by decide) rfl rva' rfl (by omega) (by omega)) rfl (fun a mt => ?_)
            refine step_pure mt (pu_loadR st K.sc42 rva' rfl hur) rfl (fun a mt => ?_)
            refine step_pure mt (pu_len_r rfl (st.rdS rl') K.un42) rfl (fun a mt => ?_)
            refine step_pure mt (pu_lss rfl rfl) rfl (fun a mt => ?_)
            refine w_nil ?_
            refine w_cond mt rfl (fun h109 => ?_) (fun h109 => ?_)
            · have hjl : j < l.length := by omega
              have hx : l[j]? = some l[j] := List.getElem?_eq_getElem hjl
              have hrj := hrows j hjl
              generalize l[j] = v at hx
              rw [drop_cons hx, List.all_cons] at hB
              have hxu : (l.map intV)[((j : Nat) : Int).toNat]? = some (.int .i64 v) := by simp [hx, intV]
              have hvb : 0 ≤ v ∧ v < ab.length := by
                unfold rowG at hrj; simp [hx] at hrj; exact ⟨hrj.1.1, hrj.1.2⟩
              have hvl : v.toNat < ab.length := by omega
              have hl2 : ab[v.toNat]? = some (ab[v.toNat]'(by omega)) := List.getElem?_eq_getElem (by omega)
              have hm2 : mk[v.toNat]? = some (mk[v.toNat]'(by omega)) := List.getElem?_eq_getElem (by omega)
              have hr2 : rows[v.toNat]? = some (rows[v.toNat]'(by omega)) := List.getElem?_eq_getElem (by omega)
              generalize ab[v.toNat]'(by omega) = l2 at hl2
              generalize mk[v.toNat]'(by omega) = m2 at hm2
              generalize rows[v.toNat]'(by omega) = r2 at hr2
              have rl2 := (rrow _ l2 r2 hl2 hr2).mono hs
              have hal2 := rows_asc (mdG1_rows hdone hvl hl2)
              have hum2 : (mk.map intV)[v.toNat]? = some (.int .i64 m2) := by simp [hm2, intV]
              have h2k := hdone v.toNat hvl
              have hmb2 : 0 ≤ m2 ∧ m2 ≤ 15 := by
                unfold mdG1 at h2k; simp [hm2] at h2k; exact ⟨h2k.1.1.1, h2k.1.1.2⟩
              have hup : upG ab mk k v = (subN m.toNat m2.toNat && (l2.all fun u => decide (u ∈ l))) := by
                unfold upG; rw [all_not_any]; simp [hl, hm0, hl2, hm2]
              obtain ⟨d, hd, hiff⟩ := andNotN (t := m.toNat) (u := m2.toNat) (by omega) (by omega)
              rw [show ((m.toNat : Nat) : Int) = m by omega, show ((m2.toNat : Nat) : Int) = m2 by omega] at hd
              refine w_skip ?_
              refine x_then_n ?_
              refine w_seq ?_
              refine w_block ?_
              refine w_rs ?_
              refine step_pure mt (pu_fld 0 K.fl44_0 rfl) rfl (fun a mt => ?_)
              refine step_pure mt (pu_loadM st K.sc41 rfl rfl) rfl (fun a mt => ?_)
              refine step_pure mt (pu_move rfl) rfl (fun a mt => ?_)
              refine step_pure mt (pu_ia (m := ab.length) (i := k) K.el41 (by decide) rfl rva' rfl (by omega) (by omega)) rfl (fun a mt => ?_)
              refine step_pure mt (pu_loadR st K.sc42 rva' rfl hur) rfl (fun a mt => ?_)
              refine step_pure mt (pu_move rfl) rfl (fun a mt => ?_)
              refine step_pure mt (pu_ia (m := l.length) (i := j) K.el42 (by decide) rfl rl' rfl (by omega) (by omega)) rfl (fun a mt => ?_)
              refine step_pure mt (pu_loadR st K.sc3 rl' rfl hxu) rfl (fun a mt => ?_)
              refine step_pure mt (pu_assign rfl) rfl (fun a mt => ?_)
              refine w_nil ?_
              by_cases d132 : (d : Int) ≠ 0
              · have hsn : subN m.toNat m2.toNat = false := by
                  cases h : subN m.toNat m2.toNat with
                  | false => rfl
                  | true => have := hiff.2 h; omega
                rw [hsn, Bool.false_and] at hup
                refine w_drs K.mixed rfl mt ?_
                refine mo_pure (pu_fld 1 K.fl44_1 rfl) ?_
                refine mo_pure (pu_loadM st K.sc42 rfl rfl) ?_
                refine mo_pure (pu_move rfl) ?_
                refine mo_pure (pu_ia (m := mk.length) (i := k) K.el42 (by decide) rfl rvm' rfl (by omega) (by omega)) ?_
                refine mo_pure (pu_loadR st K.sc3 rvm' rfl hum) ?_
                refine mo_pure (pu_fld 1 K.fl44_1 rfl) ?_
                refine mo_pure (pu_loadM st K.sc42 rfl rfl) ?_
                refine mo_pure (pu_move rfl) ?_
                refine mo_pure (pu_ia (m := mk.length) (i := v) K.el42 (by decide) rfl rvm' rfl (by omega) (by omega)) ?_
                refine mo_pure (pu_loadR (i := v) st K.sc3 rvm' rfl hum2) ?_
                refine mo_pure ((pu_andNot rfl rfl).to (u := .int .i64 d) (congrArg (Value.int .i64) hd)) ?_
                refine mo_pure (pu_neq rfl rfl) ?_
                refine mo_pure ((pu_move rfl).tob (decide_eq_true d132)) ?_
                refine mo_skip_g rfl rfl rfl ?_
                refine mo_skip_g rfl rfl rfl ?_
                refine mo_skip_g rfl rfl rfl ?_
                refine mo_skip_g rfl rfl rfl ?_
                refine mo_skip_g rfl rfl rfl ?_
                refine mo_skip_g rfl rfl rfl ?_
                refine mo_skip_g rfl rfl rfl ?_
                refine mo_skip_g rfl rfl rfl ?_
                refine mo_skip_g rfl rfl rfl ?_
                refine mo_skip_g rfl rfl rfl ?_
                refine mo_skip_g rfl rfl rfl ?_
                refine mo_skip_g rfl rfl rfl ?_
                refine mo_pure (pu_pick rfl rfl) ?_
                refine mo_end (fun a w' mt pr hb => ?_)
                have hIx := Iext_sub st.agr w'
                replace st := st.extI hb
                replace hs := hs.trans hIx
                refine w_true mt rfl ?_
                refine w_rs ?_
                refine step_pure mt (pu_assign rfl) rfl (fun a mt => ?_)
                refine w_nil ?_
                refine w_ret (x_block_ret (x_then_ret (x_then_ret (x_block_ret (x_block_ret (x_then_ret (x_then_ret (x_block_ret (x_then_ret ?_)))))))))
                refine post_ret1 mt rfl rfl ?_
                first
                | (have hz : upG ab mk k v = false := hup
                   exact ⟨_, rfl, st.below, by rw [hall, hB, hz]; rfl⟩)
                | (have hz : upG ab mk k v = false := by rw [hup]; simpa using h145
                   exact ⟨_, rfl, st.below, by rw [hall, hB, hz]; rfl⟩)
              · have hsn : subN m.toNat m2.toNat = true := hiff.1 (by omega)
                rw [hsn, Bool.true_and] at hup
                refine w_drs K.mixed rfl mt ?_
                refine mo_pure (pu_fld 1 K.fl44_1 rfl) ?_
                refine mo_pure (pu_loadM st K.sc42 rfl rfl) ?_
                refine mo_pure (pu_move rfl) ?_
                refine mo_pure (pu_ia (m := mk.length) (i := k) K.el42 (by decide) rfl rvm' rfl (by omega) (by omega)) ?_
                refine mo_pure (pu_loadR st K.sc3 rvm' rfl hum) ?_
                refine mo_pure (pu_fld 1 K.fl44_1 rfl) ?_
                refine mo_pure (pu_loadM st K.sc42 rfl rfl) ?_
                refine mo_pure (pu_move rfl) ?_
                refine mo_pure (pu_ia (m := mk.length) (i := v) K.el42 (by decide) rfl rvm' rfl (by omega) (by omega)) ?_
                refine mo_pure (pu_loadR (i := v) st K.sc3 rvm' rfl hum2) ?_
                refine mo_pure ((pu_andNot rfl rfl).to (u := .int .i64 d) (congrArg (Value.int .i64) hd)) ?_
                refine mo_pure (pu_neq rfl rfl) ?_
                refine mo_pure ((pu_move rfl).tob (decide_eq_false d132)) ?_
                refine mo_pure_g rfl rfl (pu_fld 0 K.fl44_0 rfl) ?_
                refine mo_pure_g rfl rfl (pu_loadM st K.sc41 rfl rfl) ?_
                refine mo_pure_g rfl rfl (pu_move rfl) ?_
                refine mo_pure_g rfl rfl (pu_ia (m := ab.length) (i := v) K.el41 (by decide) rfl rva' rfl (by omega) (by omega)) ?_
                refine mo_pure_g rfl rfl (pu_loadR (i := v) st K.sc42 rva' rfl hr2) ?_
                refine mo_pure_g rfl rfl (pu_fld 0 K.fl44_0 rfl) ?_
                refine mo_pure_g rfl rfl (pu_loadM st K.sc41 rfl rfl) ?_
                refine mo_pure_g rfl rfl (pu_move rfl) ?_
                refine mo_pure_g rfl rfl (pu_ia (m := ab.length) (i := k) K.el41 (by decide) rfl rva' rfl (by omega) (by omega)) ?_
                refine mo_pure_g rfl rfl (pu_loadR st K.sc42 rva' rfl hur) ?_
                refine mo_callv_g rfl rfl (vs := [r2, r]) K.cb43 rfl (fun w2 hb => inside_ok l2 l r2 r w2 (st.agr.trans (Below.sub hb)) rl2 rl' hal2 hal) ?_
                refine mo_pure_g rfl rfl (pu_not rfl) ?_
                refine mo_pure (pu_pick rfl rfl) ?_
                refine mo_end (fun a w' mt pr hb => ?_)
                have hIx := Iext_sub st.agr w'
                replace st := st.extI hb
                replace hs := hs.trans hIx
                refine w_cond_b mt rfl (fun h145 => ?_) (fun h145 => ?_)
                · refine w_rs ?_
                  refine step_pure mt (pu_assign rfl) rfl (fun a mt => ?_)
                  refine w_nil ?_
                  refine w_ret (x_block_ret (x_then_ret (x_then_ret (x_block_ret (x_block_ret (x_then_ret (x_then_ret (x_block_ret (x_then_ret ?_)))))))))
                  refine post_ret1 mt rfl rfl ?_
                  first
                  | (have hz : upG ab mk k v = false := hup
                     exact ⟨_, rfl, st.below, by rw [hall, hB, hz]; rfl⟩)
                  | (have hz : upG ab mk k v = false := by rw [hup]; simpa using h145
                     exact ⟨_, rfl, st.below, by rw [hall, hB, hz]; rfl⟩)
                · refine w_skip ?_
                  refine x_block_n ?_
                  refine x_then_n ?_
                  refine w_region ?_
                  refine step_pure mt (pu_move rfl) rfl (fun a mt => ?_)
                  refine step_pure mt (pu_add_i rfl rfl (by omega)) rfl (fun a mt => ?_)
                  refine step_pure mt (pu_assign rfl) rfl (fun a mt => ?_)
                  refine w_nil' ?_
                  refine x_then_n ?_
                  have hz : upG ab mk k v = true := by rw [hup]; simpa using h145
                  exact ⟨j + 1, ⟨by omega, _, _, mt.sub ⟨rfl, rfl, rfl, rfl, trivial⟩, hs, st, by rw [hB, hz]; rfl⟩, by omega⟩
            · have e1 : l.drop j = [] := List.drop_eq_nil_of_le (by omega)
              rw [e1] at hB
              have hB1 : mdG2 ab mk k = true := hB
              refine w_exit (x_then_exit (x_then_exit (x_block_out ?_)))
              refine x_block_n ?_
              refine x_then_n ?_
              refine w_region ?_
              refine step_pure mt (pu_move rfl) rfl (fun a mt => ?_)
              refine step_pure mt (pu_add_i rfl rfl (by omega)) rfl (fun a mt => ?_)
              refine step_pure mt (pu_assign rfl) rfl (fun a mt => ?_)
              refine w_nil' ?_
              refine x_then_n ?_
              exact ⟨k + 1, ⟨by omega, _, _, mt.sub ⟨rfl, rfl, rfl, trivial⟩, hs, st, by rw [hall, hB1]; rfl⟩, by omega⟩
          · have e1 : (List.range ab.length).drop k = [] := List.drop_eq_nil_of_le (by simp; omega)
            rw [e1] at hall
            refine w_exit (x_then_exit (x_then_exit (x_block_out ?_)))
            refine x_then_n ?_
            refine w_rs ?_
            refine step_pure mt (pu_assign rfl) rfl (fun a mt => ?_)
            refine w_nil ?_
            refine w_ret ?_
            refine post_ret1 mt rfl rfl ?_
            exact ⟨_, rfl, st.below, by rw [hall]; rfl⟩
end Go.Proofs.YtoilfakpgcjjpaaDoor.Log
namespace Go.Proofs.YtoilfakpgcjjpaaDoor.Log
open Go Go.RowKit Go.Proofs.YtoilfakpgcjjpaaDoor Go.Proofs.YtoilfakpgcjjpaaDoor.Eng
set_option linter.unusedVariables false
set_option linter.unusedSimpArgs false
abbrev Mtx := Nat → Nat → Bool
def setM (u : Mtx) (i n : Nat) (v : Bool) : Mtx := fun a b => if a = i ∧ b = n then v else u a b
def mergeTo (u : Mtx) (i j k : Nat) : Mtx := fun a b => if a = i then (u i b || (decide (b < k) && u j b)) else u a b
structure Tri (w i : Nat) (u : Mtx) : Prop where
  up : ∀ a b, u a b = true → i ≤ a ∧ a ≤ b ∧ b < w
  self : ∀ a, i ≤ a → a < w → u a a = true
  trans : ∀ a b c, u a b = true → u b c = true → u a c = true
theorem Tri.nil (w : Nat) : Tri w w (fun _ _ => false) := ⟨fun a b h => (by cases h), fun a h1 h2 => by omega, fun a b c h => (by cases h)⟩
theorem Tri.diag {w i : Nat} {u : Mtx} (h : Tri w (i + 1) u) (hi : i < w) : Tri w i (setM u i i true) := by
  refine ⟨fun a b hab => ?_, fun a h1 h2 => ?_, fun a b c hab hbc => ?_⟩
  · unfold setM at hab
    split at hab
    · rename_i e; omega
    · have := h.up a b hab; omega
  · unfold setM
    split
    · rfl
    · exact h.self a (by omega) h2
  · unfold setM at *
    by_cases hai : a = i
    · subst hai
      by_cases hba : b = a
      · subst hba; exact hbc
      · rw [if_neg (by omega)] at hab
        have := h.up a b hab; omega
    · rw [if_neg (by omega)] at hab ⊢
      have := h.up a b hab
      rw [if_neg (by omega)] at hbc
      exact h.trans a b c hab hbc
theorem Tri.merge {w i j : Nat} {u : Mtx} (h : Tri w i u) (hij : i < j) : Tri w i (mergeTo u i j w) := by
  refine ⟨fun a b hab => ?_, fun a h1 h2 => ?_, fun a b c hab hbc => ?_⟩
  · unfold mergeTo at hab
    split at hab
    · rename_i e
      subst e
      simp only [Bool.or_eq_true, Bool.and_eq_true, decide_eq_true_eq] at hab
      rcases hab with hab | ⟨_, hab⟩
      · exact h.up a b hab
      · have := h.up j b hab; omega
    · exact h.up a b hab
  · unfold mergeTo
    split
    · rename_i e; subst e; rw [h.self a h1 h2]; rfl
    · exact h.self a h1 h2
  · unfold mergeTo at *
    by_cases hai : a = i
    · subst hai
      rw [if_pos rfl] at hab ⊢
      simp only [Bool.or_eq_true, Bool.and_eq_true, decide_eq_true_eq] at hab ⊢
      by_cases hba : b = a
      · subst hba
        rw [if_pos rfl] at hbc
        simpa only [Bool.or_eq_true, Bool.and_eq_true, decide_eq_true_eq] using hbc
      · rw [if_neg hba] at hbc
        have := h.up b c hbc
        rcases hab with hab | ⟨_, hab⟩
        · exact .inl (h.trans a b c hab hbc)
        · exact .inr ⟨by omega, h.trans j b c hab hbc⟩
    · rw [if_neg hai] at hab ⊢
      have h1 := h.up a b hab
      by_cases hbi : b = i
      · omega
      · rw [if_neg hbi] at hbc
        exact h.trans a b c hab hbc
theorem merge_zero (u : Mtx) (i j : Nat) : mergeTo u i j 0 = u := by
  funext a b
  unfold mergeTo
  by_cases h : a = i
  · subst h; simp
  · rw [if_neg h]
theorem merge_step (u : Mtx) {i j : Nat} (k : Nat) (hij : i ≠ j) : setM (mergeTo u i j k) i k (mergeTo u i j k i k || mergeTo u i j k j k) = mergeTo u i j (k + 1) := by
  funext a b
  unfold setM mergeTo
  by_cases h : a = i
  · subst h
    by_cases hb : b = k
    · subst hb
      rw [if_pos ⟨rfl, rfl⟩, if_pos rfl, if_pos rfl, if_neg (Ne.symm hij)]
      simp
    · rw [if_neg (by omega), if_pos rfl, if_pos rfl]
      congr 2
      exact decide_eq_decide.2 (by omega)
  · rw [if_neg (by omega), if_neg h, if_neg h]
/-! the cells of the matrix -/
def mcells (u : Mtx) : List Value := (List.range 64).map fun c => .bool (u (c / 8) (c % 8))
theorem mcells_get (u : Mtx) {i n : Nat} (hi : i < 8) (hn : n < 8) : (mcells u)[8 * i + n]? = some (.bool (u i n)) := by
  unfold mcells
  rw [List.getElem?_map, List.getElem?_range (by omega)]
  simp only [Option.map_some]
  rw [show (8 * i + n) / 8 = i by omega, show (8 * i + n) % 8 = n by omega]
theorem mcells_len (u : Mtx) : (mcells u).length = 64 := by simp [mcells]
theorem mcells_set (u : Mtx) {i n : Nat} (v : Bool) (hi : i < 8) (hn : n < 8) : (mcells u).set (8 * i + n) (.bool v) = mcells (setM u i n v) := by
  apply List.ext_getElem?
  intro c
  rw [List.getElem?_set]
  by_cases hc : c < 64
  · unfold mcells
    rw [List.getElem?_map, List.getElem?_map, List.getElem?_range hc]
    simp only [Option.map_some, List.length_map, List.length_range]
    unfold setM
    by_cases h : 8 * i + n = c
    · rw [if_pos h, if_pos (by omega), if_pos (by omega)]
    · rw [if_neg h, if_neg (by omega)]
  · rw [List.getElem?_eq_none (l := mcells (setM u i n v)) (by rw [mcells_len]; omega), List.getElem?_eq_none (l := mcells u) (by rw [mcells_len]; omega)]
    rw [if_neg (by omega)]
/-! the model -/
def mkTo (u : Mtx) (mk : List Int) (i : Nat) : Nat → Nat
  | 0 => 0
  | j + 1 => if u j i = true ∧ j < mk.length then mkTo u mk i j ||| modI (mk.getD j 0) 16 else mkTo u mk i j
theorem mkTo_lt (u : Mtx) (mk : List Int) (i : Nat) : ∀ j, mkTo u mk i j < 16
  | 0 => by simp [mkTo]
  | j + 1 => by
    have := mkTo_lt u mk i j
    simp only [mkTo]
    split
    · exact Nat.or_lt_two_pow (n := 4) this (modI_lt _ (by decide))
    · exact this
theorem mkTo_bit (u : Mtx) (mk : List Int) (i b : Nat) : ∀ j, (mkTo u mk i j).testBit b = true ↔ ∃ a, a < j ∧ u a i = true ∧ a < mk.length ∧ (modI (mk.getD a 0) 16).testBit b = true
  | 0 => by simp [mkTo]
  | j + 1 => by
    have ih := mkTo_bit u mk i b j
    simp only [mkTo]
    split
    · rename_i h
      rw [Nat.testBit_or, Bool.or_eq_true, ih]
      constructor
      · rintro (⟨a, h1, h2⟩ | h1)
        · exact ⟨a, by omega, h2⟩
        · exact ⟨j, by omega, h.1, h.2, h1⟩
      · rintro ⟨a, h1, h2, h3, h4⟩
        by_cases haj : a = j
        · subst haj; exact .inr h4
        · exact .inl ⟨a, by omega, h2, h3, h4⟩
    · rename_i h
      rw [ih]
      constructor
      · rintro ⟨a, h1, h2⟩; exact ⟨a, by omega, h2⟩
      · rintro ⟨a, h1, h2, h3, h4⟩
        refine ⟨a, ?_, h2, h3, h4⟩
        by_cases haj : a = j
        · subst haj; exact absurd ⟨h2, h3⟩ h
        · omega
def rowTo (u : Mtx) (i k : Nat) : List Int := ((List.range k).filter (u i)).map Int.ofNat
theorem rowTo_succ (u : Mtx) (i k : Nat) : rowTo u i (k + 1) = if u i k = true then rowTo u i k ++ [(k : Int)] else rowTo u i k := by
  unfold rowTo
  rw [List.range_succ, List.filter_append, List.map_append]
  by_cases h : u i k = true <;> simp [h]
theorem rowTo_len (u : Mtx) (i k : Nat) : (rowTo u i k).length ≤ k := by
  unfold rowTo; rw [List.length_map]; exact Nat.le_trans (List.length_filter_le _ _) (by simp)
def tmA (u : Mtx) (w : Nat) : List (List Int) := (List.range w).map fun i => rowTo u i w
def tmM (u : Mtx) (mk : List Int) (w : Nat) : List Int := (List.range w).map fun i => ((mkTo u mk i w : Nat) : Int)
theorem mem_rowTo {u : Mtx} {i k : Nat} {x : Int} : x ∈ rowTo u i k ↔ ∃ b, b < k ∧ u i b = true ∧ x = (b : Int) := by
  unfold rowTo
  simp only [List.mem_map, List.mem_filter, List.mem_range]
  constructor
  · rintro ⟨b, ⟨h1, h2⟩, rfl⟩; exact ⟨b, h1, h2, rfl⟩
  · rintro ⟨b, h1, h2, rfl⟩; exact ⟨b, ⟨h1, h2⟩, rfl⟩
theorem tame_model {w : Nat} {u : Mtx} (mk : List Int) (h : Tri w 0 u) (h1 : 1 ≤ w) (h8 : w ≤ 8) : isModF (tmA u w) (tmM u mk w) = true := by
  have hA : (tmA u w).length = w := by simp [tmA]
  have hM : (tmM u mk w).length = w := by simp [tmM]
  have gA : ∀ k, k < w → (tmA u w).getD k [] = rowTo u k w := fun k hk => by
    simp [tmA, hk]
  have gM : ∀ k, k < w → (tmM u mk w).getD k 0 = ((mkTo u mk k w : Nat) : Int) := fun k hk => by
    simp [tmM, hk]
  unfold isModF
  rw [hA, hM]
  simp only [Bool.and_eq_true, decide_eq_true_eq]
  refine ⟨⟨⟨⟨h1, by omega⟩, trivial⟩, List.all_eq_true.2 fun k hk => ?_⟩, List.all_eq_true.2 fun k hk => ?_⟩
  · have hk : k < w := by simpa using hk
    unfold mdG1
    rw [gA k hk, gM k hk, hA]
    have hb := mkTo_lt u mk k w
    simp only [Bool.and_eq_true, decide_eq_true_eq]
    refine ⟨⟨⟨by omega, by omega⟩, List.any_eq_true.2 ⟨(k : Int), mem_rowTo.2 ⟨k, hk, h.self k (by omega) hk, rfl⟩, by simp⟩⟩, List.all_eq_true.2 fun i hi => ?_⟩
    have hi : i < (rowTo u k w).length := by simpa using hi
    have hx : (rowTo u k w)[i]? = some (rowTo u k w)[i] := List.getElem?_eq_getElem hi
    unfold rowG
    rw [show (rowTo u k w).getD i 0 = (rowTo u k w)[i] by simp [hx]]
    obtain ⟨b, hb1, hb2, hb3⟩ := mem_rowTo.1 (List.getElem_mem hi)
    simp only [Bool.and_eq_true, Bool.or_eq_true, decide_eq_true_eq]
    refine ⟨by omega, ?_⟩
    by_cases h0 : i = 0
    · exact .inl h0
    · right
      have hy : (rowTo u k w)[i - 1]? = some ((rowTo u k w)[i - 1]'(by omega)) := List.getElem?_eq_getElem (by omega)
      rw [show (rowTo u k w).getD (i - 1) 0 = (rowTo u k w)[i - 1]'(by omega) by simp [hy]]
      have hp : (rowTo u k w).Pairwise (· < ·) := by
        unfold rowTo
        rw [List.pairwise_map]
        exact (List.Pairwise.filter _ List.pairwise_lt_range).imp fun h => by simpa using h
      exact List.pairwise_iff_getElem.1 hp (i - 1) i (by omega) hi (by omega)
  · have hk : k < w := by simpa using hk
    unfold mdG2
    rw [gA k hk]
    refine List.all_eq_true.2 fun y hy => ?_
    obtain ⟨b, hb1, hb2, rfl⟩ := mem_rowTo.1 hy
    unfold upG
    rw [Int.toNat_natCast, gA b hb1, gA k hk, gM k hk, gM b hb1, Int.toNat_natCast, Int.toNat_natCast]
    simp only [Bool.and_eq_true, Bool.not_eq_true']
    refine ⟨subN_iff.2 fun i _ ht => ?_, List.any_eq_false.2 fun x hx => ?_⟩
    · obtain ⟨a, a1, a2, a3, a4⟩ := (mkTo_bit u mk k i w).1 ht
      exact (mkTo_bit u mk b i w).2 ⟨a, a1, h.trans a k b a2 hb2, a3, a4⟩
    · obtain ⟨c, c1, c2, rfl⟩ := mem_rowTo.1 hx
      have : (c : Int) ∈ rowTo u k w := mem_rowTo.2 ⟨c, c1, h.trans k b c hb2 c2, rfl⟩
      simpa using this
end Go.Proofs.YtoilfakpgcjjpaaDoor.Log
namespace Go.Proofs.YtoilfakpgcjjpaaDoor.Eng
open Go Go.RowKit
set_option linter.unusedVariables false
set_option linter.unusedSimpArgs false
section
variable {P : Program} {Q : Exit → Act → World → Prop} {n : Nat} {w1 : World} {B : List (Nat × Value)} {ops : Array Oper} {rest : List Oper}
  {d : Nat} {op : Op} {ty : TypeId} {pos : String} {af : Array Edge} {i : Nat} {acc : Acc}
theorem mo_append0 {I : Hp} {s x : Operand} {t tx e e' : TypeId} {sz by_ m : Nat} {z u : Value} {news : List Value} (hI : Sub I (hp w1)) (he : Elt P t e sz by_ z) (hzs : z.cells.size = sz) (hsz : 0 < sz)
    (hs : ev (app (knownA (depsOf ⟨some d, .call { callee := .builtin .append, args := #[s, x], argTypes := #[t, tx] }, ty, pos, af, none⟩) acc) B) s = some (.slice none 0 0))
    (hx : ev (app (knownA (depsOf ⟨some d, .call { callee := .builtin .append, args := #[s, x], argTypes := #[t, tx] }, ty, pos, af, none⟩) acc) B) x = some u)
    (htx : P.underlying tx = some (.slice e')) (r : RdS I u sz m news) (h1 : ∀ u ∈ news, u.oneCell' = true) (h63 : m ≤ maxLen) (hbytes : m * by_ ≤ 140737488355328)
    (k : MonoL P ops Q n w1 B (i + 1) rest ((i, d, .pr (RdX I w1 sz m news)) :: acc)) :
    MonoL P ops Q n w1 B i (⟨some d, .call { callee := .builtin .append, args := #[s, x], argTypes := #[t, tx] }, ty, pos, af, none⟩ :: rest) acc :=
  ⟨.pr _, RdX.later, fun a w mt pr hb K hK => by
    unfold stepO
    rw [if_pos (by simp [Region.wanted])]
    unfold Oper.wp
    obtain ⟨v', w', hr, h2, h3, h4⟩ := run_append_row (P := P) (ty := ty) he hzs hsz (World.ownsRow_nil w 0 e sz) (src_of htx (hI.trans (Below.sub hb)) r h1 hsz) (by simpa using h63) (by simpa using hbytes)
    have : (execOp a.eval ⟨some d, .call { callee := .builtin .append, args := #[s, x], argTypes := #[t, tx] }, ty, pos, af, none⟩).run P w = .ok (.value v') w' := by
      simp [execOp, resolve, invoke, builtin, mt.ev hs, mt.ev hx, hr]
    rw [this]
    have hbw : Below w.heap.size w w' := (Below.refl _ _).grown h3 (Nat.le_refl _) (fun k hk => by simp [Value.ownBlock] at hk)
    refine hK v' w' hbw ?_
    rw [Nat.zero_add, List.nil_append] at h2
    refine RdS.ofOwn h2 fun k hk => ?_
    have hge := hb.size
    have : w.heap.size ≤ k := by
      rcases h4 with h4 | h4
      · rw [hk] at h4; simp [Value.ownBlock] at h4
      · rw [hk] at h4; simp at h4; omega
    unfold Iext
    rw [if_neg (by omega)], k⟩
/-- a new block, of which a property is known -/
theorem mo_genA (Ψ : Value → World → Prop) (hm : ∀ u w w', Below w1.heap.size w1 w → Below w.heap.size w w' → Ψ u w → Ψ u w')
    (h : ∀ a w, Mt n a (app (knownA (depsOf ⟨some d, op, ty, pos, af, none⟩) acc) B) → PrA (depsOf ⟨some d, op, ty, pos, af, none⟩) a w acc → Below w1.heap.size w1 w →
      ∃ mk ob L', Mt n a L' ∧ AllocE P n L' w ⟨some d, op, ty, pos, af, none⟩ mk ob ∧ ∀ w', Below w.heap.size w w' → w'.heap[w.heap.size]? = some ob → Ψ (mk w.heap.size) w')
    (k : MonoL P ops Q n w1 B (i + 1) rest ((i, d, .pr Ψ) :: acc)) : MonoL P ops Q n w1 B i (⟨some d, op, ty, pos, af, none⟩ :: rest) acc :=
  ⟨.pr Ψ, hm, fun a w mt pr hb K hK => by
    obtain ⟨mk, ob, L', mt', hp, hΨ⟩ := h a w mt pr hb
    unfold stepO
    rw [if_pos (by simp [Region.wanted])]
    unfold Oper.wp
    rw [hp a w mt' (Below.refl _ _)]
    exact hK _ _ (Below.alloc1 w ob) (hΨ _ (Below.alloc1 w ob) (by show (w.heap.push ob)[w.heap.size]? = _; simp)), k⟩
/-- a slice of one element, of which it is known that it reads -/
def BoxX (I : Hp) (w1 : World) (sz m : Nat) (us : List Value) (v : Value) (w : World) : Prop := ∃ u, RdX I w1 1 1 [u] v w ∧ RdX I w1 sz m us u w
theorem BoxX.later {I : Hp} {w1 : World} {sz m : Nat} {us : List Value} (u : Value) (w w' : World) (h1 : Below w1.heap.size w1 w) (h2 : Below w.heap.size w w') (h : BoxX I w1 sz m us u w) : BoxX I w1 sz m us u w' :=
  let ⟨x, hx, hy⟩ := h; ⟨x, RdX.later _ _ _ h1 h2 hx, RdX.later _ _ _ h1 h2 hy⟩
theorem mo_box1 {I : Hp} {t e : TypeId} {s by_ m : Nat} {z : Value} {us : List Value} (he : Elt P t e 1 by_ z) (hsz : z.cells.size = 1)
    (hpr : ∀ a w, PrA (depsOf ⟨some d, .buildSlice t 1 #[(0, .tmp s)], ty, pos, af, none⟩) a w acc → RdX I w1 1 m us (a.tmps.getD s undef) w)
    (k : MonoL P ops Q n w1 B (i + 1) rest ((i, d, .pr (BoxX I w1 1 m us)) :: acc)) : MonoL P ops Q n w1 B i (⟨some d, .buildSlice t 1 #[(0, .tmp s)], ty, pos, af, none⟩ :: rest) acc :=
  mo_genA _ BoxX.later (fun a w mt pr hb => by
    have hr := hpr a w pr
    generalize hu : a.tmps.getD s undef = u at hr
    have h1 := Log.RdS.one hr
    refine ⟨_, _, _, mt.learn (d := s) hu, al_lit1 (vs := [u]) he hsz (by simp [evSeq, ev, Eng.look]) rfl rfl rfl (by simp [h1]), fun w' hb' hw => ⟨u, ?_, RdX.later _ _ _ hb hb' hr⟩⟩
    have hge := hb.size
    refine ⟨_, 1, rfl, Nat.le_refl _, by decide, rfl, fun j x hx => ⟨_, _, rfl, ?_⟩⟩
    rw [cellI_blk (show Iext I w1 w' w.heap.size = _ by unfold Iext; rw [if_neg (by omega)]; exact hw)]
    simpa using hx) k
/-- the first elements of a slice -/
theorem pu_slice_to {L : List (Nat × Value)} {dd : Option Tmp} {g : Option (Nat × Bool)} {x y : Operand} {t e : TypeId} {sz by_ : Nat} {z : Value} {ad : Option Addr} {m c : Nat} {k : IntKind} {h : Int} (he : Elt P t e sz by_ z) (hx : ev L x = some (.slice ad m c)) (hy : ev L y = some (.int k h)) (h0 : 0 ≤ h) (h1 : h ≤ c) :
    PureE P n L w1 ⟨dd, .slice t x none (some y) none, ty, pos, af, g⟩ (.slice ad h.toNat c) :=
  pu_sliceE he hx (.inl ⟨rfl, rfl⟩) (.inr ⟨y, k, rfl, hy⟩) (.inl ⟨rfl, rfl⟩) (by omega) h0 h1 (Int.le_refl _) (by
    cases ad with
    | none => simp
    | some a => simp [Addr.add])
theorem RdS.take {I : Hp} {ad : Option Addr} {m c j : Nat} {vs : List Value} (r : RdS I (.slice ad m c) 1 m vs) (hj : j ≤ m) : RdS I (.slice ad j c) 1 j (vs.take j) := by
  obtain ⟨ad', c', e, h1, h2, h3, h4⟩ := r
  cases e
  refine ⟨_, _, rfl, by omega, h2, by rw [List.length_take]; omega, fun i u hu => ?_⟩
  rw [List.getElem?_take] at hu
  split at hu
  · exact h4 i u hu
  · cases hu
end
end Go.Proofs.YtoilfakpgcjjpaaDoor.Eng
namespace Go.Proofs.YtoilfakpgcjjpaaDoor.Log
open Go Go.RowKit Go.Proofs.YtoilfakpgcjjpaaDoor Go.Proofs.YtoilfakpgcjjpaaDoor.Eng
set_option linter.unusedVariables false
set_option linter.unusedSimpArgs false
set_option maxRecDepth 100000
def cpA (ab : List (List Int)) : List (List Int) := (ab.take 60).map (List.take 61)
def cpM (mk : List Int) : List Int := mk.take 60
theorem take_lt (l : List Int) (n : Nat) : l.take (l.take n).length = l.take n := by
  rw [List.length_take]
  rcases Nat.le_total n l.length with h | h
  · rw [Nat.min_eq_left h]
  · rw [Nat.min_eq_right h, List.take_length, List.take_of_length_le h]
theorem ints_one (l : List Int) : ∀ u ∈ l.map intV, u.oneCell' = true := fun u h => by
  obtain ⟨x, _, rfl⟩ := List.mem_map.1 h
  rfl
theorem model2_ok {I : Hp} (ab : List (List Int)) (mk : List Int) (mv : Value) (w : World) (hI : Sub I (hp w)) (hm : ModV I ab mk mv) :
    CallsX Tryd.prog 24 #[mv] w fun v w' => ModV (Iext I w w') (cpA ab) (cpM mk) v := by
  obtain ⟨va, vm, rows, rfl, rva, rrow, rvm⟩ := hm
  obtain ⟨aad, acc0, rfl, _⟩ := rva.len
  obtain ⟨mad, mcc, rfl, _⟩ := rvm.len
  have hrl : rows.length = ab.length := by have := rva.nlen; exact this
  have hmaxa := rva.max
  have hmaxm := rvm.max
  unfold maxLen at hmaxa hmaxm
  have hm60 : (mk.take 60).length ≤ 60 := by rw [List.length_take]; omega
  have hmm : (min mk.length 60 : Nat) = (mk.take 60).length := by rw [List.length_take]; omega
  have rm60 : RdS I (.slice mad (mk.take 60).length mcc) 1 (mk.take 60).length ((mk.take 60).map intV) := by
    have := rvm.take (j := (mk.take 60).length) (by omega)
    rwa [← List.map_take, take_lt] at this
  have st := St.start (w0 := w) (I0 := I) hI
  refine CallsX.of (nn := 53) Tryd.func24 rfl rfl rfl (fun a mt => ?_)
  refine w_rs ?_
  refine step_alloc mt st (al_box rfl rfl) rfl (fun a w' b1 mt st => ?_)
  refine step_alloc mt st (al_alloc K.ze44 rfl) rfl (fun a w' b2 mt st => ?_)
  refine w_nil ?_
  refine w_rs ?_
  refine step_alloc mt st (al_alloc K.ze44 rfl) rfl (fun a w' b3 mt st => ?_)
  have st := (st.nilRow 3 1).nilRow 42 1
  refine w_nil ?_
  refine w_seq ?_
  refine w_rs ?_
  refine step_pure mt (pu_assign rfl) rfl (fun a mt => ?_)
  refine w_nil ?_
  refine w_block ?_
  refine w_loop (ι := Nat) (fun k a w' => k ≤ ab.length ∧ k ≤ 60 ∧ ∃ I' va rows' M, Mt 53 a [(1, pv b1), (2, pv b2), (3, pv b3), (4, .int .i64 k)] ∧ Sub I I' ∧ St [] w I w' I' (.row va 42 1 k rows' :: .row (.slice none 0 0) 3 1 0 [] :: .blk b3 (.cells #[va, .slice none 0 0] 44 (0, 0)) :: .blk b2 (.cells #[.slice none 0 0, .slice none 0 0] 44 (0, 0)) :: .blk b1 (.cells #[.slice aad ab.length acc0, .slice mad mk.length mcc] 44 (0, 0)) :: M) ∧
      ∀ (i : Nat) (l : List Int) (r : Value), ab[i]? = some l → rows'[i]? = some r → RdS I' r 1 (l.take 61).length ((l.take 61).map intV)) (fun k => ab.length - k) 0
    ⟨Nat.zero_le _, Nat.zero_le _, _, _, [], _, mt.sub ⟨rfl, rfl, rfl, rfl, trivial⟩, Sub.refl _, st, fun i l r _ h => by simp at h⟩ (fun k a w' hI' => ?_)
  obtain ⟨hk, hk6, I', va, rows', M, mt, hs, st, hrows⟩ := hI'
  refine w_seq ?_
  refine w_rs ?_
  refine step_pure mt (pu_move rfl) rfl (fun a mt => ?_)
  refine step_pure mt (pu_fld 0 K.fl44_0 rfl) rfl (fun a mt => ?_)
  refine step_pure mt (pu_loadM st K.sc41 rfl rfl) rfl (fun a mt => ?_)
  refine step_pure mt (pu_len rfl K.un41) rfl (fun a mt => ?_)
  refine step_pure mt (pu_lss rfl rfl) rfl (fun a mt => ?_)
  refine step_pure mt (pu_move rfl) rfl (fun a mt => ?_)
  refine split_p 13 mt rfl (fun g13 mt => ?_) (fun g13 mt => ?_)
  · refine step_pure_g mt rfl rfl (pu_move rfl) rfl (fun a mt => ?_)
    refine step_pure_g mt rfl rfl (pu_lss rfl rfl) rfl (fun a mt => ?_)
    refine step_pure mt (pu_pick rfl rfl) rfl (fun a mt => ?_)
    refine w_nil ?_
    refine w_cond mt rfl (fun h16 => ?_) (fun h16 => ?_)
    · have hkl : k < ab.length := by omega
      have hl : ab[k]? = some ab[k] := List.getElem?_eq_getElem hkl
      have hrr : rows[k]? = some (rows[k]'(by omega)) := List.getElem?_eq_getElem (by omega)
      generalize ab[k] = l at hl
      generalize rows[k]'(by omega) = r at hrr
      have rl := (rrow k l r hl hrr).mono hs
      have rva' := rva.mono hs
      have hlmax := rl.max
      unfold maxLen at hlmax
      obtain ⟨lad, lcc, rfl, hlc⟩ := rl.len
      have hur : rows[((k : Nat) : Int).toNat]? = some (.slice lad l.length lcc) := by simp [hrr]
      have hmn : (min l.length 61 : Nat) = (l.take 61).length := by rw [List.length_take]; omega
      have h61 : (l.take 61).length ≤ 61 := by rw [List.length_take]; omega
      have rl61 : RdS I' (.slice lad (l.take 61).length lcc) 1 (l.take 61).length ((l.take 61).map intV) := by
        have := rl.take (j := (l.take 61).length) (by omega)
        rwa [← List.map_take, take_lt] at this
      refine w_skip ?_
      refine x_then_n ?_
      refine w_seq ?_
      refine w_block ?_
      refine w_rs ?_
      refine step_pure mt (pu_assign rfl) rfl (fun a mt => ?_)
      refine w_nil ?_
      refine w_rs ?_
      refine step_pure mt (pu_fld 0 K.fl44_0 rfl) rfl (fun a mt => ?_)
      refine step_pure mt (pu_loadM st K.sc41 rfl rfl) rfl (fun a mt => ?_)
      refine step_pure mt (pu_assign rfl) rfl (fun a mt => ?_)
      refine w_nil ?_
      refine w_region_tail 17 K.mixed rfl rfl mt ?_
      refine mo_pure (pu_move rfl) ?_
      refine mo_pure (pu_move rfl) ?_
      refine mo_pure (pu_fld 0 K.fl44_0 rfl) ?_
      refine mo_pure (pu_loadM st K.sc41 rfl rfl) ?_
      refine mo_pure (pu_move rfl) ?_
      refine mo_pure (pu_ia (m := ab.length) (i := k) K.el41 (by decide) rfl rva' rfl (by omega) (by omega)) ?_
      refine mo_pure (pu_loadR st K.sc42 rva' rfl hur) ?_
      refine mo_pure (pu_fld 0 K.fl44_0 rfl) ?_
      refine mo_pure (pu_loadM st K.sc41 rfl rfl) ?_
      refine mo_pure (pu_move rfl) ?_
      refine mo_pure (pu_ia (m := ab.length) (i := k) K.el41 (by decide) rfl rva' rfl (by omega) (by omega)) ?_
      refine mo_pure (pu_loadR st K.sc42 rva' rfl hur) ?_
      refine mo_pure (pu_len rfl K.un42) ?_
      refine mo_pure (pu_min rfl rfl) ?_
      refine mo_pure ((pu_slice_to K.el42 rfl rfl (by omega) (by omega)).to (u := .slice lad (l.take 61).length lcc) (by rw [← hmn]; congr 1; omega)) ?_
      refine mo_append0 (u := .slice lad (l.take 61).length lcc) st.agr K.el42 rfl (by decide) rfl rfl K.un42 rl61 (ints_one _) (by simp only [maxLen]; omega) (by omega) ?_
      refine mo_box1 K.el41 rfl (fun a w pr => pr.1 rfl) ?_
      refine mo_endT (fun a w' mt pr hb => ?_)
      have hIx := Iext_sub st.agr w'
      replace st := st.extI hb
      obtain ⟨u36, hb37, hr36⟩ := pr.1
      generalize h37 : a.tmps.getD 37 undef = v37 at hb37
      replace mt := mt.learn (d := 37) h37
      have hone := RdS.one hr36
      have hrl' : rows'.length = k := by have := (st.rowM (Pick.here _ _)).nlen; exact this
      refine s_append_r mt st K.el41 rfl (by decide) rfl rfl K.un41 hb37 (by simp [hone]) (by simp only [maxLen]; omega) (by omega) rfl (fun a w' v38 mt st => ?_)
      have h38 := RdS.one (st.rowM (Pick.here _ _))
      refine step_pure mt (pu_fld 0 K.fl44_0 rfl) rfl (fun a mt => ?_)
      refine s_storeL mt st K.sz41 rfl rfl (by first | rfl | assumption) rfl rfl (fun w' st => ?_)
      refine w_nil' ?_
      refine x_block_n ?_
      refine x_then_n ?_
      refine w_region ?_
      refine step_pure mt (pu_move rfl) rfl (fun a mt => ?_)
      refine step_pure mt (pu_add_i rfl rfl (by omega)) rfl (fun a mt => ?_)
      refine step_pure mt (pu_assign rfl) rfl (fun a mt => ?_)
      refine w_nil' ?_
      refine x_then_n ?_
      refine ⟨k + 1, ⟨by omega, by omega, _, v38, rows' ++ [u36], M, mt.sub ⟨rfl, rfl, rfl, rfl, trivial⟩, hs.trans hIx, (st.pick (Pick.there _ (Pick.there _ (Pick.here _ _)))).pick (Pick.there _ (Pick.there _ (Pick.here _ _))), fun i l' r h1 h2 => ?_⟩, by omega⟩
      rcases Nat.lt_or_ge i k with h | h
      · rw [List.getElem?_append_left (by omega)] at h2
        exact (hrows i l' r h1 h2).mono hIx
      · have hik : i = k := by
          have := (List.getElem?_eq_some_iff.1 h2).1
          simp at this; omega
        subst hik
        rw [hl] at h1; cases h1
        rw [List.getElem?_append_right (by omega), hrl'] at h2
        simp at h2; subst h2
        exact hr36
    · have hkc : k = (cpA ab).length := by simp only [cpA, List.length_map, List.length_take]; omega
      refine w_exit (x_then_exit (x_then_exit (x_block_out ?_)))
      refine x_then_n ?_
      refine w_rs ?_
      refine step_pure mt (pu_fld 1 K.fl44_1 rfl) rfl (fun a mt => ?_)
      refine step_pure mt (pu_loadM st K.sc42 rfl rfl) rfl (fun a mt => ?_)
      refine step_pure mt (pu_assign rfl) rfl (fun a mt => ?_)
      refine w_nil ?_
      refine w_rs ?_
      refine step_pure mt (pu_move rfl) rfl (fun a mt => ?_)
      refine step_pure mt (pu_fld 1 K.fl44_1 rfl) rfl (fun a mt => ?_)
      refine step_pure mt (pu_loadM st K.sc42 rfl rfl) rfl (fun a mt => ?_)
      refine step_pure mt (pu_fld 1 K.fl44_1 rfl) rfl (fun a mt => ?_)
      refine step_pure mt (pu_loadM st K.sc42 rfl rfl) rfl (fun a mt => ?_)
      refine step_pure mt (pu_len rfl K.un42) rfl (fun a mt => ?_)
      refine step_pure mt (pu_min rfl rfl) rfl (fun a mt => ?_)
      refine step_pure mt ((pu_slice_to K.el42 rfl rfl (by omega) (by omega)).to (u := .slice mad (mk.take 60).length mcc) (by rw [← hmm]; congr 1; omega)) rfl (fun a mt => ?_)
      refine s_append_r mt st K.el42 rfl (by decide) rfl rfl K.un42 (rm60.mono hs) (ints_one _) (by simp only [maxLen]; omega) (by omega) rfl (fun a w' v50 mt st => ?_)
      have h50 := RdS.one (st.rowM (Pick.here _ _))
      have hva1 := RdS.one (st.rowM (Pick.there _ (Pick.here _ _)))
      refine step_pure mt (pu_fld 1 K.fl44_1 rfl) rfl (fun a mt => ?_)
      refine s_storeL mt st K.sz42 rfl rfl (by first | rfl | assumption) rfl rfl (fun w' st => ?_)
      refine w_nil ?_
      refine w_rs ?_
      refine step_pure mt (pu_loadMA st K.ag44 rfl rfl) rfl (fun a mt => ?_)
      refine s_storeA mt st K.sz44 rfl rfl rfl (by simp [h50, hva1]) rfl rfl (fun w' st => ?_)
      refine w_nil ?_
      refine w_ret ?_
      refine bodyPost_ret (results_agg (b := b2) rfl (mt.at_ 2 _ rfl) K.ag44 rfl (st.blkM PickB.pick)) mt.defers ?_
      have rva2 : RdS (Iext I w _) va 1 k rows' := St.rowX st (by first | exact Pick.here _ _ | exact Pick.there _ (Pick.here _ _) | exact Pick.there _ (Pick.there _ (Pick.here _ _)) | exact Pick.there _ (Pick.there _ (Pick.there _ (Pick.here _ _))))
      have rvm2 : RdS (Iext I w _) v50 1 (0 + (mk.take 60).length) ([] ++ (mk.take 60).map intV) := St.rowX st (by first | exact Pick.here _ _ | exact Pick.there _ (Pick.here _ _) | exact Pick.there _ (Pick.there _ (Pick.here _ _)) | exact Pick.there _ (Pick.there _ (Pick.there _ (Pick.here _ _))))
      refine ⟨_, rfl, st.below, va, v50, rows', rfl, ?_, fun i l' r h1 h2 => ?_, ?_⟩
      · rw [← hkc]; exact rva2
      · simp only [cpA, List.getElem?_map, Option.map_eq_some_iff] at h1
        obtain ⟨l, h1, rfl⟩ := h1
        rw [List.getElem?_take] at h1
        split at h1
        · exact (hrows i l r h1 h2).mono (St.IX st)
        · cases h1
      · simpa [cpM] using rvm2
  · have hkc : k = (cpA ab).length := by simp only [cpA, List.length_map, List.length_take]; omega
    refine step_skip_g mt rfl rfl rfl rfl (fun a mt => ?_)
    refine step_skip_g mt rfl rfl rfl rfl (fun a mt => ?_)
    refine step_pure mt (pu_pick rfl rfl) rfl (fun a mt => ?_)
    refine w_nil ?_
    refine w_false mt rfl ?_
    refine w_exit (x_then_exit (x_then_exit (x_block_out ?_)))
    refine x_then_n ?_
    refine w_rs ?_
    refine step_pure mt (pu_fld 1 K.fl44_1 rfl) rfl (fun a mt => ?_)
    refine step_pure mt (pu_loadM st K.sc42 rfl rfl) rfl (fun a mt => ?_)
    refine step_pure mt (pu_assign rfl) rfl (fun a mt => ?_)
    refine w_nil ?_
    refine w_rs ?_
    refine step_pure mt (pu_move rfl) rfl (fun a mt => ?_)
    refine step_pure mt (pu_fld 1 K.fl44_1 rfl) rfl (fun a mt => ?_)
    refine step_pure mt (pu_loadM st K.sc42 rfl rfl) rfl (fun a mt => ?_)
    refine step_pure mt (pu_fld 1 K.fl44_1 rfl) rfl (fun a mt => ?_)
    refine step_pure mt (pu_loadM st K.sc42 rfl rfl) rfl (fun a mt => ?_)
    refine step_pure mt (pu_len rfl K.un42) rfl (fun a mt => ?_)
    refine step_pure mt (pu_min rfl rfl) rfl (fun a mt => ?_)
    refine step_pure mt ((pu_slice_to K.el42 rfl rfl (by omega) (by omega)).to (u := .slice mad (mk.take 60).length mcc) (by rw [← hmm]; congr 1; omega)) rfl (fun a mt => ?_)
    refine s_append_r mt st K.el42 rfl (by decide) rfl rfl K.un42 (rm60.mono hs) (ints_one _) (by simp only [maxLen]; omega) (by omega) rfl (fun a w' v50 mt st => ?_)
    have h50 := RdS.one (st.rowM (Pick.here _ _))
    have hva1 := RdS.one (st.rowM (Pick.there _ (Pick.here _ _)))
    refine step_pure mt (pu_fld 1 K.fl44_1 rfl) rfl (fun a mt => ?_)
    refine s_storeL mt st K.sz42 rfl rfl (by first | rfl | assumption) rfl rfl (fun w' st => ?_)
    refine w_nil ?_
    refine w_rs ?_
    refine step_pure mt (pu_loadMA st K.ag44 rfl rfl) rfl (fun a mt => ?_)
    refine s_storeA mt st K.sz44 rfl rfl rfl (by simp [h50, hva1]) rfl rfl (fun w' st => ?_)
    refine w_nil ?_
    refine w_ret ?_
    refine bodyPost_ret (results_agg (b := b2) rfl (mt.at_ 2 _ rfl) K.ag44 rfl (st.blkM PickB.pick)) mt.defers ?_
    have rva2 : RdS (Iext I w _) va 1 k rows' := St.rowX st (by first | exact Pick.here _ _ | exact Pick.there _ (Pick.here _ _) | exact Pick.there _ (Pick.there _ (Pick.here _ _)) | exact Pick.there _ (Pick.there _ (Pick.there _ (Pick.here _ _))))
    have rvm2 : RdS (Iext I w _) v50 1 (0 + (mk.take 60).length) ([] ++ (mk.take 60).map intV) := St.rowX st (by first | exact Pick.here _ _ | exact Pick.there _ (Pick.here _ _) | exact Pick.there _ (Pick.there _ (Pick.here _ _)) | exact Pick.there _ (Pick.there _ (Pick.there _ (Pick.here _ _))))
    refine ⟨_, rfl, st.below, va, v50, rows', rfl, ?_, fun i l' r h1 h2 => ?_, ?_⟩
    · rw [← hkc]; exact rva2
    · simp only [cpA, List.getElem?_map, Option.map_eq_some_iff] at h1
      obtain ⟨l, h1, rfl⟩ := h1
      rw [List.getElem?_take] at h1
      split at h1
      · exact (hrows i l r h1 h2).mono (St.IX st)
      · cases h1
    · simpa [cpM] using rvm2
end Go.Proofs.YtoilfakpgcjjpaaDoor.Log
namespace Go.Proofs.YtoilfakpgcjjpaaDoor.Log
open Go Go.RowKit Go.Proofs.YtoilfakpgcjjpaaDoor Go.Proofs.YtoilfakpgcjjpaaDoor.Eng
set_option linter.unusedVariables false
set_option linter.unusedSimpArgs false
set_option maxRecDepth 100000
section
variable {P : Program} {w1 : World} {n : Nat} {L : List (Nat × Value)} {dd : Option Tmp} {ty : TypeId} {pos : String} {af : Array Edge} {g : Option (Nat × Bool)}
/-- an element of an array -/
theorem pu_ar {x y : Operand} {t e : TypeId} {m sz : Nat} {b o : Nat} {k : IntKind} {i : Nat} {p : Nat} (ht : P.underlying t = some (.array m e)) (hs : (P.info? e).map (·.size) = some sz)
    (hx : ev L x = some (.pointer (some ⟨b, o, none⟩))) (hy : ev L y = some (.int k i)) (h1 : i < m) (hp : o + i * sz = p) :
    PureE P n L w1 ⟨dd, .indexAddr t x y, ty, pos, af, g⟩ (.pointer (some ⟨b, p, none⟩)) := by
  obtain ⟨ti, he, rfl⟩ := Option.map_eq_some_iff.1 hs
  subst hp
  exact pu_indexAddr_arr ht he hx hy (by omega) (by omega)
end
theorem mset (u : Mtx) {i n : Nat} (v : Bool) (hi : i < 8) (hn : n < 8) : (mcells u).toArray.setIfInBounds (8 * i + n) (.bool v) = (mcells (setM u i n v)).toArray := by
  rw [← mcells_set u v hi hn]; apply Array.ext'; simp
theorem mload (u : Mtx) {i n : Nat} (hi : i < 8) (hn : n < 8) : nthA (mcells u).toArray (8 * i + n) = some (.bool (u i n)) := by
  rw [nthA_eq, List.getElem?_toArray]; exact mcells_get u hi hn
theorem orN2 {m q : Nat} (hm : m < 16) (hq : q < 16) : IntKind.i64.wrap ((BitVec.ofInt IntKind.i64.bits (m : Int) ||| BitVec.ofInt IntKind.i64.bits (q : Int)).toNat : Int) = ((m ||| q : Nat) : Int) := by
  show IntKind.i64.wrap ((BitVec.ofInt 64 (m : Int) ||| BitVec.ofInt 64 (q : Int)).toNat : Int) = _
  rw [BitVec.ofInt_natCast, BitVec.ofInt_natCast, BitVec.toNat_or, BitVec.toNat_ofNat, BitVec.toNat_ofNat, Nat.mod_eq_of_lt (by omega), Nat.mod_eq_of_lt (by omega)]
  have : m ||| q < 2 ^ 4 := Nat.or_lt_two_pow (by omega) (by omega)
  simp only [Nat.reducePow] at this
  exact i64_wrap (by omega)
theorem tame_ok {I : Hp} (ab : List (List Int)) (mk : List Int) (mv : Value) (w : World) (hI : Sub I (hp w)) (hm : ModV I ab mk mv) :
    CallsX Tryd.prog 29 #[mv] w fun v w' => ∃ u wd, Tri wd 0 u ∧ 1 ≤ wd ∧ wd ≤ 8 ∧ ModV (Iext I w w') (tmA u wd) (tmM u mk wd) v := by
  obtain ⟨va0, vm0, rows, rfl, rva, rrow, rvm⟩ := hm
  obtain ⟨aad, acc0, rfl, _⟩ := rva.len
  obtain ⟨mad, mcc, rfl, _⟩ := rvm.len
  have hrl : rows.length = ab.length := by have := rva.nlen; exact this
  have hmaxa := rva.max
  have hmaxm := rvm.max
  unfold maxLen at hmaxa hmaxm
  have st := St.start (w0 := w) (I0 := I) hI
  obtain ⟨wd, hwd⟩ : ∃ wd : Nat, 1 + modI ((ab.length : Int) - 1) 8 = wd := ⟨_, rfl⟩
  have hwd8 : 1 ≤ wd ∧ wd ≤ 8 := by have := modI_lt ((ab.length : Int) - 1) (n := 8) (by decide); omega
  refine CallsX.of (nn := 143) Tryd.func29 rfl rfl rfl (fun a mt => ?_)
  refine w_rs ?_
  refine step_alloc mt st (al_box rfl rfl) rfl (fun a w' b1 mt st => ?_)
  refine step_alloc mt st (al_alloc K.ze44 rfl) rfl (fun a w' b2 mt st => ?_)
  refine w_nil ?_
  refine w_rs ?_
  refine step_pure mt (pu_fld 0 K.fl44_0 rfl) rfl (fun a mt => ?_)
  refine step_pure mt (pu_loadM st K.sc41 rfl rfl) rfl (fun a mt => ?_)
  refine step_pure mt (pu_len rfl K.un41) rfl (fun a mt => ?_)
  refine step_pure mt (pu_sub_i rfl rfl (by omega)) rfl (fun a mt => ?_)
  refine s_callv mt st K.cb23 (vs := [.int .i64 ((ab.length : Int) - 1), .int .i64 ((8 : Nat) : Int)]) rfl (mod_ok ((ab.length : Int) - 1) 8 (by decide) (by decide) _) rfl (fun a w' mt st => ?_)
  refine step_pure mt ((pu_add_i rfl rfl (by omega)).to (u := .int .i64 wd) (by congr 1; omega)) rfl (fun a mt => ?_)
  refine step_pure mt (pu_assign rfl) rfl (fun a mt => ?_)
  refine w_nil ?_
  refine w_rs ?_
  refine step_alloc mt st (al_alloc (cs := (mcells (fun _ _ => false)).toArray) K.ze81 rfl) rfl (fun a w' b4 mt st => ?_)
  refine w_nil ?_
  refine w_seq ?_
  refine w_rs ?_
  refine step_pure mt (pu_move rfl) rfl (fun a mt => ?_)
  refine step_pure mt (pu_sub_i rfl rfl (by omega)) rfl (fun a mt => ?_)
  refine step_pure mt (pu_assign rfl) rfl (fun a mt => ?_)
  refine w_nil ?_
  refine w_block ?_
  refine w_loop (ι := Nat) (fun m a w' => m ≤ wd ∧ ∃ u I' M, Mt 143 a [(1, pv b1), (2, pv b2), (3, .int .i64 wd), (4, pv b4), (5, .int .i64 ((m : Int) - 1))] ∧ Sub I I' ∧ St [] w I w' I' (.blk b4 (.cells (mcells u).toArray 81 (0, 0)) :: .blk b2 (.cells #[.slice none 0 0, .slice none 0 0] 44 (0, 0)) :: .blk b1 (.cells #[.slice aad ab.length acc0, .slice mad mk.length mcc] 44 (0, 0)) :: M) ∧ Tri wd m u) (fun m => m) wd
    ⟨Nat.le_refl _, _, _, _, mt.sub ⟨rfl, rfl, rfl, rfl, rfl, trivial⟩, Sub.refl _, st, Tri.nil wd⟩ (fun m a w' hI' => ?_)
  obtain ⟨hmw, u, I1', M, mt, hs1, st, hT⟩ := hI'
  refine w_seq ?_
  refine w_rs ?_
  refine step_pure mt (pu_move rfl) rfl (fun a mt => ?_)
  refine step_pure mt (pu_geq rfl rfl) rfl (fun a mt => ?_)
  refine w_nil ?_
  refine w_cond mt rfl (fun h25 => ?_) (fun h25 => ?_)
  · obtain ⟨i, rfl⟩ : ∃ i, m = i + 1 := ⟨m - 1, by omega⟩
    have hi8 : i < 8 := by omega
    rw [show (((i + 1 : Nat) : Int) - 1) = (i : Int) by omega] at mt
    refine w_skip ?_
    refine x_then_n ?_
    refine w_seq ?_
    refine w_block ?_
    refine w_rs ?_
    refine step_pure mt (pu_move rfl) rfl (fun a mt => ?_)
    refine step_pure mt (pu_move rfl) rfl (fun a mt => ?_)
    refine step_pure mt (pu_ar (p := 8 * i) K.un81 K.sz53 rfl rfl hi8 (by omega)) rfl (fun a mt => ?_)
    refine step_pure mt (pu_ar (p := 8 * i + i) K.un53 K.sz4 rfl rfl hi8 (by omega)) rfl (fun a mt => ?_)
    refine s_store mt st K.sz4 rfl rfl rfl (by rw [List.size_toArray, mcells_len]; omega) (fun w' st => ?_)
    refine w_nil ?_
    rw [mset u true hi8 hi8] at st
    replace hT := hT.diag (by omega)
    generalize setM u i i true = u at hT st
    refine w_rs ?_
    refine step_pure mt (pu_assign rfl) rfl (fun a mt => ?_)
    refine w_nil ?_
    refine w_block ?_
    refine w_loop (ι := Nat) (fun k a w' => k ≤ 60 ∧ ∃ u I' M, Mt 143 a [(1, pv b1), (2, pv b2), (3, .int .i64 wd), (4, pv b4), (5, .int .i64 i), (6, .int .i64 k)] ∧ Sub I I' ∧ St [] w I w' I' (.blk b4 (.cells (mcells u).toArray 81 (0, 0)) :: .blk b2 (.cells #[.slice none 0 0, .slice none 0 0] 44 (0, 0)) :: .blk b1 (.cells #[.slice aad ab.length acc0, .slice mad mk.length mcc] 44 (0, 0)) :: M) ∧ Tri wd i u) (fun k => 60 - k) 0
      ⟨Nat.zero_le _, u, _, _, mt.sub ⟨rfl, rfl, rfl, rfl, rfl, rfl, trivial⟩, hs1, st, hT⟩ (fun k a w' hI' => ?_)
    obtain ⟨hk, u, I2', M, mt, hs2, st, hT⟩ := hI'
    have rva2 := rva.mono hs2
    refine w_seq ?_
    refine w_rs ?_
    refine step_pure mt (pu_move rfl) rfl (fun a mt => ?_)
    refine step_pure mt (pu_fld 0 K.fl44_0 rfl) rfl (fun a mt => ?_)
    refine step_pure mt (pu_loadM st K.sc41 rfl rfl) rfl (fun a mt => ?_)
    refine step_pure mt (pu_len rfl K.un41) rfl (fun a mt => ?_)
    refine step_pure mt (pu_lss rfl rfl) rfl (fun a mt => ?_)
    refine step_pure mt (pu_move rfl) rfl (fun a mt => ?_)
    refine split_p 37 mt rfl (fun g37 mt => ?_) (fun g37 mt => ?_)
    · have hl : ab[i]? = some (ab[i]'(by omega)) := List.getElem?_eq_getElem (by omega)
      have hrr : rows[i]? = some (rows[i]'(by omega)) := List.getElem?_eq_getElem (by omega)
      generalize ab[i]'(by omega) = l at hl
      generalize rows[i]'(by omega) = r at hrr
      have rl := (rrow i l r hl hrr).mono hs2
      have hlmax := rl.max
      unfold maxLen at hlmax
      have hur : rows[((i : Nat) : Int).toNat]? = some r := by simp [hrr]
      refine step_pure_g mt rfl rfl (pu_move rfl) rfl (fun a mt => ?_)
      refine step_pure_g mt rfl rfl (pu_fld 0 K.fl44_0 rfl) rfl (fun a mt => ?_)
      refine step_pure_g mt rfl rfl (pu_loadM st K.sc41 rfl rfl) rfl (fun a mt => ?_)
      refine step_pure_g mt rfl rfl (pu_move rfl) rfl (fun a mt => ?_)
      refine step_pure_g mt rfl rfl (pu_ia (m := ab.length) (i := i) K.el41 (by decide) rfl rva2 rfl (by omega) (by omega)) rfl (fun a mt => ?_)
      refine step_pure_g mt rfl rfl (pu_loadR st K.sc42 rva2 rfl hur) rfl (fun a mt => ?_)
      refine step_pure_g mt rfl rfl (pu_len_r rfl (st.rdS rl) K.un42) rfl (fun a mt => ?_)
      refine step_pure_g mt rfl rfl (pu_lss rfl rfl) rfl (fun a mt => ?_)
      refine step_pure mt (pu_pick rfl rfl) rfl (fun a mt => ?_)
      refine step_pure mt (pu_move rfl) rfl (fun a mt => ?_)
      refine split_p 47 mt rfl (fun g47 mt => ?_) (fun g47 mt => ?_)
      · refine step_pure_g mt rfl rfl (pu_move rfl) rfl (fun a mt => ?_)
        refine step_pure_g mt rfl rfl (pu_lss rfl rfl) rfl (fun a mt => ?_)
        refine step_pure mt (pu_pick rfl rfl) rfl (fun a mt => ?_)
        refine w_nil ?_
        refine w_cond mt rfl (fun h50 => ?_) (fun h50 => ?_)
        · have hkl : k < l.length := by omega
          have hx : l[k]? = some l[k] := List.getElem?_eq_getElem hkl
          generalize l[k] = x at hx
          have hxu : (l.map intV)[((k : Nat) : Int).toNat]? = some (.int .i64 x) := by simp [hx, intV]
          refine w_skip ?_
          refine x_then_n ?_
          refine w_seq ?_
          refine w_block ?_
          refine w_rs ?_
          refine step_pure mt (pu_fld 0 K.fl44_0 rfl) rfl (fun a mt => ?_)
          refine step_pure mt (pu_loadM st K.sc41 rfl rfl) rfl (fun a mt => ?_)
          refine step_pure mt (pu_move rfl) rfl (fun a mt => ?_)
          refine step_pure mt (pu_ia (m := ab.length) (i := i) K.el41 (by decide) rfl rva2 rfl (by omega) (by omega)) rfl (fun a mt => ?_)
          refine step_pure mt (pu_loadR st K.sc42 rva2 rfl hur) rfl (fun a mt => ?_)
          refine step_pure mt (pu_move rfl) rfl (fun a mt => ?_)
          refine step_pure mt (pu_ia (m := l.length) (i := k) K.el42 (by decide) rfl rl rfl (by omega) (by omega)) rfl (fun a mt => ?_)
          refine step_pure mt (pu_loadR st K.sc3 rl rfl hxu) rfl (fun a mt => ?_)
          refine step_pure mt (pu_move rfl) rfl (fun a mt => ?_)
          refine s_callv mt st K.cb23 (vs := [.int .i64 x, .int .i64 wd]) rfl (mod_ok x wd (by omega) (by omega) _) rfl (fun a w' mt st => ?_)
          have hj := modI_lt x (n := wd) (by omega)
          obtain ⟨j, hje⟩ : ∃ j, modI x wd = j := ⟨_, rfl⟩
          rw [hje] at mt hj
          have hj8 : j < 8 := by omega
          refine step_pure mt (pu_assign rfl) rfl (fun a mt => ?_)
          refine w_nil ?_
          refine w_rs ?_
          refine step_pure mt (pu_assign rfl) rfl (fun a mt => ?_)
          refine w_nil ?_
          refine w_block ?_
          refine w_loop (ι := Nat) (fun n a w' => n ≤ wd ∧ (n = 0 ∨ i < j) ∧ ∃ I' M, Mt 143 a [(1, pv b1), (2, pv b2), (3, .int .i64 wd), (4, pv b4), (5, .int .i64 i), (6, .int .i64 k), (7, .int .i64 j), (8, .int .i64 n)] ∧ Sub I I' ∧ St [] w I w' I' (.blk b4 (.cells (mcells (mergeTo u i j n)).toArray 81 (0, 0)) :: .blk b2 (.cells #[.slice none 0 0, .slice none 0 0] 44 (0, 0)) :: .blk b1 (.cells #[.slice aad ab.length acc0, .slice mad mk.length mcc] 44 (0, 0)) :: M)) (fun n => wd - n) 0
            ⟨Nat.zero_le _, .inl rfl, _, _, mt.sub ⟨rfl, rfl, rfl, rfl, rfl, rfl, rfl, rfl, trivial⟩, hs2, by rw [merge_zero]; exact st⟩ (fun n a w' hI' => ?_)
          obtain ⟨hn, hnj, I3', M, mt, hs3, st⟩ := hI'
          refine w_seq ?_
          refine w_rs ?_
          refine step_pure mt (pu_move rfl) rfl (fun a mt => ?_)
          refine step_pure mt (pu_move rfl) rfl (fun a mt => ?_)
          refine step_pure mt (pu_gtr rfl rfl) rfl (fun a mt => ?_)
          refine step_pure mt (pu_move rfl) rfl (fun a mt => ?_)
          refine split_p 66 mt rfl (fun g66 mt => ?_) (fun g66 mt => ?_)
          · refine step_pure_g mt rfl rfl (pu_move rfl) rfl (fun a mt => ?_)
            refine step_pure_g mt rfl rfl (pu_move rfl) rfl (fun a mt => ?_)
            refine step_pure_g mt rfl rfl (pu_lss rfl rfl) rfl (fun a mt => ?_)
            refine step_pure mt (pu_pick rfl rfl) rfl (fun a mt => ?_)
            refine w_nil ?_
            refine w_cond mt rfl (fun h70 => ?_) (fun h70 => ?_)
            · have hn8 : n < 8 := by omega
              have hij : i ≠ j := by omega
              refine w_skip ?_
              refine x_then_n ?_
              refine w_seq ?_
              refine w_block ?_
              by_cases d80 : mergeTo u i j n i n = true
              · have em : setM (mergeTo u i j n) i n true = mergeTo u i j (n + 1) := by
                  rw [← merge_step u n hij, d80]; rfl
                refine w_region_tail 16 K.mixed rfl rfl mt ?_
                refine mo_pure (pu_move rfl) ?_
                refine mo_pure (pu_move rfl) ?_
                refine mo_pure (pu_move rfl) ?_
                refine mo_pure (pu_move rfl) ?_
                refine mo_pure (pu_ar (p := 8 * i) K.un81 K.sz53 rfl rfl hi8 (by omega)) ?_
                refine mo_pure (pu_ar (p := 8 * i + n) K.un53 K.sz4 rfl rfl hn8 (by omega)) ?_
                refine mo_pure ((pu_loadM st K.sc4 rfl (mload _ hi8 hn8)).to (u := .bool (decide (mergeTo u i j n i n = true))) (by simp)) ?_
                refine mo_pure ((pu_move rfl).tob (decide_eq_true d80)) ?_
                refine mo_skip_g rfl rfl rfl ?_
                refine mo_skip_g rfl rfl rfl ?_
                refine mo_skip_g rfl rfl rfl ?_
                refine mo_skip_g rfl rfl rfl ?_
                refine mo_skip_g rfl rfl rfl ?_
                refine mo_pure (pu_pick rfl rfl) ?_
                refine mo_pure (pu_ar (p := 8 * i) K.un81 K.sz53 rfl rfl hi8 (by omega)) ?_
                refine mo_pure (pu_ar (p := 8 * i + n) K.un53 K.sz4 rfl rfl hn8 (by omega)) ?_
                refine mo_endT (fun a w' mt pr hb => ?_)
                have hIx := Iext_sub st.agr w'
                replace st := st.extI hb
                refine s_store mt st K.sz4 rfl rfl rfl (by rw [List.size_toArray, mcells_len]; omega) (fun w' st => ?_)
                refine w_nil' ?_
                rw [mset _ _ hi8 hn8, em] at st
                refine x_block_n ?_
                refine x_then_n ?_
                refine w_region ?_
                refine step_pure mt (pu_move rfl) rfl (fun a mt => ?_)
                refine step_pure mt (pu_add_i rfl rfl (by omega)) rfl (fun a mt => ?_)
                refine step_pure mt (pu_assign rfl) rfl (fun a mt => ?_)
                refine w_nil' ?_
                refine x_then_n ?_
                exact ⟨n + 1, ⟨by omega, .inr (by omega), _, _, mt.sub ⟨rfl, rfl, rfl, rfl, rfl, rfl, rfl, rfl, trivial⟩, hs3.trans hIx, st⟩, by omega⟩
              · have em : setM (mergeTo u i j n) i n (mergeTo u i j n j n) = mergeTo u i j (n + 1) := by
                  rw [← merge_step u n hij, Bool.eq_false_iff.2 d80]; rfl
                refine w_region_tail 16 K.mixed rfl rfl mt ?_
                refine mo_pure (pu_move rfl) ?_
                refine mo_pure (pu_move rfl) ?_
                refine mo_pure (pu_move rfl) ?_
                refine mo_pure (pu_move rfl) ?_
                refine mo_pure (pu_ar (p := 8 * i) K.un81 K.sz53 rfl rfl hi8 (by omega)) ?_
                refine mo_pure (pu_ar (p := 8 * i + n) K.un53 K.sz4 rfl rfl hn8 (by omega)) ?_
                refine mo_pure ((pu_loadM st K.sc4 rfl (mload _ hi8 hn8)).to (u := .bool (decide (mergeTo u i j n i n = true))) (by simp)) ?_
                refine mo_pure ((pu_move rfl).tob (decide_eq_false d80)) ?_
                refine mo_pure_g rfl rfl (pu_move rfl) ?_
                refine mo_pure_g rfl rfl (pu_move rfl) ?_
                refine mo_pure_g rfl rfl (pu_ar (p := 8 * j) K.un81 K.sz53 rfl rfl hj8 (by omega)) ?_
                refine mo_pure_g rfl rfl (pu_ar (p := 8 * j + n) K.un53 K.sz4 rfl rfl hn8 (by omega)) ?_
                refine mo_pure_g rfl rfl (pu_loadM st K.sc4 rfl (mload _ hj8 hn8)) ?_
                refine mo_pure (pu_pick rfl rfl) ?_
                refine mo_pure (pu_ar (p := 8 * i) K.un81 K.sz53 rfl rfl hi8 (by omega)) ?_
                refine mo_pure (pu_ar (p := 8 * i + n) K.un53 K.sz4 rfl rfl hn8 (by omega)) ?_
                refine mo_endT (fun a w' mt pr hb => ?_)
                have hIx := Iext_sub st.agr w'
                replace st := st.extI hb
                refine s_store mt st K.sz4 rfl rfl rfl (by rw [List.size_toArray, mcells_len]; omega) (fun w' st => ?_)
                refine w_nil' ?_
                rw [mset _ _ hi8 hn8, em] at st
                refine x_block_n ?_
                refine x_then_n ?_
                refine w_region ?_
                refine step_pure mt (pu_move rfl) rfl (fun a mt => ?_)
                refine step_pure mt (pu_add_i rfl rfl (by omega)) rfl (fun a mt => ?_)
                refine step_pure mt (pu_assign rfl) rfl (fun a mt => ?_)
                refine w_nil' ?_
                refine x_then_n ?_
                exact ⟨n + 1, ⟨by omega, .inr (by omega), _, _, mt.sub ⟨rfl, rfl, rfl, rfl, rfl, rfl, rfl, rfl, trivial⟩, hs3.trans hIx, st⟩, by omega⟩
            · have hT2 : Tri wd i (mergeTo u i j n) := by
                have hnw : n = wd := by omega
                rw [hnw]; exact hT.merge (by omega)
              refine w_exit (x_then_exit (x_then_exit (x_block_out ?_)))
              refine x_block_n ?_
              refine x_then_n ?_
              refine w_region ?_
              refine step_pure mt (pu_move rfl) rfl (fun a mt => ?_)
              refine step_pure mt (pu_add_i rfl rfl (by omega)) rfl (fun a mt => ?_)
              refine step_pure mt (pu_assign rfl) rfl (fun a mt => ?_)
              refine w_nil' ?_
              refine x_then_n ?_
              exact ⟨k + 1, ⟨by omega, _, _, _, mt.sub ⟨rfl, rfl, rfl, rfl, rfl, rfl, trivial⟩, hs3, st, hT2⟩, by omega⟩
          · have hT2 : Tri wd i (mergeTo u i j n) := by
              have hn0 : n = 0 := by omega
              rw [hn0, merge_zero]; exact hT
            refine step_skip_g mt rfl rfl rfl rfl (fun a mt => ?_)
            refine step_skip_g mt rfl rfl rfl rfl (fun a mt => ?_)
            refine step_skip_g mt rfl rfl rfl rfl (fun a mt => ?_)
            refine step_pure mt (pu_pick rfl rfl) rfl (fun a mt => ?_)
            refine w_nil ?_
            refine w_false mt rfl ?_
            refine w_exit (x_then_exit (x_then_exit (x_block_out ?_)))
            refine x_block_n ?_
            refine x_then_n ?_
            refine w_region ?_
            refine step_pure mt (pu_move rfl) rfl (fun a mt => ?_)
            refine step_pure mt (pu_add_i rfl rfl (by omega)) rfl (fun a mt => ?_)
            refine step_pure mt (pu_assign rfl) rfl (fun a mt => ?_)
            refine w_nil' ?_
            refine x_then_n ?_
            exact ⟨k + 1, ⟨by omega, _, _, _, mt.sub ⟨rfl, rfl, rfl, rfl, rfl, rfl, trivial⟩, hs3, st, hT2⟩, by omega⟩
        · refine w_exit (x_then_exit (x_then_exit (x_block_out ?_)))
          refine x_block_n ?_
          refine x_then_n ?_
          refine w_region ?_
          refine step_pure mt (pu_move rfl) rfl (fun a mt => ?_)
          refine step_pure mt (pu_sub_i rfl rfl (by omega)) rfl (fun a mt => ?_)
          refine step_pure mt (pu_assign rfl) rfl (fun a mt => ?_)
          refine w_nil' ?_
          refine x_then_n ?_
          exact ⟨i, ⟨by omega, _, _, _, mt.sub ⟨rfl, rfl, rfl, rfl, rfl, trivial⟩, hs2, st, hT⟩, by omega⟩
      · refine step_skip_g mt rfl rfl rfl rfl (fun a mt => ?_)
        refine step_skip_g mt rfl rfl rfl rfl (fun a mt => ?_)
        refine step_pure mt (pu_pick rfl rfl) rfl (fun a mt => ?_)
        refine w_nil ?_
        refine w_false mt rfl ?_
        refine w_exit (x_then_exit (x_then_exit (x_block_out ?_)))
        refine x_block_n ?_
        refine x_then_n ?_
        refine w_region ?_
        refine step_pure mt (pu_move rfl) rfl (fun a mt => ?_)
        refine step_pure mt (pu_sub_i rfl rfl (by omega)) rfl (fun a mt => ?_)
        refine step_pure mt (pu_assign rfl) rfl (fun a mt => ?_)
        refine w_nil' ?_
        refine x_then_n ?_
        exact ⟨i, ⟨by omega, _, _, _, mt.sub ⟨rfl, rfl, rfl, rfl, rfl, trivial⟩, hs2, st, hT⟩, by omega⟩
    · refine step_skip_g mt rfl rfl rfl rfl (fun a mt => ?_)
      refine step_skip_g mt rfl rfl rfl rfl (fun a mt => ?_)
      refine step_skip_g mt rfl rfl rfl rfl (fun a mt => ?_)
      refine step_skip_g mt rfl rfl rfl rfl (fun a mt => ?_)
      refine step_skip_g mt rfl rfl rfl rfl (fun a mt => ?_)
      refine step_skip_g mt rfl rfl rfl rfl (fun a mt => ?_)
      refine step_skip_g mt rfl rfl rfl rfl (fun a mt => ?_)
      refine step_skip_g mt rfl rfl rfl rfl (fun a mt => ?_)
      refine step_pure mt (pu_pick rfl rfl) rfl (fun a mt => ?_)
      refine step_pure mt (pu_move rfl) rfl (fun a mt => ?_)
      refine step_skip_g mt rfl rfl rfl rfl (fun a mt => ?_)
      refine step_skip_g mt rfl rfl rfl rfl (fun a mt => ?_)
      refine step_pure mt (pu_pick rfl rfl) rfl (fun a mt => ?_)
      refine w_nil ?_
      refine w_false mt rfl ?_
      refine w_exit (x_then_exit (x_then_exit (x_block_out ?_)))
      refine x_block_n ?_
      refine x_then_n ?_
      refine w_region ?_
      refine step_pure mt (pu_move rfl) rfl (fun a mt => ?_)
      refine step_pure mt (pu_sub_i rfl rfl (by omega)) rfl (fun a mt => ?_)
      refine step_pure mt (pu_assign rfl) rfl (fun a mt => ?_)
      refine w_nil' ?_
      refine x_then_n ?_
      exact ⟨i, ⟨by omega, _, _, _, mt.sub ⟨rfl, rfl, rfl, rfl, rfl, trivial⟩, hs2, st, hT⟩, by omega⟩
  · obtain rfl : m = 0 := by omega
    refine w_exit (x_then_exit (x_then_exit (x_block_out ?_)))
    refine x_then_n ?_
    refine w_rs ?_
    refine step_alloc mt st (al_alloc K.ze44 rfl) rfl (fun a w' b9 mt st => ?_)
    have st := (st.nilRow 3 1).nilRow 42 1
    refine w_nil ?_
    refine w_seq ?_
    refine w_rs ?_
    refine step_pure mt (pu_assign rfl) rfl (fun a mt => ?_)
    refine w_nil ?_
    refine w_block ?_
    refine w_loop (ι := Nat) (fun i a w' => i ≤ wd ∧ ∃ I' va vm rows' M, Mt 143 a [(1, pv b1), (2, pv b2), (3, .int .i64 wd), (4, pv b4), (9, pv b9), (10, .int .i64 i)] ∧ Sub I I' ∧ St [] w I w' I' (.row va 42 1 i rows' :: .row vm 3 1 i ((List.range i).map fun a => intV ((mkTo u mk a wd : Nat) : Int)) :: .blk b9 (.cells #[va, vm] 44 (0, 0)) :: .blk b4 (.cells (mcells u).toArray 81 (0, 0)) :: .blk b2 (.cells #[.slice none 0 0, .slice none 0 0] 44 (0, 0)) :: .blk b1 (.cells #[.slice aad ab.length acc0, .slice mad mk.length mcc] 44 (0, 0)) :: M) ∧
        ∀ (a : Nat) (r : Value), rows'[a]? = some r → RdS I' r 1 (rowTo u a wd).length ((rowTo u a wd).map intV)) (fun i => wd - i) 0
      ⟨Nat.zero_le _, _, _, _, [], _, mt.sub ⟨rfl, rfl, rfl, rfl, rfl, rfl, trivial⟩, hs1, st, fun a r h => by simp at h⟩ (fun i a w' hI' => ?_)
    obtain ⟨hi, I4', va, vm, rows', M, mt, hs4, st, hrows⟩ := hI'
    refine w_seq ?_
    refine w_rs ?_
    refine step_pure mt (pu_move rfl) rfl (fun a mt => ?_)
    refine step_pure mt (pu_move rfl) rfl (fun a mt => ?_)
    refine step_pure mt (pu_lss rfl rfl) rfl (fun a mt => ?_)
    refine w_nil ?_
    refine w_cond mt rfl (fun h91 => ?_) (fun h91 => ?_)
    · have hi8 : i < 8 := by omega
      have hrl' : rows'.length = i := by have := (st.rowM (Pick.here _ _)).nlen; exact this
      have rvm4 := rvm.mono hs4
      refine w_skip ?_
      refine x_then_n ?_
      refine w_seq ?_
      refine w_block ?_
      refine w_rs ?_
      refine step_pure mt (pu_assign rfl) rfl (fun a mt => ?_)
      refine w_nil ?_
      have st := st.nilRow 3 1
      refine w_rs ?_
      refine step_pure mt (pu_assign rfl) rfl (fun a mt => ?_)
      refine w_nil ?_
      refine w_seq ?_
      refine w_rs ?_
      refine step_pure mt (pu_assign rfl) rfl (fun a mt => ?_)
      refine w_nil ?_
      refine w_block ?_
      refine w_loop (ι := Nat) (fun j a w' => j ≤ wd ∧ ∃ v11 M, Mt 143 a [(1, pv b1), (2, pv b2), (3, .int .i64 wd), (4, pv b4), (9, pv b9), (10, .int .i64 i), (11, v11), (12, .int .i64 ((mkTo u mk i j : Nat) : Int)), (13, .int .i64 j)] ∧ St [] w I w' I4' (.row v11 3 1 (rowTo u i j).length ((rowTo u i j).map intV) :: .row va 42 1 i rows' :: .row vm 3 1 i ((List.range i).map fun a => intV ((mkTo u mk a wd : Nat) : Int)) :: .blk b9 (.cells #[va, vm] 44 (0, 0)) :: .blk b4 (.cells (mcells u).toArray 81 (0, 0)) :: .blk b2 (.cells #[.slice none 0 0, .slice none 0 0] 44 (0, 0)) :: .blk b1 (.cells #[.slice aad ab.length acc0, .slice mad mk.length mcc] 44 (0, 0)) :: M)) (fun j => wd - j) 0
        ⟨Nat.zero_le _, _, _, mt.sub ⟨rfl, rfl, rfl, rfl, rfl, rfl, rfl, rfl, rfl, trivial⟩, st⟩ (fun j a w' hI' => ?_)
      obtain ⟨hj, v11, M, mt, st⟩ := hI'
      have hrt := rowTo_len u i j
      have hmt := mkTo_lt u mk i j
      refine w_seq ?_
      refine w_rs ?_
      refine step_pure mt (pu_move rfl) rfl (fun a mt => ?_)
      refine step_pure mt (pu_move rfl) rfl (fun a mt => ?_)
      refine step_pure mt (pu_lss rfl rfl) rfl (fun a mt => ?_)
      refine w_nil ?_
      refine w_cond mt rfl (fun h96 => ?_) (fun h96 => ?_)
      · have hj8 : j < 8 := by omega
        refine w_skip ?_
        refine x_then_n ?_
        refine w_seq ?_
        refine w_block ?_
        refine w_seq ?_
        refine w_rs ?_
        refine step_pure mt (pu_move rfl) rfl (fun a mt => ?_)
        refine step_pure mt (pu_move rfl) rfl (fun a mt => ?_)
        refine step_pure mt (pu_ar (p := 8 * i) K.un81 K.sz53 rfl rfl hi8 (by omega)) rfl (fun a mt => ?_)
        refine step_pure mt (pu_ar (p := 8 * i + j) K.un53 K.sz4 rfl rfl hj8 (by omega)) rfl (fun a mt => ?_)
        refine step_pure mt (pu_loadM st K.sc4 rfl (mload _ hi8 hj8)) rfl (fun a mt => ?_)
        refine w_nil ?_
        refine w_cond_b mt rfl (fun h103 => ?_) (fun h103 => ?_)
        · have e1 : rowTo u i (j + 1) = rowTo u i j ++ [(j : Int)] := by rw [rowTo_succ, if_pos h103]
          refine w_region ?_
          refine step_pure mt (pu_move rfl) rfl (fun a mt => ?_)
          refine step_pure mt (pu_move rfl) rfl (fun a mt => ?_)
          refine step_alloc mt st (al_lit1 (vs := [.int .i64 j]) K.el42 rfl rfl rfl rfl rfl (by simp [Value.oneCell'])) rfl (fun a w' b106 mt st => ?_)
          refine s_append mt st K.el42 rfl (by decide) rfl rfl rfl (by simp [Value.oneCell']) (by simp only [maxLen]; omega) (by omega) rfl (fun a w' v107 mt st => ?_)
          refine step_pure mt (pu_assign rfl) rfl (fun a mt => ?_)
          refine w_nil' ?_
          refine x_then_n ?_
          refine w_rs ?_
          refine step_pure mt (pu_move rfl) rfl (fun a mt => ?_)
          refine step_pure mt (pu_move rfl) rfl (fun a mt => ?_)
          refine step_pure mt (pu_ar (p := 8 * j) K.un81 K.sz53 rfl rfl hj8 (by omega)) rfl (fun a mt => ?_)
          refine step_pure mt (pu_ar (p := 8 * j + i) K.un53 K.sz4 rfl rfl hi8 (by omega)) rfl (fun a mt => ?_)
          refine step_pure mt (pu_loadM st K.sc4 rfl (mload _ hj8 hi8)) rfl (fun a mt => ?_)
          refine step_pure mt (pu_move rfl) rfl (fun a mt => ?_)
          refine split_b 113 mt rfl (fun g113 mt => ?_) (fun g113 mt => ?_)
          · refine step_pure_g mt rfl rfl (pu_move rfl) rfl (fun a mt => ?_)
            refine step_pure_g mt rfl rfl (pu_fld 1 K.fl44_1 rfl) rfl (fun a mt => ?_)
            refine step_pure_g mt rfl rfl (pu_loadM st K.sc42 rfl rfl) rfl (fun a mt => ?_)
            refine step_pure_g mt rfl rfl (pu_len rfl K.un42) rfl (fun a mt => ?_)
            refine step_pure_g mt rfl rfl (pu_lss rfl rfl) rfl (fun a mt => ?_)
            refine step_pure mt (pu_pick rfl rfl) rfl (fun a mt => ?_)
            refine w_nil ?_
            refine w_cond mt rfl (fun h119 => ?_) (fun h119 => ?_)
            · have hjm : j < mk.length := by omega
              have hm0 : mk[j]? = some (mk[j]'hjm) := List.getElem?_eq_getElem hjm
              generalize mk[j]'hjm = x at hm0
              have hxu : (mk.map intV)[((j : Nat) : Int).toNat]? = some (.int .i64 x) := by simp [hm0, intV]
              have e2 : mkTo u mk i (j + 1) = mkTo u mk i j ||| modI x 16 := by simp only [mkTo]; rw [if_pos ⟨g113, hjm⟩]; simp [hm0]
              have hq := modI_lt x (n := 16) (by decide)
              refine w_region ?_
              refine step_pure mt (pu_move rfl) rfl (fun a mt => ?_)
              refine step_pure mt (pu_fld 1 K.fl44_1 rfl) rfl (fun a mt => ?_)
              refine step_pure mt (pu_loadM st K.sc42 rfl rfl) rfl (fun a mt => ?_)
              refine step_pure mt (pu_move rfl) rfl (fun a mt => ?_)
              refine step_pure mt (pu_ia (m := mk.length) (i := j) K.el42 (by decide) rfl rvm4 rfl (by omega) (by omega)) rfl (fun a mt => ?_)
              refine step_pure mt (pu_loadR st K.sc3 rvm4 rfl hxu) rfl (fun a mt => ?_)
              refine s_callv mt st K.cb23 (vs := [.int .i64 x, .int .i64 ((16 : Nat) : Int)]) rfl (mod_ok x 16 (by decide) (by decide) _) rfl (fun a w' mt st => ?_)
              refine step_pure mt ((pu_or rfl rfl).to (u := .int .i64 ((mkTo u mk i (j + 1) : Nat) : Int)) (by rw [e2, ← orN2 hmt hq])) rfl (fun a mt => ?_)
              refine step_pure mt (pu_assign rfl) rfl (fun a mt => ?_)
              refine w_nil' ?_
              refine x_block_n ?_
              refine x_then_n ?_
              refine w_region ?_
              refine step_pure mt (pu_move rfl) rfl (fun a mt => ?_)
              refine step_pure mt (pu_add_i rfl rfl (by omega)) rfl (fun a mt => ?_)
              refine step_pure mt (pu_assign rfl) rfl (fun a mt => ?_)
              refine w_nil' ?_
              refine x_then_n ?_
              exact ⟨j + 1, ⟨by omega, _, _, by first | exact mt.sub ⟨rfl, rfl, rfl, rfl, rfl, rfl, rfl, rfl, rfl, trivial⟩ | (rw [e2]; exact mt.sub ⟨rfl, rfl, rfl, rfl, rfl, rfl, rfl, rfl, rfl, trivial⟩), by
                first
                | (rw [e1]; exact st)
                | (rw [e1]
                   have e3 : (rowTo u i j ++ [(j : Int)]).length = (rowTo u i j).length + 1 := by simp
                   have e4 : (rowTo u i j ++ [(j : Int)]).map intV = (rowTo u i j).map intV ++ [.int .i64 j] := by simp [intV]
                   rw [e3, e4]
                   exact st)⟩, by omega⟩
            · have e2 : mkTo u mk i (j + 1) = mkTo u mk i j := by simp only [mkTo]; rw [if_neg (fun h => by have := h.2; omega)]
              refine w_skip ?_
              refine x_block_n ?_
              refine x_then_n ?_
              refine w_region ?_
              refine step_pure mt (pu_move rfl) rfl (fun a mt => ?_)
              refine step_pure mt (pu_add_i rfl rfl (by omega)) rfl (fun a mt => ?_)
              refine step_pure mt (pu_assign rfl) rfl (fun a mt => ?_)
              refine w_nil' ?_
              refine x_then_n ?_
              exact ⟨j + 1, ⟨by omega, _, _, by first | exact mt.sub ⟨rfl, rfl, rfl, rfl, rfl, rfl, rfl, rfl, rfl, trivial⟩ | (rw [e2]; exact mt.sub ⟨rfl, rfl, rfl, rfl, rfl, rfl, rfl, rfl, rfl, trivial⟩), by
                first
                | (rw [e1]; exact st)
                | (rw [e1]
                   have e3 : (rowTo u i j ++ [(j : Int)]).length = (rowTo u i j).length + 1 := by simp
                   have e4 : (rowTo u i j ++ [(j : Int)]).map intV = (rowTo u i j).map intV ++ [.int .i64 j] := by simp [intV]
                   rw [e3, e4]
                   exact st)⟩, by omega⟩
          · have e2 : mkTo u mk i (j + 1) = mkTo u mk i j := by simp only [mkTo]; rw [if_neg (fun h => by rw [g113] at h; exact absurd h.1 (by decide))]
            refine step_skip_g mt rfl rfl rfl rfl (fun a mt => ?_)
            refine step_skip_g mt rfl rfl rfl rfl (fun a mt => ?_)
            refine step_skip_g mt rfl rfl rfl rfl (fun a mt => ?_)
            refine step_skip_g mt rfl rfl rfl rfl (fun a mt => ?_)
            refine step_skip_g mt rfl rfl rfl rfl (fun a mt => ?_)
            refine step_pure mt (pu_pick rfl rfl) rfl (fun a mt => ?_)
            refine w_nil ?_
            refine w_false mt rfl ?_
            refine w_skip ?_
            refine x_block_n ?_
            refine x_then_n ?_
            refine w_region ?_
            refine step_pure mt (pu_move rfl) rfl (fun a mt => ?_)
            refine step_pure mt (pu_add_i rfl rfl (by omega)) rfl (fun a mt => ?_)
            refine step_pure mt (pu_assign rfl) rfl (fun a mt => ?_)
            refine w_nil' ?_
            refine x_then_n ?_
            exact ⟨j + 1, ⟨by omega, _, _, by first | exact mt.sub ⟨rfl, rfl, rfl, rfl, rfl, rfl, rfl, rfl, rfl, trivial⟩ | (rw [e2]; exact mt.sub ⟨rfl, rfl, rfl, rfl, rfl, rfl, rfl, rfl, rfl, trivial⟩), by
              first
              | (rw [e1]; exact st)
              | (rw [e1]
                 have e3 : (rowTo u i j ++ [(j : Int)]).length = (rowTo u i j).length + 1 := by simp
                 have e4 : (rowTo u i j ++ [(j : Int)]).map intV = (rowTo u i j).map intV ++ [.int .i64 j] := by simp [intV]
                 rw [e3, e4]
                 exact st)⟩, by omega⟩
        · have e1 : rowTo u i (j + 1) = rowTo u i j := by rw [rowTo_succ, if_neg (by rw [h103]; decide)]
          refine w_skip ?_
          refine x_then_n ?_
          refine w_rs ?_
          refine step_pure mt (pu_move rfl) rfl (fun a mt => ?_)
          refine step_pure mt (pu_move rfl) rfl (fun a mt => ?_)
          refine step_pure mt (pu_ar (p := 8 * j) K.un81 K.sz53 rfl rfl hj8 (by omega)) rfl (fun a mt => ?_)
          refine step_pure mt (pu_ar (p := 8 * j + i) K.un53 K.sz4 rfl rfl hi8 (by omega)) rfl (fun a mt => ?_)
          refine step_pure mt (pu_loadM st K.sc4 rfl (mload _ hj8 hi8)) rfl (fun a mt => ?_)
          refine step_pure mt (pu_move rfl) rfl (fun a mt => ?_)
          refine split_b 113 mt rfl (fun g113 mt => ?_) (fun g113 mt => ?_)
          · refine step_pure_g mt rfl rfl (pu_move rfl) rfl (fun a mt => ?_)
            refine step_pure_g mt rfl rfl (pu_fld 1 K.fl44_1 rfl) rfl (fun a mt => ?_)
            refine step_pure_g mt rfl rfl (pu_loadM st K.sc42 rfl rfl) rfl (fun a mt => ?_)
            refine step_pure_g mt rfl rfl (pu_len rfl K.un42) rfl (fun a mt => ?_)
            refine step_pure_g mt rfl rfl (pu_lss rfl rfl) rfl (fun a mt => ?_)
            refine step_pure mt (pu_pick rfl rfl) rfl (fun a mt => ?_)
            refine w_nil ?_
            refine w_cond mt rfl (fun h119 => ?_) (fun h119 => ?_)
            · have hjm : j < mk.length := by omega
              have hm0 : mk[j]? = some (mk[j]'hjm) := List.getElem?_eq_getElem hjm
              generalize mk[j]'hjm = x at hm0
              have hxu : (mk.map intV)[((j : Nat) : Int).toNat]? = some (.int .i64 x) := by simp [hm0, intV]
              have e2 : mkTo u mk i (j + 1) = mkTo u mk i j ||| modI x 16 := by simp only [mkTo]; rw [if_pos ⟨g113, hjm⟩]; simp [hm0]
              have hq := modI_lt x (n := 16) (by decide)
              refine w_region ?_
              refine step_pure mt (pu_move rfl) rfl (fun a mt => ?_)
              refine step_pure mt (pu_fld 1 K.fl44_1 rfl) rfl (fun a mt => ?_)
              refine step_pure mt (pu_loadM st K.sc42 rfl rfl) rfl (fun a mt => ?_)
              refine step_pure mt (pu_move rfl) rfl (fun a mt => ?_)
              refine step_pure mt (pu_ia (m := mk.length) (i := j) K.el42 (by decide) rfl rvm4 rfl (by omega) (by omega)) rfl (fun a mt => ?_)
              refine step_pure mt (pu_loadR st K.sc3 rvm4 rfl hxu) rfl (fun a mt => ?_)
              refine s_callv mt st K.cb23 (vs := [.int .i64 x, .int .i64 ((16 : Nat) : Int)]) rfl (mod_ok x 16 (by decide) (by decide) _) rfl (fun a w' mt st => ?_)
              refine step_pure mt ((pu_or rfl rfl).to (u := .int .i64 ((mkTo u mk i (j + 1) : Nat) : Int)) (by rw [e2, ← orN2 hmt hq])) rfl (fun a mt => ?_)
              refine step_pure mt (pu_assign rfl) rfl (fun a mt => ?_)
              refine w_nil' ?_
              refine x_block_n ?_
              refine x_then_n ?_
              refine w_region ?_
              refine step_pure mt (pu_move rfl) rfl (fun a mt => ?_)
              refine step_pure mt (pu_add_i rfl rfl (by omega)) rfl (fun a mt => ?_)
              refine step_pure mt (pu_assign rfl) rfl (fun a mt => ?_)
              refine w_nil' ?_
              refine x_then_n ?_
              exact ⟨j + 1, ⟨by omega, _, _, by first | exact mt.sub ⟨rfl, rfl, rfl, rfl, rfl, rfl, rfl, rfl, rfl, trivial⟩ | (rw [e2]; exact mt.sub ⟨rfl, rfl, rfl, rfl, rfl, rfl, rfl, rfl, rfl, trivial⟩), by
                first
                | (rw [e1]; exact st)
                | (rw [e1]
                   have e3 : (rowTo u i j ++ [(j : Int)]).length = (rowTo u i j).length + 1 := by simp
                   have e4 : (rowTo u i j ++ [(j : Int)]).map intV = (rowTo u i j).map intV ++ [.int .i64 j] := by simp [intV]
                   rw [e3, e4]
                   exact st)⟩, by omega⟩
            · have e2 : mkTo u mk i (j + 1) = mkTo u mk i j := by simp only [mkTo]; rw [if_neg (fun h => by have := h.2; omega)]
              refine w_skip ?_
              refine x_block_n ?_
              refine x_then_n ?_
              refine w_region ?_
              refine step_pure mt (pu_move rfl) rfl (fun a mt => ?_)
              refine step_pure mt (pu_add_i rfl rfl (by omega)) rfl (fun a mt => ?_)
              refine step_pure mt (pu_assign rfl) rfl (fun a mt => ?_)
              refine w_nil' ?_
              refine x_then_n ?_
              exact ⟨j + 1, ⟨by omega, _, _, by first | exact mt.sub ⟨rfl, rfl, rfl, rfl, rfl, rfl, rfl, rfl, rfl, trivial⟩ | (rw [e2]; exact mt.sub ⟨rfl, rfl, rfl, rfl, rfl, rfl, rfl, rfl, rfl, trivial⟩), by
                first
                | (rw [e1]; exact st)
                | (rw [e1]
                   have e3 : (rowTo u i j ++ [(j : Int)]).length = (rowTo u i j).length + 1 := by simp
                   have e4 : (rowTo u i j ++ [(j : Int)]).map intV = (rowTo u i j).map intV ++ [.int .i64 j] := by simp [intV]
                   rw [e3, e4]
                   exact st)⟩, by omega⟩
          · have e2 : mkTo u mk i (j + 1) = mkTo u mk i j := by simp only [mkTo]; rw [if_neg (fun h => by rw [g113] at h; exact absurd h.1 (by decide))]
            refine step_skip_g mt rfl rfl rfl rfl (fun a mt => ?_)
            refine step_skip_g mt rfl rfl rfl rfl (fun a mt => ?_)
            refine step_skip_g mt rfl rfl rfl rfl (fun a mt => ?_)
            refine step_skip_g mt rfl rfl rfl rfl (fun a mt => ?_)
            refine step_skip_g mt rfl rfl rfl rfl (fun a mt => ?_)
            refine step_pure mt (pu_pick rfl rfl) rfl (fun a mt => ?_)
            refine w_nil ?_
            refine w_false mt rfl ?_
            refine w_skip ?_
            refine x_block_n ?_
            refine x_then_n ?_
            refine w_region ?_
            refine step_pure mt (pu_move rfl) rfl (fun a mt => ?_)
            refine step_pure mt (pu_add_i rfl rfl (by omega)) rfl (fun a mt => ?_)
            refine step_pure mt (pu_assign rfl) rfl (fun a mt => ?_)
            refine w_nil' ?_
            refine x_then_n ?_
            exact ⟨j + 1, ⟨by omega, _, _, by first | exact mt.sub ⟨rfl, rfl, rfl, rfl, rfl, rfl, rfl, rfl, rfl, trivial⟩ | (rw [e2]; exact mt.sub ⟨rfl, rfl, rfl, rfl, rfl, rfl, rfl, rfl, rfl, trivial⟩), by
              first
              | (rw [e1]; exact st)
              | (rw [e1]
                 have e3 : (rowTo u i j ++ [(j : Int)]).length = (rowTo u i j).length + 1 := by simp
                 have e4 : (rowTo u i j ++ [(j : Int)]).map intV = (rowTo u i j).map intV ++ [.int .i64 j] := by simp [intV]
                 rw [e3, e4]
                 exact st)⟩, by omega⟩
      · have hjw : j = wd := by omega
        rw [hjw] at st mt
        obtain ⟨I2, st, hI2, hr11⟩ := st.sealRow (Pick.here _ _)
        have h11 := RdS.one hr11
        refine w_exit (x_then_exit (x_then_exit (x_block_out ?_)))
        refine x_then_n ?_
        refine w_drs K.mixed rfl mt ?_
        refine mo_pure (pu_fld 0 K.fl44_0 rfl) ?_
        refine mo_pure (pu_loadM st K.sc41 rfl rfl) ?_
        refine mo_pure (pu_fld 1 K.fl44_1 rfl) ?_
        refine mo_pure (pu_loadM st K.sc42 rfl rfl) ?_
        refine mo_pure (pu_assign rfl) ?_
        refine mo_pure (pu_assign rfl) ?_
        refine mo_end (fun a w' mt pr hb => ?_)
        have hIx := Iext_sub st.agr w'
        replace st := st.extI hb
        replace hI2 := hI2.trans hIx
        replace hr11 := hr11.mono hIx
        refine w_rs ?_
        refine step_pure mt (pu_move rfl) rfl (fun a mt => ?_)
        refine step_pure mt (pu_move rfl) rfl (fun a mt => ?_)
        refine step_alloc mt st (al_lit1 (vs := [v11]) K.el41 rfl rfl rfl rfl rfl (by simp [h11])) rfl (fun a w' b134 mt st => ?_)
        refine s_append mt st K.el41 rfl (by decide) rfl rfl rfl (by simp [h11]) (by simp only [maxLen]; omega) (by omega) rfl (fun a w' v135 mt st => ?_)
        have h135 := RdS.one (st.rowM (Pick.here _ _))
        refine step_pure mt (pu_fld 0 K.fl44_0 rfl) rfl (fun a mt => ?_)
        refine s_storeL mt st K.sz41 rfl rfl (by first | rfl | assumption) rfl rfl (fun w' st => ?_)
        refine w_nil ?_
        refine w_region ?_
        refine step_pure mt (pu_move rfl) rfl (fun a mt => ?_)
        refine step_pure mt (pu_move rfl) rfl (fun a mt => ?_)
        refine step_alloc mt st (al_lit1 (vs := [.int .i64 ((mkTo u mk i wd : Nat) : Int)]) K.el42 rfl rfl rfl rfl rfl (by simp [Value.oneCell'])) rfl (fun a w' b139 mt st => ?_)
        refine s_append mt st K.el42 rfl (by decide) rfl rfl rfl (by simp [Value.oneCell']) (by simp only [maxLen]; omega) (by omega) rfl (fun a w' v140 mt st => ?_)
        have h140 := RdS.one (st.rowM (Pick.here _ _))
        refine step_pure mt (pu_fld 1 K.fl44_1 rfl) rfl (fun a mt => ?_)
        refine s_storeL mt st K.sz42 rfl rfl (by first | rfl | assumption) rfl rfl (fun w' st => ?_)
        refine w_nil' ?_
        refine x_block_n ?_
        refine x_then_n ?_
        refine w_region ?_
        refine step_pure mt (pu_move rfl) rfl (fun a mt => ?_)
        refine step_pure mt (pu_add_i rfl rfl (by omega)) rfl (fun a mt => ?_)
        refine step_pure mt (pu_assign rfl) rfl (fun a mt => ?_)
        refine w_nil' ?_
        refine x_then_n ?_
        refine ⟨i + 1, ⟨by omega, _, v135, v140, rows' ++ [v11], M, mt.sub ⟨rfl, rfl, rfl, rfl, rfl, rfl, trivial⟩, hs4.trans hI2, ?_, fun a' r h2 => ?_⟩, by omega⟩
        · rw [List.range_succ, List.map_append]
          exact (st.pick (Pick.there _ (Pick.here _ _))).pick (Pick.there _ (Pick.there _ (Pick.here _ _)))
        · rcases Nat.lt_or_ge a' i with h | h
          · rw [List.getElem?_append_left (by omega)] at h2
            exact (hrows a' r h2).mono hI2
          · have hik : a' = i := by
              have := (List.getElem?_eq_some_iff.1 h2).1
              simp at this; omega
            subst hik
            rw [List.getElem?_append_right (by omega), hrl'] at h2
            simp at h2; subst h2
            exact hr11
    · have hiw : i = wd := by omega
      rw [hiw] at st
      have hva := RdS.one (st.rowM (Pick.here _ _))
      have hvm := RdS.one (st.rowM (Pick.there _ (Pick.here _ _)))
      refine w_exit (x_then_exit (x_then_exit (x_block_out ?_)))
      refine x_then_n ?_
      refine w_rs ?_
      refine step_pure mt (pu_loadMA st K.ag44 rfl rfl) rfl (fun a mt => ?_)
      refine s_storeA mt st K.sz44 rfl rfl rfl (by simp [hva, hvm]) rfl rfl (fun w' st => ?_)
      refine w_nil ?_
      refine w_ret ?_
      refine bodyPost_ret (results_agg (b := b2) rfl (mt.at_ 2 _ rfl) K.ag44 rfl (st.blkM PickB.pick)) mt.defers ?_
      have rva9 : RdS (Iext I w _) va 1 wd rows' := St.rowX st (by first | exact Pick.here _ _ | exact Pick.there _ (Pick.here _ _) | exact Pick.there _ (Pick.there _ (Pick.here _ _)) | exact Pick.there _ (Pick.there _ (Pick.there _ (Pick.here _ _))))
      have rvm9 : RdS (Iext I w _) vm 1 wd ((List.range wd).map fun a => intV ((mkTo u mk a wd : Nat) : Int)) := St.rowX st (by first | exact Pick.here _ _ | exact Pick.there _ (Pick.here _ _) | exact Pick.there _ (Pick.there _ (Pick.here _ _)) | exact Pick.there _ (Pick.there _ (Pick.there _ (Pick.here _ _))))
      refine ⟨_, rfl, st.below, u, wd, hT, hwd8.1, hwd8.2, va, vm, rows', rfl, by simpa [tmA] using rva9, fun a' l r h1 h2 => ?_, by rw [tmM, List.map_map, List.length_map, List.length_range]; exact rvm9⟩
      have ha : a' < wd := by have := (List.getElem?_eq_some_iff.1 h1).1; simpa [tmA] using this
      simp [tmA, ha] at h1
      subst h1
      exact (hrows a' r h2).mono (St.IX st)
end Go.Proofs.YtoilfakpgcjjpaaDoor.Log
namespace Go.Proofs.YtoilfakpgcjjpaaDoor.Log
open Go Go.RowKit Go.Proofs.YtoilfakpgcjjpaaDoor Go.Proofs.YtoilfakpgcjjpaaDoor.Eng
set_option linter.unusedVariables false
set_option linter.unusedSimpArgs false
theorem fc_mono {ab : List (List Int)} {mk : List Int} (h : isModF ab mk = true) {x : Fm} (hx : ats x) {i : Nat} {l : List Int} {y : Int} (hl : ab[i]? = some l) (hy : y ∈ l) (hf : fc ab mk x i = true) : fc ab mk x y.toNat = true := by
  have hil := (List.getElem?_eq_some_iff.1 hl).1
  have hb := (isModF_row h hl).2.2.2.2.2 y hy
  have hyl : y.toNat < ab.length := by omega
  refine (finK_forces h x hx ⟨y.toNat, hyl⟩).1 ((finK ab mk h).mono x ⟨i, hil⟩ ⟨y.toNat, hyl⟩ ?_ ((finK_forces h x hx ⟨i, hil⟩).2 hf))
  show ((y.toNat : Nat) : Int) ∈ ab.getD i []
  rw [show ab.getD i [] = l by simp [hl], Int.toNat_of_nonneg hb.1]
  exact hy
theorem vld_forL {ab : List (List Int)} {mk : List Int} (h : isModF ab mk = true) {x : Fm} (hx : ats x) (hv : vld [] x) : (forL ab mk x).length = ab.length := by
  unfold forL forTo
  rw [List.filter_eq_self.2 fun k hk => ?_, List.length_range]
  have hk : k < ab.length := by simpa using hk
  exact (finK_forces h x hx ⟨k, hk⟩).1 (hv (finK ab mk h) ⟨k, hk⟩ (fun y hy => by cases hy))
theorem mem_forL {ab : List (List Int)} {mk : List Int} {x : Fm} {k : Nat} : k ∈ forL ab mk x ↔ k < ab.length ∧ fc ab mk x k = true := by
  unfold forL forTo; simp
theorem tame2_ok {I : Hp} (ab : List (List Int)) (mk : List Int) (mv : Value) (w : World) (hI : Sub I (hp w)) (hm : ModV I ab mk mv) :
    CallsX Tryd.prog 29 #[mv] w fun v w' => ∃ ca cm, isModF ca cm = true ∧ ca.length ≤ 8 ∧ ModV (Iext I w w') ca cm v :=
  (tame_ok ab mk mv w hI hm).mono fun v w' _ ⟨u, wd, h1, h2, h3, h4⟩ => ⟨_, _, tame_model mk h1 h2 h3, by simp [tmA]; exact h3, h4⟩
def b8 (F : Nat → Bool) : List Value := (List.range 8).map fun c => .bool (F c)
theorem b8_len (F : Nat → Bool) : (b8 F).length = 8 := by simp [b8]
theorem b8_load (F : Nat → Bool) {i : Nat} (hi : i < 8) : nthA (b8 F).toArray i = some (.bool (F i)) := by
  rw [nthA_eq, List.getElem?_toArray]
  unfold b8
  rw [List.getElem?_map, List.getElem?_range hi]; rfl
theorem b8_set (F : Nat → Bool) {i : Nat} (hi : i < 8) : (b8 F).toArray.setIfInBounds i (.bool true) = (b8 fun c => decide (c = i) || F c).toArray := by
  apply Array.ext'
  rw [Array.toList_setIfInBounds]
  show (b8 F).set i _ = _
  apply List.ext_getElem?
  intro c
  rw [List.getElem?_set]
  by_cases hc : c < 8
  · unfold b8
    rw [List.getElem?_map, List.getElem?_map, List.getElem?_range hc]
    simp only [Option.map_some, List.length_map, List.length_range]
    by_cases h : i = c
    · rw [if_pos h, if_pos (by omega)]; simp [h]
    · rw [if_neg h]; rw [decide_eq_false (fun e => h e.symm)]; rfl
  · rw [List.getElem?_eq_none (l := b8 F) (by rw [b8_len]; omega), if_neg (by omega)]
    exact (List.getElem?_eq_none (by rw [b8_len]; omega)).symm
theorem b8_congr {F G : Nat → Bool} (h : ∀ c, c < 8 → F c = G c) : b8 F = b8 G := by
  unfold b8
  exact List.map_congr_left fun c hc => by rw [h c (by simpa using hc)]
end Go.Proofs.YtoilfakpgcjjpaaDoor.Log
namespace Go.Proofs.YtoilfakpgcjjpaaDoor.Log
open Go Go.RowKit Go.Proofs.YtoilfakpgcjjpaaDoor Go.Proofs.YtoilfakpgcjjpaaDoor.Eng
set_option linter.unusedVariables false
set_option linter.unusedSimpArgs false
set_option maxRecDepth 100000
def fresF (o : Option Fm) (ab : List (List Int)) (mk : List Int) : List Nat × Int := match o with
  | none => ([], 4)
  | some x => if isModF ab mk = true then (forL ab mk x, 0) else ([], 2)
theorem fresF_cases (o : Option Fm) (ab : List (List Int)) (mk : List Int) :
    (o.isSome = false ∧ (fresF o ab mk).1 = [] ∧ (fresF o ab mk).2 = 4) ∨ (∃ x, o = some x ∧ isModF ab mk = false ∧ (fresF o ab mk).1 = [] ∧ (fresF o ab mk).2 = 2) ∨
      ∃ x, o = some x ∧ isModF ab mk = true ∧ (fresF o ab mk).1 = forL ab mk x ∧ (fresF o ab mk).2 = 0 := by
  cases o with
  | none => exact .inl ⟨rfl, rfl, rfl⟩
  | some x =>
    cases h : isModF ab mk with
    | false => exact .inr (.inl ⟨x, rfl, rfl, by simp [fresF, h], by simp [fresF, h]⟩)
    | true => exact .inr (.inr ⟨x, rfl, rfl, by simp [fresF, h], by simp [fresF, h]⟩)
theorem Forces2_ok {I : Hp} (ab : List (List Int)) (mk : List Int) (mv : Value) (s : List UInt8) (w : World) (hI : Sub I (hp w)) (hm : ModV I ab mk mv) :
    CallsX Tryd.prog 25 #[mv, .string (str s)] w fun v w' => ∃ lv, v = .tuple #[lv, .int .i64 (fresF (fmOf s) ab mk).2] ∧ RdS (Iext I w w') lv 1 (fresF (fmOf s) ab mk).1.length ((fresF (fmOf s) ab mk).1.map natV) :=
  (Forces_ok ab mk mv s w hI hm).mono fun v w' _ h => by
    cases hx : fmOf s with
    | none => rw [hx] at h; exact ⟨_, h, RdS.nil _ _⟩
    | some x =>
      rw [hx] at h
      cases hm : isModF ab mk with
      | false =>
        simp only [hm] at h
        exact ⟨_, by simpa [fresF, hm] using h, by simpa [fresF, hm] using RdS.nil _ _⟩
      | true =>
        simp only [hm, if_true] at h
        obtain ⟨lv, e, r, _⟩ := h
        exact ⟨lv, by simpa [fresF, hm] using e, by simpa [fresF, hm] using r⟩
theorem nat_int (l : List Nat) : (l.map Int.ofNat).map intV = l.map natV := by
  rw [List.map_map]; rfl
theorem LogicForces_ok {I : Hp} (ab : List (List Int)) (mk : List Int) (mv : Value) (s : List UInt8) (w : World) (hI : Sub I (hp w)) (hm : ModV I ab mk mv) (hG : Gl I) : CallsX Tryd.prog 8 #[mv, .string (str s)] w fun v _ => v = .bool true := by
  obtain ⟨va, vm, rows, rfl, _, _, _⟩ := id hm
  have st := St.start (w0 := w) (I0 := I) hI
  obtain ⟨s', hs'⟩ : ∃ s', shortF s = s' := ⟨_, rfl⟩
  have hsl : s'.length ≤ 200 := by rw [← hs', shortF, List.length_take]; omega
  obtain ⟨ca, hca⟩ : ∃ ca, cpA ab = ca := ⟨_, rfl⟩
  obtain ⟨cm, hcm⟩ : ∃ cm, cpM mk = cm := ⟨_, rfl⟩
  refine CallsX.of (nn := 74) Tryd.func8 rfl rfl rfl (fun a mt => ?_)
  refine w_rs ?_
  refine step_alloc mt st (al_box rfl rfl) rfl (fun a w' b2 mt st => ?_)
  refine step_pure mt (pu_assign rfl) rfl (fun a mt => ?_)
  refine w_nil ?_
  refine w_rs ?_
  refine step_pure mt (pu_move rfl) rfl (fun a mt => ?_)
  refine s_callv mt st K.cb14 (vs := [.string (str s)]) rfl (short_ok s _) rfl (fun a w' mt st => ?_)
  rw [hs'] at mt
  refine step_pure mt (pu_assign rfl) rfl (fun a mt => ?_)
  refine w_nil ?_
  refine w_rs ?_
  refine step_pure mt (pu_loadMA st K.ag44 rfl rfl) rfl (fun a mt => ?_)
  refine s_call mt st K.cb24 (vs := [.agg #[va, vm]]) rfl (model2_ok ab mk _ _ st.agr (hm.mono st.sub0)) rfl (fun a w' v14 mt st hI14 hv14 => ?_)
  rw [hca, hcm] at hv14
  obtain ⟨oa, om, orows, rfl, rva, rrow, rvm⟩ := id hv14
  have hoa := RdS.one rva
  have hom := RdS.one rvm
  generalize hE : Iext I _ w' = I1 at st hv14 hI14 rva rrow rvm
  refine step_alloc mt st (al_alloc K.ze44 rfl) rfl (fun a w' b5 mt st => ?_)
  refine s_storeA mt st K.sz44 rfl rfl rfl (by simp [hoa, hom]) rfl rfl (fun w' st => ?_)
  refine w_nil ?_
  refine w_rs ?_
  refine step_pure mt (pu_loadMA st K.ag44 rfl rfl) rfl (fun a mt => ?_)
  refine step_pure mt (pu_move rfl) rfl (fun a mt => ?_)
  refine s_call mt st K.cb25 (vs := [.agg #[oa, om], .string (str s')]) rfl (Forces2_ok ca cm _ s' _ st.agr hv14) rfl (fun a w' v18 mt st hI18 hv18 => ?_)
  obtain ⟨lv, rfl, rlv⟩ := hv18
  generalize hE2 : Iext I1 _ w' = I2 at st hI18 rlv
  have hv2 := hv14.mono hI18
  have hG2 : Gl I2 := hG.mono (st.sub0)
  rcases fresF_cases (fmOf s') ca cm with ⟨ho, hL, hE3⟩ | ⟨x, ho, hmd, hL, hE3⟩ | ⟨x, ho, hmd, hL, hE3⟩
  · have hfm : isFm 12 s' = false := by rw [isFm_fmOf, ho]
    rw [hE3] at mt
    rw [hL] at rlv
    refine step_pure mt (pu_move rfl) rfl (fun a mt => ?_)
    refine step_pure mt (pu_extract rfl rfl) rfl (fun a mt => ?_)
    refine step_pure mt (pu_extract rfl rfl) rfl (fun a mt => ?_)
    refine step_pure mt (pu_assign rfl) rfl (fun a mt => ?_)
    refine step_pure mt (pu_assign rfl) rfl (fun a mt => ?_)
    refine w_nil ?_
    refine w_seq ?_
    refine w_rs ?_
    refine step_pure mt (pu_move rfl) rfl (fun a mt => ?_)
    refine s_callv mt st K.cb17 (vs := [.string (str s'), .int .i64 ((12 : Nat) : Int)]) rfl (Formula_ok 12 _ _ (by omega)) rfl (fun a w' mt st => ?_)
    rw [hfm] at mt
    refine step_pure mt (pu_not rfl) rfl (fun a mt => ?_)
    refine w_nil ?_
    refine w_true mt rfl ?_
    refine w_rs ?_
    refine step_pure mt (pu_move rfl) rfl (fun a mt => ?_)
    refine step_pure mt (pu_len_r rfl (st.rdS rlv) K.un42) rfl (fun a mt => ?_)
    refine step_pure mt ((pu_eql rfl rfl).tob (j := true) (by decide)) rfl (fun a mt => ?_)
    refine step_pure mt (pu_move rfl) rfl (fun a mt => ?_)
    refine step_pure_g mt rfl rfl (pu_move rfl) rfl (fun a mt => ?_)
    refine step_pure_g mt rfl rfl ((pu_eql rfl rfl).tob (j := true) (by decide)) rfl (fun a mt => ?_)
    refine step_pure mt (pu_pick rfl rfl) rfl (fun a mt => ?_)
    refine step_pure mt (pu_move rfl) rfl (fun a mt => ?_)
    refine s_callv_g mt st rfl rfl K.cb18 (vs := []) rfl (awake_ok _ st.agr (hG.mono st.sub0)) rfl (fun a w' mt st => ?_)
    refine step_pure mt (pu_pick rfl rfl) rfl (fun a mt => ?_)
    refine step_pure mt (pu_assign rfl) rfl (fun a mt => ?_)
    refine w_nil ?_
    refine w_ret (x_then_ret ?_)
    refine post_ret1 mt rfl rfl ?_
    exact ⟨_, rfl, st.below, rfl⟩
  · have hfm : isFm 12 s' = true := by rw [isFm_fmOf, ho]; rfl
    rw [hE3] at mt
    rw [hL] at rlv
    refine step_pure mt (pu_move rfl) rfl (fun a mt => ?_)
    refine step_pure mt (pu_extract rfl rfl) rfl (fun a mt => ?_)
    refine step_pure mt (pu_extract rfl rfl) rfl (fun a mt => ?_)
    refine step_pure mt (pu_assign rfl) rfl (fun a mt => ?_)
    refine step_pure mt (pu_assign rfl) rfl (fun a mt => ?_)
    refine w_nil ?_
    refine w_seq ?_
    refine w_rs ?_
    refine step_pure mt (pu_move rfl) rfl (fun a mt => ?_)
    refine s_callv mt st K.cb17 (vs := [.string (str s'), .int .i64 ((12 : Nat) : Int)]) rfl (Formula_ok 12 _ _ (by omega)) rfl (fun a w' mt st => ?_)
    rw [hfm] at mt
    refine step_pure mt (pu_not rfl) rfl (fun a mt => ?_)
    refine w_nil ?_
    refine w_false mt rfl ?_
    refine w_skip ?_
    refine x_then_n ?_
    refine w_seq ?_
    refine w_rs ?_
    refine step_pure mt (pu_loadMA st K.ag44 rfl rfl) rfl (fun a mt => ?_)
    refine s_callv mt st K.cb26 (vs := [.agg #[oa, om]]) rfl (Model_ok ca cm _ _ st.agr hv2) rfl (fun a w' mt st => ?_)
    rw [hmd] at mt
    refine step_pure mt (pu_not rfl) rfl (fun a mt => ?_)
    refine w_nil ?_
    refine w_true mt rfl ?_
    refine w_rs ?_
    refine step_pure mt (pu_move rfl) rfl (fun a mt => ?_)
    refine step_pure mt (pu_len_r rfl (st.rdS rlv) K.un42) rfl (fun a mt => ?_)
    refine step_pure mt ((pu_eql rfl rfl).tob (j := true) (by decide)) rfl (fun a mt => ?_)
    refine step_pure mt (pu_move rfl) rfl (fun a mt => ?_)
    refine step_pure_g mt rfl rfl (pu_move rfl) rfl (fun a mt => ?_)
    refine step_pure_g mt rfl rfl ((pu_eql rfl rfl).tob (j := true) (by decide)) rfl (fun a mt => ?_)
    refine step_pure mt (pu_pick rfl rfl) rfl (fun a mt => ?_)
    refine step_pure mt (pu_move rfl) rfl (fun a mt => ?_)
    refine s_callv_g mt st rfl rfl K.cb18 (vs := []) rfl (awake_ok _ st.agr (hG.mono st.sub0)) rfl (fun a w' mt st => ?_)
    refine step_pure mt (pu_pick rfl rfl) rfl (fun a mt => ?_)
    refine step_pure mt (pu_assign rfl) rfl (fun a mt => ?_)
    refine w_nil ?_
    refine w_ret (x_then_ret ?_)
    refine post_ret1 mt rfl rfl ?_
    exact ⟨_, rfl, st.below, rfl⟩
  · have hfm : isFm 12 s' = true := by rw [isFm_fmOf, ho]; rfl
    rw [hE3] at mt
    rw [hL] at rlv
    obtain ⟨hxa, hxs, hxp⟩ := fmOf_iff.1 ho
    have hrf := rforced_ok x hxa
    unfold RFcC at hrf
    rw [← hxs] at hrf
    refine step_pure mt (pu_move rfl) rfl (fun a mt => ?_)
    refine step_pure mt (pu_extract rfl rfl) rfl (fun a mt => ?_)
    refine step_pure mt (pu_extract rfl rfl) rfl (fun a mt => ?_)
    refine step_pure mt (pu_assign rfl) rfl (fun a mt => ?_)
    refine step_pure mt (pu_assign rfl) rfl (fun a mt => ?_)
    refine w_nil ?_
    refine w_seq ?_
    refine w_rs ?_
    refine step_pure mt (pu_move rfl) rfl (fun a mt => ?_)
    refine s_callv mt st K.cb17 (vs := [.string (str s'), .int .i64 ((12 : Nat) : Int)]) rfl (Formula_ok 12 _ _ (by omega)) rfl (fun a w' mt st => ?_)
    rw [hfm] at mt
    refine step_pure mt (pu_not rfl) rfl (fun a mt => ?_)
    refine w_nil ?_
    refine w_false mt rfl ?_
    refine w_skip ?_
    refine x_then_n ?_
    refine w_seq ?_
    refine w_rs ?_
    refine step_pure mt (pu_loadMA st K.ag44 rfl rfl) rfl (fun a mt => ?_)
    refine s_callv mt st K.cb26 (vs := [.agg #[oa, om]]) rfl (Model_ok ca cm _ _ st.agr hv2) rfl (fun a w' mt st => ?_)
    rw [hmd] at mt
    refine step_pure mt (pu_not rfl) rfl (fun a mt => ?_)
    refine w_nil ?_
    refine w_false mt rfl ?_
    refine w_skip ?_
    refine x_then_n ?_
    refine w_rs ?_
    refine step_pure mt (pu_loadMA st K.ag44 rfl rfl) rfl (fun a mt => ?_)
    refine step_pure mt (pu_move rfl) rfl (fun a mt => ?_)
    refine s_call mt st K.cb27 (vs := [.agg #[oa, om], .string (str s')]) rfl (hrf I2 ca cm _ _ st.agr hv2 (isModF_fits hmd) (by omega)) rfl (fun a w' v49 mt st hI49 hv49 => ?_)
    generalize hE4 : Iext I2 _ w' = I3 at st hI49 hv49
    have rlv3 := rlv.mono hI49
    refine step_pure mt (pu_assign rfl) rfl (fun a mt => ?_)
    refine w_nil ?_
    refine w_rs ?_
    refine step_pure mt (pu_assign rfl) rfl (fun a mt => ?_)
    refine w_nil ?_
    refine w_seq ?_
    have st := st.nilRow 3 1
    refine w_rs ?_
    refine step_pure mt (pu_assign rfl) rfl (fun a mt => ?_)
    refine w_nil ?_
    refine w_block ?_
    refine w_loop (ι := Nat) (fun k a w' => k ≤ ca.length ∧ ∃ v9 M, Mt 74 a [(6, lv), (7, .int .i64 0), (8, v49), (9, v9), (10, .int .i64 k)] ∧ St [] w I w' I3 (.row v9 3 1 (forTo ca cm x k).length ((forTo ca cm x k).map natV) :: M)) (fun k => ca.length - k) 0
      ⟨Nat.zero_le _, _, _, mt.sub ⟨rfl, rfl, rfl, rfl, rfl, trivial⟩, st⟩ (fun k a w' hI' => ?_)
    obtain ⟨hk, v9, M, mt, st⟩ := hI'
    have hfl := forTo_len ca cm x k
    have hcl := (isModF_get hmd).2.1
    refine w_seq ?_
    refine w_rs ?_
    refine step_pure mt (pu_move rfl) rfl (fun a mt => ?_)
    refine step_pure mt (pu_move rfl) rfl (fun a mt => ?_)
    refine step_pure mt (pu_len_r rfl (st.rdS hv49) K.un49) rfl (fun a mt => ?_)
    refine step_pure mt (pu_lss rfl rfl) rfl (fun a mt => ?_)
    refine w_nil ?_
    refine w_cond mt rfl (fun h53 => ?_) (fun h53 => ?_)
    · have hkl : k < ca.length := by omega
      refine w_skip ?_
      refine x_then_n ?_
      refine w_seq ?_
      refine w_block ?_
      refine w_rs ?_
      refine step_pure mt (pu_move rfl) rfl (fun a mt => ?_)
      refine step_pure mt (pu_move rfl) rfl (fun a mt => ?_)
      refine step_pure mt (pu_ia (m := ca.length) (i := k) K.el49 (by decide) rfl hv49 rfl (by omega) (by omega)) rfl (fun a mt => ?_)
      refine step_pure mt (pu_loadR st K.sc4 hv49 rfl (boolsV_get hkl)) rfl (fun a mt => ?_)
      refine w_nil ?_
      refine w_cond_b mt rfl (fun h59 => ?_) (fun h59 => ?_)
      · have e1 : forTo ca cm x (k + 1) = forTo ca cm x k ++ [k] := by rw [forTo_succ, if_pos h59]
        refine w_region ?_
        refine step_pure mt (pu_move rfl) rfl (fun a mt => ?_)
        refine step_pure mt (pu_move rfl) rfl (fun a mt => ?_)
        refine step_alloc mt st (al_lit1 (vs := [.int .i64 k]) K.el42 rfl rfl rfl rfl rfl (by simp [Value.oneCell'])) rfl (fun a w' b62 mt st => ?_)
        refine s_append mt st K.el42 rfl (by decide) rfl rfl rfl (by simp [Value.oneCell']) (by simp only [maxLen]; omega) (by omega) rfl (fun a w' v63 mt st => ?_)
        refine step_pure mt (pu_assign rfl) rfl (fun a mt => ?_)
        refine w_nil' ?_
        refine x_block_n ?_
        refine x_then_n ?_
        refine w_region ?_
        refine step_pure mt (pu_move rfl) rfl (fun a mt => ?_)
        refine step_pure mt (pu_add_i rfl rfl (by omega)) rfl (fun a mt => ?_)
        refine step_pure mt (pu_assign rfl) rfl (fun a mt => ?_)
        refine w_nil' ?_
        refine x_then_n ?_
        exact ⟨k + 1, ⟨by omega, _, _, mt.sub ⟨rfl, rfl, rfl, rfl, rfl, trivial⟩, by
          first
          | (rw [e1]; exact st)
          | (rw [e1]
             have e2 : (forTo ca cm x k ++ [k]).length = (forTo ca cm x k).length + 1 := by simp
             have e3 : (forTo ca cm x k ++ [k]).map natV = (forTo ca cm x k).map natV ++ [.int .i64 k] := by simp [natV]
             rw [e2, e3]
             exact st)⟩, by omega⟩
      · have e1 : forTo ca cm x (k + 1) = forTo ca cm x k := by rw [forTo_succ, if_neg (by rw [h59]; decide)]
        refine w_skip ?_
        refine x_block_n ?_
        refine x_then_n ?_
        refine w_region ?_
        refine step_pure mt (pu_move rfl) rfl (fun a mt => ?_)
        refine step_pure mt (pu_add_i rfl rfl (by omega)) rfl (fun a mt => ?_)
        refine step_pure mt (pu_assign rfl) rfl (fun a mt => ?_)
        refine w_nil' ?_
        refine x_then_n ?_
        exact ⟨k + 1, ⟨by omega, _, _, mt.sub ⟨rfl, rfl, rfl, rfl, rfl, trivial⟩, by
          first
          | (rw [e1]; exact st)
          | (rw [e1]
             have e2 : (forTo ca cm x k ++ [k]).length = (forTo ca cm x k).length + 1 := by simp
             have e3 : (forTo ca cm x k ++ [k]).map natV = (forTo ca cm x k).map natV ++ [.int .i64 k] := by simp [natV]
             rw [e2, e3]
             exact st)⟩, by omega⟩
    · obtain rfl : k = ca.length := by omega
      obtain ⟨I4, st, hI4, hr9⟩ := st.sealRow (Pick.here _ _)
      have ra : RdS I4 lv 1 ((forL ca cm x).map Int.ofNat).length (((forL ca cm x).map Int.ofNat).map intV) := by
        rw [nat_int, List.length_map]; exact rlv3.mono hI4
      have rb : RdS I4 v9 1 ((forL ca cm x).map Int.ofNat).length (((forL ca cm x).map Int.ofNat).map intV) := by
        rw [nat_int, List.length_map]; exact hr9
      refine w_exit (x_then_exit (x_then_exit (x_block_out ?_)))
      refine x_then_n ?_
      refine w_rs ?_
      refine step_pure mt (pu_move rfl) rfl (fun a mt => ?_)
      refine step_pure mt (pu_move rfl) rfl (fun a mt => ?_)
      refine s_callv mt st K.cb28 (vs := [lv, v9]) rfl (ints_ok _ _ lv v9 _ st.agr ra rb) rfl (fun a w' mt st => ?_)
      rw [decide_eq_true rfl] at mt
      refine step_pure mt (pu_move rfl) rfl (fun a mt => ?_)
      refine step_pure_g mt rfl rfl (pu_move rfl) rfl (fun a mt => ?_)
      refine step_pure_g mt rfl rfl ((pu_eql rfl rfl).tob (j := true) (by decide)) rfl (fun a mt => ?_)
      refine step_pure mt (pu_pick rfl rfl) rfl (fun a mt => ?_)
      refine step_pure mt (pu_move rfl) rfl (fun a mt => ?_)
      refine s_callv_g mt st rfl rfl K.cb18 (vs := []) rfl (awake_ok _ st.agr (hG.mono st.sub0)) rfl (fun a w' mt st => ?_)
      refine step_pure mt (pu_pick rfl rfl) rfl (fun a mt => ?_)
      refine step_pure mt (pu_assign rfl) rfl (fun a mt => ?_)
      refine w_nil ?_
      refine w_ret ?_
      refine post_ret1 mt rfl rfl ?_
      exact ⟨_, rfl, st.below, rfl⟩
end Go.Proofs.YtoilfakpgcjjpaaDoor.Log
namespace Go.Proofs.YtoilfakpgcjjpaaDoor.Log
open Go Go.RowKit Go.Proofs.YtoilfakpgcjjpaaDoor Go.Proofs.YtoilfakpgcjjpaaDoor.Eng
set_option linter.unusedVariables false
set_option linter.unusedSimpArgs false
set_option maxRecDepth 100000
theorem LogicPersists_ok {I : Hp} (ab : List (List Int)) (mk : List Int) (mv : Value) (s : List UInt8) (w : World) (hI : Sub I (hp w)) (hm : ModV I ab mk mv) (hG : Gl I) : CallsX Tryd.prog 9 #[mv, .string (str s)] w fun v _ => v = .bool true := by
  obtain ⟨va, vm, rows, rfl, _, _, _⟩ := id hm
  have st := St.start (w0 := w) (I0 := I) hI
  obtain ⟨x, hx, hp, hsx⟩ := fmlF_ex (m := 12) (by decide) s
  obtain ⟨s', hs'⟩ : ∃ s', shw x = s' := ⟨_, rfl⟩
  have hfo : fmOf s' = some x := by rw [← hs']; exact fmOf_shw hx hp
  have hva : valF s' = true → vld [] x := by rw [← hs']; exact (valF_iff hx hp).1
  refine CallsX.of (nn := 106) Tryd.func9 rfl rfl rfl (fun a mt => ?_)
  refine w_rs ?_
  refine step_alloc mt st (al_box rfl rfl) rfl (fun a w' b2 mt st => ?_)
  refine step_pure mt (pu_assign rfl) rfl (fun a mt => ?_)
  refine w_nil ?_
  refine w_rs ?_
  refine step_pure mt (pu_loadMA st K.ag44 rfl rfl) rfl (fun a mt => ?_)
  refine s_call mt st K.cb29 (vs := [.agg #[va, vm]]) rfl (tame2_ok ab mk _ _ st.agr (hm.mono st.sub0)) rfl (fun a w' v15 mt st hI15 hv15 => ?_)
  obtain ⟨ca, cm, hmd, hc8, hv15⟩ := hv15
  obtain ⟨oa, om, orows, rfl, rva, rrow, rvm⟩ := id hv15
  obtain ⟨oad, occ, rfl, _⟩ := rva.len
  have hoa := RdS.one rva
  have hom := RdS.one rvm
  have horl : orows.length = ca.length := by have := rva.nlen; exact this
  generalize hE : Iext I _ w' = I1 at st hv15 hI15 rva rrow rvm
  refine step_alloc mt st (al_alloc K.ze44 rfl) rfl (fun a w' b5 mt st => ?_)
  refine s_storeA mt st K.sz44 rfl rfl rfl (by simp [hoa, hom]) rfl rfl (fun w' st => ?_)
  refine w_nil ?_
  refine w_rs ?_
  refine step_pure mt (pu_move rfl) rfl (fun a mt => ?_)
  refine s_callv mt st K.cb21 (vs := [.string (str s), .int .i64 ((12 : Nat) : Int)]) rfl (formula2_ok 12 s _) rfl (fun a w' mt st => ?_)
  rw [hsx, hs'] at mt
  refine step_pure mt (pu_assign rfl) rfl (fun a mt => ?_)
  refine w_nil ?_
  refine w_rs ?_
  refine step_pure mt (pu_loadMA st K.ag44 rfl rfl) rfl (fun a mt => ?_)
  refine step_pure mt (pu_move rfl) rfl (fun a mt => ?_)
  refine s_call mt st K.cb25 (vs := [.agg #[.slice oad ca.length occ, om], .string (str s')]) rfl (Forces2_ok ca cm _ s' _ st.agr hv15) rfl (fun a w' v21 mt st hI21 hv21 => ?_)
  obtain ⟨lv, rfl, rlv⟩ := hv21
  rw [hfo] at rlv mt
  have hfr : fresF (some x) ca cm = (forL ca cm x, 0) := by simp [fresF, hmd]
  rw [hfr] at rlv mt
  generalize hE2 : Iext I1 _ w' = I2 at st hI21 rlv
  have rva2 := rva.mono hI21
  refine step_pure mt (pu_move rfl) rfl (fun a mt => ?_)
  refine step_pure mt (pu_extract rfl rfl) rfl (fun a mt => ?_)
  refine step_pure mt (pu_extract rfl rfl) rfl (fun a mt => ?_)
  refine step_pure mt (pu_assign rfl) rfl (fun a mt => ?_)
  refine step_pure mt (pu_assign rfl) rfl (fun a mt => ?_)
  refine w_nil ?_
  refine w_rs ?_
  refine step_pure mt (pu_move rfl) rfl (fun a mt => ?_)
  refine s_callv mt st K.cb22 (vs := [.string (str s')]) rfl (valid_ok s' _ st.agr (hG.mono st.sub0)) rfl (fun a w' mt st => ?_)
  rw [show (fmOf s').isSome = true by rw [hfo]; rfl] at mt
  cases hv : valF s' with
  | true =>
    rw [hv] at mt
    have hle : (forL ca cm x).length = ca.length := vld_forL hmd hx (hva hv)
    refine step_pure mt (pu_move rfl) rfl (fun a mt => ?_)
    refine step_pure mt (pu_extract rfl rfl) rfl (fun a mt => ?_)
    refine step_pure mt (pu_extract rfl rfl) rfl (fun a mt => ?_)
    refine step_pure mt (pu_assign rfl) rfl (fun a mt => ?_)
    refine step_pure mt (pu_assign rfl) rfl (fun a mt => ?_)
    refine w_nil ?_
    refine w_seq ?_
    refine w_rs ?_
    refine step_pure mt (pu_move rfl) rfl (fun a mt => ?_)
    refine step_pure mt ((pu_neq rfl rfl).tob (j := false) (decide_eq_false (by simp))) rfl (fun a mt => ?_)
    refine step_pure mt (pu_move rfl) rfl (fun a mt => ?_)
    refine step_pure_g mt rfl rfl (pu_move rfl) rfl (fun a mt => ?_)
    refine step_pure_g mt rfl rfl (pu_not rfl) rfl (fun a mt => ?_)
    refine step_pure mt (pu_pick rfl rfl) rfl (fun a mt => ?_)
    refine step_pure mt (pu_move rfl) rfl (fun a mt => ?_)
    refine step_pure_g mt rfl rfl (pu_move rfl) rfl (fun a mt => ?_)
    refine step_pure_g mt rfl rfl (pu_move rfl) rfl (fun a mt => ?_)
    refine step_pure_g mt rfl rfl (pu_move rfl) rfl (fun a mt => ?_)
    refine step_pure_g mt rfl rfl (pu_len_r rfl (st.rdS rlv) K.un42) rfl (fun a mt => ?_)
    refine step_pure_g mt rfl rfl (pu_fld 0 K.fl44_0 rfl) rfl (fun a mt => ?_)
    refine step_pure_g mt rfl rfl (pu_loadM st K.sc41 rfl rfl) rfl (fun a mt => ?_)
    refine step_pure_g mt rfl rfl (pu_len rfl K.un41) rfl (fun a mt => ?_)
    refine step_pure_g mt rfl rfl ((pu_neq rfl rfl).tob (j := false) (decide_eq_false (by simp only; omega))) rfl (fun a mt => ?_)
    refine step_pure_g mt rfl rfl (pu_pick rfl rfl) rfl (fun a mt => ?_)
    refine step_pure mt (pu_pick rfl rfl) rfl (fun a mt => ?_)
    refine w_nil ?_
    refine w_false mt rfl ?_
    refine w_skip ?_
    refine x_then_n ?_
    refine w_rs ?_
    refine step_alloc mt st (al_alloc (cs := (b8 (fun _ => false)).toArray) K.ze53 rfl) rfl (fun a w' b10 mt st => ?_)
    refine w_nil ?_
    refine w_seq ?_
    refine w_rs ?_
    refine step_pure mt (pu_assign rfl) rfl (fun a mt => ?_)
    refine w_nil ?_
    refine w_block ?_
    refine w_loop (ι := Nat) (fun k a w' => k ≤ (forL ca cm x).length ∧ ∃ I' M, Mt 106 a [(5, pv b5), (6, lv), (10, pv b10), (11, .int .i64 k)] ∧ Sub I2 I' ∧ St [] w I w' I' (.blk b10 (.cells (b8 fun c => decide (c ∈ (forL ca cm x).take k)).toArray 53 (0, 0)) :: .blk b5 (.cells #[.slice oad ca.length occ, om] 44 (0, 0)) :: M)) (fun k => (forL ca cm x).length - k) 0
      ⟨Nat.zero_le _, _, _, mt.sub ⟨rfl, rfl, rfl, rfl, trivial⟩, Sub.refl _, st⟩ (fun k a w' hI' => ?_)
    obtain ⟨hk, I', M, mt, hs, st⟩ := hI'
    have rl' := rlv.mono hs
    refine w_seq ?_
    refine w_rs ?_
    refine step_pure mt (pu_move rfl) rfl (fun a mt => ?_)
    refine step_pure mt (pu_move rfl) rfl (fun a mt => ?_)
    refine step_pure mt (pu_len_r rfl (st.rdS rl') K.un42) rfl (fun a mt => ?_)
    refine step_pure mt (pu_lss rfl rfl) rfl (fun a mt => ?_)
    refine w_nil ?_
    refine w_cond mt rfl (fun h49 => ?_) (fun h49 => ?_)
    · have hkl : k < (forL ca cm x).length := Int.ofNat_lt.1 (show ((k : Nat) : Int) < (((forL ca cm x).length : Nat) : Int) from h49)
      have hfl : (forL ca cm x).length ≤ ca.length := forTo_len ca cm x ca.length
      have hy : (forL ca cm x)[k]? = some (forL ca cm x)[k] := List.getElem?_eq_getElem hkl
      generalize (forL ca cm x)[k] = y at hy
      have hyb := mem_forL.1 (List.mem_of_getElem? hy)
      have hyu : ((forL ca cm x).map natV)[((k : Nat) : Int).toNat]? = some (.int .i64 y) := by simp [hy, natV]
      have hy8 : y < 8 := by omega
      refine w_skip ?_
      refine x_then_n ?_
      refine w_seq ?_
      refine w_block ?_
      refine w_seq ?_
      refine w_drs K.mixed rfl mt ?_
      refine mo_pure (pu_move rfl) ?_
      refine mo_pure (pu_move rfl) ?_
      refine mo_pure (pu_ia (m := (forL ca cm x).length) (i := k) K.el42 (by decide) rfl rl' rfl (by omega) (by omega)) ?_
      refine mo_pure (pu_loadR st K.sc3 rl' rfl hyu) ?_
      refine mo_pure ((pu_lss rfl rfl).tob (j := false) (decide_eq_false (by omega))) ?_
      refine mo_pure (pu_move rfl) ?_
      refine mo_pure_g rfl rfl (pu_move rfl) ?_
      refine mo_pure_g rfl rfl (pu_move rfl) ?_
      refine mo_pure_g rfl rfl (pu_ia (m := (forL ca cm x).length) (i := k) K.el42 (by decide) rfl rl' rfl (by omega) (by omega)) ?_
      refine mo_pure_g rfl rfl (pu_loadR st K.sc3 rl' rfl hyu) ?_
      refine mo_pure_g rfl rfl (pu_fld 0 K.fl44_0 rfl) ?_
      refine mo_pure_g rfl rfl (pu_loadM st K.sc41 rfl rfl) ?_
      refine mo_pure_g rfl rfl (pu_len rfl K.un41) ?_
      refine mo_pure_g rfl rfl ((pu_geq rfl rfl).tob (j := false) (decide_eq_false (by omega))) ?_
      refine mo_pure (pu_pick rfl rfl) ?_
      refine mo_end (fun a w' mt pr hb => ?_)
      have hIx := Iext_sub st.agr w'
      replace st := st.extI hb
      replace rl' := rl'.mono hIx
      refine w_false mt rfl ?_
      refine w_skip ?_
      refine x_then_n ?_
      refine w_region ?_
      refine step_pure mt (pu_move rfl) rfl (fun a mt => ?_)
      refine step_pure mt (pu_move rfl) rfl (fun a mt => ?_)
      refine step_pure mt (pu_ia (m := (forL ca cm x).length) (i := k) K.el42 (by decide) rfl rl' rfl (by omega) (by omega)) rfl (fun a mt => ?_)
      refine step_pure mt (pu_loadR st K.sc3 rl' rfl hyu) rfl (fun a mt => ?_)
      refine step_pure mt (pu_ar (p := y) K.un53 K.sz4 rfl rfl hy8 (by omega)) rfl (fun a mt => ?_)
      refine s_store mt st K.sz4 rfl rfl rfl (by rw [List.size_toArray, b8_len]; omega) (fun w' st => ?_)
      refine w_nil' ?_
      refine x_block_n ?_
      refine x_then_n ?_
      refine w_region ?_
      refine step_pure mt (pu_move rfl) rfl (fun a mt => ?_)
      refine step_pure mt (pu_add_i rfl rfl (by omega)) rfl (fun a mt => ?_)
      refine step_pure mt (pu_assign rfl) rfl (fun a mt => ?_)
      refine w_nil' ?_
      refine x_then_n ?_
      rw [b8_set _ hy8, b8_congr (G := fun c => decide (c ∈ (forL ca cm x).take (k + 1))) (fun c _ => by
        rw [List.take_add_one, hy, Bool.eq_iff_iff]
        simp [or_comm])] at st
      exact ⟨k + 1, ⟨by omega, _, _, mt.sub ⟨rfl, rfl, rfl, rfl, trivial⟩, hs.trans hIx, st⟩, by omega⟩
    · have hkl : (forL ca cm x).take k = forL ca cm x := List.take_of_length_le (by have h : ¬ k < (forL ca cm x).length := fun h => h49 (show ((k : Nat) : Int) < (((forL ca cm x).length : Nat) : Int) from Int.ofNat_lt.2 h); omega)
      rw [hkl] at st
      refine w_exit (x_then_exit (x_then_exit (x_block_out ?_)))
      refine x_then_n ?_
      refine w_seq ?_
      refine w_rs ?_
      refine step_pure mt (pu_assign rfl) rfl (fun a mt => ?_)
      refine w_nil ?_
      refine w_block ?_
      refine w_loop (ι := Nat) (fun i a w' => i ≤ ca.length ∧ ∃ M, Mt 106 a [(5, pv b5), (10, pv b10), (12, .int .i64 i)] ∧ St [] w I w' I' (.blk b10 (.cells (b8 fun c => decide (c ∈ forL ca cm x)).toArray 53 (0, 0)) :: .blk b5 (.cells #[.slice oad ca.length occ, om] 44 (0, 0)) :: M)) (fun i => ca.length - i) 0
        ⟨Nat.zero_le _, _, mt.sub ⟨rfl, rfl, rfl, trivial⟩, st⟩ (fun i a w' hI' => ?_)
      obtain ⟨hi, M, mt, st⟩ := hI'
      refine w_seq ?_
      refine w_rs ?_
      refine step_pure mt (pu_move rfl) rfl (fun a mt => ?_)
      refine step_pure mt (pu_fld 0 K.fl44_0 rfl) rfl (fun a mt => ?_)
      refine step_pure mt (pu_loadM st K.sc41 rfl rfl) rfl (fun a mt => ?_)
      refine step_pure mt (pu_len rfl K.un41) rfl (fun a mt => ?_)
      refine step_pure mt (pu_lss rfl rfl) rfl (fun a mt => ?_)
      refine w_nil ?_
      refine w_cond mt rfl (fun h76 => ?_) (fun h76 => ?_)
      · have hil : i < ca.length := by omega
        have hi8 : i < 8 := by omega
        have hl : ca[i]? = some ca[i] := List.getElem?_eq_getElem hil
        have hrr : orows[i]? = some (orows[i]'(by omega)) := List.getElem?_eq_getElem (by omega)
        generalize ca[i] = l at hl
        generalize orows[i]'(by omega) = r at hrr
        have rva3 := rva2.mono hs
        have rl3 := ((rrow i l r hl hrr).mono hI21).mono hs
        have hlmax := rl3.max
        unfold maxLen at hlmax
        have hur : orows[((i : Nat) : Int).toNat]? = some r := by simp [hrr]
        refine w_skip ?_
        refine x_then_n ?_
        refine w_seq ?_
        refine w_block ?_
        refine w_rs ?_
        refine step_pure mt (pu_assign rfl) rfl (fun a mt => ?_)
        refine w_nil ?_
        refine w_block ?_
        refine w_loop (ι := Nat) (fun j a w' => j ≤ l.length ∧ ∃ M, Mt 106 a [(5, pv b5), (10, pv b10), (12, .int .i64 i), (13, .int .i64 j)] ∧ St [] w I w' I' (.blk b10 (.cells (b8 fun c => decide (c ∈ forL ca cm x)).toArray 53 (0, 0)) :: .blk b5 (.cells #[.slice oad ca.length occ, om] 44 (0, 0)) :: M)) (fun j => l.length - j) 0
          ⟨Nat.zero_le _, _, mt.sub ⟨rfl, rfl, rfl, rfl, trivial⟩, st⟩ (fun j a w' hI' => ?_)
        obtain ⟨hj, M, mt, st⟩ := hI'
        refine w_seq ?_
        refine w_rs ?_
        refine step_pure mt (pu_move rfl) rfl (fun a mt => ?_)
        refine step_pure mt (pu_fld 0 K.fl44_0 rfl) rfl (fun a mt => ?_)
        refine step_pure mt (pu_loadM st K.sc41 rfl rfl) rfl (fun a mt => ?_)
        refine step_pure mt (pu_move rfl) rfl (fun a mt => ?_)
        refine step_pure mt (pu_ia (m := ca.length) (i := i) K.el41 (by decide) rfl rva3 rfl (by omega) (by omega)) rfl (fun a mt => ?_)
        refine step_pure mt (pu_loadR st K.sc42 rva3 rfl hur) rfl (fun a mt => ?_)
        refine step_pure mt (pu_len_r rfl (st.rdS rl3) K.un42) rfl (fun a mt => ?_)
        refine step_pure mt (pu_lss rfl rfl) rfl (fun a mt => ?_)
        refine w_nil ?_
        refine w_cond mt rfl (fun h86 => ?_) (fun h86 => ?_)
        · have hjl : j < l.length := by omega
          have hz : l[j]? = some l[j] := List.getElem?_eq_getElem hjl
          generalize l[j] = z at hz
          have hzu : (l.map intV)[((j : Nat) : Int).toNat]? = some (.int .i64 z) := by simp [hz, intV]
          have hzb := (isModF_row hmd hl).2.2.2.2.2 z (List.mem_of_getElem? hz)
          obtain ⟨y, rfl⟩ : ∃ y : Nat, z = (y : Int) := ⟨z.toNat, by omega⟩
          have hy8 : y < 8 := by omega
          refine w_skip ?_
          refine x_then_n ?_
          refine w_seq ?_
          refine w_block ?_
          refine w_rs ?_
          refine step_pure mt (pu_move rfl) rfl (fun a mt => ?_)
          refine step_pure mt (pu_ar (p := i) K.un53 K.sz4 rfl rfl hi8 (by omega)) rfl (fun a mt => ?_)
          refine step_pure mt (pu_loadM (v := .bool (decide (i ∈ forL ca cm x))) st K.sc4 rfl (b8_load _ hi8)) rfl (fun a mt => ?_)
          refine step_pure mt (pu_move rfl) rfl (fun a mt => ?_)
          refine split_p 92 mt rfl (fun g92 mt => ?_) (fun g92 mt => ?_)
          · have hyf : y ∈ forL ca cm x := mem_forL.2 ⟨by omega, fc_mono hmd hx hl (List.mem_of_getElem? hz) (mem_forL.1 g92).2⟩
            refine step_pure_g mt rfl rfl (pu_fld 0 K.fl44_0 rfl) rfl (fun a mt => ?_)
            refine step_pure_g mt rfl rfl (pu_loadM st K.sc41 rfl rfl) rfl (fun a mt => ?_)
            refine step_pure_g mt rfl rfl (pu_move rfl) rfl (fun a mt => ?_)
            refine step_pure_g mt rfl rfl (pu_ia (m := ca.length) (i := i) K.el41 (by decide) rfl rva3 rfl (by omega) (by omega)) rfl (fun a mt => ?_)
            refine step_pure_g mt rfl rfl (pu_loadR st K.sc42 rva3 rfl hur) rfl (fun a mt => ?_)
            refine step_pure_g mt rfl rfl (pu_move rfl) rfl (fun a mt => ?_)
            refine step_pure_g mt rfl rfl (pu_ia (m := l.length) (i := j) K.el42 (by decide) rfl rl3 rfl (by omega) (by omega)) rfl (fun a mt => ?_)
            refine step_pure_g mt rfl rfl (pu_loadR st K.sc3 rl3 rfl hzu) rfl (fun a mt => ?_)
            refine step_pure_g mt rfl rfl (pu_ar (p := y) K.un53 K.sz4 rfl rfl hy8 (by omega)) rfl (fun a mt => ?_)
            refine step_pure_g mt rfl rfl ((pu_loadM (v := .bool (decide (y ∈ forL ca cm x))) st K.sc4 rfl (b8_load _ hy8)).tob (j := true) (decide_eq_true hyf)) rfl (fun a mt => ?_)
            refine step_pure_g mt rfl rfl (pu_not rfl) rfl (fun a mt => ?_)
            refine step_pure mt (pu_pick rfl rfl) rfl (fun a mt => ?_)
            refine w_nil ?_
            refine w_false mt rfl ?_
            refine w_skip ?_
            refine x_block_n ?_
            refine x_then_n ?_
            refine w_region ?_
            refine step_pure mt (pu_move rfl) rfl (fun a mt => ?_)
            refine step_pure mt (pu_add_i rfl rfl (by omega)) rfl (fun a mt => ?_)
            refine step_pure mt (pu_assign rfl) rfl (fun a mt => ?_)
            refine w_nil' ?_
            refine x_then_n ?_
            exact ⟨j + 1, ⟨by omega, _, mt.sub ⟨rfl, rfl, rfl, rfl, trivial⟩, st⟩, by omega⟩
          · refine step_skip_g mt rfl rfl rfl rfl (fun a mt => ?_)
            refine step_skip_g mt rfl rfl rfl rfl (fun a mt => ?_)
            refine step_skip_g mt rfl rfl rfl rfl (fun a mt => ?_)
            refine step_skip_g mt rfl rfl rfl rfl (fun a mt => ?_)
            refine step_skip_g mt rfl rfl rfl rfl (fun a mt => ?_)
            refine step_skip_g mt rfl rfl rfl rfl (fun a mt => ?_)
            refine step_skip_g mt rfl rfl rfl rfl (fun a mt => ?_)
            refine step_skip_g mt rfl rfl rfl rfl (fun a mt => ?_)
            refine step_skip_g mt rfl rfl rfl rfl (fun a mt => ?_)
            refine step_skip_g mt rfl rfl rfl rfl (fun a mt => ?_)
            refine step_skip_g mt rfl rfl rfl rfl (fun a mt => ?_)
            refine step_pure mt (pu_pick rfl rfl) rfl (fun a mt => ?_)
            refine w_nil ?_
            refine w_false mt rfl ?_
            refine w_skip ?_
            refine x_block_n ?_
            refine x_then_n ?_
            refine w_region ?_
            refine step_pure mt (pu_move rfl) rfl (fun a mt => ?_)
            refine step_pure mt (pu_add_i rfl rfl (by omega)) rfl (fun a mt => ?_)
            refine step_pure mt (pu_assign rfl) rfl (fun a mt => ?_)
            refine w_nil' ?_
            refine x_then_n ?_
            exact ⟨j + 1, ⟨by omega, _, mt.sub ⟨rfl, rfl, rfl, rfl, trivial⟩, st⟩, by omega⟩
        · refine w_exit (x_then_exit (x_then_exit (x_block_out ?_)))
          refine x_block_n ?_
          refine x_then_n ?_
          refine w_region ?_
          refine step_pure mt (pu_move rfl) rfl (fun a mt => ?_)
          refine step_pure mt (pu_add_i rfl rfl (by omega)) rfl (fun a mt => ?_)
          refine step_pure mt (pu_assign rfl) rfl (fun a mt => ?_)
          refine w_nil' ?_
          refine x_then_n ?_
          exact ⟨i + 1, ⟨by omega, _, mt.sub ⟨rfl, rfl, rfl, trivial⟩, st⟩, by omega⟩
      · refine w_exit (x_then_exit (x_then_exit (x_block_out ?_)))
        refine x_then_n ?_
        refine w_rs ?_
        refine s_callv mt st K.cb18 (vs := []) rfl (awake_ok _ st.agr (hG.mono st.sub0)) rfl (fun a w' mt st => ?_)
        refine step_pure mt (pu_assign rfl) rfl (fun a mt => ?_)
        refine w_nil ?_
        refine w_ret ?_
        refine post_ret1 mt rfl rfl ?_
        exact ⟨_, rfl, st.below, rfl⟩
  | false =>
    rw [hv] at mt
    refine step_pure mt (pu_move rfl) rfl (fun a mt => ?_)
    refine step_pure mt (pu_extract rfl rfl) rfl (fun a mt => ?_)
    refine step_pure mt (pu_extract rfl rfl) rfl (fun a mt => ?_)
    refine step_pure mt (pu_assign rfl) rfl (fun a mt => ?_)
    refine step_pure mt (pu_assign rfl) rfl (fun a mt => ?_)
    refine w_nil ?_
    refine w_seq ?_
    refine w_rs ?_
    refine step_pure mt (pu_move rfl) rfl (fun a mt => ?_)
    refine step_pure mt ((pu_neq rfl rfl).tob (j := false) (decide_eq_false (by simp))) rfl (fun a mt => ?_)
    refine step_pure mt (pu_move rfl) rfl (fun a mt => ?_)
    refine step_pure_g mt rfl rfl (pu_move rfl) rfl (fun a mt => ?_)
    refine step_pure_g mt rfl rfl (pu_not rfl) rfl (fun a mt => ?_)
    refine step_pure mt (pu_pick rfl rfl) rfl (fun a mt => ?_)
    refine step_pure mt (pu_move rfl) rfl (fun a mt => ?_)
    refine step_pure_g mt rfl rfl (pu_move rfl) rfl (fun a mt => ?_)
    refine step_pure_g mt rfl rfl (pu_move rfl) rfl (fun a mt => ?_)
    refine step_skip_g mt rfl rfl rfl rfl (fun a mt => ?_)
    refine step_skip_g mt rfl rfl rfl rfl (fun a mt => ?_)
    refine step_skip_g mt rfl rfl rfl rfl (fun a mt => ?_)
    refine step_skip_g mt rfl rfl rfl rfl (fun a mt => ?_)
    refine step_skip_g mt rfl rfl rfl rfl (fun a mt => ?_)
    refine step_skip_g mt rfl rfl rfl rfl (fun a mt => ?_)
    refine step_pure_g mt rfl rfl (pu_pick rfl rfl) rfl (fun a mt => ?_)
    refine step_pure mt (pu_pick rfl rfl) rfl (fun a mt => ?_)
    refine w_nil ?_
    refine w_false mt rfl ?_
    refine w_skip ?_
    refine x_then_n ?_
    refine w_rs ?_
    refine step_alloc mt st (al_alloc (cs := (b8 (fun _ => false)).toArray) K.ze53 rfl) rfl (fun a w' b10 mt st => ?_)
    refine w_nil ?_
    refine w_seq ?_
    refine w_rs ?_
    refine step_pure mt (pu_assign rfl) rfl (fun a mt => ?_)
    refine w_nil ?_
    refine w_block ?_
    refine w_loop (ι := Nat) (fun k a w' => k ≤ (forL ca cm x).length ∧ ∃ I' M, Mt 106 a [(5, pv b5), (6, lv), (10, pv b10), (11, .int .i64 k)] ∧ Sub I2 I' ∧ St [] w I w' I' (.blk b10 (.cells (b8 fun c => decide (c ∈ (forL ca cm x).take k)).toArray 53 (0, 0)) :: .blk b5 (.cells #[.slice oad ca.length occ, om] 44 (0, 0)) :: M)) (fun k => (forL ca cm x).length - k) 0
      ⟨Nat.zero_le _, _, _, mt.sub ⟨rfl, rfl, rfl, rfl, trivial⟩, Sub.refl _, st⟩ (fun k a w' hI' => ?_)
    obtain ⟨hk, I', M, mt, hs, st⟩ := hI'
    have rl' := rlv.mono hs
    refine w_seq ?_
    refine w_rs ?_
    refine step_pure mt (pu_move rfl) rfl (fun a mt => ?_)
    refine step_pure mt (pu_move rfl) rfl (fun a mt => ?_)
    refine step_pure mt (pu_len_r rfl (st.rdS rl') K.un42) rfl (fun a mt => ?_)
    refine step_pure mt (pu_lss rfl rfl) rfl (fun a mt => ?_)
    refine w_nil ?_
    refine w_cond mt rfl (fun h49 => ?_) (fun h49 => ?_)
    · have hkl : k < (forL ca cm x).length := Int.ofNat_lt.1 (show ((k : Nat) : Int) < (((forL ca cm x).length : Nat) : Int) from h49)
      have hfl : (forL ca cm x).length ≤ ca.length := forTo_len ca cm x ca.length
      have hy : (forL ca cm x)[k]? = some (forL ca cm x)[k] := List.getElem?_eq_getElem hkl
      generalize (forL ca cm x)[k] = y at hy
      have hyb := mem_forL.1 (List.mem_of_getElem? hy)
      have hyu : ((forL ca cm x).map natV)[((k : Nat) : Int).toNat]? = some (.int .i64 y) := by simp [hy, natV]
      have hy8 : y < 8 := by omega
      refine w_skip ?_
      refine x_then_n ?_
      refine w_seq ?_
      refine w_block ?_
      refine w_seq ?_
      refine w_drs K.mixed rfl mt ?_
      refine mo_pure (pu_move rfl) ?_
      refine mo_pure (pu_move rfl) ?_
      refine mo_pure (pu_ia (m := (forL ca cm x).length) (i := k) K.el42 (by decide) rfl rl' rfl (by omega) (by omega)) ?_
      refine mo_pure (pu_loadR st K.sc3 rl' rfl hyu) ?_
      refine mo_pure ((pu_lss rfl rfl).tob (j := false) (decide_eq_false (by omega))) ?_
      refine mo_pure (pu_move rfl) ?_
      refine mo_pure_g rfl rfl (pu_move rfl) ?_
      refine mo_pure_g rfl rfl (pu_move rfl) ?_
      refine mo_pure_g rfl rfl (pu_ia (m := (forL ca cm x).length) (i := k) K.el42 (by decide) rfl rl' rfl (by omega) (by omega)) ?_
      refine mo_pure_g rfl rfl (pu_loadR st K.sc3 rl' rfl hyu) ?_
      refine mo_pure_g rfl rfl (pu_fld 0 K.fl44_0 rfl) ?_
      refine mo_pure_g rfl rfl (pu_loadM st K.sc41 rfl rfl) ?_
      refine mo_pure_g rfl rfl (pu_len rfl K.un41) ?_
      refine mo_pure_g rfl rfl ((pu_geq rfl rfl).tob (j := false) (decide_eq_false (by omega))) ?_
      refine mo_pure (pu_pick rfl rfl) ?_
      refine mo_end (fun a w' mt pr hb => ?_)
      have hIx := Iext_sub st.agr w'
      replace st := st.extI hb
      replace rl' := rl'.mono hIx
      refine w_false mt rfl ?_
      refine w_skip ?_
      refine x_then_n ?_
      refine w_region ?_
      refine step_pure mt (pu_move rfl) rfl (fun a mt => ?_)
      refine step_pure mt (pu_move rfl) rfl (fun a mt => ?_)
      refine step_pure mt (pu_ia (m := (forL ca cm x).length) (i := k) K.el42 (by decide) rfl rl' rfl (by omega) (by omega)) rfl (fun a mt => ?_)
      refine step_pure mt (pu_loadR st K.sc3 rl' rfl hyu) rfl (fun a mt => ?_)
      refine step_pure mt (pu_ar (p := y) K.un53 K.sz4 rfl rfl hy8 (by omega)) rfl (fun a mt => ?_)
      refine s_store mt st K.sz4 rfl rfl rfl (by rw [List.size_toArray, b8_len]; omega) (fun w' st => ?_)
      refine w_nil' ?_
      refine x_block_n ?_
      refine x_then_n ?_
      refine w_region ?_
      refine step_pure mt (pu_move rfl) rfl (fun a mt => ?_)
      refine step_pure mt (pu_add_i rfl rfl (by omega)) rfl (fun a mt => ?_)
      refine step_pure mt (pu_assign rfl) rfl (fun a mt => ?_)
      refine w_nil' ?_
      refine x_then_n ?_
      rw [b8_set _ hy8, b8_congr (G := fun c => decide (c ∈ (forL ca cm x).take (k + 1))) (fun c _ => by
        rw [List.take_add_one, hy, Bool.eq_iff_iff]
        simp [or_comm])] at st
      exact ⟨k + 1, ⟨by omega, _, _, mt.sub ⟨rfl, rfl, rfl, rfl, trivial⟩, hs.trans hIx, st⟩, by omega⟩
    · have hkl : (forL ca cm x).take k = forL ca cm x := List.take_of_length_le (by have h : ¬ k < (forL ca cm x).length := fun h => h49 (show ((k : Nat) : Int) < (((forL ca cm x).length : Nat) : Int) from Int.ofNat_lt.2 h); omega)
      rw [hkl] at st
      refine w_exit (x_then_exit (x_then_exit (x_block_out ?_)))
      refine x_then_n ?_
      refine w_seq ?_
      refine w_rs ?_
      refine step_pure mt (pu_assign rfl) rfl (fun a mt => ?_)
      refine w_nil ?_
      refine w_block ?_
      refine w_loop (ι := Nat) (fun i a w' => i ≤ ca.length ∧ ∃ M, Mt 106 a [(5, pv b5), (10, pv b10), (12, .int .i64 i)] ∧ St [] w I w' I' (.blk b10 (.cells (b8 fun c => decide (c ∈ forL ca cm x)).toArray 53 (0, 0)) :: .blk b5 (.cells #[.slice oad ca.length occ, om] 44 (0, 0)) :: M)) (fun i => ca.length - i) 0
        ⟨Nat.zero_le _, _, mt.sub ⟨rfl, rfl, rfl, trivial⟩, st⟩ (fun i a w' hI' => ?_)
      obtain ⟨hi, M, mt, st⟩ := hI'
      refine w_seq ?_
      refine w_rs ?_
      refine step_pure mt (pu_move rfl) rfl (fun a mt => ?_)
      refine step_pure mt (pu_fld 0 K.fl44_0 rfl) rfl (fun a mt => ?_)
      refine step_pure mt (pu_loadM st K.sc41 rfl rfl) rfl (fun a mt => ?_)
      refine step_pure mt (pu_len rfl K.un41) rfl (fun a mt => ?_)
      refine step_pure mt (pu_lss rfl rfl) rfl (fun a mt => ?_)
      refine w_nil ?_
      refine w_cond mt rfl (fun h76 => ?_) (fun h76 => ?_)
      · have hil : i < ca.length := by omega
        have hi8 : i < 8 := by omega
        have hl : ca[i]? = some ca[i] := List.getElem?_eq_getElem hil
        have hrr : orows[i]? = some (orows[i]'(by omega)) := List.getElem?_eq_getElem (by omega)
        generalize ca[i] = l at hl
        generalize orows[i]'(by omega) = r at hrr
        have rva3 := rva2.mono hs
        have rl3 := ((rrow i l r hl hrr).mono hI21).mono hs
        have hlmax := rl3.max
        unfold maxLen at hlmax
        have hur : orows[((i : Nat) : Int).toNat]? = some r := by simp [hrr]
        refine w_skip ?_
        refine x_then_n ?_
        refine w_seq ?_
        refine w_block ?_
        refine w_rs ?_
        refine step_pure mt (pu_assign rfl) rfl (fun a mt => ?_)
        refine w_nil ?_
        refine w_block ?_
        refine w_loop (ι := Nat) (fun j a w' => j ≤ l.length ∧ ∃ M, Mt 106 a [(5, pv b5), (10, pv b10), (12, .int .i64 i), (13, .int .i64 j)] ∧ St [] w I w' I' (.blk b10 (.cells (b8 fun c => decide (c ∈ forL ca cm x)).toArray 53 (0, 0)) :: .blk b5 (.cells #[.slice oad ca.length occ, om] 44 (0, 0)) :: M)) (fun j => l.length - j) 0
          ⟨Nat.zero_le _, _, mt.sub ⟨rfl, rfl, rfl, rfl, trivial⟩, st⟩ (fun j a w' hI' => ?_)
        obtain ⟨hj, M, mt, st⟩ := hI'
        refine w_seq ?_
        refine w_rs ?_
        refine step_pure mt (pu_move rfl) rfl (fun a mt => ?_)
        refine step_pure mt (pu_fld 0 K.fl44_0 rfl) rfl (fun a mt => ?_)
        refine step_pure mt (pu_loadM st K.sc41 rfl rfl) rfl (fun a mt => ?_)
        refine step_pure mt (pu_move rfl) rfl (fun a mt => ?_)
        refine step_pure mt (pu_ia (m := ca.length) (i := i) K.el41 (by decide) rfl rva3 rfl (by omega) (by omega)) rfl (fun a mt => ?_)
        refine step_pure mt (pu_loadR st K.sc42 rva3 rfl hur) rfl (fun a mt => ?_)
        refine step_pure mt (pu_len_r rfl (st.rdS rl3) K.un42) rfl (fun a mt => ?_)
        refine step_pure mt (pu_lss rfl rfl) rfl (fun a mt => ?_)
        refine w_nil ?_
        refine w_cond mt rfl (fun h86 => ?_) (fun h86 => ?_)
        · have hjl : j < l.length := by omega
          have hz : l[j]? = some l[j] := List.getElem?_eq_getElem hjl
          generalize l[j] = z at hz
          have hzu : (l.map intV)[((j : Nat) : Int).toNat]? = some (.int .i64 z) := by simp [hz, intV]
          have hzb := (isModF_row hmd hl).2.2.2.2.2 z (List.mem_of_getElem? hz)
          obtain ⟨y, rfl⟩ : ∃ y : Nat, z = (y : Int) := ⟨z.toNat, by omega⟩
          have hy8 : y < 8 := by omega
          refine w_skip ?_
          refine x_then_n ?_
          refine w_seq ?_
          refine w_block ?_
          refine w_rs ?_
          refine step_pure mt (pu_move rfl) rfl (fun a mt => ?_)
          refine step_pure mt (pu_ar (p := i) K.un53 K.sz4 rfl rfl hi8 (by omega)) rfl (fun a mt => ?_)
          refine step_pure mt (pu_loadM (v := .bool (decide (i ∈ forL ca cm x))) st K.sc4 rfl (b8_load _ hi8)) rfl (fun a mt => ?_)
          refine step_pure mt (pu_move rfl) rfl (fun a mt => ?_)
          refine split_p 92 mt rfl (fun g92 mt => ?_) (fun g92 mt => ?_)
          · have hyf : y ∈ forL ca cm x := mem_forL.2 ⟨by omega, fc_mono hmd hx hl (List.mem_of_getElem? hz) (mem_forL.1 g92).2⟩
            refine step_pure_g mt rfl rfl (pu_fld 0 K.fl44_0 rfl) rfl (fun a mt => ?_)
            refine step_pure_g mt rfl rfl (pu_loadM st K.sc41 rfl rfl) rfl (fun a mt => ?_)
            refine step_pure_g mt rfl rfl (pu_move rfl) rfl (fun a mt => ?_)
            refine step_pure_g mt rfl rfl (pu_ia (m := ca.length) (i := i) K.el41 (by decide) rfl rva3 rfl (by omega) (by omega)) rfl (fun a mt => ?_)
            refine step_pure_g mt rfl rfl (pu_loadR st K.sc42 rva3 rfl hur) rfl (fun a mt => ?_)
            refine step_pure_g mt rfl rfl (pu_move rfl) rfl (fun a mt => ?_)
            refine step_pure_g mt rfl rfl (pu_ia (m := l.length) (i := j) K.el42 (by decide) rfl rl3 rfl (by omega) (by omega)) rfl (fun a mt => ?_)
            refine step_pure_g mt rfl rfl (pu_loadR st K.sc3 rl3 rfl hzu) rfl (fun a mt => ?_)
            refine step_pure_g mt rfl rfl (pu_ar (p := y) K.un53 K.sz4 rfl rfl hy8 (by omega)) rfl (fun a mt => ?_)
            refine step_pure_g mt rfl rfl ((pu_loadM (v := .bool (decide (y ∈ forL ca cm x))) st K.sc4 rfl (b8_load _ hy8)).tob (j := true) (decide_eq_true hyf)) rfl (fun a mt => ?_)
            refine step_pure_g mt rfl rfl (pu_not rfl) rfl (fun a mt => ?_)
            refine step_pure mt (pu_pick rfl rfl) rfl (fun a mt => ?_)
            refine w_nil ?_
            refine w_false mt rfl ?_
            refine w_skip ?_
            refine x_block_n ?_
            refine x_then_n ?_
            refine w_region ?_
            refine step_pure mt (pu_move rfl) rfl (fun a mt => ?_)
            refine step_pure mt (pu_add_i rfl rfl (by omega)) rfl (fun a mt => ?_)
            refine step_pure mt (pu_assign rfl) rfl (fun a mt => ?_)
            refine w_nil' ?_
            refine x_then_n ?_
            exact ⟨j + 1, ⟨by omega, _, mt.sub ⟨rfl, rfl, rfl, rfl, trivial⟩, st⟩, by omega⟩
          · refine step_skip_g mt rfl rfl rfl rfl (fun a mt => ?_)
            refine step_skip_g mt rfl rfl rfl rfl (fun a mt => ?_)
            refine step_skip_g mt rfl rfl rfl rfl (fun a mt => ?_)
            refine step_skip_g mt rfl rfl rfl rfl (fun a mt => ?_)
            refine step_skip_g mt rfl rfl rfl rfl (fun a mt => ?_)
            refine step_skip_g mt rfl rfl rfl rfl (fun a mt => ?_)
            refine step_skip_g mt rfl rfl rfl rfl (fun a mt => ?_)
            refine step_skip_g mt rfl rfl rfl rfl (fun a mt => ?_)
            refine step_skip_g mt rfl rfl rfl rfl (fun a mt => ?_)
            refine step_skip_g mt rfl rfl rfl rfl (fun a mt => ?_)
            refine step_skip_g mt rfl rfl rfl rfl (fun a mt => ?_)
            refine step_pure mt (pu_pick rfl rfl) rfl (fun a mt => ?_)
            refine w_nil ?_
            refine w_false mt rfl ?_
            refine w_skip ?_
            refine x_block_n ?_
            refine x_then_n ?_
            refine w_region ?_
            refine step_pure mt (pu_move rfl) rfl (fun a mt => ?_)
            refine step_pure mt (pu_add_i rfl rfl (by omega)) rfl (fun a mt => ?_)
            refine step_pure mt (pu_assign rfl) rfl (fun a mt => ?_)
            refine w_nil' ?_
            refine x_then_n ?_
            exact ⟨j + 1, ⟨by omega, _, mt.sub ⟨rfl, rfl, rfl, rfl, trivial⟩, st⟩, by omega⟩
        · refine w_exit (x_then_exit (x_then_exit (x_block_out ?_)))
          refine x_block_n ?_
          refine x_then_n ?_
          refine w_region ?_
          refine step_pure mt (pu_move rfl) rfl (fun a mt => ?_)
          refine step_pure mt (pu_add_i rfl rfl (by omega)) rfl (fun a mt => ?_)
          refine step_pure mt (pu_assign rfl) rfl (fun a mt => ?_)
          refine w_nil' ?_
          refine x_then_n ?_
          exact ⟨i + 1, ⟨by omega, _, mt.sub ⟨rfl, rfl, rfl, trivial⟩, st⟩, by omega⟩
      · refine w_exit (x_then_exit (x_then_exit (x_block_out ?_)))
        refine x_then_n ?_
        refine w_rs ?_
        refine s_callv mt st K.cb18 (vs := []) rfl (awake_ok _ st.agr (hG.mono st.sub0)) rfl (fun a w' mt st => ?_)
        refine step_pure mt (pu_assign rfl) rfl (fun a mt => ?_)
        refine w_nil ?_
        refine w_ret ?_
        refine post_ret1 mt rfl rfl ?_
        exact ⟨_, rfl, st.below, rfl⟩
end Go.Proofs.YtoilfakpgcjjpaaDoor.Log
namespace Go.Proofs.YtoilfakpgcjjpaaDoor.Row
open Go Go.ChangeShapes Go.WideShapes Go.ChangeAt Go.RowKit Go.Proofs.YtoilfakpgcjjpaaDoor Go.Proofs.YtoilfakpgcjjpaaDoor.Eng Go.Proofs.YtoilfakpgcjjpaaDoor.Log
open Go.ChangeMaps (open_string shut_string)
set_option linter.unusedVariables false
set_option linter.unusedSimpArgs false
set_option maxRecDepth 100000
theorem logicPersists_lifted (os : Os) (started : os.Started) (H : Type) (enc : TypeId × Value → H) :
    ReturnsInHanded {} Tryd.checked os 9 .any (fun w args => (Rows.logicPersistsSpec.pre enc Tryd.prog Tryd.f9 [] false w args ∧ laidMetH Tryd.prog laid w) ∧ sizedMet enc Tryd.prog Tryd.f9 (OpenSpec.ofChange Rows.logicPersistsSpec) false w args)
      (Rows.logicPersistsSpec.post enc Tryd.prog Tryd.f9 false true false false) := by
  refine returnsInHanded_of_change_and (C := Tryd.checked) (X := fun w _ => laidMetH Tryd.prog laid w) (fun _ _ _ hh h => h.of_heap hh) own started (by kernel_rfl) Tryd.func9
    (ChangeSpec.witness_shaped (enc := enc) (C := Tryd.checked) (os := os) (X := fun w _ => laidMetH Tryd.prog laid w) false (World.doorLaid Tryd.prog 400 os) #[.agg #[.slice none 0 0, .slice none 0 0], .string ByteArray.empty] 8 rfl (door_shaped os _) (by kernel_rfl) (by kernel_rfl) (by kernel_rfl) (door_met os _)) ?_
  intro W base args ds gs before hval0 hW _ hsz0 hL _
  have hval : ∀ (j : Nat) t v, Tryd.f9.params[j]? = some t → args[j]? = some v → Value.okWide Tryd.prog W .any base t v := hval0
  have hW' := hW
  obtain ⟨p, q, hA0, hV, rfl, hfz, hnd⟩ := hW
  have hA : DataW.TrodAll enc Tryd.prog W 0 (fun _ => true) true Tryd.f9.params.toList args.toList ds p := hA0
  rw [Tryd.params9] at hA hval
  obtain ⟨rfl, rfl⟩ := trodVars_none hV
  obtain ⟨v0, vs0, d0, ds0, p0, q0, hargs, rfl, rfl, h0, r0⟩ := trodAll_cons hA
  obtain ⟨v1, vs1, d1, ds1, p1, q1, rfl, rfl, rfl, h1, r1⟩ := trodAll_cons r0
  obtain ⟨rfl, rfl, rfl⟩ := trodAll_nil r1
  obtain rfl : args = #[v0, v1] := by cases args; simp_all
  obtain ⟨ab0, mk0, hm0⟩ := model_of (hval 0 44 v0 rfl rfl) h0
  have lt0 : ∀ x ∈ p0, x.block < W.heap.size := by obtain ⟨m, hm⟩ := h0; exact DataW.trod_lt m _ _ _ hm
  obtain ⟨a1, rfl, rfl, rfl, y1⟩ := open_string Tryd.underlying9 (hval 1 9 v1 rfl rfl) h1
  have hG := of_laid hL
  clear hA0 hval0 hsz0
  have hwalk := LogicPersists_ok (I := hp W) ab0 mk0 v0 a1.data.toList W (Sub.refl _) hm0 hG
  rw [← str_of a1] at hwalk
  refine Calls.mono hwalk fun e W' ⟨v, he, bel, hv⟩ => ?_
  subst he; subst hv
  exact ⟨_, rfl, _, _, _, [], _, [], hW', trodAll_mk1 (shut_bool Tryd.underlying4 _), (trodAll_cons_mk (Below.trod laidOut (by kernel_rfl) (of_decide_eq_true (by kernel_rfl)) h0 bel lt0) (trodAll_cons_mk (shut_string Tryd.underlying9 y1) trodAll_mk0)), rfl, bel.frame _, fun h => by cases h⟩
theorem logicPersists_said : Rows.LogicPersistsSaid :=
  OpenClaim.holds_of_wide 9 Tryd.f9 rfl rfl rfl rfl rfl rfl rfl ⟨rfl, rfl, rfl, rfl, rfl⟩ rfl rfl rfl rfl rfl (by kernel_rfl) Tryd.func9 (by kernel_rfl)
    (of_decide_eq_true (by kernel_rfl)) (by unfold Func.isWrapper; first | (rw [if_pos (by decide +kernel)]; kernel_rfl) | (rw [if_neg (by decide +kernel)]; exact ⟨rfl, rfl⟩))
    (fun os started H enc _ => logicPersists_lifted os started H enc)
end Go.Proofs.YtoilfakpgcjjpaaDoor.Row
namespace Go.Proofs.YtoilfakpgcjjpaaDoor
open Go
set_option maxRecDepth 100000
theorem logicPersists_card : Rows.LogicPersistsCardSaid :=
  Claim7.holds_tied_plain_at .later [] [.data] true (true, "66d8a7d6c21dbc4c2189cf199939abe6f41982707b0fa5edfb9c32b2d1b9ae15") true
    Row.logicPersists_said (fun _ h => by cases h) (by kernel_rfl) (fun _ h => by cases h) logicPersists_row_tie rfl ⟨rfl, rfl⟩ (by kernel_rfl) rfl
    (fun f fn hf hfn => by
      obtain rfl : f = 9 := Option.some.inj ((show Tryd.prog.funcNamed "turndown/turndownlaw04.LogicPersists" = some 9 by kernel_rfl).symm.trans hf) |>.symm
      obtain rfl : fn = Tryd.f9 := (Option.some.inj (Tryd.func9.symm.trans hfn)).symm
      exact ⟨by kernel_rfl, fun j t ht => by
        rw [Tryd.params9] at ht
        have hall : ∀ t ∈ [44, 9], Tryd.prog.wantsStandIn t = false := by decide +kernel
        exact hall t (Array.mem_toList_iff.2 (Array.mem_of_getElem? ht))⟩)
    (by kernel_rfl)
#print axioms logicPersists_card
end Go.Proofs.YtoilfakpgcjjpaaDoor
