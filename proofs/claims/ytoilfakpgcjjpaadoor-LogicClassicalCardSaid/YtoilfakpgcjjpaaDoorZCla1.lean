/- For every input the law LogicClassical returns true, and its argument reads afterwards as it read before; the package's list of rules holds what the program's text lays there. -/
import Derived.Test.YtoilfakpgcjjpaaDoorRows
import Derived.Test.YtoilfakpgcjjpaaDoorTie
import Derived.Test.YtoilfakpgcjjpaaDoorCards
import Derived.WalkKit
import Derived.ProofKit
import Derived.LaidMore
import Derived.OpenShut
import Derived.ShutString
import Derived.ChangeOld
import Derived.Below
import Derived.SizedLaws
import Derived.Stop.Joined
import Derived.Test.YtoilfakpgcjjpaaDoorZb4
namespace Go.Proofs.YtoilfakpgcjjpaaDoor.Row
open Go Go.ChangeShapes Go.WideShapes Go.ChangeAt Go.RowKit Go.Proofs.YtoilfakpgcjjpaaDoor Go.Proofs.YtoilfakpgcjjpaaDoor.Eng Go.Proofs.YtoilfakpgcjjpaaDoor.Log
open Go.ChangeMaps (open_string shut_string)
set_option linter.unusedVariables false
set_option linter.unusedSimpArgs false
set_option maxRecDepth 100000
theorem own : ownKnob Tryd.prog.godebug = none := by kernel_rfl
theorem laidOut : laidOutB Tryd.prog = true := by kernel_rfl
def laid : List (String × DataW Unit) := [("turndown/logic.safe", Rows.laid_turndown_logic_safe)]
theorem door_met (os : Os) (args : Array Value) : laidMetH Tryd.prog laid ((World.doorLaid Tryd.prog 400 os).forCall (fun _ _ => 0) ⟨#[], args, []⟩).memory :=
  laidMetH_of_parts3 (fuel := 8) (laidMet_of_run' 8 (by kernel_rfl) (by kernel_rfl)) (by kernel_rfl) (by kernel_rfl)
theorem door_shaped (os : Os) (args : Array Value) : ((World.doorLaid Tryd.prog 400 os).forCall (fun _ _ => 0) ⟨#[], args, []⟩).Shaped Tryd.prog := World.shaped_of_RefB (by kernel_rfl) (by kernel_rfl)
theorem gSafe : Tryd.prog.globalNamed "turndown/logic.safe" = some 0 := by kernel_rfl
theorem tSafe : (Tryd.prog.globals[0]?).map (·.type) = some 42 := by kernel_rfl
/-- a slice whose cells are known reads -/
theorem rdS_cells {w : World} {a : Option Addr} {len cap : Nat} {vs : List Value} (hl : vs.length = len) (h1 : len ≤ cap) (h2 : cap ≤ maxLen) (hc : ∀ j u, vs[j]? = some u → ∃ x, a = some x ∧ w.cell? (x.add j) = some u) : RdS (hp w) (.slice a len cap) 1 len vs := by
  refine ⟨a, cap, rfl, h1, h2, by simpa using hl, fun j u hu => ?_⟩
  have hj := (List.getElem?_eq_some_iff.1 hu).1
  have h0 : vs[0]? = some (vs[0]'(by omega)) := List.getElem?_eq_getElem (by omega)
  obtain ⟨x, rfl, hx0⟩ := hc 0 _ h0
  obtain ⟨x', e, hx⟩ := hc j u hu
  cases e
  have hs : x.spot = none := by
    have e0 : x.add 0 = x := by simp [Addr.add]
    rw [e0] at hx0
    unfold World.cell? at hx0
    split at hx0
    · split at hx0
      · cases hx0
      · rename_i h; simpa using h
    · cases hx0
  obtain ⟨b, o, sp⟩ := x
  simp only at hs
  subst hs
  refine ⟨b, o, rfl, ?_⟩
  rw [cellI_hp, ← Eng.add_plain]; exact hx
theorem lits_get {k : IntKind} {l : List Int} {x : List (DataW Unit)} (h : DataW.slice (H := Unit) (lits k l) x = DataW.slice (lits k []) []) : l = [] := by
  simp [lits] at h; exact h.1
theorem lits_inj {H : Type} {k : IntKind} : ∀ {l m : List Int}, lits (H := H) k l = lits k m → l = m
  | [], [], _ => rfl
  | [], _ :: _, h => by simp [lits] at h
  | _ :: _, [], h => by simp [lits] at h
  | x :: l, y :: m, h => by
    simp only [lits, List.map_cons, List.cons.injEq, DataW.lit.injEq, Lit.int.injEq, true_and] at h
    obtain ⟨h1, h2⟩ := h
    have := lits_inj (k := k) (l := l) (m := m) h2
    subst this; subst h1; rfl
theorem of_laid {W : World} (h : laidMetH Tryd.prog laid W) : Gl (hp W) := by
  rw [MakeChecks.laidMetH_plain _ _ _ (by kernel_rfl)] at h
  obtain ⟨ps, ⟨g0, t0, cs0, f0, p0, q0, hg0, ht0, hv0, hd0, _, _⟩, _, _⟩ := h
  obtain rfl := Option.some.inj (gSafe.symm.trans hg0)
  obtain rfl := Option.some.inj (tSafe.symm.trans ht0)
  have e : Rows.laid_turndown_logic_safe (H := Unit) = .slice (lits .i64 safeR) [] := rfl
  rcases open_ints Tryd.underlying42 Tryd.underlying3 (by kernel_rfl) hd0 with ⟨_, hx⟩ | ⟨a, len, cap, zs, hcs, _, hl, hm, hz, hx, hcell, _⟩
  · rw [e] at hx; simp [lits, safeR] at hx
  · rw [e] at hx
    simp only [Prod.mk.injEq, DataW.slice.injEq] at hx
    obtain ⟨⟨h1, h2⟩, _⟩ := hx
    have h5 : zs.drop len = [] := lits_inj (m := []) h2.symm
    have hzc : zs.length = cap := by simpa using hz
    have hzs : zs.length = len := by
      have := congrArg List.length h5
      simp at this; omega
    have h3 : zs.take len = zs := by rw [List.take_of_length_le (by omega)]
    rw [h3] at h1
    have h4 := lits_inj h1
    subst h4
    have hlen : len = 9 := by rw [← hzs]; rfl
    subst hlen
    refine ⟨.slice (some a) 9 cap, ?_, rdS_cells rfl hl hm fun j u hu => ⟨a, rfl, ?_⟩⟩
    · have := World.var?_cell hg0 hv0 0
      rw [Array.eq_one_of_toList hcs] at this
      rw [cellI_hp]
      simpa using this
    · have hj : j < safeR.length := by have := (List.getElem?_eq_some_iff.1 hu).1; simpa [rulesV] using this
      rw [hcell j hj]
      simp only [rulesV, List.getElem?_map, Option.map_eq_some_iff] at hu
      obtain ⟨z, hz1, rfl⟩ := hu
      simp [hz1]
theorem str_of (a : ByteArray) : a = str a.data.toList := by
  cases a; simp [str]
end Go.Proofs.YtoilfakpgcjjpaaDoor.Row
namespace Go.Proofs.YtoilfakpgcjjpaaDoor.Log
open Go Go.RowKit Go.Proofs.YtoilfakpgcjjpaaDoor Go.Proofs.YtoilfakpgcjjpaaDoor.Eng
set_option linter.unusedVariables false
set_option linter.unusedSimpArgs false
set_option maxRecDepth 100000
def errO (o : Option Fm) : Int := match o with | some _ => 0 | none => 4
def clO (o : Option Fm) : Bool := match o with | some x => clF x | none => false
def negS (o : Option Fm) : List UInt8 := match o with | some x => if 12 < parts x + 2 then [] else shw (.imp x .fls) | none => []
def negE (o : Option Fm) : Int := match o with | some x => if 12 < parts x + 2 then 2 else 0 | none => 4
theorem Classical2_ok (s : List UInt8) (w : World) : CallsX Tryd.prog 15 #[.string (str s)] w fun v _ => v = .tuple #[.bool (clO (fmOf s)), .int .i64 (errO (fmOf s))] :=
  (Classical_ok s w).mono fun v w' _ h => by rw [h]; cases fmOf s <;> rfl
theorem Negate2_ok (s : List UInt8) (w : World) : CallsX Tryd.prog 16 #[.string (str s)] w fun v _ => v = .tuple #[.string (str (negS (fmOf s))), .int .i64 (negE (fmOf s))] :=
  (Negate_ok s w).mono fun v w' _ h => by
    rw [h]
    cases fmOf s with
    | none => rfl
    | some x =>
      simp only [negS, negE]
      split <;> rfl
theorem short_len (s : List UInt8) : (shortF s).length ≤ 200 := by unfold shortF; rw [List.length_take]; omega
theorem LogicClassical_ok {I : Hp} (s : List UInt8) (w : World) (hI : Sub I (hp w)) (hG : Gl I) : CallsX Tryd.prog 3 #[.string (str s)] w fun v _ => v = .bool true := by
  have st := St.start (w0 := w) (I0 := I) hI
  refine CallsX.of (nn := 72) Tryd.func3 rfl rfl rfl (fun a mt => ?_)
  refine w_rs ?_
  refine step_pure mt (pu_assign rfl) rfl (fun a mt => ?_)
  refine w_nil ?_
  refine w_rs ?_
  refine step_pure mt (pu_move rfl) rfl (fun a mt => ?_)
  refine s_callv mt st K.cb14 (vs := [.string (str s)]) rfl (short_ok s _) rfl (fun a w' mt st => ?_)
  have hl := short_len s
  generalize shortF s = s' at *
  have hfm := isFm_fmOf s'
  refine step_pure mt (pu_assign rfl) rfl (fun a mt => ?_)
  refine w_nil ?_
  refine w_rs ?_
  refine step_pure mt (pu_move rfl) rfl (fun a mt => ?_)
  refine s_callv mt st K.cb15 (vs := [.string (str s')]) rfl (Classical2_ok s' _) rfl (fun a w' mt st => ?_)
  refine step_pure mt (pu_move rfl) rfl (fun a mt => ?_)
  refine step_pure mt (pu_extract rfl rfl) rfl (fun a mt => ?_)
  refine step_pure mt (pu_extract rfl rfl) rfl (fun a mt => ?_)
  refine step_pure mt (pu_assign rfl) rfl (fun a mt => ?_)
  refine step_pure mt (pu_assign rfl) rfl (fun a mt => ?_)
  refine w_nil ?_
  refine w_rs ?_
  refine step_pure mt (pu_move rfl) rfl (fun a mt => ?_)
  refine s_callv mt st K.cb16 (vs := [.string (str s')]) rfl (Negate2_ok s' _) rfl (fun a w' mt st => ?_)
  refine step_pure mt (pu_move rfl) rfl (fun a mt => ?_)
  refine step_pure mt (pu_extract rfl rfl) rfl (fun a mt => ?_)
  refine step_pure mt (pu_extract rfl rfl) rfl (fun a mt => ?_)
  refine step_pure mt (pu_assign rfl) rfl (fun a mt => ?_)
  refine step_pure mt (pu_assign rfl) rfl (fun a mt => ?_)
  refine w_nil ?_
  refine w_seq ?_
  refine w_rs ?_
  refine step_pure mt (pu_move rfl) rfl (fun a mt => ?_)
  refine s_callv mt st K.cb17 (vs := [.string (str s'), .int .i64 ((12 : Nat) : Int)]) rfl (Formula_ok 12 s' _ (by omega)) rfl (fun a w' mt st => ?_)
  cases hx : fmOf s' with
  | none =>
    rw [hx] at mt hfm
    rw [show isFm 12 s' = false from hfm] at mt
    refine step_pure mt (pu_not rfl) rfl (fun a mt => ?_)
    refine w_nil ?_
    refine w_true mt rfl ?_
    refine w_rs ?_
    refine step_pure mt (pu_move rfl) rfl (fun a mt => ?_)
    refine step_pure mt (pu_not rfl) rfl (fun a mt => ?_)
    refine step_pure mt (pu_move rfl) rfl (fun a mt => ?_)
    refine step_pure_g mt rfl rfl (pu_move rfl) rfl (fun a mt => ?_)
    refine step_pure_g mt rfl rfl ((pu_eql rfl rfl).tob (j := true) rfl) rfl (fun a mt => ?_)
    refine step_pure mt (pu_pick rfl rfl) rfl (fun a mt => ?_)
    refine step_pure mt (pu_move rfl) rfl (fun a mt => ?_)
    refine step_pure_g mt rfl rfl (pu_move rfl) rfl (fun a mt => ?_)
    refine step_pure_g mt rfl rfl ((pu_eql_str rfl rfl).tob (j := true) rfl) rfl (fun a mt => ?_)
    refine step_pure mt (pu_pick rfl rfl) rfl (fun a mt => ?_)
    refine step_pure mt (pu_move rfl) rfl (fun a mt => ?_)
    refine step_pure_g mt rfl rfl (pu_move rfl) rfl (fun a mt => ?_)
    refine step_pure_g mt rfl rfl ((pu_eql rfl rfl).tob (j := true) rfl) rfl (fun a mt => ?_)
    refine step_pure mt (pu_pick rfl rfl) rfl (fun a mt => ?_)
    refine step_pure mt (pu_move rfl) rfl (fun a mt => ?_)
    refine s_callv_g mt st rfl rfl K.cb18 (vs := []) rfl (awake_ok _ st.agr (hG.mono st.sub0)) rfl (fun a w' mt st => ?_)
    refine step_pure mt (pu_pick rfl rfl) rfl (fun a mt => ?_)
    refine step_pure mt (pu_assign rfl) rfl (fun a mt => ?_)
    refine w_nil ?_
    refine w_ret (x_then_ret ?_)
    refine post_ret1 mt rfl rfl ?_
    exact ⟨_, rfl, st.below, rfl⟩
  | some x =>
    rw [hx] at mt hfm
    rw [show isFm 12 s' = true from hfm] at mt
    obtain ⟨hats, rfl, hpa⟩ := fmOf_iff.1 hx
    refine step_pure mt (pu_not rfl) rfl (fun a mt => ?_)
    refine w_nil ?_
    refine w_false mt rfl ?_
    refine w_skip ?_
    refine x_then_n ?_
    refine w_seq ?_
    refine w_rs ?_
    refine step_pure mt (pu_move rfl) rfl (fun a mt => ?_)
    refine step_pure mt (pu_move rfl) rfl (fun a mt => ?_)
    refine s_callv mt st K.cb19 (vs := [.string (str (shw x))]) rfl (RClassical_ok x hats (by omega) _) rfl (fun a w' mt st => ?_)
    refine step_pure mt ((pu_neq_b rfl rfl K.un4).tob (j := false) (by simp [clO])) rfl (fun a mt => ?_)
    refine step_pure mt (pu_move rfl) rfl (fun a mt => ?_)
    refine step_pure_g mt rfl rfl (pu_move rfl) rfl (fun a mt => ?_)
    refine step_pure_g mt rfl rfl ((pu_neq rfl rfl).tob (j := false) rfl) rfl (fun a mt => ?_)
    refine step_pure mt (pu_pick rfl rfl) rfl (fun a mt => ?_)
    refine w_nil ?_
    refine w_false mt rfl ?_
    refine w_skip ?_
    refine x_then_n ?_
    refine w_seq ?_
    refine w_rs ?_
    refine step_pure mt (pu_move rfl) rfl (fun a mt => ?_)
    refine s_callv mt st K.cb20 (vs := [.string (str (shw x))]) rfl (Size_ok (shw x) _ (by omega)) rfl (fun a w' mt st => ?_)
    rw [szF_shw hats] at mt
    refine step_pure mt (pu_add_i rfl rfl (by omega)) rfl (fun a mt => ?_)
    refine step_pure mt (pu_gtr rfl rfl) rfl (fun a mt => ?_)
    refine w_nil ?_
    refine w_cond mt rfl (fun h50 => ?_) (fun h50 => ?_)
    · have hn1 : negS (some x) = [] := by unfold negS; simp only; rw [if_pos (by omega)]
      have hn2 : negE (some x) = 2 := by unfold negE; simp only; rw [if_pos (by omega)]
      rw [hn1, hn2] at mt
      refine w_rs ?_
      refine step_pure mt (pu_move rfl) rfl (fun a mt => ?_)
      refine step_pure mt ((pu_eql_str rfl rfl).tob (j := true) rfl) rfl (fun a mt => ?_)
      refine step_pure mt (pu_move rfl) rfl (fun a mt => ?_)
      refine step_pure_g mt rfl rfl (pu_move rfl) rfl (fun a mt => ?_)
      refine step_pure_g mt rfl rfl ((pu_eql rfl rfl).tob (j := true) rfl) rfl (fun a mt => ?_)
      refine step_pure mt (pu_pick rfl rfl) rfl (fun a mt => ?_)
      refine step_pure mt (pu_move rfl) rfl (fun a mt => ?_)
      refine s_callv_g mt st rfl rfl K.cb18 (vs := []) rfl (awake_ok _ st.agr (hG.mono st.sub0)) rfl (fun a w' mt st => ?_)
      refine step_pure mt (pu_pick rfl rfl) rfl (fun a mt => ?_)
      refine step_pure mt (pu_assign rfl) rfl (fun a mt => ?_)
      refine w_nil ?_
      refine w_ret (x_then_ret ?_)
      refine post_ret1 mt rfl rfl ?_
      exact ⟨_, rfl, st.below, rfl⟩
    · have hn1 : negS (some x) = [40] ++ shw x ++ [62, 102, 41] := by unfold negS; simp only; rw [if_neg (by omega)]; simp [shw]
      have hn2 : negE (some x) = 0 := by unfold negE; simp only; rw [if_neg (by omega)]
      rw [hn1, hn2] at mt
      refine w_skip ?_
      refine x_then_n ?_
      refine w_rs ?_
      refine step_pure mt (pu_move rfl) rfl (fun a mt => ?_)
      refine step_pure mt (pu_move rfl) rfl (fun a mt => ?_)
      refine step_pure mt (pu_cat_str (i := [40]) rfl rfl (by simp; omega)) rfl (fun a mt => ?_)
      refine step_pure mt (pu_cat_str (j := [62, 102, 41]) rfl rfl (by simp; omega)) rfl (fun a mt => ?_)
      refine step_pure mt ((pu_eql_str rfl rfl).tob (j := true) (decide_eq_true rfl)) rfl (fun a mt => ?_)
      refine step_pure mt (pu_move rfl) rfl (fun a mt => ?_)
      refine step_pure_g mt rfl rfl (pu_move rfl) rfl (fun a mt => ?_)
      refine step_pure_g mt rfl rfl ((pu_eql rfl rfl).tob (j := true) rfl) rfl (fun a mt => ?_)
      refine step_pure mt (pu_pick rfl rfl) rfl (fun a mt => ?_)
      refine step_pure mt (pu_move rfl) rfl (fun a mt => ?_)
      refine s_callv_g mt st rfl rfl K.cb18 (vs := []) rfl (awake_ok _ st.agr (hG.mono st.sub0)) rfl (fun a w' mt st => ?_)
      refine step_pure mt (pu_pick rfl rfl) rfl (fun a mt => ?_)
      refine step_pure mt (pu_assign rfl) rfl (fun a mt => ?_)
      refine w_nil ?_
      refine w_ret ?_
      refine post_ret1 mt rfl rfl ?_
      exact ⟨_, rfl, st.below, rfl⟩
end Go.Proofs.YtoilfakpgcjjpaaDoor.Log
namespace Go.Proofs.YtoilfakpgcjjpaaDoor.Row
open Go Go.ChangeShapes Go.WideShapes Go.ChangeAt Go.RowKit Go.Proofs.YtoilfakpgcjjpaaDoor Go.Proofs.YtoilfakpgcjjpaaDoor.Eng Go.Proofs.YtoilfakpgcjjpaaDoor.Log
open Go.ChangeMaps (open_string shut_string)
set_option linter.unusedVariables false
set_option linter.unusedSimpArgs false
set_option maxRecDepth 100000
theorem classical_lifted (os : Os) (started : os.Started) (H : Type) (enc : TypeId × Value → H) :
    ReturnsInHanded {} Tryd.checked os 3 .any (fun w args => (Rows.logicClassicalSpec.pre enc Tryd.prog Tryd.f3 [] false w args ∧ laidMetH Tryd.prog laid w) ∧ sizedMet enc Tryd.prog Tryd.f3 (OpenSpec.ofChange Rows.logicClassicalSpec) false w args)
      (Rows.logicClassicalSpec.post enc Tryd.prog Tryd.f3 false true false false) := by
  refine returnsInHanded_of_change_and (C := Tryd.checked) (X := fun w _ => laidMetH Tryd.prog laid w) (fun _ _ _ hh h => h.of_heap hh) own started (by kernel_rfl) Tryd.func3
    (ChangeSpec.witness_shaped (enc := enc) (C := Tryd.checked) (os := os) (X := fun w _ => laidMetH Tryd.prog laid w) false (World.doorLaid Tryd.prog 400 os) #[.string ByteArray.empty] 8 rfl (door_shaped os _) (by kernel_rfl) (by kernel_rfl) (by kernel_rfl) (door_met os _)) ?_
  intro W base args ds gs before hval0 hW _ hsz0 hL _
  have hval : ∀ (j : Nat) t v, Tryd.f3.params[j]? = some t → args[j]? = some v → Value.okWide Tryd.prog W .any base t v := hval0
  have hW' := hW
  obtain ⟨p, q, hA0, hV, rfl, hfz, hnd⟩ := hW
  have hA : DataW.TrodAll enc Tryd.prog W 0 (fun _ => true) true Tryd.f3.params.toList args.toList ds p := hA0
  rw [Tryd.params3] at hA hval
  obtain ⟨v0, d0, rfl, rfl, h0⟩ := trodAll_one hA
  obtain ⟨rfl, rfl⟩ := trodVars_none hV
  obtain ⟨a0, rfl, rfl, rfl, y0⟩ := open_string Tryd.underlying9 (hval 0 9 v0 rfl rfl) h0
  have hG := of_laid hL
  clear hA0 hval0 hsz0
  have hwalk := LogicClassical_ok (I := hp W) a0.data.toList W (Sub.refl _) hG
  rw [← str_of] at hwalk
  refine Calls.mono hwalk fun e W' ⟨v, he, bel, hv⟩ => ?_
  subst he; subst hv
  exact ⟨_, rfl, _, _, _, [], _, [], hW', trodAll_mk1 (shut_bool Tryd.underlying4 _), trodAll_mk1 (shut_string Tryd.underlying9 y0), rfl, bel.frame _, fun h => by cases h⟩
theorem classical_said : Rows.LogicClassicalSaid :=
  OpenClaim.holds_of_wide 3 Tryd.f3 rfl rfl rfl rfl rfl rfl rfl ⟨rfl, rfl, rfl, rfl, rfl⟩ rfl rfl rfl rfl rfl (by kernel_rfl) Tryd.func3 (by kernel_rfl)
    (of_decide_eq_true (by kernel_rfl)) (by unfold Func.isWrapper; first | (rw [if_pos (by decide +kernel)]; kernel_rfl) | (rw [if_neg (by decide +kernel)]; exact ⟨rfl, rfl⟩))
    (fun os started H enc _ => classical_lifted os started H enc)
end Go.Proofs.YtoilfakpgcjjpaaDoor.Row
namespace Go.Proofs.YtoilfakpgcjjpaaDoor
open Go
set_option maxRecDepth 100000
theorem logicClassical_card : Rows.LogicClassicalCardSaid :=
  Claim7.holds_tied_plain_at .later [] [.data] true (true, "66d8a7d6c21dbc4c2189cf199939abe6f41982707b0fa5edfb9c32b2d1b9ae15") true
    Row.classical_said (fun _ h => by cases h) (by kernel_rfl) (fun _ h => by cases h) logicClassical_row_tie rfl ⟨rfl, rfl⟩ (by kernel_rfl) rfl
    (fun f fn hf hfn => by
      obtain rfl : f = 3 := Option.some.inj ((show Tryd.prog.funcNamed "turndown/turndownlaw04.LogicClassical" = some 3 by kernel_rfl).symm.trans hf) |>.symm
      obtain rfl : fn = Tryd.f3 := (Option.some.inj (Tryd.func3.symm.trans hfn)).symm
      exact ⟨by kernel_rfl, fun j t ht => by
        rw [Tryd.params3] at ht
        have hall : ∀ t ∈ [9], Tryd.prog.wantsStandIn t = false := by decide +kernel
        exact hall t (Array.mem_toList_iff.2 (Array.mem_of_getElem? ht))⟩)
    (by kernel_rfl)
#print axioms logicClassical_card
end Go.Proofs.YtoilfakpgcjjpaaDoor
