/- Contracts of functions of the program, and what they rest on: no statement of the seat. -/
import Derived.Test.YtoilfakpgcjjpaaDoorZb3
namespace Go.Proofs.YtoilfakpgcjjpaaDoor.Log
open Go Go.RowKit Go.Proofs.YtoilfakpgcjjpaaDoor Go.Proofs.YtoilfakpgcjjpaaDoor.Eng
set_option linter.unusedVariables false
set_option linter.unusedSimpArgs false
set_option maxRecDepth 100000
structure Rul where
  valid : Bool
  ms : List Mv
  abs : List (List Int)
  mks : List Int
def RulV (I : Hp) (r : Rul) (v : Value) : Prop := ∃ lv va vm, v = .agg #[.bool r.valid, lv, va, vm] ∧ MvsV I r.ms lv ∧ ModV I r.abs r.mks (.agg #[va, vm])
theorem RulV.mono {I J : Hp} (h : Sub I J) {r : Rul} {v : Value} (k : RulV I r v) : RulV J r v :=
  let ⟨lv, va, vm, e, h1, h2⟩ := k; ⟨lv, va, vm, e, RdS.mono h h1, h2.mono h⟩
def decF (x : Fm) : Rul := match cntF (addF x []) x with
  | some ws => ⟨false, [], modA ws, modM (addF x []) ws⟩
  | none => ⟨true, (derF (gM x + 1) ([], x)).getD [], [], []⟩
theorem ModV.nil (I : Hp) : ModV I [] [] (.agg #[.slice none 0 0, .slice none 0 0]) := ⟨_, _, [], rfl, RdS.nil I 1, fun i l r h _ => by simp at h, RdS.nil I 1⟩
theorem mu_goal (x : Fm) : mu ([], x) = gM x := by simp [mu, prodF]
theorem okSq_goal {x : Fm} (h : parts x ≤ 12) : okSq ([], x) := by
  have := gM_small h
  exact ⟨by rw [mu_goal]; simp; omega, ⟨fun y hy => by simp at hy, by show parts x ≤ 1000; omega⟩⟩
theorem Decide_ok {I : Hp} (s : List UInt8) (w : World) (hI : Sub I (hp w)) (hG : Gl I) :
    CallsX Tryd.prog 30 #[.string (str s)] w fun v w' => match fmOf s with
      | none => v = .tuple #[.agg #[.bool false, .slice none 0 0, .slice none 0 0, .slice none 0 0], .int .i64 4]
      | some x => ∃ rv, v = .tuple #[rv, .int .i64 0] ∧ RulV (Iext I w w') (decF x) rv := by
  have st := St.start (w0 := w) (I0 := I) hI
  refine CallsX.of (nn := 35) Tryd.func30 rfl rfl rfl (fun a mt => ?_)
  refine w_rs ?_
  refine step_alloc mt st (al_alloc K.ze56 rfl) rfl (fun a w' b2 mt st => ?_)
  refine step_pure mt (pu_assign rfl) rfl (fun a mt => ?_)
  refine w_nil ?_
  refine w_rs ?_
  refine step_pure mt (pu_move rfl) rfl (fun a mt => ?_)
  refine s_call mt st K.cb36 (vs := [.string (str s)]) rfl (parse_ok s _) rfl (fun a w' v12 mt st hI12 hv12 => ?_)
  cases hx : fmOf s with
  | none =>
    rw [hx] at hv12
    obtain ⟨u, rfl⟩ := hv12
    refine step_pure mt (pu_move rfl) rfl (fun a mt => ?_)
    refine step_pure mt (pu_extract rfl rfl) rfl (fun a mt => ?_)
    refine step_pure mt (pu_extract rfl rfl) rfl (fun a mt => ?_)
    refine step_pure mt (pu_assign rfl) rfl (fun a mt => ?_)
    refine step_pure mt (pu_assign rfl) rfl (fun a mt => ?_)
    refine w_nil ?_
    refine w_seq ?_
    refine w_rs ?_
    refine step_pure mt (pu_move rfl) rfl (fun a mt => ?_)
    refine step_pure mt (pu_neq rfl rfl) rfl (fun a mt => ?_)
    refine w_nil ?_
    refine w_true mt rfl ?_
    refine w_rs ?_
    refine step_pure mt ((pu_build K.pl56 K.ze56 rfl rfl).to (u := .agg #[.bool false, .slice none 0 0, .slice none 0 0, .slice none 0 0]) rfl) rfl (fun a mt => ?_)
    refine step_pure mt (pu_move rfl) rfl (fun a mt => ?_)
    refine s_storeA mt st K.sz56 rfl rfl rfl (by first | (simp [Value.oneCell']; done) | (simp [enc_one]; done)) rfl rfl (fun w' st => ?_)
    refine step_pure mt (pu_assign rfl) rfl (fun a mt => ?_)
    refine w_nil ?_
    refine w_ret (x_then_ret ?_)
    refine bodyPost_ret (results_aggT (b := b2) rfl (mt.at_ 2 _ rfl) (mt.at_ 3 _ rfl) K.ag56 rfl (st.blkM PickB.pick)) mt.defers ?_
    exact ⟨_, rfl, st.below, rfl⟩
  | some x =>
    rw [hx] at hv12
    subst hv12
    obtain ⟨hats, hpa⟩ := fmOf_good hx
    refine step_pure mt (pu_move rfl) rfl (fun a mt => ?_)
    refine step_pure mt (pu_extract rfl rfl) rfl (fun a mt => ?_)
    refine step_pure mt (pu_extract rfl rfl) rfl (fun a mt => ?_)
    refine step_pure mt (pu_assign rfl) rfl (fun a mt => ?_)
    refine step_pure mt (pu_assign rfl) rfl (fun a mt => ?_)
    refine w_nil ?_
    refine w_seq ?_
    refine w_rs ?_
    refine step_pure mt (pu_move rfl) rfl (fun a mt => ?_)
    refine step_pure mt (pu_neq rfl rfl) rfl (fun a mt => ?_)
    refine w_nil ?_
    refine w_false mt rfl ?_
    refine w_skip ?_
    refine x_then_n ?_
    refine w_seq ?_
    refine w_rs ?_
    refine step_pure mt (pu_move rfl) rfl (fun a mt => ?_)
    refine s_call mt st K.cb45 (vs := [enc x]) rfl (counter_ok x hats hpa _ st.agr) rfl (fun a w' v21 mt st hI21 hv21 => ?_)
    cases hc : cntF (addF x []) x with
    | none =>
      rw [hc] at hv21
      subst hv21
      have hva : (Value.slice none 0 0).oneCell' = true := rfl
      have hvm : (Value.slice none 0 0).oneCell' = true := rfl
      refine step_pure mt (pu_move rfl) rfl (fun a mt => ?_)
      refine step_pure mt (pu_extract rfl rfl) rfl (fun a mt => ?_)
      refine step_pure mt (pu_extract rfl rfl) rfl (fun a mt => ?_)
      refine step_alloc mt st (al_alloc K.ze44 rfl) rfl (fun a w' b6 mt st => ?_)
      refine s_storeA mt st K.sz44 rfl rfl rfl (by simp [hva, hvm]) rfl rfl (fun w' st => ?_)
      refine step_pure mt (pu_assign rfl) rfl (fun a mt => ?_)
      refine w_nil ?_
      refine w_rs ?_
      refine step_pure mt (pu_move rfl) rfl (fun a mt => ?_)
      refine w_nil ?_
      refine w_false mt rfl ?_
      refine w_skip ?_
      refine x_then_n ?_
      refine w_rs ?_
      refine step_pure mt (pu_move rfl) rfl (fun a mt => ?_)
      refine step_pure mt ((pu_build K.pl87 K.ze87 rfl (by simp [Instr.fill, one_cells (enc_one x)])).to (u := .agg #[.slice none 0 0, enc x]) rfl) rfl (fun a mt => ?_)
      refine s_call mt st K.cb46 (vs := [.agg #[.slice none 0 0, enc x]]) rfl (derive_ok (gM x + 1) _ ([], x) _ _ st.agr (hG.mono st.sub0) ⟨_, rfl, RdS.nil _ _⟩ (okSq_goal hpa) (by rw [mu_goal]; omega)) rfl (fun a w' v30 mt st hI30 hv30 => ?_)
      obtain ⟨lv, b, rfl, hlv⟩ : ∃ lv b, v30 = .tuple #[lv, .bool b] ∧ MvsV _ ((derF (gM x + 1) ([], x)).getD []) lv := by
        cases hd : derF (gM x + 1) ([], x) with
        | none => rw [hd] at hv30; exact ⟨_, _, hv30, RdS.nil _ _⟩
        | some ms => rw [hd] at hv30; obtain ⟨lv, e, h⟩ := hv30; exact ⟨lv, true, e, h⟩
      have hl1 : lv.oneCell' = true := by obtain ⟨ad, c, rfl, _⟩ := RdS.len hlv; rfl
      refine step_pure mt (pu_move rfl) rfl (fun a mt => ?_)
      refine step_pure mt (pu_extract rfl rfl) rfl (fun a mt => ?_)
      refine step_pure mt (pu_extract rfl rfl) rfl (fun a mt => ?_)
      refine step_pure mt (pu_assign rfl) rfl (fun a mt => ?_)
      refine step_pure mt (pu_assign rfl) rfl (fun a mt => ?_)
      refine w_nil ?_
      refine w_rs ?_
      refine step_pure mt (pu_move rfl) rfl (fun a mt => ?_)
      refine step_pure mt ((pu_build K.pl56 K.ze56 rfl (by simp [Instr.fill, one_cells hl1, one_cells (v := .bool true) rfl])).to (u := .agg #[.bool true, lv, .slice none 0 0, .slice none 0 0]) rfl) rfl (fun a mt => ?_)
      refine s_storeA mt st K.sz56 rfl rfl rfl (by simp [hl1, one_bool, one_slice]) rfl rfl (fun w' st => ?_)
      refine step_pure mt (pu_assign rfl) rfl (fun a mt => ?_)
      refine w_nil ?_
      refine w_ret ?_
      refine bodyPost_ret (results_aggT (b := b2) rfl (mt.at_ 2 _ rfl) (mt.at_ 3 _ rfl) K.ag56 rfl (st.blkM PickB.pick)) mt.defers ?_
      refine ⟨_, rfl, st.below, _, rfl, ?_⟩
      have e : decF x = ⟨true, (derF (gM x + 1) ([], x)).getD [], [], []⟩ := by unfold decF; rw [hc]
      rw [e]
      exact ⟨lv, _, _, rfl, RdS.mono (St.IX st) hlv, ModV.nil _⟩
    | some ws =>
      rw [hc] at hv21
      obtain ⟨mv, rfl, va, vm, rows, rfl, r1, r2, r3⟩ := hv21
      have hva := RdS.one r1
      have hvm := RdS.one r3
      refine step_pure mt (pu_move rfl) rfl (fun a mt => ?_)
      refine step_pure mt (pu_extract rfl rfl) rfl (fun a mt => ?_)
      refine step_pure mt (pu_extract rfl rfl) rfl (fun a mt => ?_)
      refine step_alloc mt st (al_alloc K.ze44 rfl) rfl (fun a w' b6 mt st => ?_)
      refine s_storeA mt st K.sz44 rfl rfl rfl (by simp [hva, hvm]) rfl rfl (fun w' st => ?_)
      refine step_pure mt (pu_assign rfl) rfl (fun a mt => ?_)
      refine w_nil ?_
      refine w_rs ?_
      refine step_pure mt (pu_move rfl) rfl (fun a mt => ?_)
      refine w_nil ?_
      refine w_true mt rfl ?_
      refine w_rs ?_
      refine step_pure mt (pu_loadMA st K.ag44 rfl rfl) rfl (fun a mt => ?_)
      refine step_pure mt ((pu_build K.pl56 K.ze56 rfl rfl).to (u := .agg #[.bool false, .slice none 0 0, va, vm]) rfl) rfl (fun a mt => ?_)
      refine s_storeA mt st K.sz56 rfl rfl rfl (by simp [hva, hvm, one_bool, one_slice]) rfl rfl (fun w' st => ?_)
      refine step_pure mt (pu_assign rfl) rfl (fun a mt => ?_)
      refine w_nil ?_
      refine w_ret (x_then_ret ?_)
      refine bodyPost_ret (results_aggT (b := b2) rfl (mt.at_ 2 _ rfl) (mt.at_ 3 _ rfl) K.ag56 rfl (st.blkM PickB.pick)) mt.defers ?_
      refine ⟨_, rfl, st.below, _, rfl, ?_⟩
      have e : decF x = ⟨false, [], modA ws, modM (addF x []) ws⟩ := by unfold decF; rw [hc]
      rw [e]
      exact ⟨_, va, vm, rfl, RdS.nil _ _, va, vm, rows, rfl, r1.mono (St.IX st), fun i l r a b => (r2 i l r a b).mono (St.IX st), r3.mono (St.IX st)⟩
end Go.Proofs.YtoilfakpgcjjpaaDoor.Log
namespace Go.Proofs.YtoilfakpgcjjpaaDoor.Log
open Go Go.RowKit Go.Proofs.YtoilfakpgcjjpaaDoor Go.Proofs.YtoilfakpgcjjpaaDoor.Eng
set_option linter.unusedVariables false
set_option linter.unusedSimpArgs false
set_option maxRecDepth 100000
def chkF (x : Fm) (r : Rul) : Bool :=
  if r.valid then decide (dersF (r.ms.length + 1) ([], x) r.ms = some []) && decide (r.ms.length ≤ 20000) && decide (r.abs.length + r.mks.length = 0)
  else decide (r.ms.length = 0) && isModF r.abs r.mks && !fc r.abs r.mks x 0
theorem Check_ok {I : Hp} (s : List UInt8) (r : Rul) (rv : Value) (w : World) (hI : Sub I (hp w)) (hr : RulV I r rv) (hms : r.ms.length ≤ 1000000) (hab : r.abs.length ≤ 1000000) (hmk : r.mks.length ≤ 1000000) :
    CallsX Tryd.prog 33 #[.string (str s), rv] w fun v _ => v = .int .i64 (match fmOf s with
      | none => 4
      | some x => if chkF x r = true then 0 else 10) := by
  obtain ⟨lv, va, vm, rfl, hlv, hmv⟩ := hr
  obtain ⟨_, _, rows, e0, rva, rrow, rvm⟩ := id hmv
  cases e0
  have hl1 : lv.oneCell' = true := by obtain ⟨ad, c, rfl, _⟩ := RdS.len hlv; rfl
  have hva := RdS.one rva
  have hvm := RdS.one rvm
  have hmxa := rva.max
  have hmxm := rvm.max
  unfold maxLen at hmxa hmxm
  have st := St.start (w0 := w) (I0 := I) hI
  refine CallsX.of (nn := 72) Tryd.func33 rfl rfl rfl (fun a mt => ?_)
  refine w_rs ?_
  refine step_alloc mt st (al_box rfl rfl) rfl (fun a w' b3 mt st => ?_)
  refine step_pure mt (pu_assign rfl) rfl (fun a mt => ?_)
  refine w_nil ?_
  refine w_rs ?_
  refine step_pure mt (pu_move rfl) rfl (fun a mt => ?_)
  refine s_call mt st K.cb36 (vs := [.string (str s)]) rfl (parse_ok s _) rfl (fun a w' v12 mt st hI12 hv12 => ?_)
  cases hx : fmOf s with
  | none =>
    rw [hx] at hv12
    obtain ⟨u, rfl⟩ := hv12
    refine step_pure mt (pu_move rfl) rfl (fun a mt => ?_)
    refine step_pure mt (pu_extract rfl rfl) rfl (fun a mt => ?_)
    refine step_pure mt (pu_extract rfl rfl) rfl (fun a mt => ?_)
    refine step_pure mt (pu_assign rfl) rfl (fun a mt => ?_)
    refine step_pure mt (pu_assign rfl) rfl (fun a mt => ?_)
    refine w_nil ?_
    refine w_seq ?_
    refine w_rs ?_
    refine step_pure mt (pu_move rfl) rfl (fun a mt => ?_)
    refine step_pure mt (pu_neq rfl rfl) rfl (fun a mt => ?_)
    refine w_nil ?_
    refine w_true mt rfl ?_
    refine w_rs ?_
    refine step_pure mt (pu_move rfl) rfl (fun a mt => ?_)
    refine step_pure mt (pu_assign rfl) rfl (fun a mt => ?_)
    refine w_nil ?_
    refine w_ret (x_then_ret ?_)
    refine post_ret1 mt rfl rfl ?_
    exact ⟨_, rfl, st.below, rfl⟩
  | some x =>
    rw [hx] at hv12
    subst hv12
    obtain ⟨hats, hpa⟩ := fmOf_good hx
    refine step_pure mt (pu_move rfl) rfl (fun a mt => ?_)
    refine step_pure mt (pu_extract rfl rfl) rfl (fun a mt => ?_)
    refine step_pure mt (pu_extract rfl rfl) rfl (fun a mt => ?_)
    refine step_pure mt (pu_assign rfl) rfl (fun a mt => ?_)
    refine step_pure mt (pu_assign rfl) rfl (fun a mt => ?_)
    refine w_nil ?_
    refine w_seq ?_
    refine w_rs ?_
    refine step_pure mt (pu_move rfl) rfl (fun a mt => ?_)
    refine step_pure mt (pu_neq rfl rfl) rfl (fun a mt => ?_)
    refine w_nil ?_
    refine w_false mt rfl ?_
    refine w_skip ?_
    refine x_then_n ?_
    refine w_rs ?_
    refine step_pure mt (pu_assign rfl) rfl (fun a mt => ?_)
    refine w_nil ?_
    refine w_seq ?_
    refine w_rs ?_
    refine step_pure mt (pu_fld 0 K.fl56_0 rfl) rfl (fun a mt => ?_)
    refine step_pure mt (pu_loadM st K.sc4 rfl rfl) rfl (fun a mt => ?_)
    cases hvd : r.valid with
    | false =>
      rw [hvd] at mt st
      have hchk : chkF x r = (decide (r.ms.length = 0) && isModF r.abs r.mks && !fc r.abs r.mks x 0) := by unfold chkF; rw [hvd]; rfl
      refine w_nil ?_
      refine w_false mt rfl ?_
      refine w_region ?_
      refine step_pure mt (pu_fld 1 K.fl56_1 rfl) rfl (fun a mt => ?_)
      refine step_pure mt (pu_loadM st K.sc54 rfl rfl) rfl (fun a mt => ?_)
      refine step_pure mt (pu_len_r rfl hlv K.un54) rfl (fun a mt => ?_)
      refine step_pure mt (pu_eql rfl rfl) rfl (fun a mt => ?_)
      refine step_pure mt (pu_move rfl) rfl (fun a mt => ?_)
      refine split_p 56 mt rfl (fun g56 mt => ?_) (fun g56 mt => ?_)
      · refine step_pure_g mt rfl rfl (pu_fld 2 K.fl56_2 rfl) rfl (fun a mt => ?_)
        refine step_pure_g mt rfl rfl (pu_loadMP (vs := [va, vm]) st K.ag44 rfl rfl rfl) rfl (fun a mt => ?_)
        refine s_callv_g mt st rfl rfl K.cb41 (vs := [.agg #[va, vm]]) rfl (isModel_ok r.abs r.mks (.agg #[va, vm]) _ st.agr (hmv.mono st.sub0)) rfl (fun a w' mt st => ?_)
        refine step_pure mt (pu_pick rfl rfl) rfl (fun a mt => ?_)
        refine step_pure mt (pu_move rfl) rfl (fun a mt => ?_)
        refine split_b 61 mt rfl (fun g61 mt => ?_) (fun g61 mt => ?_)
        · have hmf : isModF r.abs r.mks = true := g61
          have h1n := (isModF_get hmf).1
          refine step_pure_g mt rfl rfl (pu_fld 2 K.fl56_2 rfl) rfl (fun a mt => ?_)
          refine step_pure_g mt rfl rfl (pu_loadMP (vs := [va, vm]) st K.ag44 rfl rfl rfl) rfl (fun a mt => ?_)
          refine step_pure_g mt rfl rfl (pu_move rfl) rfl (fun a mt => ?_)
          refine s_call_g mt st rfl rfl K.cb42 (vs := [.agg #[va, vm], enc x]) rfl (forced_ok x hats _ r.abs r.mks (.agg #[va, vm]) _ st.agr (hmv.mono st.sub0) (isModF_fits hmf)) rfl (fun a w' v65 mt st hI65 hv65 => ?_)
          refine step_pure_g mt rfl rfl (pu_ia (m := r.abs.length) (i := 0) K.el49 (by decide) rfl hv65 rfl (by omega) (by omega)) rfl (fun a mt => ?_)
          refine step_pure_g mt rfl rfl (pu_loadR (i := 0) st K.sc4 hv65 rfl (boolsV_get (k := 0) (by omega))) rfl (fun a mt => ?_)
          refine step_pure_g mt rfl rfl (pu_not rfl) rfl (fun a mt => ?_)
          refine step_pure mt (pu_pick rfl rfl) rfl (fun a mt => ?_)
          refine step_pure mt (pu_assign rfl) rfl (fun a mt => ?_)
          refine w_nil' ?_
          refine x_then_n ?_
          refine w_seq ?_
          refine w_rs ?_
          refine step_pure mt (pu_move rfl) rfl (fun a mt => ?_)
          refine step_pure mt (pu_not rfl) rfl (fun a mt => ?_)
          refine w_nil ?_
          refine w_cond_b mt rfl (fun h71 => ?_) (fun h71 => ?_)
          · refine w_rs ?_
            refine step_pure mt (pu_assign rfl) rfl (fun a mt => ?_)
            refine w_nil ?_
            refine w_ret (x_then_ret ?_)
            refine post_ret1 mt rfl rfl ?_
            have hz : chkF x r = false := by
              rw [hchk]; refine Bool.eq_false_iff.2 fun hh => ?_
              simp only [Bool.and_eq_true, decide_eq_true_eq, Bool.not_eq_true'] at hh
              first
              | omega
              | (obtain ⟨⟨h1, _⟩, _⟩ := hh; cases h1; done)
              | (have h1 := hh.1.1; cases h1; exact g34 rfl)
              | (have h1 := hh.1.2; rw [g61] at h1; cases h1; done)
              | (rw [hh.2] at h71; simp at h71; done)
              | (simp only [Bool.not_eq_true', decide_eq_false_iff_not] at h71; omega)
            exact ⟨_, rfl, st.below, show Value.int .i64 10 = .int .i64 (if chkF x r = true then 0 else 10) by rw [hz]; rfl⟩
          · refine w_skip ?_
            refine x_then_n ?_
            refine w_rs ?_
            refine step_pure mt (pu_assign rfl) rfl (fun a mt => ?_)
            refine w_nil ?_
            refine w_ret ?_
            refine post_ret1 mt rfl rfl ?_
            have hz : chkF x r = true := by
              rw [hchk]
              simp only [Bool.and_eq_true, decide_eq_true_eq, Bool.not_eq_true']
              first
              | (have h5 : rest = [] := List.eq_nil_of_length_eq_zero (by omega)
                 refine ⟨⟨by rw [h5], by omega⟩, ?_⟩
                 simp only [Bool.not_eq_false', decide_eq_true_eq] at h71
                 omega)
              | (refine ⟨⟨by omega, g61⟩, ?_⟩; simpa using h71)
            exact ⟨_, rfl, st.below, show Value.int .i64 0 = .int .i64 (if chkF x r = true then 0 else 10) by rw [hz]; rfl⟩
        · refine step_skip_g mt rfl rfl rfl rfl (fun a mt => ?_)
          refine step_skip_g mt rfl rfl rfl rfl (fun a mt => ?_)
          refine step_skip_g mt rfl rfl rfl rfl (fun a mt => ?_)
          refine step_skip_g mt rfl rfl rfl rfl (fun a mt => ?_)
          refine step_skip_g mt rfl rfl rfl rfl (fun a mt => ?_)
          refine step_skip_g mt rfl rfl rfl rfl (fun a mt => ?_)
          refine step_skip_g mt rfl rfl rfl rfl (fun a mt => ?_)
          refine step_pure mt (pu_pick rfl rfl) rfl (fun a mt => ?_)
          refine step_pure mt (pu_assign rfl) rfl (fun a mt => ?_)
          refine w_nil' ?_
          refine x_then_n ?_
          refine w_seq ?_
          refine w_rs ?_
          refine step_pure mt (pu_move rfl) rfl (fun a mt => ?_)
          refine step_pure mt (pu_not rfl) rfl (fun a mt => ?_)
          refine w_nil ?_
          refine w_true mt rfl ?_
          refine w_rs ?_
          refine step_pure mt (pu_assign rfl) rfl (fun a mt => ?_)
          refine w_nil ?_
          refine w_ret (x_then_ret ?_)
          refine post_ret1 mt rfl rfl ?_
          have hz : chkF x r = false := by
            rw [hchk]; refine Bool.eq_false_iff.2 fun hh => ?_
            simp only [Bool.and_eq_true, decide_eq_true_eq, Bool.not_eq_true'] at hh
            first
            | omega
            | (obtain ⟨⟨h1, _⟩, _⟩ := hh; cases h1; done)
            | (have h1 := hh.1.1; cases h1; exact g34 rfl)
            | (have h1 := hh.1.2; rw [g61] at h1; cases h1; done)
            | (rw [hh.2] at h71; simp at h71; done)
            | (simp only [Bool.not_eq_true', decide_eq_false_iff_not] at h71; omega)
          exact ⟨_, rfl, st.below, show Value.int .i64 10 = .int .i64 (if chkF x r = true then 0 else 10) by rw [hz]; rfl⟩
      · refine step_skip_g mt rfl rfl rfl rfl (fun a mt => ?_)
        refine step_skip_g mt rfl rfl rfl rfl (fun a mt => ?_)
        refine step_skip_g mt rfl rfl rfl rfl (fun a mt => ?_)
        refine step_pure mt (pu_pick rfl rfl) rfl (fun a mt => ?_)
        refine step_pure mt (pu_move rfl) rfl (fun a mt => ?_)
        refine step_skip_g mt rfl rfl rfl rfl (fun a mt => ?_)
        refine step_skip_g mt rfl rfl rfl rfl (fun a mt => ?_)
        refine step_skip_g mt rfl rfl rfl rfl (fun a mt => ?_)
        refine step_skip_g mt rfl rfl rfl rfl (fun a mt => ?_)
        refine step_skip_g mt rfl rfl rfl rfl (fun a mt => ?_)
        refine step_skip_g mt rfl rfl rfl rfl (fun a mt => ?_)
        refine step_skip_g mt rfl rfl rfl rfl (fun a mt => ?_)
        refine step_pure mt (pu_pick rfl rfl) rfl (fun a mt => ?_)
        refine step_pure mt (pu_assign rfl) rfl (fun a mt => ?_)
        refine w_nil' ?_
        refine x_then_n ?_
        refine w_seq ?_
        refine w_rs ?_
        refine step_pure mt (pu_move rfl) rfl (fun a mt => ?_)
        refine step_pure mt (pu_not rfl) rfl (fun a mt => ?_)
        refine w_nil ?_
        refine w_true mt rfl ?_
        refine w_rs ?_
        refine step_pure mt (pu_assign rfl) rfl (fun a mt => ?_)
        refine w_nil ?_
        refine w_ret (x_then_ret ?_)
        refine post_ret1 mt rfl rfl ?_
        have hz : chkF x r = false := by
          rw [hchk]; refine Bool.eq_false_iff.2 fun hh => ?_
          simp only [Bool.and_eq_true, decide_eq_true_eq, Bool.not_eq_true'] at hh
          first
          | omega
          | (obtain ⟨⟨h1, _⟩, _⟩ := hh; cases h1; done)
          | (have h1 := hh.1.1; cases h1; exact g34 rfl)
          | (have h1 := hh.1.2; rw [g61] at h1; cases h1; done)
          | (rw [hh.2] at h71; simp at h71; done)
          | (simp only [Bool.not_eq_true', decide_eq_false_iff_not] at h71; omega)
        exact ⟨_, rfl, st.below, show Value.int .i64 10 = .int .i64 (if chkF x r = true then 0 else 10) by rw [hz]; rfl⟩
    | true =>
      rw [hvd] at mt st
      have hchk : chkF x r = (decide (dersF (r.ms.length + 1) ([], x) r.ms = some []) && decide (r.ms.length ≤ 20000) && decide (r.abs.length + r.mks.length = 0)) := by unfold chkF; rw [hvd]; rfl
      refine w_nil ?_
      refine w_true mt rfl ?_
      refine w_rs ?_
      refine step_pure mt (pu_move rfl) rfl (fun a mt => ?_)
      refine step_pure mt ((pu_build K.pl87 K.ze87 rfl (by simp [Instr.fill, one_cells (enc_one x)])).to (u := .agg #[.slice none 0 0, enc x]) rfl) rfl (fun a mt => ?_)
      refine step_pure mt (pu_fld 1 K.fl56_1 rfl) rfl (fun a mt => ?_)
      refine step_pure mt (pu_loadM st K.sc54 rfl rfl) rfl (fun a mt => ?_)
      refine s_call mt st K.cb48 (vs := [.agg #[.slice none 0 0, enc x], lv]) rfl (derives_ok (r.ms.length + 1) _ ([], x) r.ms _ _ _ st.agr ⟨_, rfl, RdS.nil _ _⟩ (RdS.mono st.sub0 hlv) (okSq_goal hpa) (by omega) hms) rfl (fun a w' v25 mt st hI25 hv25 => ?_)
      cases ho : dersF (r.ms.length + 1) ([], x) r.ms with
      | none =>
        rw [ho] at hv25
        obtain ⟨rl, rfl, _⟩ := hv25
        rw [ho] at hchk
        refine step_pure mt (pu_move rfl) rfl (fun a mt => ?_)
        refine step_pure mt (pu_extract rfl rfl) rfl (fun a mt => ?_)
        refine step_pure mt (pu_extract rfl rfl) rfl (fun a mt => ?_)
        refine step_pure mt (pu_assign rfl) rfl (fun a mt => ?_)
        refine step_pure mt (pu_assign rfl) rfl (fun a mt => ?_)
        refine w_nil ?_
        refine w_region ?_
        refine step_pure mt (pu_move rfl) rfl (fun a mt => ?_)
        refine step_pure mt (pu_move rfl) rfl (fun a mt => ?_)
        refine step_skip_g mt rfl rfl rfl rfl (fun a mt => ?_)
        refine step_skip_g mt rfl rfl rfl rfl (fun a mt => ?_)
        refine step_skip_g mt rfl rfl rfl rfl (fun a mt => ?_)
        refine step_pure mt (pu_pick rfl rfl) rfl (fun a mt => ?_)
        refine step_pure mt (pu_move rfl) rfl (fun a mt => ?_)
        refine step_skip_g mt rfl rfl rfl rfl (fun a mt => ?_)
        refine step_skip_g mt rfl rfl rfl rfl (fun a mt => ?_)
        refine step_skip_g mt rfl rfl rfl rfl (fun a mt => ?_)
        refine step_skip_g mt rfl rfl rfl rfl (fun a mt => ?_)
        refine step_pure mt (pu_pick rfl rfl) rfl (fun a mt => ?_)
        refine step_pure mt (pu_move rfl) rfl (fun a mt => ?_)
        refine step_skip_g mt rfl rfl rfl rfl (fun a mt => ?_)
        refine step_skip_g mt rfl rfl rfl rfl (fun a mt => ?_)
        refine step_skip_g mt rfl rfl rfl rfl (fun a mt => ?_)
        refine step_skip_g mt rfl rfl rfl rfl (fun a mt => ?_)
        refine step_skip_g mt rfl rfl rfl rfl (fun a mt => ?_)
        refine step_skip_g mt rfl rfl rfl rfl (fun a mt => ?_)
        refine step_skip_g mt rfl rfl rfl rfl (fun a mt => ?_)
        refine step_skip_g mt rfl rfl rfl rfl (fun a mt => ?_)
        refine step_skip_g mt rfl rfl rfl rfl (fun a mt => ?_)
        refine step_skip_g mt rfl rfl rfl rfl (fun a mt => ?_)
        refine step_pure mt (pu_pick rfl rfl) rfl (fun a mt => ?_)
        refine step_pure mt (pu_assign rfl) rfl (fun a mt => ?_)
        refine w_nil' ?_
        refine x_then_n ?_
        refine w_seq ?_
        refine w_rs ?_
        refine step_pure mt (pu_move rfl) rfl (fun a mt => ?_)
        refine step_pure mt (pu_not rfl) rfl (fun a mt => ?_)
        refine w_nil ?_
        refine w_true mt rfl ?_
        refine w_rs ?_
        refine step_pure mt (pu_assign rfl) rfl (fun a mt => ?_)
        refine w_nil ?_
        refine w_ret (x_then_ret ?_)
        refine post_ret1 mt rfl rfl ?_
        have hz : chkF x r = false := by
          rw [hchk]; refine Bool.eq_false_iff.2 fun hh => ?_
          simp only [Bool.and_eq_true, decide_eq_true_eq, Bool.not_eq_true'] at hh
          first
          | omega
          | (obtain ⟨⟨h1, _⟩, _⟩ := hh; cases h1; done)
          | (have h1 := hh.1.1; cases h1; exact g34 rfl)
          | (have h1 := hh.1.2; rw [g61] at h1; cases h1; done)
          | (rw [hh.2] at h71; simp at h71; done)
          | (simp only [Bool.not_eq_true', decide_eq_false_iff_not] at h71; omega)
        exact ⟨_, rfl, st.below, show Value.int .i64 10 = .int .i64 (if chkF x r = true then 0 else 10) by rw [hz]; rfl⟩
      | some rest =>
        rw [ho] at hv25
        obtain ⟨rl, rfl, hrl⟩ := hv25
        have hrl := hrl rest rfl
        rw [ho] at hchk
        refine step_pure mt (pu_move rfl) rfl (fun a mt => ?_)
        refine step_pure mt (pu_extract rfl rfl) rfl (fun a mt => ?_)
        refine step_pure mt (pu_extract rfl rfl) rfl (fun a mt => ?_)
        refine step_pure mt (pu_assign rfl) rfl (fun a mt => ?_)
        refine step_pure mt (pu_assign rfl) rfl (fun a mt => ?_)
        refine w_nil ?_
        refine w_region ?_
        refine step_pure mt (pu_move rfl) rfl (fun a mt => ?_)
        refine step_pure mt (pu_move rfl) rfl (fun a mt => ?_)
        refine step_pure_g mt rfl rfl (pu_move rfl) rfl (fun a mt => ?_)
        refine step_pure_g mt rfl rfl (pu_len_r rfl hrl K.un54) rfl (fun a mt => ?_)
        refine step_pure_g mt rfl rfl (pu_eql rfl rfl) rfl (fun a mt => ?_)
        refine step_pure mt (pu_pick rfl rfl) rfl (fun a mt => ?_)
        refine step_pure mt (pu_move rfl) rfl (fun a mt => ?_)
        refine split_p 34 mt rfl (fun g34 mt => ?_) (fun g34 mt => ?_)
        · refine step_pure_g mt rfl rfl (pu_fld 1 K.fl56_1 rfl) rfl (fun a mt => ?_)
          refine step_pure_g mt rfl rfl (pu_loadM st K.sc54 rfl rfl) rfl (fun a mt => ?_)
          refine step_pure_g mt rfl rfl (pu_len_r rfl hlv K.un54) rfl (fun a mt => ?_)
          refine step_pure_g mt rfl rfl (pu_leq rfl rfl) rfl (fun a mt => ?_)
          refine step_pure mt (pu_pick rfl rfl) rfl (fun a mt => ?_)
          refine step_pure mt (pu_move rfl) rfl (fun a mt => ?_)
          refine split_p 40 mt rfl (fun g40 mt => ?_) (fun g40 mt => ?_)
          · refine step_pure_g mt rfl rfl (pu_fld 2 K.fl56_2 rfl) rfl (fun a mt => ?_)
            refine step_pure_g mt rfl rfl (pu_fld 0 K.fl44_0 rfl) rfl (fun a mt => ?_)
            refine step_pure_g mt rfl rfl (pu_loadM st K.sc41 rfl rfl) rfl (fun a mt => ?_)
            refine step_pure_g mt rfl rfl (pu_len_r rfl rva K.un41) rfl (fun a mt => ?_)
            refine step_pure_g mt rfl rfl (pu_fld 2 K.fl56_2 rfl) rfl (fun a mt => ?_)
            refine step_pure_g mt rfl rfl (pu_fld 1 K.fl44_1 rfl) rfl (fun a mt => ?_)
            refine step_pure_g mt rfl rfl (pu_loadM st K.sc42 rfl rfl) rfl (fun a mt => ?_)
            refine step_pure_g mt rfl rfl (pu_len_r rfl rvm K.un42) rfl (fun a mt => ?_)
            refine step_pure_g mt rfl rfl (pu_add_i rfl rfl (by omega)) rfl (fun a mt => ?_)
            refine step_pure_g mt rfl rfl (pu_eql rfl rfl) rfl (fun a mt => ?_)
            refine step_pure mt (pu_pick rfl rfl) rfl (fun a mt => ?_)
            refine step_pure mt (pu_assign rfl) rfl (fun a mt => ?_)
            refine w_nil' ?_
            refine x_then_n ?_
            refine w_seq ?_
            refine w_rs ?_
            refine step_pure mt (pu_move rfl) rfl (fun a mt => ?_)
            refine step_pure mt (pu_not rfl) rfl (fun a mt => ?_)
            refine w_nil ?_
            refine w_cond_b mt rfl (fun h71 => ?_) (fun h71 => ?_)
            · refine w_rs ?_
              refine step_pure mt (pu_assign rfl) rfl (fun a mt => ?_)
              refine w_nil ?_
              refine w_ret (x_then_ret ?_)
              refine post_ret1 mt rfl rfl ?_
              have hz : chkF x r = false := by
                rw [hchk]; refine Bool.eq_false_iff.2 fun hh => ?_
                simp only [Bool.and_eq_true, decide_eq_true_eq, Bool.not_eq_true'] at hh
                first
                | omega
                | (obtain ⟨⟨h1, _⟩, _⟩ := hh; cases h1; done)
                | (have h1 := hh.1.1; cases h1; exact g34 rfl)
                | (have h1 := hh.1.2; rw [g61] at h1; cases h1; done)
                | (rw [hh.2] at h71; simp at h71; done)
                | (simp only [Bool.not_eq_true', decide_eq_false_iff_not] at h71; omega)
              exact ⟨_, rfl, st.below, show Value.int .i64 10 = .int .i64 (if chkF x r = true then 0 else 10) by rw [hz]; rfl⟩
            · refine w_skip ?_
              refine x_then_n ?_
              refine w_rs ?_
              refine step_pure mt (pu_assign rfl) rfl (fun a mt => ?_)
              refine w_nil ?_
              refine w_ret ?_
              refine post_ret1 mt rfl rfl ?_
              have hz : chkF x r = true := by
                rw [hchk]
                simp only [Bool.and_eq_true, decide_eq_true_eq, Bool.not_eq_true']
                first
                | (have h5 : rest = [] := List.eq_nil_of_length_eq_zero (by omega)
                   refine ⟨⟨by rw [h5], by omega⟩, ?_⟩
                   simp only [Bool.not_eq_false', decide_eq_true_eq] at h71
                   omega)
                | (refine ⟨⟨by omega, g61⟩, ?_⟩; simpa using h71)
              exact ⟨_, rfl, st.below, show Value.int .i64 0 = .int .i64 (if chkF x r = true then 0 else 10) by rw [hz]; rfl⟩
          · refine step_skip_g mt rfl rfl rfl rfl (fun a mt => ?_)
            refine step_skip_g mt rfl rfl rfl rfl (fun a mt => ?_)
            refine step_skip_g mt rfl rfl rfl rfl (fun a mt => ?_)
            refine step_skip_g mt rfl rfl rfl rfl (fun a mt => ?_)
            refine step_skip_g mt rfl rfl rfl rfl (fun a mt => ?_)
            refine step_skip_g mt rfl rfl rfl rfl (fun a mt => ?_)
            refine step_skip_g mt rfl rfl rfl rfl (fun a mt => ?_)
            refine step_skip_g mt rfl rfl rfl rfl (fun a mt => ?_)
            refine step_skip_g mt rfl rfl rfl rfl (fun a mt => ?_)
            refine step_skip_g mt rfl rfl rfl rfl (fun a mt => ?_)
            refine step_pure mt (pu_pick rfl rfl) rfl (fun a mt => ?_)
            refine step_pure mt (pu_assign rfl) rfl (fun a mt => ?_)
            refine w_nil' ?_
            refine x_then_n ?_
            refine w_seq ?_
            refine w_rs ?_
            refine step_pure mt (pu_move rfl) rfl (fun a mt => ?_)
            refine step_pure mt (pu_not rfl) rfl (fun a mt => ?_)
            refine w_nil ?_
            refine w_true mt rfl ?_
            refine w_rs ?_
            refine step_pure mt (pu_assign rfl) rfl (fun a mt => ?_)
            refine w_nil ?_
            refine w_ret (x_then_ret ?_)
            refine post_ret1 mt rfl rfl ?_
            have hz : chkF x r = false := by
              rw [hchk]; refine Bool.eq_false_iff.2 fun hh => ?_
              simp only [Bool.and_eq_true, decide_eq_true_eq, Bool.not_eq_true'] at hh
              first
              | omega
              | (obtain ⟨⟨h1, _⟩, _⟩ := hh; cases h1; done)
              | (have h1 := hh.1.1; cases h1; exact g34 rfl)
              | (have h1 := hh.1.2; rw [g61] at h1; cases h1; done)
              | (rw [hh.2] at h71; simp at h71; done)
              | (simp only [Bool.not_eq_true', decide_eq_false_iff_not] at h71; omega)
            exact ⟨_, rfl, st.below, show Value.int .i64 10 = .int .i64 (if chkF x r = true then 0 else 10) by rw [hz]; rfl⟩
        · refine step_skip_g mt rfl rfl rfl rfl (fun a mt => ?_)
          refine step_skip_g mt rfl rfl rfl rfl (fun a mt => ?_)
          refine step_skip_g mt rfl rfl rfl rfl (fun a mt => ?_)
          refine step_skip_g mt rfl rfl rfl rfl (fun a mt => ?_)
          refine step_pure mt (pu_pick rfl rfl) rfl (fun a mt => ?_)
          refine step_pure mt (pu_move rfl) rfl (fun a mt => ?_)
          refine step_skip_g mt rfl rfl rfl rfl (fun a mt => ?_)
          refine step_skip_g mt rfl rfl rfl rfl (fun a mt => ?_)
          refine step_skip_g mt rfl rfl rfl rfl (fun a mt => ?_)
          refine step_skip_g mt rfl rfl rfl rfl (fun a mt => ?_)
          refine step_skip_g mt rfl rfl rfl rfl (fun a mt => ?_)
          refine step_skip_g mt rfl rfl rfl rfl (fun a mt => ?_)
          refine step_skip_g mt rfl rfl rfl rfl (fun a mt => ?_)
          refine step_skip_g mt rfl rfl rfl rfl (fun a mt => ?_)
          refine step_skip_g mt rfl rfl rfl rfl (fun a mt => ?_)
          refine step_skip_g mt rfl rfl rfl rfl (fun a mt => ?_)
          refine step_pure mt (pu_pick rfl rfl) rfl (fun a mt => ?_)
          refine step_pure mt (pu_assign rfl) rfl (fun a mt => ?_)
          refine w_nil' ?_
          refine x_then_n ?_
          refine w_seq ?_
          refine w_rs ?_
          refine step_pure mt (pu_move rfl) rfl (fun a mt => ?_)
          refine step_pure mt (pu_not rfl) rfl (fun a mt => ?_)
          refine w_nil ?_
          refine w_true mt rfl ?_
          refine w_rs ?_
          refine step_pure mt (pu_assign rfl) rfl (fun a mt => ?_)
          refine w_nil ?_
          refine w_ret (x_then_ret ?_)
          refine post_ret1 mt rfl rfl ?_
          have hz : chkF x r = false := by
            rw [hchk]; refine Bool.eq_false_iff.2 fun hh => ?_
            simp only [Bool.and_eq_true, decide_eq_true_eq, Bool.not_eq_true'] at hh
            first
            | omega
            | (obtain ⟨⟨h1, _⟩, _⟩ := hh; cases h1; done)
            | (have h1 := hh.1.1; cases h1; exact g34 rfl)
            | (have h1 := hh.1.2; rw [g61] at h1; cases h1; done)
            | (rw [hh.2] at h71; simp at h71; done)
            | (simp only [Bool.not_eq_true', decide_eq_false_iff_not] at h71; omega)
          exact ⟨_, rfl, st.below, show Value.int .i64 10 = .int .i64 (if chkF x r = true then 0 else 10) by rw [hz]; rfl⟩
end Go.Proofs.YtoilfakpgcjjpaaDoor.Log
namespace Go.Proofs.YtoilfakpgcjjpaaDoor.Log
open Go Go.RowKit Go.Proofs.YtoilfakpgcjjpaaDoor Go.Proofs.YtoilfakpgcjjpaaDoor.Eng
set_option linter.unusedVariables false
set_option linter.unusedSimpArgs false
set_option maxRecDepth 100000
theorem str_inj {a b : List UInt8} : str a = str b ↔ a = b := by
  constructor
  · intro h
    have := congrArg (fun s : ByteArray => s.data.toList) h
    simpa [str] using this
  · rintro rfl; rfl
theorem str_app (a b : List UInt8) : str a ++ str b = str (a ++ b) := by
  apply ByteArray.ext
  simp [str]
theorem str_len (l : List UInt8) : (str l).size = l.length := rfl
section
variable {P : Program} {Q : Exit → Act → World → Prop} {a : Act} {w w1 : World} {n : Nat} {L : List (Nat × Value)} {ops : Array Oper} {rest : List Oper}
  {d : Nat} {op : Op} {ty : TypeId} {pos : String} {af : Array Edge} {g : Option (Nat × Bool)} {dd : Option Tmp}
theorem results_three {fn : Func} {t u v : Tmp} (h : fn.results = #[.tmp t, .tmp u, .tmp v]) (tmps : Array Value) (P : Program) (w : World) :
    (results fn tmps).run P w = .ok (.tuple #[tmps.getD t undef, tmps.getD u undef, tmps.getD v undef]) w := by
  simp [results, h]
theorem post_ret3 {fn : Func} {R : Ending → World → Prop} {t u z : Tmp} {v x y : Value} (mt : Mt n a L) (hr : fn.results = #[.tmp t, .tmp u, .tmp z]) (ht : Eng.look L t = some v) (hu : Eng.look L u = some x) (hz : Eng.look L z = some y) (h : R (.returned (.tuple #[v, x, y])) w) : bodyPost P fn R .ret a w :=
  bodyPost_ret (v := .tuple #[v, x, y]) (by rw [results_three hr, mt.at_ _ _ ht, mt.at_ _ _ hu, mt.at_ _ _ hz]) mt.defers h
theorem pu_len_str {x : Operand} {t : TypeId} {l : List UInt8} (hx : ev L x = some (.string (str l))) (ht : P.underlying t = some .string) : PureE P n L w1 ⟨dd, .call { callee := .builtin .len, args := #[x], argTypes := #[t] }, ty, pos, af, g⟩ (.int .i64 l.length) := pu_len_s hx ht
theorem pu_idx {x y : Operand} {t : TypeId} {l : List UInt8} {k : IntKind} {i : Int} {b : UInt8} (hx : ev L x = some (.string (str l))) (hy : ev L y = some (.int k i)) (ht : P.underlying t = some .string) (h0 : 0 ≤ i) (hb : l[i.toNat]? = some b) :
    PureE P n L w1 ⟨dd, .index t x y, ty, pos, af, g⟩ (.int .u8 b.toNat) := pu_index_s hx hy ht h0 (by rw [str_get]; exact hb)
theorem pu_cat_str {x y : Operand} {s t : TypeId} {i j : List UInt8} (hx : ev L x = some (.string (str i))) (hy : ev L y = some (.string (str j))) (h : i.length + j.length ≤ 9223372036854775807) : PureE P n L w1 ⟨dd, .binOp .add s x y t, ty, pos, af, g⟩ (.string (str (i ++ j))) := by
  have := pu_cat (P := P) (n := n) (w1 := w1) (dd := dd) (ty := ty) (pos := pos) (af := af) (g := g) (s := s) (t := t) hx hy h
  rwa [str_app] at this
theorem pu_eql_str {x y : Operand} {s t : TypeId} {i j : List UInt8} (hx : ev L x = some (.string (str i))) (hy : ev L y = some (.string (str j))) : PureE P n L w1 ⟨dd, .binOp .eql s x y t, ty, pos, af, g⟩ (.bool (decide (i = j))) := by
  have := pu_eql_s (P := P) (n := n) (w1 := w1) (dd := dd) (ty := ty) (pos := pos) (af := af) (g := g) (s := s) (t := t) hx hy
  exact this.tob (decide_eq_decide.2 str_inj)
theorem pu_neq_str {x y : Operand} {s t : TypeId} {i j : List UInt8} (hx : ev L x = some (.string (str i))) (hy : ev L y = some (.string (str j))) : PureE P n L w1 ⟨dd, .binOp .neq s x y t, ty, pos, af, g⟩ (.bool (decide (i ≠ j))) := by
  have := pu_neq_s (P := P) (n := n) (w1 := w1) (dd := dd) (ty := ty) (pos := pos) (af := af) (g := g) (s := s) (t := t) hx hy
  exact this.tob (decide_eq_decide.2 (not_congr str_inj))
theorem pu_slice_str {x : Operand} {t : TypeId} {s : List UInt8} {lo hi : Option Operand} {l h : Int} (hx : ev L x = some (.string (str s))) (ht : P.underlying t = some .string)
    (hlo : lo = none ∧ l = 0 ∨ ∃ y k, lo = some y ∧ ev L y = some (.int k l)) (hhi : hi = none ∧ h = s.length ∨ ∃ y k, hi = some y ∧ ev L y = some (.int k h)) (h0 : 0 ≤ l) (h1 : l ≤ h) (h2 : h ≤ s.length) :
    PureE P n L w1 ⟨dd, .slice t x lo hi none, ty, pos, af, g⟩ (.string (str ((s.take h.toNat).drop l.toNat))) := by
  have := pu_slice_s (P := P) (n := n) (w1 := w1) (dd := dd) (ty := ty) (pos := pos) (af := af) (g := g) hx ht hlo hhi h0 h1 h2
  rwa [str_extract] at this
end
end Go.Proofs.YtoilfakpgcjjpaaDoor.Log
namespace Go.Proofs.YtoilfakpgcjjpaaDoor.Log
open Go Go.RowKit Go.Proofs.YtoilfakpgcjjpaaDoor Go.Proofs.YtoilfakpgcjjpaaDoor.Eng
set_option linter.unusedVariables false
set_option linter.unusedSimpArgs false
set_option maxRecDepth 100000
def shortF (s : List UInt8) : List UInt8 := s.take 200
theorem short_ok (s : List UInt8) (w : World) : CallsX Tryd.prog 14 #[.string (str s)] w fun v _ => v = .string (str (shortF s)) := by
  have st := St.start (w0 := w) (I0 := hp w) (Sub.refl _)
  refine CallsX.of (nn := 8) Tryd.func14 rfl rfl rfl (fun a mt => ?_)
  refine w_rs ?_
  refine step_pure mt (pu_assign rfl) rfl (fun a mt => ?_)
  refine w_nil ?_
  refine w_rs ?_
  refine step_pure mt (pu_move rfl) rfl (fun a mt => ?_)
  refine step_pure mt (pu_move rfl) rfl (fun a mt => ?_)
  refine step_pure mt (pu_len_str rfl K.un9) rfl (fun a mt => ?_)
  refine step_pure mt (pu_min rfl rfl) rfl (fun a mt => ?_)
  refine step_pure mt ((pu_slice_str rfl K.un9 (.inl ⟨rfl, rfl⟩) (.inr ⟨_, _, rfl, rfl⟩) (by omega) (by omega) (by omega)).to (u := .string (str (shortF s))) (by unfold shortF; rw [show ((0 : Int).toNat) = 0 from rfl, List.drop_zero]; congr 2; rcases Nat.le_total s.length 200 with h | h; (rw [show (min (s.length : Int) 200).toNat = s.length by omega, List.take_length, List.take_of_length_le h]); (rw [show (min (s.length : Int) 200).toNat = 200 by omega]))) rfl (fun a mt => ?_)
  refine step_pure mt (pu_assign rfl) rfl (fun a mt => ?_)
  refine w_nil ?_
  refine w_ret ?_
  refine post_ret1 mt rfl rfl ?_
  exact ⟨_, rfl, st.below, rfl⟩
def isLt (c : UInt8) : Bool := decide (c.toNat ≠ 40) && decide (c.toNat ≠ 41)
def szF (s : List UInt8) : Nat := (s.filter isLt).length
theorem szF_le (s : List UInt8) : szF s ≤ s.length := List.length_filter_le _ _
theorem szF_take {s : List UInt8} {k : Nat} {c : UInt8} (h : s[k]? = some c) : szF (s.take (k + 1)) = szF (s.take k) + (if isLt c = true then 1 else 0) := by
  unfold szF
  rw [List.take_add_one, h, List.filter_append, List.length_append]
  by_cases hc : isLt c = true <;> simp [hc]
theorem Size_ok (s : List UInt8) (w : World) (hs : s.length ≤ 1000000) : CallsX Tryd.prog 20 #[.string (str s)] w fun v _ => v = .int .i64 (szF s) := by
  have st := St.start (w0 := w) (I0 := hp w) (Sub.refl _)
  refine CallsX.of (nn := 24) Tryd.func20 rfl rfl rfl (fun a mt => ?_)
  refine w_rs ?_
  refine step_pure mt (pu_assign rfl) rfl (fun a mt => ?_)
  refine w_nil ?_
  refine w_rs ?_
  refine step_pure mt (pu_assign rfl) rfl (fun a mt => ?_)
  refine w_nil ?_
  refine w_seq ?_
  refine w_rs ?_
  refine step_pure mt (pu_assign rfl) rfl (fun a mt => ?_)
  refine w_nil ?_
  refine w_block ?_
  refine w_loop (ι := Nat) (fun k a w' => k ≤ s.length ∧ Mt 24 a [(0, .string (str s)), (3, .int .i64 (szF (s.take k))), (4, .int .i64 k)] ∧ St [] w (hp w) w' (hp w) []) (fun k => s.length - k) 0
    ⟨Nat.zero_le _, mt.sub ⟨rfl, rfl, rfl, trivial⟩, st⟩ (fun k a w' hI' => ?_)
  obtain ⟨hk, mt, st⟩ := hI'
  have hsz : szF (s.take k) ≤ k := Nat.le_trans (szF_le _) (by rw [List.length_take]; omega)
  refine w_seq ?_
  refine w_rs ?_
  refine step_pure mt (pu_move rfl) rfl (fun a mt => ?_)
  refine step_pure mt (pu_move rfl) rfl (fun a mt => ?_)
  refine step_pure mt (pu_len_str rfl K.un9) rfl (fun a mt => ?_)
  refine step_pure mt (pu_lss rfl rfl) rfl (fun a mt => ?_)
  refine w_nil ?_
  refine w_cond mt rfl (fun h8 => ?_) (fun h8 => ?_)
  · have hkl : k < s.length := by omega
    have hc : s[k]? = some s[k] := List.getElem?_eq_getElem hkl
    generalize s[k] = c at hc
    have hcu : s[((k : Nat) : Int).toNat]? = some c := hc
    have hst := szF_take hc
    refine w_skip ?_
    refine x_then_n ?_
    refine w_seq ?_
    refine w_block ?_
    refine w_rs ?_
    refine step_pure mt (pu_move rfl) rfl (fun a mt => ?_)
    refine step_pure mt (pu_move rfl) rfl (fun a mt => ?_)
    refine step_pure mt (pu_idx rfl rfl K.un9 (by omega) (by assumption)) rfl (fun a mt => ?_)
    refine step_pure mt (pu_neq rfl rfl) rfl (fun a mt => ?_)
    refine step_pure mt (pu_move rfl) rfl (fun a mt => ?_)
    refine split_p 15 mt rfl (fun g15 mt => ?_) (fun g15 mt => ?_)
    · refine step_pure_g mt rfl rfl (pu_move rfl) rfl (fun a mt => ?_)
      refine step_pure_g mt rfl rfl (pu_move rfl) rfl (fun a mt => ?_)
      refine step_pure_g mt rfl rfl (pu_idx rfl rfl K.un9 (by omega) (by assumption)) rfl (fun a mt => ?_)
      refine step_pure_g mt rfl rfl (pu_neq rfl rfl) rfl (fun a mt => ?_)
      refine step_pure mt (pu_pick rfl rfl) rfl (fun a mt => ?_)
      refine w_nil ?_
      refine w_cond mt rfl (fun h20 => ?_) (fun h20 => ?_)
      · have e1 : szF (s.take (k + 1)) = szF (s.take k) + 1 := by
          rw [hst, if_pos (by unfold isLt; simp only [Bool.and_eq_true, decide_eq_true_eq]; omega)]
        refine w_region ?_
        refine step_pure mt (pu_move rfl) rfl (fun a mt => ?_)
        refine step_pure mt (pu_add_i rfl rfl (by omega)) rfl (fun a mt => ?_)
        refine step_pure mt (pu_assign rfl) rfl (fun a mt => ?_)
        refine w_nil' ?_
        refine x_block_n ?_
        refine x_then_n ?_
        refine w_region ?_
        refine step_pure mt (pu_move rfl) rfl (fun a mt => ?_)
        refine step_pure mt (pu_add_i rfl rfl (by omega)) rfl (fun a mt => ?_)
        refine step_pure mt (pu_assign rfl) rfl (fun a mt => ?_)
        refine w_nil' ?_
        refine x_then_n ?_
        exact ⟨k + 1, ⟨by omega, by rw [e1]; exact mt.sub ⟨rfl, rfl, rfl, trivial⟩, st⟩, by omega⟩
      · have e1 : szF (s.take (k + 1)) = szF (s.take k) := by
          rw [hst, if_neg (by unfold isLt; simp only [Bool.and_eq_true, decide_eq_true_eq]; omega)]; rfl
        refine w_skip ?_
        refine x_block_n ?_
        refine x_then_n ?_
        refine w_region ?_
        refine step_pure mt (pu_move rfl) rfl (fun a mt => ?_)
        refine step_pure mt (pu_add_i rfl rfl (by omega)) rfl (fun a mt => ?_)
        refine step_pure mt (pu_assign rfl) rfl (fun a mt => ?_)
        refine w_nil' ?_
        refine x_then_n ?_
        exact ⟨k + 1, ⟨by omega, by rw [e1]; exact mt.sub ⟨rfl, rfl, rfl, trivial⟩, st⟩, by omega⟩
    · refine step_skip_g mt rfl rfl rfl rfl (fun a mt => ?_)
      refine step_skip_g mt rfl rfl rfl rfl (fun a mt => ?_)
      refine step_skip_g mt rfl rfl rfl rfl (fun a mt => ?_)
      refine step_skip_g mt rfl rfl rfl rfl (fun a mt => ?_)
      refine step_pure mt (pu_pick rfl rfl) rfl (fun a mt => ?_)
      refine w_nil ?_
      refine w_false mt rfl ?_
      have e1 : szF (s.take (k + 1)) = szF (s.take k) := by
        rw [hst, if_neg (by unfold isLt; simp only [Bool.and_eq_true, decide_eq_true_eq]; omega)]; rfl
      refine w_skip ?_
      refine x_block_n ?_
      refine x_then_n ?_
      refine w_region ?_
      refine step_pure mt (pu_move rfl) rfl (fun a mt => ?_)
      refine step_pure mt (pu_add_i rfl rfl (by omega)) rfl (fun a mt => ?_)
      refine step_pure mt (pu_assign rfl) rfl (fun a mt => ?_)
      refine w_nil' ?_
      refine x_then_n ?_
      exact ⟨k + 1, ⟨by omega, by rw [e1]; exact mt.sub ⟨rfl, rfl, rfl, trivial⟩, st⟩, by omega⟩
  · have hkn : k = s.length := by omega
    refine w_exit (x_then_exit (x_then_exit (x_block_out ?_)))
    refine x_then_n ?_
    refine w_rs ?_
    refine step_pure mt (pu_move rfl) rfl (fun a mt => ?_)
    refine step_pure mt (pu_assign rfl) rfl (fun a mt => ?_)
    refine w_nil ?_
    refine w_ret ?_
    refine post_ret1 mt rfl rfl ?_
    exact ⟨_, rfl, st.below, by rw [hkn, List.take_length]⟩
def isAt (c : UInt8) : Bool := decide (112 ≤ c.toNat ∧ c.toNat ≤ 115)
theorem atom_ok (c : UInt8) (w : World) : CallsX Tryd.prog 55 #[.int .u8 c.toNat] w fun v _ => v = .bool (isAt c) := by
  have st := St.start (w0 := w) (I0 := hp w) (Sub.refl _)
  refine CallsX.of (nn := 9) Tryd.func55 rfl rfl rfl (fun a mt => ?_)
  refine w_rs ?_
  refine step_pure mt (pu_assign rfl) rfl (fun a mt => ?_)
  refine w_nil ?_
  refine w_rs ?_
  refine step_pure mt (pu_move rfl) rfl (fun a mt => ?_)
  refine step_pure mt (pu_geq rfl rfl) rfl (fun a mt => ?_)
  refine step_pure mt (pu_move rfl) rfl (fun a mt => ?_)
  refine split_p 5 mt rfl (fun g5 mt => ?_) (fun g5 mt => ?_)
  · have e : isAt c = decide ((c.toNat : Int) ≤ 115) := decide_eq_decide.2 (by omega)
    refine step_pure_g mt rfl rfl (pu_move rfl) rfl (fun a mt => ?_)
    refine step_pure_g mt rfl rfl (pu_leq rfl rfl) rfl (fun a mt => ?_)
    refine step_pure mt (pu_pick rfl rfl) rfl (fun a mt => ?_)
    refine step_pure mt (pu_assign rfl) rfl (fun a mt => ?_)
    refine w_nil ?_
    refine w_ret ?_
    refine post_ret1 mt rfl rfl ?_
    exact ⟨_, rfl, st.below, by rw [e]⟩
  · have e : isAt c = false := decide_eq_false (by omega)
    refine step_skip_g mt rfl rfl rfl rfl (fun a mt => ?_)
    refine step_skip_g mt rfl rfl rfl rfl (fun a mt => ?_)
    refine step_pure mt (pu_pick rfl rfl) rfl (fun a mt => ?_)
    refine step_pure mt (pu_assign rfl) rfl (fun a mt => ?_)
    refine w_nil ?_
    refine w_ret ?_
    refine post_ret1 mt rfl rfl ?_
    exact ⟨_, rfl, st.below, by rw [e]⟩
def isSg (c : UInt8) : Bool := decide (c.toNat = 38) || decide (c.toNat = 124) || decide (c.toNat = 62)
def endF : Nat → List UInt8 → Nat → Option Nat
  | 0, _, _ => none
  | f + 1, s, k => (s[k]?).bind fun c =>
    if c.toNat = 102 ∨ isAt c = true then some (k + 1)
    else if c.toNat ≠ 40 then none
    else (endF f s (k + 1)).bind fun m => (s[m]?).bind fun g =>
      if isSg g = true then (endF f s (m + 1)).bind fun n => (s[n]?).bind fun e => if e.toNat = 41 then some (n + 1) else none
      else none
theorem endF_lt : ∀ (f : Nat) (s : List UInt8) (k m : Nat), endF f s k = some m → k < m ∧ m ≤ s.length
  | 0, s, k, m, h => by simp [endF] at h
  | f + 1, s, k, m, h => by
    simp only [endF, Option.bind_eq_some_iff] at h
    obtain ⟨c, hc, h⟩ := h
    have hk := (List.getElem?_eq_some_iff.1 hc).1
    split at h
    · cases h; omega
    · split at h
      · cases h
      · simp only [Option.bind_eq_some_iff] at h
        obtain ⟨m1, h1, g, hg, h⟩ := h
        split at h
        · simp only [Option.bind_eq_some_iff] at h
          obtain ⟨n, h2, e, he, h⟩ := h
          split at h
          · cases h
            have := (List.getElem?_eq_some_iff.1 he).1
            have := (endF_lt f s _ _ h1).1
            have := (endF_lt f s _ _ h2).1
            omega
          · cases h
        · cases h
def optI : Option Nat → Int
  | some k => k
  | none => -1
theorem end_ok (s : List UInt8) (hs : s.length ≤ 1000000) : ∀ f, 0 < f → ∀ (k0 : Nat) (w : World), s.length < f + k0 → k0 ≤ 1000000 → CallsX Tryd.prog 40 #[.string (str s), .int .i64 k0] w fun v _ => v = .int .i64 (optI (endF f s k0)) := by
  intro f
  induction f with
  | zero => intro h; omega
  | succ f ih =>
  intro _ k0 w hf hk0
  have st := St.start (w0 := w) (I0 := hp w) (Sub.refl _)
  refine CallsX.of (nn := 77) Tryd.func40 rfl rfl rfl (fun a mt => ?_)
  refine w_rs ?_
  refine step_pure mt (pu_assign rfl) rfl (fun a mt => ?_)
  refine w_nil ?_
  refine w_seq ?_
  refine w_rs ?_
  refine step_pure mt (pu_move rfl) rfl (fun a mt => ?_)
  refine step_pure mt (pu_move rfl) rfl (fun a mt => ?_)
  refine step_pure mt (pu_len_str rfl K.un9) rfl (fun a mt => ?_)
  refine step_pure mt (pu_geq rfl rfl) rfl (fun a mt => ?_)
  refine w_nil ?_
  refine w_cond mt rfl (fun h10 => ?_) (fun h10 => ?_)
  · refine w_rs ?_
    refine step_pure mt (pu_assign rfl) rfl (fun a mt => ?_)
    refine w_nil ?_
    refine w_ret (x_then_ret ?_)
    refine post_ret1 mt rfl rfl ?_
    exact ⟨_, rfl, st.below, by simp only [endF]; rw [List.getElem?_eq_none (by omega)]; rfl⟩
  · have hkl : k0 < s.length := by omega
    have hc : s[k0]? = some s[k0] := List.getElem?_eq_getElem hkl
    generalize s[k0] = c at hc
    have hcu : s[((k0 : Nat) : Int).toNat]? = some c := hc
    have hf0 : 0 < f := by omega
    have hE : endF (f + 1) s k0 = if c.toNat = 102 ∨ isAt c = true then some (k0 + 1) else if c.toNat ≠ 40 then none else (endF f s (k0 + 1)).bind fun m => (s[m]?).bind fun g => if isSg g = true then (endF f s (m + 1)).bind fun n => (s[n]?).bind fun e => if e.toNat = 41 then some (n + 1) else none else none := by
      simp only [endF]; rw [hc]; rfl
    refine w_skip ?_
    refine x_then_n ?_
    refine w_seq ?_
    refine w_rs ?_
    refine step_pure mt (pu_move rfl) rfl (fun a mt => ?_)
    refine step_pure mt (pu_move rfl) rfl (fun a mt => ?_)
    refine step_pure mt (pu_idx rfl rfl K.un9 (by omega) (by assumption)) rfl (fun a mt => ?_)
    refine step_pure mt (pu_eql rfl rfl) rfl (fun a mt => ?_)
    refine step_pure mt (pu_move rfl) rfl (fun a mt => ?_)
    refine split_p 15 mt rfl (fun g15 mt => ?_) (fun g15 mt => ?_)
    · refine step_skip_g mt rfl rfl rfl rfl (fun a mt => ?_)
      refine step_skip_g mt rfl rfl rfl rfl (fun a mt => ?_)
      refine step_skip_g mt rfl rfl rfl rfl (fun a mt => ?_)
      refine step_skip_g mt rfl rfl rfl rfl (fun a mt => ?_)
      refine step_pure mt (pu_pick rfl rfl) rfl (fun a mt => ?_)
      refine w_nil ?_
      refine w_true mt rfl ?_
      rw [if_pos (Or.inl (by omega))] at hE
      refine w_rs ?_
      refine step_pure mt (pu_move rfl) rfl (fun a mt => ?_)
      refine step_pure mt (pu_add_i rfl rfl (by omega)) rfl (fun a mt => ?_)
      refine step_pure mt (pu_assign rfl) rfl (fun a mt => ?_)
      refine w_nil ?_
      refine w_ret (x_then_ret ?_)
      refine post_ret1 mt rfl rfl ?_
      exact ⟨_, rfl, st.below, by rw [hE]; rfl⟩
    · refine step_pure_g mt rfl rfl (pu_move rfl) rfl (fun a mt => ?_)
      refine step_pure_g mt rfl rfl (pu_move rfl) rfl (fun a mt => ?_)
      refine step_pure_g mt rfl rfl (pu_idx rfl rfl K.un9 (by omega) (by assumption)) rfl (fun a mt => ?_)
      refine s_callv_g mt st rfl rfl K.cb55 (vs := [.int .u8 c.toNat]) rfl (atom_ok c _) rfl (fun a w' mt st => ?_)
      refine step_pure mt (pu_pick rfl rfl) rfl (fun a mt => ?_)
      refine w_nil ?_
      refine w_cond_b mt rfl (fun h20 => ?_) (fun h20 => ?_)
      · rw [if_pos (by first | (left; omega) | exact .inr h20)] at hE
        refine w_rs ?_
        refine step_pure mt (pu_move rfl) rfl (fun a mt => ?_)
        refine step_pure mt (pu_add_i rfl rfl (by omega)) rfl (fun a mt => ?_)
        refine step_pure mt (pu_assign rfl) rfl (fun a mt => ?_)
        refine w_nil ?_
        refine w_ret (x_then_ret ?_)
        refine post_ret1 mt rfl rfl ?_
        exact ⟨_, rfl, st.below, by rw [hE]; rfl⟩
      · rw [if_neg (by rintro (h | h); omega; (rw [h] at h20; cases h20))] at hE
        refine w_skip ?_
        refine x_then_n ?_
        refine w_seq ?_
        refine w_rs ?_
        refine step_pure mt (pu_move rfl) rfl (fun a mt => ?_)
        refine step_pure mt (pu_move rfl) rfl (fun a mt => ?_)
        refine step_pure mt (pu_idx rfl rfl K.un9 (by omega) (by assumption)) rfl (fun a mt => ?_)
        refine step_pure mt (pu_neq rfl rfl) rfl (fun a mt => ?_)
        refine w_nil ?_
        refine w_cond mt rfl (fun h26 => ?_) (fun h26 => ?_)
        · rw [if_pos (by omega)] at hE
          refine w_rs ?_
          refine step_pure mt (pu_assign rfl) rfl (fun a mt => ?_)
          refine w_nil ?_
          refine w_ret (x_then_ret ?_)
          refine post_ret1 mt rfl rfl ?_
          exact ⟨_, rfl, st.below, by rw [hE]; rfl⟩
        · rw [if_neg (by omega)] at hE
          refine w_skip ?_
          refine x_then_n ?_
          refine w_rs ?_
          refine step_pure mt (pu_move rfl) rfl (fun a mt => ?_)
          refine step_pure mt (pu_move rfl) rfl (fun a mt => ?_)
          refine step_pure mt (pu_add_i rfl rfl (by omega)) rfl (fun a mt => ?_)
          refine s_callv mt st K.cb40 (vs := [.string (str s), .int .i64 ((k0 + 1 : Nat) : Int)]) rfl (ih hf0 (k0 + 1) _ (by omega) (by omega)) rfl (fun a w' mt st => ?_)
          cases h1 : endF f s (k0 + 1) with
          | none =>
            rw [h1] at mt
            rw [h1, Option.bind_none] at hE
            refine step_pure mt (pu_assign rfl) rfl (fun a mt => ?_)
            refine w_nil ?_
            refine w_seq ?_
            refine w_rs ?_
            refine step_pure mt (pu_move rfl) rfl (fun a mt => ?_)
            refine step_pure mt (pu_lss rfl rfl) rfl (fun a mt => ?_)
            refine step_pure mt (pu_move rfl) rfl (fun a mt => ?_)
            refine step_skip_g mt rfl rfl rfl rfl (fun a mt => ?_)
            refine step_skip_g mt rfl rfl rfl rfl (fun a mt => ?_)
            refine step_skip_g mt rfl rfl rfl rfl (fun a mt => ?_)
            refine step_skip_g mt rfl rfl rfl rfl (fun a mt => ?_)
            refine step_pure mt (pu_pick rfl rfl) rfl (fun a mt => ?_)
            refine step_pure mt (pu_move rfl) rfl (fun a mt => ?_)
            refine step_skip_g mt rfl rfl rfl rfl (fun a mt => ?_)
            refine step_skip_g mt rfl rfl rfl rfl (fun a mt => ?_)
            refine step_skip_g mt rfl rfl rfl rfl (fun a mt => ?_)
            refine step_skip_g mt rfl rfl rfl rfl (fun a mt => ?_)
            refine step_skip_g mt rfl rfl rfl rfl (fun a mt => ?_)
            refine step_skip_u mt rfl rfl rfl (fun a mt => ?_)
            refine step_skip_u mt rfl rfl rfl (fun a mt => ?_)
            refine step_skip_u mt rfl rfl rfl (fun a mt => ?_)
            refine step_skip_u mt rfl rfl rfl (fun a mt => ?_)
            refine step_skip_g mt rfl rfl rfl rfl (fun a mt => ?_)
            refine step_skip_g mt rfl rfl rfl rfl (fun a mt => ?_)
            refine step_skip_u mt rfl rfl rfl (fun a mt => ?_)
            refine step_skip_u mt rfl rfl rfl (fun a mt => ?_)
            refine step_skip_u mt rfl rfl rfl (fun a mt => ?_)
            refine step_skip_u mt rfl rfl rfl (fun a mt => ?_)
            refine step_skip_g mt rfl rfl rfl rfl (fun a mt => ?_)
            refine step_pure mt (pu_pick rfl rfl) rfl (fun a mt => ?_)
            refine w_nil ?_
            refine w_true mt rfl ?_
            refine w_rs ?_
            refine step_pure mt (pu_assign rfl) rfl (fun a mt => ?_)
            refine w_nil ?_
            refine w_ret (x_then_ret ?_)
            refine post_ret1 mt rfl rfl ?_
            exact ⟨_, rfl, st.below, by rw [hE]; rfl⟩
          | some m =>
            rw [h1, show optI (some m) = (m : Int) from rfl] at mt
            rw [h1, Option.bind_some] at hE
            obtain ⟨hm1, hm2⟩ := endF_lt _ _ _ _ h1
            refine step_pure mt (pu_assign rfl) rfl (fun a mt => ?_)
            refine w_nil ?_
            refine w_seq ?_
            refine w_rs ?_
            refine step_pure mt (pu_move rfl) rfl (fun a mt => ?_)
            refine step_pure mt (pu_lss rfl rfl) rfl (fun a mt => ?_)
            refine step_pure mt (pu_move rfl) rfl (fun a mt => ?_)
            refine step_pure_g mt rfl rfl (pu_move rfl) rfl (fun a mt => ?_)
            refine step_pure_g mt rfl rfl (pu_move rfl) rfl (fun a mt => ?_)
            refine step_pure_g mt rfl rfl (pu_len_str rfl K.un9) rfl (fun a mt => ?_)
            refine step_pure_g mt rfl rfl (pu_geq rfl rfl) rfl (fun a mt => ?_)
            refine step_pure mt (pu_pick rfl rfl) rfl (fun a mt => ?_)
            refine step_pure mt (pu_move rfl) rfl (fun a mt => ?_)
            refine split_p 39 mt rfl (fun g39 mt => ?_) (fun g39 mt => ?_)
            · rw [List.getElem?_eq_none (by omega)] at hE
              refine step_skip_g mt rfl rfl rfl rfl (fun a mt => ?_)
              refine step_skip_g mt rfl rfl rfl rfl (fun a mt => ?_)
              refine step_skip_g mt rfl rfl rfl rfl (fun a mt => ?_)
              refine step_skip_g mt rfl rfl rfl rfl (fun a mt => ?_)
              refine step_skip_g mt rfl rfl rfl rfl (fun a mt => ?_)
              refine step_skip_u mt rfl rfl rfl (fun a mt => ?_)
              refine step_skip_u mt rfl rfl rfl (fun a mt => ?_)
              refine step_skip_u mt rfl rfl rfl (fun a mt => ?_)
              refine step_skip_u mt rfl rfl rfl (fun a mt => ?_)
              refine step_skip_g mt rfl rfl rfl rfl (fun a mt => ?_)
              refine step_skip_g mt rfl rfl rfl rfl (fun a mt => ?_)
              refine step_skip_u mt rfl rfl rfl (fun a mt => ?_)
              refine step_skip_u mt rfl rfl rfl (fun a mt => ?_)
              refine step_skip_u mt rfl rfl rfl (fun a mt => ?_)
              refine step_skip_u mt rfl rfl rfl (fun a mt => ?_)
              refine step_skip_g mt rfl rfl rfl rfl (fun a mt => ?_)
              refine step_pure mt (pu_pick rfl rfl) rfl (fun a mt => ?_)
              refine w_nil ?_
              refine w_true mt rfl ?_
              refine w_rs ?_
              refine step_pure mt (pu_assign rfl) rfl (fun a mt => ?_)
              refine w_nil ?_
              refine w_ret (x_then_ret ?_)
              refine post_ret1 mt rfl rfl ?_
              exact ⟨_, rfl, st.below, by rw [hE]; rfl⟩
            · have hml : m < s.length := by omega
              have hg : s[m]? = some s[m] := List.getElem?_eq_getElem hml
              generalize s[m] = g at hg
              have hgu : s[((m : Nat) : Int).toNat]? = some g := hg
              rw [hg, Option.bind_some] at hE
              refine step_pure_g mt rfl rfl (pu_move rfl) rfl (fun a mt => ?_)
              refine step_pure_g mt rfl rfl (pu_move rfl) rfl (fun a mt => ?_)
              refine step_pure_g mt rfl rfl (pu_idx rfl rfl K.un9 (by omega) (by assumption)) rfl (fun a mt => ?_)
              refine step_pure_g mt rfl rfl (pu_neq rfl rfl) rfl (fun a mt => ?_)
              refine step_pure_g mt rfl rfl (pu_move rfl) rfl (fun a mt => ?_)
              refine split_p 44 mt rfl (fun g44 mt => ?_) (fun g44 mt => ?_)
              · refine step_pure_g mt rfl rfl (pu_move rfl) rfl (fun a mt => ?_)
                refine step_pure_g mt rfl rfl (pu_move rfl) rfl (fun a mt => ?_)
                refine step_pure_g mt rfl rfl (pu_idx rfl rfl K.un9 (by omega) (by assumption)) rfl (fun a mt => ?_)
                refine step_pure_g mt rfl rfl (pu_neq rfl rfl) rfl (fun a mt => ?_)
                refine step_pure_g mt rfl rfl (pu_pick rfl rfl) rfl (fun a mt => ?_)
                refine step_pure_g mt rfl rfl (pu_move rfl) rfl (fun a mt => ?_)
                refine split_p 50 mt rfl (fun g50 mt => ?_) (fun g50 mt => ?_)
                · refine step_pure_g mt rfl rfl (pu_move rfl) rfl (fun a mt => ?_)
                  refine step_pure_g mt rfl rfl (pu_move rfl) rfl (fun a mt => ?_)
                  refine step_pure_g mt rfl rfl (pu_idx rfl rfl K.un9 (by omega) (by assumption)) rfl (fun a mt => ?_)
                  refine step_pure_g mt rfl rfl (pu_neq rfl rfl) rfl (fun a mt => ?_)
                  refine step_pure_g mt rfl rfl (pu_pick rfl rfl) rfl (fun a mt => ?_)
                  refine step_pure mt (pu_pick rfl rfl) rfl (fun a mt => ?_)
                  refine w_nil ?_
                  refine w_cond mt rfl (fun h56 => ?_) (fun h56 => ?_)
                  · have hsg : isSg g = false := by
                      unfold isSg
                      simp only [Bool.or_eq_false_iff, decide_eq_false_iff_not]
                      omega
                    rw [if_neg (by rw [hsg]; decide)] at hE
                    refine w_rs ?_
                    refine step_pure mt (pu_assign rfl) rfl (fun a mt => ?_)
                    refine w_nil ?_
                    refine w_ret (x_then_ret ?_)
                    refine post_ret1 mt rfl rfl ?_
                    exact ⟨_, rfl, st.below, by rw [hE]; rfl⟩
                  · have hsg : isSg g = true := by
                      unfold isSg
                      simp only [Bool.or_eq_true, decide_eq_true_eq]
                      omega
                    rw [if_pos hsg] at hE
                    refine w_skip ?_
                    refine x_then_n ?_
                    refine w_rs ?_
                    refine step_pure mt (pu_move rfl) rfl (fun a mt => ?_)
                    refine step_pure mt (pu_move rfl) rfl (fun a mt => ?_)
                    refine step_pure mt (pu_add_i rfl rfl (by omega)) rfl (fun a mt => ?_)
                    refine s_callv mt st K.cb40 (vs := [.string (str s), .int .i64 ((m + 1 : Nat) : Int)]) rfl (ih hf0 (m + 1) _ (by omega) (by omega)) rfl (fun a w' mt st => ?_)
                    cases h2 : endF f s (m + 1) with
                    | none =>
                      rw [h2] at mt
                      rw [h2, Option.bind_none] at hE
                      refine step_pure mt (pu_assign rfl) rfl (fun a mt => ?_)
                      refine w_nil ?_
                      refine w_seq ?_
                      refine w_rs ?_
                      refine step_pure mt (pu_move rfl) rfl (fun a mt => ?_)
                      refine step_pure mt (pu_lss rfl rfl) rfl (fun a mt => ?_)
                      refine step_pure mt (pu_move rfl) rfl (fun a mt => ?_)
                      refine step_skip_g mt rfl rfl rfl rfl (fun a mt => ?_)
                      refine step_skip_g mt rfl rfl rfl rfl (fun a mt => ?_)
                      refine step_skip_g mt rfl rfl rfl rfl (fun a mt => ?_)
                      refine step_skip_g mt rfl rfl rfl rfl (fun a mt => ?_)
                      refine step_pure mt (pu_pick rfl rfl) rfl (fun a mt => ?_)
                      refine step_pure mt (pu_move rfl) rfl (fun a mt => ?_)
                      refine step_skip_g mt rfl rfl rfl rfl (fun a mt => ?_)
                      refine step_skip_g mt rfl rfl rfl rfl (fun a mt => ?_)
                      refine step_skip_g mt rfl rfl rfl rfl (fun a mt => ?_)
                      refine step_skip_g mt rfl rfl rfl rfl (fun a mt => ?_)
                      refine step_pure mt (pu_pick rfl rfl) rfl (fun a mt => ?_)
                      refine w_nil ?_
                      refine w_true mt rfl ?_
                      refine w_rs ?_
                      refine step_pure mt (pu_assign rfl) rfl (fun a mt => ?_)
                      refine w_nil ?_
                      refine w_ret (x_then_ret ?_)
                      refine post_ret1 mt rfl rfl ?_
                      exact ⟨_, rfl, st.below, by rw [hE]; rfl⟩
                    | some n =>
                      rw [h2, show optI (some n) = (n : Int) from rfl] at mt
                      rw [h2, Option.bind_some] at hE
                      obtain ⟨hn1, hn2⟩ := endF_lt _ _ _ _ h2
                      refine step_pure mt (pu_assign rfl) rfl (fun a mt => ?_)
                      refine w_nil ?_
                      refine w_seq ?_
                      refine w_rs ?_
                      refine step_pure mt (pu_move rfl) rfl (fun a mt => ?_)
                      refine step_pure mt (pu_lss rfl rfl) rfl (fun a mt => ?_)
                      refine step_pure mt (pu_move rfl) rfl (fun a mt => ?_)
                      refine step_pure_g mt rfl rfl (pu_move rfl) rfl (fun a mt => ?_)
                      refine step_pure_g mt rfl rfl (pu_move rfl) rfl (fun a mt => ?_)
                      refine step_pure_g mt rfl rfl (pu_len_str rfl K.un9) rfl (fun a mt => ?_)
                      refine step_pure_g mt rfl rfl (pu_geq rfl rfl) rfl (fun a mt => ?_)
                      refine step_pure mt (pu_pick rfl rfl) rfl (fun a mt => ?_)
                      refine step_pure mt (pu_move rfl) rfl (fun a mt => ?_)
                      refine split_p 69 mt rfl (fun g69 mt => ?_) (fun g69 mt => ?_)
                      · rw [List.getElem?_eq_none (by omega)] at hE
                        refine step_skip_g mt rfl rfl rfl rfl (fun a mt => ?_)
                        refine step_skip_g mt rfl rfl rfl rfl (fun a mt => ?_)
                        refine step_skip_g mt rfl rfl rfl rfl (fun a mt => ?_)
                        refine step_skip_g mt rfl rfl rfl rfl (fun a mt => ?_)
                        refine step_pure mt (pu_pick rfl rfl) rfl (fun a mt => ?_)
                        refine w_nil ?_
                        refine w_true mt rfl ?_
                        refine w_rs ?_
                        refine step_pure mt (pu_assign rfl) rfl (fun a mt => ?_)
                        refine w_nil ?_
                        refine w_ret (x_then_ret ?_)
                        refine post_ret1 mt rfl rfl ?_
                        exact ⟨_, rfl, st.below, by rw [hE]; rfl⟩
                      · have hnl : n < s.length := by omega
                        have he : s[n]? = some s[n] := List.getElem?_eq_getElem hnl
                        generalize s[n] = e at he
                        have heu : s[((n : Nat) : Int).toNat]? = some e := he
                        rw [he, Option.bind_some] at hE
                        refine step_pure_g mt rfl rfl (pu_move rfl) rfl (fun a mt => ?_)
                        refine step_pure_g mt rfl rfl (pu_move rfl) rfl (fun a mt => ?_)
                        refine step_pure_g mt rfl rfl (pu_idx rfl rfl K.un9 (by omega) (by assumption)) rfl (fun a mt => ?_)
                        refine step_pure_g mt rfl rfl (pu_neq rfl rfl) rfl (fun a mt => ?_)
                        refine step_pure mt (pu_pick rfl rfl) rfl (fun a mt => ?_)
                        refine w_nil ?_
                        refine w_cond mt rfl (fun h74 => ?_) (fun h74 => ?_)
                        · rw [if_neg (by omega)] at hE
                          refine w_rs ?_
                          refine step_pure mt (pu_assign rfl) rfl (fun a mt => ?_)
                          refine w_nil ?_
                          refine w_ret (x_then_ret ?_)
                          refine post_ret1 mt rfl rfl ?_
                          exact ⟨_, rfl, st.below, by rw [hE]; rfl⟩
                        · rw [if_pos (by omega)] at hE
                          refine w_skip ?_
                          refine x_then_n ?_
                          refine w_rs ?_
                          refine step_pure mt (pu_move rfl) rfl (fun a mt => ?_)
                          refine step_pure mt (pu_add_i rfl rfl (by omega)) rfl (fun a mt => ?_)
                          refine step_pure mt (pu_assign rfl) rfl (fun a mt => ?_)
                          refine w_nil ?_
                          refine w_ret ?_
                          refine post_ret1 mt rfl rfl ?_
                          exact ⟨_, rfl, st.below, by rw [hE]; rfl⟩
                · refine step_skip_g mt rfl rfl rfl rfl (fun a mt => ?_)
                  refine step_skip_g mt rfl rfl rfl rfl (fun a mt => ?_)
                  refine step_skip_g mt rfl rfl rfl rfl (fun a mt => ?_)
                  refine step_skip_g mt rfl rfl rfl rfl (fun a mt => ?_)
                  refine step_pure_g mt rfl rfl (pu_pick rfl rfl) rfl (fun a mt => ?_)
                  refine step_pure mt (pu_pick rfl rfl) rfl (fun a mt => ?_)
                  refine w_nil ?_
                  refine w_false mt rfl ?_
                  have hsg : isSg g = true := by
                    unfold isSg
                    simp only [Bool.or_eq_true, decide_eq_true_eq]
                    omega
                  rw [if_pos hsg] at hE
                  refine w_skip ?_
                  refine x_then_n ?_
                  refine w_rs ?_
                  refine step_pure mt (pu_move rfl) rfl (fun a mt => ?_)
                  refine step_pure mt (pu_move rfl) rfl (fun a mt => ?_)
                  refine step_pure mt (pu_add_i rfl rfl (by omega)) rfl (fun a mt => ?_)
                  refine s_callv mt st K.cb40 (vs := [.string (str s), .int .i64 ((m + 1 : Nat) : Int)]) rfl (ih hf0 (m + 1) _ (by omega) (by omega)) rfl (fun a w' mt st => ?_)
                  cases h2 : endF f s (m + 1) with
                  | none =>
                    rw [h2] at mt
                    rw [h2, Option.bind_none] at hE
                    refine step_pure mt (pu_assign rfl) rfl (fun a mt => ?_)
                    refine w_nil ?_
                    refine w_seq ?_
                    refine w_rs ?_
                    refine step_pure mt (pu_move rfl) rfl (fun a mt => ?_)
                    refine step_pure mt (pu_lss rfl rfl) rfl (fun a mt => ?_)
                    refine step_pure mt (pu_move rfl) rfl (fun a mt => ?_)
                    refine step_skip_g mt rfl rfl rfl rfl (fun a mt => ?_)
                    refine step_skip_g mt rfl rfl rfl rfl (fun a mt => ?_)
                    refine step_skip_g mt rfl rfl rfl rfl (fun a mt => ?_)
                    refine step_skip_g mt rfl rfl rfl rfl (fun a mt => ?_)
                    refine step_pure mt (pu_pick rfl rfl) rfl (fun a mt => ?_)
                    refine step_pure mt (pu_move rfl) rfl (fun a mt => ?_)
                    refine step_skip_g mt rfl rfl rfl rfl (fun a mt => ?_)
                    refine step_skip_g mt rfl rfl rfl rfl (fun a mt => ?_)
                    refine step_skip_g mt rfl rfl rfl rfl (fun a mt => ?_)
                    refine step_skip_g mt rfl rfl rfl rfl (fun a mt => ?_)
                    refine step_pure mt (pu_pick rfl rfl) rfl (fun a mt => ?_)
                    refine w_nil ?_
                    refine w_true mt rfl ?_
                    refine w_rs ?_
                    refine step_pure mt (pu_assign rfl) rfl (fun a mt => ?_)
                    refine w_nil ?_
                    refine w_ret (x_then_ret ?_)
                    refine post_ret1 mt rfl rfl ?_
                    exact ⟨_, rfl, st.below, by rw [hE]; rfl⟩
                  | some n =>
                    rw [h2, show optI (some n) = (n : Int) from rfl] at mt
                    rw [h2, Option.bind_some] at hE
                    obtain ⟨hn1, hn2⟩ := endF_lt _ _ _ _ h2
                    refine step_pure mt (pu_assign rfl) rfl (fun a mt => ?_)
                    refine w_nil ?_
                    refine w_seq ?_
                    refine w_rs ?_
                    refine step_pure mt (pu_move rfl) rfl (fun a mt => ?_)
                    refine step_pure mt (pu_lss rfl rfl) rfl (fun a mt => ?_)
                    refine step_pure mt (pu_move rfl) rfl (fun a mt => ?_)
                    refine step_pure_g mt rfl rfl (pu_move rfl) rfl (fun a mt => ?_)
                    refine step_pure_g mt rfl rfl (pu_move rfl) rfl (fun a mt => ?_)
                    refine step_pure_g mt rfl rfl (pu_len_str rfl K.un9) rfl (fun a mt => ?_)
                    refine step_pure_g mt rfl rfl (pu_geq rfl rfl) rfl (fun a mt => ?_)
                    refine step_pure mt (pu_pick rfl rfl) rfl (fun a mt => ?_)
                    refine step_pure mt (pu_move rfl) rfl (fun a mt => ?_)
                    refine split_p 69 mt rfl (fun g69 mt => ?_) (fun g69 mt => ?_)
                    · rw [List.getElem?_eq_none (by omega)] at hE
                      refine step_skip_g mt rfl rfl rfl rfl (fun a mt => ?_)
                      refine step_skip_g mt rfl rfl rfl rfl (fun a mt => ?_)
                      refine step_skip_g mt rfl rfl rfl rfl (fun a mt => ?_)
                      refine step_skip_g mt rfl rfl rfl rfl (fun a mt => ?_)
                      refine step_pure mt (pu_pick rfl rfl) rfl (fun a mt => ?_)
                      refine w_nil ?_
                      refine w_true mt rfl ?_
                      refine w_rs ?_
                      refine step_pure mt (pu_assign rfl) rfl (fun a mt => ?_)
                      refine w_nil ?_
                      refine w_ret (x_then_ret ?_)
                      refine post_ret1 mt rfl rfl ?_
                      exact ⟨_, rfl, st.below, by rw [hE]; rfl⟩
                    · have hnl : n < s.length := by omega
                      have he : s[n]? = some s[n] := List.getElem?_eq_getElem hnl
                      generalize s[n] = e at he
                      have heu : s[((n : Nat) : Int).toNat]? = some e := he
                      rw [he, Option.bind_some] at hE
                      refine step_pure_g mt rfl rfl (pu_move rfl) rfl (fun a mt => ?_)
                      refine step_pure_g mt rfl rfl (pu_move rfl) rfl (fun a mt => ?_)
                      refine step_pure_g mt rfl rfl (pu_idx rfl rfl K.un9 (by omega) (by assumption)) rfl (fun a mt => ?_)
                      refine step_pure_g mt rfl rfl (pu_neq rfl rfl) rfl (fun a mt => ?_)
                      refine step_pure mt (pu_pick rfl rfl) rfl (fun a mt => ?_)
                      refine w_nil ?_
                      refine w_cond mt rfl (fun h74 => ?_) (fun h74 => ?_)
                      · rw [if_neg (by omega)] at hE
                        refine w_rs ?_
                        refine step_pure mt (pu_assign rfl) rfl (fun a mt => ?_)
                        refine w_nil ?_
                        refine w_ret (x_then_ret ?_)
                        refine post_ret1 mt rfl rfl ?_
                        exact ⟨_, rfl, st.below, by rw [hE]; rfl⟩
                      · rw [if_pos (by omega)] at hE
                        refine w_skip ?_
                        refine x_then_n ?_
                        refine w_rs ?_
                        refine step_pure mt (pu_move rfl) rfl (fun a mt => ?_)
                        refine step_pure mt (pu_add_i rfl rfl (by omega)) rfl (fun a mt => ?_)
                        refine step_pure mt (pu_assign rfl) rfl (fun a mt => ?_)
                        refine w_nil ?_
                        refine w_ret ?_
                        refine post_ret1 mt rfl rfl ?_
                        exact ⟨_, rfl, st.below, by rw [hE]; rfl⟩
              · refine step_skip_g mt rfl rfl rfl rfl (fun a mt => ?_)
                refine step_skip_g mt rfl rfl rfl rfl (fun a mt => ?_)
                refine step_skip_g mt rfl rfl rfl rfl (fun a mt => ?_)
                refine step_skip_g mt rfl rfl rfl rfl (fun a mt => ?_)
                refine step_pure_g mt rfl rfl (pu_pick rfl rfl) rfl (fun a mt => ?_)
                refine step_pure_g mt rfl rfl (pu_move rfl) rfl (fun a mt => ?_)
                refine step_skip_g mt rfl rfl rfl rfl (fun a mt => ?_)
                refine step_skip_g mt rfl rfl rfl rfl (fun a mt => ?_)
                refine step_skip_g mt rfl rfl rfl rfl (fun a mt => ?_)
                refine step_skip_g mt rfl rfl rfl rfl (fun a mt => ?_)
                refine step_pure_g mt rfl rfl (pu_pick rfl rfl) rfl (fun a mt => ?_)
                refine step_pure mt (pu_pick rfl rfl) rfl (fun a mt => ?_)
                refine w_nil ?_
                refine w_false mt rfl ?_
                have hsg : isSg g = true := by
                  unfold isSg
                  simp only [Bool.or_eq_true, decide_eq_true_eq]
                  omega
                rw [if_pos hsg] at hE
                refine w_skip ?_
                refine x_then_n ?_
                refine w_rs ?_
                refine step_pure mt (pu_move rfl) rfl (fun a mt => ?_)
                refine step_pure mt (pu_move rfl) rfl (fun a mt => ?_)
                refine step_pure mt (pu_add_i rfl rfl (by omega)) rfl (fun a mt => ?_)
                refine s_callv mt st K.cb40 (vs := [.string (str s), .int .i64 ((m + 1 : Nat) : Int)]) rfl (ih hf0 (m + 1) _ (by omega) (by omega)) rfl (fun a w' mt st => ?_)
                cases h2 : endF f s (m + 1) with
                | none =>
                  rw [h2] at mt
                  rw [h2, Option.bind_none] at hE
                  refine step_pure mt (pu_assign rfl) rfl (fun a mt => ?_)
                  refine w_nil ?_
                  refine w_seq ?_
                  refine w_rs ?_
                  refine step_pure mt (pu_move rfl) rfl (fun a mt => ?_)
                  refine step_pure mt (pu_lss rfl rfl) rfl (fun a mt => ?_)
                  refine step_pure mt (pu_move rfl) rfl (fun a mt => ?_)
                  refine step_skip_g mt rfl rfl rfl rfl (fun a mt => ?_)
                  refine step_skip_g mt rfl rfl rfl rfl (fun a mt => ?_)
                  refine step_skip_g mt rfl rfl rfl rfl (fun a mt => ?_)
                  refine step_skip_g mt rfl rfl rfl rfl (fun a mt => ?_)
                  refine step_pure mt (pu_pick rfl rfl) rfl (fun a mt => ?_)
                  refine step_pure mt (pu_move rfl) rfl (fun a mt => ?_)
                  refine step_skip_g mt rfl rfl rfl rfl (fun a mt => ?_)
                  refine step_skip_g mt rfl rfl rfl rfl (fun a mt => ?_)
                  refine step_skip_g mt rfl rfl rfl rfl (fun a mt => ?_)
                  refine step_skip_g mt rfl rfl rfl rfl (fun a mt => ?_)
                  refine step_pure mt (pu_pick rfl rfl) rfl (fun a mt => ?_)
                  refine w_nil ?_
                  refine w_true mt rfl ?_
                  refine w_rs ?_
                  refine step_pure mt (pu_assign rfl) rfl (fun a mt => ?_)
                  refine w_nil ?_
                  refine w_ret (x_then_ret ?_)
                  refine post_ret1 mt rfl rfl ?_
                  exact ⟨_, rfl, st.below, by rw [hE]; rfl⟩
                | some n =>
                  rw [h2, show optI (some n) = (n : Int) from rfl] at mt
                  rw [h2, Option.bind_some] at hE
                  obtain ⟨hn1, hn2⟩ := endF_lt _ _ _ _ h2
                  refine step_pure mt (pu_assign rfl) rfl (fun a mt => ?_)
                  refine w_nil ?_
                  refine w_seq ?_
                  refine w_rs ?_
                  refine step_pure mt (pu_move rfl) rfl (fun a mt => ?_)
                  refine step_pure mt (pu_lss rfl rfl) rfl (fun a mt => ?_)
                  refine step_pure mt (pu_move rfl) rfl (fun a mt => ?_)
                  refine step_pure_g mt rfl rfl (pu_move rfl) rfl (fun a mt => ?_)
                  refine step_pure_g mt rfl rfl (pu_move rfl) rfl (fun a mt => ?_)
                  refine step_pure_g mt rfl rfl (pu_len_str rfl K.un9) rfl (fun a mt => ?_)
                  refine step_pure_g mt rfl rfl (pu_geq rfl rfl) rfl (fun a mt => ?_)
                  refine step_pure mt (pu_pick rfl rfl) rfl (fun a mt => ?_)
                  refine step_pure mt (pu_move rfl) rfl (fun a mt => ?_)
                  refine split_p 69 mt rfl (fun g69 mt => ?_) (fun g69 mt => ?_)
                  · rw [List.getElem?_eq_none (by omega)] at hE
                    refine step_skip_g mt rfl rfl rfl rfl (fun a mt => ?_)
                    refine step_skip_g mt rfl rfl rfl rfl (fun a mt => ?_)
                    refine step_skip_g mt rfl rfl rfl rfl (fun a mt => ?_)
                    refine step_skip_g mt rfl rfl rfl rfl (fun a mt => ?_)
                    refine step_pure mt (pu_pick rfl rfl) rfl (fun a mt => ?_)
                    refine w_nil ?_
                    refine w_true mt rfl ?_
                    refine w_rs ?_
                    refine step_pure mt (pu_assign rfl) rfl (fun a mt => ?_)
                    refine w_nil ?_
                    refine w_ret (x_then_ret ?_)
                    refine post_ret1 mt rfl rfl ?_
                    exact ⟨_, rfl, st.below, by rw [hE]; rfl⟩
                  · have hnl : n < s.length := by omega
                    have he : s[n]? = some s[n] := List.getElem?_eq_getElem hnl
                    generalize s[n] = e at he
                    have heu : s[((n : Nat) : Int).toNat]? = some e := he
                    rw [he, Option.bind_some] at hE
                    refine step_pure_g mt rfl rfl (pu_move rfl) rfl (fun a mt => ?_)
                    refine step_pure_g mt rfl rfl (pu_move rfl) rfl (fun a mt => ?_)
                    refine step_pure_g mt rfl rfl (pu_idx rfl rfl K.un9 (by omega) (by assumption)) rfl (fun a mt => ?_)
                    refine step_pure_g mt rfl rfl (pu_neq rfl rfl) rfl (fun a mt => ?_)
                    refine step_pure mt (pu_pick rfl rfl) rfl (fun a mt => ?_)
                    refine w_nil ?_
                    refine w_cond mt rfl (fun h74 => ?_) (fun h74 => ?_)
                    · rw [if_neg (by omega)] at hE
                      refine w_rs ?_
                      refine step_pure mt (pu_assign rfl) rfl (fun a mt => ?_)
                      refine w_nil ?_
                      refine w_ret (x_then_ret ?_)
                      refine post_ret1 mt rfl rfl ?_
                      exact ⟨_, rfl, st.below, by rw [hE]; rfl⟩
                    · rw [if_pos (by omega)] at hE
                      refine w_skip ?_
                      refine x_then_n ?_
                      refine w_rs ?_
                      refine step_pure mt (pu_move rfl) rfl (fun a mt => ?_)
                      refine step_pure mt (pu_add_i rfl rfl (by omega)) rfl (fun a mt => ?_)
                      refine step_pure mt (pu_assign rfl) rfl (fun a mt => ?_)
                      refine w_nil ?_
                      refine w_ret ?_
                      refine post_ret1 mt rfl rfl ?_
                      exact ⟨_, rfl, st.below, by rw [hE]; rfl⟩
def isFm (m : Nat) (s : List UInt8) : Bool := decide (szF s ≤ m) && decide (endF (s.length + 1) s 0 = some s.length)
theorem Formula_ok (m : Nat) (s : List UInt8) (w : World) (hs : s.length ≤ 1000000) : CallsX Tryd.prog 17 #[.string (str s), .int .i64 m] w fun v _ => v = .bool (isFm m s) := by
  have st := St.start (w0 := w) (I0 := hp w) (Sub.refl _)
  refine CallsX.of (nn := 16) Tryd.func17 rfl rfl rfl (fun a mt => ?_)
  refine w_rs ?_
  refine step_pure mt (pu_assign rfl) rfl (fun a mt => ?_)
  refine w_nil ?_
  refine w_rs ?_
  refine step_pure mt (pu_move rfl) rfl (fun a mt => ?_)
  refine s_callv mt st K.cb20 (vs := [.string (str s)]) rfl (Size_ok s _ hs) rfl (fun a w' mt st => ?_)
  refine step_pure mt (pu_move rfl) rfl (fun a mt => ?_)
  refine step_pure mt (pu_leq rfl rfl) rfl (fun a mt => ?_)
  refine step_pure mt (pu_move rfl) rfl (fun a mt => ?_)
  refine split_p 9 mt rfl (fun g9 mt => ?_) (fun g9 mt => ?_)
  · refine step_pure_g mt rfl rfl (pu_move rfl) rfl (fun a mt => ?_)
    refine s_callv_g mt st rfl rfl K.cb40 (vs := [.string (str s), .int .i64 ((0 : Nat) : Int)]) rfl (end_ok s hs (s.length + 1) (by omega) 0 _ (by omega) (by omega)) rfl (fun a w' mt st => ?_)
    refine step_pure_g mt rfl rfl (pu_move rfl) rfl (fun a mt => ?_)
    refine step_pure_g mt rfl rfl (pu_len_str rfl K.un9) rfl (fun a mt => ?_)
    refine step_pure_g mt rfl rfl (pu_eql rfl rfl) rfl (fun a mt => ?_)
    refine step_pure mt (pu_pick rfl rfl) rfl (fun a mt => ?_)
    refine step_pure mt (pu_assign rfl) rfl (fun a mt => ?_)
    refine w_nil ?_
    refine w_ret ?_
    refine post_ret1 mt rfl rfl ?_
    first
    | exact ⟨_, rfl, st.below, by unfold isFm; rw [decide_eq_false (show ¬ szF s ≤ m by omega)]; rfl⟩
    | (refine ⟨_, rfl, st.below, ?_⟩
       unfold isFm
       rw [decide_eq_true (show szF s ≤ m by omega), Bool.true_and]
       congr 1
       refine decide_eq_decide.2 ?_
       cases he : endF (s.length + 1) s 0 with
       | none => simp [optI] <;> omega
       | some k => simp [optI] <;> omega)
  · refine step_skip_g mt rfl rfl rfl rfl (fun a mt => ?_)
    refine step_skip_g mt rfl rfl rfl rfl (fun a mt => ?_)
    refine step_skip_g mt rfl rfl rfl rfl (fun a mt => ?_)
    refine step_skip_g mt rfl rfl rfl rfl (fun a mt => ?_)
    refine step_skip_g mt rfl rfl rfl rfl (fun a mt => ?_)
    refine step_pure mt (pu_pick rfl rfl) rfl (fun a mt => ?_)
    refine step_pure mt (pu_assign rfl) rfl (fun a mt => ?_)
    refine w_nil ?_
    refine w_ret ?_
    refine post_ret1 mt rfl rfl ?_
    first
    | exact ⟨_, rfl, st.below, by unfold isFm; rw [decide_eq_false (show ¬ szF s ≤ m by omega)]; rfl⟩
    | (refine ⟨_, rfl, st.below, ?_⟩
       unfold isFm
       rw [decide_eq_true (show szF s ≤ m by omega), Bool.true_and]
       congr 1
       refine decide_eq_decide.2 ?_
       cases he : endF (s.length + 1) s 0 with
       | none => simp [optI] <;> omega
       | some k => simp [optI] <;> omega)
end Go.Proofs.YtoilfakpgcjjpaaDoor.Log
namespace Go.Proofs.YtoilfakpgcjjpaaDoor.Log
set_option linter.unusedVariables false
set_option linter.unusedSimpArgs false
theorem u8_ofNat {c : Nat} (h : 112 ≤ c ∧ c ≤ 115) : (UInt8.ofNat c).toNat = c := by
  rw [UInt8.toNat_ofNat']; omega
def sgn : Fm → UInt8
  | .and _ _ => 38
  | .or _ _ => 124
  | .imp _ _ => 62
  | _ => 0
theorem shw_pos (x : Fm) : 1 ≤ (shw x).length := by cases x <;> simp [shw]
/-- unique reading -/
theorem shw_uniq : ∀ (x y : Fm) (r r' : List UInt8), ats x → ats y → shw x ++ r = shw y ++ r' → x = y ∧ r = r' := by
  have two : ∀ (a b a' b' : Fm) (g g' : UInt8) (r r' : List UInt8), (∀ (y : Fm) (r r' : List UInt8), ats y → shw a ++ r = shw y ++ r' → a = y ∧ r = r') → (∀ (y : Fm) (r r' : List UInt8), ats y → shw b ++ r = shw y ++ r' → b = y ∧ r = r') → ats a' → ats b' →
      (40 :: shw a ++ [g] ++ shw b ++ [41]) ++ r = (40 :: shw a' ++ [g'] ++ shw b' ++ [41]) ++ r' → a = a' ∧ g = g' ∧ b = b' ∧ r = r' := by
    intro a b a' b' g g' r r' iha ihb ha' hb' h
    simp only [List.cons_append, List.append_assoc, List.cons.injEq, true_and, List.nil_append] at h
    obtain ⟨h1, h2⟩ := iha a' _ _ ha' h
    simp only [List.cons.injEq] at h2
    obtain ⟨h3, h4⟩ := ihb b' _ _ hb' h2.2
    simp only [List.cons.injEq, true_and] at h4
    exact ⟨h1, h2.1, h3, h4⟩
  intro x
  induction x with
  | fls =>
    intro y r r' hx hy h
    cases y with
    | fls => simpa [shw] using h
    | atm c =>
      simp only [shw, List.cons_append, List.nil_append, List.cons.injEq] at h
      have := congrArg UInt8.toNat h.1
      rw [u8_ofNat hy] at this
      have h2 : (102 : UInt8).toNat = 102 := rfl
      have := hy.1; omega
    | and a b => simp [shw] at h
    | or a b => simp [shw] at h
    | imp a b => simp [shw] at h
  | atm c =>
    intro y r r' hx hy h
    cases y with
    | fls =>
      simp only [shw, List.cons_append, List.nil_append, List.cons.injEq] at h
      have := congrArg UInt8.toNat h.1
      rw [u8_ofNat hx] at this
      have h2 : (102 : UInt8).toNat = 102 := rfl
      have := hx.1; omega
    | atm d =>
      simp only [shw, List.cons_append, List.nil_append, List.cons.injEq] at h
      have := congrArg UInt8.toNat h.1
      rw [u8_ofNat hx, u8_ofNat hy] at this
      exact ⟨by rw [this], h.2⟩
    | and a b =>
      simp only [shw, List.cons_append, List.nil_append, List.cons.injEq] at h
      have := congrArg UInt8.toNat h.1
      rw [u8_ofNat hx] at this
      have h2 : (40 : UInt8).toNat = 40 := rfl
      have := hx.1; omega
    | or a b =>
      simp only [shw, List.cons_append, List.nil_append, List.cons.injEq] at h
      have := congrArg UInt8.toNat h.1
      rw [u8_ofNat hx] at this
      have h2 : (40 : UInt8).toNat = 40 := rfl
      have := hx.1; omega
    | imp a b =>
      simp only [shw, List.cons_append, List.nil_append, List.cons.injEq] at h
      have := congrArg UInt8.toNat h.1
      rw [u8_ofNat hx] at this
      have h2 : (40 : UInt8).toNat = 40 := rfl
      have := hx.1; omega
  | and a b iha ihb =>
    intro y r r' hx hy h
    cases y with
    | fls => simp [shw] at h
    | atm d =>
      simp only [shw, List.cons_append, List.nil_append, List.cons.injEq] at h
      have := congrArg UInt8.toNat h.1
      rw [u8_ofNat hy] at this
      have h2 : (40 : UInt8).toNat = 40 := rfl
      have := hy.1; omega
    | and c e => obtain ⟨h1, h2, h3, h4⟩ := two a b c e _ _ r r' (fun y r r' hy h => iha y r r' hx.1 hy h) (fun y r r' hy h => ihb y r r' hx.2 hy h) hy.1 hy.2 h; exact ⟨by rw [h1, h3], h4⟩
    | or c e => obtain ⟨h1, h2, h3, h4⟩ := two a b c e _ _ r r' (fun y r r' hy h => iha y r r' hx.1 hy h) (fun y r r' hy h => ihb y r r' hx.2 hy h) hy.1 hy.2 h; exact absurd h2 (by decide)
    | imp c e => obtain ⟨h1, h2, h3, h4⟩ := two a b c e _ _ r r' (fun y r r' hy h => iha y r r' hx.1 hy h) (fun y r r' hy h => ihb y r r' hx.2 hy h) hy.1 hy.2 h; exact absurd h2 (by decide)
  | or a b iha ihb =>
    intro y r r' hx hy h
    cases y with
    | fls => simp [shw] at h
    | atm d =>
      simp only [shw, List.cons_append, List.nil_append, List.cons.injEq] at h
      have := congrArg UInt8.toNat h.1
      rw [u8_ofNat hy] at this
      have h2 : (40 : UInt8).toNat = 40 := rfl
      have := hy.1; omega
    | and c e => obtain ⟨h1, h2, h3, h4⟩ := two a b c e _ _ r r' (fun y r r' hy h => iha y r r' hx.1 hy h) (fun y r r' hy h => ihb y r r' hx.2 hy h) hy.1 hy.2 h; exact absurd h2 (by decide)
    | or c e => obtain ⟨h1, h2, h3, h4⟩ := two a b c e _ _ r r' (fun y r r' hy h => iha y r r' hx.1 hy h) (fun y r r' hy h => ihb y r r' hx.2 hy h) hy.1 hy.2 h; exact ⟨by rw [h1, h3], h4⟩
    | imp c e => obtain ⟨h1, h2, h3, h4⟩ := two a b c e _ _ r r' (fun y r r' hy h => iha y r r' hx.1 hy h) (fun y r r' hy h => ihb y r r' hx.2 hy h) hy.1 hy.2 h; exact absurd h2 (by decide)
  | imp a b iha ihb =>
    intro y r r' hx hy h
    cases y with
    | fls => simp [shw] at h
    | atm d =>
      simp only [shw, List.cons_append, List.nil_append, List.cons.injEq] at h
      have := congrArg UInt8.toNat h.1
      rw [u8_ofNat hy] at this
      have h2 : (40 : UInt8).toNat = 40 := rfl
      have := hy.1; omega
    | and c e => obtain ⟨h1, h2, h3, h4⟩ := two a b c e _ _ r r' (fun y r r' hy h => iha y r r' hx.1 hy h) (fun y r r' hy h => ihb y r r' hx.2 hy h) hy.1 hy.2 h; exact absurd h2 (by decide)
    | or c e => obtain ⟨h1, h2, h3, h4⟩ := two a b c e _ _ r r' (fun y r r' hy h => iha y r r' hx.1 hy h) (fun y r r' hy h => ihb y r r' hx.2 hy h) hy.1 hy.2 h; exact absurd h2 (by decide)
    | imp c e => obtain ⟨h1, h2, h3, h4⟩ := two a b c e _ _ r r' (fun y r r' hy h => iha y r r' hx.1 hy h) (fun y r r' hy h => ihb y r r' hx.2 hy h) hy.1 hy.2 h; exact ⟨by rw [h1, h3], h4⟩
theorem shw_inj {x y : Fm} (hx : ats x) (hy : ats y) : shw x = shw y ↔ x = y := by
  constructor
  · intro h; exact (shw_uniq x y [] [] hx hy (by simp [h])).1
  · rintro rfl; rfl
/-- the number of parts -/
theorem szF_app (a b : List UInt8) : szF (a ++ b) = szF a + szF b := by simp [szF]
theorem szF_shw : ∀ {x : Fm}, ats x → szF (shw x) = parts x
  | .fls, _ => rfl
  | .atm c, h => by
    have := u8_ofNat h
    have h1 := h.1
    unfold szF
    simp only [shw, List.filter_cons, List.filter_nil, isLt, this]
    rw [if_pos (by simp; omega)]; rfl
  | .and a b, h => by
    have e : szF (40 :: shw a ++ [38] ++ shw b ++ [41]) = szF [40] + szF (shw a) + szF [38] + szF (shw b) + szF [41] := by rw [← szF_app, ← szF_app, ← szF_app, ← szF_app]; rfl
    rw [shw, e, szF_shw h.1, szF_shw h.2]; simp only [parts]; show 0 + _ + 1 + _ + 0 = _; omega
  | .or a b, h => by
    have e : szF (40 :: shw a ++ [124] ++ shw b ++ [41]) = szF [40] + szF (shw a) + szF [124] + szF (shw b) + szF [41] := by rw [← szF_app, ← szF_app, ← szF_app, ← szF_app]; rfl
    rw [shw, e, szF_shw h.1, szF_shw h.2]; simp only [parts]; show 0 + _ + 1 + _ + 0 = _; omega
  | .imp a b, h => by
    have e : szF (40 :: shw a ++ [62] ++ shw b ++ [41]) = szF [40] + szF (shw a) + szF [62] + szF (shw b) + szF [41] := by rw [← szF_app, ← szF_app, ← szF_app, ← szF_app]; rfl
    rw [shw, e, szF_shw h.1, szF_shw h.2]; simp only [parts]; show 0 + _ + 1 + _ + 0 = _; omega
/-! ### end -/
theorem drop_shift {s : List UInt8} {k : Nat} {c : UInt8} (h : s[k]? = some c) : s.drop k = c :: s.drop (k + 1) := drop_cons h
theorem endF_shw : ∀ (x : Fm) (f : Nat) (s : List UInt8) (k : Nat) (r : List UInt8), ats x → (shw x).length < f → s.drop k = shw x ++ r → endF f s k = some (k + (shw x).length) := by
  have at_ : ∀ {s : List UInt8} {k : Nat} {c : UInt8} {l : List UInt8}, s.drop k = c :: l → s[k]? = some c ∧ s.drop (k + 1) = l := fun {s k c l} h => by
    have h1 : s[k]? = some c := by
      have := congrArg (fun l => l[0]?) h
      simpa [List.getElem?_drop] using this
    refine ⟨h1, ?_⟩
    rw [drop_cons h1] at h
    simpa using h
  have two : ∀ (a b : Fm) (g : UInt8) (f : Nat) (s : List UInt8) (k : Nat) (r : List UInt8), isSg g = true → (∀ (f : Nat) (s : List UInt8) (k : Nat) (r : List UInt8), (shw a).length < f → s.drop k = shw a ++ r → endF f s k = some (k + (shw a).length)) →
      (∀ (f : Nat) (s : List UInt8) (k : Nat) (r : List UInt8), (shw b).length < f → s.drop k = shw b ++ r → endF f s k = some (k + (shw b).length)) → (40 :: shw a ++ [g] ++ shw b ++ [41]).length < f → s.drop k = (40 :: shw a ++ [g] ++ shw b ++ [41]) ++ r →
      endF f s k = some (k + (40 :: shw a ++ [g] ++ shw b ++ [41]).length) := by
    intro a b g f s k r hg iha ihb hf h
    simp only [List.length_append, List.length_cons, List.length_nil] at hf ⊢
    obtain ⟨f, rfl⟩ : ∃ m, f = m + 1 := ⟨f - 1, by omega⟩
    simp only [List.cons_append, List.append_assoc, List.nil_append] at h
    obtain ⟨h1, h2⟩ := at_ h
    have e1 := iha f s (k + 1) _ (by omega) h2
    have h3 : s.drop (k + 1 + (shw a).length) = g :: (shw b ++ 41 :: r) := by rw [← List.drop_drop, h2, List.drop_left]
    obtain ⟨h4, h5⟩ := at_ h3
    have e2 := ihb f s _ _ (by omega) h5
    have h6 : s.drop (k + 1 + (shw a).length + 1 + (shw b).length) = 41 :: r := by rw [← List.drop_drop, h5, List.drop_left]
    obtain ⟨h7, h8⟩ := at_ h6
    simp only [endF]
    rw [h1, Option.bind_some, if_neg (by decide), if_neg (by decide), e1, Option.bind_some, h4, Option.bind_some, if_pos hg, e2, Option.bind_some, h7, Option.bind_some, if_pos (by decide)]
    congr 1; omega
  intro x
  induction x with
  | fls =>
    intro f s k r _ hf h
    obtain ⟨f, rfl⟩ : ∃ m, f = m + 1 := ⟨f - 1, by omega⟩
    obtain ⟨h1, h2⟩ := at_ h
    simp only [endF]
    rw [h1, Option.bind_some, if_pos (by decide)]; rfl
  | atm c =>
    intro f s k r hx hf h
    obtain ⟨f, rfl⟩ : ∃ m, f = m + 1 := ⟨f - 1, by omega⟩
    obtain ⟨h1, h2⟩ := at_ h
    simp only [endF]
    rw [h1, Option.bind_some, if_pos (.inr (by unfold isAt; rw [u8_ofNat hx]; exact decide_eq_true hx))]; rfl
  | and a b iha ihb => intro f s k r hx hf h; exact two a b 38 f s k r (by decide) (fun f s k r => iha f s k r hx.1) (fun f s k r => ihb f s k r hx.2) hf h
  | or a b iha ihb => intro f s k r hx hf h; exact two a b 124 f s k r (by decide) (fun f s k r => iha f s k r hx.1) (fun f s k r => ihb f s k r hx.2) hf h
  | imp a b iha ihb => intro f s k r hx hf h; exact two a b 62 f s k r (by decide) (fun f s k r => iha f s k r hx.1) (fun f s k r => ihb f s k r hx.2) hf h
theorem u8_eq {c : UInt8} {n : Nat} (hn : n < 256) (h : c.toNat = n) : c = UInt8.ofNat n := by
  rw [← UInt8.toNat_inj, UInt8.toNat_ofNat', h]; omega
theorem endF_read : ∀ (f : Nat) (s : List UInt8) (k m : Nat), endF f s k = some m → ∃ x, ats x ∧ s.drop k = shw x ++ s.drop m
  | 0, s, k, m, h => by simp [endF] at h
  | f + 1, s, k, m, h => by
    simp only [endF, Option.bind_eq_some_iff] at h
    obtain ⟨c, hc, h⟩ := h
    have hd := drop_cons hc
    split at h
    · rename_i hl
      cases h
      rcases hl with hl | hl
      · exact ⟨.fls, trivial, by rw [hd, u8_eq (by decide) hl]; rfl⟩
      · have hl' : 112 ≤ c.toNat ∧ c.toNat ≤ 115 := of_decide_eq_true hl
        exact ⟨.atm c.toNat, hl', by rw [hd]; simp [shw]⟩
    · split at h
      · cases h
      · rename_i h40
        have h40 : c.toNat = 40 := by simpa using h40
        simp only [Option.bind_eq_some_iff] at h
        obtain ⟨m1, h1, g, hg, h⟩ := h
        split at h
        · rename_i hsg
          simp only [Option.bind_eq_some_iff] at h
          obtain ⟨n, h2, e, he, h⟩ := h
          split at h
          · rename_i h41
            cases h
            obtain ⟨a, ha, ea⟩ := endF_read f s _ _ h1
            obtain ⟨b, hb, eb⟩ := endF_read f s _ _ h2
            have hdg := drop_cons hg
            have hde := drop_cons he
            have key : s.drop k = 40 :: (shw a ++ (g :: (shw b ++ (41 :: s.drop (n + 1))))) := by
              rw [hd, u8_eq (by decide) h40, ea, hdg, eb, hde, u8_eq (by decide) h41]; rfl
            unfold isSg at hsg
            simp only [Bool.or_eq_true, decide_eq_true_eq] at hsg
            rcases hsg with (hsg | hsg) | hsg
            · exact ⟨.and a b, ⟨ha, hb⟩, by rw [key, u8_eq (by decide) hsg]; simp [shw]⟩
            · exact ⟨.or a b, ⟨ha, hb⟩, by rw [key, u8_eq (by decide) hsg]; simp [shw]⟩
            · exact ⟨.imp a b, ⟨ha, hb⟩, by rw [key, u8_eq (by decide) hsg]; simp [shw]⟩
          · cases h
        · cases h
theorem isFm_iff {m : Nat} {s : List UInt8} : isFm m s = true ↔ ∃ x, ats x ∧ s = shw x ∧ parts x ≤ m := by
  unfold isFm
  simp only [Bool.and_eq_true, decide_eq_true_eq]
  constructor
  · rintro ⟨h1, h2⟩
    obtain ⟨x, hx, e⟩ := endF_read _ _ _ _ h2
    rw [List.drop_zero, List.drop_length, List.append_nil] at e
    exact ⟨x, hx, e, by rw [← szF_shw hx, ← e]; exact h1⟩
  · rintro ⟨x, hx, rfl, hp⟩
    refine ⟨by rw [szF_shw hx]; exact hp, ?_⟩
    have := endF_shw x ((shw x).length + 1) (shw x) 0 [] hx (by omega) (by simp)
    simpa using this
/-! ### the parser -/
theorem rdF_read : ∀ (f : Nat) (s : List UInt8) (k : Nat) (x : Fm) (s' : List UInt8) (k' : Nat), rdF f s k = some (x, s', k') → s = shw x ++ s'
  | 0, s, k, x, s', k', h => by simp [rdF] at h
  | f + 1, s, k, x, s', k', h => by
    unfold rdF at h
    cases s with
    | nil => cases h
    | cons c s =>
      simp only at h
      split at h
      · split at h
        · cases h
        · split at h
          · rename_i hc; cases h; rw [u8_eq (by decide) hc]; rfl
          · split at h
            · rename_i hc; cases h; simp [shw]
            · cases h
      · rename_i h40
        have h40 : c.toNat = 40 := by simpa using h40
        cases h1 : rdF f s k with
        | none => rw [h1] at h; cases h
        | some p =>
          obtain ⟨a, s1, k1⟩ := p
          rw [h1] at h
          have e1 := rdF_read f _ _ _ _ _ h1
          cases s1 with
          | nil => cases h
          | cons g s2 =>
            simp only at h
            split at h
            · cases h
            · cases h2 : rdF f s2 (k1 + 1) with
              | none => rw [h2] at h; cases h
              | some p =>
                obtain ⟨b, s3, k3⟩ := p
                rw [h2] at h
                have e2 := rdF_read f _ _ _ _ _ h2
                cases s3 with
                | nil => cases h
                | cons e s4 =>
                  simp only at h
                  split at h
                  · cases h
                  · rename_i h41
                    have h41 : e.toNat = 41 := by simpa using h41
                    have key : c :: s = 40 :: (shw a ++ (g :: (shw b ++ (41 :: s4)))) := by
                      rw [e1, e2, u8_eq (by decide) h40, u8_eq (by decide) h41]; rfl
                    split at h
                    · rename_i hg; cases h; rw [key, u8_eq (by decide) hg]; simp [shw]
                    · split at h
                      · rename_i hg; cases h; rw [key, u8_eq (by decide) hg]; simp [shw]
                      · split at h
                        · rename_i hg; cases h; rw [key, u8_eq (by decide) hg]; simp [shw]
                        · cases h
theorem rdF_shw : ∀ (x : Fm) (f : Nat) (r : List UInt8) (k : Nat), ats x → (shw x).length < f → k + parts x ≤ 12 → rdF f (shw x ++ r) k = some (x, r, k + parts x) := by
  have two : ∀ (a b : Fm) (g : UInt8) (f : Nat) (r : List UInt8) (k : Nat), (∀ (f : Nat) (r : List UInt8) (k : Nat), (shw a).length < f → k + parts a ≤ 12 → rdF f (shw a ++ r) k = some (a, r, k + parts a)) →
      (∀ (f : Nat) (r : List UInt8) (k : Nat), (shw b).length < f → k + parts b ≤ 12 → rdF f (shw b ++ r) k = some (b, r, k + parts b)) → (40 :: shw a ++ [g] ++ shw b ++ [41]).length < f → k + (1 + parts a + parts b) ≤ 12 →
      rdF f ((40 :: shw a ++ [g] ++ shw b ++ [41]) ++ r) k = if g.toNat = 38 then some (.and a b, r, k + (1 + parts a + parts b)) else if g.toNat = 124 then some (.or a b, r, k + (1 + parts a + parts b)) else if g.toNat = 62 then some (.imp a b, r, k + (1 + parts a + parts b)) else none := by
    intro a b g f r k iha ihb hf hk
    simp only [List.length_append, List.length_cons, List.length_nil] at hf
    obtain ⟨f, rfl⟩ : ∃ m, f = m + 1 := ⟨f - 1, by omega⟩
    simp only [List.cons_append, List.append_assoc, List.nil_append]
    unfold rdF
    simp only
    rw [if_neg (by decide), iha f _ k (by omega) (by omega)]
    simp only
    rw [if_neg (by omega), ihb f _ _ (by omega) (by omega)]
    simp only
    rw [if_neg (by decide)]
    have e : k + parts a + 1 + parts b = k + (1 + parts a + parts b) := by omega
    rw [e]
  intro x
  induction x with
  | fls =>
    intro f r k _ hf hk
    obtain ⟨f, rfl⟩ : ∃ m, f = m + 1 := ⟨f - 1, by omega⟩
    simp only [parts] at hk
    unfold rdF
    simp only [shw, List.cons_append, List.nil_append]
    rw [if_pos (by decide), if_neg (by omega), if_pos (by decide)]; rfl
  | atm c =>
    intro f r k hx hf hk
    obtain ⟨f, rfl⟩ : ∃ m, f = m + 1 := ⟨f - 1, by omega⟩
    simp only [parts] at hk
    have h1 := hx.1
    have h2 := hx.2
    unfold rdF
    simp only [shw, List.cons_append, List.nil_append, u8_ofNat hx]
    rw [if_pos (by omega), if_neg (by omega), if_neg (by omega), if_pos (show 112 ≤ c ∧ c ≤ 115 from hx)]; rfl
  | and a b iha ihb => intro f r k hx hf hk; have := two a b 38 f r k (fun f r k => iha f r k hx.1) (fun f r k => ihb f r k hx.2) hf hk; rw [if_pos (by decide)] at this; exact this
  | or a b iha ihb => intro f r k hx hf hk; have := two a b 124 f r k (fun f r k => iha f r k hx.1) (fun f r k => ihb f r k hx.2) hf hk; rw [if_neg (by decide), if_pos (by decide)] at this; exact this
  | imp a b iha ihb => intro f r k hx hf hk; have := two a b 62 f r k (fun f r k => iha f r k hx.1) (fun f r k => ihb f r k hx.2) hf hk; rw [if_neg (by decide), if_neg (by decide), if_pos (by decide)] at this; exact this
theorem fmOf_iff {s : List UInt8} {x : Fm} : fmOf s = some x ↔ ats x ∧ s = shw x ∧ parts x ≤ 12 := by
  constructor
  · intro h
    have hg := fmOf_good h
    unfold fmOf at h
    split at h
    · rename_i y k' e
      cases h
      have := rdF_read _ _ _ _ _ _ e
      exact ⟨hg.1, by simpa using this, hg.2⟩
    · cases h
  · rintro ⟨hx, rfl, hp⟩
    have := rdF_shw x ((shw x).length + 1) [] 0 hx (by omega) (by omega)
    rw [List.append_nil] at this
    exact fmOf_some this
theorem fmOf_shw {x : Fm} (h : ats x) (hp : parts x ≤ 12) : fmOf (shw x) = some x := fmOf_iff.2 ⟨h, rfl, hp⟩
theorem isFm_fmOf (s : List UInt8) : isFm 12 s = (fmOf s).isSome := by
  rw [Bool.eq_iff_iff, isFm_iff, Option.isSome_iff_exists]
  exact ⟨fun ⟨x, h1, h2, h3⟩ => ⟨x, fmOf_iff.2 ⟨h1, h2, h3⟩⟩, fun ⟨x, h⟩ => ⟨x, fmOf_iff.1 h⟩⟩
end Go.Proofs.YtoilfakpgcjjpaaDoor.Log
namespace Go.Proofs.YtoilfakpgcjjpaaDoor.Log
open Go Go.RowKit Go.Proofs.YtoilfakpgcjjpaaDoor Go.Proofs.YtoilfakpgcjjpaaDoor.Eng
set_option linter.unusedVariables false
set_option linter.unusedSimpArgs false
set_option maxRecDepth 100000
theorem Parts_two (x y : Fm) (g : UInt8) (s : List UInt8) (hs : s = 40 :: (shw x ++ (g :: (shw y ++ [41])))) (ha : ats x) (hl : s.length ≤ 1000000) (w : World) :
    CallsX Tryd.prog 44 #[.string (str s)] w fun v _ => v = .tuple #[.int .u8 g.toNat, .string (str (shw x)), .string (str (shw y))] := by
  have st := St.start (w0 := w) (I0 := hp w) (Sub.refl _)
  have hlen : s.length = (shw x).length + (shw y).length + 3 := by rw [hs]; simp; omega
  have h0 : s[(0 : Int).toNat]? = some 40 := by rw [hs]; rfl
  have hd : s.drop 1 = shw x ++ (g :: (shw y ++ [41])) := by rw [hs]; rfl
  have hE : endF (s.length + 1) s 1 = some (1 + (shw x).length) := endF_shw x _ s 1 _ ha (by omega) hd
  have hk : s[((1 + (shw x).length : Nat) : Int).toNat]? = some g := by
    show s[1 + (shw x).length]? = some g
    rw [hs, show 1 + (shw x).length = (shw x).length + 1 by omega, List.getElem?_cons_succ, List.getElem?_append_right (Nat.le_refl _)]
    simp
  have e1 : (s.take (1 + (shw x).length)).drop 1 = shw x := by
    rw [List.drop_take, hd, show 1 + (shw x).length - 1 = (shw x).length by omega, List.take_left]
  have e2 : (s.take (s.length - 1)).drop (1 + (shw x).length + 1) = shw y := by
    rw [List.drop_take, hs]
    have : (40 :: (shw x ++ g :: (shw y ++ [41]))).drop (1 + (shw x).length + 1) = shw y ++ [41] := by
      rw [show 1 + (shw x).length + 1 = ((shw x).length + 1) + 1 by omega, List.drop_succ_cons, ← List.drop_drop, List.drop_left]; rfl
    rw [this]
    refine List.take_left' ?_
    simp; omega
  refine CallsX.of (nn := 24) Tryd.func44 rfl rfl rfl (fun a mt => ?_)
  refine w_rs ?_
  refine step_pure mt (pu_assign rfl) rfl (fun a mt => ?_)
  refine step_pure mt (pu_assign rfl) rfl (fun a mt => ?_)
  refine step_pure mt (pu_assign rfl) rfl (fun a mt => ?_)
  refine w_nil ?_
  refine w_seq ?_
  refine w_rs ?_
  refine step_pure mt (pu_move rfl) rfl (fun a mt => ?_)
  refine step_pure mt (pu_idx rfl rfl K.un9 (by omega) (by assumption)) rfl (fun a mt => ?_)
  refine step_pure mt (pu_neq rfl rfl) rfl (fun a mt => ?_)
  refine w_nil ?_
  refine w_false mt rfl ?_
  refine w_skip ?_
  refine x_then_n ?_
  refine w_rs ?_
  refine step_pure mt (pu_move rfl) rfl (fun a mt => ?_)
  refine s_callv mt st K.cb40 (vs := [.string (str s), .int .i64 ((1 : Nat) : Int)]) rfl (end_ok s hl (s.length + 1) (by omega) 1 _ (by omega) (by omega)) rfl (fun a w' mt st => ?_)
  rw [hE, show optI (some (1 + (shw x).length)) = ((1 + (shw x).length : Nat) : Int) from rfl] at mt
  refine step_pure mt (pu_assign rfl) rfl (fun a mt => ?_)
  refine w_nil ?_
  refine w_drs K.mixed rfl mt ?_
  refine mo_pure (pu_move rfl) ?_
  refine mo_pure (pu_move rfl) ?_
  refine mo_pure (pu_idx rfl rfl K.un9 (by omega) hk) ?_
  refine mo_pure (pu_move rfl) ?_
  refine mo_pure (pu_move rfl) ?_
  refine mo_pure ((pu_slice_str (l := 1) (h := ((1 + (shw x).length : Nat) : Int)) rfl K.un9 (.inr ⟨_, _, rfl, rfl⟩) (.inr ⟨_, _, rfl, rfl⟩) (by omega) (by omega) (by omega)).to (u := .string (str (shw x))) (congrArg (fun l => Value.string (str l)) e1)) ?_
  refine mo_pure (pu_move rfl) ?_
  refine mo_pure (pu_move rfl) ?_
  refine mo_pure (pu_add_i rfl rfl (by omega)) ?_
  refine mo_pure (pu_move rfl) ?_
  refine mo_pure (pu_len_str rfl K.un9) ?_
  refine mo_pure (pu_sub_i rfl rfl (by omega)) ?_
  refine mo_pure ((pu_slice_str (l := ((1 + (shw x).length : Nat) : Int) + 1) (h := (s.length : Int) - 1) rfl K.un9 (.inr ⟨_, _, rfl, rfl⟩) (.inr ⟨_, _, rfl, rfl⟩) (by omega) (by omega) (by omega)).to (u := .string (str (shw y))) (by rw [show ((s.length : Int) - 1).toNat = s.length - 1 by omega, show (((1 + (shw x).length : Nat) : Int) + 1).toNat = 1 + (shw x).length + 1 by omega, e2])) ?_
  refine mo_pure (pu_assign rfl) ?_
  refine mo_pure (pu_assign rfl) ?_
  refine mo_pure (pu_assign rfl) ?_
  refine mo_end (fun a w' mt pr hb => ?_)
  have hIx := Iext_sub st.agr w'
  replace st := st.extI hb
  refine w_ret ?_
  refine post_ret3 mt rfl rfl rfl rfl ?_
  exact ⟨_, rfl, st.below, rfl⟩
theorem Parts_leaf (c : UInt8) (s : List UInt8) (hs : s[0]? = some c) (hc : c.toNat ≠ 40) (w : World) :
    CallsX Tryd.prog 44 #[.string (str s)] w fun v _ => v = .tuple #[.int .u8 0, .string (str []), .string (str [])] := by
  have st := St.start (w0 := w) (I0 := hp w) (Sub.refl _)
  have h0 : s[(0 : Int).toNat]? = some c := hs
  refine CallsX.of (nn := 24) Tryd.func44 rfl rfl rfl (fun a mt => ?_)
  refine w_rs ?_
  refine step_pure mt (pu_assign rfl) rfl (fun a mt => ?_)
  refine step_pure mt (pu_assign rfl) rfl (fun a mt => ?_)
  refine step_pure mt (pu_assign rfl) rfl (fun a mt => ?_)
  refine w_nil ?_
  refine w_seq ?_
  refine w_rs ?_
  refine step_pure mt (pu_move rfl) rfl (fun a mt => ?_)
  refine step_pure mt (pu_idx rfl rfl K.un9 (by omega) (by assumption)) rfl (fun a mt => ?_)
  refine step_pure mt ((pu_neq rfl rfl).tob (j := true) (decide_eq_true (by omega))) rfl (fun a mt => ?_)
  refine w_nil ?_
  refine w_true mt rfl ?_
  refine w_rs ?_
  refine step_pure mt (pu_assign rfl) rfl (fun a mt => ?_)
  refine step_pure mt (pu_assign rfl) rfl (fun a mt => ?_)
  refine step_pure mt (pu_assign rfl) rfl (fun a mt => ?_)
  refine w_nil ?_
  refine w_ret (x_then_ret ?_)
  refine post_ret3 mt rfl rfl rfl rfl ?_
  exact ⟨_, rfl, st.below, rfl⟩
def prtV : Fm → Value
  | .and a b => .tuple #[.int .u8 38, .string (str (shw a)), .string (str (shw b))]
  | .or a b => .tuple #[.int .u8 124, .string (str (shw a)), .string (str (shw b))]
  | .imp a b => .tuple #[.int .u8 62, .string (str (shw a)), .string (str (shw b))]
  | _ => .tuple #[.int .u8 0, .string (str []), .string (str [])]
theorem Parts_ok (x : Fm) (hx : ats x) (hl : (shw x).length ≤ 1000000) (w : World) : CallsX Tryd.prog 44 #[.string (str (shw x))] w fun v _ => v = prtV x := by
  cases x with
  | fls => exact Parts_leaf 102 _ rfl (by decide) w
  | atm c => exact Parts_leaf (UInt8.ofNat c) _ rfl (by rw [u8_ofNat hx]; have := hx.1; omega) w
  | and a b => exact Parts_two a b 38 _ (by simp [shw]) hx.1 hl w
  | or a b => exact Parts_two a b 124 _ (by simp [shw]) hx.1 hl w
  | imp a b => exact Parts_two a b 62 _ (by simp [shw]) hx.1 hl w
end Go.Proofs.YtoilfakpgcjjpaaDoor.Log
namespace Go.Proofs.YtoilfakpgcjjpaaDoor.Log
open Go Go.RowKit Go.Proofs.YtoilfakpgcjjpaaDoor Go.Proofs.YtoilfakpgcjjpaaDoor.Eng
set_option linter.unusedVariables false
set_option linter.unusedSimpArgs false
set_option maxRecDepth 100000
def RFcC (x : Fm) : Prop := ∀ (I : Hp) (ab : List (List Int)) (mk : List Int) (mv : Value) (w : World), Sub I (hp w) → ModV I ab mk mv → fits ab mk → (shw x).length ≤ 1000000 →
  CallsX Tryd.prog 27 #[mv, .string (str (shw x))] w (fun v w' => RdS (Iext I w w') v 1 ab.length (boolsV (fc ab mk x) ab.length))
theorem mo_rforced {Q : Exit → Act → World → Prop} {w1 : World} {n i : Nat} {B : List (Nat × Value)} {ops : Array Oper} {rest : List Oper} {acc : Acc} {d : Nat} {ty : TypeId} {pos : String} {af : Array Edge} {I : Hp}
    {x : Fm} {ab : List (List Int)} {mk : List Int} {mv : Value} {xs : Array Operand} {ts : Array TypeId} (hC : RFcC x) (hI : Sub I (hp w1)) (hm : ModV I ab mk mv) (hf : fits ab mk) (hl : (shw x).length ≤ 1000000)
    (hx : xs.toList.map (ev (app (knownA (depsOf ⟨some d, .call { callee := .value (.func 27), args := xs, argTypes := ts }, ty, pos, af, none⟩) acc) B)) = [mv, .string (str (shw x))].map some)
    (kk : MonoL Tryd.prog ops Q n w1 B (i + 1) rest ((i, d, .pr (FcX I w1 ab.length (fc ab mk x))) :: acc)) :
    MonoL Tryd.prog ops Q n w1 B i (⟨some d, .call { callee := .value (.func 27), args := xs, argTypes := ts }, ty, pos, af, none⟩ :: rest) acc :=
  mo_callk _ K.cb27 hx FcX.later (fun w hb => (hC (Iext I w1 w) ab mk mv w (Iext_hp hI hb) (hm.mono (Iext_sub hI w)) hf hl).mono fun v w' hb' h => RdS.mono (Iext_Iext hb hb') h) kk
theorem quo_bit {m : Int} {j : Nat} (hm : 0 ≤ m ∧ m ≤ 15) : IntKind.i64.wrap (m.tdiv ((2 ^ j : Nat) : Int)) = m / 2 ^ j := by
  have e : ((2 ^ j : Nat) : Int) = 2 ^ j := by norm_cast
  rw [Int.tdiv_eq_ediv_of_nonneg hm.1, e]
  have := div_bit (k := j) hm.1 hm.2
  exact i64_wrap (by omega)
theorem u8_add {j : Nat} (hj : j ≤ 3) : IntKind.u8.wrap (((112 + j : Nat) : Int) + 1) = ((112 + (j + 1) : Nat) : Int) := by
  have : j = 0 ∨ j = 1 ∨ j = 2 ∨ j = 3 := by omega
  rcases this with rfl | rfl | rfl | rfl <;> rfl
theorem bools_set {F : Nat → Bool} {n k : Nat} {b : Bool} (hb : b = F k) : (boolsTo F n k).toArray.setIfInBounds (0 + ((k : Nat) : Int).toNat * 1) (.bool b) = (boolsTo F n (k + 1)).toArray := by
  rw [← boolsTo_set, hb]; apply Array.ext'; simp
theorem rforced_leaf (c0 : Nat) (hc : c0 = 102 ∨ 112 ≤ c0 ∧ c0 ≤ 115) (x : Fm) (hx : shw x = [UInt8.ofNat c0]) (hfc : ∀ ab mk i, fc ab mk x i = (decide (c0 ≠ 102) && bit (mk.getD i 0) c0)) (hats : ats x) (hpv : prtV x = .tuple #[.int .u8 0, .string (str []), .string (str [])]) : RFcC x := by
  intro I ab mk mv w hI hm hf hlen
  obtain ⟨va, vm, rows, rfl, rva, rrow, rvm⟩ := hm
  obtain ⟨hf1, hf2, hf3, hf4⟩ := id hf
  obtain ⟨aad, acc0, rfl, _⟩ := rva.len
  obtain ⟨mad, mcc, rfl, _⟩ := rvm.len
  have st := St.start (w0 := w) (I0 := I) hI
  have hcn : (UInt8.ofNat c0).toNat = c0 := by rw [UInt8.toNat_ofNat']; omega
  have h0 : (shw x)[(0 : Int).toNat]? = some (UInt8.ofNat c0) := by rw [hx]; rfl
  refine CallsX.of (nn := 140) Tryd.func27 rfl rfl rfl (fun a mt => ?_)
  refine w_rs ?_
  refine step_alloc mt st (al_box rfl rfl) rfl (fun a w' b2 mt st => ?_)
  refine step_pure mt (pu_assign rfl) rfl (fun a mt => ?_)
  refine w_nil ?_
  refine w_rs ?_
  refine step_pure mt (pu_fld 0 K.fl44_0 rfl) rfl (fun a mt => ?_)
  refine step_pure mt (pu_loadM st K.sc41 rfl rfl) rfl (fun a mt => ?_)
  refine step_pure mt (pu_len rfl K.un41) rfl (fun a mt => ?_)
  refine step_pure mt (pu_assign rfl) rfl (fun a mt => ?_)
  refine w_nil ?_
  refine w_rs ?_
  refine step_pure mt (pu_move rfl) rfl (fun a mt => ?_)
  refine step_alloc mt st (al_make (ls := ab.length) (cs := ab.length) K.el49 rfl rfl rfl rfl (Nat.le_refl _) (by omega) (by omega)) rfl (fun a w' b22 mt st => ?_)
  rw [show madeCells (Value.bool false).cells (ab.length * 1) = (boolsTo (fun _ => false) ab.length 0).toArray from made_bools _] at st
  refine step_pure mt (pu_assign rfl) rfl (fun a mt => ?_)
  refine w_nil ?_
  refine w_rs ?_
  refine step_pure mt (pu_move rfl) rfl (fun a mt => ?_)
  refine s_callv mt st K.cb44 (vs := [.string (str (shw x))]) rfl (Parts_ok x hats hlen _) rfl (fun a w' mt st => ?_)
  rw [hpv] at mt
  refine step_pure mt (pu_move rfl) rfl (fun a mt => ?_)
  refine step_pure mt (pu_extract rfl rfl) rfl (fun a mt => ?_)
  refine step_pure mt (pu_extract rfl rfl) rfl (fun a mt => ?_)
  refine step_pure mt (pu_extract rfl rfl) rfl (fun a mt => ?_)
  refine step_pure mt (pu_assign rfl) rfl (fun a mt => ?_)
  refine step_pure mt (pu_assign rfl) rfl (fun a mt => ?_)
  refine step_pure mt (pu_assign rfl) rfl (fun a mt => ?_)
  refine w_nil ?_
  refine w_seq ?_
  refine w_rs ?_
  refine step_pure mt (pu_move rfl) rfl (fun a mt => ?_)
  refine step_pure mt (pu_eql rfl rfl) rfl (fun a mt => ?_)
  refine w_nil ?_
  refine w_true mt rfl ?_
  refine w_rs ?_
  refine step_pure mt (pu_assign rfl) rfl (fun a mt => ?_)
  refine w_nil ?_
  refine w_seq ?_
  refine w_rs ?_
  refine step_pure mt (pu_assign rfl) rfl (fun a mt => ?_)
  refine w_nil ?_
  refine w_block ?_
  refine w_loop (ι := Nat) (fun j a w' => j ≤ c0 - 112 ∧ Mt 140 a [(1, .string (str (shw x))), (2, pv b2), (5, .int .i64 ab.length), (6, .slice (some ⟨b22, 0, none⟩) ab.length ab.length), (10, .int .i64 ((2 ^ j : Nat) : Int)), (11, .int .u8 ((112 + j : Nat) : Int))] ∧ St [] w I w' I [.blk b22 (.cells (boolsTo (fun _ => false) ab.length 0).toArray 4 (0, 0)), .blk b2 (.cells #[.slice aad ab.length acc0, .slice mad mk.length mcc] 44 (0, 0))]) (fun j => c0 - 112 - j) 0
    ⟨Nat.zero_le _, mt.sub ⟨rfl, rfl, rfl, rfl, rfl, rfl, trivial⟩, st⟩ (fun j a w' hI' => ?_)
  obtain ⟨hj, mt, st⟩ := hI'
  refine w_seq ?_
  refine w_rs ?_
  refine step_pure mt (pu_move rfl) rfl (fun a mt => ?_)
  refine step_pure mt (pu_move rfl) rfl (fun a mt => ?_)
  refine step_pure mt ((pu_idx rfl rfl K.un9 (by omega) h0).to (u := .int .u8 c0) (by rw [hcn])) rfl (fun a mt => ?_)
  refine step_pure mt (pu_lss rfl rfl) rfl (fun a mt => ?_)
  refine w_nil ?_
  refine w_cond mt rfl (fun h34 => ?_) (fun h34 => ?_)
  · have hp : 2 ^ j ≤ 2 ^ 3 := Nat.pow_le_pow_right (by decide) (by omega)
    simp only [Nat.reducePow] at hp
    have hq : ∀ q : Nat, q ≤ 8 → -9223372036854775808 ≤ 2 * (q : Int) ∧ 2 * (q : Int) ≤ 9223372036854775807 := fun q h => by omega
    have hq2 : ∀ q : Nat, 2 * (q : Int) = ((q * 2 : Nat) : Int) := fun q => by omega
    refine w_skip ?_
    refine x_then_n ?_
    refine w_seq ?_
    refine w_block ?_
    refine w_region ?_
    refine step_pure mt (pu_move rfl) rfl (fun a mt => ?_)
    refine step_pure mt ((pu_mul_i rfl rfl (hq _ hp)).to (u := .int .i64 ((2 ^ (j + 1) : Nat) : Int)) (congrArg (Value.int .i64) (hq2 _))) rfl (fun a mt => ?_)
    refine step_pure mt (pu_assign rfl) rfl (fun a mt => ?_)
    refine w_nil' ?_
    refine x_block_n ?_
    refine x_then_n ?_
    refine w_region ?_
    refine step_pure mt (pu_move rfl) rfl (fun a mt => ?_)
    refine step_pure mt ((pu_add rfl rfl).to (u := .int .u8 ((112 + (j + 1) : Nat) : Int)) (congrArg (Value.int .u8) (u8_add (by omega)))) rfl (fun a mt => ?_)
    refine step_pure mt (pu_assign rfl) rfl (fun a mt => ?_)
    refine w_nil' ?_
    refine x_then_n ?_
    exact ⟨j + 1, ⟨by omega, mt.sub ⟨rfl, rfl, rfl, rfl, rfl, rfl, trivial⟩, st⟩, by omega⟩
  · have hjn : j = c0 - 112 := by omega
    have st0 := st
    rw [boolsTo_zero (fun _ => false) (fc ab mk x)] at st0
    refine w_exit (x_then_exit (x_then_exit (x_block_out ?_)))
    refine x_then_n ?_
    refine w_seq ?_
    refine w_rs ?_
    refine step_pure mt (pu_assign rfl) rfl (fun a mt => ?_)
    refine w_nil ?_
    refine w_block ?_
    refine w_loop (ι := Nat) (fun k a w' => k ≤ ab.length ∧ ∃ M, Mt 140 a [(1, .string (str (shw x))), (2, pv b2), (5, .int .i64 ab.length), (6, .slice (some ⟨b22, 0, none⟩) ab.length ab.length), (10, .int .i64 ((2 ^ j : Nat) : Int)), (12, .int .i64 k)] ∧ St [] w I w' I (.blk b22 (.cells (boolsTo (fc ab mk x) ab.length k).toArray 4 (0, 0)) :: .blk b2 (.cells #[.slice aad ab.length acc0, .slice mad mk.length mcc] 44 (0, 0)) :: M)) (fun k => ab.length - k) 0
      ⟨Nat.zero_le _, _, mt.sub ⟨rfl, rfl, rfl, rfl, rfl, rfl, trivial⟩, st0⟩ (fun k a w' hI' => ?_)
    obtain ⟨hk, M, mt, st⟩ := hI'
    refine w_seq ?_
    refine w_rs ?_
    refine step_pure mt (pu_move rfl) rfl (fun a mt => ?_)
    refine step_pure mt (pu_move rfl) rfl (fun a mt => ?_)
    refine step_pure mt (pu_lss rfl rfl) rfl (fun a mt => ?_)
    refine w_nil ?_
    refine w_cond mt rfl (fun h41 => ?_) (fun h41 => ?_)
    · have hkl : k < ab.length := by omega
      have hmk : (mk.map intV)[((k : Nat) : Int).toNat]? = some (.int .i64 (mk.getD k 0)) := by simp [intV, show k < mk.length by omega]
      have hmb := hf3 (mk.getD k 0) (by rw [List.getD_eq_getElem?_getD, List.getElem?_eq_getElem (show k < mk.length by omega)]; exact List.getElem_mem _)
      have hdb := div_bit (k := j) hmb.1 hmb.2
      refine w_skip ?_
      refine x_then_n ?_
      refine w_seq ?_
      refine w_block ?_
      refine w_region ?_
      refine step_pure mt (pu_move rfl) rfl (fun a mt => ?_)
      refine step_pure mt (pu_move rfl) rfl (fun a mt => ?_)
      refine step_pure mt (pu_move rfl) rfl (fun a mt => ?_)
      refine step_pure mt ((pu_idx rfl rfl K.un9 (by omega) h0).to (u := .int .u8 c0) (by rw [hcn])) rfl (fun a mt => ?_)
      refine step_pure mt (pu_neq rfl rfl) rfl (fun a mt => ?_)
      refine step_pure mt (pu_move rfl) rfl (fun a mt => ?_)
      refine split_p 49 mt rfl (fun g49 mt => ?_) (fun g49 mt => ?_)
      · have hv : (decide (mk.getD k 0 / 2 ^ j % 2 = 1)) = fc ab mk x k := by rw [hfc, decide_eq_true (show c0 ≠ 102 by omega), Bool.true_and, hjn]; rfl
        have hp2 : 0 < 2 ^ j := Nat.two_pow_pos j
        refine step_pure_g mt rfl rfl (pu_fld 1 K.fl44_1 rfl) rfl (fun a mt => ?_)
        refine step_pure_g mt rfl rfl (pu_loadM st K.sc42 rfl rfl) rfl (fun a mt => ?_)
        refine step_pure_g mt rfl rfl (pu_move rfl) rfl (fun a mt => ?_)
        refine step_pure_g mt rfl rfl (pu_ia (m := mk.length) (i := k) K.el42 (by decide) rfl rvm rfl (by omega) (by omega)) rfl (fun a mt => ?_)
        refine step_pure_g mt rfl rfl (pu_loadR st K.sc3 (rvm.mono st.sub0) rfl hmk) rfl (fun a mt => ?_)
        refine step_pure_g mt rfl rfl (pu_move rfl) rfl (fun a mt => ?_)
        refine step_pure_g mt rfl rfl ((pu_quo rfl rfl (by omega)).to (u := .int .i64 (mk.getD k 0 / 2 ^ j)) (congrArg (Value.int .i64) (quo_bit hmb))) rfl (fun a mt => ?_)
        refine step_pure_g mt rfl rfl ((pu_rem rfl rfl (by omega)).to (u := .int .i64 (mk.getD k 0 / 2 ^ j % 2)) (congrArg (Value.int .i64) (Int.tmod_eq_emod_of_nonneg hdb.1))) rfl (fun a mt => ?_)
        refine step_pure_g mt rfl rfl (pu_eql rfl rfl) rfl (fun a mt => ?_)
        refine step_pure mt ((pu_pick rfl rfl).to (u := .bool (fc ab mk x k)) (congrArg Value.bool hv)) rfl (fun a mt => ?_)
        refine step_pure mt (pu_iac K.el49 rfl rfl (by omega) (by omega)) rfl (fun a mt => ?_)
        refine s_store (b := b22) (v := .bool (fc ab mk x k)) mt st K.sz4 rfl rfl rfl (by simp [boolsTo_len]; omega) (fun w' st => ?_)
        refine w_nil' ?_
        refine x_block_n ?_
        refine x_then_n ?_
        refine w_region ?_
        refine step_pure mt (pu_move rfl) rfl (fun a mt => ?_)
        refine step_pure mt (pu_add_i rfl rfl (by omega)) rfl (fun a mt => ?_)
        refine step_pure mt (pu_assign rfl) rfl (fun a mt => ?_)
        refine w_nil' ?_
        refine x_then_n ?_
        rw [bools_set rfl] at st
        exact ⟨k + 1, ⟨by omega, _, mt.sub ⟨rfl, rfl, rfl, rfl, rfl, rfl, trivial⟩, st⟩, by omega⟩
      · have hv : false = fc ab mk x k := by rw [hfc, decide_eq_false (show ¬ c0 ≠ 102 by omega)]; rfl
        refine step_skip_g mt rfl rfl rfl rfl (fun a mt => ?_)
        refine step_skip_g mt rfl rfl rfl rfl (fun a mt => ?_)
        refine step_skip_g mt rfl rfl rfl rfl (fun a mt => ?_)
        refine step_skip_g mt rfl rfl rfl rfl (fun a mt => ?_)
        refine step_skip_g mt rfl rfl rfl rfl (fun a mt => ?_)
        refine step_skip_g mt rfl rfl rfl rfl (fun a mt => ?_)
        refine step_skip_g mt rfl rfl rfl rfl (fun a mt => ?_)
        refine step_skip_g mt rfl rfl rfl rfl (fun a mt => ?_)
        refine step_skip_g mt rfl rfl rfl rfl (fun a mt => ?_)
        refine step_pure mt ((pu_pick rfl rfl).to (u := .bool (fc ab mk x k)) (congrArg Value.bool hv)) rfl (fun a mt => ?_)
        refine step_pure mt (pu_iac K.el49 rfl rfl (by omega) (by omega)) rfl (fun a mt => ?_)
        refine s_store (b := b22) (v := .bool (fc ab mk x k)) mt st K.sz4 rfl rfl rfl (by simp [boolsTo_len]; omega) (fun w' st => ?_)
        refine w_nil' ?_
        refine x_block_n ?_
        refine x_then_n ?_
        refine w_region ?_
        refine step_pure mt (pu_move rfl) rfl (fun a mt => ?_)
        refine step_pure mt (pu_add_i rfl rfl (by omega)) rfl (fun a mt => ?_)
        refine step_pure mt (pu_assign rfl) rfl (fun a mt => ?_)
        refine w_nil' ?_
        refine x_then_n ?_
        rw [bools_set rfl] at st
        exact ⟨k + 1, ⟨by omega, _, mt.sub ⟨rfl, rfl, rfl, rfl, rfl, rfl, trivial⟩, st⟩, by omega⟩
    · refine w_exit (x_then_exit (x_then_exit (x_block_out ?_)))
      refine x_then_n ?_
      refine w_rs ?_
      refine step_pure mt (pu_move rfl) rfl (fun a mt => ?_)
      refine step_pure mt (pu_assign rfl) rfl (fun a mt => ?_)
      refine w_nil ?_
      refine w_ret (x_then_ret ?_)
      refine post_ret1 mt rfl rfl ?_
      have hke : k = ab.length := by omega
      subst hke
      exact ⟨_, rfl, st.below, out_row st (Pick.here _ _) hf2⟩
theorem rforced_and (x y : Fm) (hx : RFcC x) (hy : RFcC y) (hats : ats (.and x y)) : RFcC (.and x y) := by
  intro I ab mk mv w hI hm hf hlen
  obtain ⟨va, vm, rows, rfl, rva, rrow, rvm⟩ := hm
  obtain ⟨hf1, hf2, hf3, hf4⟩ := id hf
  obtain ⟨aad, acc0, rfl, _⟩ := rva.len
  obtain ⟨mad, mcc, rfl, _⟩ := rvm.len
  have st := St.start (w0 := w) (I0 := I) hI
  have hlx : (shw x).length ≤ 1000000 := by simp [shw] at hlen; omega
  have hly : (shw y).length ≤ 1000000 := by simp [shw] at hlen; omega
  refine CallsX.of (nn := 140) Tryd.func27 rfl rfl rfl (fun a mt => ?_)
  refine w_rs ?_
  refine step_alloc mt st (al_box rfl rfl) rfl (fun a w' b2 mt st => ?_)
  refine step_pure mt (pu_assign rfl) rfl (fun a mt => ?_)
  refine w_nil ?_
  refine w_rs ?_
  refine step_pure mt (pu_fld 0 K.fl44_0 rfl) rfl (fun a mt => ?_)
  refine step_pure mt (pu_loadM st K.sc41 rfl rfl) rfl (fun a mt => ?_)
  refine step_pure mt (pu_len rfl K.un41) rfl (fun a mt => ?_)
  refine step_pure mt (pu_assign rfl) rfl (fun a mt => ?_)
  refine w_nil ?_
  refine w_rs ?_
  refine step_pure mt (pu_move rfl) rfl (fun a mt => ?_)
  refine step_alloc mt st (al_make (ls := ab.length) (cs := ab.length) K.el49 rfl rfl rfl rfl (Nat.le_refl _) (by omega) (by omega)) rfl (fun a w' b22 mt st => ?_)
  rw [show madeCells (Value.bool false).cells (ab.length * 1) = (boolsTo (fun _ => false) ab.length 0).toArray from made_bools _] at st
  refine step_pure mt (pu_assign rfl) rfl (fun a mt => ?_)
  refine w_nil ?_
  refine w_rs ?_
  refine step_pure mt (pu_move rfl) rfl (fun a mt => ?_)
  refine s_callv mt st K.cb44 (vs := [.string (str (shw (.and x y)))]) rfl (Parts_ok (.and x y) hats hlen _) rfl (fun a w' mt st => ?_)
  refine step_pure mt (pu_move rfl) rfl (fun a mt => ?_)
  refine step_pure mt (pu_extract rfl rfl) rfl (fun a mt => ?_)
  refine step_pure mt (pu_extract rfl rfl) rfl (fun a mt => ?_)
  refine step_pure mt (pu_extract rfl rfl) rfl (fun a mt => ?_)
  refine step_pure mt (pu_assign rfl) rfl (fun a mt => ?_)
  refine step_pure mt (pu_assign rfl) rfl (fun a mt => ?_)
  refine step_pure mt (pu_assign rfl) rfl (fun a mt => ?_)
  refine w_nil ?_
  refine w_seq ?_
  refine w_rs ?_
  refine step_pure mt (pu_move rfl) rfl (fun a mt => ?_)
  refine step_pure mt (pu_eql rfl rfl) rfl (fun a mt => ?_)
  refine w_nil ?_
  refine w_false mt rfl ?_
  refine w_skip ?_
  refine x_then_n ?_
  refine w_drs K.mixed rfl mt ?_
  refine mo_pure (pu_loadMA st K.ag44 rfl rfl) ?_
  refine mo_pure (pu_move rfl) ?_
  refine mo_rforced (mv := .agg #[.slice aad ab.length acc0, .slice mad mk.length mcc]) hx st.agr ⟨_, _, rows, rfl, rva.mono st.sub0, fun i l r a b => (rrow i l r a b).mono st.sub0, rvm.mono st.sub0⟩ hf hlx rfl ?_
  refine mo_pure (pu_loadMA st K.ag44 rfl rfl) ?_
  refine mo_pure (pu_move rfl) ?_
  refine mo_rforced (mv := .agg #[.slice aad ab.length acc0, .slice mad mk.length mcc]) hy st.agr ⟨_, _, rows, rfl, rva.mono st.sub0, fun i l r a b => (rrow i l r a b).mono st.sub0, rvm.mono st.sub0⟩ hf hly rfl ?_
  refine mo_assignP FcX.later (fun a w pr => pr.2.1 rfl) ?_
  refine mo_assignP FcX.later (fun a w pr => pr.2.1 rfl) ?_
  refine mo_end (fun a w' mt pr hb => ?_)
  have hIx := Iext_sub st.agr w'
  replace st := st.extI hb
  have hpa := pr.2.1
  have hpb := pr.1
  generalize hva : a.tmps.getD 13 undef = fa at hpa
  generalize hvb : a.tmps.getD 14 undef = fb at hpb
  replace mt := (mt.learn (d := 13) hva).learn (d := 14) hvb
  unfold FcX at hpa hpb
  generalize hE : Iext I _ w' = I1 at st hpa hpb hIx
  have st0 := st
  rw [boolsTo_zero (fun _ => false) (fc ab mk (.and x y))] at st0
  refine w_seq ?_
  refine w_rs ?_
  refine step_pure mt (pu_assign rfl) rfl (fun a mt => ?_)
  refine w_nil ?_
  refine w_block ?_
  refine w_loop (ι := Nat) (fun k a w' => k ≤ ab.length ∧ ∃ M, Mt 140 a [(2, pv b2), (5, .int .i64 ab.length), (6, .slice (some ⟨b22, 0, none⟩) ab.length ab.length), (7, .int .u8 38), (13, fa), (14, fb), (15, .int .i64 k)] ∧ St [] w I w' I1 (.blk b22 (.cells (boolsTo (fc ab mk (.and x y)) ab.length k).toArray 4 (0, 0)) :: .blk b2 (.cells #[.slice aad ab.length acc0, .slice mad mk.length mcc] 44 (0, 0)) :: M)) (fun k => ab.length - k) 0
    ⟨Nat.zero_le _, _, mt.sub ⟨rfl, rfl, rfl, rfl, rfl, rfl, rfl, trivial⟩, st0⟩ (fun k a w' hI' => ?_)
  obtain ⟨hk, M, mt, st⟩ := hI'
  refine w_seq ?_
  refine w_rs ?_
  refine step_pure mt (pu_move rfl) rfl (fun a mt => ?_)
  refine step_pure mt (pu_move rfl) rfl (fun a mt => ?_)
  refine step_pure mt (pu_lss rfl rfl) rfl (fun a mt => ?_)
  refine w_nil ?_
  refine w_cond mt rfl (fun h70 => ?_) (fun h70 => ?_)
  · have hkl : k < ab.length := by omega
    refine w_skip ?_
    refine x_then_n ?_
    refine w_seq ?_
    refine w_block ?_
    refine w_rs ?_
    refine step_pure mt (pu_move rfl) rfl (fun a mt => ?_)
    refine w_nil ?_
    refine w_block ?_
    refine w_rs ?_
    refine step_pure mt (pu_eql rfl rfl) rfl (fun a mt => ?_)
    refine step_pure mt (pu_assign rfl) rfl (fun a mt => ?_)
    refine w_nil ?_
    refine w_true mt rfl ?_
    refine w_region ?_
    refine step_pure mt (pu_move rfl) rfl (fun a mt => ?_)
    refine step_pure mt (pu_move rfl) rfl (fun a mt => ?_)
    refine step_pure mt (pu_move rfl) rfl (fun a mt => ?_)
    refine step_pure mt (pu_move rfl) rfl (fun a mt => ?_)
    refine step_pure mt (pu_ia (m := ab.length) (i := k) K.el49 (by decide) rfl hpa rfl (by omega) (by omega)) rfl (fun a mt => ?_)
    refine step_pure mt (pu_loadR st K.sc4 hpa rfl (boolsV_get hkl)) rfl (fun a mt => ?_)
    refine step_pure mt (pu_move rfl) rfl (fun a mt => ?_)
    refine split_b 117 mt rfl (fun g117 mt => ?_) (fun g117 mt => ?_)
    · have hv : fc ab mk y k = fc ab mk (.and x y) k := by simp only [fc]; rw [g117]; rfl
      refine step_pure_g mt rfl rfl (pu_move rfl) rfl (fun a mt => ?_)
      refine step_pure_g mt rfl rfl (pu_move rfl) rfl (fun a mt => ?_)
      refine step_pure_g mt rfl rfl (pu_ia (m := ab.length) (i := k) K.el49 (by decide) rfl hpb rfl (by omega) (by omega)) rfl (fun a mt => ?_)
      refine step_pure_g mt rfl rfl (pu_loadR st K.sc4 hpb rfl (boolsV_get hkl)) rfl (fun a mt => ?_)
      refine step_pure mt ((pu_pick rfl rfl).to (u := .bool (fc ab mk (.and x y) k)) (congrArg Value.bool hv)) rfl (fun a mt => ?_)
      refine step_pure mt (pu_iac K.el49 rfl rfl (by omega) (by omega)) rfl (fun a mt => ?_)
      refine s_store (b := b22) (v := .bool (fc ab mk (.and x y) k)) mt st K.sz4 rfl rfl rfl (by simp [boolsTo_len]; omega) (fun w' st => ?_)
      refine w_nil' ?_
      refine x_block_n ?_
      refine x_block_n ?_
      refine x_then_n ?_
      refine w_region ?_
      refine step_pure mt (pu_move rfl) rfl (fun a mt => ?_)
      refine step_pure mt (pu_add_i rfl rfl (by omega)) rfl (fun a mt => ?_)
      refine step_pure mt (pu_assign rfl) rfl (fun a mt => ?_)
      refine w_nil' ?_
      refine x_then_n ?_
      rw [bools_set rfl] at st
      exact ⟨k + 1, ⟨by omega, _, mt.sub ⟨rfl, rfl, rfl, rfl, rfl, rfl, rfl, trivial⟩, st⟩, by omega⟩
    · have hv : false = fc ab mk (.and x y) k := by simp only [fc]; rw [g117]; rfl
      refine step_skip_g mt rfl rfl rfl rfl (fun a mt => ?_)
      refine step_skip_g mt rfl rfl rfl rfl (fun a mt => ?_)
      refine step_skip_g mt rfl rfl rfl rfl (fun a mt => ?_)
      refine step_skip_g mt rfl rfl rfl rfl (fun a mt => ?_)
      refine step_pure mt ((pu_pick rfl rfl).to (u := .bool (fc ab mk (.and x y) k)) (congrArg Value.bool hv)) rfl (fun a mt => ?_)
      refine step_pure mt (pu_iac K.el49 rfl rfl (by omega) (by omega)) rfl (fun a mt => ?_)
      refine s_store (b := b22) (v := .bool (fc ab mk (.and x y) k)) mt st K.sz4 rfl rfl rfl (by simp [boolsTo_len]; omega) (fun w' st => ?_)
      refine w_nil' ?_
      refine x_block_n ?_
      refine x_block_n ?_
      refine x_then_n ?_
      refine w_region ?_
      refine step_pure mt (pu_move rfl) rfl (fun a mt => ?_)
      refine step_pure mt (pu_add_i rfl rfl (by omega)) rfl (fun a mt => ?_)
      refine step_pure mt (pu_assign rfl) rfl (fun a mt => ?_)
      refine w_nil' ?_
      refine x_then_n ?_
      rw [bools_set rfl] at st
      exact ⟨k + 1, ⟨by omega, _, mt.sub ⟨rfl, rfl, rfl, rfl, rfl, rfl, rfl, trivial⟩, st⟩, by omega⟩
  · refine w_exit (x_then_exit (x_then_exit (x_block_out ?_)))
    refine x_then_n ?_
    refine w_rs ?_
    refine step_pure mt (pu_move rfl) rfl (fun a mt => ?_)
    refine step_pure mt (pu_assign rfl) rfl (fun a mt => ?_)
    refine w_nil ?_
    refine w_ret ?_
    refine post_ret1 mt rfl rfl ?_
    have hke : k = ab.length := by omega
    subst hke
    refine ⟨_, rfl, st.below, ?_⟩
    exact out_row st (Pick.here _ _) hf2
theorem rforced_or (x y : Fm) (hx : RFcC x) (hy : RFcC y) (hats : ats (.or x y)) : RFcC (.or x y) := by
  intro I ab mk mv w hI hm hf hlen
  obtain ⟨va, vm, rows, rfl, rva, rrow, rvm⟩ := hm
  obtain ⟨hf1, hf2, hf3, hf4⟩ := id hf
  obtain ⟨aad, acc0, rfl, _⟩ := rva.len
  obtain ⟨mad, mcc, rfl, _⟩ := rvm.len
  have st := St.start (w0 := w) (I0 := I) hI
  have hlx : (shw x).length ≤ 1000000 := by simp [shw] at hlen; omega
  have hly : (shw y).length ≤ 1000000 := by simp [shw] at hlen; omega
  refine CallsX.of (nn := 140) Tryd.func27 rfl rfl rfl (fun a mt => ?_)
  refine w_rs ?_
  refine step_alloc mt st (al_box rfl rfl) rfl (fun a w' b2 mt st => ?_)
  refine step_pure mt (pu_assign rfl) rfl (fun a mt => ?_)
  refine w_nil ?_
  refine w_rs ?_
  refine step_pure mt (pu_fld 0 K.fl44_0 rfl) rfl (fun a mt => ?_)
  refine step_pure mt (pu_loadM st K.sc41 rfl rfl) rfl (fun a mt => ?_)
  refine step_pure mt (pu_len rfl K.un41) rfl (fun a mt => ?_)
  refine step_pure mt (pu_assign rfl) rfl (fun a mt => ?_)
  refine w_nil ?_
  refine w_rs ?_
  refine step_pure mt (pu_move rfl) rfl (fun a mt => ?_)
  refine step_alloc mt st (al_make (ls := ab.length) (cs := ab.length) K.el49 rfl rfl rfl rfl (Nat.le_refl _) (by omega) (by omega)) rfl (fun a w' b22 mt st => ?_)
  rw [show madeCells (Value.bool false).cells (ab.length * 1) = (boolsTo (fun _ => false) ab.length 0).toArray from made_bools _] at st
  refine step_pure mt (pu_assign rfl) rfl (fun a mt => ?_)
  refine w_nil ?_
  refine w_rs ?_
  refine step_pure mt (pu_move rfl) rfl (fun a mt => ?_)
  refine s_callv mt st K.cb44 (vs := [.string (str (shw (.or x y)))]) rfl (Parts_ok (.or x y) hats hlen _) rfl (fun a w' mt st => ?_)
  refine step_pure mt (pu_move rfl) rfl (fun a mt => ?_)
  refine step_pure mt (pu_extract rfl rfl) rfl (fun a mt => ?_)
  refine step_pure mt (pu_extract rfl rfl) rfl (fun a mt => ?_)
  refine step_pure mt (pu_extract rfl rfl) rfl (fun a mt => ?_)
  refine step_pure mt (pu_assign rfl) rfl (fun a mt => ?_)
  refine step_pure mt (pu_assign rfl) rfl (fun a mt => ?_)
  refine step_pure mt (pu_assign rfl) rfl (fun a mt => ?_)
  refine w_nil ?_
  refine w_seq ?_
  refine w_rs ?_
  refine step_pure mt (pu_move rfl) rfl (fun a mt => ?_)
  refine step_pure mt (pu_eql rfl rfl) rfl (fun a mt => ?_)
  refine w_nil ?_
  refine w_false mt rfl ?_
  refine w_skip ?_
  refine x_then_n ?_
  refine w_drs K.mixed rfl mt ?_
  refine mo_pure (pu_loadMA st K.ag44 rfl rfl) ?_
  refine mo_pure (pu_move rfl) ?_
  refine mo_rforced (mv := .agg #[.slice aad ab.length acc0, .slice mad mk.length mcc]) hx st.agr ⟨_, _, rows, rfl, rva.mono st.sub0, fun i l r a b => (rrow i l r a b).mono st.sub0, rvm.mono st.sub0⟩ hf hlx rfl ?_
  refine mo_pure (pu_loadMA st K.ag44 rfl rfl) ?_
  refine mo_pure (pu_move rfl) ?_
  refine mo_rforced (mv := .agg #[.slice aad ab.length acc0, .slice mad mk.length mcc]) hy st.agr ⟨_, _, rows, rfl, rva.mono st.sub0, fun i l r a b => (rrow i l r a b).mono st.sub0, rvm.mono st.sub0⟩ hf hly rfl ?_
  refine mo_assignP FcX.later (fun a w pr => pr.2.1 rfl) ?_
  refine mo_assignP FcX.later (fun a w pr => pr.2.1 rfl) ?_
  refine mo_end (fun a w' mt pr hb => ?_)
  have hIx := Iext_sub st.agr w'
  replace st := st.extI hb
  have hpa := pr.2.1
  have hpb := pr.1
  generalize hva : a.tmps.getD 13 undef = fa at hpa
  generalize hvb : a.tmps.getD 14 undef = fb at hpb
  replace mt := (mt.learn (d := 13) hva).learn (d := 14) hvb
  unfold FcX at hpa hpb
  generalize hE : Iext I _ w' = I1 at st hpa hpb hIx
  have st0 := st
  rw [boolsTo_zero (fun _ => false) (fc ab mk (.or x y))] at st0
  refine w_seq ?_
  refine w_rs ?_
  refine step_pure mt (pu_assign rfl) rfl (fun a mt => ?_)
  refine w_nil ?_
  refine w_block ?_
  refine w_loop (ι := Nat) (fun k a w' => k ≤ ab.length ∧ ∃ M, Mt 140 a [(2, pv b2), (5, .int .i64 ab.length), (6, .slice (some ⟨b22, 0, none⟩) ab.length ab.length), (7, .int .u8 124), (13, fa), (14, fb), (15, .int .i64 k)] ∧ St [] w I w' I1 (.blk b22 (.cells (boolsTo (fc ab mk (.or x y)) ab.length k).toArray 4 (0, 0)) :: .blk b2 (.cells #[.slice aad ab.length acc0, .slice mad mk.length mcc] 44 (0, 0)) :: M)) (fun k => ab.length - k) 0
    ⟨Nat.zero_le _, _, mt.sub ⟨rfl, rfl, rfl, rfl, rfl, rfl, rfl, trivial⟩, st0⟩ (fun k a w' hI' => ?_)
  obtain ⟨hk, M, mt, st⟩ := hI'
  refine w_seq ?_
  refine w_rs ?_
  refine step_pure mt (pu_move rfl) rfl (fun a mt => ?_)
  refine step_pure mt (pu_move rfl) rfl (fun a mt => ?_)
  refine step_pure mt (pu_lss rfl rfl) rfl (fun a mt => ?_)
  refine w_nil ?_
  refine w_cond mt rfl (fun h70 => ?_) (fun h70 => ?_)
  · have hkl : k < ab.length := by omega
    refine w_skip ?_
    refine x_then_n ?_
    refine w_seq ?_
    refine w_block ?_
    refine w_rs ?_
    refine step_pure mt (pu_move rfl) rfl (fun a mt => ?_)
    refine w_nil ?_
    refine w_block ?_
    refine w_rs ?_
    refine step_pure mt (pu_eql rfl rfl) rfl (fun a mt => ?_)
    refine step_pure mt (pu_assign rfl) rfl (fun a mt => ?_)
    refine w_nil ?_
    refine w_false mt rfl ?_
    refine w_rs ?_
    refine step_pure mt (pu_eql rfl rfl) rfl (fun a mt => ?_)
    refine step_pure mt (pu_assign rfl) rfl (fun a mt => ?_)
    refine w_nil ?_
    refine w_true mt rfl ?_
    refine w_region ?_
    refine step_pure mt (pu_move rfl) rfl (fun a mt => ?_)
    refine step_pure mt (pu_move rfl) rfl (fun a mt => ?_)
    refine step_pure mt (pu_move rfl) rfl (fun a mt => ?_)
    refine step_pure mt (pu_move rfl) rfl (fun a mt => ?_)
    refine step_pure mt (pu_ia (m := ab.length) (i := k) K.el49 (by decide) rfl hpa rfl (by omega) (by omega)) rfl (fun a mt => ?_)
    refine step_pure mt (pu_loadR st K.sc4 hpa rfl (boolsV_get hkl)) rfl (fun a mt => ?_)
    refine step_pure mt (pu_move rfl) rfl (fun a mt => ?_)
    refine split_b 132 mt rfl (fun g132 mt => ?_) (fun g132 mt => ?_)
    · have hv : true = fc ab mk (.or x y) k := by simp only [fc]; rw [g132]; rfl
      refine step_skip_g mt rfl rfl rfl rfl (fun a mt => ?_)
      refine step_skip_g mt rfl rfl rfl rfl (fun a mt => ?_)
      refine step_skip_g mt rfl rfl rfl rfl (fun a mt => ?_)
      refine step_skip_g mt rfl rfl rfl rfl (fun a mt => ?_)
      refine step_pure mt ((pu_pick rfl rfl).to (u := .bool (fc ab mk (.or x y) k)) (congrArg Value.bool hv)) rfl (fun a mt => ?_)
      refine step_pure mt (pu_iac K.el49 rfl rfl (by omega) (by omega)) rfl (fun a mt => ?_)
      refine s_store (b := b22) (v := .bool (fc ab mk (.or x y) k)) mt st K.sz4 rfl rfl rfl (by simp [boolsTo_len]; omega) (fun w' st => ?_)
      refine w_nil' ?_
      refine x_block_n ?_
      refine x_block_n ?_
      refine x_then_n ?_
      refine w_region ?_
      refine step_pure mt (pu_move rfl) rfl (fun a mt => ?_)
      refine step_pure mt (pu_add_i rfl rfl (by omega)) rfl (fun a mt => ?_)
      refine step_pure mt (pu_assign rfl) rfl (fun a mt => ?_)
      refine w_nil' ?_
      refine x_then_n ?_
      rw [bools_set rfl] at st
      exact ⟨k + 1, ⟨by omega, _, mt.sub ⟨rfl, rfl, rfl, rfl, rfl, rfl, rfl, trivial⟩, st⟩, by omega⟩
    · have hv : fc ab mk y k = fc ab mk (.or x y) k := by simp only [fc]; rw [g132]; rfl
      refine step_pure_g mt rfl rfl (pu_move rfl) rfl (fun a mt => ?_)
      refine step_pure_g mt rfl rfl (pu_move rfl) rfl (fun a mt => ?_)
      refine step_pure_g mt rfl rfl (pu_ia (m := ab.length) (i := k) K.el49 (by decide) rfl hpb rfl (by omega) (by omega)) rfl (fun a mt => ?_)
      refine step_pure_g mt rfl rfl (pu_loadR st K.sc4 hpb rfl (boolsV_get hkl)) rfl (fun a mt => ?_)
      refine step_pure mt ((pu_pick rfl rfl).to (u := .bool (fc ab mk (.or x y) k)) (congrArg Value.bool hv)) rfl (fun a mt => ?_)
      refine step_pure mt (pu_iac K.el49 rfl rfl (by omega) (by omega)) rfl (fun a mt => ?_)
      refine s_store (b := b22) (v := .bool (fc ab mk (.or x y) k)) mt st K.sz4 rfl rfl rfl (by simp [boolsTo_len]; omega) (fun w' st => ?_)
      refine w_nil' ?_
      refine x_block_n ?_
      refine x_block_n ?_
      refine x_then_n ?_
      refine w_region ?_
      refine step_pure mt (pu_move rfl) rfl (fun a mt => ?_)
      refine step_pure mt (pu_add_i rfl rfl (by omega)) rfl (fun a mt => ?_)
      refine step_pure mt (pu_assign rfl) rfl (fun a mt => ?_)
      refine w_nil' ?_
      refine x_then_n ?_
      rw [bools_set rfl] at st
      exact ⟨k + 1, ⟨by omega, _, mt.sub ⟨rfl, rfl, rfl, rfl, rfl, rfl, rfl, trivial⟩, st⟩, by omega⟩
  · refine w_exit (x_then_exit (x_then_exit (x_block_out ?_)))
    refine x_then_n ?_
    refine w_rs ?_
    refine step_pure mt (pu_move rfl) rfl (fun a mt => ?_)
    refine step_pure mt (pu_assign rfl) rfl (fun a mt => ?_)
    refine w_nil ?_
    refine w_ret ?_
    refine post_ret1 mt rfl rfl ?_
    have hke : k = ab.length := by omega
    subst hke
    refine ⟨_, rfl, st.below, ?_⟩
    exact out_row st (Pick.here _ _) hf2
theorem rforced_imp (x y : Fm) (hx : RFcC x) (hy : RFcC y) (hats : ats (.imp x y)) : RFcC (.imp x y) := by
  intro I ab mk mv w hI hm hf hlen
  obtain ⟨va, vm, rows, rfl, rva, rrow, rvm⟩ := hm
  obtain ⟨hf1, hf2, hf3, hf4⟩ := id hf
  obtain ⟨aad, acc0, rfl, _⟩ := rva.len
  obtain ⟨mad, mcc, rfl, _⟩ := rvm.len
  have st := St.start (w0 := w) (I0 := I) hI
  have hlx : (shw x).length ≤ 1000000 := by simp [shw] at hlen; omega
  have hly : (shw y).length ≤ 1000000 := by simp [shw] at hlen; omega
  refine CallsX.of (nn := 140) Tryd.func27 rfl rfl rfl (fun a mt => ?_)
  refine w_rs ?_
  refine step_alloc mt st (al_box rfl rfl) rfl (fun a w' b2 mt st => ?_)
  refine step_pure mt (pu_assign rfl) rfl (fun a mt => ?_)
  refine w_nil ?_
  refine w_rs ?_
  refine step_pure mt (pu_fld 0 K.fl44_0 rfl) rfl (fun a mt => ?_)
  refine step_pure mt (pu_loadM st K.sc41 rfl rfl) rfl (fun a mt => ?_)
  refine step_pure mt (pu_len rfl K.un41) rfl (fun a mt => ?_)
  refine step_pure mt (pu_assign rfl) rfl (fun a mt => ?_)
  refine w_nil ?_
  refine w_rs ?_
  refine step_pure mt (pu_move rfl) rfl (fun a mt => ?_)
  refine step_alloc mt st (al_make (ls := ab.length) (cs := ab.length) K.el49 rfl rfl rfl rfl (Nat.le_refl _) (by omega) (by omega)) rfl (fun a w' b22 mt st => ?_)
  rw [show madeCells (Value.bool false).cells (ab.length * 1) = (boolsTo (fun _ => false) ab.length 0).toArray from made_bools _] at st
  refine step_pure mt (pu_assign rfl) rfl (fun a mt => ?_)
  refine w_nil ?_
  refine w_rs ?_
  refine step_pure mt (pu_move rfl) rfl (fun a mt => ?_)
  refine s_callv mt st K.cb44 (vs := [.string (str (shw (.imp x y)))]) rfl (Parts_ok (.imp x y) hats hlen _) rfl (fun a w' mt st => ?_)
  refine step_pure mt (pu_move rfl) rfl (fun a mt => ?_)
  refine step_pure mt (pu_extract rfl rfl) rfl (fun a mt => ?_)
  refine step_pure mt (pu_extract rfl rfl) rfl (fun a mt => ?_)
  refine step_pure mt (pu_extract rfl rfl) rfl (fun a mt => ?_)
  refine step_pure mt (pu_assign rfl) rfl (fun a mt => ?_)
  refine step_pure mt (pu_assign rfl) rfl (fun a mt => ?_)
  refine step_pure mt (pu_assign rfl) rfl (fun a mt => ?_)
  refine w_nil ?_
  refine w_seq ?_
  refine w_rs ?_
  refine step_pure mt (pu_move rfl) rfl (fun a mt => ?_)
  refine step_pure mt (pu_eql rfl rfl) rfl (fun a mt => ?_)
  refine w_nil ?_
  refine w_false mt rfl ?_
  refine w_skip ?_
  refine x_then_n ?_
  refine w_drs K.mixed rfl mt ?_
  refine mo_pure (pu_loadMA st K.ag44 rfl rfl) ?_
  refine mo_pure (pu_move rfl) ?_
  refine mo_rforced (mv := .agg #[.slice aad ab.length acc0, .slice mad mk.length mcc]) hx st.agr ⟨_, _, rows, rfl, rva.mono st.sub0, fun i l r a b => (rrow i l r a b).mono st.sub0, rvm.mono st.sub0⟩ hf hlx rfl ?_
  refine mo_pure (pu_loadMA st K.ag44 rfl rfl) ?_
  refine mo_pure (pu_move rfl) ?_
  refine mo_rforced (mv := .agg #[.slice aad ab.length acc0, .slice mad mk.length mcc]) hy st.agr ⟨_, _, rows, rfl, rva.mono st.sub0, fun i l r a b => (rrow i l r a b).mono st.sub0, rvm.mono st.sub0⟩ hf hly rfl ?_
  refine mo_assignP FcX.later (fun a w pr => pr.2.1 rfl) ?_
  refine mo_assignP FcX.later (fun a w pr => pr.2.1 rfl) ?_
  refine mo_end (fun a w' mt pr hb => ?_)
  have hIx := Iext_sub st.agr w'
  replace st := st.extI hb
  have hpa := pr.2.1
  have hpb := pr.1
  generalize hva : a.tmps.getD 13 undef = fa at hpa
  generalize hvb : a.tmps.getD 14 undef = fb at hpb
  replace mt := (mt.learn (d := 13) hva).learn (d := 14) hvb
  unfold FcX at hpa hpb
  generalize hE : Iext I _ w' = I1 at st hpa hpb hIx
  have st0 := st
  rw [boolsTo_zero (fun _ => false) (fc ab mk (.imp x y))] at st0
  refine w_seq ?_
  refine w_rs ?_
  refine step_pure mt (pu_assign rfl) rfl (fun a mt => ?_)
  refine w_nil ?_
  refine w_block ?_
  refine w_loop (ι := Nat) (fun k a w' => k ≤ ab.length ∧ ∃ M, Mt 140 a [(2, pv b2), (5, .int .i64 ab.length), (6, .slice (some ⟨b22, 0, none⟩) ab.length ab.length), (7, .int .u8 62), (13, fa), (14, fb), (15, .int .i64 k)] ∧ St [] w I w' I1 (.blk b22 (.cells (boolsTo (fc ab mk (.imp x y)) ab.length k).toArray 4 (0, 0)) :: .blk b2 (.cells #[.slice aad ab.length acc0, .slice mad mk.length mcc] 44 (0, 0)) :: M)) (fun k => ab.length - k) 0
    ⟨Nat.zero_le _, _, mt.sub ⟨rfl, rfl, rfl, rfl, rfl, rfl, rfl, trivial⟩, st0⟩ (fun k a w' hI' => ?_)
  obtain ⟨hk, M, mt, st⟩ := hI'
  refine w_seq ?_
  refine w_rs ?_
  refine step_pure mt (pu_move rfl) rfl (fun a mt => ?_)
  refine step_pure mt (pu_move rfl) rfl (fun a mt => ?_)
  refine step_pure mt (pu_lss rfl rfl) rfl (fun a mt => ?_)
  refine w_nil ?_
  refine w_cond mt rfl (fun h70 => ?_) (fun h70 => ?_)
  · have hkl : k < ab.length := by omega
    refine w_skip ?_
    refine x_then_n ?_
    refine w_seq ?_
    refine w_block ?_
    refine w_rs ?_
    refine step_pure mt (pu_move rfl) rfl (fun a mt => ?_)
    refine w_nil ?_
    refine w_block ?_
    refine w_rs ?_
    refine step_pure mt (pu_eql rfl rfl) rfl (fun a mt => ?_)
    refine step_pure mt (pu_assign rfl) rfl (fun a mt => ?_)
    refine w_nil ?_
    refine w_false mt rfl ?_
    refine w_rs ?_
    refine step_pure mt (pu_eql rfl rfl) rfl (fun a mt => ?_)
    refine step_pure mt (pu_assign rfl) rfl (fun a mt => ?_)
    refine w_nil ?_
    refine w_false mt rfl ?_
    have hl : ab[k]? = some ab[k] := List.getElem?_eq_getElem hkl
    have hrl : rows.length = ab.length := by have := rva.nlen; exact this
    have hrr : rows[k]? = some (rows[k]'(by omega)) := List.getElem?_eq_getElem (by omega)
    have hlm : ab[k] ∈ ab := List.getElem_mem hkl
    generalize ab[k] = l at hl hlm
    generalize rows[k]'(by omega) = r at hrr
    have rl := rrow k l r hl hrr
    have hl4 := hf4 l hlm
    have hur : rows[((k : Nat) : Int).toNat]? = some r := by simp [hrr]
    have hF : fc ab mk (.imp x y) k = !(l.any fun v => fc ab mk x v.toNat && !fc ab mk y v.toNat) := by simp only [fc]; rw [show ab.getD k [] = l by simp [hl]]
    refine w_rs ?_
    refine step_pure mt (pu_move rfl) rfl (fun a mt => ?_)
    refine step_pure mt (pu_move rfl) rfl (fun a mt => ?_)
    refine step_pure mt (pu_iac K.el49 rfl rfl (by omega) (by omega)) rfl (fun a mt => ?_)
    refine s_store (b := b22) (v := .bool true) mt st K.sz4 rfl rfl rfl (by simp [boolsTo_len]; omega) (fun w' st => ?_)
    refine w_nil ?_
    have est : ∀ b : Bool, (boolsTo (fc ab mk (.imp x y)) ab.length k).toArray.setIfInBounds (0 + ((k : Nat) : Int).toNat * 1) (.bool b) = ((boolsTo (fc ab mk (.imp x y)) ab.length k).set k (.bool b)).toArray := fun b => by apply Array.ext'; simp
    rw [est] at st
    refine w_rs ?_
    refine step_pure mt (pu_assign rfl) rfl (fun a mt => ?_)
    refine w_nil ?_
    refine w_block ?_
    refine w_loop (ι := Nat) (fun i a w' => i ≤ l.length ∧ ∃ M, Mt 140 a [(2, pv b2), (5, .int .i64 ab.length), (6, .slice (some ⟨b22, 0, none⟩) ab.length ab.length), (7, .int .u8 62), (13, fa), (14, fb), (15, .int .i64 k), (16, .int .i64 i)] ∧ St [] w I w' I1 (.blk b22 (.cells ((boolsTo (fc ab mk (.imp x y)) ab.length k).set k (.bool (!((l.take i).any fun v => fc ab mk x v.toNat && !fc ab mk y v.toNat)))).toArray 4 (0, 0)) :: .blk b2 (.cells #[.slice aad ab.length acc0, .slice mad mk.length mcc] 44 (0, 0)) :: M)) (fun i => l.length - i) 0
      ⟨Nat.zero_le _, _, mt.sub ⟨rfl, rfl, rfl, rfl, rfl, rfl, rfl, rfl, trivial⟩, st⟩ (fun i a w' hI' => ?_)
    obtain ⟨hi, M, mt, st⟩ := hI'
    refine w_seq ?_
    refine w_rs ?_
    refine step_pure mt (pu_move rfl) rfl (fun a mt => ?_)
    refine step_pure mt (pu_fld 0 K.fl44_0 rfl) rfl (fun a mt => ?_)
    refine step_pure mt (pu_loadM st K.sc41 rfl rfl) rfl (fun a mt => ?_)
    refine step_pure mt (pu_move rfl) rfl (fun a mt => ?_)
    refine step_pure mt (pu_ia (m := ab.length) (i := k) K.el41 (by decide) rfl rva rfl (by omega) (by omega)) rfl (fun a mt => ?_)
    refine step_pure mt (pu_loadR st K.sc42 (rva.mono st.sub0) rfl hur) rfl (fun a mt => ?_)
    refine step_pure mt (pu_len_r rfl rl K.un42) rfl (fun a mt => ?_)
    refine step_pure mt (pu_lss rfl rfl) rfl (fun a mt => ?_)
    refine w_nil ?_
    refine w_cond mt rfl (fun h84 => ?_) (fun h84 => ?_)
    · have hil : i < l.length := by omega
      have hx1 : l[i]? = some l[i] := List.getElem?_eq_getElem hil
      have hvm := List.getElem_mem hil
      generalize l[i] = v at hx1 hvm
      have hvb := hl4.2 v hvm
      have hxu : (l.map intV)[((i : Nat) : Int).toNat]? = some (.int .i64 v) := by simp [hx1, intV]
      obtain ⟨vn, rfl⟩ : ∃ m : Nat, v = m := ⟨v.toNat, by omega⟩
      have hvl : vn < ab.length := by omega
      have etake : (l.take (i + 1)).any (fun v => fc ab mk x v.toNat && !fc ab mk y v.toNat) = ((l.take i).any (fun v => fc ab mk x v.toNat && !fc ab mk y v.toNat) || (fc ab mk x vn && !fc ab mk y vn)) := by
        rw [List.take_add_one, hx1]; simp
      refine w_skip ?_
      refine x_then_n ?_
      refine w_seq ?_
      refine w_block ?_
      refine w_rs ?_
      refine step_pure mt (pu_fld 0 K.fl44_0 rfl) rfl (fun a mt => ?_)
      refine step_pure mt (pu_loadM st K.sc41 rfl rfl) rfl (fun a mt => ?_)
      refine step_pure mt (pu_move rfl) rfl (fun a mt => ?_)
      refine step_pure mt (pu_ia (m := ab.length) (i := k) K.el41 (by decide) rfl rva rfl (by omega) (by omega)) rfl (fun a mt => ?_)
      refine step_pure mt (pu_loadR st K.sc42 (rva.mono st.sub0) rfl hur) rfl (fun a mt => ?_)
      refine step_pure mt (pu_move rfl) rfl (fun a mt => ?_)
      refine step_pure mt (pu_ia (m := l.length) (i := i) K.el42 (by decide) rfl rl rfl (by omega) (by omega)) rfl (fun a mt => ?_)
      refine step_pure mt (pu_loadR st K.sc3 (rl.mono st.sub0) rfl hxu) rfl (fun a mt => ?_)
      refine step_pure mt (pu_assign rfl) rfl (fun a mt => ?_)
      refine w_nil ?_
      refine w_rs ?_
      refine step_pure mt (pu_move rfl) rfl (fun a mt => ?_)
      refine step_pure mt (pu_move rfl) rfl (fun a mt => ?_)
      refine step_pure mt (pu_ia (m := ab.length) (i := vn) K.el49 (by decide) rfl hpa rfl (by omega) (by omega)) rfl (fun a mt => ?_)
      refine step_pure mt (pu_loadR (i := vn) st K.sc4 hpa rfl (boolsV_get hvl)) rfl (fun a mt => ?_)
      refine step_pure mt (pu_move rfl) rfl (fun a mt => ?_)
      refine split_b 99 mt rfl (fun g99 mt => ?_) (fun g99 mt => ?_)
      · refine step_pure_g mt rfl rfl (pu_move rfl) rfl (fun a mt => ?_)
        refine step_pure_g mt rfl rfl (pu_move rfl) rfl (fun a mt => ?_)
        refine step_pure_g mt rfl rfl (pu_ia (m := ab.length) (i := vn) K.el49 (by decide) rfl hpb rfl (by omega) (by omega)) rfl (fun a mt => ?_)
        refine step_pure_g mt rfl rfl (pu_loadR (i := vn) st K.sc4 hpb rfl (boolsV_get hvl)) rfl (fun a mt => ?_)
        refine step_pure_g mt rfl rfl (pu_not rfl) rfl (fun a mt => ?_)
        refine step_pure mt (pu_pick rfl rfl) rfl (fun a mt => ?_)
        refine w_nil ?_
        refine w_cond_b mt rfl (fun h105 => ?_) (fun h105 => ?_)
        · have hc : (fc ab mk x vn && !fc ab mk y vn) = true := by rw [g99, show (!fc ab mk y vn) = true from h105]; rfl
          refine w_region ?_
          refine step_pure mt (pu_move rfl) rfl (fun a mt => ?_)
          refine step_pure mt (pu_move rfl) rfl (fun a mt => ?_)
          refine step_pure mt (pu_iac K.el49 rfl rfl (by omega) (by omega)) rfl (fun a mt => ?_)
          refine s_store (b := b22) (v := .bool false) mt st K.sz4 rfl rfl rfl (by simp [boolsTo_len]; omega) (fun w' st => ?_)
          refine w_nil' ?_
          refine x_block_n ?_
          refine x_then_n ?_
          refine w_region ?_
          refine step_pure mt (pu_move rfl) rfl (fun a mt => ?_)
          refine step_pure mt (pu_add_i rfl rfl (by omega)) rfl (fun a mt => ?_)
          refine step_pure mt (pu_assign rfl) rfl (fun a mt => ?_)
          refine w_nil' ?_
          refine x_then_n ?_
          first
          | exact ⟨i + 1, ⟨by omega, _, mt.sub ⟨rfl, rfl, rfl, rfl, rfl, rfl, rfl, rfl, trivial⟩, by rw [etake, hc, Bool.or_false]; exact st⟩, by omega⟩
          | (have est2 : ∀ b : Value, (((boolsTo (fc ab mk (.imp x y)) ab.length k).set k b).toArray.setIfInBounds (0 + ((k : Nat) : Int).toNat * 1) (.bool false)) = ((boolsTo (fc ab mk (.imp x y)) ab.length k).set k (.bool false)).toArray := fun b => by apply Array.ext'; simp
             rw [est2] at st
             exact ⟨i + 1, ⟨by omega, _, mt.sub ⟨rfl, rfl, rfl, rfl, rfl, rfl, rfl, rfl, trivial⟩, by rw [etake, hc, Bool.or_true]; exact st⟩, by omega⟩)
        · have hc : (fc ab mk x vn && !fc ab mk y vn) = false := by rw [g99, show (!fc ab mk y vn) = false from h105]; rfl
          refine w_skip ?_
          refine x_block_n ?_
          refine x_then_n ?_
          refine w_region ?_
          refine step_pure mt (pu_move rfl) rfl (fun a mt => ?_)
          refine step_pure mt (pu_add_i rfl rfl (by omega)) rfl (fun a mt => ?_)
          refine step_pure mt (pu_assign rfl) rfl (fun a mt => ?_)
          refine w_nil' ?_
          refine x_then_n ?_
          first
          | exact ⟨i + 1, ⟨by omega, _, mt.sub ⟨rfl, rfl, rfl, rfl, rfl, rfl, rfl, rfl, trivial⟩, by rw [etake, hc, Bool.or_false]; exact st⟩, by omega⟩
          | (have est2 : ∀ b : Value, (((boolsTo (fc ab mk (.imp x y)) ab.length k).set k b).toArray.setIfInBounds (0 + ((k : Nat) : Int).toNat * 1) (.bool false)) = ((boolsTo (fc ab mk (.imp x y)) ab.length k).set k (.bool false)).toArray := fun b => by apply Array.ext'; simp
             rw [est2] at st
             exact ⟨i + 1, ⟨by omega, _, mt.sub ⟨rfl, rfl, rfl, rfl, rfl, rfl, rfl, rfl, trivial⟩, by rw [etake, hc, Bool.or_true]; exact st⟩, by omega⟩)
      · have hc : (fc ab mk x vn && !fc ab mk y vn) = false := by rw [g99]; rfl
        refine step_skip_g mt rfl rfl rfl rfl (fun a mt => ?_)
        refine step_skip_g mt rfl rfl rfl rfl (fun a mt => ?_)
        refine step_skip_g mt rfl rfl rfl rfl (fun a mt => ?_)
        refine step_skip_g mt rfl rfl rfl rfl (fun a mt => ?_)
        refine step_skip_g mt rfl rfl rfl rfl (fun a mt => ?_)
        refine step_pure mt (pu_pick rfl rfl) rfl (fun a mt => ?_)
        refine w_nil ?_
        refine w_false mt rfl ?_
        refine w_skip ?_
        refine x_block_n ?_
        refine x_then_n ?_
        refine w_region ?_
        refine step_pure mt (pu_move rfl) rfl (fun a mt => ?_)
        refine step_pure mt (pu_add_i rfl rfl (by omega)) rfl (fun a mt => ?_)
        refine step_pure mt (pu_assign rfl) rfl (fun a mt => ?_)
        refine w_nil' ?_
        refine x_then_n ?_
        first
        | exact ⟨i + 1, ⟨by omega, _, mt.sub ⟨rfl, rfl, rfl, rfl, rfl, rfl, rfl, rfl, trivial⟩, by rw [etake, hc, Bool.or_false]; exact st⟩, by omega⟩
        | (have est2 : ∀ b : Value, (((boolsTo (fc ab mk (.imp x y)) ab.length k).set k b).toArray.setIfInBounds (0 + ((k : Nat) : Int).toNat * 1) (.bool false)) = ((boolsTo (fc ab mk (.imp x y)) ab.length k).set k (.bool false)).toArray := fun b => by apply Array.ext'; simp
           rw [est2] at st
           exact ⟨i + 1, ⟨by omega, _, mt.sub ⟨rfl, rfl, rfl, rfl, rfl, rfl, rfl, rfl, trivial⟩, by rw [etake, hc, Bool.or_true]; exact st⟩, by omega⟩)
    · have hil : i = l.length := by omega
      rw [hil, List.take_length, ← hF, boolsTo_set] at st
      refine w_exit (x_then_exit (x_then_exit (x_block_out ?_)))
      refine x_block_n ?_
      refine x_block_n ?_
      refine x_then_n ?_
      refine w_region ?_
      refine step_pure mt (pu_move rfl) rfl (fun a mt => ?_)
      refine step_pure mt (pu_add_i rfl rfl (by omega)) rfl (fun a mt => ?_)
      refine step_pure mt (pu_assign rfl) rfl (fun a mt => ?_)
      refine w_nil' ?_
      refine x_then_n ?_
      exact ⟨k + 1, ⟨by omega, _, mt.sub ⟨rfl, rfl, rfl, rfl, rfl, rfl, rfl, trivial⟩, st⟩, by omega⟩
  · refine w_exit (x_then_exit (x_then_exit (x_block_out ?_)))
    refine x_then_n ?_
    refine w_rs ?_
    refine step_pure mt (pu_move rfl) rfl (fun a mt => ?_)
    refine step_pure mt (pu_assign rfl) rfl (fun a mt => ?_)
    refine w_nil ?_
    refine w_ret ?_
    refine post_ret1 mt rfl rfl ?_
    have hke : k = ab.length := by omega
    subst hke
    refine ⟨_, rfl, st.below, ?_⟩
    exact out_row st (Pick.here _ _) hf2
theorem rforced_ok : ∀ x : Fm, ats x → RFcC x
  | .fls, h => rforced_leaf 102 (.inl rfl) .fls rfl (fun _ _ _ => rfl) h rfl
  | .atm c, h => rforced_leaf c (.inr h) (.atm c) rfl (fun ab mk i => by rw [decide_eq_true (show c ≠ 102 by have := h.1; omega)]; rfl) h rfl
  | .and a b, h => rforced_and a b (rforced_ok a h.1) (rforced_ok b h.2) h
  | .or a b, h => rforced_or a b (rforced_ok a h.1) (rforced_ok b h.2) h
  | .imp a b, h => rforced_imp a b (rforced_ok a h.1) (rforced_ok b h.2) h
end Go.Proofs.YtoilfakpgcjjpaaDoor.Log
namespace Go.Proofs.YtoilfakpgcjjpaaDoor.Log
open Go Go.RowKit Go.Proofs.YtoilfakpgcjjpaaDoor Go.Proofs.YtoilfakpgcjjpaaDoor.Eng
set_option linter.unusedVariables false
set_option linter.unusedSimpArgs false
set_option maxRecDepth 100000
theorem RClassical_ok (x : Fm) (hx : ats x) (hl : (shw x).length ≤ 1000000) (w : World) : CallsX Tryd.prog 19 #[.string (str (shw x))] w fun v _ => v = .bool (clF x) := by
  have st := St.start (w0 := w) (I0 := hp w) (Sub.refl _)
  refine CallsX.of (nn := 18) Tryd.func19 rfl rfl rfl (fun a mt => ?_)
  refine w_rs ?_
  refine step_pure mt (pu_assign rfl) rfl (fun a mt => ?_)
  refine w_nil ?_
  refine w_seq ?_
  refine w_rs ?_
  refine step_pure mt (pu_assign rfl) rfl (fun a mt => ?_)
  refine w_nil ?_
  refine w_block ?_
  refine w_loop (ι := Nat) (fun k a w' => k ≤ 16 ∧ ∃ I', Mt 18 a [(0, .string (str (shw x))), (3, .int .i64 k)] ∧ St [] w (hp w) w' I' [] ∧ clF x = ((List.range 16).drop k).all fun m => fc [[0]] [(m : Int)] x 0) (fun k => 16 - k) 0
    ⟨by omega, _, mt.sub ⟨rfl, rfl, trivial⟩, st, rfl⟩ (fun k a w' hI' => ?_)
  obtain ⟨hk, I', mt, st, hcl⟩ := hI'
  refine w_seq ?_
  refine w_rs ?_
  refine step_pure mt (pu_move rfl) rfl (fun a mt => ?_)
  refine step_pure mt (pu_lss rfl rfl) rfl (fun a mt => ?_)
  refine w_nil ?_
  refine w_cond mt rfl (fun h5 => ?_) (fun h5 => ?_)
  · have hk16 : k < 16 := by omega
    rw [all_drop hk16] at hcl
    refine w_skip ?_
    refine x_then_n ?_
    refine w_seq ?_
    refine w_block ?_
    refine w_rs ?_
    refine s_litR (vs := [.int .i64 0]) mt st K.el42 rfl (by decide) rfl rfl (by decide) (by decide) (by simp [Value.cells]) rfl (fun a w' I8 v8 mt st hs8 hr8 => ?_)
    have hr8 : RdS I8 v8 1 1 [.int .i64 0] := hr8
    have h8 := RdS.one hr8
    refine s_litR (vs := [v8]) mt st K.el41 rfl (by decide) rfl rfl (by decide) (by decide) (by simp [one_cells h8]) rfl (fun a w' I9 v9 mt st hs9 hr9 => ?_)
    have hr9 : RdS I9 v9 1 1 [v8] := by simpa [one_cells h8] using hr9
    have h9 := RdS.one hr9
    refine step_pure mt (pu_move rfl) rfl (fun a mt => ?_)
    refine s_litR (vs := [.int .i64 k]) mt st K.el42 rfl (by decide) rfl rfl (by decide) (by decide) (by simp [Value.cells]) rfl (fun a w' I11 v11 mt st hs11 hr11 => ?_)
    have hr11 : RdS I11 v11 1 1 [.int .i64 k] := hr11
    have h11 := RdS.one hr11
    refine step_pure mt ((pu_build K.pl44 K.ze44 rfl (by simp [Instr.fill, one_cells h9, one_cells h11])).to (u := .agg #[v9, v11]) rfl) rfl (fun a mt => ?_)
    have hmod : ModV I11 [[0]] [(k : Int)] (.agg #[v9, v11]) := ⟨v9, v11, [v8], rfl, hr9.mono hs11, fun i l r g1 g2 => by
      cases i with
      | zero => cases (show some [(0 : Int)] = some l from g1); cases (show some v8 = some r from g2); exact hr8.mono (hs9.trans hs11)
      | succ i => simp at g1, hr11⟩
    refine step_pure mt (pu_move rfl) rfl (fun a mt => ?_)
    refine s_call mt st K.cb27 (vs := [.agg #[v9, v11], .string (str (shw x))]) rfl (rforced_ok x hx I11 [[0]] [(k : Int)] _ _ st.agr hmod ⟨rfl, by decide, by simp; omega, by simp⟩ hl) rfl (fun a w' v14 mt st hI14 hv14 => ?_)
    have hv14 : RdS _ v14 1 1 [.bool (fc [[0]] [(k : Int)] x 0)] := hv14
    refine step_pure mt (pu_ia (m := 1) (i := 0) K.el49 (by decide) rfl hv14 rfl (by omega) (by omega)) rfl (fun a mt => ?_)
    refine step_pure mt (pu_loadR (i := 0) st K.sc4 hv14 rfl rfl) rfl (fun a mt => ?_)
    refine step_pure mt (pu_not rfl) rfl (fun a mt => ?_)
    refine w_nil ?_
    refine w_cond_b mt rfl (fun h17 => ?_) (fun h17 => ?_)
    · refine w_rs ?_
      refine step_pure mt (pu_assign rfl) rfl (fun a mt => ?_)
      refine w_nil ?_
      refine w_ret (x_block_ret (x_then_ret (x_then_ret (x_block_ret (x_then_ret ?_)))))
      refine post_ret1 mt rfl rfl ?_
      have h' : fc [[0]] [(k : Int)] x 0 = false := by simpa using h17
      exact ⟨_, rfl, st.below, by rw [hcl, h']; rfl⟩
    · refine w_skip ?_
      refine x_block_n ?_
      refine x_then_n ?_
      refine w_region ?_
      refine step_pure mt (pu_move rfl) rfl (fun a mt => ?_)
      refine step_pure mt (pu_add_i rfl rfl (by omega)) rfl (fun a mt => ?_)
      refine step_pure mt (pu_assign rfl) rfl (fun a mt => ?_)
      refine w_nil' ?_
      refine x_then_n ?_
      have h' : fc [[0]] [(k : Int)] x 0 = true := by simpa using h17
      exact ⟨k + 1, ⟨by omega, _, mt.sub ⟨rfl, rfl, trivial⟩, st, by rw [hcl, h']; rfl⟩, by omega⟩
  · refine w_exit (x_then_exit (x_then_exit (x_block_out ?_)))
    refine x_then_n ?_
    refine w_rs ?_
    refine step_pure mt (pu_assign rfl) rfl (fun a mt => ?_)
    refine w_nil ?_
    refine w_ret ?_
    refine post_ret1 mt rfl rfl ?_
    have e : (List.range 16).drop k = [] := List.drop_eq_nil_of_le (by simp; omega)
    exact ⟨_, rfl, st.below, by rw [hcl, e]; rfl⟩
def fPP : Fm := .imp (.atm 112) (.atm 112)
def fEM : Fm := .or (.atm 112) (.imp (.atm 112) .fls)
theorem dec_pp : (decF fPP).valid = true ∧ (decF fPP).ms.length = 2 := by decide +kernel
theorem dec_em : (decF fEM).valid = false ∧ 2 ≤ (decF fEM).abs.length := by decide +kernel
theorem cl_em : clF fEM = true := by decide +kernel
theorem fm_pp : fmOf [40, 112, 62, 112, 41] = some fPP := by decide +kernel
theorem fm_em : fmOf [40, 112, 124, 40, 112, 62, 102, 41, 41] = some fEM := by decide +kernel
theorem fm_p : fmOf [112] = some (.atm 112) := by decide +kernel
theorem awake_ok {I : Hp} (w : World) (hI : Sub I (hp w)) (hG : Gl I) : CallsX Tryd.prog 18 #[] w fun v _ => v = .bool true := by
  have st := St.start (w0 := w) (I0 := I) hI
  refine CallsX.of (nn := 69) Tryd.func18 rfl rfl rfl (fun a mt => ?_)
  refine w_rs ?_
  refine step_pure mt (pu_assign rfl) rfl (fun a mt => ?_)
  refine w_nil ?_
  refine w_rs ?_
  refine s_call mt st K.cb30 (vs := [.string (str [40, 112, 62, 112, 41])]) rfl (Decide_ok [40, 112, 62, 112, 41] _ st.agr (hG.mono st.sub0)) rfl (fun a w' v10 mt st hI10 hv10 => ?_)
  rw [fm_pp] at hv10
  obtain ⟨rv1, rfl, lv1, va1, vm1, rfl, hl1, hm1⟩ := hv10
  obtain ⟨_, _, rows1, e0, rva1, _, rvm1⟩ := hm1
  cases e0
  have o1 : lv1.oneCell' = true := by obtain ⟨ad, c, rfl, _⟩ := RdS.len hl1; rfl
  have o2 := RdS.one rva1
  have o3 := RdS.one rvm1
  rw [dec_pp.1] at mt
  refine step_pure mt (pu_move rfl) rfl (fun a mt => ?_)
  refine step_pure mt (pu_extract rfl rfl) rfl (fun a mt => ?_)
  refine step_pure mt (pu_extract rfl rfl) rfl (fun a mt => ?_)
  refine step_alloc mt st (al_alloc K.ze56 rfl) rfl (fun a w' b1 mt st => ?_)
  refine s_storeA mt st K.sz56 rfl rfl rfl (by simp [o1, o2, o3, one_bool]) rfl rfl (fun w' st => ?_)
  refine step_pure mt (pu_assign rfl) rfl (fun a mt => ?_)
  refine w_nil ?_
  refine w_rs ?_
  refine s_call mt st K.cb30 (vs := [.string (str [40, 112, 124, 40, 112, 62, 102, 41, 41])]) rfl (Decide_ok [40, 112, 124, 40, 112, 62, 102, 41, 41] _ st.agr (hG.mono st.sub0)) rfl (fun a w' v14 mt st hI14 hv14 => ?_)
  rw [fm_em] at hv14
  obtain ⟨rv2, rfl, lv2, va2, vm2, rfl, hl2, hm2⟩ := hv14
  obtain ⟨_, _, rows2, e0, rva2, _, rvm2⟩ := hm2
  cases e0
  have p1 : lv2.oneCell' = true := by obtain ⟨ad, c, rfl, _⟩ := RdS.len hl2; rfl
  have p2 := RdS.one rva2
  have p3 := RdS.one rvm2
  rw [dec_em.1] at mt
  refine step_pure mt (pu_move rfl) rfl (fun a mt => ?_)
  refine step_pure mt (pu_extract rfl rfl) rfl (fun a mt => ?_)
  refine step_pure mt (pu_extract rfl rfl) rfl (fun a mt => ?_)
  refine step_alloc mt st (al_alloc K.ze56 rfl) rfl (fun a w' b3 mt st => ?_)
  refine s_storeA mt st K.sz56 rfl rfl rfl (by simp [p1, p2, p3, one_bool]) rfl rfl (fun w' st => ?_)
  refine step_pure mt (pu_assign rfl) rfl (fun a mt => ?_)
  refine w_nil ?_
  refine w_rs ?_
  refine s_call mt st K.cb15 (vs := [.string (str [40, 112, 124, 40, 112, 62, 102, 41, 41])]) rfl (Classical_ok [40, 112, 124, 40, 112, 62, 102, 41, 41] _) rfl (fun a w' v18 mt st hI18 hv18 => ?_)
  rw [fm_em] at hv18
  simp only [cl_em] at hv18
  subst hv18
  refine step_pure mt (pu_move rfl) rfl (fun a mt => ?_)
  refine step_pure mt (pu_extract rfl rfl) rfl (fun a mt => ?_)
  refine step_pure mt (pu_extract rfl rfl) rfl (fun a mt => ?_)
  refine step_pure mt (pu_assign rfl) rfl (fun a mt => ?_)
  refine step_pure mt (pu_assign rfl) rfl (fun a mt => ?_)
  refine w_nil ?_
  refine w_rs ?_
  refine s_call mt st K.cb16 (vs := [.string (str [112])]) rfl (Negate_ok [112] _) rfl (fun a w' v22 mt st hI22 hv22 => ?_)
  rw [fm_p] at hv22
  replace hv22 : v22 = .tuple #[.string (str [40, 112, 62, 102, 41]), .int .i64 0] := hv22
  subst hv22
  refine step_pure mt (pu_move rfl) rfl (fun a mt => ?_)
  refine step_pure mt (pu_extract rfl rfl) rfl (fun a mt => ?_)
  refine step_pure mt (pu_extract rfl rfl) rfl (fun a mt => ?_)
  refine step_pure mt (pu_assign rfl) rfl (fun a mt => ?_)
  refine step_pure mt (pu_assign rfl) rfl (fun a mt => ?_)
  refine w_nil ?_
  refine w_seq ?_
  refine w_rs ?_
  refine step_pure mt (pu_move rfl) rfl (fun a mt => ?_)
  refine step_pure mt (pu_neq rfl rfl) rfl (fun a mt => ?_)
  refine step_pure mt (pu_move rfl) rfl (fun a mt => ?_)
  refine step_pure_g mt rfl rfl (pu_fld 0 K.fl56_0 rfl) rfl (fun a mt => ?_)
  refine step_pure_g mt rfl rfl (pu_loadM st K.sc4 rfl rfl) rfl (fun a mt => ?_)
  refine step_pure_g mt rfl rfl (pu_not rfl) rfl (fun a mt => ?_)
  refine step_pure mt (pu_pick rfl rfl) rfl (fun a mt => ?_)
  refine step_pure mt (pu_move rfl) rfl (fun a mt => ?_)
  refine step_pure_g mt rfl rfl (pu_fld 1 K.fl56_1 rfl) rfl (fun a mt => ?_)
  refine step_pure_g mt rfl rfl (pu_loadM st K.sc54 rfl rfl) rfl (fun a mt => ?_)
  refine step_pure_g mt rfl rfl ((pu_len_r rfl hl1 K.un54).to (u := .int .i64 2) (by rw [dec_pp.2]; rfl)) rfl (fun a mt => ?_)
  refine step_pure_g mt rfl rfl (pu_neq rfl rfl) rfl (fun a mt => ?_)
  refine step_pure mt (pu_pick rfl rfl) rfl (fun a mt => ?_)
  refine step_pure mt (pu_move rfl) rfl (fun a mt => ?_)
  refine step_pure_g mt rfl rfl (pu_move rfl) rfl (fun a mt => ?_)
  refine step_pure_g mt rfl rfl (pu_neq rfl rfl) rfl (fun a mt => ?_)
  refine step_pure mt (pu_pick rfl rfl) rfl (fun a mt => ?_)
  refine step_pure mt (pu_move rfl) rfl (fun a mt => ?_)
  refine step_pure_g mt rfl rfl (pu_fld 0 K.fl56_0 rfl) rfl (fun a mt => ?_)
  refine step_pure_g mt rfl rfl (pu_loadM st K.sc4 rfl rfl) rfl (fun a mt => ?_)
  refine step_pure mt (pu_pick rfl rfl) rfl (fun a mt => ?_)
  refine step_pure mt (pu_move rfl) rfl (fun a mt => ?_)
  refine step_pure_g mt rfl rfl (pu_fld 2 K.fl56_2 rfl) rfl (fun a mt => ?_)
  refine step_pure_g mt rfl rfl (pu_fld 0 K.fl44_0 rfl) rfl (fun a mt => ?_)
  refine step_pure_g mt rfl rfl (pu_loadM st K.sc41 rfl rfl) rfl (fun a mt => ?_)
  refine step_pure_g mt rfl rfl (pu_len_r rfl rva2 K.un41) rfl (fun a mt => ?_)
  refine step_pure_g mt rfl rfl ((pu_lss rfl rfl).tob (j := false) (decide_eq_false (by have := dec_em.2; omega))) rfl (fun a mt => ?_)
  refine step_pure mt (pu_pick rfl rfl) rfl (fun a mt => ?_)
  refine step_pure mt (pu_move rfl) rfl (fun a mt => ?_)
  refine step_pure_g mt rfl rfl (pu_move rfl) rfl (fun a mt => ?_)
  refine step_pure_g mt rfl rfl (pu_neq rfl rfl) rfl (fun a mt => ?_)
  refine step_pure mt (pu_pick rfl rfl) rfl (fun a mt => ?_)
  refine step_pure mt (pu_move rfl) rfl (fun a mt => ?_)
  refine step_pure_g mt rfl rfl (pu_move rfl) rfl (fun a mt => ?_)
  refine step_pure_g mt rfl rfl (pu_not rfl) rfl (fun a mt => ?_)
  refine step_pure mt (pu_pick rfl rfl) rfl (fun a mt => ?_)
  refine step_pure mt (pu_move rfl) rfl (fun a mt => ?_)
  refine step_pure_g mt rfl rfl (pu_move rfl) rfl (fun a mt => ?_)
  refine step_pure_g mt rfl rfl (pu_neq rfl rfl) rfl (fun a mt => ?_)
  refine step_pure mt (pu_pick rfl rfl) rfl (fun a mt => ?_)
  refine step_pure mt (pu_move rfl) rfl (fun a mt => ?_)
  refine step_pure_g mt rfl rfl (pu_move rfl) rfl (fun a mt => ?_)
  refine step_pure_g mt rfl rfl ((pu_neq_str rfl rfl).tob (j := false) (by decide)) rfl (fun a mt => ?_)
  refine step_pure mt (pu_pick rfl rfl) rfl (fun a mt => ?_)
  refine w_nil ?_
  refine w_false mt rfl ?_
  refine w_skip ?_
  refine x_then_n ?_
  refine w_seq ?_
  refine w_false mt rfl ?_
  refine w_skip ?_
  refine x_then_n ?_
  refine w_rs ?_
  refine step_pure mt (pu_assign rfl) rfl (fun a mt => ?_)
  refine w_nil ?_
  refine w_ret ?_
  refine post_ret1 mt rfl rfl ?_
  exact ⟨_, rfl, st.below, rfl⟩
end Go.Proofs.YtoilfakpgcjjpaaDoor.Log
