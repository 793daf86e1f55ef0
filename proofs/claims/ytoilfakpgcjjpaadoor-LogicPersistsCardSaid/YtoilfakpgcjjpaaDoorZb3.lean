/- Contracts of functions of the program, and what they rest on: no statement of the seat. -/
import Derived.Test.YtoilfakpgcjjpaaDoorZb2
namespace Go.Proofs.YtoilfakpgcjjpaaDoor.Log
open Go Go.RowKit Go.Proofs.YtoilfakpgcjjpaaDoor Go.Proofs.YtoilfakpgcjjpaaDoor.Eng
set_option linter.unusedVariables false
set_option linter.unusedSimpArgs false
set_option maxRecDepth 100000
def del2 (I : Hp) (b c : Nat) : Hp := fun k => bif Nat.beq k b || Nat.beq k c then none else I k
theorem del2_b (I : Hp) (b c : Nat) : del2 I b c b = none := by simp [del2, Nat.beq_refl]
theorem del2_c (I : Hp) (b c : Nat) : del2 I b c c = none := by simp [del2, Nat.beq_refl]
theorem del2_ne {I : Hp} {b c k : Nat} (h1 : k ≠ b) (h2 : k ≠ c) : del2 I b c k = I k := by
  unfold del2
  have e1 : Nat.beq k b = false := by
    cases h : Nat.beq k b with
    | false => rfl
    | true => exact absurd (Nat.eq_of_beq_eq_true h) h1
  have e2 : Nat.beq k c = false := by
    cases h : Nat.beq k c with
    | false => rfl
    | true => exact absurd (Nat.eq_of_beq_eq_true h) h2
  rw [e1, e2]; rfl
theorem del2_sub (I : Hp) (b c : Nat) : Sub (del2 I b c) I := fun k o h => by
  unfold del2 at h
  cases h1 : (Nat.beq k b || Nat.beq k c) with
  | true => rw [h1] at h; cases h
  | false => rw [h1] at h; exact h
theorem del2_none {I : Hp} {b c k : Nat} (h : I k = none) : del2 I b c k = none := by
  unfold del2
  cases (Nat.beq k b || Nat.beq k c) with
  | true => rfl
  | false => exact h
theorem St.gain2 {X : List Nat} {w0 w w' : World} {I0 I : Hp} {M : List Eng.Item} {b1 b2 : Nat} {o1 o2 : Obj} (st : St X w0 I0 w I M) (hb : Below w.heap.size w w') (h1 : w'.heap[b1]? = some o1) (h2 : w'.heap[b2]? = some o2) (n1 : w.heap.size ≤ b1) (n2 : w.heap.size ≤ b2) (hne : b1 ≠ b2) :
    St X w0 I0 w' (del2 (Iext I w w') b1 b2) (.blk b1 o1 :: .blk b2 o2 :: M) :=
  let s := st.extI hb
  { s with
    le0 := fun b h => by rw [del2_ne (by have := st.size; omega) (by have := st.size; omega)]; exact s.le0 b h
    sub0 := fun k o hk => by
      have hlt : k < w.heap.size := hp_some (w := w) (st.agr k o (st.sub0 k o hk))
      rw [del2_ne (by omega) (by omega)]; exact s.sub0 k o hk
    agr := (del2_sub _ _ _).trans s.agr
    sat := all_cons h1 (all_cons h2 s.sat)
    own := all_cons (fun k hk => by simp [Eng.Item.block] at hk; subst hk; exact ⟨del2_b _ _ _, .inl (Nat.le_trans st.size n1)⟩)
      (all_cons (fun k hk => by simp [Eng.Item.block] at hk; subst hk; exact ⟨del2_c _ _ _, .inl (Nat.le_trans st.size n2)⟩) (fun it hi k hk => ⟨del2_none (s.own it hi k hk).1, (s.own it hi k hk).2⟩))
    sep := List.Pairwise.cons (all_cons (fun k hk e => by simp [Eng.Item.block] at hk e; omega) (fun it hi k hk e => by simp [Eng.Item.block] at hk; subst hk; have := Item.lt (st.sat it hi) e; omega))
      (List.Pairwise.cons (fun it hi k hk e => by simp [Eng.Item.block] at hk; subst hk; have := Item.lt (st.sat it hi) e; omega) s.sep) }
/-- a row of bools does not lie in a block that holds a slice -/
theorem bools_del {I : Hp} {v : Value} {n b c : Nat} {F : Nat → Bool} {x y : Value} {T U : TypeId} {f g : Nat × Nat} (r : RdS I v 1 n (boolsV F n)) (hb : I b = some (.cells #[x] T f)) (hc : I c = some (.cells #[y] U g)) (hx : ∀ t, x ≠ .bool t) (hy : ∀ t, y ≠ .bool t) :
    RdS (del2 I b c) v 1 n (boolsV F n) := by
  obtain ⟨a, cc, e, h1, h2, h3, h4⟩ := r
  refine ⟨a, cc, e, h1, h2, h3, fun j u hj => ?_⟩
  obtain ⟨bb, o, ha, hcell⟩ := h4 j u hj
  have hu : ∃ t, u = .bool t := by
    obtain ⟨i, _, hi⟩ := List.mem_map.1 (List.mem_of_getElem? hj); exact ⟨_, hi.symm⟩
  obtain ⟨t, rfl⟩ := hu
  refine ⟨bb, o, ha, ?_⟩
  have aux : ∀ (k : Nat) (z : Value) (T : TypeId) (f : Nat × Nat), I k = some (.cells #[z] T f) → (∀ t, z ≠ .bool t) → bb ≠ k := fun k z T f hk hz e => by
    subst e
    rw [cellI_blk hk] at hcell
    have : o + j = 0 := by
      have := (Array.getElem?_eq_some_iff.1 hcell).1
      simpa using this
    rw [this] at hcell
    simp at hcell
    exact hz t hcell
  have e1 := aux b x T f hb hx
  have e2 := aux c y U g hc hy
  unfold cellI at hcell ⊢
  rw [del2_ne e1 e2]; exact hcell
theorem forced1_ok (n : Nat) (F G : Nat → Bool) (sa sb : Value) (v : Int) (ba bb : Nat) (w : World) (ha : w.heap[ba]? = some (.cells #[sa] 49 (0, 0))) (hb : w.heap[bb]? = some (.cells #[sb] 49 (0, 0))) (ra : RdS (hp w) sa 1 n (boolsV F n)) (rb : RdS (hp w) sb 1 n (boolsV G n)) (h0 : 0 ≤ v) (h1 : v < n) :
    CallsX Tryd.prog 59 #[.int .i64 v, pv ba, pv bb] w fun u _ => u = .bool (F v.toNat && !G v.toNat) := by
  obtain ⟨k, rfl⟩ : ∃ k : Nat, v = k := ⟨v.toNat, by omega⟩
  have hk : k < n := by omega
  have st := St.start (w0 := w) (I0 := hp w) (Sub.refl _)
  refine CallsX.of (nn := 16) Tryd.func59 rfl rfl rfl (fun a mt => ?_)
  refine w_rs ?_
  refine step_pure mt (pu_assign rfl) rfl (fun a mt => ?_)
  refine w_nil ?_
  refine w_rs ?_
  refine step_pure mt (pu_loadI (v := sa) st K.sc49 rfl (by rw [cellI_blk (show hp w ba = some (.cells #[sa] 49 (0, 0)) from ha)]; rfl)) rfl (fun a mt => ?_)
  refine step_pure mt (pu_move rfl) rfl (fun a mt => ?_)
  refine step_pure mt (pu_ia (m := n) (i := k) K.el49 (by decide) rfl ra rfl (by omega) (by omega)) rfl (fun a mt => ?_)
  refine step_pure mt (pu_loadR st K.sc4 ra rfl (boolsV_get hk)) rfl (fun a mt => ?_)
  refine step_pure mt (pu_move rfl) rfl (fun a mt => ?_)
  cases hF : F k with
  | true =>
    rw [hF] at mt
    refine step_pure_g mt rfl rfl (pu_loadI (v := sb) st K.sc49 rfl (by rw [cellI_blk (show hp w bb = some (.cells #[sb] 49 (0, 0)) from hb)]; rfl)) rfl (fun a mt => ?_)
    refine step_pure_g mt rfl rfl (pu_move rfl) rfl (fun a mt => ?_)
    refine step_pure_g mt rfl rfl (pu_ia (m := n) (i := k) K.el49 (by decide) rfl rb rfl (by omega) (by omega)) rfl (fun a mt => ?_)
    refine step_pure_g mt rfl rfl (pu_loadR st K.sc4 rb rfl (boolsV_get hk)) rfl (fun a mt => ?_)
    refine step_pure_g mt rfl rfl (pu_not rfl) rfl (fun a mt => ?_)
    refine step_pure mt (pu_pick rfl rfl) rfl (fun a mt => ?_)
    refine step_pure mt (pu_assign rfl) rfl (fun a mt => ?_)
    refine w_nil ?_
    refine w_ret ?_
    refine post_ret1 mt rfl rfl ?_
    exact ⟨_, rfl, st.below, by simp [hF]⟩
  | false =>
    rw [hF] at mt
    refine step_skip_g mt rfl rfl rfl rfl (fun a mt => ?_)
    refine step_skip_g mt rfl rfl rfl rfl (fun a mt => ?_)
    refine step_skip_g mt rfl rfl rfl rfl (fun a mt => ?_)
    refine step_skip_g mt rfl rfl rfl rfl (fun a mt => ?_)
    refine step_skip_g mt rfl rfl rfl rfl (fun a mt => ?_)
    refine step_pure mt (pu_pick rfl rfl) rfl (fun a mt => ?_)
    refine step_pure mt (pu_assign rfl) rfl (fun a mt => ?_)
    refine w_nil ?_
    refine w_ret ?_
    refine post_ret1 mt rfl rfl ?_
    exact ⟨_, rfl, st.below, by simp [hF]⟩
theorem getD_some {α : Type} {l : List α} {k : Nat} {x d : α} (h : l[k]? = some x) : l.getD k d = x := by simp [h]
theorem forced_implies (x y : Fm) (hx : FcC x) (hy : FcC y) : FcC (.imp x y) := by
  intro I ab mk mv w hI hm hf
  obtain ⟨va, vm, rows, rfl, rva, rrow, rvm⟩ := hm
  obtain ⟨hf1, hf2, hf3, hf4⟩ := hf
  obtain ⟨aad, acc0, rfl, _⟩ := rva.len
  obtain ⟨mad, mcc, rfl, _⟩ := rvm.len
  have st := St.start (w0 := w) (I0 := I) hI
  refine CallsX.of (nn := 137) Tryd.func42 rfl rfl rfl (fun a mt => ?_)
  refine w_rs ?_
  refine step_alloc mt st (al_box rfl rfl) rfl (fun a w' b2 mt st => ?_)
  refine step_pure mt (pu_assign rfl) rfl (fun a mt => ?_)
  refine w_nil ?_
  refine w_rs ?_
  refine step_pure mt (pu_fld 0 K.fl44_0 rfl) rfl (fun a mt => ?_)
  refine step_pure mt (pu_loadM st K.sc41 rfl rfl) rfl (fun a mt => ?_)
  refine step_pure mt (pu_len rfl K.un41) rfl (fun a mt => ?_)
  refine step_alloc mt st (al_make (ls := ab.length) (cs := ab.length) K.el49 rfl rfl rfl rfl (Nat.le_refl _) (by omega) (by omega)) rfl (fun a w' b25 mt st => ?_)
  rw [show madeCells (Value.bool false).cells (ab.length * 1) = (boolsTo (fun _ => false) ab.length 0).toArray from made_bools _] at st
  refine step_pure mt (pu_assign rfl) rfl (fun a mt => ?_)
  refine w_nil ?_
  refine w_seq ?_
  refine w_rs ?_
  refine step_pure mt (pu_move rfl) rfl (fun a mt => ?_)
  refine w_nil ?_
  refine w_block ?_
  refine w_rs ?_
  refine step_pure mt (pu_assert_no K.cc109 rfl rfl K.ze109) rfl (fun a mt => ?_)
  refine step_pure mt (pu_extract rfl rfl) rfl (fun a mt => ?_)
  refine step_pure mt (pu_extract rfl rfl) rfl (fun a mt => ?_)
  refine w_nil ?_
  refine w_false mt rfl ?_
  refine w_rs ?_
  refine step_pure mt (pu_assert_no K.cc110 rfl rfl K.ze110) rfl (fun a mt => ?_)
  refine step_pure mt (pu_extract rfl rfl) rfl (fun a mt => ?_)
  refine step_pure mt (pu_extract rfl rfl) rfl (fun a mt => ?_)
  refine w_nil ?_
  refine w_false mt rfl ?_
  refine w_rs ?_
  refine step_pure mt (pu_assert_no K.cc111 rfl rfl K.ze111) rfl (fun a mt => ?_)
  refine step_pure mt (pu_extract rfl rfl) rfl (fun a mt => ?_)
  refine step_pure mt (pu_extract rfl rfl) rfl (fun a mt => ?_)
  refine w_nil ?_
  refine w_false mt rfl ?_
  refine w_rs ?_
  refine step_pure mt (pu_assert_yes K.cc73 rfl) rfl (fun a mt => ?_)
  refine step_pure mt (pu_extract rfl rfl) rfl (fun a mt => ?_)
  refine step_pure mt (pu_extract rfl rfl) rfl (fun a mt => ?_)
  refine w_nil ?_
  refine w_true mt rfl ?_
  refine w_rs ?_
  refine step_alloc mt st (al_alloc K.ze73 rfl) rfl (fun a w' b17 mt st => ?_)
  refine s_storeA mt st K.sz73 rfl rfl rfl (by first | (simp [enc_one]; done) | (simp [Value.oneCell']; done)) rfl rfl (fun w' st => ?_)
  refine w_nil ?_
  refine w_drsD 10 K.mixed rfl rfl mt ?_
  refine mo_pure (pu_loadMA st K.ag44 rfl rfl) ?_
  refine mo_pure (pu_fld 0 K.fl73_0 rfl) ?_
  refine mo_pure (pu_loadM st K.sc66 rfl rfl) ?_
  refine mo_forced (mv := .agg #[.slice aad ab.length acc0, .slice mad mk.length mcc]) hx st.agr ⟨_, _, rows, rfl, rva.mono st.sub0, fun i l r a b => (rrow i l r a b).mono st.sub0, rvm.mono st.sub0⟩ ⟨hf1, hf2, hf3, hf4⟩ rfl ?_
  refine mo_pure (pu_loadMA st K.ag44 rfl rfl) ?_
  refine mo_pure (pu_fld 1 K.fl73_1 rfl) ?_
  refine mo_pure (pu_loadM st K.sc66 rfl rfl) ?_
  refine mo_forced (mv := .agg #[.slice aad ab.length acc0, .slice mad mk.length mcc]) hy st.agr ⟨_, _, rows, rfl, rva.mono st.sub0, fun i l r a b => (rrow i l r a b).mono st.sub0, rvm.mono st.sub0⟩ ⟨hf1, hf2, hf3, hf4⟩ rfl ?_
  refine mo_alloc (al_alloc K.ze49 rfl) ?_
  refine mo_alloc (al_alloc K.ze49 rfl) ?_
  refine mo_endD (fun a w2 mt pr hb hd => ?_)
  obtain ⟨b19, e19, n19, h19⟩ := pr.1
  obtain ⟨b18, e18, n18, h18⟩ := pr.2.1
  have hpb := pr.2.2.1
  have hpa := pr.2.2.2.1
  have hne : b18 ≠ b19 := fun e => hd 8 9 _ _ (by decide) (by decide) (by decide) rfl rfl rfl rfl (by
    show a.tmps.getD 18 undef = a.tmps.getD 19 undef
    rw [e18, e19, e])
  generalize hva : a.tmps.getD 115 undef = fa at hpa
  generalize hvb : a.tmps.getD 119 undef = fb at hpb
  replace mt := (((mt.learn (d := 115) hva).learn (d := 119) hvb).learn (d := 18) e18).learn (d := 19) e19
  unfold FcX at hpa hpb
  have hge := st.size
  have hpa' : RdS (del2 (Iext I _ w2) b18 b19) fa 1 ab.length (boolsV (fc ab mk x) ab.length) := bools_del hpa (by unfold Iext; rw [if_neg (by omega)]; exact h18) (by unfold Iext; rw [if_neg (by omega)]; exact h19) (by simp) (by simp)
  have hpb' : RdS (del2 (Iext I _ w2) b18 b19) fb 1 ab.length (boolsV (fc ab mk y) ab.length) := bools_del hpb (by unfold Iext; rw [if_neg (by omega)]; exact h18) (by unfold Iext; rw [if_neg (by omega)]; exact h19) (by simp) (by simp)
  have st := St.gain2 st hb h18 h19 n18 n19 hne
  generalize hE : del2 (Iext I _ w2) b18 b19 = I1 at st hpa' hpb'
  refine s_storeL (b := b18) mt st K.sz49 rfl rfl (RdS.one hpa') rfl rfl (fun w' st => ?_)
  refine s_storeL (b := b19) mt st K.sz49 rfl rfl (RdS.one hpb') rfl rfl (fun w' st => ?_)
  refine w_nil ?_
  refine w_rs ?_
  refine step_pure mt (pu_fld 0 K.fl44_0 rfl) rfl (fun a mt => ?_)
  refine step_pure mt (pu_loadM st K.sc41 rfl rfl) rfl (fun a mt => ?_)
  refine step_pure mt (pu_len rfl K.un41) rfl (fun a mt => ?_)
  refine step_pure mt (pu_move rfl) rfl (fun a mt => ?_)
  refine w_nil ?_
  refine w_block ?_
  have st0 := st.pick (Pick.there _ (Pick.there _ (Pick.there _ (Pick.here _ _))))
  rw [boolsTo_zero (fun _ => false) (fc ab mk (.imp x y))] at st0
  refine w_loop (ι := Nat) (fun k a w' => k ≤ ab.length ∧ ∃ M, Mt 137 a [(5, .slice (some ⟨b25, 0, none⟩) ab.length ab.length), (18, pv b18), (19, pv b19), (121, .slice aad ab.length acc0), (122, .int .i64 ab.length), (123, .int .i64 k)] ∧ St [] w I w' I1 (.blk b25 (.cells (boolsTo (fc ab mk (.imp x y)) ab.length k).toArray 4 (0, 0)) :: .blk b19 (.cells #[fb] 49 (0, 0)) :: .blk b18 (.cells #[fa] 49 (0, 0)) :: M)) (fun k => ab.length - k) 0
    ⟨Nat.zero_le _, _, mt.sub ⟨rfl, rfl, rfl, rfl, rfl, rfl, trivial⟩, st0⟩ (fun k a w' hI' => ?_)
  obtain ⟨hk, M, mt, st⟩ := hI'
  refine w_rs ?_
  refine step_pure mt (pu_lss rfl rfl) rfl (fun a mt => ?_)
  refine w_nil ?_
  refine w_seq ?_
  refine w_cond mt rfl (fun h => ?_) (fun h => ?_)
  · have hkl : k < ab.length := by omega
    have hlen0 := rva.len.choose_spec.choose_spec.2.2.2
    obtain ⟨r, hr⟩ : ∃ r, rows[k]? = some r := ⟨rows[k]'(by omega), List.getElem?_eq_getElem _⟩
    have hl : ab[k]? = some ab[k] := List.getElem?_eq_getElem hkl
    generalize hle : ab[k] = l at hl
    have hrr := (rrow k l r hl hr).mono st.sub0
    obtain ⟨hl1, hl2⟩ := hf4 l (List.mem_of_getElem? hl)
    refine w_skip ?_
    refine x_then_n ?_
    refine w_seq ?_
    refine w_block ?_
    refine w_rs ?_
    refine step_pure mt (pu_move rfl) rfl (fun a mt => ?_)
    refine step_pure mt (pu_ia (m := ab.length) (i := k) K.el41 (by decide) rfl rva rfl (by omega) (by omega)) rfl (fun a mt => ?_)
    refine step_pure mt (pu_loadR st K.sc42 (rva.mono st.sub0) rfl (by simpa using hr)) rfl (fun a mt => ?_)
    refine step_pure mt (pu_assign rfl) rfl (fun a mt => ?_)
    refine step_pure mt (pu_assign rfl) rfl (fun a mt => ?_)
    refine w_nil ?_
    refine w_region ?_
    refine step_pure mt (pu_move rfl) rfl (fun a mt => ?_)
    refine step_pure mt (pu_move rfl) rfl (fun a mt => ?_)
    refine step_pure mt (pu_move rfl) rfl (fun a mt => ?_)
    refine step_pure mt (pu_makeFunc (vs := []) (us := [pv b18, pv b19]) rfl rfl) rfl (fun a mt => ?_)
    refine s_callv mt st K.cb57 (vs := [r, .func (.func 59) #[] #[pv b18, pv b19]]) rfl
      (containsFunc_int intV (fun _ => rfl) l r _ (st.rdS hrr) 59 [pv b18, pv b19] (fun v => fc ab mk x v.toNat && !fc ab mk y v.toNat) K.cb59 (fun v hv w3 hb3 =>
        forced1_ok ab.length (fc ab mk x) (fc ab mk y) fa fb v b18 b19 w3 ((hb3.block b18 (Item.lt (st.sat _ (.tail _ (.tail _ (.head _)))) rfl)).trans (st.sat _ (.tail _ (.tail _ (.head _))))) ((hb3.block b19 (Item.lt (st.sat _ (.tail _ (.head _))) rfl)).trans (st.sat _ (.tail _ (.head _)))) ((st.rdS hpa').later hb3) ((st.rdS hpb').later hb3) (hl2 v hv).1 (hl2 v hv).2)) rfl (fun a w' mt st => ?_)
    refine step_pure mt (pu_not rfl) rfl (fun a mt => ?_)
    refine step_pure mt (pu_iac K.el49 rfl rfl (by omega) (by omega)) rfl (fun a mt => ?_)
    refine s_store (b := b25) (v := .bool ((fc ab mk (.imp x y)) k)) mt st K.sz4 rfl (by simp only [fc, getD_some hl]; rfl) rfl (by simp [boolsTo_len]; omega) (fun w' st => ?_)
    refine w_nil' ?_
    refine x_block_n ?_
    refine x_then_n ?_
    refine w_region ?_
    refine step_pure mt (pu_add_i rfl rfl (by omega)) rfl (fun a mt => ?_)
    refine step_pure mt (pu_move rfl) rfl (fun a mt => ?_)
    refine w_nil' ?_
    refine x_then_n ?_
    have e : (boolsTo (fc ab mk (.imp x y)) ab.length k).toArray.setIfInBounds (0 + ((k : Nat) : Int).toNat * 1) (.bool ((fc ab mk (.imp x y)) k)) = (boolsTo (fc ab mk (.imp x y)) ab.length (k + 1)).toArray := by
      rw [← boolsTo_set]; apply Array.ext'; simp
    rw [e] at st
    exact ⟨k + 1, ⟨by omega, _, mt.sub ⟨rfl, rfl, rfl, rfl, rfl, rfl, trivial⟩, st⟩, by omega⟩
  · refine w_exit (x_then_exit (x_then_exit (x_block_out ?_)))
    refine x_block_n ?_
    refine x_then_n ?_
    refine w_rs ?_
    refine step_pure mt (pu_move rfl) rfl (fun a mt => ?_)
    refine step_pure mt (pu_assign rfl) rfl (fun a mt => ?_)
    refine w_nil ?_
    refine w_ret ?_
    refine post_ret1 mt rfl rfl ?_
    have hke : k = ab.length := by omega
    subst hke
    exact ⟨_, rfl, st.below, out_row st (Pick.here _ _) hf2⟩
theorem forced_ok : ∀ x : Fm, ats x → FcC x
  | .fls, _ => forced_falsity
  | .atm c, h => forced_atom c h
  | .and a b, h => forced_and a b (forced_ok a h.1) (forced_ok b h.2)
  | .or a b, h => forced_or a b (forced_ok a h.1) (forced_ok b h.2)
  | .imp a b, h => forced_implies a b (forced_ok a h.1) (forced_ok b h.2)
end Go.Proofs.YtoilfakpgcjjpaaDoor.Log
namespace Go.Proofs.YtoilfakpgcjjpaaDoor.Log
open Go Go.RowKit Go.Proofs.YtoilfakpgcjjpaaDoor Go.Proofs.YtoilfakpgcjjpaaDoor.Eng
set_option linter.unusedVariables false
set_option linter.unusedSimpArgs false
set_option maxRecDepth 100000
/-- what the parser reads -/
theorem rdF_good : ∀ (f : Nat) (s : List UInt8) (k : Nat) (x : Fm) (s' : List UInt8) (k' : Nat), rdF f s k = some (x, s', k') → ats x ∧ k' = k + parts x ∧ (k ≤ 12 → k' ≤ 12) := by
  intro f
  induction f with
  | zero => intro s k x s' k' h; simp [rdF] at h
  | succ f ih =>
    intro s k x s' k' h
    unfold rdF at h
    split at h
    · cases h
    · rename_i c s0
      split at h
      · split at h
        · cases h
        · split at h
          · cases h; exact ⟨trivial, rfl, fun _ => by omega⟩
          · split at h
            · rename_i hc; cases h; exact ⟨hc, rfl, fun _ => by omega⟩
            · cases h
      · cases h1 : rdF f s0 k with
        | none => rw [h1] at h; cases h
        | some r1 =>
          obtain ⟨a, s1, k1⟩ := r1
          rw [h1] at h
          obtain ⟨p1, p2, p3⟩ := ih _ _ _ _ _ h1
          simp only at h
          split at h
          · cases h
          · rename_i g s2
            split at h
            · cases h
            · cases h2 : rdF f s2 (k1 + 1) with
              | none => rw [h2] at h; cases h
              | some r2 =>
                obtain ⟨b, s3, k3⟩ := r2
                rw [h2] at h
                obtain ⟨q1, q2, q3⟩ := ih _ _ _ _ _ h2
                simp only at h
                repeat' split at h
                all_goals first | (cases h; done) | skip
                all_goals (cases h; exact ⟨⟨p1, q1⟩, by simp only [parts]; omega, fun hk => by omega⟩)
theorem fmOf_good {s : List UInt8} {x : Fm} (h : fmOf s = some x) : ats x ∧ parts x ≤ 12 := by
  unfold fmOf at h
  split at h
  · rename_i y k' e
    cases h
    obtain ⟨h1, h2, h3⟩ := rdF_good _ _ _ _ _ _ e
    exact ⟨h1, by have := h3 (by omega); omega⟩
  · cases h
def clF (x : Fm) : Bool := (List.range 16).all fun m => fc [[0]] [(m : Int)] x 0
theorem all_drop {p : Nat → Bool} {n k : Nat} (h : k < n) : ((List.range n).drop k).all p = (p k && ((List.range n).drop (k + 1)).all p) := by
  rw [range_drop h, List.all_cons]
theorem classical_ok (x : Fm) (hx : ats x) (w : World) : CallsX Tryd.prog 37 #[enc x] w fun v _ => v = .bool (clF x) := by
  have st := St.start (w0 := w) (I0 := hp w) (Sub.refl _)
  refine CallsX.of (nn := 18) Tryd.func37 rfl rfl rfl (fun a mt => ?_)
  refine w_rs ?_
  refine step_pure mt (pu_assign rfl) rfl (fun a mt => ?_)
  refine w_nil ?_
  refine w_seq ?_
  refine w_rs ?_
  refine step_pure mt (pu_move rfl) rfl (fun a mt => ?_)
  refine w_nil ?_
  refine w_block ?_
  refine w_loop (ι := Nat) (fun k a w' => k ≤ 16 ∧ ∃ I', Mt 18 a [(0, enc x), (4, .int .i64 k)] ∧ St [] w (hp w) w' I' [] ∧ clF x = ((List.range 16).drop k).all fun m => fc [[0]] [(m : Int)] x 0) (fun k => 16 - k) 0
    ⟨by omega, _, mt.sub ⟨rfl, rfl, trivial⟩, st, rfl⟩ (fun k a w' hI' => ?_)
  obtain ⟨hk, I', mt, st, hcl⟩ := hI'
  refine w_rs ?_
  refine step_pure mt (pu_lss rfl rfl) rfl (fun a mt => ?_)
  refine w_nil ?_
  refine w_seq ?_
  refine w_cond mt rfl (fun h => ?_) (fun h => ?_)
  · have hk16 : k < 16 := by omega
    rw [all_drop hk16] at hcl
    refine w_skip ?_
    refine x_then_n ?_
    refine w_seq ?_
    refine w_block ?_
    refine w_rs ?_
    refine step_pure mt (pu_move rfl) rfl (fun a mt => ?_)
    refine step_pure mt (pu_assign rfl) rfl (fun a mt => ?_)
    refine w_nil ?_
    refine w_rs ?_
    refine s_litR (vs := [.int .i64 0]) mt st K.el42 rfl (by decide) rfl rfl (by decide) (by decide) (by simp [Value.cells]) rfl (fun a w' I7 v7 mt st hs7 hr7 => ?_)
    have hr7 : RdS I7 v7 1 1 [.int .i64 0] := hr7
    have h7 := RdS.one hr7
    refine s_litR (vs := [v7]) mt st K.el41 rfl (by decide) rfl rfl (by decide) (by decide) (by simp [one_cells h7]) rfl (fun a w' I8 v8 mt st hs8 hr8 => ?_)
    have hr8 : RdS I8 v8 1 1 [v7] := by simpa [one_cells h7] using hr8
    refine step_pure mt (pu_move rfl) rfl (fun a mt => ?_)
    refine s_litR (vs := [.int .i64 k]) mt st K.el42 rfl (by decide) rfl rfl (by decide) (by decide) (by simp [Value.cells]) rfl (fun a w' I10 v10 mt st hs10 hr10 => ?_)
    have hr10 : RdS I10 v10 1 1 [.int .i64 k] := hr10
    have h8 := RdS.one hr8
    have h10 := RdS.one hr10
    refine step_pure mt ((pu_build K.pl44 K.ze44 rfl (by simp [Instr.fill, one_cells h8, one_cells h10])).to (u := .agg #[v8, v10]) rfl) rfl (fun a mt => ?_)
    refine step_pure mt (pu_move rfl) rfl (fun a mt => ?_)
    have hmod : ModV I10 [[0]] [(k : Int)] (.agg #[v8, v10]) := ⟨v8, v10, [v7], rfl, hr8.mono hs10, fun i l r g1 g2 => by
      cases i with
      | zero => cases (show some [(0 : Int)] = some l from g1); cases (show some v7 = some r from g2); exact hr7.mono (hs8.trans hs10)
      | succ i => simp at g1, hr10⟩
    refine s_call mt st K.cb42 (vs := [.agg #[v8, v10], enc x]) rfl (forced_ok x hx I10 [[0]] [(k : Int)] _ _ st.agr hmod ⟨rfl, by decide, by simp; omega, by simp⟩) rfl (fun a w' v13 mt st hI13 hv13 => ?_)
    have hv13 : RdS _ v13 1 1 [.bool (fc [[0]] [(k : Int)] x 0)] := hv13
    refine step_pure mt (pu_ia (m := 1) (i := 0) K.el49 (by decide) rfl hv13 rfl (by omega) (by omega)) rfl (fun a mt => ?_)
    refine step_pure mt (pu_loadR (i := 0) st K.sc4 hv13 rfl rfl) rfl (fun a mt => ?_)
    refine step_pure mt (pu_not rfl) rfl (fun a mt => ?_)
    refine w_nil ?_
    refine w_cond_b mt rfl (fun h => ?_) (fun h => ?_)
    · have h' : fc [[0]] [(k : Int)] x 0 = false := by simpa using h
      refine w_rs ?_
      refine step_pure mt (pu_assign rfl) rfl (fun a mt => ?_)
      refine w_nil ?_
      refine w_ret (x_block_ret (x_then_ret (x_then_ret (x_block_ret (x_then_ret ?_)))))
      refine post_ret1 mt rfl rfl ?_
      exact ⟨_, rfl, st.below, by rw [hcl, h']; rfl⟩
    · have h' : fc [[0]] [(k : Int)] x 0 = true := by simpa using h
      refine w_skip ?_
      refine x_block_n ?_
      refine x_then_n ?_
      refine w_region ?_
      refine step_pure mt (pu_add_i rfl rfl (by omega)) rfl (fun a mt => ?_)
      refine step_pure mt (pu_move rfl) rfl (fun a mt => ?_)
      refine w_nil' ?_
      refine x_then_n ?_
      exact ⟨k + 1, ⟨by omega, _, mt.sub ⟨rfl, rfl, trivial⟩, st, by rw [hcl, h']; rfl⟩, by omega⟩
  · refine w_exit (x_then_exit (x_then_exit (x_block_out ?_)))
    refine x_then_n ?_
    refine w_rs ?_
    refine step_pure mt (pu_assign rfl) rfl (fun a mt => ?_)
    refine w_nil ?_
    refine w_ret ?_
    refine post_ret1 mt rfl rfl ?_
    have e : (List.range 16).drop k = [] := List.drop_eq_nil_of_le (by simp; omega)
    exact ⟨_, rfl, st.below, by rw [hcl, e]; rfl⟩
theorem Classical_ok (s : List UInt8) (w : World) : CallsX Tryd.prog 15 #[.string (str s)] w fun v _ => v = match fmOf s with
    | some x => .tuple #[.bool (clF x), .int .i64 0]
    | none => .tuple #[.bool false, .int .i64 4] := by
  have st := St.start (w0 := w) (I0 := hp w) (Sub.refl _)
  refine CallsX.of (nn := 16) Tryd.func15 rfl rfl rfl (fun a mt => ?_)
  refine w_rs ?_
  refine step_pure mt (pu_assign rfl) rfl (fun a mt => ?_)
  refine step_pure mt (pu_assign rfl) rfl (fun a mt => ?_)
  refine w_nil ?_
  refine w_rs ?_
  refine step_pure mt (pu_move rfl) rfl (fun a mt => ?_)
  refine s_call mt st K.cb36 (vs := [.string (str s)]) rfl (parse_ok s _) rfl (fun a w v8 mt st hI8 hv8 => ?_)
  cases hx : fmOf s with
  | none =>
    rw [hx] at hv8
    obtain ⟨u, rfl⟩ := hv8
    refine step_pure mt (pu_move rfl) rfl (fun a mt => ?_)
    refine step_pure mt (pu_extract rfl rfl) rfl (fun a mt => ?_)
    refine step_pure mt (pu_extract rfl rfl) rfl (fun a mt => ?_)
    refine step_pure mt (pu_assign rfl) rfl (fun a mt => ?_)
    refine step_pure mt (pu_assign rfl) rfl (fun a mt => ?_)
    refine w_nil ?_
    refine w_seq ?_
    refine w_rs ?_
    refine step_pure mt (pu_move rfl) rfl (fun a mt => ?_)
    refine step_pure mt (pu_neq rfl rfl) rfl (fun a mt => ?_)
    refine w_nil ?_
    refine w_true mt rfl ?_
    refine w_rs ?_
    refine step_pure mt (pu_move rfl) rfl (fun a mt => ?_)
    refine step_pure mt (pu_assign rfl) rfl (fun a mt => ?_)
    refine step_pure mt (pu_assign rfl) rfl (fun a mt => ?_)
    refine w_nil ?_
    refine w_ret (x_then_ret ?_)
    refine post_ret2 mt rfl rfl rfl ?_
    exact ⟨_, rfl, st.below, rfl⟩
  | some x =>
    rw [hx] at hv8
    subst hv8
    refine step_pure mt (pu_move rfl) rfl (fun a mt => ?_)
    refine step_pure mt (pu_extract rfl rfl) rfl (fun a mt => ?_)
    refine step_pure mt (pu_extract rfl rfl) rfl (fun a mt => ?_)
    refine step_pure mt (pu_assign rfl) rfl (fun a mt => ?_)
    refine step_pure mt (pu_assign rfl) rfl (fun a mt => ?_)
    refine w_nil ?_
    refine w_seq ?_
    refine w_rs ?_
    refine step_pure mt (pu_move rfl) rfl (fun a mt => ?_)
    refine step_pure mt (pu_neq rfl rfl) rfl (fun a mt => ?_)
    refine w_nil ?_
    refine w_false mt rfl ?_
    refine w_skip ?_
    refine x_then_n ?_
    refine w_rs ?_
    refine step_pure mt (pu_move rfl) rfl (fun a mt => ?_)
    refine s_callv mt st K.cb37 (vs := [enc x]) rfl (classical_ok x (fmOf_good hx).1 _) rfl (fun a w mt st => ?_)
    refine step_pure mt (pu_assign rfl) rfl (fun a mt => ?_)
    refine step_pure mt (pu_assign rfl) rfl (fun a mt => ?_)
    refine w_nil ?_
    refine w_ret ?_
    refine post_ret2 mt rfl rfl rfl ?_
    exact ⟨_, rfl, st.below, rfl⟩
theorem ats_wf : ∀ x : Fm, ats x → wf x
  | .fls, _ => trivial
  | .atm c, h => by have := h.2; show c < 256; omega
  | .and a b, h => ⟨ats_wf a h.1, ats_wf b h.2⟩
  | .or a b, h => ⟨ats_wf a h.1, ats_wf b h.2⟩
  | .imp a b, h => ⟨ats_wf a h.1, ats_wf b h.2⟩
theorem shw_len : ∀ x : Fm, (shw x).length ≤ 3 * parts x
  | .fls => by simp [shw, parts]
  | .atm c => by simp [shw, parts]
  | .and a b => by have := shw_len a; have := shw_len b; simp [shw, parts]; omega
  | .or a b => by have := shw_len a; have := shw_len b; simp [shw, parts]; omega
  | .imp a b => by have := shw_len a; have := shw_len b; simp [shw, parts]; omega
theorem Negate_ok (s : List UInt8) (w : World) : CallsX Tryd.prog 16 #[.string (str s)] w fun v _ => v = match fmOf s with
    | some x => if 12 < parts x + 2 then .tuple #[.string (str []), .int .i64 2] else .tuple #[.string (str (shw (.imp x .fls))), .int .i64 0]
    | none => .tuple #[.string (str []), .int .i64 4] := by
  have st := St.start (w0 := w) (I0 := hp w) (Sub.refl _)
  refine CallsX.of (nn := 25) Tryd.func16 rfl rfl rfl (fun a mt => ?_)
  refine w_rs ?_
  refine step_pure mt (pu_assign rfl) rfl (fun a mt => ?_)
  refine step_pure mt (pu_assign rfl) rfl (fun a mt => ?_)
  refine w_nil ?_
  refine w_rs ?_
  refine step_pure mt (pu_move rfl) rfl (fun a mt => ?_)
  refine s_call mt st K.cb36 (vs := [.string (str s)]) rfl (parse_ok s _) rfl (fun a w v8 mt st hI8 hv8 => ?_)
  cases hx : fmOf s with
  | none =>
    rw [hx] at hv8
    obtain ⟨u, rfl⟩ := hv8
    refine step_pure mt (pu_move rfl) rfl (fun a mt => ?_)
    refine step_pure mt (pu_extract rfl rfl) rfl (fun a mt => ?_)
    refine step_pure mt (pu_extract rfl rfl) rfl (fun a mt => ?_)
    refine step_pure mt (pu_assign rfl) rfl (fun a mt => ?_)
    refine step_pure mt (pu_assign rfl) rfl (fun a mt => ?_)
    refine w_nil ?_
    refine w_seq ?_
    refine w_rs ?_
    refine step_pure mt (pu_move rfl) rfl (fun a mt => ?_)
    refine step_pure mt (pu_neq rfl rfl) rfl (fun a mt => ?_)
    refine w_nil ?_
    refine w_true mt rfl ?_
    refine w_rs ?_
    refine step_pure mt (pu_move rfl) rfl (fun a mt => ?_)
    refine step_pure mt (pu_assign rfl) rfl (fun a mt => ?_)
    refine step_pure mt (pu_assign rfl) rfl (fun a mt => ?_)
    refine w_nil ?_
    refine w_ret (x_then_ret ?_)
    refine post_ret2 mt rfl rfl rfl ?_
    exact ⟨_, rfl, st.below, rfl⟩
  | some x =>
    rw [hx] at hv8
    subst hv8
    obtain ⟨hats, hparts⟩ := fmOf_good hx
    refine step_pure mt (pu_move rfl) rfl (fun a mt => ?_)
    refine step_pure mt (pu_extract rfl rfl) rfl (fun a mt => ?_)
    refine step_pure mt (pu_extract rfl rfl) rfl (fun a mt => ?_)
    refine step_pure mt (pu_assign rfl) rfl (fun a mt => ?_)
    refine step_pure mt (pu_assign rfl) rfl (fun a mt => ?_)
    refine w_nil ?_
    refine w_seq ?_
    refine w_rs ?_
    refine step_pure mt (pu_move rfl) rfl (fun a mt => ?_)
    refine step_pure mt (pu_neq rfl rfl) rfl (fun a mt => ?_)
    refine w_nil ?_
    refine w_false mt rfl ?_
    refine w_skip ?_
    refine x_then_n ?_
    refine w_rs ?_
    refine step_pure mt (pu_move rfl) rfl (fun a mt => ?_)
    refine step_pure mt (pu_build K.pl71 K.ze71 rfl rfl) rfl (fun a mt => ?_)
    refine step_pure mt ((pu_makeInterface K.co71 rfl).to (u := enc .fls) rfl) rfl (fun a mt => ?_)
    refine step_pure mt ((pu_build K.pl73 K.ze73 rfl (by simp [Instr.fill, one_cells (enc_one _)])).to (u := .agg #[enc x, enc .fls]) rfl) rfl (fun a mt => ?_)
    refine step_alloc mt st (al_alloc K.ze73 rfl) rfl (fun a w b6 mt st => ?_)
    refine s_storeA mt st K.sz73 rfl rfl rfl (by simp [enc_one]) rfl rfl (fun w st => ?_)
    refine w_nil ?_
    refine w_seq ?_
    refine w_rs ?_
    refine step_pure mt (pu_loadMA st K.ag73 rfl rfl) rfl (fun a mt => ?_)
    refine step_pure mt ((pu_makeInterface K.co73 rfl).to (u := enc (.imp x .fls)) rfl) rfl (fun a mt => ?_)
    refine s_callv mt st K.cb38 (vs := [enc (.imp x .fls)]) rfl (size_ok (.imp x .fls) _ (by simp only [parts]; omega)) rfl (fun a w mt st => ?_)
    refine step_pure mt (pu_gtr rfl rfl) rfl (fun a mt => ?_)
    refine w_nil ?_
    refine w_cond mt rfl (fun h => ?_) (fun h => ?_)
    · refine w_rs ?_
      refine step_pure mt (pu_assign rfl) rfl (fun a mt => ?_)
      refine step_pure mt (pu_assign rfl) rfl (fun a mt => ?_)
      refine w_nil ?_
      refine w_ret (x_then_ret ?_)
      refine post_ret2 mt rfl rfl rfl ?_
      exact ⟨_, rfl, st.below, by show _ = (if 12 < parts x + 2 then _ else _); rw [if_pos (by simp only [parts] at h; omega)]; rfl⟩
    · refine w_skip ?_
      refine x_then_n ?_
      refine w_rs ?_
      refine step_pure mt (pu_loadMA st K.ag73 rfl rfl) rfl (fun a mt => ?_)
      refine s_callv mt st K.cb39 (vs := [.agg #[enc x, enc .fls]]) rfl (text_ok (.imp x .fls) _ ⟨ats_wf x hats, trivial⟩ (by have := shw_len (.imp x .fls); simp only [parts] at this; omega)) rfl (fun a w mt st => ?_)
      refine step_pure mt (pu_assign rfl) rfl (fun a mt => ?_)
      refine step_pure mt (pu_assign rfl) rfl (fun a mt => ?_)
      refine w_nil ?_
      refine w_ret ?_
      refine post_ret2 mt rfl rfl rfl ?_
      exact ⟨_, rfl, st.below, by show _ = (if 12 < parts x + 2 then _ else _); rw [if_neg (by simp only [parts] at h; omega)]⟩
end Go.Proofs.YtoilfakpgcjjpaaDoor.Log
namespace Go.Proofs.YtoilfakpgcjjpaaDoor.Eng
open Go Go.RowKit
set_option linter.unusedVariables false
set_option linter.unusedSimpArgs false
/-- every old block but b and the row's is as it was -/
structure Keep2 (b : Nat) (o : Option Nat) (w w' : World) : Prop where
  os : w'.os = w.os
  tape : w'.tape = w.tape
  output : w'.output = w.output
  size : w.heap.size ≤ w'.heap.size
  block : ∀ k, k < w.heap.size → k ≠ b → some k ≠ o → w'.heap[k]? = w.heap[k]?
def rowX (b : Nat) (v : Value) : List Nat := b :: (match v.ownBlock with | some k => [k] | none => [])
theorem mem_rowX {b k : Nat} {v : Value} : k ∈ rowX b v ↔ k = b ∨ v.ownBlock = some k := by
  unfold rowX
  cases v.ownBlock with
  | none => simp
  | some j => simp; constructor <;> (intro h; rcases h with h | h <;> simp [h])
section
variable {X : List Nat} {w0 w w' : World} {I0 I : Hp} {M : List Item} {b n : Nat} {v v' : Value} {e T : TypeId} {sz m : Nat} {xs ys : List Value} {cs cs' : Array Value}
theorem St.start2 (hI : Sub I0 (hp w)) (hb : w.heap[b]? = some (.cells cs T (0, 0))) (hr : w.ownsRow 0 e sz v n xs) (hne : v.ownBlock ≠ some b) (h1 : I0 b = none) (h2 : ∀ k, v.ownBlock = some k → I0 k = none) :
    St (rowX b v) w I0 w I0 [.blk b (.cells cs T (0, 0)), .row v e sz n xs] where
  os := rfl
  tape := rfl
  output := rfl
  size := Nat.le_refl _
  old := fun _ _ _ => rfl
  le0 := fun _ _ => rfl
  sub0 := Sub.refl _
  agr := hI
  sat := all_cons hb (all_cons hr (fun _ h => by cases h))
  own := all_cons (fun k hk => by simp [Item.block] at hk; subst hk; exact ⟨h1, .inr (mem_rowX.2 (.inl rfl))⟩) (all_cons (fun k hk => ⟨h2 k hk, .inr (mem_rowX.2 (.inr hk))⟩) (fun _ h => by cases h))
  sep := List.Pairwise.cons (all_cons (fun k hk he => by simp [Item.block] at hk; subst hk; exact hne he) (fun _ h => by cases h)) (List.Pairwise.cons (fun _ h => by cases h) List.Pairwise.nil)
/-- a call turned both -/
theorem St.turn2 (st : St X w0 I0 w I (.blk b (.cells cs T (0, 0)) :: .row v e sz n xs :: M)) (hk : Keep2 b v.ownBlock w w') (hb : w'.heap[b]? = some (.cells cs' T (0, 0))) (hr : w'.ownsRow 0 e sz v' m ys) (ho : ∀ k, v'.ownBlock = some k → v.ownBlock = some k ∨ w.heap.size ≤ k) :
    St X w0 I0 w' I (.row v' e sz m ys :: .blk b (.cells cs' T (0, 0)) :: M) := by
  have h0 : w.heap[b]? = some (.cells cs T (0, 0)) := st.sat _ (.head _)
  have st1 := turn_store (cs' := cs') st (Pick.here _ _)
  have hs1 : (w.setRow b cs').heap.size = w.heap.size := by simp
  have hrow : some b ≠ v.ownBlock := fun he => (List.pairwise_cons.1 st.sep).1 _ (.head _) b rfl he.symm
  refine (st1.pick (Pick.there _ (Pick.here _ _))).turn hk.os hk.tape hk.output (by rw [hs1]; exact hk.size) (fun k h1 h2 => ?_) hr (fun k hkb => ?_)
  · rw [hs1] at h1
    by_cases hkb : k = b
    · subst hkb; rw [hb, setRow_heap w k cs cs' T (0, 0) h0]
    · rw [hk.block k h1 hkb h2, setRow_other w b k cs' hkb]
  · rcases ho k hkb with h | h
    · exact .inl h
    · exact .inr (by rw [hs1]; exact h)
theorem St.keep2 (st : St (rowX b v) w0 I0 w I M) : Keep2 b v.ownBlock w0 w :=
  ⟨st.os, st.tape, st.output, st.size, fun k h1 h2 h3 => st.old k h1 (fun hm => by rcases mem_rowX.1 hm with h | h; exact h2 h; exact h3 h.symm)⟩
theorem St.row_own {R R' : List Item} {o : Obj} (st : St (rowX b v) w0 I0 w I M) (hr : Pick M (.row v' e sz m ys) R) (hb : Pick R (.blk b o) R') : ∀ k, v'.ownBlock = some k → v.ownBlock = some k ∨ w0.heap.size ≤ k := fun k hv => by
  rcases (st.own _ hr.mem k hv).2 with h | h
  · exact .inr h
  · rcases mem_rowX.1 h with h | h
    · exfalso
      subst h
      have s := (st.pick hr).sep
      exact (List.pairwise_cons.1 s).1 _ hb.mem k hv rfl
    · exact .inl h
end
end Go.Proofs.YtoilfakpgcjjpaaDoor.Eng
namespace Go.Proofs.YtoilfakpgcjjpaaDoor.Log
open Go Go.RowKit Go.Proofs.YtoilfakpgcjjpaaDoor Go.Proofs.YtoilfakpgcjjpaaDoor.Eng
set_option linter.unusedVariables false
set_option linter.unusedSimpArgs false
set_option maxRecDepth 100000
def putF (x : Fm) (xs : List Fm) : List Fm := if (xs.any fun y => decide (x = y)) = true then xs else xs ++ [x]
def addF : Fm → List Fm → List Fm
  | .fls, xs => putF .fls xs
  | .atm c, xs => putF (.atm c) xs
  | .and a b, xs => putF (.and a b) (addF b (addF a xs))
  | .or a b, xs => putF (.or a b) (addF b (addF a xs))
  | .imp a b, xs => putF (.imp a b) (addF b (addF a xs))
def midF : Fm → List Fm → List Fm
  | .fls, xs => xs
  | .atm c, xs => xs
  | .and a b, xs => addF b (addF a xs)
  | .or a b, xs => addF b (addF a xs)
  | .imp a b, xs => addF b (addF a xs)
theorem addF_mid (x : Fm) (xs : List Fm) : addF x xs = putF x (midF x xs) := by cases x <;> rfl
theorem putF_len (x : Fm) (xs : List Fm) : (putF x xs).length ≤ xs.length + 1 := by unfold putF; split <;> simp
theorem addF_len : ∀ (x : Fm) (xs : List Fm), (addF x xs).length ≤ xs.length + parts x
  | .fls, xs => putF_len _ _
  | .atm c, xs => putF_len _ _
  | .and a b, xs => by have := putF_len (.and a b) (addF b (addF a xs)); have := addF_len b (addF a xs); have := addF_len a xs; simp only [addF, parts]; omega
  | .or a b, xs => by have := putF_len (.or a b) (addF b (addF a xs)); have := addF_len b (addF a xs); have := addF_len a xs; simp only [addF, parts]; omega
  | .imp a b, xs => by have := putF_len (.imp a b) (addF b (addF a xs)); have := addF_len b (addF a xs); have := addF_len a xs; simp only [addF, parts]; omega
theorem midF_len (x : Fm) (xs : List Fm) : (midF x xs).length + 1 ≤ xs.length + parts x := by
  cases x with
  | fls => simp [midF, parts]
  | atm c => simp [midF, parts]
  | and a b => have := addF_len b (addF a xs); have := addF_len a xs; simp only [midF, parts]; omega
  | or a b => have := addF_len b (addF a xs); have := addF_len a xs; simp only [midF, parts]; omega
  | imp a b => have := addF_len b (addF a xs); have := addF_len a xs; simp only [midF, parts]; omega
def PP (v : Value) : Obj := .cells #[v] 114 (0, 0)
def AddC (x : Fm) : Prop := ∀ (bp : Nat) (v : Value) (xs : List Fm) (w : World), w.heap[bp]? = some (PP v) → w.ownsRow 0 66 1 v xs.length (xs.map enc) → v.ownBlock ≠ some bp → xs.length + parts x ≤ 1000 →
  Calls Tryd.prog 60 #[pv bp, enc x] w fun en w' => ∃ v', en = .returned (.tuple #[]) ∧ Keep2 bp v.ownBlock w w' ∧ w'.heap[bp]? = some (PP v') ∧ w'.ownsRow 0 66 1 v' (addF x xs).length ((addF x xs).map enc) ∧ ∀ k, v'.ownBlock = some k → v.ownBlock = some k ∨ w.heap.size ≤ k
theorem s_add {Q : Exit → Act → World → Prop} {a : Act} {w : World} {n : Nat} {L : List (Nat × Value)} {ops : Array Oper} {rest : List Oper} {d : Nat} {ty : TypeId} {pos : String} {af : Array Edge} {X : List Nat} {w0 : World} {I0 I : Hp} {M : List Eng.Item} {x : Fm} {xs : List Fm} {bp : Nat} {v : Value} {args : Array Operand} {ts : Array TypeId}
    (mt : Mt n a L) (st : St X w0 I0 w I (.row v 66 1 xs.length (xs.map enc) :: .blk bp (PP v) :: M)) (hC : AddC x) (hx : args.toList.map (ev L) = [pv bp, enc x].map some) (hl : xs.length + parts x ≤ 1000) (hd : Nat.blt d n = true)
    (k : ∀ a' w' v', Mt n a' ((d, .tuple #[]) :: L) → St X w0 I0 w' I (.row v' 66 1 (addF x xs).length ((addF x xs).map enc) :: .blk bp (PP v') :: M) → wpList Tryd.prog ops Q rest a' w') :
    wpList Tryd.prog ops Q (⟨some d, .call { callee := .value (.func 60), args := args, argTypes := ts }, ty, pos, af, none⟩ :: rest) a w := by
  have hne : v.ownBlock ≠ some bp := fun e => (List.pairwise_cons.1 st.sep).1 _ (.head _) bp e rfl
  have h2 := st.pick (Pick.there _ (Pick.here _ _))
  exact step_call0 mt K.cb60 hx (hC bp v xs w (st.sat _ (.tail _ (.head _))) (st.sat _ (.head _)) hne hl)
    (fun u w' ⟨v', e, hk, hb, hr, ho⟩ => by cases e; exact k _ w' v' (mt.put d _ hd) (St.turn2 h2 hk hb hr ho))
    (fun c w' ⟨v', e, _⟩ => by cases e) (fun w' ⟨v', e, _⟩ => by cases e)
theorem add_ok : ∀ x : Fm, AddC x := by
  have core : ∀ x : Fm, (∀ a b, (x = .and a b ∨ x = .or a b ∨ x = .imp a b) → AddC a ∧ AddC b) → AddC x := by
    intro x hrec bp v xs w hb hr hne hl
    have st := St.start2 (I0 := I00) (I00_sub w) hb hr hne rfl (fun _ _ => rfl)
    have hdep : x.depth ≤ 4000 := by have := depth_parts x; omega
    refine CallsX.of (nn := 36) Tryd.func60 rfl rfl rfl (fun a mt => ?_)
    refine w_mid (fun a w' => ∃ v', Mt 36 a [(0, pv bp), (1, enc x)] ∧ St (rowX bp v) w I00 w' I00 [.row v' 66 1 (midF x xs).length ((midF x xs).map enc), .blk bp (PP v')]) ?_ ?_
    · refine w_rs ?_
      refine step_pure mt (pu_move rfl) rfl (fun a mt => ?_)
      refine s_callv mt st K.cb54 (vs := [enc x]) rfl (sides_ok x _) rfl (fun a w' mt st => ?_)
      have hsides : (sidesV x = .tuple #[.nilIface, .nilIface] ∧ midF x xs = xs) ∨ ∃ a b, sidesV x = .tuple #[enc a, enc b] ∧ midF x xs = addF b (addF a xs) ∧ AddC a ∧ AddC b ∧ parts x = 1 + parts a + parts b := by
        cases x with
        | fls => exact .inl ⟨rfl, rfl⟩
        | atm c => exact .inl ⟨rfl, rfl⟩
        | and a b => exact .inr ⟨a, b, rfl, rfl, (hrec a b (.inl rfl)).1, (hrec a b (.inl rfl)).2, rfl⟩
        | or a b => exact .inr ⟨a, b, rfl, rfl, (hrec a b (.inr (.inl rfl))).1, (hrec a b (.inr (.inl rfl))).2, rfl⟩
        | imp a b => exact .inr ⟨a, b, rfl, rfl, (hrec a b (.inr (.inr rfl))).1, (hrec a b (.inr (.inr rfl))).2, rfl⟩
      have st := st.pick (Pick.there _ (Pick.here _ _))
      rcases hsides with ⟨e1, e2⟩ | ⟨ca, cb, e1, e2, hca, hcb, hp⟩
      · rw [e1] at mt
        refine step_pure mt (pu_move rfl) rfl (fun a mt => ?_)
        refine step_pure mt (pu_extract rfl rfl) rfl (fun a mt => ?_)
        refine step_pure mt (pu_extract rfl rfl) rfl (fun a mt => ?_)
        refine step_pure mt (pu_assign rfl) rfl (fun a mt => ?_)
        refine step_pure mt (pu_assign rfl) rfl (fun a mt => ?_)
        refine w_nil ?_
        refine w_rs ?_
        refine step_pure mt (pu_move rfl) rfl (fun a mt => ?_)
        refine step_pure mt (pu_neq_nilnil K.if66 rfl) rfl (fun a mt => ?_)
        refine w_nil ?_
        refine w_false mt rfl ?_
        refine w_skip ?_
        exact ⟨v, mt.sub ⟨rfl, rfl, trivial⟩, by rw [e2]; exact st⟩
      · rw [e1] at mt
        refine step_pure mt (pu_move rfl) rfl (fun a mt => ?_)
        refine step_pure mt (pu_extract rfl rfl) rfl (fun a mt => ?_)
        refine step_pure mt (pu_extract rfl rfl) rfl (fun a mt => ?_)
        refine step_pure mt (pu_assign rfl) rfl (fun a mt => ?_)
        refine step_pure mt (pu_assign rfl) rfl (fun a mt => ?_)
        refine w_nil ?_
        refine w_rs ?_
        refine step_pure mt (pu_move rfl) rfl (fun a mt => ?_)
        refine step_pure mt (pu_neq_inil (u := tyOf ca) (v := pay ca) K.if66 (congrArg some (enc_eq ca))) rfl (fun a mt => ?_)
        refine w_nil ?_
        refine w_true mt rfl ?_
        refine w_rs ?_
        refine step_pure mt (pu_move rfl) rfl (fun a mt => ?_)
        refine step_pure mt (pu_move rfl) rfl (fun a mt => ?_)
        refine s_add mt st hca rfl (by omega) rfl (fun a w' v1 mt st => ?_)
        refine w_nil ?_
        refine w_region ?_
        refine step_pure mt (pu_move rfl) rfl (fun a mt => ?_)
        refine step_pure mt (pu_move rfl) rfl (fun a mt => ?_)
        have hl1 := addF_len ca xs
        refine s_add mt st hcb rfl (by omega) rfl (fun a w' v2 mt st => ?_)
        exact ⟨v2, mt.sub ⟨rfl, rfl, trivial⟩, by rw [e2]; exact st⟩
    · rintro a w' ⟨v1, mt, st⟩
      have hml := midF_len x xs
      rw [addF_mid]
      generalize midF x xs = ys at *
      refine w_rs ?_
      refine step_pure mt (pu_move rfl) rfl (fun a mt => ?_)
      refine step_pure mt (pu_nilCheck rfl) rfl (fun a mt => ?_)
      refine step_pure mt (pu_fld 0 K.fl114_0 rfl) rfl (fun a mt => ?_)
      refine step_pure mt (pu_loadM st K.sc85 rfl rfl) rfl (fun a mt => ?_)
      refine step_pure mt (pu_move rfl) rfl (fun a mt => ?_)
      refine s_callv mt st K.cb80 (vs := [v1, enc x]) rfl (contains_node ys x v1 _ (st.rowM (Pick.here _ _)) hdep) rfl (fun a w' mt st => ?_)
      refine step_pure mt (pu_not rfl) rfl (fun a mt => ?_)
      refine w_nil ?_
      refine w_cond_b mt rfl (fun h => ?_) (fun h => ?_)
      · have e : putF x ys = ys ++ [x] := by
          have h' : (ys.any fun y => decide (x = y)) = false := by cases hb : (ys.any fun y => decide (x = y)) <;> simp [hb] at h ⊢
          unfold putF; rw [h']; rfl
        refine w_region ?_
        refine step_pure mt (pu_move rfl) rfl (fun a mt => ?_)
        refine step_pure mt (pu_move rfl) rfl (fun a mt => ?_)
        refine step_pure mt (pu_nilCheck rfl) rfl (fun a mt => ?_)
        refine step_pure mt (pu_fld 0 K.fl114_0 rfl) rfl (fun a mt => ?_)
        refine step_pure mt (pu_loadM st K.sc85 rfl rfl) rfl (fun a mt => ?_)
        refine step_pure mt (pu_move rfl) rfl (fun a mt => ?_)
        refine step_alloc mt st (al_lit1 (vs := [enc x]) K.el85 rfl rfl rfl rfl rfl (by simp [enc_one])) rfl (fun a w' b32 mt st => ?_)
        refine s_append mt st K.el85 rfl (by decide) rfl rfl rfl (by simp [enc_one]) (by simp only [maxLen]; omega) (by omega) rfl (fun a w' v2 mt st => ?_)
        have hone := RdS.one (st.rowM (Pick.here _ _))
        refine step_pure mt (pu_nilCheck rfl) rfl (fun a mt => ?_)
        refine step_pure mt (pu_fld 0 K.fl114_0 rfl) rfl (fun a mt => ?_)
        refine s_storeL (b := bp) mt st K.sz85 rfl rfl hone rfl rfl (fun w' st => ?_)
        refine w_nil' ?_
        refine post_end0 mt rfl ?_
        have hr := st.sat _ (.tail _ (.head _))
        refine ⟨v2, rfl, St.keep2 st, st.sat _ (.head _), by rw [e]; have hr' : w'.ownsRow 0 _ 1 v2 _ _ := hr; simpa using hr', St.row_own st (Pick.there _ (Pick.here _ _)) (Pick.here _ _)⟩
      · have e : putF x ys = ys := by
          have h' : (ys.any fun y => decide (x = y)) = true := by cases hb : (ys.any fun y => decide (x = y)) <;> simp [hb] at h ⊢
          unfold putF; rw [h']; rfl
        refine w_skip ?_
        refine post_end0 mt rfl ?_
        exact ⟨v1, rfl, St.keep2 st, st.sat _ (.tail _ (.head _)), by rw [e]; exact st.sat _ (.head _), St.row_own st (Pick.here _ _) (Pick.here _ _)⟩
  intro x
  induction x with
  | fls => exact core _ (fun a b h => by rcases h with h | h | h <;> cases h)
  | atm c => exact core _ (fun a b h => by rcases h with h | h | h <;> cases h)
  | and a b ha hb => exact core _ (fun a' b' h => by rcases h with h | h | h <;> cases h; exact ⟨ha, hb⟩)
  | or a b ha hb => exact core _ (fun a' b' h => by rcases h with h | h | h <;> cases h; exact ⟨ha, hb⟩)
  | imp a b ha hb => exact core _ (fun a' b' h => by rcases h with h | h | h <;> cases h; exact ⟨ha, hb⟩)
end Go.Proofs.YtoilfakpgcjjpaaDoor.Log
namespace Go.Proofs.YtoilfakpgcjjpaaDoor.Log
open Go Go.RowKit Go.Proofs.YtoilfakpgcjjpaaDoor Go.Proofs.YtoilfakpgcjjpaaDoor.Eng
set_option linter.unusedVariables false
set_option linter.unusedSimpArgs false
set_option maxRecDepth 100000
theorem and_oneN {n : Nat} (h : n < 4611686018427387904) : IntKind.i64.wrap ((BitVec.ofInt IntKind.i64.bits (n : Int) &&& BitVec.ofInt IntKind.i64.bits 1).toNat : Int) = ((n % 2 : Nat) : Int) := by
  have e : (BitVec.ofInt IntKind.i64.bits (n : Int) &&& BitVec.ofInt IntKind.i64.bits 1).toNat = n % 2 := by
    rw [BitVec.toNat_and]
    have h1 : (BitVec.ofInt IntKind.i64.bits (n : Int)).toNat = n := by
      rw [BitVec.toNat_ofInt]
      have : IntKind.i64.bits = 64 := rfl
      rw [this]
      omega
    have h2 : (BitVec.ofInt IntKind.i64.bits 1).toNat = 1 := rfl
    rw [h1, h2, Nat.and_one_is_mod]
  rw [e]
  exact i64_wrap (by omega)
theorem shrN {n k : Nat} (hk : k ≤ 60) : ((n : Int).fdiv (2 ^ (min ((k : Int).toNat) IntKind.i64.bits))) = ((n / 2 ^ k : Nat) : Int) := by
  have e : min ((k : Int).toNat) IntKind.i64.bits = k := by
    have : IntKind.i64.bits = 64 := rfl
    omega
  rw [e, Int.fdiv_eq_ediv_of_nonneg _ (Int.le_of_lt (Int.pow_pos (by decide)))]
  norm_cast
def bitN (t k : Nat) : Bool := decide (t / 2 ^ k % 2 = 1)
def idxN (x : Fm) : List Fm → Nat
  | [] => 0
  | y :: ys => if x = y then 0 else idxN x ys + 1
theorem idxN_lt {x : Fm} : ∀ {ys : List Fm}, x ∈ ys → idxN x ys < ys.length
  | y :: ys, h => by
    unfold idxN
    split
    · simp
    · rename_i hne
      have : x ∈ ys := by cases h with
        | head => exact absurd rfl hne
        | tail _ h => exact h
      have := idxN_lt this
      simp; omega
theorem idxI_N {x : Fm} : ∀ {ys : List Fm}, x ∈ ys → idxI (fun y => decide (x = y)) ys = (idxN x ys : Int)
  | y :: ys, h => by
    unfold idxI idxN
    by_cases hxy : x = y
    · simp [hxy]
    · have : x ∈ ys := by cases h with
        | head => exact absurd rfl hxy
        | tail _ h => exact h
      have := idxI_N this
      simp [hxy, this]
/-- is a part in a theory -/
def hasF (l : List Fm) (t : Nat) (x : Fm) : Bool := bitN t (idxN x l)
def PrtV (I : Hp) (bp : Nat) (l : List Fm) : Prop := ∃ lv, cellI I bp 0 = some lv ∧ RdS I lv 1 l.length (l.map enc)
theorem PrtV.mono {I J : Hp} (h : Sub I J) {bp : Nat} {l : List Fm} (r : PrtV I bp l) : PrtV J bp l := let ⟨lv, h1, h2⟩ := r; ⟨lv, cellI_mono h h1, h2.mono h⟩
theorem has2_ok {I : Hp} (bp : Nat) (l : List Fm) (t : Nat) (x : Fm) (w : World) (hI : Sub I (hp w)) (hp' : PrtV I bp l) (ht : t < 1000000) (hl : l.length ≤ 12) (hx : x ∈ l) (hd : x.depth ≤ 4000) :
    CallsX Tryd.prog 64 #[pv bp, .int .i64 t, enc x] w fun v _ => v = .bool (hasF l t x) := by
  have st := St.start (w0 := w) (I0 := I) hI
  obtain ⟨lv, hc, hr⟩ := hp'
  have hk := idxN_lt hx
  have hdiv : t / 2 ^ idxN x l ≤ t := Nat.div_le_self _ _
  refine CallsX.of (nn := 17) Tryd.func64 rfl rfl rfl (fun a mt => ?_)
  refine w_rs ?_
  refine step_pure mt (pu_assign rfl) rfl (fun a mt => ?_)
  refine w_nil ?_
  refine w_rs ?_
  refine step_pure mt (pu_move rfl) rfl (fun a mt => ?_)
  refine step_pure mt (pu_move rfl) rfl (fun a mt => ?_)
  refine step_pure mt (pu_nilCheck rfl) rfl (fun a mt => ?_)
  refine step_pure mt (pu_fld 0 K.fl114_0 rfl) rfl (fun a mt => ?_)
  refine step_pure mt (pu_loadI st K.sc85 rfl hc) rfl (fun a mt => ?_)
  refine step_pure mt (pu_move rfl) rfl (fun a mt => ?_)
  refine s_callv mt st K.cb84 (vs := [lv, enc x]) rfl (index_node l x lv _ (st.rdS hr) hd) rfl (fun a w mt st => ?_)
  rw [idxI_N hx] at mt
  refine step_pure mt ((pu_shr rfl rfl (by omega)).to (u := .int .i64 ((t / 2 ^ idxN x l : Nat) : Int)) (congrArg (Value.int .i64) (shrN (by omega)))) rfl (fun a mt => ?_)
  refine step_pure mt ((pu_and rfl rfl).to (u := .int .i64 ((t / 2 ^ idxN x l % 2 : Nat) : Int)) (congrArg (Value.int .i64) (and_oneN (by omega)))) rfl (fun a mt => ?_)
  refine step_pure mt ((pu_eql rfl rfl).to (u := .bool (hasF l t x)) (by unfold hasF bitN; congr 1; exact decide_eq_decide.2 (by omega))) rfl (fun a mt => ?_)
  refine step_pure mt (pu_assign rfl) rfl (fun a mt => ?_)
  refine w_nil ?_
  refine w_ret ?_
  refine post_ret1 mt rfl rfl ?_
  exact ⟨_, rfl, st.below, rfl⟩
end Go.Proofs.YtoilfakpgcjjpaaDoor.Log
namespace Go.Proofs.YtoilfakpgcjjpaaDoor.Log
open Go Go.RowKit Go.Proofs.YtoilfakpgcjjpaaDoor Go.Proofs.YtoilfakpgcjjpaaDoor.Eng
set_option linter.unusedVariables false
set_option linter.unusedSimpArgs false
set_option maxRecDepth 100000
def needG (l : List Fm) (t : Nat) (i : Nat) : Option (Fm × Fm) := match l[i]? with
  | some (.imp a b) => if bitN t i then none else some (a, b)
  | _ => none
def needTo (l : List Fm) (t k : Nat) : List (Fm × Fm) := (List.range k).filterMap (needG l t)
def needF (l : List Fm) (t : Nat) : List (Fm × Fm) := needTo l t l.length
theorem needTo_succ (l : List Fm) (t k : Nat) : needTo l t (k + 1) = needTo l t k ++ (needG l t k).toList := by
  unfold needTo
  rw [List.range_succ, List.filterMap_append]
  cases h : needG l t k <;> simp [h]
theorem needTo_len (l : List Fm) (t k : Nat) : (needTo l t k).length ≤ k := by
  unfold needTo; exact Nat.le_trans (List.length_filterMap_le _ _) (by simp)
def pairC (p : Fm × Fm) : List Value := [enc p.1, enc p.2]
theorem needed_ok {I : Hp} (bp : Nat) (l : List Fm) (t : Nat) (w : World) (hI : Sub I (hp w)) (hp' : PrtV I bp l) (ht : t < 1000000) (hl : l.length ≤ 12) :
    CallsX Tryd.prog 65 #[pv bp, .int .i64 t] w fun v w' => RdS (Iext I w w') v 2 (needF l t).length ((needF l t).flatMap pairC) := by
  have st := St.start (w0 := w) (I0 := I) hI
  obtain ⟨lv, hc, hr⟩ := hp'
  obtain ⟨lad, lcc, rfl, _⟩ := hr.len
  refine CallsX.of (nn := 39) Tryd.func65 rfl rfl rfl (fun a mt => ?_)
  refine w_rs ?_
  refine step_pure mt (pu_assign rfl) rfl (fun a mt => ?_)
  refine w_nil ?_
  refine w_rs ?_
  refine step_pure mt (pu_assign rfl) rfl (fun a mt => ?_)
  refine w_nil ?_
  have st := st.nilRow 73 2
  refine w_seq ?_
  refine w_rs ?_
  refine step_pure mt (pu_move rfl) rfl (fun a mt => ?_)
  refine step_pure mt (pu_nilCheck rfl) rfl (fun a mt => ?_)
  refine step_pure mt (pu_fld 0 K.fl114_0 rfl) rfl (fun a mt => ?_)
  refine step_pure mt (pu_loadI st K.sc85 rfl hc) rfl (fun a mt => ?_)
  refine step_pure mt (pu_len rfl K.un85) rfl (fun a mt => ?_)
  refine step_pure mt (pu_move rfl) rfl (fun a mt => ?_)
  refine w_nil ?_
  refine w_block ?_
  refine w_loop (ι := Nat) (fun k a w' => k ≤ l.length ∧ ∃ v M, Mt 39 a [(1, .int .i64 t), (5, v), (13, .slice lad l.length lcc), (14, .int .i64 l.length), (15, .int .i64 k)] ∧ St [] w I w' I (.row v 73 2 (needTo l t k).length ((needTo l t k).flatMap pairC) :: M)) (fun k => l.length - k) 0
    ⟨Nat.zero_le _, _, _, mt.sub ⟨rfl, rfl, rfl, rfl, rfl, trivial⟩, st⟩ (fun k a w' hI' => ?_)
  obtain ⟨hk, v, M, mt, st⟩ := hI'
  have hnl := needTo_len l t k
  refine w_rs ?_
  refine step_pure mt (pu_lss rfl rfl) rfl (fun a mt => ?_)
  refine w_nil ?_
  refine w_seq ?_
  refine w_cond mt rfl (fun h => ?_) (fun h => ?_)
  · have hkl : k < l.length := by omega
    have hx : l[k]? = some l[k] := List.getElem?_eq_getElem hkl
    generalize hxe : l[k] = x at hx
    have hu : (l.map enc)[((k : Nat) : Int).toNat]? = some (enc x) := by simp [hx]
    have hdiv : t / 2 ^ k ≤ t := Nat.div_le_self _ _
    refine w_skip ?_
    refine x_then_n ?_
    refine w_seq ?_
    refine w_block ?_
    refine w_rs ?_
    refine step_pure mt (pu_move rfl) rfl (fun a mt => ?_)
    refine step_pure mt (pu_ia (m := l.length) (i := k) K.el85 (by decide) rfl hr rfl (by omega) (by omega)) rfl (fun a mt => ?_)
    refine step_pure mt (pu_loadR st K.sc66 hr rfl hu) rfl (fun a mt => ?_)
    refine step_pure mt (pu_assign rfl) rfl (fun a mt => ?_)
    refine step_pure mt (pu_assign rfl) rfl (fun a mt => ?_)
    refine w_nil ?_
    rcases x with _ | c | ⟨xa, xb⟩ | ⟨ya, yb⟩ | ⟨ca, cb⟩
    rotate_left 4
    · refine w_rs ?_
      refine step_pure mt (pu_move rfl) rfl (fun a mt => ?_)
      refine step_pure mt (pu_assert_yes K.cc73 rfl) rfl (fun a mt => ?_)
      refine step_pure mt (pu_move rfl) rfl (fun a mt => ?_)
      refine step_pure mt (pu_extract rfl rfl) rfl (fun a mt => ?_)
      refine step_pure mt (pu_extract rfl rfl) rfl (fun a mt => ?_)
      refine step_alloc mt st (al_alloc K.ze73 rfl) rfl (fun a w' b8 mt st => ?_)
      refine s_storeA mt st K.sz73 rfl rfl rfl (by simp [enc_one]) rfl rfl (fun w' st => ?_)
      refine step_pure mt (pu_assign rfl) rfl (fun a mt => ?_)
      refine w_nil ?_
      refine w_rs ?_
      refine step_pure mt (pu_move rfl) rfl (fun a mt => ?_)
      refine step_pure mt (pu_move rfl) rfl (fun a mt => ?_)
      refine step_pure_g mt rfl rfl (pu_move rfl) rfl (fun a mt => ?_)
      refine step_pure_g mt rfl rfl (pu_move rfl) rfl (fun a mt => ?_)
      refine step_pure_g mt rfl rfl ((pu_shr rfl rfl (by omega)).to (u := .int .i64 ((t / 2 ^ k : Nat) : Int)) (congrArg (Value.int .i64) (shrN (by omega)))) rfl (fun a mt => ?_)
      refine step_pure_g mt rfl rfl ((pu_and rfl rfl).to (u := .int .i64 ((t / 2 ^ k % 2 : Nat) : Int)) (congrArg (Value.int .i64) (and_oneN (by omega)))) rfl (fun a mt => ?_)
      refine step_pure_g mt rfl rfl ((pu_eql rfl rfl).to (u := .bool (!bitN t k)) (by unfold bitN; rw [← decide_not]; congr 1; exact decide_eq_decide.2 (by omega))) rfl (fun a mt => ?_)
      refine step_pure mt (pu_pick rfl rfl) rfl (fun a mt => ?_)
      refine w_nil ?_
      refine w_cond_b mt rfl (fun h => ?_) (fun h => ?_)
      · have hb : bitN t k = false := by simpa using h
        have hg : needG l t k = some (ca, cb) := by unfold needG; rw [hx]; simp [hb]
        refine w_region ?_
        refine step_pure mt (pu_move rfl) rfl (fun a mt => ?_)
        refine step_pure mt (pu_loadMA st K.ag73 rfl rfl) rfl (fun a mt => ?_)
        refine step_alloc mt st (al_lit (vs := [.agg #[enc ca, enc cb]]) K.el122 rfl (by decide) rfl rfl (by decide) (by decide) (by simp [Value.cells])) rfl (fun a w' b35 mt st => ?_)
        refine s_append mt st K.el122 rfl (by decide) rfl rfl rfl (by simp [Value.cells, enc_one]) (by simp only [maxLen]; omega) (by omega) rfl (fun a w' v2 mt st => ?_)
        refine step_pure mt (pu_assign rfl) rfl (fun a mt => ?_)
        refine w_nil' ?_
        refine x_block_n ?_
        refine x_then_n ?_
        refine w_region ?_
        refine step_pure mt (pu_add_i rfl rfl (by omega)) rfl (fun a mt => ?_)
        refine step_pure mt (pu_move rfl) rfl (fun a mt => ?_)
        refine w_nil' ?_
        refine x_then_n ?_
        have e1 : (needTo l t (k + 1)).length = (needTo l t k).length + 1 := by rw [needTo_succ, hg]; simp
        have e2 : (needTo l t (k + 1)).flatMap pairC = (needTo l t k).flatMap pairC ++ [enc ca, enc cb] := by rw [needTo_succ, hg]; simp [pairC]
        exact ⟨k + 1, ⟨by omega, v2, _, mt.sub ⟨rfl, rfl, rfl, rfl, rfl, trivial⟩, by rw [e1, e2]; exact st⟩, by omega⟩
      · have hb : bitN t k = true := by simpa using h
        have hg : needG l t k = none := by unfold needG; rw [hx]; simp [hb]
        refine w_skip ?_
        refine x_block_n ?_
        refine x_then_n ?_
        refine w_region ?_
        refine step_pure mt (pu_add_i rfl rfl (by omega)) rfl (fun a mt => ?_)
        refine step_pure mt (pu_move rfl) rfl (fun a mt => ?_)
        refine w_nil' ?_
        refine x_then_n ?_
        have e : needTo l t (k + 1) = needTo l t k := by rw [needTo_succ, hg]; simp
        exact ⟨k + 1, ⟨by omega, v, _, mt.sub ⟨rfl, rfl, rfl, rfl, rfl, trivial⟩, by rw [e]; exact st.pick (Pick.there _ (Pick.here _ _))⟩, by omega⟩
    all_goals
      refine w_rs ?_
      refine step_pure mt (pu_move rfl) rfl (fun a mt => ?_)
      refine step_pure mt (pu_assert_no K.cc73 rfl rfl K.ze73) rfl (fun a mt => ?_)
      refine step_pure mt (pu_move rfl) rfl (fun a mt => ?_)
      refine step_pure mt (pu_extract rfl rfl) rfl (fun a mt => ?_)
      refine step_pure mt (pu_extract rfl rfl) rfl (fun a mt => ?_)
      refine step_alloc mt st (al_alloc K.ze73 rfl) rfl (fun a w' b8 mt st => ?_)
      refine s_storeA mt st K.sz73 rfl rfl rfl (by simp [Value.oneCell']) rfl rfl (fun w' st => ?_)
      refine step_pure mt (pu_assign rfl) rfl (fun a mt => ?_)
      refine w_nil ?_
      refine w_rs ?_
      refine step_pure mt (pu_move rfl) rfl (fun a mt => ?_)
      refine step_pure mt (pu_move rfl) rfl (fun a mt => ?_)
      refine step_skip_g mt rfl rfl rfl rfl (fun a mt => ?_)
      refine step_skip_g mt rfl rfl rfl rfl (fun a mt => ?_)
      refine step_skip_g mt rfl rfl rfl rfl (fun a mt => ?_)
      refine step_skip_g mt rfl rfl rfl rfl (fun a mt => ?_)
      refine step_skip_g mt rfl rfl rfl rfl (fun a mt => ?_)
      refine step_pure mt (pu_pick rfl rfl) rfl (fun a mt => ?_)
      refine w_nil ?_
      refine w_false mt rfl ?_
      have hg : needG l t k = none := by unfold needG; rw [hx]
      refine w_skip ?_
      refine x_block_n ?_
      refine x_then_n ?_
      refine w_region ?_
      refine step_pure mt (pu_add_i rfl rfl (by omega)) rfl (fun a mt => ?_)
      refine step_pure mt (pu_move rfl) rfl (fun a mt => ?_)
      refine w_nil' ?_
      refine x_then_n ?_
      have e : needTo l t (k + 1) = needTo l t k := by rw [needTo_succ, hg]; simp
      exact ⟨k + 1, ⟨by omega, v, _, mt.sub ⟨rfl, rfl, rfl, rfl, rfl, trivial⟩, by rw [e]; exact st.pick (Pick.there _ (Pick.here _ _))⟩, by omega⟩
  · refine w_exit (x_then_exit (x_then_exit (x_block_out ?_)))
    refine x_then_n ?_
    refine w_rs ?_
    refine step_pure mt (pu_move rfl) rfl (fun a mt => ?_)
    refine step_pure mt (pu_assign rfl) rfl (fun a mt => ?_)
    refine w_nil ?_
    refine w_ret ?_
    refine post_ret1 mt rfl rfl ?_
    have e : k = l.length := by omega
    subst e
    exact ⟨_, rfl, st.below, St.rowX st (Pick.here _ _)⟩
end Go.Proofs.YtoilfakpgcjjpaaDoor.Log
namespace Go.Proofs.YtoilfakpgcjjpaaDoor.Log
open Go Go.RowKit Go.Proofs.YtoilfakpgcjjpaaDoor Go.Proofs.YtoilfakpgcjjpaaDoor.Eng
set_option linter.unusedVariables false
set_option linter.unusedSimpArgs false
set_option maxRecDepth 100000
/-- every bit of t is one of u -/
def subN (t u : Nat) : Bool := (List.range 64).all fun i => !t.testBit i || u.testBit i
theorem subN_iff {t u : Nat} : subN t u = true ↔ ∀ i, i < 64 → t.testBit i = true → u.testBit i = true := by
  unfold subN
  rw [List.all_eq_true]
  constructor
  · intro h i hi ht
    have := h i (by simpa using hi)
    simpa [ht] using this
  · intro h i hi
    have hi' : i < 64 := by simpa using hi
    cases ht : t.testBit i with
    | false => rfl
    | true => simp [h i hi' ht]
theorem andNotN {t u : Nat} (ht : t < 4611686018427387904) (hu : u < 4611686018427387904) :
    ∃ d : Nat, IntKind.i64.wrap ((BitVec.ofInt IntKind.i64.bits (t : Int) &&& ~~~ BitVec.ofInt IntKind.i64.bits (u : Int)).toNat : Int) = (d : Int) ∧ (d = 0 ↔ subN t u = true) := by
  have h1 : (BitVec.ofInt 64 (t : Int)) = BitVec.ofNat 64 t := BitVec.ofInt_natCast 64 t
  have h2 : (BitVec.ofInt 64 (u : Int)) = BitVec.ofNat 64 u := BitVec.ofInt_natCast 64 u
  refine ⟨(BitVec.ofNat 64 t &&& ~~~ BitVec.ofNat 64 u).toNat, ?_, ?_⟩
  · show IntKind.i64.wrap ((BitVec.ofInt 64 (t : Int) &&& ~~~ BitVec.ofInt 64 (u : Int)).toNat : Int) = _
    rw [h1, h2]
    refine i64_wrap ?_
    have hle : (BitVec.ofNat 64 t &&& ~~~ BitVec.ofNat 64 u).toNat ≤ t := by
      rw [BitVec.toNat_and]
      refine Nat.le_trans Nat.and_le_left ?_
      rw [BitVec.toNat_ofNat]
      exact Nat.mod_le _ _
    omega
  · rw [subN_iff]
    constructor
    · intro h i hi hti
      have hz : BitVec.ofNat 64 t &&& ~~~ BitVec.ofNat 64 u = 0#64 := BitVec.eq_of_toNat_eq (by simpa using h)
      have := congrArg (fun x => x.getLsbD i) hz
      simp only [BitVec.getLsbD_and, BitVec.getLsbD_not, BitVec.getLsbD_ofNat, hi, hti, decide_true, Bool.true_and, Nat.zero_testBit, Bool.and_true] at this
      cases hb : u.testBit i with
      | true => rfl
      | false => rw [hb] at this; cases this
    · intro h
      have hz : BitVec.ofNat 64 t &&& ~~~ BitVec.ofNat 64 u = 0#64 := by
        apply BitVec.eq_of_getLsbD_eq
        intro i hi
        have := h i hi
        simp only [BitVec.getLsbD_and, BitVec.getLsbD_not, BitVec.getLsbD_ofNat, hi, decide_true, Bool.true_and, BitVec.getLsbD_zero]
        cases hti : t.testBit i with
        | false => simp
        | true => simp [this hti]
      rw [hz]; rfl
def natV (u : Nat) : Value := .int .i64 u
def witF (l : List Fm) (all : List Nat) (t : Nat) (x y : Fm) : Option Nat := all.find? fun u => subN t u && (hasF l u x && !hasF l u y)
theorem witness_ok {I : Hp} (bp : Nat) (l : List Fm) (all : List Nat) (av : Value) (t : Nat) (x y : Fm) (w : World) (hI : Sub I (hp w)) (hp' : PrtV I bp l) (ha : RdS I av 1 all.length (all.map natV)) (ht : t < 1000000) (hall : ∀ u ∈ all, u < 1000000) (hlen : all.length ≤ 1000000) (hl : l.length ≤ 12) (hx : x ∈ l) (hy : y ∈ l) (hdx : x.depth ≤ 4000) (hdy : y.depth ≤ 4000) :
    CallsX Tryd.prog 66 #[pv bp, av, .int .i64 t, .agg #[enc x, enc y]] w fun v _ => v = match witF l all t x y with
      | some u => .tuple #[.int .i64 u, .bool true]
      | none => .tuple #[.int .i64 0, .bool false] := by
  have st := St.start (w0 := w) (I0 := I) hI
  obtain ⟨aad, acc0, rfl, _⟩ := ha.len
  refine CallsX.of (nn := 39) Tryd.func66 rfl rfl rfl (fun a mt => ?_)
  refine w_rs ?_
  refine step_alloc mt st (al_box rfl rfl) rfl (fun a w' b7 mt st => ?_)
  refine step_pure mt (pu_assign rfl) rfl (fun a mt => ?_)
  refine step_pure mt (pu_assign rfl) rfl (fun a mt => ?_)
  refine w_nil ?_
  refine w_seq ?_
  refine w_rs ?_
  refine step_pure mt (pu_move rfl) rfl (fun a mt => ?_)
  refine step_pure mt (pu_len rfl K.un116) rfl (fun a mt => ?_)
  refine step_pure mt (pu_move rfl) rfl (fun a mt => ?_)
  refine w_nil ?_
  refine w_block ?_
  refine w_loop (ι := Nat) (fun k a w' => k ≤ all.length ∧ ∃ M, Mt 39 a [(0, pv bp), (2, .int .i64 t), (7, pv b7), (12, .slice aad all.length acc0), (13, .int .i64 all.length), (14, .int .i64 k)] ∧ St [] w I w' I (.blk b7 (.cells #[enc x, enc y] 73 (0, 0)) :: M) ∧ witF l all t x y = (all.drop k).find? fun u => subN t u && (hasF l u x && !hasF l u y)) (fun k => all.length - k) 0
    ⟨Nat.zero_le _, _, mt.sub ⟨rfl, rfl, rfl, rfl, rfl, rfl, trivial⟩, st, rfl⟩ (fun k a w' hI' => ?_)
  obtain ⟨hk, M, mt, st, hfind⟩ := hI'
  refine w_rs ?_
  refine step_pure mt (pu_lss rfl rfl) rfl (fun a mt => ?_)
  refine w_nil ?_
  refine w_seq ?_
  refine w_cond mt rfl (fun h => ?_) (fun h => ?_)
  · have hkl : k < all.length := by omega
    have hu : all[k]? = some all[k] := List.getElem?_eq_getElem hkl
    generalize hue : all[k] = u at hu
    have hul := hall u (List.mem_of_getElem? hu)
    have hum : (all.map natV)[((k : Nat) : Int).toNat]? = some (.int .i64 u) := by simp [hu, natV]
    obtain ⟨d, hd, hiff⟩ := andNotN (t := t) (u := u) (by omega) (by omega)
    rw [drop_cons hu, List.find?_cons] at hfind
    have e21 : Value.bool (decide ((d : Int) = 0)) = .bool (subN t u) := by
      congr 1
      cases hs : subN t u with
      | true => have := hiff.2 hs; subst this; rfl
      | false =>
        have : d ≠ 0 := fun e => by have := hiff.1 e; rw [hs] at this; cases this
        exact decide_eq_false (by omega)
    refine w_skip ?_
    refine x_then_n ?_
    refine w_seq ?_
    refine w_block ?_
    refine w_rs ?_
    refine step_pure mt (pu_ia (m := all.length) (i := k) K.el116 (by decide) rfl ha rfl (by omega) (by omega)) rfl (fun a mt => ?_)
    refine step_pure mt (pu_loadR st K.sc119 (ha.mono st.sub0) rfl hum) rfl (fun a mt => ?_)
    refine step_pure mt (pu_assign rfl) rfl (fun a mt => ?_)
    refine w_nil ?_
    refine w_rs ?_
    refine step_pure mt (pu_move rfl) rfl (fun a mt => ?_)
    refine step_pure mt (pu_move rfl) rfl (fun a mt => ?_)
    refine step_pure mt ((pu_andNot rfl rfl).to (u := .int .i64 d) (congrArg (Value.int .i64) hd)) rfl (fun a mt => ?_)
    refine step_pure mt ((pu_eql rfl rfl).to (u := .bool (subN t u)) e21) rfl (fun a mt => ?_)
    refine step_pure mt (pu_move rfl) rfl (fun a mt => ?_)
    cases hsub : subN t u with
    | false =>
      rw [hsub] at mt hfind
      refine step_skip_g mt rfl rfl rfl rfl (fun a mt => ?_)
      refine step_skip_g mt rfl rfl rfl rfl (fun a mt => ?_)
      refine step_skip_g mt rfl rfl rfl rfl (fun a mt => ?_)
      refine step_skip_g mt rfl rfl rfl rfl (fun a mt => ?_)
      refine step_skip_g mt rfl rfl rfl rfl (fun a mt => ?_)
      refine step_pure mt (pu_pick rfl rfl) rfl (fun a mt => ?_)
      refine step_pure mt (pu_move rfl) rfl (fun a mt => ?_)
      refine step_skip_g mt rfl rfl rfl rfl (fun a mt => ?_)
      refine step_skip_g mt rfl rfl rfl rfl (fun a mt => ?_)
      refine step_skip_g mt rfl rfl rfl rfl (fun a mt => ?_)
      refine step_skip_g mt rfl rfl rfl rfl (fun a mt => ?_)
      refine step_skip_g mt rfl rfl rfl rfl (fun a mt => ?_)
      refine step_skip_g mt rfl rfl rfl rfl (fun a mt => ?_)
      refine step_pure mt (pu_pick rfl rfl) rfl (fun a mt => ?_)
      refine w_nil ?_
      refine w_false mt rfl ?_
      refine w_skip ?_
      refine x_block_n ?_
      refine x_then_n ?_
      refine w_region ?_
      refine step_pure mt (pu_add_i rfl rfl (by omega)) rfl (fun a mt => ?_)
      refine step_pure mt (pu_move rfl) rfl (fun a mt => ?_)
      refine w_nil' ?_
      refine x_then_n ?_
      exact ⟨k + 1, ⟨by omega, _, mt.sub ⟨rfl, rfl, rfl, rfl, rfl, rfl, trivial⟩, st, hfind⟩, by omega⟩
    | true =>
      rw [hsub] at mt hfind
      refine step_pure_g mt rfl rfl (pu_move rfl) rfl (fun a mt => ?_)
      refine step_pure_g mt rfl rfl (pu_move rfl) rfl (fun a mt => ?_)
      refine step_pure_g mt rfl rfl (pu_fld 0 K.fl73_0 rfl) rfl (fun a mt => ?_)
      refine step_pure_g mt rfl rfl (pu_loadM st K.sc66 rfl rfl) rfl (fun a mt => ?_)
      refine s_callv_g mt st rfl rfl K.cb64 (vs := [pv bp, .int .i64 u, enc x]) rfl (has2_ok bp l u x _ st.agr (hp'.mono st.sub0) hul hl hx hdx) rfl (fun a w' mt st => ?_)
      refine step_pure mt (pu_pick rfl rfl) rfl (fun a mt => ?_)
      refine step_pure mt (pu_move rfl) rfl (fun a mt => ?_)
      cases hhx : hasF l u x with
      | false =>
        rw [hhx] at mt hfind
        refine step_skip_g mt rfl rfl rfl rfl (fun a mt => ?_)
        refine step_skip_g mt rfl rfl rfl rfl (fun a mt => ?_)
        refine step_skip_g mt rfl rfl rfl rfl (fun a mt => ?_)
        refine step_skip_g mt rfl rfl rfl rfl (fun a mt => ?_)
        refine step_skip_g mt rfl rfl rfl rfl (fun a mt => ?_)
        refine step_skip_g mt rfl rfl rfl rfl (fun a mt => ?_)
        refine step_pure mt (pu_pick rfl rfl) rfl (fun a mt => ?_)
        refine w_nil ?_
        refine w_false mt rfl ?_
        refine w_skip ?_
        refine x_block_n ?_
        refine x_then_n ?_
        refine w_region ?_
        refine step_pure mt (pu_add_i rfl rfl (by omega)) rfl (fun a mt => ?_)
        refine step_pure mt (pu_move rfl) rfl (fun a mt => ?_)
        refine w_nil' ?_
        refine x_then_n ?_
        exact ⟨k + 1, ⟨by omega, _, mt.sub ⟨rfl, rfl, rfl, rfl, rfl, rfl, trivial⟩, st, hfind⟩, by omega⟩
      | true =>
        rw [hhx] at mt hfind
        refine step_pure_g mt rfl rfl (pu_move rfl) rfl (fun a mt => ?_)
        refine step_pure_g mt rfl rfl (pu_move rfl) rfl (fun a mt => ?_)
        refine step_pure_g mt rfl rfl (pu_fld 1 K.fl73_1 rfl) rfl (fun a mt => ?_)
        refine step_pure_g mt rfl rfl (pu_loadM st K.sc66 rfl rfl) rfl (fun a mt => ?_)
        refine s_callv_g mt st rfl rfl K.cb64 (vs := [pv bp, .int .i64 u, enc y]) rfl (has2_ok bp l u y _ st.agr (hp'.mono st.sub0) hul hl hy hdy) rfl (fun a w' mt st => ?_)
        refine step_pure_g mt rfl rfl (pu_not rfl) rfl (fun a mt => ?_)
        refine step_pure mt (pu_pick rfl rfl) rfl (fun a mt => ?_)
        refine w_nil ?_
        cases hhy : hasF l u y with
        | true =>
          rw [hhy] at mt hfind
          refine w_false mt rfl ?_
          refine w_skip ?_
          refine x_block_n ?_
          refine x_then_n ?_
          refine w_region ?_
          refine step_pure mt (pu_add_i rfl rfl (by omega)) rfl (fun a mt => ?_)
          refine step_pure mt (pu_move rfl) rfl (fun a mt => ?_)
          refine w_nil' ?_
          refine x_then_n ?_
          exact ⟨k + 1, ⟨by omega, _, mt.sub ⟨rfl, rfl, rfl, rfl, rfl, rfl, trivial⟩, st, hfind⟩, by omega⟩
        | false =>
          rw [hhy] at mt hfind
          refine w_true mt rfl ?_
          refine w_rs ?_
          refine step_pure mt (pu_move rfl) rfl (fun a mt => ?_)
          refine step_pure mt (pu_assign rfl) rfl (fun a mt => ?_)
          refine step_pure mt (pu_assign rfl) rfl (fun a mt => ?_)
          refine w_nil ?_
          refine w_ret (x_block_ret (x_then_ret (x_then_ret (x_block_ret (x_then_ret ?_)))))
          refine post_ret2 mt rfl rfl rfl ?_
          have hfin : witF l all t x y = some u := hfind
          exact ⟨_, rfl, st.below, by rw [hfin]⟩
  · refine w_exit (x_then_exit (x_then_exit (x_block_out ?_)))
    refine x_then_n ?_
    refine w_rs ?_
    refine step_pure mt (pu_assign rfl) rfl (fun a mt => ?_)
    refine step_pure mt (pu_assign rfl) rfl (fun a mt => ?_)
    refine w_nil ?_
    refine w_ret ?_
    refine post_ret2 mt rfl rfl rfl ?_
    have e : all.drop k = [] := List.drop_eq_nil_of_le (by omega)
    rw [e] at hfind
    have hfin : witF l all t x y = none := hfind
    exact ⟨_, rfl, st.below, by rw [hfin]⟩
end Go.Proofs.YtoilfakpgcjjpaaDoor.Log
namespace Go.Proofs.YtoilfakpgcjjpaaDoor.Eng
open Go Go.RowKit
set_option linter.unusedVariables false
set_option linter.unusedSimpArgs false
theorem one_bool (b : Bool) : (Value.bool b).oneCell' = true := rfl
theorem one_slice (a : Option Addr) (m c : Nat) : (Value.slice a m c).oneCell' = true := rfl
theorem one_int (k : IntKind) (i : Int) : (Value.int k i).oneCell' = true := rfl
theorem one_str (s : ByteArray) : (Value.string s).oneCell' = true := rfl
theorem one_ptr (a : Option Addr) : (Value.pointer a).oneCell' = true := rfl
section
variable {P : Program} {Q : Exit → Act → World → Prop} {a : Act} {w w1 : World} {n : Nat} {L : List (Nat × Value)} {ops : Array Oper} {rest : List Oper}
  {d : Nat} {op : Op} {ty : TypeId} {pos : String} {af : Array Edge} {g : Option (Nat × Bool)} {dd : Option Tmp}
  {X : List Nat} {w0 : World} {I0 I : Hp} {M R : List Item}
/-- an operation under a guard that was itself passed over -/
theorem step_skip_u {j : Nat} {b : Bool} {t : Nat} (mt : Mt n a L) (hj : (ops[j]?).bind (·.dst) = some t) (ht : look L t = some undef) (hd : Nat.blt d n = true)
    (k : ∀ a', Mt n a' ((d, undef) :: L) → wpList P ops Q rest a' w) : wpList P ops Q (⟨some d, op, ty, pos, af, some (j, b)⟩ :: rest) a w := by
  refine wpList_step fun K hK => ?_
  have hy : yielded ops a.tmps j = none := by
    have := mt.at_ t _ ht
    unfold yielded
    rw [hj]
    simp only [Option.bind_some]
    rw [Array.getD_eq_getD_getElem?] at this
    cases hq : a.tmps[t]? with
    | none => rfl
    | some u => rw [hq] at this; simp at this; rw [this]; rfl
  rw [if_neg (by cases b <;> simp [Region.wanted, hy])]
  exact hK _ _ (k _ (mt.put d undef hd))
/-- an element of a row, read in the world's own memory -/
theorem pu_loadH {x : Operand} {t : TypeId} {i : Int} {v u : Value} {m : Nat} {vs : List Value} (hs : scalB P t = true) (r : RdS (hp w1) v 1 m vs) (hx : ev L x = some (.pointer (some ⟨adB v, adO v + i.toNat * 1, none⟩))) (hu : vs[i.toNat]? = some u) :
    PureE P n L w1 ⟨dd, .load t x, ty, pos, af, g⟩ u := pu_load hs hx (by rw [Nat.mul_one]; exact r.cell hu)
/-- a result that reads -/
def RdX (I : Hp) (w1 : World) (sz m : Nat) (us : List Value) (v : Value) (w : World) : Prop := RdS (Iext I w1 w) v sz m us
theorem RdX.later {I : Hp} {w1 : World} {sz m : Nat} {us : List Value} (u : Value) (w w' : World) (h1 : Below w1.heap.size w1 w) (h2 : Below w.heap.size w w') (h : RdX I w1 sz m us u w) : RdX I w1 sz m us u w' := RdS.mono (Iext_later h1 h2) h
theorem mo_callR {i : Nat} {B : List (Nat × Value)} {acc : Acc} {f : FuncId} {xs : Array Operand} {ts : Array TypeId} {vs : List Value} {sz m : Nat} {us : List Value} (hf : callB P f = true) (hI : Sub I (hp w1))
    (hx : xs.toList.map (ev (app (knownA (depsOf ⟨some d, .call { callee := .value (.func f), args := xs, argTypes := ts }, ty, pos, af, none⟩) acc) B)) = vs.map some)
    (hc : ∀ w, Below w1.heap.size w1 w → Sub (Iext I w1 w) (hp w) → Sub I (Iext I w1 w) → CallsX P f vs.toArray w fun v w' => RdS (Iext (Iext I w1 w) w w') v sz m us)
    (kk : MonoL P ops Q n w1 B (i + 1) rest ((i, d, .pr (RdX I w1 sz m us)) :: acc)) :
    MonoL P ops Q n w1 B i (⟨some d, .call { callee := .value (.func f), args := xs, argTypes := ts }, ty, pos, af, none⟩ :: rest) acc :=
  mo_callk _ hf hx RdX.later (fun w hb => (hc w hb (Iext_hp hI hb) (Iext_sub hI w)).mono fun v w' hb' h => RdS.mono (Log.Iext_Iext hb hb') h) kk
theorem mo_callv_g {i : Nat} {B : List (Nat × Value)} {acc : Acc} {f : FuncId} {xs : Array Operand} {ts : Array TypeId} {vs : List Value} {v : Value} {j t : Nat} {b : Bool} (hj : (ops[j]?).bind (·.dst) = some t) (ht : look (app (knownA (depsOf ⟨some d, .call { callee := .value (.func f), args := xs, argTypes := ts }, ty, pos, af, some (j, b)⟩) acc) B) t = some (.bool b)) (hf : callB P f = true)
    (hx : xs.toList.map (ev (app (knownA (depsOf ⟨some d, .call { callee := .value (.func f), args := xs, argTypes := ts }, ty, pos, af, some (j, b)⟩) acc) B)) = vs.map some)
    (hc : ∀ w, Below w1.heap.size w1 w → CallsX P f vs.toArray w fun u _ => u = v)
    (k : MonoL P ops Q n w1 B (i + 1) rest ((i, d, .ex v) :: acc)) : MonoL P ops Q n w1 B i (⟨some d, .call { callee := .value (.func f), args := xs, argTypes := ts }, ty, pos, af, some (j, b)⟩ :: rest) acc :=
  ⟨.ex v, trivial, fun a w mt pr hb K hK => by
    have hy := yields_of mt hj ht
    unfold stepO
    rw [if_pos (by simp [Region.wanted, hy])]
    unfold Oper.wp
    have : (execOp a.eval ⟨some d, .call { callee := .value (.func f), args := xs, argTypes := ts }, ty, pos, af, some (j, b)⟩).run P w = .ok (.enter f vs.toArray) w := by
      have e : a.eval (.func f) = .func (.func f) #[] #[] := rfl
      simp [execOp, resolve, Deferred.ofValue, e, invoke, evs_arr mt xs vs hx, run_callFunc hf]
    rw [this]
    refine Calls.mono (hc w hb) fun e w' ⟨u, he, hb', hu⟩ => ?_
    subst he; subst hu
    exact hK _ w' hb' rfl, k⟩
/-- a guarded call whose results are sealed -/
theorem s_call_g {f : FuncId} {xs : Array Operand} {ts : Array TypeId} {vs : List Value} {Φ : Value → World → Prop} {j : Nat} {b : Bool} {t : Nat} (mt : Mt n a L) (st : St X w0 I0 w I M) (hj : (ops[j]?).bind (·.dst) = some t) (ht : Eng.look L t = some (.bool b))
    (hf : callB P f = true) (hx : xs.toList.map (ev L) = vs.map some) (hc : CallsX P f vs.toArray w Φ) (hd : Nat.blt d n = true)
    (k : ∀ a' w' v, Mt n a' ((d, v) :: L) → St X w0 I0 w' (Iext I w w') M → Sub I (Iext I w w') → Φ v w' → wpList P ops Q rest a' w') :
    wpList P ops Q (⟨some d, .call { callee := .value (.func f), args := xs, argTypes := ts }, ty, pos, af, some (j, b)⟩ :: rest) a w := by
  refine wpList_step fun K hK => ?_
  have hy := yields_of (ops := ops) mt hj ht
  rw [if_pos (by simp [Region.wanted, hy])]
  unfold Oper.wp
  have : (execOp a.eval ⟨some d, .call { callee := .value (.func f), args := xs, argTypes := ts }, ty, pos, af, some (j, b)⟩).run P w = .ok (.enter f vs.toArray) w := by
    have e : a.eval (.func f) = .func (.func f) #[] #[] := rfl
    simp [execOp, resolve, Deferred.ofValue, e, invoke, evs_arr mt xs vs hx, run_callFunc hf]
  rw [this]
  refine Calls.mono hc fun e w' ⟨u, he, hb, hu⟩ => ?_
  subst he
  exact hK _ _ (k _ w' u (mt.put d _ hd) (st.extI hb) (Iext_sub st.agr w') hu)
theorem results_aggT {fn : Func} {tmps : Array Value} {w : World} {P : Program} {t t' : Tmp} {ty : TypeId} {b m : Nat} {cs : Array Value} {T : TypeId} {f : Nat × Nat} {u : Value} (hr : fn.results = #[.cell t ty, .tmp t']) (ht : tmps.getD t undef = .pointer (some ⟨b, 0, none⟩)) (hu : tmps.getD t' undef = u) (hs : aggB P ty m = true) (hl : cs.size = m) (hb : hp w b = some (.cells cs T f)) : (results fn tmps).run P w = .ok (.tuple #[.agg cs, u]) w := by
  have := run_loadVar_agg (P := P) (w := w) (ad := ⟨b, 0, none⟩) (cs := cs.toList) hs (by simpa using hl) (fun j u hu => by
    rw [add_plain, ← cellI_hp, Nat.zero_add, cellI_blk hb]; simpa using hu)
  simp only [Array.toArray_toList] at this
  have ht' : tmps[t]?.getD undef = .pointer (some ⟨b, 0, none⟩) := by simpa using ht
  have hu' : tmps[t']?.getD undef = u := by simpa using hu
  have ha : ∀ (x : Addr), (asAddr (.pointer (some x))).run P w = .ok x w := fun x => by simp [go_sem]
  simp [results, hr, ht', hu', ha, this]
end
end Go.Proofs.YtoilfakpgcjjpaaDoor.Eng
namespace Go.Proofs.YtoilfakpgcjjpaaDoor.Log
open Go Go.RowKit Go.Proofs.YtoilfakpgcjjpaaDoor Go.Proofs.YtoilfakpgcjjpaaDoor.Eng
set_option linter.unusedVariables false
set_option linter.unusedSimpArgs false
set_option maxRecDepth 100000
def Closed (l : List Fm) : Prop := ∀ x ∈ l, x.depth ≤ 4000 ∧ match x with
  | .and a b => a ∈ l ∧ b ∈ l
  | .or a b => a ∈ l ∧ b ∈ l
  | .imp a b => a ∈ l ∧ b ∈ l
  | _ => True
def thG (l : List Fm) (t i : Nat) : Bool := match l[i]? with
  | some .fls => !bitN t i
  | some (.and a b) => bitN t i == (hasF l t a && hasF l t b)
  | some (.or a b) => bitN t i == (hasF l t a || hasF l t b)
  | some (.imp a b) => !(bitN t i && hasF l t a && !hasF l t b)
  | _ => true
def isThF (l : List Fm) (t : Nat) : Bool := (List.range l.length).all (thG l t)
theorem isTheory_ok {I : Hp} (bp : Nat) (l : List Fm) (t : Nat) (w : World) (hI : Sub I (hp w)) (hp' : PrtV I bp l) (ht : t < 1000000) (hl : l.length ≤ 12) (hcl : Closed l) :
    CallsX Tryd.prog 81 #[pv bp, .int .i64 t] w fun v _ => v = .bool (isThF l t) := by
  have st := St.start (w0 := w) (I0 := I) hI
  obtain ⟨lv, hc, hr⟩ := id hp'
  obtain ⟨lad, lcc, rfl, _⟩ := hr.len
  refine CallsX.of (nn := 86) Tryd.func81 rfl rfl rfl (fun a mt => ?_)
  refine w_rs ?_
  refine step_pure mt (pu_assign rfl) rfl (fun a mt => ?_)
  refine w_nil ?_
  refine w_seq ?_
  refine w_rs ?_
  refine step_pure mt (pu_move rfl) rfl (fun a mt => ?_)
  refine step_pure mt (pu_nilCheck rfl) rfl (fun a mt => ?_)
  refine step_pure mt (pu_fld 0 K.fl114_0 rfl) rfl (fun a mt => ?_)
  refine step_pure mt (pu_loadI st K.sc85 rfl hc) rfl (fun a mt => ?_)
  refine step_pure mt (pu_len rfl K.un85) rfl (fun a mt => ?_)
  refine step_pure mt (pu_move rfl) rfl (fun a mt => ?_)
  refine w_nil ?_
  refine w_block ?_
  refine w_loop (ι := Nat) (fun k a w' => k ≤ l.length ∧ ∃ M, Mt 86 a [(0, pv bp), (1, .int .i64 t), (15, .slice lad l.length lcc), (16, .int .i64 l.length), (17, .int .i64 k)] ∧ St [] w I w' I M ∧ isThF l t = ((List.range l.length).drop k).all (thG l t)) (fun k => l.length - k) 0
    ⟨Nat.zero_le _, _, mt.sub ⟨rfl, rfl, rfl, rfl, rfl, trivial⟩, st, rfl⟩ (fun k a w' hI' => ?_)
  obtain ⟨hk, M, mt, st, hall⟩ := hI'
  refine w_rs ?_
  refine step_pure mt (pu_lss rfl rfl) rfl (fun a mt => ?_)
  refine w_nil ?_
  refine w_seq ?_
  refine w_cond mt rfl (fun h18 => ?_) (fun h18 => ?_)
  · have hkl : k < l.length := by omega
    rw [all_drop hkl] at hall
    have hx : l[k]? = some l[k] := List.getElem?_eq_getElem hkl
    have hxl : l[k] ∈ l := List.getElem_mem hkl
    generalize hxe : l[k] = x at hx hxl
    have hu : (l.map enc)[((k : Nat) : Int).toNat]? = some (enc x) := by simp [hx]
    have hdiv : t / 2 ^ k ≤ t := Nat.div_le_self _ _
    obtain ⟨hxd, hxc⟩ := hcl x hxl
    refine w_skip ?_
    refine x_then_n ?_
    refine w_seq ?_
    refine w_block ?_
    refine w_rs ?_
    refine step_pure mt (pu_move rfl) rfl (fun a mt => ?_)
    refine step_pure mt (pu_ia (m := l.length) (i := k) K.el85 (by decide) rfl hr rfl (by omega) (by omega)) rfl (fun a mt => ?_)
    refine step_pure mt (pu_loadR st K.sc66 hr rfl hu) rfl (fun a mt => ?_)
    refine step_pure mt (pu_assign rfl) rfl (fun a mt => ?_)
    refine step_pure mt (pu_assign rfl) rfl (fun a mt => ?_)
    refine w_nil ?_
    refine w_rs ?_
    refine step_pure mt (pu_move rfl) rfl (fun a mt => ?_)
    refine step_pure mt (pu_move rfl) rfl (fun a mt => ?_)
    refine step_pure mt ((pu_shr rfl rfl (by omega)).to (u := .int .i64 ((t / 2 ^ k : Nat) : Int)) (congrArg (Value.int .i64) (shrN (by omega)))) rfl (fun a mt => ?_)
    refine step_pure mt ((pu_and rfl rfl).to (u := .int .i64 ((t / 2 ^ k % 2 : Nat) : Int)) (congrArg (Value.int .i64) (and_oneN (by omega)))) rfl (fun a mt => ?_)
    refine step_pure mt ((pu_eql rfl rfl).to (u := .bool (bitN t k)) (by unfold bitN; congr 1; exact decide_eq_decide.2 (by omega))) rfl (fun a mt => ?_)
    refine step_pure mt (pu_assign rfl) rfl (fun a mt => ?_)
    refine w_nil ?_
    refine w_rs ?_
    refine step_pure mt (pu_move rfl) rfl (fun a mt => ?_)
    rcases x with _ | c | ⟨xa, xb⟩ | ⟨xa, xb⟩ | ⟨xa, xb⟩
    · have hg : thG l t k = !bitN t k := by unfold thG; rw [hx]
      rw [hg] at hall
      refine w_nil ?_
      refine w_block ?_
      refine w_rs ?_
      refine step_pure mt (pu_assert_yes K.cc71 rfl) rfl (fun a mt => ?_)
      refine step_pure mt (pu_extract rfl rfl) rfl (fun a mt => ?_)
      refine step_pure mt (pu_extract rfl rfl) rfl (fun a mt => ?_)
      refine w_nil ?_
      refine w_true mt rfl ?_
      refine w_rs ?_
      refine step_alloc mt st (al_alloc K.ze71 rfl) rfl (fun a w' b8 mt st => ?_)
      refine s_storeA mt st K.sz71 rfl rfl rfl (by first | (simp [Value.oneCell']; done) | (simp [enc_one]; done)) rfl rfl (fun w' st => ?_)
      refine w_nil ?_
      refine w_rs ?_
      refine step_pure mt (pu_move rfl) rfl (fun a mt => ?_)
      refine w_nil ?_
      refine w_cond_b mt rfl (fun h31 => ?_) (fun h31 => ?_)
      · refine w_rs ?_
        refine step_pure mt (pu_assign rfl) rfl (fun a mt => ?_)
        refine w_nil ?_
        refine w_ret (x_block_ret (x_block_ret (x_then_ret (x_then_ret (x_block_ret (x_then_ret ?_))))))
        refine post_ret1 mt rfl rfl ?_
        exact ⟨_, rfl, st.below, by rw [hall]; simp_all⟩
      · refine w_skip ?_
        refine x_block_n ?_
        refine x_block_n ?_
        refine x_then_n ?_
        refine w_region ?_
        refine step_pure mt (pu_add_i rfl rfl (by omega)) rfl (fun a mt => ?_)
        refine step_pure mt (pu_move rfl) rfl (fun a mt => ?_)
        refine w_nil' ?_
        refine x_then_n ?_
        exact ⟨k + 1, ⟨by omega, _, mt.sub ⟨rfl, rfl, rfl, rfl, rfl, trivial⟩, st, by rw [hall]; simp_all⟩, by omega⟩
    · have hg : thG l t k = true := by unfold thG; rw [hx]
      rw [hg] at hall
      refine w_nil ?_
      refine w_block ?_
      refine w_rs ?_
      refine step_pure mt (pu_assert_no K.cc71 rfl rfl K.ze71) rfl (fun a mt => ?_)
      refine step_pure mt (pu_extract rfl rfl) rfl (fun a mt => ?_)
      refine step_pure mt (pu_extract rfl rfl) rfl (fun a mt => ?_)
      refine w_nil ?_
      refine w_false mt rfl ?_
      refine w_rs ?_
      refine step_pure mt (pu_assert_no K.cc110 rfl rfl K.ze110) rfl (fun a mt => ?_)
      refine step_pure mt (pu_extract rfl rfl) rfl (fun a mt => ?_)
      refine step_pure mt (pu_extract rfl rfl) rfl (fun a mt => ?_)
      refine w_nil ?_
      refine w_false mt rfl ?_
      refine w_rs ?_
      refine step_pure mt (pu_assert_no K.cc111 rfl rfl K.ze111) rfl (fun a mt => ?_)
      refine step_pure mt (pu_extract rfl rfl) rfl (fun a mt => ?_)
      refine step_pure mt (pu_extract rfl rfl) rfl (fun a mt => ?_)
      refine w_nil ?_
      refine w_false mt rfl ?_
      refine w_rs ?_
      refine step_pure mt (pu_assert_no K.cc73 rfl rfl K.ze73) rfl (fun a mt => ?_)
      refine step_pure mt (pu_extract rfl rfl) rfl (fun a mt => ?_)
      refine step_pure mt (pu_extract rfl rfl) rfl (fun a mt => ?_)
      refine w_nil ?_
      refine w_false mt rfl ?_
      refine w_skip ?_
      refine x_block_n ?_
      refine x_block_n ?_
      refine x_then_n ?_
      refine w_region ?_
      refine step_pure mt (pu_add_i rfl rfl (by omega)) rfl (fun a mt => ?_)
      refine step_pure mt (pu_move rfl) rfl (fun a mt => ?_)
      refine w_nil' ?_
      refine x_then_n ?_
      exact ⟨k + 1, ⟨by omega, _, mt.sub ⟨rfl, rfl, rfl, rfl, rfl, trivial⟩, st, by rw [hall]; simp_all⟩, by omega⟩
    · have hg : thG l t k = (bitN t k == (hasF l t xa && hasF l t xb)) := by unfold thG; rw [hx]
      rw [hg] at hall
      have hda := (hcl xa hxc.1).1
      have hdb := (hcl xb hxc.2).1
      refine w_nil ?_
      refine w_block ?_
      refine w_rs ?_
      refine step_pure mt (pu_assert_no K.cc71 rfl rfl K.ze71) rfl (fun a mt => ?_)
      refine step_pure mt (pu_extract rfl rfl) rfl (fun a mt => ?_)
      refine step_pure mt (pu_extract rfl rfl) rfl (fun a mt => ?_)
      refine w_nil ?_
      refine w_false mt rfl ?_
      refine w_rs ?_
      refine step_pure mt (pu_assert_yes K.cc110 rfl) rfl (fun a mt => ?_)
      refine step_pure mt (pu_extract rfl rfl) rfl (fun a mt => ?_)
      refine step_pure mt (pu_extract rfl rfl) rfl (fun a mt => ?_)
      refine w_nil ?_
      refine w_true mt rfl ?_
      refine w_rs ?_
      refine step_alloc mt st (al_alloc K.ze110 rfl) rfl (fun a w' b9 mt st => ?_)
      refine s_storeA mt st K.sz110 rfl rfl rfl (by first | (simp [Value.oneCell']; done) | (simp [enc_one]; done)) rfl rfl (fun w' st => ?_)
      refine w_nil ?_
      refine w_rs ?_
      refine step_pure mt (pu_move rfl) rfl (fun a mt => ?_)
      refine step_pure mt (pu_move rfl) rfl (fun a mt => ?_)
      refine step_pure mt (pu_move rfl) rfl (fun a mt => ?_)
      refine step_pure mt (pu_fld 0 K.fl110_0 rfl) rfl (fun a mt => ?_)
      refine step_pure mt (pu_loadM st K.sc66 rfl rfl) rfl (fun a mt => ?_)
      refine s_callv mt st K.cb64 (vs := [pv bp, .int .i64 t, enc xa]) rfl (has2_ok bp l t xa _ st.agr (hp'.mono st.sub0) ht hl hxc.1 hda) rfl (fun a w' mt st => ?_)
      refine step_pure mt (pu_move rfl) rfl (fun a mt => ?_)
      refine split_b 41 mt rfl (fun g41 mt => ?_) (fun g41 mt => ?_)
      · refine step_pure_g mt rfl rfl (pu_move rfl) rfl (fun a mt => ?_)
        refine step_pure_g mt rfl rfl (pu_move rfl) rfl (fun a mt => ?_)
        refine step_pure_g mt rfl rfl (pu_fld 1 K.fl110_1 rfl) rfl (fun a mt => ?_)
        refine step_pure_g mt rfl rfl (pu_loadM st K.sc66 rfl rfl) rfl (fun a mt => ?_)
        refine s_callv_g mt st rfl rfl K.cb64 (vs := [pv bp, .int .i64 t, enc xb]) rfl (has2_ok bp l t xb _ st.agr (hp'.mono st.sub0) ht hl hxc.2 hdb) rfl (fun a w' mt st => ?_)
        refine step_pure mt (pu_pick rfl rfl) rfl (fun a mt => ?_)
        refine step_pure mt (pu_neq_b rfl rfl K.un4) rfl (fun a mt => ?_)
        refine w_nil ?_
        refine w_cond_b mt rfl (fun h48 => ?_) (fun h48 => ?_)
        · refine w_rs ?_
          refine step_pure mt (pu_assign rfl) rfl (fun a mt => ?_)
          refine w_nil ?_
          refine w_ret (x_block_ret (x_block_ret (x_then_ret (x_then_ret (x_block_ret (x_then_ret ?_))))))
          refine post_ret1 mt rfl rfl ?_
          exact ⟨_, rfl, st.below, by rw [hall]; simp_all⟩
        · refine w_skip ?_
          refine x_block_n ?_
          refine x_block_n ?_
          refine x_then_n ?_
          refine w_region ?_
          refine step_pure mt (pu_add_i rfl rfl (by omega)) rfl (fun a mt => ?_)
          refine step_pure mt (pu_move rfl) rfl (fun a mt => ?_)
          refine w_nil' ?_
          refine x_then_n ?_
          exact ⟨k + 1, ⟨by omega, _, mt.sub ⟨rfl, rfl, rfl, rfl, rfl, trivial⟩, st, by rw [hall]; simp_all⟩, by omega⟩
      · refine step_skip_g mt rfl rfl rfl rfl (fun a mt => ?_)
        refine step_skip_g mt rfl rfl rfl rfl (fun a mt => ?_)
        refine step_skip_g mt rfl rfl rfl rfl (fun a mt => ?_)
        refine step_skip_g mt rfl rfl rfl rfl (fun a mt => ?_)
        refine step_skip_g mt rfl rfl rfl rfl (fun a mt => ?_)
        refine step_pure mt (pu_pick rfl rfl) rfl (fun a mt => ?_)
        refine step_pure mt (pu_neq_b rfl rfl K.un4) rfl (fun a mt => ?_)
        refine w_nil ?_
        refine w_cond_b mt rfl (fun h48 => ?_) (fun h48 => ?_)
        · refine w_rs ?_
          refine step_pure mt (pu_assign rfl) rfl (fun a mt => ?_)
          refine w_nil ?_
          refine w_ret (x_block_ret (x_block_ret (x_then_ret (x_then_ret (x_block_ret (x_then_ret ?_))))))
          refine post_ret1 mt rfl rfl ?_
          exact ⟨_, rfl, st.below, by rw [hall]; simp_all⟩
        · refine w_skip ?_
          refine x_block_n ?_
          refine x_block_n ?_
          refine x_then_n ?_
          refine w_region ?_
          refine step_pure mt (pu_add_i rfl rfl (by omega)) rfl (fun a mt => ?_)
          refine step_pure mt (pu_move rfl) rfl (fun a mt => ?_)
          refine w_nil' ?_
          refine x_then_n ?_
          exact ⟨k + 1, ⟨by omega, _, mt.sub ⟨rfl, rfl, rfl, rfl, rfl, trivial⟩, st, by rw [hall]; simp_all⟩, by omega⟩
    · have hg : thG l t k = (bitN t k == (hasF l t xa || hasF l t xb)) := by unfold thG; rw [hx]
      rw [hg] at hall
      have hda := (hcl xa hxc.1).1
      have hdb := (hcl xb hxc.2).1
      refine w_nil ?_
      refine w_block ?_
      refine w_rs ?_
      refine step_pure mt (pu_assert_no K.cc71 rfl rfl K.ze71) rfl (fun a mt => ?_)
      refine step_pure mt (pu_extract rfl rfl) rfl (fun a mt => ?_)
      refine step_pure mt (pu_extract rfl rfl) rfl (fun a mt => ?_)
      refine w_nil ?_
      refine w_false mt rfl ?_
      refine w_rs ?_
      refine step_pure mt (pu_assert_no K.cc110 rfl rfl K.ze110) rfl (fun a mt => ?_)
      refine step_pure mt (pu_extract rfl rfl) rfl (fun a mt => ?_)
      refine step_pure mt (pu_extract rfl rfl) rfl (fun a mt => ?_)
      refine w_nil ?_
      refine w_false mt rfl ?_
      refine w_rs ?_
      refine step_pure mt (pu_assert_yes K.cc111 rfl) rfl (fun a mt => ?_)
      refine step_pure mt (pu_extract rfl rfl) rfl (fun a mt => ?_)
      refine step_pure mt (pu_extract rfl rfl) rfl (fun a mt => ?_)
      refine w_nil ?_
      refine w_true mt rfl ?_
      refine w_rs ?_
      refine step_alloc mt st (al_alloc K.ze111 rfl) rfl (fun a w' b10 mt st => ?_)
      refine s_storeA mt st K.sz111 rfl rfl rfl (by first | (simp [Value.oneCell']; done) | (simp [enc_one]; done)) rfl rfl (fun w' st => ?_)
      refine w_nil ?_
      refine w_rs ?_
      refine step_pure mt (pu_move rfl) rfl (fun a mt => ?_)
      refine step_pure mt (pu_move rfl) rfl (fun a mt => ?_)
      refine step_pure mt (pu_move rfl) rfl (fun a mt => ?_)
      refine step_pure mt (pu_fld 0 K.fl111_0 rfl) rfl (fun a mt => ?_)
      refine step_pure mt (pu_loadM st K.sc66 rfl rfl) rfl (fun a mt => ?_)
      refine s_callv mt st K.cb64 (vs := [pv bp, .int .i64 t, enc xa]) rfl (has2_ok bp l t xa _ st.agr (hp'.mono st.sub0) ht hl hxc.1 hda) rfl (fun a w' mt st => ?_)
      refine step_pure mt (pu_move rfl) rfl (fun a mt => ?_)
      refine split_b 58 mt rfl (fun g58 mt => ?_) (fun g58 mt => ?_)
      · refine step_skip_g mt rfl rfl rfl rfl (fun a mt => ?_)
        refine step_skip_g mt rfl rfl rfl rfl (fun a mt => ?_)
        refine step_skip_g mt rfl rfl rfl rfl (fun a mt => ?_)
        refine step_skip_g mt rfl rfl rfl rfl (fun a mt => ?_)
        refine step_skip_g mt rfl rfl rfl rfl (fun a mt => ?_)
        refine step_pure mt (pu_pick rfl rfl) rfl (fun a mt => ?_)
        refine step_pure mt (pu_neq_b rfl rfl K.un4) rfl (fun a mt => ?_)
        refine w_nil ?_
        refine w_cond_b mt rfl (fun h65 => ?_) (fun h65 => ?_)
        · refine w_rs ?_
          refine step_pure mt (pu_assign rfl) rfl (fun a mt => ?_)
          refine w_nil ?_
          refine w_ret (x_block_ret (x_block_ret (x_then_ret (x_then_ret (x_block_ret (x_then_ret ?_))))))
          refine post_ret1 mt rfl rfl ?_
          exact ⟨_, rfl, st.below, by rw [hall]; simp_all⟩
        · refine w_skip ?_
          refine x_block_n ?_
          refine x_block_n ?_
          refine x_then_n ?_
          refine w_region ?_
          refine step_pure mt (pu_add_i rfl rfl (by omega)) rfl (fun a mt => ?_)
          refine step_pure mt (pu_move rfl) rfl (fun a mt => ?_)
          refine w_nil' ?_
          refine x_then_n ?_
          exact ⟨k + 1, ⟨by omega, _, mt.sub ⟨rfl, rfl, rfl, rfl, rfl, trivial⟩, st, by rw [hall]; simp_all⟩, by omega⟩
      · refine step_pure_g mt rfl rfl (pu_move rfl) rfl (fun a mt => ?_)
        refine step_pure_g mt rfl rfl (pu_move rfl) rfl (fun a mt => ?_)
        refine step_pure_g mt rfl rfl (pu_fld 1 K.fl111_1 rfl) rfl (fun a mt => ?_)
        refine step_pure_g mt rfl rfl (pu_loadM st K.sc66 rfl rfl) rfl (fun a mt => ?_)
        refine s_callv_g mt st rfl rfl K.cb64 (vs := [pv bp, .int .i64 t, enc xb]) rfl (has2_ok bp l t xb _ st.agr (hp'.mono st.sub0) ht hl hxc.2 hdb) rfl (fun a w' mt st => ?_)
        refine step_pure mt (pu_pick rfl rfl) rfl (fun a mt => ?_)
        refine step_pure mt (pu_neq_b rfl rfl K.un4) rfl (fun a mt => ?_)
        refine w_nil ?_
        refine w_cond_b mt rfl (fun h65 => ?_) (fun h65 => ?_)
        · refine w_rs ?_
          refine step_pure mt (pu_assign rfl) rfl (fun a mt => ?_)
          refine w_nil ?_
          refine w_ret (x_block_ret (x_block_ret (x_then_ret (x_then_ret (x_block_ret (x_then_ret ?_))))))
          refine post_ret1 mt rfl rfl ?_
          exact ⟨_, rfl, st.below, by rw [hall]; simp_all⟩
        · refine w_skip ?_
          refine x_block_n ?_
          refine x_block_n ?_
          refine x_then_n ?_
          refine w_region ?_
          refine step_pure mt (pu_add_i rfl rfl (by omega)) rfl (fun a mt => ?_)
          refine step_pure mt (pu_move rfl) rfl (fun a mt => ?_)
          refine w_nil' ?_
          refine x_then_n ?_
          exact ⟨k + 1, ⟨by omega, _, mt.sub ⟨rfl, rfl, rfl, rfl, rfl, trivial⟩, st, by rw [hall]; simp_all⟩, by omega⟩
    · have hg : thG l t k = !(bitN t k && hasF l t xa && !hasF l t xb) := by unfold thG; rw [hx]
      rw [hg] at hall
      have hda := (hcl xa hxc.1).1
      have hdb := (hcl xb hxc.2).1
      refine w_nil ?_
      refine w_block ?_
      refine w_rs ?_
      refine step_pure mt (pu_assert_no K.cc71 rfl rfl K.ze71) rfl (fun a mt => ?_)
      refine step_pure mt (pu_extract rfl rfl) rfl (fun a mt => ?_)
      refine step_pure mt (pu_extract rfl rfl) rfl (fun a mt => ?_)
      refine w_nil ?_
      refine w_false mt rfl ?_
      refine w_rs ?_
      refine step_pure mt (pu_assert_no K.cc110 rfl rfl K.ze110) rfl (fun a mt => ?_)
      refine step_pure mt (pu_extract rfl rfl) rfl (fun a mt => ?_)
      refine step_pure mt (pu_extract rfl rfl) rfl (fun a mt => ?_)
      refine w_nil ?_
      refine w_false mt rfl ?_
      refine w_rs ?_
      refine step_pure mt (pu_assert_no K.cc111 rfl rfl K.ze111) rfl (fun a mt => ?_)
      refine step_pure mt (pu_extract rfl rfl) rfl (fun a mt => ?_)
      refine step_pure mt (pu_extract rfl rfl) rfl (fun a mt => ?_)
      refine w_nil ?_
      refine w_false mt rfl ?_
      refine w_rs ?_
      refine step_pure mt (pu_assert_yes K.cc73 rfl) rfl (fun a mt => ?_)
      refine step_pure mt (pu_extract rfl rfl) rfl (fun a mt => ?_)
      refine step_pure mt (pu_extract rfl rfl) rfl (fun a mt => ?_)
      refine w_nil ?_
      refine w_true mt rfl ?_
      refine w_rs ?_
      refine step_alloc mt st (al_alloc K.ze73 rfl) rfl (fun a w' b11 mt st => ?_)
      refine s_storeA mt st K.sz73 rfl rfl rfl (by first | (simp [Value.oneCell']; done) | (simp [enc_one]; done)) rfl rfl (fun w' st => ?_)
      refine w_nil ?_
      refine w_rs ?_
      refine step_pure mt (pu_move rfl) rfl (fun a mt => ?_)
      refine step_pure mt (pu_move rfl) rfl (fun a mt => ?_)
      refine split_b 70 mt rfl (fun g70 mt => ?_) (fun g70 mt => ?_)
      · refine step_pure_g mt rfl rfl (pu_move rfl) rfl (fun a mt => ?_)
        refine step_pure_g mt rfl rfl (pu_move rfl) rfl (fun a mt => ?_)
        refine step_pure_g mt rfl rfl (pu_fld 0 K.fl73_0 rfl) rfl (fun a mt => ?_)
        refine step_pure_g mt rfl rfl (pu_loadM st K.sc66 rfl rfl) rfl (fun a mt => ?_)
        refine s_callv_g mt st rfl rfl K.cb64 (vs := [pv bp, .int .i64 t, enc xa]) rfl (has2_ok bp l t xa _ st.agr (hp'.mono st.sub0) ht hl hxc.1 hda) rfl (fun a w' mt st => ?_)
        refine step_pure mt (pu_pick rfl rfl) rfl (fun a mt => ?_)
        refine step_pure mt (pu_move rfl) rfl (fun a mt => ?_)
        refine split_b 77 mt rfl (fun g77 mt => ?_) (fun g77 mt => ?_)
        · refine step_pure_g mt rfl rfl (pu_move rfl) rfl (fun a mt => ?_)
          refine step_pure_g mt rfl rfl (pu_move rfl) rfl (fun a mt => ?_)
          refine step_pure_g mt rfl rfl (pu_fld 1 K.fl73_1 rfl) rfl (fun a mt => ?_)
          refine step_pure_g mt rfl rfl (pu_loadM st K.sc66 rfl rfl) rfl (fun a mt => ?_)
          refine s_callv_g mt st rfl rfl K.cb64 (vs := [pv bp, .int .i64 t, enc xb]) rfl (has2_ok bp l t xb _ st.agr (hp'.mono st.sub0) ht hl hxc.2 hdb) rfl (fun a w' mt st => ?_)
          refine step_pure_g mt rfl rfl (pu_not rfl) rfl (fun a mt => ?_)
          refine step_pure mt (pu_pick rfl rfl) rfl (fun a mt => ?_)
          refine w_nil ?_
          refine w_cond_b mt rfl (fun h84 => ?_) (fun h84 => ?_)
          · refine w_rs ?_
            refine step_pure mt (pu_assign rfl) rfl (fun a mt => ?_)
            refine w_nil ?_
            refine w_ret (x_block_ret (x_block_ret (x_then_ret (x_then_ret (x_block_ret (x_then_ret ?_))))))
            refine post_ret1 mt rfl rfl ?_
            exact ⟨_, rfl, st.below, by rw [hall]; simp_all⟩
          · refine w_skip ?_
            refine x_block_n ?_
            refine x_block_n ?_
            refine x_then_n ?_
            refine w_region ?_
            refine step_pure mt (pu_add_i rfl rfl (by omega)) rfl (fun a mt => ?_)
            refine step_pure mt (pu_move rfl) rfl (fun a mt => ?_)
            refine w_nil' ?_
            refine x_then_n ?_
            exact ⟨k + 1, ⟨by omega, _, mt.sub ⟨rfl, rfl, rfl, rfl, rfl, trivial⟩, st, by rw [hall]; simp_all⟩, by omega⟩
        · refine step_skip_g mt rfl rfl rfl rfl (fun a mt => ?_)
          refine step_skip_g mt rfl rfl rfl rfl (fun a mt => ?_)
          refine step_skip_g mt rfl rfl rfl rfl (fun a mt => ?_)
          refine step_skip_g mt rfl rfl rfl rfl (fun a mt => ?_)
          refine step_skip_g mt rfl rfl rfl rfl (fun a mt => ?_)
          refine step_skip_g mt rfl rfl rfl rfl (fun a mt => ?_)
          refine step_pure mt (pu_pick rfl rfl) rfl (fun a mt => ?_)
          refine w_nil ?_
          refine w_false mt rfl ?_
          refine w_skip ?_
          refine x_block_n ?_
          refine x_block_n ?_
          refine x_then_n ?_
          refine w_region ?_
          refine step_pure mt (pu_add_i rfl rfl (by omega)) rfl (fun a mt => ?_)
          refine step_pure mt (pu_move rfl) rfl (fun a mt => ?_)
          refine w_nil' ?_
          refine x_then_n ?_
          exact ⟨k + 1, ⟨by omega, _, mt.sub ⟨rfl, rfl, rfl, rfl, rfl, trivial⟩, st, by rw [hall]; simp_all⟩, by omega⟩
      · refine step_skip_g mt rfl rfl rfl rfl (fun a mt => ?_)
        refine step_skip_g mt rfl rfl rfl rfl (fun a mt => ?_)
        refine step_skip_g mt rfl rfl rfl rfl (fun a mt => ?_)
        refine step_skip_g mt rfl rfl rfl rfl (fun a mt => ?_)
        refine step_skip_g mt rfl rfl rfl rfl (fun a mt => ?_)
        refine step_pure mt (pu_pick rfl rfl) rfl (fun a mt => ?_)
        refine step_pure mt (pu_move rfl) rfl (fun a mt => ?_)
        refine step_skip_g mt rfl rfl rfl rfl (fun a mt => ?_)
        refine step_skip_g mt rfl rfl rfl rfl (fun a mt => ?_)
        refine step_skip_g mt rfl rfl rfl rfl (fun a mt => ?_)
        refine step_skip_g mt rfl rfl rfl rfl (fun a mt => ?_)
        refine step_skip_g mt rfl rfl rfl rfl (fun a mt => ?_)
        refine step_skip_g mt rfl rfl rfl rfl (fun a mt => ?_)
        refine step_pure mt (pu_pick rfl rfl) rfl (fun a mt => ?_)
        refine w_nil ?_
        refine w_false mt rfl ?_
        refine w_skip ?_
        refine x_block_n ?_
        refine x_block_n ?_
        refine x_then_n ?_
        refine w_region ?_
        refine step_pure mt (pu_add_i rfl rfl (by omega)) rfl (fun a mt => ?_)
        refine step_pure mt (pu_move rfl) rfl (fun a mt => ?_)
        refine w_nil' ?_
        refine x_then_n ?_
        exact ⟨k + 1, ⟨by omega, _, mt.sub ⟨rfl, rfl, rfl, rfl, rfl, trivial⟩, st, by rw [hall]; simp_all⟩, by omega⟩
  · refine w_exit (x_then_exit (x_then_exit (x_block_out ?_)))
    refine x_then_n ?_
    refine w_rs ?_
    refine step_pure mt (pu_assign rfl) rfl (fun a mt => ?_)
    refine w_nil ?_
    refine w_ret ?_
    refine post_ret1 mt rfl rfl ?_
    have e : (List.range l.length).drop k = [] := List.drop_eq_nil_of_le (by simp; omega)
    exact ⟨_, rfl, st.below, by rw [hall, e]; rfl⟩
end Go.Proofs.YtoilfakpgcjjpaaDoor.Log
namespace Go.Proofs.YtoilfakpgcjjpaaDoor.Log
open Go Go.RowKit Go.Proofs.YtoilfakpgcjjpaaDoor Go.Proofs.YtoilfakpgcjjpaaDoor.Eng
set_option linter.unusedVariables false
set_option linter.unusedSimpArgs false
set_option maxRecDepth 100000
def pairV (p : Fm × Fm) : Value := .agg #[enc p.1, enc p.2]
theorem thy1_ok (b1 b3 b7 bp : Nat) (l : List Fm) (all : List Nat) (av : Value) (t : Nat) (x y : Fm) (w : World) (h1 : cellI (hp w) b1 0 = some (pv bp)) (h3 : cellI (hp w) b3 0 = some av) (h7 : cellI (hp w) b7 0 = some (.int .i64 t))
    (hp' : PrtV (hp w) bp l) (ha : RdS (hp w) av 1 all.length (all.map natV)) (ht : t < 1000000) (hall : ∀ u ∈ all, u < 1000000) (hlen : all.length ≤ 1000000) (hl : l.length ≤ 12) (hx : x ∈ l) (hy : y ∈ l) (hdx : x.depth ≤ 4000) (hdy : y.depth ≤ 4000) :
    CallsX Tryd.prog 82 #[pairV (x, y), pv b1, pv b3, pv b7] w fun v _ => v = .bool (witF l all t x y).isNone := by
  have st := St.start (w0 := w) (I0 := hp w) (Sub.refl _)
  refine CallsX.of (nn := 18) Tryd.func82 rfl rfl rfl (fun a mt => ?_)
  refine w_rs ?_
  refine step_alloc mt st (al_box rfl rfl) rfl (fun a w' b4 mt st => ?_)
  refine step_pure mt (pu_assign rfl) rfl (fun a mt => ?_)
  refine w_nil ?_
  refine w_rs ?_
  refine step_pure mt (pu_loadI st K.sc112 rfl h1) rfl (fun a mt => ?_)
  refine step_pure mt (pu_loadI st K.sc116 rfl h3) rfl (fun a mt => ?_)
  refine step_pure mt (pu_loadI st K.sc119 rfl h7) rfl (fun a mt => ?_)
  refine step_pure mt (pu_loadMA st K.ag73 rfl rfl) rfl (fun a mt => ?_)
  refine s_call mt st K.cb66 (vs := [pv bp, av, .int .i64 t, .agg #[enc x, enc y]]) rfl (witness_ok bp l all av t x y _ st.agr (hp'.mono st.sub0) (ha.mono st.sub0) ht hall hlen hl hx hy hdx hdy) rfl (fun a w' v13 mt st hI13 hv13 => ?_)
  cases hw : witF l all t x y with
  | none =>
    rw [hw] at hv13; subst hv13
    refine step_pure mt (pu_move rfl) rfl (fun a mt => ?_)
    refine step_pure mt (pu_extract rfl rfl) rfl (fun a mt => ?_)
    refine step_pure mt (pu_extract rfl rfl) rfl (fun a mt => ?_)
    refine step_pure mt (pu_assign rfl) rfl (fun a mt => ?_)
    refine step_pure mt (pu_assign rfl) rfl (fun a mt => ?_)
    refine w_nil ?_
    refine w_rs ?_
    refine step_pure mt (pu_move rfl) rfl (fun a mt => ?_)
    refine step_pure mt (pu_not rfl) rfl (fun a mt => ?_)
    refine step_pure mt (pu_assign rfl) rfl (fun a mt => ?_)
    refine w_nil ?_
    refine w_ret ?_
    refine post_ret1 mt rfl rfl ?_
    exact ⟨_, rfl, st.below, rfl⟩
  | some u =>
    rw [hw] at hv13; subst hv13
    refine step_pure mt (pu_move rfl) rfl (fun a mt => ?_)
    refine step_pure mt (pu_extract rfl rfl) rfl (fun a mt => ?_)
    refine step_pure mt (pu_extract rfl rfl) rfl (fun a mt => ?_)
    refine step_pure mt (pu_assign rfl) rfl (fun a mt => ?_)
    refine step_pure mt (pu_assign rfl) rfl (fun a mt => ?_)
    refine w_nil ?_
    refine w_rs ?_
    refine step_pure mt (pu_move rfl) rfl (fun a mt => ?_)
    refine step_pure mt (pu_not rfl) rfl (fun a mt => ?_)
    refine step_pure mt (pu_assign rfl) rfl (fun a mt => ?_)
    refine w_nil ?_
    refine w_ret ?_
    refine post_ret1 mt rfl rfl ?_
    exact ⟨_, rfl, st.below, rfl⟩
def baseTo (l : List Fm) (k : Nat) : List Nat := (List.range k).filter (isThF l)
theorem baseTo_succ (l : List Fm) (k : Nat) : baseTo l (k + 1) = if isThF l k = true then baseTo l k ++ [k] else baseTo l k := by
  unfold baseTo
  rw [List.range_succ, List.filter_append]
  by_cases h : isThF l k = true <;> simp [h]
theorem baseTo_len (l : List Fm) (k : Nat) : (baseTo l k).length ≤ k := by
  unfold baseTo; exact Nat.le_trans (List.length_filter_le _ _) (by simp)
theorem baseTo_lt (l : List Fm) (k : Nat) : ∀ u ∈ baseTo l k, u < k := fun u hu => by
  have := (List.mem_filter.1 hu).1
  simpa using this
def badT (l : List Fm) (all : List Nat) (t : Nat) : Bool := (needF l t).any fun p => (witF l all t p.1 p.2).isNone
def leftTo (l : List Fm) (all : List Nat) (k : Nat) : List Nat := (all.take k).filter fun t => !badT l all t
theorem leftTo_succ {l : List Fm} {all : List Nat} {k t : Nat} (h : all[k]? = some t) : leftTo l all (k + 1) = if badT l all t = true then leftTo l all k else leftTo l all k ++ [t] := by
  unfold leftTo
  rw [List.take_add_one, h, List.filter_append]
  by_cases hb : badT l all t = true <;> simp [hb]
theorem leftTo_len (l : List Fm) (all : List Nat) (k : Nat) : (leftTo l all k).length ≤ all.length := by
  unfold leftTo
  exact Nat.le_trans (List.length_filter_le _ _) (by rw [List.length_take]; omega)
def leftF (l : List Fm) (all : List Nat) : List Nat := all.filter fun t => !badT l all t
theorem leftTo_all (l : List Fm) (all : List Nat) : leftTo l all all.length = leftF l all := by unfold leftTo leftF; rw [List.take_length]
def iterT (l : List Fm) : Nat → List Nat → List Nat
  | 0, all => all
  | f + 1, all => if (leftF l all).length = all.length then all else iterT l f (leftF l all)
def thsF (l : List Fm) : List Nat := iterT l ((baseTo l (2 ^ l.length)).length + 1) (baseTo l (2 ^ l.length))
theorem need_mem {l : List Fm} {t : Nat} {p : Fm × Fm} (h : p ∈ needF l t) : Fm.imp p.1 p.2 ∈ l := by
  unfold needF needTo at h
  obtain ⟨i, _, hi⟩ := List.mem_filterMap.1 h
  unfold needG at hi
  split at hi
  · rename_i a b e
    split at hi
    · cases hi
    · cases hi; exact List.mem_of_getElem? e
  · cases hi
theorem shl1 {n : Nat} (hn : n ≤ 12) : Value.int .i64 (IntKind.i64.wrap (1 * 2 ^ (min ((n : Nat) : Int).toNat IntKind.i64.bits))) = .int .i64 ((2 ^ n : Nat) : Int) := by
  have e : min ((n : Nat) : Int).toNat IntKind.i64.bits = n := by
    have : IntKind.i64.bits = 64 := rfl
    omega
  rw [e, Int.one_mul]
  have h2 : 2 ^ n ≤ 2 ^ 12 := Nat.pow_le_pow_right (by decide) hn
  have h3 : ((2 : Int) ^ n) = ((2 ^ n : Nat) : Int) := by norm_cast
  rw [h3]
  simp only [Nat.reducePow] at h2
  generalize 2 ^ n = m at *
  rw [i64_wrap (by omega)]
theorem theories_ok {I : Hp} (bp : Nat) (l : List Fm) (w : World) (hI : Sub I (hp w)) (hp' : PrtV I bp l) (hl : l.length ≤ 12) (hcl : Closed l) :
    CallsX Tryd.prog 61 #[pv bp] w fun v w' => RdS (Iext I w w') v 1 (thsF l).length ((thsF l).map natV) := by
  have st := St.start (w0 := w) (I0 := I) hI
  obtain ⟨lv, hc, hr⟩ := id hp'
  have h12 : 2 ^ l.length ≤ 2 ^ 12 := Nat.pow_le_pow_right (by decide) hl
  simp only [Nat.reducePow] at h12
  refine CallsX.of (nn := 51) Tryd.func61 rfl rfl rfl (fun a mt => ?_)
  refine w_rs ?_
  refine step_alloc mt st (al_box rfl rfl) rfl (fun a w' b1 mt st => ?_)
  refine step_pure mt (pu_assign rfl) rfl (fun a mt => ?_)
  refine w_nil ?_
  refine w_rs ?_
  refine step_alloc mt st (al_alloc K.ze116 rfl) rfl (fun a w' b3 mt st => ?_)
  have st := st.nilRow 119 1
  refine w_nil ?_
  refine w_seq ?_
  refine w_rs ?_
  refine step_pure mt (pu_loadM st K.sc112 rfl rfl) rfl (fun a mt => ?_)
  refine step_pure mt (pu_nilCheck rfl) rfl (fun a mt => ?_)
  refine step_pure mt (pu_fld 0 K.fl114_0 rfl) rfl (fun a mt => ?_)
  refine step_pure mt (pu_loadI st K.sc85 rfl hc) rfl (fun a mt => ?_)
  refine step_pure mt (pu_len_r rfl hr K.un85) rfl (fun a mt => ?_)
  refine step_pure mt ((pu_shl rfl rfl (by omega)).to (u := .int .i64 ((2 ^ l.length : Nat) : Int)) (shl1 hl)) rfl (fun a mt => ?_)
  refine step_pure mt (pu_move rfl) rfl (fun a mt => ?_)
  refine w_nil ?_
  refine w_block ?_
  refine w_loop (ι := Nat) (fun k a w' => k ≤ 2 ^ l.length ∧ ∃ I' v M, Mt 51 a [(1, pv b1), (3, pv b3), (14, .int .i64 ((2 ^ l.length : Nat) : Int)), (15, .int .i64 k)] ∧ St [] w I w' I' (.row v 119 1 (baseTo l k).length ((baseTo l k).map natV) :: .blk b3 (.cells #[v] 116 (0, 0)) :: .blk b1 (.cells #[pv bp] 112 (0, 0)) :: M)) (fun k => 2 ^ l.length - k) 0
    ⟨Nat.zero_le _, _, _, _, mt.sub ⟨rfl, rfl, rfl, rfl, trivial⟩, st⟩ (fun k a w' hI' => ?_)
  obtain ⟨hk, I', v, M, mt, st⟩ := hI'
  have hbl := baseTo_len l k
  refine w_rs ?_
  refine step_pure mt (pu_lss rfl rfl) rfl (fun a mt => ?_)
  refine w_nil ?_
  refine w_seq ?_
  refine w_cond mt rfl (fun h16 => ?_) (fun h16 => ?_)
  · refine w_skip ?_
    refine x_then_n ?_
    refine w_seq ?_
    refine w_block ?_
    refine w_rs ?_
    refine step_pure mt (pu_move rfl) rfl (fun a mt => ?_)
    refine step_pure mt (pu_assign rfl) rfl (fun a mt => ?_)
    refine w_nil ?_
    refine w_rs ?_
    refine step_pure mt (pu_loadM st K.sc112 rfl rfl) rfl (fun a mt => ?_)
    refine step_pure mt (pu_move rfl) rfl (fun a mt => ?_)
    refine s_callv mt st K.cb81 (vs := [pv bp, .int .i64 k]) rfl (isTheory_ok bp l k _ st.agr (hp'.mono st.sub0) (by omega) hl hcl) rfl (fun a w' mt st => ?_)
    refine w_nil ?_
    refine w_cond_b mt rfl (fun h20 => ?_) (fun h20 => ?_)
    · have e1 : baseTo l (k + 1) = baseTo l k ++ [k] := by rw [baseTo_succ, if_pos h20]
      refine w_region ?_
      refine step_pure mt (pu_loadM st K.sc116 rfl rfl) rfl (fun a mt => ?_)
      refine step_pure mt (pu_move rfl) rfl (fun a mt => ?_)
      refine step_alloc mt st (al_lit1 (vs := [.int .i64 k]) K.el116 rfl rfl rfl rfl rfl (by simp [Value.oneCell'])) rfl (fun a w' b23 mt st => ?_)
      refine s_append mt st K.el116 rfl (by decide) rfl rfl rfl (by simp [Value.oneCell']) (by simp only [maxLen]; omega) (by omega) rfl (fun a w' v24 mt st => ?_)
      have hone := RdS.one (st.rowM (Pick.here _ _))
      refine s_storeL mt st K.sz116 rfl rfl (by first | rfl | assumption) rfl rfl (fun w' st => ?_)
      refine w_nil' ?_
      refine x_block_n ?_
      refine x_then_n ?_
      refine w_region ?_
      refine step_pure mt (pu_add_i rfl rfl (by omega)) rfl (fun a mt => ?_)
      refine step_pure mt (pu_move rfl) rfl (fun a mt => ?_)
      refine w_nil' ?_
      refine x_then_n ?_
      exact ⟨k + 1, ⟨by omega, I', _, _, mt.sub ⟨rfl, rfl, rfl, rfl, trivial⟩, by
        first
        | (rw [e1]; exact st)
        | (rw [e1]
           have e2 : (baseTo l k ++ [k]).length = (baseTo l k).length + 1 := by simp
           have e3 : (baseTo l k ++ [k]).map natV = (baseTo l k).map natV ++ [.int .i64 k] := by simp [natV]
           rw [e2, e3]
           exact st.pick (Pick.there _ (Pick.here _ _)))⟩, by omega⟩
    · have e1 : baseTo l (k + 1) = baseTo l k := by rw [baseTo_succ, if_neg (by rw [h20]; decide)]
      refine w_skip ?_
      refine x_block_n ?_
      refine x_then_n ?_
      refine w_region ?_
      refine step_pure mt (pu_add_i rfl rfl (by omega)) rfl (fun a mt => ?_)
      refine step_pure mt (pu_move rfl) rfl (fun a mt => ?_)
      refine w_nil' ?_
      refine x_then_n ?_
      exact ⟨k + 1, ⟨by omega, I', _, _, mt.sub ⟨rfl, rfl, rfl, rfl, trivial⟩, by
        first
        | (rw [e1]; exact st)
        | (rw [e1]
           have e2 : (baseTo l k ++ [k]).length = (baseTo l k).length + 1 := by simp
           have e3 : (baseTo l k ++ [k]).map natV = (baseTo l k).map natV ++ [.int .i64 k] := by simp [natV]
           rw [e2, e3]
           exact st.pick (Pick.there _ (Pick.here _ _)))⟩, by omega⟩
  · obtain rfl : k = 2 ^ l.length := by omega
    obtain ⟨I1, st, hII, hrv⟩ := st.sealRow (Pick.here _ _)
    refine w_exit (x_then_exit (x_then_exit (x_block_out ?_)))
    refine x_then_n ?_
    refine w_block ?_
    refine w_loop (ι := Nat × List Nat) (fun p a w' => p.2.length < p.1 ∧ thsF l = iterT l p.1 p.2 ∧ (∀ u ∈ p.2, u < 1000000) ∧ p.2.length ≤ 5000 ∧ ∃ I' v M, Mt 51 a [(1, pv b1), (3, pv b3)] ∧ St [] w I w' I' (.blk b3 (.cells #[v] 116 (0, 0)) :: .blk b1 (.cells #[pv bp] 112 (0, 0)) :: M) ∧ RdS I' v 1 p.2.length (p.2.map natV)) (fun p => p.2.length) ((baseTo l (2 ^ l.length)).length + 1, baseTo l (2 ^ l.length))
      ⟨Nat.lt_succ_self _, rfl, fun u hu => by have := baseTo_lt l _ u hu; omega, (by show (baseTo l (2 ^ l.length)).length ≤ 5000; omega), _, _, _, mt.sub ⟨rfl, rfl, trivial⟩, st, hrv⟩ (fun p a w' hI' => ?_)
    obtain ⟨f, all⟩ := p
    obtain ⟨hf, hths, hsm, hlen, I', v, M, mt, st, hrv⟩ := hI'
    simp only at hf hths hsm hlen hrv
    refine w_block ?_
    refine w_rs ?_
    refine step_pure mt (pu_assign rfl) rfl (fun a mt => ?_)
    refine w_nil ?_
    refine w_seq ?_
    refine w_rs ?_
    refine step_pure mt (pu_loadM st K.sc116 rfl rfl) rfl (fun a mt => ?_)
    refine step_pure mt (pu_len_r rfl hrv K.un116) rfl (fun a mt => ?_)
    have st := st.nilRow 119 1
    refine step_pure mt (pu_move rfl) rfl (fun a mt => ?_)
    refine w_nil ?_
    refine w_block ?_
    refine w_loop (ι := Nat) (fun k a w' => k ≤ all.length ∧ ∃ I' v5 M, Mt 51 a [(1, pv b1), (3, pv b3), (5, v5), (26, v), (27, .int .i64 all.length), (28, .int .i64 k)] ∧ St [] w I w' I' (.row v5 119 1 (leftTo l all k).length ((leftTo l all k).map natV) :: .blk b3 (.cells #[v] 116 (0, 0)) :: .blk b1 (.cells #[pv bp] 112 (0, 0)) :: M) ∧ RdS I' v 1 all.length (all.map natV)) (fun k => all.length - k) 0
      ⟨Nat.zero_le _, _, _, _, mt.sub ⟨rfl, rfl, rfl, rfl, rfl, rfl, trivial⟩, st, hrv⟩ (fun k a w' hI' => ?_)
    obtain ⟨hk, I', v5, M, mt, st, hrv⟩ := hI'
    have hll := leftTo_len l all k
    refine w_rs ?_
    refine step_pure mt (pu_lss rfl rfl) rfl (fun a mt => ?_)
    refine w_nil ?_
    refine w_seq ?_
    refine w_cond mt rfl (fun h29 => ?_) (fun h29 => ?_)
    · have hkl : k < all.length := by omega
      have hx : all[k]? = some all[k] := List.getElem?_eq_getElem hkl
      have htm : all[k] ∈ all := List.getElem_mem hkl
      generalize hxe : all[k] = t at hx htm
      have hu : (all.map natV)[((k : Nat) : Int).toNat]? = some (.int .i64 t) := by simp [hx, natV]
      have htl := hsm t htm
      refine w_skip ?_
      refine x_then_n ?_
      refine w_seq ?_
      refine w_block ?_
      refine w_rs ?_
      refine step_pure mt (pu_ia (m := all.length) (i := k) K.el116 (by decide) rfl hrv rfl (by omega) (by omega)) rfl (fun a mt => ?_)
      refine step_pure mt (pu_loadR st K.sc119 hrv rfl hu) rfl (fun a mt => ?_)
      refine step_alloc mt st (al_alloc K.ze119 rfl) rfl (fun a w' b7 mt st => ?_)
      refine s_storeL mt st K.sz119 rfl rfl (by first | rfl | assumption) rfl rfl (fun w' st => ?_)
      refine w_nil ?_
      refine w_rs ?_
      refine step_pure mt (pu_makeFunc (vs := []) (us := [pv b1, pv b3, pv b7]) rfl rfl) rfl (fun a mt => ?_)
      refine step_pure mt (pu_assign rfl) rfl (fun a mt => ?_)
      refine w_nil ?_
      refine w_rs ?_
      refine step_pure mt (pu_loadM st K.sc112 rfl rfl) rfl (fun a mt => ?_)
      refine step_pure mt (pu_loadM st K.sc119 rfl rfl) rfl (fun a mt => ?_)
      refine s_call mt st K.cb65 (vs := [pv bp, .int .i64 t]) rfl (needed_ok bp l t _ st.agr (hp'.mono st.sub0) htl hl) rfl (fun a w' v35 mt st hI35 hv35 => ?_)
      have hrv := hrv.mono hI35
      refine step_pure mt (pu_move rfl) rfl (fun a mt => ?_)
      refine s_callv mt st K.cb83 (vs := [v35, .func (.func 82) #[] [pv b1, pv b3, pv b7].toArray]) rfl (containsFunc_implies pairV (fun x => ⟨rfl, rfl⟩) (needF l t) v35 _ (st.rdS hv35) 82 [pv b1, pv b3, pv b7] (fun p => (witF l all t p.1 p.2).isNone) K.cb82 (fun p hp w2 hb => thy1_ok b1 b3 b7 bp l all v t p.1 p.2 w2 (cellI_mono (Below.sub hb) (st.cellM PickB.pick rfl)) (cellI_mono (Below.sub hb) (st.cellM PickB.pick rfl)) (cellI_mono (Below.sub hb) (st.cellM PickB.pick rfl)) (hp'.mono (st.sub0.trans (st.agr.trans (Below.sub hb)))) (hrv.mono (st.agr.trans (Below.sub hb))) htl hsm (by omega) hl (hcl _ (need_mem hp)).2.1 (hcl _ (need_mem hp)).2.2 (hcl _ (hcl _ (need_mem hp)).2.1).1 (hcl _ (hcl _ (need_mem hp)).2.2).1)) rfl (fun a w' mt st => ?_)
      refine step_pure mt (pu_not rfl) rfl (fun a mt => ?_)
      refine w_nil ?_
      refine w_cond_b mt rfl (fun h38 => ?_) (fun h38 => ?_)
      · have hb : badT l all t = false := by simpa [badT] using h38
        have e1 : leftTo l all (k + 1) = leftTo l all k ++ [t] := by rw [leftTo_succ hx, hb]; rfl
        refine w_region ?_
        refine step_pure mt (pu_move rfl) rfl (fun a mt => ?_)
        refine step_pure mt (pu_loadM st K.sc119 rfl rfl) rfl (fun a mt => ?_)
        refine step_alloc mt st (al_lit1 (vs := [.int .i64 t]) K.el116 rfl rfl rfl rfl rfl (by simp [Value.oneCell'])) rfl (fun a w' b41 mt st => ?_)
        refine s_append mt st K.el116 rfl (by decide) rfl rfl rfl (by simp [Value.oneCell']) (by simp only [maxLen]; omega) (by omega) rfl (fun a w' v42 mt st => ?_)
        refine step_pure mt (pu_assign rfl) rfl (fun a mt => ?_)
        refine w_nil' ?_
        refine x_block_n ?_
        refine x_then_n ?_
        refine w_region ?_
        refine step_pure mt (pu_add_i rfl rfl (by omega)) rfl (fun a mt => ?_)
        refine step_pure mt (pu_move rfl) rfl (fun a mt => ?_)
        refine w_nil' ?_
        refine x_then_n ?_
        exact ⟨k + 1, ⟨by omega, _, _, _, mt.sub ⟨rfl, rfl, rfl, rfl, rfl, rfl, trivial⟩, by
          first
          | (rw [e1]; exact st.drop (Pick.here _ _))
          | (rw [e1]
             have e2 : (leftTo l all k ++ [t]).length = (leftTo l all k).length + 1 := by simp
             have e3 : (leftTo l all k ++ [t]).map natV = (leftTo l all k).map natV ++ [.int .i64 t] := by simp [natV]
             rw [e2, e3]
             exact st.drop (Pick.there _ (Pick.here _ _))), hrv⟩, by omega⟩
      · have hb : badT l all t = true := by simpa [badT] using h38
        have e1 : leftTo l all (k + 1) = leftTo l all k := by rw [leftTo_succ hx, hb]; rfl
        refine w_skip ?_
        refine x_block_n ?_
        refine x_then_n ?_
        refine w_region ?_
        refine step_pure mt (pu_add_i rfl rfl (by omega)) rfl (fun a mt => ?_)
        refine step_pure mt (pu_move rfl) rfl (fun a mt => ?_)
        refine w_nil' ?_
        refine x_then_n ?_
        exact ⟨k + 1, ⟨by omega, _, _, _, mt.sub ⟨rfl, rfl, rfl, rfl, rfl, rfl, trivial⟩, by
          first
          | (rw [e1]; exact st.drop (Pick.here _ _))
          | (rw [e1]
             have e2 : (leftTo l all k ++ [t]).length = (leftTo l all k).length + 1 := by simp
             have e3 : (leftTo l all k ++ [t]).map natV = (leftTo l all k).map natV ++ [.int .i64 t] := by simp [natV]
             rw [e2, e3]
             exact st.drop (Pick.there _ (Pick.here _ _))), hrv⟩, by omega⟩
    · obtain rfl : k = all.length := by omega
      rw [leftTo_all] at st
      refine w_exit (x_then_exit (x_then_exit (x_block_out ?_)))
      refine x_then_n ?_
      refine w_seq ?_
      refine w_rs ?_
      refine step_pure mt (pu_move rfl) rfl (fun a mt => ?_)
      refine step_pure mt (pu_len_r rfl (st.rowM (Pick.here _ _)) K.un116) rfl (fun a mt => ?_)
      refine step_pure mt (pu_loadM st K.sc116 rfl rfl) rfl (fun a mt => ?_)
      refine step_pure mt (pu_len_r rfl hrv K.un116) rfl (fun a mt => ?_)
      refine step_pure mt (pu_eql rfl rfl) rfl (fun a mt => ?_)
      refine w_nil ?_
      refine w_cond mt rfl (fun h48 => ?_) (fun h48 => ?_)
      · refine w_rs ?_
        refine step_pure mt (pu_loadM st K.sc116 rfl rfl) rfl (fun a mt => ?_)
        refine step_pure mt (pu_assign rfl) rfl (fun a mt => ?_)
        refine w_nil ?_
        refine w_ret (x_then_ret (x_block_ret (x_then_ret (x_block_ret ?_))))
        refine post_ret1 mt rfl rfl ?_
        have e : thsF l = all := by
          rw [hths]
          obtain ⟨f, rfl⟩ : ∃ m, f = m + 1 := ⟨f - 1, by omega⟩
          show (if (leftF l all).length = all.length then _ else _) = _
          rw [if_pos (by omega)]
        refine ⟨_, rfl, st.below, ?_⟩
        rw [e]
        exact hrv.mono (St.IX st)
      · refine w_skip ?_
        refine x_then_n ?_
        refine w_region ?_
        refine step_pure mt (pu_move rfl) rfl (fun a mt => ?_)
        have hone := RdS.one (st.rowM (Pick.here _ _))
        refine s_storeL mt st K.sz116 rfl rfl (by first | rfl | assumption) rfl rfl (fun w' st => ?_)
        refine w_nil' ?_
        refine x_block_n ?_
        refine x_then_n ?_
        obtain ⟨I2, st2, hII, hrv2⟩ := st.sealRow (Pick.there _ (Pick.here _ _))
        have hlt : (leftF l all).length < all.length := by
          have := List.length_filter_le (fun t => !badT l all t) all
          have : (leftF l all).length ≤ all.length := this
          omega
        refine ⟨(f - 1, leftF l all), ⟨by show (leftF l all).length < f - 1; omega, ?_, fun u hu => hsm u (List.mem_filter.1 hu).1, by show (leftF l all).length ≤ 5000; omega, _, _, _, mt.sub ⟨rfl, rfl, trivial⟩, st2, hrv2⟩, hlt⟩
        show thsF l = iterT l (f - 1) (leftF l all)
        rw [hths]
        obtain ⟨f, rfl⟩ : ∃ m, f = m + 1 := ⟨f - 1, by omega⟩
        show (if (leftF l all).length = all.length then _ else _) = _
        rw [if_neg (by omega)]
        rfl
end Go.Proofs.YtoilfakpgcjjpaaDoor.Log
namespace Go.Proofs.YtoilfakpgcjjpaaDoor.Log
open Go Go.RowKit Go.Proofs.YtoilfakpgcjjpaaDoor Go.Proofs.YtoilfakpgcjjpaaDoor.Eng
set_option linter.unusedVariables false
set_option linter.unusedSimpArgs false
set_option maxRecDepth 100000
def aboveTo (ws : List Nat) (t k : Nat) : List Int := ((List.range k).filter fun v => subN t (ws.getD v 0)).map Int.ofNat
def aboveF (ws : List Nat) (t : Nat) : List Int := aboveTo ws t ws.length
theorem aboveTo_succ {ws : List Nat} {k u : Nat} (t : Nat) (h : ws[k]? = some u) : aboveTo ws t (k + 1) = if subN t u = true then aboveTo ws t k ++ [(k : Int)] else aboveTo ws t k := by
  unfold aboveTo
  rw [List.range_succ, List.filter_append, List.map_append]
  by_cases hb : subN t u = true <;> simp [h, hb]
theorem aboveTo_len (ws : List Nat) (t k : Nat) : (aboveTo ws t k).length ≤ k := by
  unfold aboveTo; rw [List.length_map]; exact Nat.le_trans (List.length_filter_le _ _) (by simp)
def markG (l : List Fm) (t k m : Nat) : Nat := match l[k]? with
  | some (.atm c) => if bitN t k then m ||| 2 ^ (c - 112) else m
  | _ => m
def markTo (l : List Fm) (t : Nat) : Nat → Nat
  | 0 => 0
  | k + 1 => markG l t k (markTo l t k)
def markF (l : List Fm) (t : Nat) : Nat := markTo l t l.length
def modA (ws : List Nat) : List (List Int) := ws.map (aboveF ws)
def modM (l : List Fm) (ws : List Nat) : List Int := ws.map fun t => (markF l t : Int)
theorem markTo_lt {l : List Fm} (hats : ∀ x ∈ l, ats x) (t : Nat) : ∀ k, markTo l t k < 16
  | 0 => by simp [markTo]
  | k + 1 => by
    have ih := markTo_lt hats t k
    simp only [markTo, markG]
    split
    · rename_i c hc
      split
      · have := hats _ (List.mem_of_getElem? hc)
        simp only [ats] at this
        exact Nat.or_lt_two_pow (n := 4) ih (Nat.lt_of_le_of_lt (Nat.pow_le_pow_right (by decide) (show c - 112 ≤ 3 by omega)) (by decide))
      · exact ih
    · exact ih
theorem orN {m j : Nat} (hm : m < 16) (hj : j ≤ 3) : IntKind.i64.wrap ((BitVec.ofInt IntKind.i64.bits (m : Int) ||| BitVec.ofInt IntKind.i64.bits ((2 ^ j : Nat) : Int)).toNat : Int) = ((m ||| 2 ^ j : Nat) : Int) := by
  show IntKind.i64.wrap ((BitVec.ofInt 64 (m : Int) ||| BitVec.ofInt 64 ((2 ^ j : Nat) : Int)).toNat : Int) = _
  have h2 : 2 ^ j ≤ 2 ^ 3 := Nat.pow_le_pow_right (by decide) hj
  simp only [Nat.reducePow] at h2
  generalize 2 ^ j = q at *
  rw [BitVec.ofInt_natCast, BitVec.ofInt_natCast, BitVec.toNat_or, BitVec.toNat_ofNat, BitVec.toNat_ofNat, Nat.mod_eq_of_lt (by omega), Nat.mod_eq_of_lt (by omega)]
  have : m ||| q < 2 ^ 4 := Nat.or_lt_two_pow (by omega) (by omega)
  simp only [Nat.reducePow] at this
  exact i64_wrap (by omega)
theorem shl8 {c : Nat} (hc : 112 ≤ c ∧ c ≤ 115) : Value.int .i64 (IntKind.i64.wrap (1 * 2 ^ (min (((c - 112 : Nat) : Int)).toNat IntKind.i64.bits))) = .int .i64 ((2 ^ (c - 112) : Nat) : Int) := shl1 (by omega)
theorem model_ok {I : Hp} (bp : Nat) (l : List Fm) (ws : List Nat) (wv : Value) (w : World) (hI : Sub I (hp w)) (hp' : PrtV I bp l) (hw : RdS I wv 1 ws.length (ws.map natV)) (hlt : ∀ u ∈ ws, u < 1000000) (hl : l.length ≤ 12) (hats : ∀ x ∈ l, ats x) (hlen : ws.length ≤ 1000000) :
    CallsX Tryd.prog 68 #[pv bp, wv] w fun v w' => ModV (Iext I w w') (modA ws) (modM l ws) v := by
  have st := St.start (w0 := w) (I0 := I) hI
  obtain ⟨lv, hc, hr⟩ := id hp'
  obtain ⟨lad, lcc, rfl, _⟩ := hr.len
  obtain ⟨wad, wcc, rfl, _⟩ := hw.len
  refine CallsX.of (nn := 82) Tryd.func68 rfl rfl rfl (fun a mt => ?_)
  refine w_rs ?_
  refine step_alloc mt st (al_alloc K.ze44 rfl) rfl (fun a w' b4 mt st => ?_)
  refine w_nil ?_
  refine w_rs ?_
  refine step_alloc mt st (al_alloc K.ze44 rfl) rfl (fun a w' b5 mt st => ?_)
  have st := (st.nilRow 3 1).nilRow 42 1
  refine w_nil ?_
  refine w_seq ?_
  refine w_rs ?_
  refine step_pure mt (pu_move rfl) rfl (fun a mt => ?_)
  refine step_pure mt (pu_len rfl K.un116) rfl (fun a mt => ?_)
  refine step_pure mt (pu_move rfl) rfl (fun a mt => ?_)
  refine w_nil ?_
  refine w_block ?_
  refine w_loop (ι := Nat) (fun k a w' => k ≤ ws.length ∧ ∃ I' va vm rows M, Mt 82 a [(0, pv bp), (1, .slice wad ws.length wcc), (4, pv b4), (5, pv b5), (16, .slice wad ws.length wcc), (17, .int .i64 ws.length), (18, .int .i64 k)] ∧ St [] w I w' I' (.row va 42 1 k rows :: .row vm 3 1 k (((ws.take k).map fun t => intV (markF l t : Int))) :: .blk b5 (.cells #[va, vm] 44 (0, 0)) :: .blk b4 (.cells #[.slice none 0 0, .slice none 0 0] 44 (0, 0)) :: M) ∧
      ∀ (i t : Nat) (r : Value), ws[i]? = some t → rows[i]? = some r → RdS I' r 1 (aboveF ws t).length ((aboveF ws t).map intV)) (fun k => ws.length - k) 0
    ⟨Nat.zero_le _, _, _, _, [], _, mt.sub ⟨rfl, rfl, rfl, rfl, rfl, rfl, rfl, trivial⟩, st, fun i t r _ h => by simp at h⟩ (fun k a w' hI' => ?_)
  obtain ⟨hk, I', va, vm, rows, M, mt, st, hrows⟩ := hI'
  refine w_rs ?_
  refine step_pure mt (pu_lss rfl rfl) rfl (fun a mt => ?_)
  refine w_nil ?_
  refine w_seq ?_
  refine w_cond mt rfl (fun h19 => ?_) (fun h19 => ?_)
  · have hkl : k < ws.length := by omega
    have hx : ws[k]? = some ws[k] := List.getElem?_eq_getElem hkl
    have htm : ws[k] ∈ ws := List.getElem_mem hkl
    generalize hxe : ws[k] = t at hx htm
    have hu : (ws.map natV)[((k : Nat) : Int).toNat]? = some (.int .i64 t) := by simp [hx, natV]
    have htl := hlt t htm
    have hrl : rows.length = k := by have := (st.rowM (Pick.here _ _)).nlen; exact this
    have st := st.nilRow 3 1
    refine w_skip ?_
    refine x_then_n ?_
    refine w_seq ?_
    refine w_block ?_
    refine w_rs ?_
    refine step_pure mt (pu_ia (m := ws.length) (i := k) K.el116 (by decide) rfl hw rfl (by omega) (by omega)) rfl (fun a mt => ?_)
    refine step_pure mt (pu_loadR st K.sc119 (hw.mono st.sub0) rfl hu) rfl (fun a mt => ?_)
    refine step_pure mt (pu_assign rfl) rfl (fun a mt => ?_)
    refine w_nil ?_
    refine w_rs ?_
    refine step_pure mt (pu_assign rfl) rfl (fun a mt => ?_)
    refine w_nil ?_
    refine w_seq ?_
    refine w_rs ?_
    refine step_pure mt (pu_move rfl) rfl (fun a mt => ?_)
    refine step_pure mt (pu_len rfl K.un116) rfl (fun a mt => ?_)
    refine step_pure mt (pu_move rfl) rfl (fun a mt => ?_)
    refine w_nil ?_
    refine w_block ?_
    refine w_loop (ι := Nat) (fun j a w' => j ≤ ws.length ∧ ∃ v8 M, Mt 82 a [(0, pv bp), (1, .slice wad ws.length wcc), (4, pv b4), (5, pv b5), (7, .int .i64 t), (8, v8), (16, .slice wad ws.length wcc), (17, .int .i64 ws.length), (18, .int .i64 k), (22, .slice wad ws.length wcc), (23, .int .i64 ws.length), (24, .int .i64 j)] ∧ St [] w I w' I' (.row v8 3 1 (aboveTo ws t j).length ((aboveTo ws t j).map intV) :: .row va 42 1 k rows :: .row vm 3 1 k (((ws.take k).map fun t => intV (markF l t : Int))) :: .blk b5 (.cells #[va, vm] 44 (0, 0)) :: .blk b4 (.cells #[.slice none 0 0, .slice none 0 0] 44 (0, 0)) :: M)) (fun j => ws.length - j) 0
      ⟨Nat.zero_le _, _, _, mt.sub ⟨rfl, rfl, rfl, rfl, rfl, rfl, rfl, rfl, rfl, rfl, rfl, rfl, trivial⟩, st⟩ (fun j a w' hI' => ?_)
    obtain ⟨hj, v8, M, mt, st⟩ := hI'
    have hal := aboveTo_len ws t j
    refine w_rs ?_
    refine step_pure mt (pu_lss rfl rfl) rfl (fun a mt => ?_)
    refine w_nil ?_
    refine w_seq ?_
    refine w_cond mt rfl (fun h25 => ?_) (fun h25 => ?_)
    · have hjl : j < ws.length := by omega
      have hy : ws[j]? = some ws[j] := List.getElem?_eq_getElem hjl
      have hul := hlt _ (List.getElem_mem hjl)
      generalize hye : ws[j] = u at hy hul
      have hu2 : (ws.map natV)[((j : Nat) : Int).toNat]? = some (.int .i64 u) := by simp [hy, natV]
      obtain ⟨d, hd, hiff⟩ := andNotN (t := t) (u := u) (by omega) (by omega)
      refine w_skip ?_
      refine x_then_n ?_
      refine w_seq ?_
      refine w_block ?_
      refine w_rs ?_
      refine step_pure mt (pu_move rfl) rfl (fun a mt => ?_)
      refine step_pure mt (pu_ia (m := ws.length) (i := j) K.el116 (by decide) rfl hw rfl (by omega) (by omega)) rfl (fun a mt => ?_)
      refine step_pure mt (pu_loadR st K.sc119 (hw.mono st.sub0) rfl hu2) rfl (fun a mt => ?_)
      refine step_pure mt (pu_assign rfl) rfl (fun a mt => ?_)
      refine step_pure mt (pu_assign rfl) rfl (fun a mt => ?_)
      refine w_nil ?_
      refine w_rs ?_
      refine step_pure mt (pu_move rfl) rfl (fun a mt => ?_)
      refine step_pure mt (pu_move rfl) rfl (fun a mt => ?_)
      refine step_pure mt ((pu_andNot rfl rfl).to (u := .int .i64 d) (congrArg (Value.int .i64) hd)) rfl (fun a mt => ?_)
      refine step_pure mt (pu_eql rfl rfl) rfl (fun a mt => ?_)
      refine w_nil ?_
      refine w_cond mt rfl (fun h32 => ?_) (fun h32 => ?_)
      · have e1 : aboveTo ws t (j + 1) = aboveTo ws t j ++ [(j : Int)] := by rw [aboveTo_succ t hy, if_pos (hiff.1 (by omega))]
        refine w_region ?_
        refine step_pure mt (pu_move rfl) rfl (fun a mt => ?_)
        refine step_pure mt (pu_move rfl) rfl (fun a mt => ?_)
        refine step_alloc mt st (al_lit1 (vs := [.int .i64 j]) K.el42 rfl rfl rfl rfl rfl (by simp [Value.oneCell'])) rfl (fun a w' b35 mt st => ?_)
        refine s_append mt st K.el42 rfl (by decide) rfl rfl rfl (by simp [Value.oneCell']) (by simp only [maxLen]; omega) (by omega) rfl (fun a w' v36 mt st => ?_)
        refine step_pure mt (pu_assign rfl) rfl (fun a mt => ?_)
        refine w_nil' ?_
        refine x_block_n ?_
        refine x_then_n ?_
        refine w_region ?_
        refine step_pure mt (pu_add_i rfl rfl (by omega)) rfl (fun a mt => ?_)
        refine step_pure mt (pu_move rfl) rfl (fun a mt => ?_)
        refine w_nil' ?_
        refine x_then_n ?_
        exact ⟨j + 1, ⟨by omega, _, _, mt.sub ⟨rfl, rfl, rfl, rfl, rfl, rfl, rfl, rfl, rfl, rfl, rfl, rfl, trivial⟩, by
          first
          | (rw [e1]; exact st)
          | (rw [e1]
             have e2 : (aboveTo ws t j ++ [(j : Int)]).length = (aboveTo ws t j).length + 1 := by simp
             have e3 : (aboveTo ws t j ++ [(j : Int)]).map intV = (aboveTo ws t j).map intV ++ [.int .i64 j] := by simp [intV]
             rw [e2, e3]
             exact st)⟩, by omega⟩
      · have e1 : aboveTo ws t (j + 1) = aboveTo ws t j := by rw [aboveTo_succ t hy, if_neg (fun h => by have := hiff.2 h; omega)]
        refine w_skip ?_
        refine x_block_n ?_
        refine x_then_n ?_
        refine w_region ?_
        refine step_pure mt (pu_add_i rfl rfl (by omega)) rfl (fun a mt => ?_)
        refine step_pure mt (pu_move rfl) rfl (fun a mt => ?_)
        refine w_nil' ?_
        refine x_then_n ?_
        exact ⟨j + 1, ⟨by omega, _, _, mt.sub ⟨rfl, rfl, rfl, rfl, rfl, rfl, rfl, rfl, rfl, rfl, rfl, rfl, trivial⟩, by
          first
          | (rw [e1]; exact st)
          | (rw [e1]
             have e2 : (aboveTo ws t j ++ [(j : Int)]).length = (aboveTo ws t j).length + 1 := by simp
             have e3 : (aboveTo ws t j ++ [(j : Int)]).map intV = (aboveTo ws t j).map intV ++ [.int .i64 j] := by simp [intV]
             rw [e2, e3]
             exact st)⟩, by omega⟩
    · obtain rfl : j = ws.length := by omega
      refine w_exit (x_then_exit (x_then_exit (x_block_out ?_)))
      refine x_then_n ?_
      refine w_rs ?_
      refine step_pure mt (pu_assign rfl) rfl (fun a mt => ?_)
      refine w_nil ?_
      refine w_seq ?_
      refine w_rs ?_
      refine step_pure mt (pu_move rfl) rfl (fun a mt => ?_)
      refine step_pure mt (pu_nilCheck rfl) rfl (fun a mt => ?_)
      refine step_pure mt (pu_fld 0 K.fl114_0 rfl) rfl (fun a mt => ?_)
      refine step_pure mt (pu_loadI st K.sc85 rfl (cellI_mono st.sub0 hc)) rfl (fun a mt => ?_)
      refine step_pure mt (pu_len rfl K.un85) rfl (fun a mt => ?_)
      refine step_pure mt (pu_move rfl) rfl (fun a mt => ?_)
      refine w_nil ?_
      refine w_block ?_
      refine w_loop (ι := Nat) (fun j a w' => j ≤ l.length ∧ ∃ M, Mt 82 a [(0, pv bp), (1, .slice wad ws.length wcc), (4, pv b4), (5, pv b5), (7, .int .i64 t), (8, v8), (11, .int .i64 (markTo l t j)), (16, .slice wad ws.length wcc), (17, .int .i64 ws.length), (18, .int .i64 k), (41, .slice lad l.length lcc), (42, .int .i64 l.length), (43, .int .i64 j)] ∧ St [] w I w' I' (.row v8 3 1 (aboveTo ws t ws.length).length ((aboveTo ws t ws.length).map intV) :: .row va 42 1 k rows :: .row vm 3 1 k (((ws.take k).map fun t => intV (markF l t : Int))) :: .blk b5 (.cells #[va, vm] 44 (0, 0)) :: .blk b4 (.cells #[.slice none 0 0, .slice none 0 0] 44 (0, 0)) :: M)) (fun j => l.length - j) 0
        ⟨Nat.zero_le _, _, mt.sub ⟨rfl, rfl, rfl, rfl, rfl, rfl, rfl, rfl, rfl, rfl, rfl, rfl, rfl, trivial⟩, st⟩ (fun j a w' hI' => ?_)
      obtain ⟨hj, M, mt, st⟩ := hI'
      have hmk := markTo_lt hats t j
      refine w_rs ?_
      refine step_pure mt (pu_lss rfl rfl) rfl (fun a mt => ?_)
      refine w_nil ?_
      refine w_seq ?_
      refine w_cond mt rfl (fun h44 => ?_) (fun h44 => ?_)
      · have hjl : j < l.length := by omega
        have hy : l[j]? = some l[j] := List.getElem?_eq_getElem hjl
        have hyats := hats _ (List.getElem_mem hjl)
        generalize hye : l[j] = x at hy hyats
        have hu2 : (l.map enc)[((j : Nat) : Int).toNat]? = some (enc x) := by simp [hy]
        have hdiv : t / 2 ^ j ≤ t := Nat.div_le_self _ _
        refine w_skip ?_
        refine x_then_n ?_
        refine w_seq ?_
        refine w_block ?_
        refine w_rs ?_
        refine step_pure mt (pu_move rfl) rfl (fun a mt => ?_)
        refine step_pure mt (pu_ia (m := l.length) (i := j) K.el85 (by decide) rfl hr rfl (by omega) (by omega)) rfl (fun a mt => ?_)
        refine step_pure mt (pu_loadR st K.sc66 (hr.mono st.sub0) rfl hu2) rfl (fun a mt => ?_)
        refine step_pure mt (pu_assign rfl) rfl (fun a mt => ?_)
        refine step_pure mt (pu_assign rfl) rfl (fun a mt => ?_)
        refine w_nil ?_
        refine w_rs ?_
        refine step_pure mt (pu_move rfl) rfl (fun a mt => ?_)
        rcases x with _ | c | ⟨xa, xb⟩ | ⟨xa, xb⟩ | ⟨xa, xb⟩
        · have e1 : markTo l t (j + 1) = markTo l t j := by simp [markTo, markG, hy]
          refine step_pure mt (pu_assert_no K.cc109 rfl rfl K.ze109) rfl (fun a mt => ?_)
          refine step_pure mt (pu_move rfl) rfl (fun a mt => ?_)
          refine step_pure mt (pu_extract rfl rfl) rfl (fun a mt => ?_)
          refine step_pure mt (pu_extract rfl rfl) rfl (fun a mt => ?_)
          refine step_alloc mt st (al_alloc K.ze109 rfl) rfl (fun a w' b14 mt st => ?_)
          refine s_storeA mt st K.sz109 rfl rfl rfl (by first | (simp [Value.oneCell']; done) | (simp [enc_one]; done)) rfl rfl (fun w' st => ?_)
          refine step_pure mt (pu_assign rfl) rfl (fun a mt => ?_)
          refine w_nil ?_
          refine w_rs ?_
          refine step_pure mt (pu_move rfl) rfl (fun a mt => ?_)
          refine step_pure mt (pu_move rfl) rfl (fun a mt => ?_)
          refine step_skip_g mt rfl rfl rfl rfl (fun a mt => ?_)
          refine step_skip_g mt rfl rfl rfl rfl (fun a mt => ?_)
          refine step_skip_g mt rfl rfl rfl rfl (fun a mt => ?_)
          refine step_skip_g mt rfl rfl rfl rfl (fun a mt => ?_)
          refine step_skip_g mt rfl rfl rfl rfl (fun a mt => ?_)
          refine step_pure mt (pu_pick rfl rfl) rfl (fun a mt => ?_)
          refine w_nil ?_
          refine w_false mt rfl ?_
          refine w_skip ?_
          refine x_block_n ?_
          refine x_then_n ?_
          refine w_region ?_
          refine step_pure mt (pu_add_i rfl rfl (by omega)) rfl (fun a mt => ?_)
          refine step_pure mt (pu_move rfl) rfl (fun a mt => ?_)
          refine w_nil' ?_
          refine x_then_n ?_
          exact ⟨j + 1, ⟨by omega, _, by rw [e1]; exact mt.sub ⟨rfl, rfl, rfl, rfl, rfl, rfl, rfl, rfl, rfl, rfl, rfl, rfl, rfl, trivial⟩, st.drop (Pick.here _ _)⟩, by omega⟩
        · simp only [ats] at hyats
          have e1 : markTo l t (j + 1) = if bitN t j then markTo l t j ||| 2 ^ (c - 112) else markTo l t j := by simp [markTo, markG, hy]
          refine step_pure mt (pu_assert_yes K.cc109 rfl) rfl (fun a mt => ?_)
          refine step_pure mt (pu_move rfl) rfl (fun a mt => ?_)
          refine step_pure mt (pu_extract rfl rfl) rfl (fun a mt => ?_)
          refine step_pure mt (pu_extract rfl rfl) rfl (fun a mt => ?_)
          refine step_alloc mt st (al_alloc K.ze109 rfl) rfl (fun a w' b14 mt st => ?_)
          refine s_storeA mt st K.sz109 rfl rfl rfl (by first | (simp [Value.oneCell']; done) | (simp [enc_one]; done)) rfl rfl (fun w' st => ?_)
          refine step_pure mt (pu_assign rfl) rfl (fun a mt => ?_)
          refine w_nil ?_
          refine w_rs ?_
          refine step_pure mt (pu_move rfl) rfl (fun a mt => ?_)
          refine step_pure mt (pu_move rfl) rfl (fun a mt => ?_)
          refine step_pure_g mt rfl rfl (pu_move rfl) rfl (fun a mt => ?_)
          refine step_pure_g mt rfl rfl (pu_move rfl) rfl (fun a mt => ?_)
          refine step_pure_g mt rfl rfl ((pu_shr rfl rfl (by omega)).to (u := .int .i64 ((t / 2 ^ j : Nat) : Int)) (congrArg (Value.int .i64) (shrN (by omega)))) rfl (fun a mt => ?_)
          refine step_pure_g mt rfl rfl ((pu_and rfl rfl).to (u := .int .i64 ((t / 2 ^ j % 2 : Nat) : Int)) (congrArg (Value.int .i64) (and_oneN (by omega)))) rfl (fun a mt => ?_)
          refine step_pure_g mt rfl rfl ((pu_eql rfl rfl).to (u := .bool (bitN t j)) (by unfold bitN; congr 1; exact decide_eq_decide.2 (by omega))) rfl (fun a mt => ?_)
          refine step_pure mt (pu_pick rfl rfl) rfl (fun a mt => ?_)
          refine w_nil ?_
          refine w_cond_b mt rfl (fun h60 => ?_) (fun h60 => ?_)
          · rw [h60] at e1
            simp only [if_true] at e1
            refine w_region ?_
            refine step_pure mt (pu_move rfl) rfl (fun a mt => ?_)
            refine step_pure mt (pu_fld 0 K.fl109_0 rfl) rfl (fun a mt => ?_)
            refine step_pure mt (pu_loadM st K.sc5 rfl rfl) rfl (fun a mt => ?_)
            refine step_pure mt ((pu_sub rfl rfl).to (u := .int .u8 ((c - 112 : Nat) : Int)) (sub_u8 hyats)) rfl (fun a mt => ?_)
            refine step_pure mt ((pu_shl rfl rfl (by omega)).to (u := .int .i64 ((2 ^ (c - 112) : Nat) : Int)) (shl8 hyats)) rfl (fun a mt => ?_)
            refine step_pure mt ((pu_or rfl rfl).to (u := .int .i64 ((markTo l t j ||| 2 ^ (c - 112) : Nat) : Int)) (congrArg (Value.int .i64) (orN hmk (by omega)))) rfl (fun a mt => ?_)
            refine step_pure mt (pu_assign rfl) rfl (fun a mt => ?_)
            refine w_nil' ?_
            refine x_block_n ?_
            refine x_then_n ?_
            refine w_region ?_
            refine step_pure mt (pu_add_i rfl rfl (by omega)) rfl (fun a mt => ?_)
            refine step_pure mt (pu_move rfl) rfl (fun a mt => ?_)
            refine w_nil' ?_
            refine x_then_n ?_
            exact ⟨j + 1, ⟨by omega, _, by rw [e1]; exact mt.sub ⟨rfl, rfl, rfl, rfl, rfl, rfl, rfl, rfl, rfl, rfl, rfl, rfl, rfl, trivial⟩, st.drop (Pick.here _ _)⟩, by omega⟩
          · rw [h60] at e1
            simp only [Bool.false_eq_true, if_false] at e1
            refine w_skip ?_
            refine x_block_n ?_
            refine x_then_n ?_
            refine w_region ?_
            refine step_pure mt (pu_add_i rfl rfl (by omega)) rfl (fun a mt => ?_)
            refine step_pure mt (pu_move rfl) rfl (fun a mt => ?_)
            refine w_nil' ?_
            refine x_then_n ?_
            exact ⟨j + 1, ⟨by omega, _, by rw [e1]; exact mt.sub ⟨rfl, rfl, rfl, rfl, rfl, rfl, rfl, rfl, rfl, rfl, rfl, rfl, rfl, trivial⟩, st.drop (Pick.here _ _)⟩, by omega⟩
        · have e1 : markTo l t (j + 1) = markTo l t j := by simp [markTo, markG, hy]
          refine step_pure mt (pu_assert_no K.cc109 rfl rfl K.ze109) rfl (fun a mt => ?_)
          refine step_pure mt (pu_move rfl) rfl (fun a mt => ?_)
          refine step_pure mt (pu_extract rfl rfl) rfl (fun a mt => ?_)
          refine step_pure mt (pu_extract rfl rfl) rfl (fun a mt => ?_)
          refine step_alloc mt st (al_alloc K.ze109 rfl) rfl (fun a w' b14 mt st => ?_)
          refine s_storeA mt st K.sz109 rfl rfl rfl (by first | (simp [Value.oneCell']; done) | (simp [enc_one]; done)) rfl rfl (fun w' st => ?_)
          refine step_pure mt (pu_assign rfl) rfl (fun a mt => ?_)
          refine w_nil ?_
          refine w_rs ?_
          refine step_pure mt (pu_move rfl) rfl (fun a mt => ?_)
          refine step_pure mt (pu_move rfl) rfl (fun a mt => ?_)
          refine step_skip_g mt rfl rfl rfl rfl (fun a mt => ?_)
          refine step_skip_g mt rfl rfl rfl rfl (fun a mt => ?_)
          refine step_skip_g mt rfl rfl rfl rfl (fun a mt => ?_)
          refine step_skip_g mt rfl rfl rfl rfl (fun a mt => ?_)
          refine step_skip_g mt rfl rfl rfl rfl (fun a mt => ?_)
          refine step_pure mt (pu_pick rfl rfl) rfl (fun a mt => ?_)
          refine w_nil ?_
          refine w_false mt rfl ?_
          refine w_skip ?_
          refine x_block_n ?_
          refine x_then_n ?_
          refine w_region ?_
          refine step_pure mt (pu_add_i rfl rfl (by omega)) rfl (fun a mt => ?_)
          refine step_pure mt (pu_move rfl) rfl (fun a mt => ?_)
          refine w_nil' ?_
          refine x_then_n ?_
          exact ⟨j + 1, ⟨by omega, _, by rw [e1]; exact mt.sub ⟨rfl, rfl, rfl, rfl, rfl, rfl, rfl, rfl, rfl, rfl, rfl, rfl, rfl, trivial⟩, st.drop (Pick.here _ _)⟩, by omega⟩
        · have e1 : markTo l t (j + 1) = markTo l t j := by simp [markTo, markG, hy]
          refine step_pure mt (pu_assert_no K.cc109 rfl rfl K.ze109) rfl (fun a mt => ?_)
          refine step_pure mt (pu_move rfl) rfl (fun a mt => ?_)
          refine step_pure mt (pu_extract rfl rfl) rfl (fun a mt => ?_)
          refine step_pure mt (pu_extract rfl rfl) rfl (fun a mt => ?_)
          refine step_alloc mt st (al_alloc K.ze109 rfl) rfl (fun a w' b14 mt st => ?_)
          refine s_storeA mt st K.sz109 rfl rfl rfl (by first | (simp [Value.oneCell']; done) | (simp [enc_one]; done)) rfl rfl (fun w' st => ?_)
          refine step_pure mt (pu_assign rfl) rfl (fun a mt => ?_)
          refine w_nil ?_
          refine w_rs ?_
          refine step_pure mt (pu_move rfl) rfl (fun a mt => ?_)
          refine step_pure mt (pu_move rfl) rfl (fun a mt => ?_)
          refine step_skip_g mt rfl rfl rfl rfl (fun a mt => ?_)
          refine step_skip_g mt rfl rfl rfl rfl (fun a mt => ?_)
          refine step_skip_g mt rfl rfl rfl rfl (fun a mt => ?_)
          refine step_skip_g mt rfl rfl rfl rfl (fun a mt => ?_)
          refine step_skip_g mt rfl rfl rfl rfl (fun a mt => ?_)
          refine step_pure mt (pu_pick rfl rfl) rfl (fun a mt => ?_)
          refine w_nil ?_
          refine w_false mt rfl ?_
          refine w_skip ?_
          refine x_block_n ?_
          refine x_then_n ?_
          refine w_region ?_
          refine step_pure mt (pu_add_i rfl rfl (by omega)) rfl (fun a mt => ?_)
          refine step_pure mt (pu_move rfl) rfl (fun a mt => ?_)
          refine w_nil' ?_
          refine x_then_n ?_
          exact ⟨j + 1, ⟨by omega, _, by rw [e1]; exact mt.sub ⟨rfl, rfl, rfl, rfl, rfl, rfl, rfl, rfl, rfl, rfl, rfl, rfl, rfl, trivial⟩, st.drop (Pick.here _ _)⟩, by omega⟩
        · have e1 : markTo l t (j + 1) = markTo l t j := by simp [markTo, markG, hy]
          refine step_pure mt (pu_assert_no K.cc109 rfl rfl K.ze109) rfl (fun a mt => ?_)
          refine step_pure mt (pu_move rfl) rfl (fun a mt => ?_)
          refine step_pure mt (pu_extract rfl rfl) rfl (fun a mt => ?_)
          refine step_pure mt (pu_extract rfl rfl) rfl (fun a mt => ?_)
          refine step_alloc mt st (al_alloc K.ze109 rfl) rfl (fun a w' b14 mt st => ?_)
          refine s_storeA mt st K.sz109 rfl rfl rfl (by first | (simp [Value.oneCell']; done) | (simp [enc_one]; done)) rfl rfl (fun w' st => ?_)
          refine step_pure mt (pu_assign rfl) rfl (fun a mt => ?_)
          refine w_nil ?_
          refine w_rs ?_
          refine step_pure mt (pu_move rfl) rfl (fun a mt => ?_)
          refine step_pure mt (pu_move rfl) rfl (fun a mt => ?_)
          refine step_skip_g mt rfl rfl rfl rfl (fun a mt => ?_)
          refine step_skip_g mt rfl rfl rfl rfl (fun a mt => ?_)
          refine step_skip_g mt rfl rfl rfl rfl (fun a mt => ?_)
          refine step_skip_g mt rfl rfl rfl rfl (fun a mt => ?_)
          refine step_skip_g mt rfl rfl rfl rfl (fun a mt => ?_)
          refine step_pure mt (pu_pick rfl rfl) rfl (fun a mt => ?_)
          refine w_nil ?_
          refine w_false mt rfl ?_
          refine w_skip ?_
          refine x_block_n ?_
          refine x_then_n ?_
          refine w_region ?_
          refine step_pure mt (pu_add_i rfl rfl (by omega)) rfl (fun a mt => ?_)
          refine step_pure mt (pu_move rfl) rfl (fun a mt => ?_)
          refine w_nil' ?_
          refine x_then_n ?_
          exact ⟨j + 1, ⟨by omega, _, by rw [e1]; exact mt.sub ⟨rfl, rfl, rfl, rfl, rfl, rfl, rfl, rfl, rfl, rfl, rfl, rfl, rfl, trivial⟩, st.drop (Pick.here _ _)⟩, by omega⟩
      · obtain rfl : j = l.length := by omega
        obtain ⟨I2, st, hI2, hr8⟩ := st.sealRow (Pick.here _ _)
        have h8 := RdS.one hr8
        refine w_exit (x_then_exit (x_then_exit (x_block_out ?_)))
        refine x_then_n ?_
        refine w_rs ?_
        refine step_pure mt (pu_fld 0 K.fl44_0 rfl) rfl (fun a mt => ?_)
        refine step_pure mt (pu_loadM st K.sc41 rfl rfl) rfl (fun a mt => ?_)
        refine step_pure mt (pu_move rfl) rfl (fun a mt => ?_)
        refine step_alloc mt st (al_lit1 (vs := [v8]) K.el41 rfl rfl rfl rfl rfl (by simp [h8])) rfl (fun a w' b71 mt st => ?_)
        refine s_append mt st K.el41 rfl (by decide) rfl rfl rfl (by simp [h8]) (by simp only [maxLen]; omega) (by omega) rfl (fun a w' v72 mt st => ?_)
        have h72 := RdS.one (st.rowM (Pick.here _ _))
        refine step_pure mt (pu_fld 0 K.fl44_0 rfl) rfl (fun a mt => ?_)
        refine s_storeL mt st K.sz41 rfl rfl (by first | rfl | assumption) rfl rfl (fun w' st => ?_)
        refine w_nil ?_
        refine w_region ?_
        refine step_pure mt (pu_fld 1 K.fl44_1 rfl) rfl (fun a mt => ?_)
        refine step_pure mt (pu_loadM st K.sc42 rfl rfl) rfl (fun a mt => ?_)
        refine step_pure mt (pu_move rfl) rfl (fun a mt => ?_)
        refine step_alloc mt st (al_lit1 (vs := [.int .i64 (markF l t : Int)]) K.el42 rfl rfl rfl rfl rfl (by simp [Value.oneCell'])) rfl (fun a w' b77 mt st => ?_)
        refine s_append mt st K.el42 rfl (by decide) rfl rfl rfl (by simp [Value.oneCell']) (by simp only [maxLen]; omega) (by omega) rfl (fun a w' v78 mt st => ?_)
        have h78 := RdS.one (st.rowM (Pick.here _ _))
        refine step_pure mt (pu_fld 1 K.fl44_1 rfl) rfl (fun a mt => ?_)
        refine s_storeL mt st K.sz42 rfl rfl (by first | rfl | assumption) rfl rfl (fun w' st => ?_)
        refine w_nil' ?_
        refine x_block_n ?_
        refine x_then_n ?_
        refine w_region ?_
        refine step_pure mt (pu_add_i rfl rfl (by omega)) rfl (fun a mt => ?_)
        refine step_pure mt (pu_move rfl) rfl (fun a mt => ?_)
        refine w_nil' ?_
        refine x_then_n ?_
        refine ⟨k + 1, ⟨by omega, I2, v72, v78, rows ++ [v8], M, mt.sub ⟨rfl, rfl, rfl, rfl, rfl, rfl, rfl, trivial⟩, ?_, fun i t' r h1 h2 => ?_⟩, by omega⟩
        · have e3 : ((ws.take (k + 1)).map fun t => intV (markF l t : Int)) = ((ws.take k).map fun t => intV (markF l t : Int)) ++ [.int .i64 (markF l t : Int)] := by
            rw [List.take_add_one, hx]; simp [intV]
          rw [e3]
          exact (st.pick (Pick.there _ (Pick.here _ _))).pick (Pick.there _ (Pick.there _ (Pick.here _ _)))
        · rcases Nat.lt_or_ge i k with h | h
          · rw [List.getElem?_append_left (by omega)] at h2
            exact (hrows i t' r h1 h2).mono hI2
          · have hik : i = k := by
              have := (List.getElem?_eq_some_iff.1 h2).1
              simp at this; omega
            subst hik
            rw [hx] at h1; cases h1
            rw [List.getElem?_append_right (by omega), hrl] at h2
            simp at h2; subst h2
            exact hr8
  · obtain rfl : k = ws.length := by omega
    have hva := RdS.one (st.rowM (Pick.here _ _))
    have hvm := RdS.one (st.rowM (Pick.there _ (Pick.here _ _)))
    refine w_exit (x_then_exit (x_then_exit (x_block_out ?_)))
    refine x_then_n ?_
    refine w_rs ?_
    refine step_pure mt (pu_loadMA st K.ag44 rfl rfl) rfl (fun a mt => ?_)
    refine s_storeA mt st K.sz44 rfl rfl rfl (by simp [hva, hvm]) rfl rfl (fun w' st => ?_)
    refine w_nil ?_
    refine w_ret ?_
    refine bodyPost_ret (results_agg (b := b4) rfl (mt.at_ 4 _ rfl) K.ag44 rfl (st.blkM PickB.pick)) mt.defers ?_
    have e1 : ws.take ws.length = ws := List.take_length
    have rva := St.rowX st (Pick.there _ (Pick.here _ _))
    have rvm := St.rowX st (Pick.there _ (Pick.there _ (Pick.here _ _)))
    rw [e1] at rvm
    refine ⟨_, rfl, st.below, va, vm, rows, rfl, ?_, fun i l' r h1 h2 => ?_, ?_⟩
    · simpa [modA] using rva
    · simp only [modA, List.getElem?_map, Option.map_eq_some_iff] at h1
      obtain ⟨t, h1, rfl⟩ := h1
      exact (hrows i t r h1 h2).mono (St.IX st)
    · simp only [modM, List.length_map, List.map_map]
      exact rvm
end Go.Proofs.YtoilfakpgcjjpaaDoor.Log
namespace Go.Proofs.YtoilfakpgcjjpaaDoor.Log
set_option linter.unusedVariables false
set_option linter.unusedSimpArgs false
structure KM where
  W : Type
  le : W → W → Prop
  refl : ∀ w, le w w
  trans : ∀ a b c, le a b → le b c → le a c
  val : W → Nat → Prop
  up : ∀ a b c, le a b → val a c → val b c
def KM.forces (K : KM) : K.W → Fm → Prop
  | _, .fls => False
  | w, .atm c => K.val w c
  | w, .and a b => K.forces w a ∧ K.forces w b
  | w, .or a b => K.forces w a ∨ K.forces w b
  | w, .imp a b => ∀ v, K.le w v → K.forces v a → K.forces v b
theorem KM.mono (K : KM) : ∀ (x : Fm) (w v : K.W), K.le w v → K.forces w x → K.forces v x
  | .fls, w, v, h, hf => hf.elim
  | .atm c, w, v, h, hf => K.up w v c h hf
  | .and a b, w, v, h, hf => ⟨K.mono a w v h hf.1, K.mono b w v h hf.2⟩
  | .or a b, w, v, h, hf => hf.elim (fun hf => .inl (K.mono a w v h hf)) (fun hf => .inr (K.mono b w v h hf))
  | .imp a b, w, v, h, hf => fun u hu ha => hf u (K.trans w v u h hu) ha
/-- a sequent that holds in all worlds of all models -/
def vld (G : List Fm) (g : Fm) : Prop := ∀ (K : KM) (w : K.W), (∀ x ∈ G, K.forces w x) → K.forces w g
/-- many models above one new world -/
def glue {ι : Type} (F : ι → KM) (r : ∀ i, (F i).W) (A : Nat → Prop) (hA : ∀ i c, A c → (F i).val (r i) c) : KM where
  W := Option ((i : ι) × (F i).W)
  le := fun a b => match a, b with
    | none, none => True
    | none, some ⟨i, v⟩ => (F i).le (r i) v
    | some _, none => False
    | some ⟨i, u⟩, some ⟨j, v⟩ => ∃ h : i = j, (F j).le (h ▸ u) v
  refl := fun w => by
    match w with
    | none => trivial
    | some ⟨i, u⟩ => exact ⟨rfl, (F i).refl u⟩
  trans := fun a b c h1 h2 => by
    match a, b, c with
    | none, none, c => exact h2
    | none, some ⟨i, u⟩, some ⟨j, v⟩ => obtain ⟨rfl, h2⟩ := h2; exact (F i).trans _ _ _ h1 h2
    | some ⟨i, u⟩, some ⟨j, v⟩, some ⟨k, x⟩ => obtain ⟨rfl, h1⟩ := h1; obtain ⟨rfl, h2⟩ := h2; exact ⟨rfl, (F i).trans _ _ _ h1 h2⟩
    | none, some _, none => exact h2.elim
    | some _, none, _ => exact h1.elim
    | some _, some _, none => exact h2.elim
  val := fun w c => match w with
    | none => A c
    | some ⟨i, u⟩ => (F i).val u c
  up := fun a b c h hv => by
    match a, b with
    | none, none => exact hv
    | none, some ⟨i, v⟩ => exact (F i).up _ _ c h (hA i c hv)
    | some ⟨i, u⟩, some ⟨j, v⟩ => obtain ⟨rfl, h⟩ := h; exact (F i).up _ _ c h hv
    | some _, none => exact h.elim
theorem glue_forces {ι : Type} {F : ι → KM} {r : ∀ i, (F i).W} {A : Nat → Prop} {hA : ∀ i c, A c → (F i).val (r i) c} : ∀ (x : Fm) (i : ι) (u : (F i).W), (glue F r A hA).forces (some ⟨i, u⟩) x ↔ (F i).forces u x
  | .fls, i, u => Iff.rfl
  | .atm c, i, u => Iff.rfl
  | .and a b, i, u => and_congr (glue_forces a i u) (glue_forces b i u)
  | .or a b, i, u => or_congr (glue_forces a i u) (glue_forces b i u)
  | .imp a b, i, u => by
    constructor
    · intro h v hv ha
      exact (glue_forces b i v).1 (h (some ⟨i, v⟩) ⟨rfl, hv⟩ ((glue_forces a i v).2 ha))
    · intro h v hv ha
      match v with
      | none => exact hv.elim
      | some ⟨j, v⟩ =>
        obtain ⟨rfl, hv⟩ := hv
        exact (glue_forces b i v).2 (h v hv ((glue_forces a i v).1 ha))
end Go.Proofs.YtoilfakpgcjjpaaDoor.Log
namespace Go.Proofs.YtoilfakpgcjjpaaDoor.Log
set_option linter.unusedVariables false
set_option linter.unusedSimpArgs false
/-- a countermodel of a sequent: a world that forces the premises -/
structure CM (G : List Fm) where
  K : KM
  w : K.W
  all : ∀ x ∈ G, K.forces w x
theorem not_vld {G : List Fm} {g : Fm} (h : ¬ vld G g) : ∃ c : CM G, ¬ c.K.forces c.w g :=
  Classical.byContradiction fun hn => h fun K w hw => Classical.byContradiction fun hg => hn ⟨⟨K, w, hw⟩, hg⟩
/-- the premises of the forms that no safe rule takes -/
def Inert (G : List Fm) (x : Fm) : Prop := (∃ c, x = .atm c) ∨ (∃ c b, x = .imp (.atm c) b ∧ Fm.atm c ∉ G) ∨ (∃ b, x = .imp .fls b) ∨ ∃ a b c, x = .imp (.imp a b) c
theorem stuck {G : List Fm} {g : Fm} (hG : ∀ x ∈ G, Inert G x) (hg : (∃ c, g = .atm c ∧ Fm.atm c ∉ G) ∨ g = .fls ∨ ∃ a b, g = .or a b) (h : vld G g) :
    (∃ a b, g = .or a b ∧ (vld G a ∨ vld G b)) ∨ ∃ (i : Nat) (a b c : Fm), G[i]? = some (Fm.imp (.imp a b) c) ∧ vld (G.eraseIdx i ++ [Fm.imp b c]) (Fm.imp a b) := by
  refine Classical.byContradiction fun hn => ?_
  have hn1 : ∀ a b, g = .or a b → ¬ vld G a ∧ ¬ vld G b := fun a b e => ⟨fun hv => hn (.inl ⟨a, b, e, .inl hv⟩), fun hv => hn (.inl ⟨a, b, e, .inr hv⟩)⟩
  have hn2 : ∀ (i : Nat) (a b c : Fm), G[i]? = some (Fm.imp (.imp a b) c) → ∃ m : CM G, ¬ m.K.forces m.w (.imp a b) := fun i a b c hi => by
    obtain ⟨m, hm⟩ := not_vld (fun hv => hn (.inr ⟨i, a, b, c, hi, hv⟩))
    have hex : ∃ v, m.K.le m.w v ∧ m.K.forces v a ∧ ¬ m.K.forces v b := Classical.byContradiction fun hc => hm fun v hv ha => Classical.byContradiction fun hb => hc ⟨v, hv, ha, hb⟩
    obtain ⟨v, hv, ha, hb⟩ := hex
    refine ⟨⟨m.K, v, fun x hx => ?_⟩, fun hf => hb (hf v (m.K.refl v) ha)⟩
    obtain ⟨j, hj⟩ := List.getElem?_of_mem hx
    by_cases hji : j = i
    · subst hji
      rw [hi] at hj
      cases hj
      intro u hu hab
      have hbc := m.all (.imp b c) (by simp)
      exact hbc u (m.K.trans _ _ _ hv hu) (hab u (m.K.refl u) (m.K.mono a v u hu ha))
    · refine m.K.mono x _ _ hv (m.all x (List.mem_append_left _ ?_))
      rw [List.mem_eraseIdx_iff_getElem?]
      exact ⟨j, hji, hj⟩
  have c1 : ∀ j : {i : Nat // ∃ a b c, G[i]? = some (Fm.imp (.imp a b) c)}, ∃ m : CM G, ∀ a b c, G[j.1]? = some (Fm.imp (.imp a b) c) → ¬ m.K.forces m.w (.imp a b) := fun ⟨i, a, b, c, hi⟩ => by
    obtain ⟨m, hm⟩ := hn2 i a b c hi
    refine ⟨m, fun a' b' c' hi' => ?_⟩
    have hi'' : G[i]? = some (Fm.imp (.imp a' b') c') := hi'
    rw [hi] at hi''
    cases hi''
    exact hm
  have c2 : ∀ j : Bool × {u : Unit // ∃ a b, g = .or a b}, ∃ m : CM G, ∀ a b, g = .or a b → ¬ m.K.forces m.w (if j.1 then a else b) := fun ⟨t, _, a, b, hab⟩ => by
    have := hn1 a b hab
    cases t with
    | true =>
      obtain ⟨m, hm⟩ := not_vld this.1
      exact ⟨m, fun a' b' e => by rw [hab] at e; cases e; exact hm⟩
    | false =>
      obtain ⟨m, hm⟩ := not_vld this.2
      exact ⟨m, fun a' b' e => by rw [hab] at e; cases e; exact hm⟩
  let F : ({i : Nat // ∃ a b c, G[i]? = some (Fm.imp (.imp a b) c)} ⊕ (Bool × {u : Unit // ∃ a b, g = .or a b})) → CM G := fun j => match j with
    | .inl j => Classical.choose (c1 j)
    | .inr j => Classical.choose (c2 j)
  have hA : ∀ i c, Fm.atm c ∈ G → (F i).K.val (F i).w c := fun i c hc => (F i).all _ hc
  let K := glue (fun j => (F j).K) (fun j => (F j).w) (fun c => Fm.atm c ∈ G) hA
  have above : ∀ x ∈ G, ∀ j u, (F j).K.le (F j).w u → K.forces (some ⟨j, u⟩) x := fun x hx j u hu => (glue_forces (hA := hA) x j u).2 ((F j).K.mono x _ _ hu ((F j).all x hx))
  have root : ∀ x j, K.forces none x → (F j).K.forces (F j).w x := fun x j hx => (glue_forces (hA := hA) x j _).1 (K.mono x none (some ⟨j, (F j).w⟩) ((F j).K.refl _) hx)
  have hall : ∀ x ∈ G, K.forces none x := fun x hx => by
    rcases hG x hx with ⟨c, rfl⟩ | ⟨c, b, rfl, hc⟩ | ⟨b, rfl⟩ | ⟨a, b, c, rfl⟩
    · exact hx
    · intro v hv ha
      match v with
      | none => exact absurd ha hc
      | some ⟨j, u⟩ => exact above _ hx j u hv (some ⟨j, u⟩) (K.refl _) ha
    · intro v hv ha
      exact ha.elim
    · intro v hv ha
      match v with
      | none =>
        obtain ⟨i, hi⟩ := List.getElem?_of_mem hx
        exact absurd (root _ (.inl ⟨i, a, b, c, hi⟩) ha) (Classical.choose_spec (c1 ⟨i, a, b, c, hi⟩) a b c hi)
      | some ⟨j, u⟩ => exact above _ hx j u hv (some ⟨j, u⟩) (K.refl _) ha
  have hgf := h K none hall
  rcases hg with ⟨c, rfl, hc⟩ | rfl | ⟨a, b, rfl⟩
  · exact hc hgf
  · exact hgf
  · rcases hgf with hf | hf
    · exact Classical.choose_spec (c2 (true, ⟨(), a, b, rfl⟩)) a b rfl (root a (.inr (true, ⟨(), a, b, rfl⟩)) hf)
    · exact Classical.choose_spec (c2 (false, ⟨(), a, b, rfl⟩)) a b rfl (root b (.inr (false, ⟨(), a, b, rfl⟩)) hf)
end Go.Proofs.YtoilfakpgcjjpaaDoor.Log
namespace Go.Proofs.YtoilfakpgcjjpaaDoor.Log
set_option linter.unusedVariables false
set_option linter.unusedSimpArgs false
theorem all_erase {G : List Fm} {i : Nat} {x : Fm} (h : G[i]? = some x) (P : Fm → Prop) : (∀ y ∈ G, P y) ↔ P x ∧ ∀ y ∈ G.eraseIdx i, P y := by
  constructor
  · intro ha
    exact ⟨ha x (List.mem_of_getElem? h), fun y hy => ha y (List.mem_of_mem_eraseIdx hy)⟩
  · rintro ⟨hx, ha⟩ y hy
    obtain ⟨j, hj⟩ := List.getElem?_of_mem hy
    by_cases hji : j = i
    · subst hji; rw [h] at hj; cases hj; exact hx
    · exact ha y (List.mem_eraseIdx_iff_getElem?.2 ⟨j, hji, hj⟩)
theorem all_app {G ms : List Fm} (P : Fm → Prop) : (∀ y ∈ G ++ ms, P y) ↔ (∀ y ∈ G, P y) ∧ ∀ y ∈ ms, P y := by
  constructor
  · intro h; exact ⟨fun y hy => h y (List.mem_append_left _ hy), fun y hy => h y (List.mem_append_right _ hy)⟩
  · rintro ⟨h1, h2⟩ y hy
    rcases List.mem_append.1 hy with hy | hy
    · exact h1 y hy
    · exact h2 y hy
/-- a premise that means the same as others -/
theorem vld_swap {G ms : List Fm} {i : Nat} {x g : Fm} (h : G[i]? = some x) (he : ∀ (K : KM) (w : K.W), (∀ y ∈ G.eraseIdx i, K.forces w y) → (K.forces w x ↔ ∀ z ∈ ms, K.forces w z)) : vld G g ↔ vld (G.eraseIdx i ++ ms) g := by
  constructor
  · intro hv K w hw
    rw [all_app] at hw
    exact hv K w ((all_erase h _).2 ⟨(he K w hw.1).2 hw.2, hw.1⟩)
  · intro hv K w hw
    rw [all_erase h] at hw
    exact hv K w ((all_app _).2 ⟨hw.2, (he K w hw.2).1 hw.1⟩)
theorem vld_and {G : List Fm} {a b : Fm} : vld G (.and a b) ↔ vld G a ∧ vld G b :=
  ⟨fun h => ⟨fun K w hw => (h K w hw).1, fun K w hw => (h K w hw).2⟩, fun h K w hw => ⟨h.1 K w hw, h.2 K w hw⟩⟩
theorem vld_imp {G : List Fm} {a b : Fm} : vld G (.imp a b) ↔ vld (G ++ [a]) b := by
  constructor
  · intro h K w hw
    rw [all_app] at hw
    exact h K w hw.1 w (K.refl w) (hw.2 a (by simp))
  · intro h K w hw v hv ha
    exact h K v ((all_app _).2 ⟨fun y hy => K.mono y w v hv (hw y hy), fun y hy => by simp at hy; subst hy; exact ha⟩)
theorem vld_left_or {G : List Fm} {i : Nat} {a b g : Fm} (h : G[i]? = some (.or a b)) : vld G g ↔ vld (G.eraseIdx i ++ [a]) g ∧ vld (G.eraseIdx i ++ [b]) g := by
  constructor
  · intro hv
    refine ⟨fun K w hw => ?_, fun K w hw => ?_⟩ <;> (rw [all_app] at hw; refine hv K w ((all_erase h _).2 ⟨?_, hw.1⟩))
    · exact .inl (hw.2 a (by simp))
    · exact .inr (hw.2 b (by simp))
  · rintro ⟨h1, h2⟩ K w hw
    rw [all_erase h] at hw
    rcases hw.1 with ha | hb
    · exact h1 K w ((all_app _).2 ⟨hw.2, fun y hy => by simp at hy; subst hy; exact ha⟩)
    · exact h2 K w ((all_app _).2 ⟨hw.2, fun y hy => by simp at hy; subst hy; exact hb⟩)
theorem vld_and_l {G : List Fm} {i : Nat} {a b g : Fm} (h : G[i]? = some (.and a b)) : vld G g ↔ vld (G.eraseIdx i ++ [a, b]) g :=
  vld_swap h fun K w _ => by simp [KM.forces]
theorem vld_8 {G : List Fm} {i : Nat} {c : Nat} {b g : Fm} (h : G[i]? = some (.imp (.atm c) b)) (hc : Fm.atm c ∈ G) : vld G g ↔ vld (G.eraseIdx i ++ [b]) g :=
  vld_swap h fun K w hw => by
    have hm : Fm.atm c ∈ G.eraseIdx i := by
      obtain ⟨j, hj⟩ := List.getElem?_of_mem hc
      refine List.mem_eraseIdx_iff_getElem?.2 ⟨j, fun e => ?_, hj⟩
      subst e; rw [h] at hj; cases hj
    have hf := hw _ hm
    constructor
    · intro hi z hz; simp at hz; subst hz; exact hi w (K.refl w) hf
    · intro hb v hv _; exact K.mono b w v hv (hb b (by simp))
theorem vld_9 {G : List Fm} {i : Nat} {x y b g : Fm} (h : G[i]? = some (.imp (.and x y) b)) : vld G g ↔ vld (G.eraseIdx i ++ [.imp x (.imp y b)]) g :=
  vld_swap h fun K w hw => by
    constructor
    · intro hi z hz; simp at hz; subst hz
      intro v hv hx u hu hy
      exact hi u (K.trans _ _ _ hv hu) ⟨K.mono x v u hu hx, hy⟩
    · intro hb v hv hxy
      have h0 : K.forces w (.imp x (.imp y b)) := hb _ (by simp)
      exact h0 v hv hxy.1 v (K.refl v) hxy.2
theorem vld_10 {G : List Fm} {i : Nat} {x y b g : Fm} (h : G[i]? = some (.imp (.or x y) b)) : vld G g ↔ vld (G.eraseIdx i ++ [.imp x b, .imp y b]) g :=
  vld_swap h fun K w hw => by
    constructor
    · intro hi z hz; simp at hz; rcases hz with rfl | rfl
      · intro v hv hx; exact hi v hv (.inl hx)
      · intro v hv hy; exact hi v hv (.inr hy)
    · intro hb v hv hxy
      rcases hxy with hx | hy
      · exact hb (.imp x b) (by simp) v hv hx
      · exact hb (.imp y b) (by simp) v hv hy
theorem vld_11a {G : List Fm} {i : Nat} {x y b g : Fm} (h : G[i]? = some (.imp (.imp x y) b)) (hv : vld G g) : vld (G.eraseIdx i ++ [b]) g := fun K w hw => by
  rw [all_app] at hw
  exact hv K w ((all_erase h _).2 ⟨fun v hv _ => K.mono b w v hv (hw.2 b (by simp)), hw.1⟩)
theorem vld_11b {G : List Fm} {i : Nat} {x y b g : Fm} (h : G[i]? = some (.imp (.imp x y) b)) (h1 : vld (G.eraseIdx i ++ [.imp y b]) (.imp x y)) (h2 : vld (G.eraseIdx i ++ [b]) g) : vld G g := fun K w hw => by
  rw [all_erase h] at hw
  have hyb : K.forces w (.imp y b) := fun v hv hy => hw.1 v hv (fun u hu _ => K.mono y v u hu hy)
  have hxy := h1 K w ((all_app _).2 ⟨hw.2, fun z hz => by simp at hz; subst hz; exact hyb⟩)
  exact h2 K w ((all_app _).2 ⟨hw.2, fun z hz => by simp at hz; subst hz; exact hw.1 w (K.refl w) hxy⟩)
end Go.Proofs.YtoilfakpgcjjpaaDoor.Log
namespace Go.Proofs.YtoilfakpgcjjpaaDoor.Log
set_option linter.unusedVariables false
set_option linter.unusedSimpArgs false
def vq (q : Sq) : Prop := vld q.1 q.2
theorem right_sound {q : Sq} {r : Int} {nx : List Sq} (h : rightL q r = some nx) (hv : ∀ t ∈ nx, vq t) : vq q := by
  obtain ⟨G, g⟩ := q
  cases g <;> simp only [rightL] at h <;> repeat' split at h
  all_goals first | (cases h; done) | skip
  all_goals cases h
  · exact vld_and.2 ⟨by simpa [vq, withL] using hv _ (.head _), by simpa [vq, withL] using hv _ (.tail _ (.head _))⟩
  · have h1 := hv _ (.head _); simp only [vq, withL, List.append_nil] at h1; exact fun K w hw => .inl (h1 K w hw)
  · have h1 := hv _ (.head _); simp only [vq, withL, List.append_nil] at h1; exact fun K w hw => .inr (h1 K w hw)
  · exact vld_imp.2 (hv _ (.head _))
theorem right_inv {q : Sq} {r : Int} {nx : List Sq} (h : rightL q r = some nx) (hr : r ≠ 3 ∧ r ≠ 4) (hv : vq q) : ∀ t ∈ nx, vq t := by
  obtain ⟨G, g⟩ := q
  cases g <;> simp only [rightL] at h <;> repeat' split at h
  all_goals first | (cases h; done) | skip
  all_goals cases h
  · have := vld_and.1 hv
    intro t ht
    simp at ht
    rcases ht with rfl | rfl
    · simpa [vq, withL] using this.1
    · simpa [vq, withL] using this.2
  · omega
  · omega
  · intro t ht; simp at ht; subst ht; exact vld_imp.1 hv
theorem left_sound {q : Sq} {r : Int} {i : Nat} {s : Fm} {nx : List Sq} (hs : q.1[i]? = some s) (h : leftL q r i s = some nx) (hv : ∀ t ∈ nx, vq t) : vq q := by
  obtain ⟨G, g⟩ := q
  cases s with
  | fls => intro K w hw; exact (hw _ (List.mem_of_getElem? hs)).elim
  | atm c =>
    simp only [leftL] at h; split at h
    · rename_i hc
      have hg : g = .atm c := by simpa using hc.2
      subst hg
      exact fun K w hw => hw _ (List.mem_of_getElem? hs)
    · cases h
  | and x y => simp only [leftL] at h; split at h <;> cases h; exact (vld_and_l hs).2 (hv _ (.head _))
  | or x y => simp only [leftL] at h; split at h <;> cases h; exact (vld_left_or hs).2 ⟨hv _ (.head _), hv _ (.tail _ (.head _))⟩
  | imp x b =>
    simp only [leftL] at h
    cases x with
    | fls => simp [impL] at h
    | atm c =>
      simp only [impL] at h; split at h
      · rename_i hc; cases h
        have hm : Fm.atm c ∈ G := by simpa using hc.2
        exact (vld_8 hs hm).2 (hv _ (.head _))
      · cases h
    | and x y => simp only [impL] at h; split at h <;> cases h; exact (vld_9 hs).2 (hv _ (.head _))
    | or x y => simp only [impL] at h; split at h <;> cases h; exact (vld_10 hs).2 (hv _ (.head _))
    | imp x y => simp only [impL] at h; split at h <;> cases h; exact vld_11b hs (hv _ (.head _)) (hv _ (.tail _ (.head _)))
theorem left_inv {q : Sq} {r : Int} {i : Nat} {s : Fm} {nx : List Sq} (hs : q.1[i]? = some s) (h : leftL q r i s = some nx) (hr : r ≠ 11) (hv : vq q) : ∀ t ∈ nx, vq t := by
  obtain ⟨G, g⟩ := q
  cases s with
  | fls => simp only [leftL] at h; split at h <;> cases h; simp
  | atm c => simp only [leftL] at h; split at h <;> cases h; simp
  | and x y => simp only [leftL] at h; split at h <;> cases h; intro t ht; simp at ht; subst ht; exact (vld_and_l hs).1 hv
  | or x y =>
    simp only [leftL] at h; split at h <;> cases h
    intro t ht; simp at ht
    rcases ht with rfl | rfl
    · exact ((vld_left_or hs).1 hv).1
    · exact ((vld_left_or hs).1 hv).2
  | imp x b =>
    simp only [leftL] at h
    cases x with
    | fls => simp [impL] at h
    | atm c =>
      simp only [impL] at h; split at h
      · rename_i hc; cases h
        have hm : Fm.atm c ∈ G := by simpa using hc.2
        intro t ht; simp at ht; subst ht; exact (vld_8 hs hm).1 hv
      · cases h
    | and x y => simp only [impL] at h; split at h <;> cases h; intro t ht; simp at ht; subst ht; exact (vld_9 hs).1 hv
    | or x y => simp only [impL] at h; split at h <;> cases h; intro t ht; simp at ht; subst ht; exact (vld_10 hs).1 hv
    | imp x y => simp only [impL] at h; split at h <;> first | (cases h; done) | (exact absurd ‹_› hr)
theorem apply_sound {q : Sq} {r k : Int} {nx : List Sq} (h : applyL q r k = some nx) (hv : ∀ t ∈ nx, vq t) : vq q := by
  unfold applyL at h
  split at h
  · split at h
    · cases h
    · exact right_sound h hv
  · split at h
    · cases h
    · split at h
      · rename_i s hs; exact left_sound hs h hv
      · cases h
theorem apply_inv {q : Sq} {r k : Int} {nx : List Sq} (h : applyL q r k = some nx) (hr : r ≠ 3 ∧ r ≠ 4 ∧ r ≠ 11) (hv : vq q) : ∀ t ∈ nx, vq t := by
  unfold applyL at h
  split at h
  · split at h
    · cases h
    · exact right_inv h ⟨hr.1, hr.2.1⟩ hv
  · split at h
    · cases h
    · split at h
      · rename_i s hs; exact left_inv hs h hr.2.2 hv
      · cases h
end Go.Proofs.YtoilfakpgcjjpaaDoor.Log
namespace Go.Proofs.YtoilfakpgcjjpaaDoor.Log
set_option linter.unusedVariables false
set_option linter.unusedSimpArgs false
theorem concatF_some {D : Sq → Option (List Mv)} : ∀ {nx : List Sq}, (concatF D nx).isSome = true ↔ ∀ t ∈ nx, (D t).isSome = true
  | [] => by simp [concatF]
  | t :: ts => by
    have ih := concatF_some (D := D) (nx := ts)
    simp only [concatF]
    cases hd : D t with
    | none => simp [hd]
    | some l =>
      simp only [Option.isSome_map, ih, List.mem_cons]
      constructor
      · rintro h u (rfl | hu)
        · simp [hd]
        · exact h u hu
      · exact fun h u hu => h u (.inr hu)
theorem tryF_some {D : Sq → Option (List Mv)} {q : Sq} {r k : Int} : (tryF D q r k).isSome = true ↔ ∃ nx, applyL q r k = some nx ∧ ∀ t ∈ nx, (D t).isSome = true := by
  unfold tryF
  cases h : applyL q r k with
  | none => simp
  | some nx => simp [concatF_some]
theorem posns_right {q : Sq} {r : Int} (h : 2 ≤ r ∧ r ≤ 5) : posns q r = 1 := by unfold posns; rw [if_pos h]
theorem posns_left {q : Sq} {r : Int} (h : ¬ (2 ≤ r ∧ r ≤ 5)) : posns q r = q.1.length := by unfold posns; rw [if_neg h]
theorem apply_right {q : Sq} {r : Int} (h : 2 ≤ r ∧ r ≤ 5) : applyL q r ((0 : Nat) : Int) = rightL q r := by
  unfold applyL; rw [if_pos h, if_neg (by simp)]
theorem apply_left {q : Sq} {r : Int} {i : Nat} {s : Fm} (h : ¬ (2 ≤ r ∧ r ≤ 5)) (hs : q.1[i]? = some s) : applyL q r i = leftL q r i s := by
  have hi := (List.getElem?_eq_some_iff.1 hs).1
  unfold applyL; rw [if_neg h, if_neg (by omega)]; simp [hs]
theorem stuck_q {q : Sq} (h : ∀ r ∈ safeR, ∀ k : Nat, k < posns q r → applyL q r k = none) :
    (∀ x ∈ q.1, Inert q.1 x) ∧ ((∃ c, q.2 = .atm c ∧ Fm.atm c ∉ q.1) ∨ q.2 = .fls ∨ ∃ a b, q.2 = .or a b) := by
  obtain ⟨G, g⟩ := q
  have hR : ∀ r ∈ safeR, (2 ≤ r ∧ r ≤ 5) → rightL (G, g) r = none := fun r hr h2 => by
    rw [← apply_right h2]; exact h r hr 0 (by rw [posns_right h2]; decide)
  have hL : ∀ r ∈ safeR, ¬ (2 ≤ r ∧ r ≤ 5) → ∀ (i : Nat) (s : Fm), G[i]? = some s → leftL (G, g) r i s = none := fun r hr h2 i s hs => by
    rw [← apply_left (q := (G, g)) h2 hs]; exact h r hr i (by rw [posns_left h2]; exact (List.getElem?_eq_some_iff.1 hs).1)
  constructor
  · intro x hx
    obtain ⟨i, hi⟩ := List.getElem?_of_mem hx
    cases x with
    | fls => have := hL 1 (by simp [safeR]) (by omega) i _ hi; simp [leftL] at this
    | atm c => exact .inl ⟨c, rfl⟩
    | and a b => have := hL 6 (by simp [safeR]) (by omega) i _ hi; simp [leftL] at this
    | or a b => have := hL 7 (by simp [safeR]) (by omega) i _ hi; simp [leftL] at this
    | imp a b =>
      cases a with
      | fls => exact .inr (.inr (.inl ⟨b, rfl⟩))
      | atm c =>
        refine .inr (.inl ⟨c, b, rfl, fun hc => ?_⟩)
        have := hL 8 (by simp [safeR]) (by omega) i _ hi
        simp [leftL, impL] at this
        exact this hc
      | and x y => have := hL 9 (by simp [safeR]) (by omega) i _ hi; simp [leftL, impL] at this
      | or x y => have := hL 10 (by simp [safeR]) (by omega) i _ hi; simp [leftL, impL] at this
      | imp x y => exact .inr (.inr (.inr ⟨x, y, b, rfl⟩))
  · cases g with
    | fls => exact .inr (.inl rfl)
    | atm c =>
      refine .inl ⟨c, rfl, fun hc => ?_⟩
      obtain ⟨i, hi⟩ := List.getElem?_of_mem hc
      have := hL 0 (by simp [safeR]) (by omega) i _ hi
      simp [leftL] at this
    | and a b => have := hR 2 (by simp [safeR]) (by omega); simp [rightL] at this
    | or a b => exact .inr (.inr ⟨a, b, rfl⟩)
    | imp a b => have := hR 5 (by simp [safeR]) (by omega); simp [rightL] at this
theorem derF_vld : ∀ (f : Nat) (q : Sq), mu q < f → ((derF f q).isSome = true ↔ vq q) := by
  intro f
  induction f with
  | zero => intro q h; omega
  | succ f ih =>
    intro q hq
    have hch : ∀ {r k : Int} {nx : List Sq}, applyL q r k = some nx → ∀ t ∈ nx, ((derF f t).isSome = true ↔ vq t) := fun hx t ht => by
      have h1 := apply_mu hx
      have h2 := sumMu_mem ht
      exact ih t (by omega)
    simp only [derF]
    cases hs : safeR.findSome? (hitR q) with
    | some m =>
      obtain ⟨r, hr, hh⟩ := List.exists_of_findSome?_eq_some hs
      unfold hitR at hh
      cases hf : (List.range (posns q r)).find? (fun k : Nat => (applyL q r k).isSome) with
      | none => rw [hf] at hh; cases hh
      | some k =>
        rw [hf] at hh
        cases hh
        have hk := List.find?_some hf
        obtain ⟨nx, hnx⟩ := Option.isSome_iff_exists.1 hk
        have hr3 : r ≠ 3 ∧ r ≠ 4 ∧ r ≠ 11 := by
          simp [safeR] at hr
          omega
        simp only [tryF_some]
        constructor
        · rintro ⟨nx', e, ha⟩
          exact apply_sound e fun t ht => (hch e t ht).1 (ha t ht)
        · intro hv
          exact ⟨nx, hnx, fun t ht => (hch hnx t ht).2 (apply_inv hnx hr3 hv t ht)⟩
    | none =>
      have hno : ∀ r ∈ safeR, ∀ k : Nat, k < posns q r → applyL q r k = none := fun r hr k hk => by
        have h1 := List.findSome?_eq_none_iff.1 hs r hr
        unfold hitR at h1
        cases hf : (List.range (posns q r)).find? (fun k : Nat => (applyL q r k).isSome) with
        | some j => rw [hf] at h1; cases h1
        | none =>
          have := List.find?_eq_none.1 hf k (by simpa using hk)
          simpa using this
      obtain ⟨hG, hg⟩ := stuck_q hno
      simp only [List.findSome?_isSome_iff, tryR, tryF_some]
      constructor
      · rintro ⟨r, _, k, _, nx, e, ha⟩
        exact apply_sound e fun t ht => (hch e t ht).1 (ha t ht)
      · intro hv
        obtain ⟨G, g⟩ := q
        rcases stuck hG hg hv with ⟨a, b, e, hab⟩ | ⟨i, a, b, c, hi, hl⟩
        · simp only at e
          subst e
          rcases hab with ha | hb
          · have e : applyL (G, .or a b) 3 ((0 : Nat) : Int) = some [withL (G, .or a b) none a []] := by rw [apply_right (by omega)]; simp [rightL]
            exact ⟨3, by simp [restR], 0, by simp [posns_right], _, e, fun t ht => (hch e t ht).2 (by simp at ht; subst ht; simpa [vq, withL] using ha)⟩
          · have e : applyL (G, .or a b) 4 ((0 : Nat) : Int) = some [withL (G, .or a b) none b []] := by rw [apply_right (by omega)]; simp [rightL]
            exact ⟨4, by simp [restR], 0, by simp [posns_right], _, e, fun t ht => (hch e t ht).2 (by simp at ht; subst ht; simpa [vq, withL] using hb)⟩
        · have e : applyL (G, g) 11 i = some [withL (G, g) (some i) (.imp a b) [.imp b c], withL (G, g) (some i) g [c]] := by rw [apply_left (q := (G, g)) (by omega) hi]; simp [leftL, impL]
          have hil := (List.getElem?_eq_some_iff.1 hi).1
          refine ⟨11, by simp [restR], i, by rw [posns_left (by omega)]; simpa using hil, _, e, fun t ht => (hch e t ht).2 ?_⟩
          simp at ht
          rcases ht with rfl | rfl
          · exact hl
          · exact vld_11a hi hv
end Go.Proofs.YtoilfakpgcjjpaaDoor.Log
namespace Go.Proofs.YtoilfakpgcjjpaaDoor.Log
set_option linter.unusedVariables false
set_option linter.unusedSimpArgs false
def leaves : Fm → Nat
  | .fls => 1
  | .atm _ => 1
  | .and a b => leaves a + leaves b
  | .or a b => leaves a + leaves b
  | .imp a b => leaves a + leaves b
theorem parts_leaves : ∀ x : Fm, parts x + 1 = 2 * leaves x ∧ 1 ≤ leaves x
  | .fls => by simp [parts, leaves]
  | .atm _ => by simp [parts, leaves]
  | .and a b => by have := parts_leaves a; have := parts_leaves b; simp only [parts, leaves]; omega
  | .or a b => by have := parts_leaves a; have := parts_leaves b; simp only [parts, leaves]; omega
  | .imp a b => by have := parts_leaves a; have := parts_leaves b; simp only [parts, leaves]; omega
theorem hM_mono : ∀ (x : Fm) (c d : Nat), c ≤ d → hM x c ≤ hM x d
  | .fls, c, d, h => Nat.le_refl _
  | .atm _, c, d, h => Nat.succ_le_succ h
  | .and a b, c, d, h => Nat.succ_le_succ (hM_mono a _ _ (hM_mono b c d h))
  | .or a b, c, d, h => Nat.succ_le_succ (Nat.mul_le_mul (hM_mono a c d h) (hM_mono b c d h))
  | .imp a b, c, d, h => by
    have := Nat.mul_le_mul_right (gM (.imp a b)) (hM_mono b c d h)
    simp only [h_imp]; omega
/-- the greatest values at a number of leaves -/
def maxTo (f : Nat → Nat) : Nat → Nat
  | 0 => 0
  | n + 1 => max (maxTo f n) (f n)
theorem le_maxTo {f : Nat → Nat} : ∀ {n i : Nat}, i < n → f i ≤ maxTo f n
  | n + 1, i, h => by
    rcases Nat.lt_succ_iff_lt_or_eq.1 h with h | rfl
    · exact Nat.le_trans (le_maxTo h) (Nat.le_max_left _ _)
    · exact Nat.le_max_right _ _
def FGH : Nat → (Nat → Nat) × (Nat → Nat) × (Nat → Nat → Nat)
  | 0 => (fun _ => 0, fun _ => 0, fun _ _ => 0)
  | k + 1 =>
    (fun n => if n = 1 then 1 else maxTo (fun i => if i = 0 then 0 else max (max ((FGH k).1 i * (FGH k).1 (n - i) + 1) ((FGH k).1 i + (FGH k).1 (n - i) + 1)) ((FGH k).2.2 i ((FGH k).1 (n - i)))) n,
     fun n => if n = 1 then 1 else maxTo (fun i => if i = 0 then 0 else max ((FGH k).2.1 i + (FGH k).2.1 (n - i) + 1) ((FGH k).1 i * (FGH k).2.1 (n - i) + 1)) n,
     fun n c => if n = 1 then c + 1 else maxTo (fun i => if i = 0 then 0 else max (max ((FGH k).2.2 i ((FGH k).2.2 (n - i) c) + 1) ((FGH k).2.2 i c * (FGH k).2.2 (n - i) c + 1)) ((FGH k).2.2 (n - i) c * ((FGH k).1 i * (FGH k).2.1 (n - i) + 1) + c + 1)) n)
theorem G_small : (FGH 6).2.1 6 ≤ 20000 ∧ (FGH 6).2.1 5 ≤ 20000 ∧ (FGH 6).2.1 4 ≤ 20000 ∧ (FGH 6).2.1 3 ≤ 20000 ∧ (FGH 6).2.1 2 ≤ 20000 ∧ (FGH 6).2.1 1 ≤ 20000 := by decide +kernel
theorem FGH_ok : ∀ (k : Nat) (x : Fm), leaves x ≤ k → fM x ≤ (FGH k).1 (leaves x) ∧ gM x ≤ (FGH k).2.1 (leaves x) ∧ ∀ c, hM x c ≤ (FGH k).2.2 (leaves x) c := by
  intro k
  induction k with
  | zero => intro x h; have := (parts_leaves x).2; omega
  | succ k ih =>
    intro x hx
    have two : ∀ a b : Fm, leaves a + leaves b ≤ k + 1 → (fM a ≤ (FGH k).1 (leaves a) ∧ gM a ≤ (FGH k).2.1 (leaves a) ∧ ∀ c, hM a c ≤ (FGH k).2.2 (leaves a) c) ∧ (fM b ≤ (FGH k).1 (leaves b) ∧ gM b ≤ (FGH k).2.1 (leaves b) ∧ ∀ c, hM b c ≤ (FGH k).2.2 (leaves b) c) ∧ leaves a + leaves b ≠ 1 ∧ leaves a < leaves a + leaves b ∧ leaves a ≠ 0 ∧ leaves a + leaves b - leaves a = leaves b := fun a b h => by
      have := (parts_leaves a).2
      have := (parts_leaves b).2
      exact ⟨ih a (by omega), ih b (by omega), by omega, by omega, by omega, by omega⟩
    cases x with
    | fls => exact ⟨by simp [fM, fgh, leaves, FGH], by simp [gM, fgh, leaves, FGH], fun c => by simp [hM, fgh, leaves, FGH]⟩
    | atm c => exact ⟨by simp [fM, fgh, leaves, FGH], by simp [gM, fgh, leaves, FGH], fun c => by simp [hM, fgh, leaves, FGH]⟩
    | and a b =>
      obtain ⟨⟨fa, ga, ha⟩, ⟨fb, gb, hb⟩, n1, nl, n0, nb⟩ := two a b hx
      simp only [leaves, FGH, if_neg n1]
      refine ⟨Nat.le_trans ?_ (le_maxTo nl), Nat.le_trans ?_ (le_maxTo nl), fun c => Nat.le_trans ?_ (le_maxTo nl)⟩ <;> simp only [if_neg n0, nb]
      · rw [f_and]; exact Nat.le_trans (Nat.succ_le_succ (Nat.mul_le_mul fa fb)) (Nat.le_trans (Nat.le_max_left _ _) (Nat.le_max_left _ _))
      · rw [g_and]; exact Nat.le_trans (by omega) (Nat.le_max_left _ _)
      · rw [h_and]; exact Nat.le_trans (Nat.succ_le_succ (Nat.le_trans (hM_mono a _ _ (hb c)) (ha _))) (Nat.le_trans (Nat.le_max_left _ _) (Nat.le_max_left _ _))
    | or a b =>
      obtain ⟨⟨fa, ga, ha⟩, ⟨fb, gb, hb⟩, n1, nl, n0, nb⟩ := two a b hx
      simp only [leaves, FGH, if_neg n1]
      refine ⟨Nat.le_trans ?_ (le_maxTo nl), Nat.le_trans ?_ (le_maxTo nl), fun c => Nat.le_trans ?_ (le_maxTo nl)⟩ <;> simp only [if_neg n0, nb]
      · rw [f_or]; exact Nat.le_trans (by omega) (Nat.le_trans (Nat.le_max_right _ _) (Nat.le_max_left _ _))
      · rw [g_or]; exact Nat.le_trans (by omega) (Nat.le_max_left _ _)
      · rw [h_or]; exact Nat.le_trans (Nat.succ_le_succ (Nat.mul_le_mul (ha c) (hb c))) (Nat.le_trans (Nat.le_max_right _ _) (Nat.le_max_left _ _))
    | imp a b =>
      obtain ⟨⟨fa, ga, ha⟩, ⟨fb, gb, hb⟩, n1, nl, n0, nb⟩ := two a b hx
      simp only [leaves, FGH, if_neg n1]
      refine ⟨Nat.le_trans ?_ (le_maxTo nl), Nat.le_trans ?_ (le_maxTo nl), fun c => Nat.le_trans ?_ (le_maxTo nl)⟩ <;> simp only [if_neg n0, nb]
      · rw [f_imp]; exact Nat.le_trans (Nat.le_trans (hM_mono a _ _ fb) (ha _)) (Nat.le_max_right _ _)
      · rw [g_imp]; exact Nat.le_trans (Nat.succ_le_succ (Nat.mul_le_mul fa gb)) (Nat.le_max_right _ _)
      · rw [h_imp, g_imp]
        have h1 := Nat.mul_le_mul (hb c) (Nat.succ_le_succ (Nat.mul_le_mul fa gb))
        simp only [Nat.succ_eq_add_one] at h1
        exact Nat.le_trans (by omega) (Nat.le_max_right _ _)
theorem gM_small {x : Fm} (h : parts x ≤ 12) : gM x ≤ 20000 := by
  obtain ⟨h1, h2⟩ := parts_leaves x
  have h6 : leaves x ≤ 6 := by omega
  have := (FGH_ok 6 x h6).2.1
  obtain ⟨g6, g5, g4, g3, g2, g1⟩ := G_small
  have hn : leaves x = 6 ∨ leaves x = 5 ∨ leaves x = 4 ∨ leaves x = 3 ∨ leaves x = 2 ∨ leaves x = 1 := by omega
  rcases hn with e | e | e | e | e | e <;> rw [e] at this <;> omega
end Go.Proofs.YtoilfakpgcjjpaaDoor.Log
namespace Go.Proofs.YtoilfakpgcjjpaaDoor.Log
open Go Go.RowKit Go.Proofs.YtoilfakpgcjjpaaDoor Go.Proofs.YtoilfakpgcjjpaaDoor.Eng
set_option linter.unusedVariables false
set_option linter.unusedSimpArgs false
/-- y is a part of x -/
def isSub (y : Fm) : Fm → Prop
  | .fls => y = .fls
  | .atm c => y = .atm c
  | .and a b => y = .and a b ∨ isSub y a ∨ isSub y b
  | .or a b => y = .or a b ∨ isSub y a ∨ isSub y b
  | .imp a b => y = .imp a b ∨ isSub y a ∨ isSub y b
theorem isSub_self (x : Fm) : isSub x x := by cases x <;> simp [isSub]
theorem mem_put {y x : Fm} {xs : List Fm} : y ∈ putF x xs ↔ y = x ∨ y ∈ xs := by
  unfold putF
  split
  · rename_i h
    obtain ⟨z, hz, hzx⟩ := List.any_eq_true.1 h
    have : x = z := by simpa using hzx
    subst this
    constructor
    · exact .inr
    · rintro (rfl | h)
      · exact hz
      · exact h
  · simp [or_comm]
theorem mem_add {y : Fm} : ∀ {x : Fm} {xs : List Fm}, y ∈ addF x xs ↔ isSub y x ∨ y ∈ xs
  | .fls, xs => mem_put
  | .atm c, xs => mem_put
  | .and a b, xs => by rw [addF, mem_put, mem_add, mem_add, isSub]; exact ⟨fun h => by rcases h with h | h | h | h <;> simp [h], fun h => by rcases h with (h | h | h) | h <;> simp [h]⟩
  | .or a b, xs => by rw [addF, mem_put, mem_add, mem_add, isSub]; exact ⟨fun h => by rcases h with h | h | h | h <;> simp [h], fun h => by rcases h with (h | h | h) | h <;> simp [h]⟩
  | .imp a b, xs => by rw [addF, mem_put, mem_add, mem_add, isSub]; exact ⟨fun h => by rcases h with h | h | h | h <;> simp [h], fun h => by rcases h with (h | h | h) | h <;> simp [h]⟩
def Fm.kids : Fm → List Fm
  | .and a b => [a, b]
  | .or a b => [a, b]
  | .imp a b => [a, b]
  | _ => []
theorem isSub_kids {y z : Fm} : ∀ {x : Fm}, isSub y x → z ∈ y.kids → isSub z x
  | .fls, h, hz => by simp only [isSub] at h; subst h; simp [Fm.kids] at hz
  | .atm c, h, hz => by simp only [isSub] at h; subst h; simp [Fm.kids] at hz
  | .and a b, h, hz => by
    rcases h with rfl | h | h
    · simp only [Fm.kids, List.mem_cons, List.not_mem_nil, or_false] at hz
      rcases hz with rfl | rfl
      · exact .inr (.inl (isSub_self _))
      · exact .inr (.inr (isSub_self _))
    · exact .inr (.inl (isSub_kids h hz))
    · exact .inr (.inr (isSub_kids h hz))
  | .or a b, h, hz => by
    rcases h with rfl | h | h
    · simp only [Fm.kids, List.mem_cons, List.not_mem_nil, or_false] at hz
      rcases hz with rfl | rfl
      · exact .inr (.inl (isSub_self _))
      · exact .inr (.inr (isSub_self _))
    · exact .inr (.inl (isSub_kids h hz))
    · exact .inr (.inr (isSub_kids h hz))
  | .imp a b, h, hz => by
    rcases h with rfl | h | h
    · simp only [Fm.kids, List.mem_cons, List.not_mem_nil, or_false] at hz
      rcases hz with rfl | rfl
      · exact .inr (.inl (isSub_self _))
      · exact .inr (.inr (isSub_self _))
    · exact .inr (.inl (isSub_kids h hz))
    · exact .inr (.inr (isSub_kids h hz))
theorem isSub_parts {y : Fm} : ∀ {x : Fm}, isSub y x → parts y ≤ parts x
  | .fls, h => by simp only [isSub] at h; subst h; exact Nat.le_refl _
  | .atm c, h => by simp only [isSub] at h; subst h; exact Nat.le_refl _
  | .and a b, h => by
    rcases h with rfl | h | h
    · exact Nat.le_refl _
    · have := isSub_parts h; simp only [parts]; omega
    · have := isSub_parts h; simp only [parts]; omega
  | .or a b, h => by
    rcases h with rfl | h | h
    · exact Nat.le_refl _
    · have := isSub_parts h; simp only [parts]; omega
    · have := isSub_parts h; simp only [parts]; omega
  | .imp a b, h => by
    rcases h with rfl | h | h
    · exact Nat.le_refl _
    · have := isSub_parts h; simp only [parts]; omega
    · have := isSub_parts h; simp only [parts]; omega
theorem isSub_ats {y : Fm} : ∀ {x : Fm}, isSub y x → ats x → ats y
  | .fls, h, ha => by simp only [isSub] at h; subst h; exact ha
  | .atm c, h, ha => by simp only [isSub] at h; subst h; exact ha
  | .and a b, h, ha => by
    rcases h with rfl | h | h
    · exact ha
    · exact isSub_ats h ha.1
    · exact isSub_ats h ha.2
  | .or a b, h, ha => by
    rcases h with rfl | h | h
    · exact ha
    · exact isSub_ats h ha.1
    · exact isSub_ats h ha.2
  | .imp a b, h, ha => by
    rcases h with rfl | h | h
    · exact ha
    · exact isSub_ats h ha.1
    · exact isSub_ats h ha.2
theorem mem_addN {x y : Fm} : y ∈ addF x [] ↔ isSub y x := by rw [mem_add]; simp
theorem add_closed (x : Fm) (h : parts x ≤ 12) : Closed (addF x []) := fun y hy => by
  rw [mem_addN] at hy
  have h1 := isSub_parts hy
  have h2 := depth_parts y
  refine ⟨by omega, ?_⟩
  cases y with
  | fls => trivial
  | atm c => trivial
  | and a b => exact ⟨mem_addN.2 (isSub_kids hy (by simp [Fm.kids])), mem_addN.2 (isSub_kids hy (by simp [Fm.kids]))⟩
  | or a b => exact ⟨mem_addN.2 (isSub_kids hy (by simp [Fm.kids])), mem_addN.2 (isSub_kids hy (by simp [Fm.kids]))⟩
  | imp a b => exact ⟨mem_addN.2 (isSub_kids hy (by simp [Fm.kids])), mem_addN.2 (isSub_kids hy (by simp [Fm.kids]))⟩
theorem iterT_sub {l : List Fm} : ∀ (f : Nat) (all : List Nat), ∀ u ∈ iterT l f all, u ∈ all
  | 0, all, u, h => h
  | f + 1, all, u, h => by
    simp only [iterT] at h
    split at h
    · exact h
    · exact (List.mem_filter.1 (iterT_sub f _ u h)).1
theorem iterT_len {l : List Fm} : ∀ (f : Nat) (all : List Nat), (iterT l f all).length ≤ all.length
  | 0, all => Nat.le_refl _
  | f + 1, all => by
    simp only [iterT]
    split
    · exact Nat.le_refl _
    · exact Nat.le_trans (iterT_len f _) (List.length_filter_le _ _)
theorem thsF_lt {l : List Fm} (hl : l.length ≤ 12) : ∀ u ∈ thsF l, u < 4096 := fun u hu => by
  have h1 := baseTo_lt l _ u (iterT_sub _ _ u hu)
  have h2 : 2 ^ l.length ≤ 2 ^ 12 := Nat.pow_le_pow_right (by decide) hl
  simp only [Nat.reducePow] at h2
  omega
theorem thsF_len {l : List Fm} (hl : l.length ≤ 12) : (thsF l).length ≤ 4096 := by
  have h1 := iterT_len (l := l) ((baseTo l (2 ^ l.length)).length + 1) (baseTo l (2 ^ l.length))
  have h2 := baseTo_len l (2 ^ l.length)
  have h3 : 2 ^ l.length ≤ 2 ^ 12 := Nat.pow_le_pow_right (by decide) hl
  simp only [Nat.reducePow] at h3
  unfold thsF
  omega
theorem nodup_len : ∀ (n : Nat) (l : List Nat), l.Nodup → (∀ u ∈ l, u < n) → l.length ≤ n
  | 0, l, _, h => by
    cases l with
    | nil => simp
    | cons u l => exact absurd (h u (.head _)) (by omega)
  | n + 1, l, hn, h => by
    have h1 : (l.erase n).length ≤ n := nodup_len n (l.erase n) (hn.erase n) fun u hu => by
      have h2 := h u (List.mem_of_mem_erase hu)
      have h3 : u ≠ n := ((List.Nodup.mem_erase_iff hn).1 hu).1
      omega
    have h2 := List.length_erase (a := n) (l := l)
    split at h2 <;> omega
/-- the worlds of the counter-model -/
def stepW (l : List Fm) (all : List Nat) (t : Nat) (ws : List Nat) (p : Fm × Fm) : List Nat :=
  if (ws.any fun y => decide ((witF l all t p.1 p.2).getD 0 = y)) = true then ws else ws ++ [(witF l all t p.1 p.2).getD 0]
def worF (l : List Fm) (all : List Nat) : Nat → Nat → List Nat → List Nat
  | 0, _, ws => ws
  | f + 1, i, ws => match ws[i]? with
    | none => ws
    | some t => worF l all f (i + 1) ((needF l t).foldl (stepW l all t) ws)
def cntF (l : List Fm) (x : Fm) : Option (List Nat) :=
  if idxI (fun t => !hasF l t x) (thsF l) < 0 then none
  else some (worF l (thsF l) 5000 0 [(thsF l).getD (idxI (fun t => !hasF l t x) (thsF l)).toNat 0])
theorem idxI_lt {α : Type} (p : α → Bool) : ∀ xs : List α, idxI p xs < xs.length
  | [] => by simp [idxI]
  | x :: xs => by
    have ih := idxI_lt p xs
    unfold idxI
    split
    · simp
    · split
      · rename_i k e; rw [e] at ih; simp at ih ⊢; omega
      · simp; omega
theorem wit_lt {l : List Fm} {all : List Nat} {t : Nat} {x y : Fm} {n : Nat} (hn : 0 < n) (h : ∀ u ∈ all, u < n) : (witF l all t x y).getD 0 < n := by
  unfold witF
  cases hf : all.find? _ with
  | none => exact hn
  | some u => exact h u (List.mem_of_find?_eq_some hf)
theorem witness2_ok {I : Hp} (bp : Nat) (l : List Fm) (all : List Nat) (av : Value) (t : Nat) (p : Fm × Fm) (w : World) (hI : Sub I (hp w)) (hp' : PrtV I bp l) (ha : RdS I av 1 all.length (all.map natV)) (ht : t < 1000000) (hall : ∀ u ∈ all, u < 1000000) (hlen : all.length ≤ 1000000) (hl : l.length ≤ 12) (hcl : Closed l) (hx : p ∈ needF l t) :
    CallsX Tryd.prog 66 #[pv bp, av, .int .i64 t, .agg #[enc p.1, enc p.2]] w fun v _ => v = .tuple #[.int .i64 (((witF l all t p.1 p.2).getD 0 : Nat) : Int), .bool (witF l all t p.1 p.2).isSome] := by
  have h := hcl _ (need_mem hx)
  refine (witness_ok bp l all av t p.1 p.2 w hI hp' ha ht hall hlen hl h.2.1 h.2.2 (hcl _ h.2.1).1 (hcl _ h.2.2).1).mono fun v w' _ hv => ?_
  rw [hv]
  cases witF l all t p.1 p.2 <;> rfl
theorem contains_nat (ws : List Nat) (u : Nat) (sv : Value) (w : World) (r : RdS (hp w) sv 1 ws.length (ws.map natV)) :
    CallsX Tryd.prog 67 #[sv, .int .i64 u] w fun v _ => v = .bool (ws.any fun y => decide (u = y)) := by
  have h1 := contains_theory (ws.map Int.ofNat) u sv w (by
    have e : (ws.map Int.ofNat).map (Value.int .i64) = ws.map natV := by rw [List.map_map]; rfl
    rw [e, List.length_map]; exact r)
  refine h1.mono fun v w' _ hv => ?_
  rw [hv]
  congr 1
  rw [List.any_map]
  congr 1
  funext y
  simp only [Function.comp]
  exact decide_eq_decide.2 ⟨fun h => by have : (u : Int) = (y : Int) := h; omega, fun h => by subst h; rfl⟩
end Go.Proofs.YtoilfakpgcjjpaaDoor.Log
namespace Go.Proofs.YtoilfakpgcjjpaaDoor.Log
open Go Go.RowKit Go.Proofs.YtoilfakpgcjjpaaDoor Go.Proofs.YtoilfakpgcjjpaaDoor.Eng
set_option linter.unusedVariables false
set_option linter.unusedSimpArgs false
set_option maxRecDepth 100000
theorem cnt1_ok (b4 b1 bp : Nat) (l : List Fm) (t : Nat) (x : Fm) (w : World) (h4 : cellI (hp w) b4 0 = some (pv bp)) (h1 : cellI (hp w) b1 0 = some (enc x)) (hp' : PrtV (hp w) bp l) (ht : t < 1000000) (hl : l.length ≤ 12) (hx : x ∈ l) (hd : x.depth ≤ 4000) :
    CallsX Tryd.prog 63 #[natV t, pv b4, pv b1] w fun v _ => v = .bool (!hasF l t x) := by
  have st := St.start (w0 := w) (I0 := hp w) (Sub.refl _)
  refine CallsX.of (nn := 10) Tryd.func63 rfl rfl rfl (fun a mt => ?_)
  refine w_rs ?_
  refine step_pure mt (pu_assign rfl) rfl (fun a mt => ?_)
  refine w_nil ?_
  refine w_rs ?_
  refine step_pure mt (pu_loadI st K.sc112 rfl h4) rfl (fun a mt => ?_)
  refine step_pure mt (pu_move rfl) rfl (fun a mt => ?_)
  refine step_pure mt (pu_loadI st K.sc66 rfl h1) rfl (fun a mt => ?_)
  refine s_callv mt st K.cb64 (vs := [pv bp, .int .i64 t, enc x]) rfl (has2_ok bp l t x _ st.agr hp' ht hl hx hd) rfl (fun a w' mt st => ?_)
  refine step_pure mt (pu_not rfl) rfl (fun a mt => ?_)
  refine step_pure mt (pu_assign rfl) rfl (fun a mt => ?_)
  refine w_nil ?_
  refine w_ret ?_
  refine post_ret1 mt rfl rfl ?_
  exact ⟨_, rfl, st.below, rfl⟩
theorem counter_ok {I : Hp} (x : Fm) (hats : ats x) (hpa : parts x ≤ 12) (w : World) (hI : Sub I (hp w)) :
    CallsX Tryd.prog 45 #[enc x] w fun v w' => match cntF (addF x []) x with
      | none => v = .tuple #[.agg #[.slice none 0 0, .slice none 0 0], .bool false]
      | some ws => ∃ mv, v = .tuple #[mv, .bool true] ∧ ModV (Iext I w w') (modA ws) (modM (addF x []) ws) mv := by
  have st := St.start (w0 := w) (I0 := I) hI
  have hll : (addF x []).length ≤ 12 := by have := addF_len x []; simp at this; omega
  have hcl := add_closed x hpa
  have hla : ∀ y ∈ addF x [], ats y := fun y hy => isSub_ats (mem_addN.1 hy) hats
  have hxl : x ∈ addF x [] := mem_addN.2 (isSub_self x)
  have hxd := (hcl x hxl).1
  obtain ⟨l, hle⟩ : ∃ l, l = addF x [] := ⟨_, rfl⟩
  rw [← hle] at hll hcl hla hxl ⊢
  have h5 := thsF_lt hll
  have h6 := thsF_len hll
  refine CallsX.of (nn := 71) Tryd.func45 rfl rfl rfl (fun a mt => ?_)
  refine w_rs ?_
  refine step_alloc mt st (al_box rfl (one_cells (enc_one x))) rfl (fun a w' b1 mt st => ?_)
  refine step_alloc mt st (al_alloc K.ze44 rfl) rfl (fun a w' b2 mt st => ?_)
  refine step_pure mt (pu_assign rfl) rfl (fun a mt => ?_)
  refine w_nil ?_
  refine w_rs ?_
  refine step_pure mt (pu_build K.pl114 K.ze114 rfl rfl) rfl (fun a mt => ?_)
  refine step_alloc mt st (al_box rfl rfl) rfl (fun a w' b14 mt st => ?_)
  refine step_alloc mt st (al_alloc K.ze112 rfl) rfl (fun a w' b4 mt st => ?_)
  refine s_storeL mt st K.sz112 rfl rfl (by first | rfl | assumption) rfl rfl (fun w' st => ?_)
  refine w_nil ?_
  have st := (st.pick (Pick.there _ (Pick.here _ _))).nilRow 66 1
  refine w_rs ?_
  refine step_pure mt (pu_loadM st K.sc112 rfl rfl) rfl (fun a mt => ?_)
  refine step_pure mt (pu_loadM st K.sc66 rfl rfl) rfl (fun a mt => ?_)
  refine s_add (xs := []) (v := .slice none 0 0) (bp := b14) mt st (add_ok x) rfl (by simp; omega) rfl (fun a w' v17 mt st => ?_)
  refine w_nil ?_
  obtain ⟨I1, st, hI1, hr1⟩ := st.sealRow (Pick.here _ _)
  obtain ⟨I2, st, hI2, hb2⟩ := st.sealBlk (Pick.here _ _)
  rw [← hle] at hr1
  have hp1 : PrtV I2 b14 l := ⟨v17, by rw [cellI_blk hb2]; rfl, hr1.mono hI2⟩
  refine w_rs ?_
  refine step_pure mt (pu_loadM st K.sc112 rfl rfl) rfl (fun a mt => ?_)
  refine s_call mt st K.cb61 (vs := [pv b14]) rfl (theories_ok b14 l _ st.agr hp1 hll hcl) rfl (fun a w' v19 mt st hI19 hv19 => ?_)
  replace hp1 := hp1.mono hI19
  generalize hE : Iext I2 _ w' = I3 at st hv19 hp1 hI19
  refine step_pure mt (pu_assign rfl) rfl (fun a mt => ?_)
  refine w_nil ?_
  refine w_rs ?_
  refine step_pure mt (pu_move rfl) rfl (fun a mt => ?_)
  refine step_pure mt (pu_makeFunc (vs := []) (us := [pv b4, pv b1]) rfl rfl) rfl (fun a mt => ?_)
  refine s_callv mt st K.cb62 (vs := [v19, .func (.func 63) #[] [pv b4, pv b1].toArray]) rfl (indexFunc_theory natV (fun _ => rfl) (thsF l) v19 _ (st.rdS hv19) 63 [pv b4, pv b1] (fun t => !hasF l t x) K.cb63 (fun t ht w2 hb => cnt1_ok b4 b1 b14 l t x w2 (cellI_mono (Below.sub hb) (st.cellM PickB.pick rfl)) (cellI_mono (Below.sub hb) (st.cellM PickB.pick rfl)) (hp1.mono (st.agr.trans (Below.sub hb))) (by have := h5 t ht; omega) hll hxl hxd)) rfl (fun a w' mt st => ?_)
  have hat := idxI_lt (fun t => !hasF l t x) (thsF l)
  have hcnt : cntF l x = if idxI (fun t => !hasF l t x) (thsF l) < 0 then none else some (worF l (thsF l) 5000 0 [(thsF l).getD (idxI (fun t => !hasF l t x) (thsF l)).toNat 0]) := rfl
  generalize idxI (fun t => !hasF l t x) (thsF l) = at' at *
  refine step_pure mt (pu_assign rfl) rfl (fun a mt => ?_)
  refine w_nil ?_
  refine w_seq ?_
  refine w_rs ?_
  refine step_pure mt (pu_move rfl) rfl (fun a mt => ?_)
  refine step_pure mt (pu_lss rfl rfl) rfl (fun a mt => ?_)
  refine w_nil ?_
  refine w_cond mt rfl (fun h24 => ?_) (fun h24 => ?_)
  · rw [if_pos h24] at hcnt
    refine w_rs ?_
    refine step_pure mt ((pu_build K.pl44 K.ze44 rfl rfl).to (u := .agg #[.slice none 0 0, .slice none 0 0]) rfl) rfl (fun a mt => ?_)
    refine s_storeA mt st K.sz44 rfl rfl rfl (by first | (simp [Value.oneCell']; done) | (simp [enc_one]; done)) rfl rfl (fun w' st => ?_)
    refine step_pure mt (pu_assign rfl) rfl (fun a mt => ?_)
    refine w_nil ?_
    refine w_ret (x_then_ret ?_)
    refine bodyPost_ret (results_aggT (b := b2) rfl (mt.at_ 2 _ rfl) (mt.at_ 3 _ rfl) K.ag44 rfl (st.blkM PickB.pick)) mt.defers ?_
    refine ⟨_, rfl, st.below, ?_⟩
    rw [hcnt]
    exact rfl
  · rw [if_neg h24] at hcnt
    have hatn : at'.toNat < (thsF l).length := by omega
    have hget : (thsF l)[at'.toNat]? = some ((thsF l).getD at'.toNat 0) := by simp [hatn]
    generalize (thsF l).getD at'.toNat 0 = t0 at *
    have ht0 : t0 < 4096 := h5 t0 (List.mem_of_getElem? hget)
    have hu : ((thsF l).map natV)[at'.toNat]? = some (.int .i64 t0) := by simp [hget, natV]
    refine w_skip ?_
    refine x_then_n ?_
    refine w_rs ?_
    refine step_pure mt (pu_move rfl) rfl (fun a mt => ?_)
    refine step_pure mt (pu_move rfl) rfl (fun a mt => ?_)
    refine step_pure mt (pu_ia (m := (thsF l).length) (i := at') K.el116 (by decide) rfl hv19 rfl (by omega) (by omega)) rfl (fun a mt => ?_)
    refine step_pure mt (pu_loadR st K.sc119 hv19 rfl hu) rfl (fun a mt => ?_)
    refine step_alloc mt st (al_lit1 (vs := [.int .i64 t0]) K.el116 rfl rfl rfl rfl rfl (by simp [Value.oneCell'])) rfl (fun a w' b30 mt st => ?_)
    have st := st.toRow (sz := 1) (n := 1) (Pick.here _ _) rfl (by decide)
    refine step_pure mt (pu_assign rfl) rfl (fun a mt => ?_)
    refine w_nil ?_
    refine w_seq ?_
    refine w_rs ?_
    refine step_pure mt (pu_assign rfl) rfl (fun a mt => ?_)
    refine w_nil ?_
    refine w_block ?_
    refine w_loop (ι := Nat × Nat × List Nat) (fun p a w' => p.1 + p.2.1 = 5000 ∧ p.1 ≤ p.2.2.length ∧ p.2.2.Nodup ∧ (∀ u ∈ p.2.2, u < 4096) ∧ 0 < p.2.2.length ∧ cntF l x = some (worF l (thsF l) p.2.1 p.1 p.2.2) ∧ ∃ I' v7 M, Mt 71 a [(2, pv b2), (4, pv b4), (5, v19), (7, v7), (8, .int .i64 p.1)] ∧ Sub I3 I' ∧ St [] w I w' I' (.row v7 119 1 p.2.2.length (p.2.2.map natV) :: .blk b4 (.cells #[pv b14] 112 (0, 0)) :: .blk b2 (.cells #[.slice none 0 0, .slice none 0 0] 44 (0, 0)) :: M)) (fun p => 5000 - p.1) (0, 5000, [t0])
      ⟨rfl, Nat.zero_le _, by simp, fun u hu => by simp at hu; omega, by simp, hcnt, _, _, _, mt.sub ⟨rfl, rfl, rfl, rfl, rfl, trivial⟩, Sub.refl _, st⟩ (fun p a w' hI' => ?_)
    obtain ⟨i, f, ws⟩ := p
    obtain ⟨hif, hi, hnd, hlt, hpos, hres, I', v7, M, mt, hs3, st⟩ := hI'
    simp only at hif hi hnd hlt hpos hres mt st
    have hwl := nodup_len 4096 ws hnd hlt
    obtain ⟨f, rfl⟩ : ∃ m, f = m + 1 := ⟨f - 1, by omega⟩
    have hr7 := st.rowM (Pick.here _ _)
    refine w_seq ?_
    refine w_rs ?_
    refine step_pure mt (pu_move rfl) rfl (fun a mt => ?_)
    refine step_pure mt (pu_move rfl) rfl (fun a mt => ?_)
    refine step_pure mt (pu_len_r rfl hr7 K.un116) rfl (fun a mt => ?_)
    refine step_pure mt (pu_lss rfl rfl) rfl (fun a mt => ?_)
    refine w_nil ?_
    refine w_cond mt rfl (fun h34 => ?_) (fun h34 => ?_)
    · have hil : i < ws.length := by omega
      have hwi : ws[i]? = some ws[i] := List.getElem?_eq_getElem hil
      have htl := hlt _ (List.getElem_mem hil)
      generalize hxe : ws[i] = t at hwi htl
      have hres2 : cntF l x = some (worF l (thsF l) f (i + 1) ((needF l t).foldl (stepW l (thsF l) t) ws)) := by
        rw [hres]; simp only [worF]; rw [hwi]
      have hu7 : (ws.map natV)[((i : Nat) : Int).toNat]? = some (.int .i64 t) := by simp [hwi, natV]
      have hnl := needTo_len l t l.length
      have hnl : (needF l t).length ≤ 12 := by have : (needF l t).length ≤ l.length := hnl; omega
      refine w_skip ?_
      refine x_then_n ?_
      refine w_seq ?_
      refine w_block ?_
      refine w_drs K.mixed rfl mt ?_
      refine mo_pure (pu_loadM st K.sc112 rfl rfl) ?_
      refine mo_pure (pu_move rfl) ?_
      refine mo_pure (pu_move rfl) ?_
      refine mo_pure (pu_ia (m := ws.length) (i := i) K.el116 (by decide) rfl hr7 rfl (by omega) (by omega)) ?_
      refine mo_pure (pu_loadH K.sc119 hr7 rfl hu7) ?_
      refine mo_callR (vs := [pv b14, .int .i64 t]) K.cb65 st.agr rfl (fun w2 hb hs hii => needed_ok b14 l t _ hs ((hp1.mono hs3).mono hii) (by omega) hll) ?_
      refine mo_genE (.int .i64 (needF l t).length) (fun a w mt pr => ⟨_, mt.learn (d := 42) rfl, pu_len_r look_self (pr.1 rfl) K.un122⟩) ?_
      refine mo_pure (pu_move rfl) ?_
      refine mo_end (fun a w' mt pr hb => ?_)
      have hIx := Iext_sub st.agr w'
      replace st := st.extI hb
      have hpr := pr.1
      generalize hv42 : a.tmps.getD 42 undef = v42 at hpr
      replace mt := mt.learn (d := 42) hv42
      refine w_block ?_
      refine w_loop (ι := Nat × List Nat) (fun p a w' => p.1 ≤ (needF l t).length ∧ p.2.Nodup ∧ (∀ u ∈ p.2, u < 4096) ∧ ws.length ≤ p.2.length ∧ p.2[i]? = some t ∧ (needF l t).foldl (stepW l (thsF l) t) ws = ((needF l t).drop p.1).foldl (stepW l (thsF l) t) p.2 ∧ ∃ I' v7 M, Mt 71 a [(2, pv b2), (4, pv b4), (5, v19), (7, v7), (8, .int .i64 i), (42, v42), (43, .int .i64 (needF l t).length), (44, .int .i64 p.1)] ∧ Sub I3 I' ∧ RdS I' v42 2 (needF l t).length ((needF l t).flatMap pairC) ∧ St [] w I w' I' (.row v7 119 1 p.2.length (p.2.map natV) :: .blk b4 (.cells #[pv b14] 112 (0, 0)) :: .blk b2 (.cells #[.slice none 0 0, .slice none 0 0] 44 (0, 0)) :: M)) (fun p => (needF l t).length - p.1) (0, ws)
        ⟨Nat.zero_le _, hnd, hlt, Nat.le_refl _, hwi, rfl, _, _, _, mt.sub ⟨rfl, rfl, rfl, rfl, rfl, rfl, rfl, rfl, trivial⟩, hs3.trans hIx, hpr, st⟩ (fun p a w' hI' => ?_)
      obtain ⟨j, ws2⟩ := p
      obtain ⟨hj, hnd2, hlt2, hle2, hwi2, hfold, I', v7, M, mt, hs3, hr42, st⟩ := hI'
      simp only at hj hnd2 hlt2 hle2 hwi2 hfold mt st
      have hwl2 := nodup_len 4096 ws2 hnd2 hlt2
      refine w_rs ?_
      refine step_pure mt (pu_lss rfl rfl) rfl (fun a mt => ?_)
      refine w_nil ?_
      refine w_seq ?_
      refine w_cond mt rfl (fun h45 => ?_) (fun h45 => ?_)
      · have hjl : j < (needF l t).length := by omega
        have hy : (needF l t)[j]? = some (needF l t)[j] := List.getElem?_eq_getElem hjl
        have hpm := List.getElem_mem hjl
        generalize hye : (needF l t)[j] = p at hy hpm
        rw [drop_cons hy, List.foldl_cons] at hfold
        have hr7 := st.rowM (Pick.here _ _)
        have hu7 : (ws2.map natV)[((i : Nat) : Int).toNat]? = some (.int .i64 t) := by simp [hwi2, natV]
        refine w_skip ?_
        refine x_then_n ?_
        refine w_seq ?_
        refine w_block ?_
        refine w_rs ?_
        refine step_pure mt (pu_ia (m := (needF l t).length) (i := j) K.el122 (by decide) rfl hr42 rfl (by omega) (by omega)) rfl (fun a mt => ?_)
        refine step_pure mt (pu_loadRA (us := [enc p.1, enc p.2]) (i := j) st K.ag73 hr42 rfl rfl (fun k u hu => flat_get pairC 2 (fun _ => rfl) hy k u hu)) rfl (fun a mt => ?_)
        refine step_alloc mt st (al_alloc K.ze73 rfl) rfl (fun a w' b10 mt st => ?_)
        refine s_storeA mt st K.sz73 rfl rfl rfl (by simp [enc_one]) rfl rfl (fun w' st => ?_)
        refine w_nil ?_
        have hr7 := st.rowM (Pick.there _ (Pick.here _ _))
        refine w_drs K.mixed rfl mt ?_
        refine mo_pure (pu_loadM st K.sc112 rfl rfl) ?_
        refine mo_pure (pu_move rfl) ?_
        refine mo_pure (pu_move rfl) ?_
        refine mo_pure (pu_move rfl) ?_
        refine mo_pure (pu_ia (m := ws2.length) (i := i) K.el116 (by decide) rfl hr7 rfl (by omega) (by omega)) ?_
        refine mo_pure (pu_loadH K.sc119 hr7 rfl hu7) ?_
        refine mo_pure (pu_loadMA st K.ag73 rfl rfl) ?_
        refine mo_callv (vs := [pv b14, v19, .int .i64 t, .agg #[enc p.1, enc p.2]]) K.cb66 rfl (fun w2 hb => witness2_ok b14 l (thsF l) v19 t p w2 (Iext_hp st.agr hb) ((hp1.mono hs3).mono (Iext_sub st.agr w2)) ((hv19.mono hs3).mono (Iext_sub st.agr w2)) (by omega) (fun u hu => by have := h5 u hu; omega) (by omega) hll hcl hpm) ?_
        refine mo_pure (pu_move rfl) ?_
        refine mo_pure (pu_extract rfl rfl) ?_
        refine mo_pure (pu_extract rfl rfl) ?_
        refine mo_pure (pu_assign rfl) ?_
        refine mo_pure (pu_assign rfl) ?_
        refine mo_end (fun a w' mt pr hb => ?_)
        have hIx := Iext_sub st.agr w'
        replace st := st.extI hb
        replace hr42 := hr42.mono hIx
        have hul := wit_lt (l := l) (t := t) (x := p.1) (y := p.2) (n := 4096) (by decide) h5
        have hstep : stepW l (thsF l) t ws2 p = if (ws2.any fun y => decide ((witF l (thsF l) t p.1 p.2).getD 0 = y)) = true then ws2 else ws2 ++ [(witF l (thsF l) t p.1 p.2).getD 0] := rfl
        generalize (witF l (thsF l) t p.1 p.2).getD 0 = u at *
        refine w_rs ?_
        refine step_pure mt (pu_move rfl) rfl (fun a mt => ?_)
        refine step_pure mt (pu_move rfl) rfl (fun a mt => ?_)
        refine s_callv mt st K.cb67 (vs := [v7, .int .i64 u]) rfl (contains_nat ws2 u v7 _ (st.rowM (Pick.there _ (Pick.here _ _)))) rfl (fun a w' mt st => ?_)
        refine step_pure mt (pu_not rfl) rfl (fun a mt => ?_)
        refine w_nil ?_
        refine w_cond_b mt rfl (fun h62 => ?_) (fun h62 => ?_)
        · have hc : (ws2.any fun y => decide (u = y)) = false := by simpa using h62
          rw [hc] at hstep
          simp only [Bool.false_eq_true, if_false] at hstep
          rw [hstep] at hfold
          refine w_region ?_
          refine step_pure mt (pu_move rfl) rfl (fun a mt => ?_)
          refine step_pure mt (pu_move rfl) rfl (fun a mt => ?_)
          refine step_alloc mt st (al_lit1 (vs := [.int .i64 u]) K.el116 rfl rfl rfl rfl rfl (by simp [Value.oneCell'])) rfl (fun a w' b65 mt st => ?_)
          refine s_append mt st K.el116 rfl (by decide) rfl rfl rfl (by simp [Value.oneCell']) (by simp only [maxLen]; omega) (by omega) rfl (fun a w' v66 mt st => ?_)
          refine step_pure mt (pu_assign rfl) rfl (fun a mt => ?_)
          refine w_nil' ?_
          refine x_block_n ?_
          refine x_then_n ?_
          refine w_region ?_
          refine step_pure mt (pu_add_i rfl rfl (by omega)) rfl (fun a mt => ?_)
          refine step_pure mt (pu_move rfl) rfl (fun a mt => ?_)
          refine w_nil' ?_
          refine x_then_n ?_
          first
          | exact ⟨(j + 1, ws2), ⟨hjl, hnd2, hlt2, hle2, hwi2, hfold, _, _, _, mt.sub ⟨rfl, rfl, rfl, rfl, rfl, rfl, rfl, rfl, trivial⟩, hs3.trans hIx, hr42, st.drop (Pick.here _ _)⟩, by show _ - (j + 1) < _ - j; omega⟩
          | (have hnm : u ∉ ws2 := fun hm => by
               have : (ws2.any fun y => decide (u = y)) = true := List.any_eq_true.2 ⟨u, hm, by simp⟩
               rw [hc] at this; cases this
             have e2 : (ws2 ++ [u]).length = ws2.length + 1 := by simp
             have e3 : (ws2 ++ [u]).map natV = ws2.map natV ++ [.int .i64 u] := by simp [natV]
             refine ⟨(j + 1, ws2 ++ [u]), ⟨hjl, ?_, ?_, by simp; omega, ?_, hfold, _, _, _, mt.sub ⟨rfl, rfl, rfl, rfl, rfl, rfl, rfl, rfl, trivial⟩, hs3.trans hIx, hr42, by rw [e2, e3]; exact st.drop (Pick.there _ (Pick.here _ _))⟩, by show _ - (j + 1) < _ - j; omega⟩
             · rw [List.nodup_append]
               exact ⟨hnd2, by simp, fun a ha b hb => by simp at hb; subst hb; rintro rfl; exact hnm ha⟩
             · intro y hy2
               rcases List.mem_append.1 hy2 with h | h
               · exact hlt2 y h
               · simp at h; subst h; exact hul
             · show (ws2 ++ [u])[i]? = some t
               rw [List.getElem?_append_left (by omega)]; exact hwi2)
        · have hc : (ws2.any fun y => decide (u = y)) = true := by simpa using h62
          rw [hc] at hstep
          simp only [if_true] at hstep
          rw [hstep] at hfold
          refine w_skip ?_
          refine x_block_n ?_
          refine x_then_n ?_
          refine w_region ?_
          refine step_pure mt (pu_add_i rfl rfl (by omega)) rfl (fun a mt => ?_)
          refine step_pure mt (pu_move rfl) rfl (fun a mt => ?_)
          refine w_nil' ?_
          refine x_then_n ?_
          first
          | exact ⟨(j + 1, ws2), ⟨hjl, hnd2, hlt2, hle2, hwi2, hfold, _, _, _, mt.sub ⟨rfl, rfl, rfl, rfl, rfl, rfl, rfl, rfl, trivial⟩, hs3.trans hIx, hr42, st.drop (Pick.here _ _)⟩, by show _ - (j + 1) < _ - j; omega⟩
          | (have hnm : u ∉ ws2 := fun hm => by
               have : (ws2.any fun y => decide (u = y)) = true := List.any_eq_true.2 ⟨u, hm, by simp⟩
               rw [hc] at this; cases this
             have e2 : (ws2 ++ [u]).length = ws2.length + 1 := by simp
             have e3 : (ws2 ++ [u]).map natV = ws2.map natV ++ [.int .i64 u] := by simp [natV]
             refine ⟨(j + 1, ws2 ++ [u]), ⟨hjl, ?_, ?_, by simp; omega, ?_, hfold, _, _, _, mt.sub ⟨rfl, rfl, rfl, rfl, rfl, rfl, rfl, rfl, trivial⟩, hs3.trans hIx, hr42, by rw [e2, e3]; exact st.drop (Pick.there _ (Pick.here _ _))⟩, by show _ - (j + 1) < _ - j; omega⟩
             · rw [List.nodup_append]
               exact ⟨hnd2, by simp, fun a ha b hb => by simp at hb; subst hb; rintro rfl; exact hnm ha⟩
             · intro y hy2
               rcases List.mem_append.1 hy2 with h | h
               · exact hlt2 y h
               · simp at h; subst h; exact hul
             · show (ws2 ++ [u])[i]? = some t
               rw [List.getElem?_append_left (by omega)]; exact hwi2)
      · have hjn : j = (needF l t).length := by omega
        rw [hjn, List.drop_length, List.foldl_nil] at hfold
        refine w_exit (x_then_exit (x_then_exit (x_block_out ?_)))
        refine x_block_n ?_
        refine x_then_n ?_
        refine w_region ?_
        refine step_pure mt (pu_move rfl) rfl (fun a mt => ?_)
        refine step_pure mt (pu_add_i rfl rfl (by omega)) rfl (fun a mt => ?_)
        refine step_pure mt (pu_assign rfl) rfl (fun a mt => ?_)
        refine w_nil' ?_
        refine x_then_n ?_
        exact ⟨(i + 1, f, ws2), ⟨by show i + 1 + f = 5000; omega, by show i + 1 ≤ ws2.length; omega, hnd2, hlt2, by show 0 < ws2.length; omega, by rw [hres2, hfold], _, _, _, mt.sub ⟨rfl, rfl, rfl, rfl, rfl, trivial⟩, hs3, st⟩, by show 5000 - (i + 1) < 5000 - i; omega⟩
    · have hres2 : cntF l x = some ws := by
        rw [hres]; simp only [worF]; rw [List.getElem?_eq_none (by omega)]
      refine w_exit (x_then_exit (x_then_exit (x_block_out ?_)))
      refine x_then_n ?_
      obtain ⟨I7, st, hI7, hr7⟩ := st.sealRow (Pick.here _ _)
      refine w_rs ?_
      refine step_pure mt (pu_loadM st K.sc112 rfl rfl) rfl (fun a mt => ?_)
      refine step_pure mt (pu_move rfl) rfl (fun a mt => ?_)
      refine s_call mt st K.cb68 (vs := [pv b14, v7]) rfl (model_ok b14 l ws v7 _ st.agr ((hp1.mono hs3).mono hI7) hr7 (fun u hu => by have := hlt u hu; omega) hll hla (by omega)) rfl (fun a w' v70 mt st hI70 hv70 => ?_)
      obtain ⟨va, vm, rows, rfl, r1, r2, r3⟩ := hv70
      have hva := RdS.one r1
      have hvm := RdS.one r3
      refine s_storeA mt st K.sz44 rfl rfl rfl (by simp [hva, hvm]) rfl rfl (fun w' st => ?_)
      refine step_pure mt (pu_assign rfl) rfl (fun a mt => ?_)
      refine w_nil ?_
      refine w_ret ?_
      refine bodyPost_ret (results_aggT (b := b2) rfl (mt.at_ 2 _ rfl) (mt.at_ 3 _ rfl) K.ag44 rfl (st.blkM PickB.pick)) mt.defers ?_
      refine ⟨_, rfl, st.below, ?_⟩
      rw [hres2]
      exact ⟨_, rfl, va, vm, rows, rfl, r1.mono (St.IX st), fun i l r a b => (r2 i l r a b).mono (St.IX st), r3.mono (St.IX st)⟩
end Go.Proofs.YtoilfakpgcjjpaaDoor.Log
namespace Go.Proofs.YtoilfakpgcjjpaaDoor.Log
open Go Go.RowKit Go.Proofs.YtoilfakpgcjjpaaDoor Go.Proofs.YtoilfakpgcjjpaaDoor.Eng
set_option linter.unusedVariables false
set_option linter.unusedSimpArgs false
set_option maxRecDepth 100000
theorem mod1_ok (b10 bm : Nat) (es : Array MapEntry) (ck : Nat) (l : List Int) (u : Int) (w : World) (h10 : cellI (hp w) b10 0 = some (.map (some bm))) (hm : hp w bm = some (.map es ck)) (hr : mapRd .i64 es fun j => if j ∈ l then some (.bool true) else none) :
    CallsX Tryd.prog 58 #[intV u, pv b10] w fun v _ => v = .bool (!decide (u ∈ l)) := by
  have st := St.start (w0 := w) (I0 := hp w) (Sub.refl _)
  refine CallsX.of (nn := 8) Tryd.func58 rfl rfl rfl (fun a mt => ?_)
  refine w_rs ?_
  refine step_pure mt (pu_assign rfl) rfl (fun a mt => ?_)
  refine w_nil ?_
  refine w_rs ?_
  refine step_pure mt (pu_loadI st K.sc105 rfl h10) rfl (fun a mt => ?_)
  refine step_pure mt (pu_move rfl) rfl (fun a mt => ?_)
  refine step_pure mt (pu_lookup (v := .bool (decide (u ∈ l))) rfl rfl K.un105 K.un3 K.ze4 (st.agr _ _ hm) hr (by by_cases h : u ∈ l <;> simp [h])) rfl (fun a mt => ?_)
  refine step_pure mt (pu_not rfl) rfl (fun a mt => ?_)
  refine step_pure mt (pu_assign rfl) rfl (fun a mt => ?_)
  refine w_nil ?_
  refine w_ret ?_
  refine post_ret1 mt rfl rfl ?_
  exact ⟨_, rfl, st.below, rfl⟩
def rowG (n : Nat) (l : List Int) (i : Nat) : Bool := decide (0 ≤ l.getD i 0) && decide (l.getD i 0 < n) && (decide (i = 0) || decide (l.getD (i - 1) 0 < l.getD i 0))
def mdG1 (ab : List (List Int)) (mk : List Int) (k : Nat) : Bool := decide (0 ≤ mk.getD k 0) && decide (mk.getD k 0 ≤ 15) && ((ab.getD k []).any fun y => decide ((k : Int) = y)) && (List.range (ab.getD k []).length).all (rowG ab.length (ab.getD k []))
def upG (ab : List (List Int)) (mk : List Int) (k : Nat) (v : Int) : Bool := subN (mk.getD k 0).toNat (mk.getD v.toNat 0).toNat && !((ab.getD v.toNat []).any fun u => !decide (u ∈ ab.getD k []))
def mdG2 (ab : List (List Int)) (mk : List Int) (k : Nat) : Bool := (ab.getD k []).all (upG ab mk k)
def isModF (ab : List (List Int)) (mk : List Int) : Bool := decide (1 ≤ ab.length) && decide (ab.length ≤ 4096) && decide (mk.length = ab.length) && (List.range ab.length).all (mdG1 ab mk) && (List.range ab.length).all (mdG2 ab mk)
theorem range_all_get {n : Nat} {p : Nat → Bool} (h : (List.range n).all p = true) {i : Nat} (hi : i < n) : p i = true := List.all_eq_true.1 h i (by simpa using hi)
theorem isModel_ok {I : Hp} (ab : List (List Int)) (mk : List Int) (mv : Value) (w : World) (hI : Sub I (hp w)) (hm : ModV I ab mk mv) :
    CallsX Tryd.prog 41 #[mv] w fun v _ => v = .bool (isModF ab mk) := by
  obtain ⟨va, vm, rows, rfl, rva, rrow, rvm⟩ := hm
  obtain ⟨aad, acc0, rfl, _⟩ := rva.len
  obtain ⟨mad, mcc, rfl, _⟩ := rvm.len
  have hrl : rows.length = ab.length := by have := rva.nlen; exact this
  have hmaxa := rva.max
  have hmaxm := rvm.max
  unfold maxLen at hmaxa hmaxm
  have st := St.start (w0 := w) (I0 := I) hI
  refine CallsX.of (nn := 135) Tryd.func41 rfl rfl rfl (fun a mt => ?_)
  refine w_rs ?_
  refine step_alloc mt st (al_box rfl rfl) rfl (fun a w' b1 mt st => ?_)
  refine step_pure mt (pu_assign rfl) rfl (fun a mt => ?_)
  refine w_nil ?_
  refine w_rs ?_
  refine step_pure mt (pu_fld 0 K.fl44_0 rfl) rfl (fun a mt => ?_)
  refine step_pure mt (pu_loadM st K.sc41 rfl rfl) rfl (fun a mt => ?_)
  refine step_pure mt (pu_len rfl K.un41) rfl (fun a mt => ?_)
  refine step_pure mt (pu_assign rfl) rfl (fun a mt => ?_)
  refine w_nil ?_
  refine w_seq ?_
  refine w_rs ?_
  refine step_pure mt (pu_move rfl) rfl (fun a mt => ?_)
  refine step_pure mt (pu_lss rfl rfl) rfl (fun a mt => ?_)
  refine step_pure mt (pu_move rfl) rfl (fun a mt => ?_)
  refine split_p 20 mt rfl (fun g20 mt => ?_) (fun g20 mt => ?_)
  · refine step_skip_g mt rfl rfl rfl rfl (fun a mt => ?_)
    refine step_skip_g mt rfl rfl rfl rfl (fun a mt => ?_)
    refine step_pure mt (pu_pick rfl rfl) rfl (fun a mt => ?_)
    refine step_pure mt (pu_move rfl) rfl (fun a mt => ?_)
    refine step_skip_g mt rfl rfl rfl rfl (fun a mt => ?_)
    refine step_skip_g mt rfl rfl rfl rfl (fun a mt => ?_)
    refine step_skip_g mt rfl rfl rfl rfl (fun a mt => ?_)
    refine step_skip_g mt rfl rfl rfl rfl (fun a mt => ?_)
    refine step_skip_g mt rfl rfl rfl rfl (fun a mt => ?_)
    refine step_pure mt (pu_pick rfl rfl) rfl (fun a mt => ?_)
    refine w_nil ?_
    refine w_true mt rfl ?_
    refine w_rs ?_
    refine step_pure mt (pu_assign rfl) rfl (fun a mt => ?_)
    refine w_nil ?_
    refine w_ret (x_then_ret ?_)
    refine post_ret1 mt rfl rfl ?_
    exact ⟨_, rfl, st.below, by unfold isModF; simp; omega⟩
  · refine step_pure_g mt rfl rfl (pu_move rfl) rfl (fun a mt => ?_)
    refine step_pure_g mt rfl rfl (pu_gtr rfl rfl) rfl (fun a mt => ?_)
    refine step_pure mt (pu_pick rfl rfl) rfl (fun a mt => ?_)
    refine step_pure mt (pu_move rfl) rfl (fun a mt => ?_)
    refine split_p 24 mt rfl (fun g24 mt => ?_) (fun g24 mt => ?_)
    · refine step_skip_g mt rfl rfl rfl rfl (fun a mt => ?_)
      refine step_skip_g mt rfl rfl rfl rfl (fun a mt => ?_)
      refine step_skip_g mt rfl rfl rfl rfl (fun a mt => ?_)
      refine step_skip_g mt rfl rfl rfl rfl (fun a mt => ?_)
      refine step_skip_g mt rfl rfl rfl rfl (fun a mt => ?_)
      refine step_pure mt (pu_pick rfl rfl) rfl (fun a mt => ?_)
      refine w_nil ?_
      refine w_true mt rfl ?_
      refine w_rs ?_
      refine step_pure mt (pu_assign rfl) rfl (fun a mt => ?_)
      refine w_nil ?_
      refine w_ret (x_then_ret ?_)
      refine post_ret1 mt rfl rfl ?_
      exact ⟨_, rfl, st.below, by unfold isModF; simp; omega⟩
    · refine step_pure_g mt rfl rfl (pu_fld 1 K.fl44_1 rfl) rfl (fun a mt => ?_)
      refine step_pure_g mt rfl rfl (pu_loadM st K.sc42 rfl rfl) rfl (fun a mt => ?_)
      refine step_pure_g mt rfl rfl (pu_len rfl K.un42) rfl (fun a mt => ?_)
      refine step_pure_g mt rfl rfl (pu_move rfl) rfl (fun a mt => ?_)
      refine step_pure_g mt rfl rfl (pu_neq rfl rfl) rfl (fun a mt => ?_)
      refine step_pure mt (pu_pick rfl rfl) rfl (fun a mt => ?_)
      refine w_nil ?_
      refine w_cond mt rfl (fun h30 => ?_) (fun h30 => ?_)
      · refine w_rs ?_
        refine step_pure mt (pu_assign rfl) rfl (fun a mt => ?_)
        refine w_nil ?_
        refine w_ret (x_then_ret ?_)
        refine post_ret1 mt rfl rfl ?_
        exact ⟨_, rfl, st.below, by unfold isModF; simp; omega⟩
      · have hn1 : 1 ≤ ab.length := by omega
        have hn2 : ab.length ≤ 4096 := by omega
        have hnm : mk.length = ab.length := by omega
        have hall : isModF ab mk = ((List.range ab.length).all (mdG1 ab mk) && (List.range ab.length).all (mdG2 ab mk)) := by unfold isModF; simp [hn1, hn2, hnm]
        refine w_skip ?_
        refine x_then_n ?_
        refine w_seq ?_
        refine w_rs ?_
        refine step_pure mt (pu_fld 0 K.fl44_0 rfl) rfl (fun a mt => ?_)
        refine step_pure mt (pu_loadM st K.sc41 rfl rfl) rfl (fun a mt => ?_)
        refine step_pure mt (pu_len rfl K.un41) rfl (fun a mt => ?_)
        refine step_pure mt (pu_move rfl) rfl (fun a mt => ?_)
        refine w_nil ?_
        refine w_block ?_
        refine w_loop (ι := Nat) (fun k a w' => k ≤ ab.length ∧ ∃ M, Mt 135 a [(1, pv b1), (3, .int .i64 ab.length), (32, .slice aad ab.length acc0), (33, .int .i64 ab.length), (34, .int .i64 k)] ∧ St [] w I w' I (.blk b1 (.cells #[.slice aad ab.length acc0, .slice mad mk.length mcc] 44 (0, 0)) :: M) ∧ isModF ab mk = (((List.range ab.length).drop k).all (mdG1 ab mk) && (List.range ab.length).all (mdG2 ab mk)) ∧ ∀ i, i < k → mdG1 ab mk i = true) (fun k => ab.length - k) 0
          ⟨Nat.zero_le _, _, mt.sub ⟨rfl, rfl, rfl, rfl, rfl, trivial⟩, st, hall, fun i hi => absurd hi (by omega)⟩ (fun k a w' hI' => ?_)
        obtain ⟨hk, M, mt, st, hall, hdone⟩ := hI'
        refine w_rs ?_
        refine step_pure mt (pu_lss rfl rfl) rfl (fun a mt => ?_)
        refine w_nil ?_
        refine w_seq ?_
        refine w_cond mt rfl (fun h35 => ?_) (fun h35 => ?_)
        · have hkl : k < ab.length := by omega
          rw [all_drop hkl] at hall
          have hl : ab[k]? = some ab[k] := List.getElem?_eq_getElem hkl
          have hm0 : mk[k]? = some (mk[k]'(by omega)) := List.getElem?_eq_getElem (by omega)
          have hrr : rows[k]? = some (rows[k]'(by omega)) := List.getElem?_eq_getElem (by omega)
          generalize ab[k] = l at hl
          generalize mk[k]'(by omega) = m at hm0
          generalize rows[k]'(by omega) = r at hrr
          have rl := rrow k l r hl hrr
          have hlmax := rl.max
          unfold maxLen at hlmax
          have hum : (mk.map intV)[((k : Nat) : Int).toNat]? = some (.int .i64 m) := by simp [hm0, intV]
          have hur : rows[((k : Nat) : Int).toNat]? = some r := by simp [hrr]
          have hg : mdG1 ab mk k = (decide (0 ≤ m) && decide (m ≤ 15) && (l.any fun y => decide ((k : Int) = y)) && (List.range l.length).all (rowG ab.length l)) := by unfold mdG1; simp [hl, hm0]
          refine w_skip ?_
          refine x_then_n ?_
          refine w_seq ?_
          refine w_block ?_
          refine w_rs ?_
          refine step_pure mt (pu_move rfl) rfl (fun a mt => ?_)
          refine step_pure mt (pu_ia (m := ab.length) (i := k) K.el41 (by decide) rfl rva rfl (by omega) (by omega)) rfl (fun a mt => ?_)
          refine step_pure mt (pu_loadR st K.sc42 rva rfl hur) rfl (fun a mt => ?_)
          refine step_pure mt (pu_assign rfl) rfl (fun a mt => ?_)
          refine step_pure mt (pu_assign rfl) rfl (fun a mt => ?_)
          refine w_nil ?_
          refine w_seq ?_
          refine w_rs ?_
          refine step_pure mt (pu_fld 1 K.fl44_1 rfl) rfl (fun a mt => ?_)
          refine step_pure mt (pu_loadM st K.sc42 rfl rfl) rfl (fun a mt => ?_)
          refine step_pure mt (pu_move rfl) rfl (fun a mt => ?_)
          refine step_pure mt (pu_ia (m := mk.length) (i := k) K.el42 (by decide) rfl rvm rfl (by omega) (by omega)) rfl (fun a mt => ?_)
          refine step_pure mt (pu_loadR st K.sc3 rvm rfl hum) rfl (fun a mt => ?_)
          refine step_pure mt (pu_lss rfl rfl) rfl (fun a mt => ?_)
          refine step_pure mt (pu_move rfl) rfl (fun a mt => ?_)
          refine split_p 45 mt rfl (fun g45 mt => ?_) (fun g45 mt => ?_)
          · refine step_skip_g mt rfl rfl rfl rfl (fun a mt => ?_)
            refine step_skip_g mt rfl rfl rfl rfl (fun a mt => ?_)
            refine step_skip_g mt rfl rfl rfl rfl (fun a mt => ?_)
            refine step_skip_g mt rfl rfl rfl rfl (fun a mt => ?_)
            refine step_skip_g mt rfl rfl rfl rfl (fun a mt => ?_)
            refine step_skip_g mt rfl rfl rfl rfl (fun a mt => ?_)
            refine step_pure mt (pu_pick rfl rfl) rfl (fun a mt => ?_)
            refine step_pure mt (pu_move rfl) rfl (fun a mt => ?_)
            refine step_skip_g mt rfl rfl rfl rfl (fun a mt => ?_)
            refine step_skip_g mt rfl rfl rfl rfl (fun a mt => ?_)
            refine step_skip_g mt rfl rfl rfl rfl (fun a mt => ?_)
            refine step_skip_g mt rfl rfl rfl rfl (fun a mt => ?_)
            refine step_pure mt (pu_pick rfl rfl) rfl (fun a mt => ?_)
            refine w_nil ?_
            refine w_true mt rfl ?_
            refine w_rs ?_
            refine step_pure mt (pu_assign rfl) rfl (fun a mt => ?_)
            refine w_nil ?_
            refine w_ret (x_then_ret (x_block_ret (x_then_ret (x_then_ret (x_block_ret (x_then_ret ?_))))))
            refine post_ret1 mt rfl rfl ?_
            have hz : mdG1 ab mk k = false := by
              rw [hg]; refine Bool.eq_false_iff.2 fun h => ?_
              simp only [Bool.and_eq_true, decide_eq_true_eq] at h
              first
              | omega
              | (have h3 : (l.any fun y => decide ((k : Int) = y)) = false := by simpa using h58
                 rw [h3] at h; exact absurd h.1.2 (by decide))
            exact ⟨_, rfl, st.below, by rw [hall, hz]; rfl⟩
          · refine step_pure_g mt rfl rfl (pu_fld 1 K.fl44_1 rfl) rfl (fun a mt => ?_)
            refine step_pure_g mt rfl rfl (pu_loadM st K.sc42 rfl rfl) rfl (fun a mt => ?_)
            refine step_pure_g mt rfl rfl (pu_move rfl) rfl (fun a mt => ?_)
            refine step_pure_g mt rfl rfl (pu_ia (m := mk.length) (i := k) K.el42 (by decide) rfl rvm rfl (by omega) (by omega)) rfl (fun a mt => ?_)
            refine step_pure_g mt rfl rfl (pu_loadR st K.sc3 rvm rfl hum) rfl (fun a mt => ?_)
            refine step_pure_g mt rfl rfl (pu_gtr rfl rfl) rfl (fun a mt => ?_)
            refine step_pure mt (pu_pick rfl rfl) rfl (fun a mt => ?_)
            refine step_pure mt (pu_move rfl) rfl (fun a mt => ?_)
            refine split_p 53 mt rfl (fun g53 mt => ?_) (fun g53 mt => ?_)
            · refine step_skip_g mt rfl rfl rfl rfl (fun a mt => ?_)
              refine step_skip_g mt rfl rfl rfl rfl (fun a mt => ?_)
              refine step_skip_g mt rfl rfl rfl rfl (fun a mt => ?_)
              refine step_skip_g mt rfl rfl rfl rfl (fun a mt => ?_)
              refine step_pure mt (pu_pick rfl rfl) rfl (fun a mt => ?_)
              refine w_nil ?_
              refine w_true mt rfl ?_
              refine w_rs ?_
              refine step_pure mt (pu_assign rfl) rfl (fun a mt => ?_)
              refine w_nil ?_
              refine w_ret (x_then_ret (x_block_ret (x_then_ret (x_then_ret (x_block_ret (x_then_ret ?_))))))
              refine post_ret1 mt rfl rfl ?_
              have hz : mdG1 ab mk k = false := by
                rw [hg]; refine Bool.eq_false_iff.2 fun h => ?_
                simp only [Bool.and_eq_true, decide_eq_true_eq] at h
                first
                | omega
                | (have h3 : (l.any fun y => decide ((k : Int) = y)) = false := by simpa using h58
                   rw [h3] at h; exact absurd h.1.2 (by decide))
              exact ⟨_, rfl, st.below, by rw [hall, hz]; rfl⟩
            · refine step_pure_g mt rfl rfl (pu_move rfl) rfl (fun a mt => ?_)
              refine step_pure_g mt rfl rfl (pu_move rfl) rfl (fun a mt => ?_)
              refine s_callv_g mt st rfl rfl K.cb56 (vs := [r, .int .i64 k]) rfl (contains_int l k r _ (st.rdS rl)) rfl (fun a w' mt st => ?_)
              refine step_pure_g mt rfl rfl (pu_not rfl) rfl (fun a mt => ?_)
              refine step_pure mt (pu_pick rfl rfl) rfl (fun a mt => ?_)
              refine w_nil ?_
              refine w_cond_b mt rfl (fun h58 => ?_) (fun h58 => ?_)
              · refine w_rs ?_
                refine step_pure mt (pu_assign rfl) rfl (fun a mt => ?_)
                refine w_nil ?_
                refine w_ret (x_then_ret (x_block_ret (x_then_ret (x_then_ret (x_block_ret (x_then_ret ?_))))))
                refine post_ret1 mt rfl rfl ?_
                have hz : mdG1 ab mk k = false := by
                  rw [hg]; refine Bool.eq_false_iff.2 fun h => ?_
                  simp only [Bool.and_eq_true, decide_eq_true_eq] at h
                  first
                  | omega
                  | (have h3 : (l.any fun y => decide ((k : Int) = y)) = false := by simpa using h58
                     rw [h3] at h; exact absurd h.1.2 (by decide))
                exact ⟨_, rfl, st.below, by rw [hall, hz]; rfl⟩
              · have hg2 : mdG1 ab mk k = (List.range l.length).all (rowG ab.length l) := by
                  have h3 : (l.any fun y => decide ((k : Int) = y)) = true := by simpa using h58
                  rw [hg, h3]; simp; omega
                refine w_skip ?_
                refine x_then_n ?_
                refine w_rs ?_
                refine step_pure mt (pu_move rfl) rfl (fun a mt => ?_)
                refine step_pure mt (pu_len_r rfl rl K.un42) rfl (fun a mt => ?_)
                refine step_pure mt (pu_move rfl) rfl (fun a mt => ?_)
                refine w_nil ?_
                refine w_block ?_
                refine w_loop (ι := Nat) (fun i a w' => i ≤ l.length ∧ ∃ M, Mt 135 a [(1, pv b1), (3, .int .i64 ab.length), (5, r), (32, .slice aad ab.length acc0), (33, .int .i64 ab.length), (34, .int .i64 k), (59, r), (60, .int .i64 l.length), (61, .int .i64 i)] ∧ St [] w I w' I (.blk b1 (.cells #[.slice aad ab.length acc0, .slice mad mk.length mcc] 44 (0, 0)) :: M) ∧ mdG1 ab mk k = ((List.range l.length).drop i).all (rowG ab.length l)) (fun i => l.length - i) 0
                  ⟨Nat.zero_le _, _, mt.sub ⟨rfl, rfl, rfl, rfl, rfl, rfl, rfl, rfl, rfl, trivial⟩, st, hg2⟩ (fun i a w' hI' => ?_)
                obtain ⟨hi, M, mt, st, hB⟩ := hI'
                refine w_rs ?_
                refine step_pure mt (pu_lss rfl rfl) rfl (fun a mt => ?_)
                refine w_nil ?_
                refine w_seq ?_
                refine w_cond mt rfl (fun h62 => ?_) (fun h62 => ?_)
                · have hil : i < l.length := by omega
                  rw [all_drop hil] at hB
                  have hx : l[i]? = some l[i] := List.getElem?_eq_getElem hil
                  generalize l[i] = x at hx
                  have hxu : (l.map intV)[((i : Nat) : Int).toNat]? = some (.int .i64 x) := by simp [hx, intV]
                  have hgx : l.getD i 0 = x := by simp [hx]
                  refine w_skip ?_
                  refine x_then_n ?_
                  refine w_seq ?_
                  refine w_block ?_
                  refine w_rs ?_
                  refine step_pure mt (pu_move rfl) rfl (fun a mt => ?_)
                  refine step_pure mt (pu_ia (m := l.length) (i := i) K.el42 (by decide) rfl rl rfl (by omega) (by omega)) rfl (fun a mt => ?_)
                  refine step_pure mt (pu_loadR st K.sc3 rl rfl hxu) rfl (fun a mt => ?_)
                  refine step_pure mt (pu_assign rfl) rfl (fun a mt => ?_)
                  refine step_pure mt (pu_assign rfl) rfl (fun a mt => ?_)
                  refine w_nil ?_
                  refine w_rs ?_
                  refine step_pure mt (pu_move rfl) rfl (fun a mt => ?_)
                  refine step_pure mt (pu_lss rfl rfl) rfl (fun a mt => ?_)
                  refine step_pure mt (pu_move rfl) rfl (fun a mt => ?_)
                  refine split_p 68 mt rfl (fun g68 mt => ?_) (fun g68 mt => ?_)
                  · refine step_skip_g mt rfl rfl rfl rfl (fun a mt => ?_)
                    refine step_skip_g mt rfl rfl rfl rfl (fun a mt => ?_)
                    refine step_skip_g mt rfl rfl rfl rfl (fun a mt => ?_)
                    refine step_pure mt (pu_pick rfl rfl) rfl (fun a mt => ?_)
                    refine step_pure mt (pu_move rfl) rfl (fun a mt => ?_)
                    refine step_skip_g mt rfl rfl rfl rfl (fun a mt => ?_)
                    refine step_skip_g mt rfl rfl rfl rfl (fun a mt => ?_)
                    refine step_skip_g mt rfl rfl rfl rfl (fun a mt => ?_)
                    refine step_skip_u mt rfl rfl rfl (fun a mt => ?_)
                    refine step_skip_u mt rfl rfl rfl (fun a mt => ?_)
                    refine step_skip_u mt rfl rfl rfl (fun a mt => ?_)
                    have hy : l[i - 1]? = some (l[i - 1]'(by omega)) := List.getElem?_eq_getElem (by omega)
                    generalize l[i - 1]'(by omega) = y at hy
                    have hyu : (l.map intV)[((i : Int) - 1).toNat]? = some (.int .i64 y) := by
                      have e : ((i : Int) - 1).toNat = i - 1 := by omega
                      rw [e]; simp [hy, intV]
                    have hgy : l.getD (i - 1) 0 = y := by simp [hy]
                    refine step_skip_u mt rfl rfl rfl (fun a mt => ?_)
                    refine step_skip_u mt rfl rfl rfl (fun a mt => ?_)
                    refine step_skip_u mt rfl rfl rfl (fun a mt => ?_)
                    refine step_skip_u mt rfl rfl rfl (fun a mt => ?_)
                    refine step_skip_g mt rfl rfl rfl rfl (fun a mt => ?_)
                    refine step_pure mt (pu_pick rfl rfl) rfl (fun a mt => ?_)
                    refine w_nil ?_
                    refine w_true mt rfl ?_
                    refine w_rs ?_
                    refine step_pure mt (pu_assign rfl) rfl (fun a mt => ?_)
                    refine w_nil ?_
                    refine w_ret (x_block_ret (x_then_ret (x_then_ret (x_block_ret (x_block_ret (x_then_ret (x_then_ret (x_block_ret (x_then_ret ?_)))))))))
                    refine post_ret1 mt rfl rfl ?_
                    have hz : rowG ab.length l i = false := by
                      unfold rowG; rw [hgx]; refine Bool.eq_false_iff.2 fun h => ?_
                      simp only [Bool.and_eq_true, Bool.or_eq_true, decide_eq_true_eq] at h
                      first | omega | (rw [hgy] at h; omega)
                    exact ⟨_, rfl, st.below, by rw [hall, hB, hz]; rfl⟩
                  · refine step_pure_g mt rfl rfl (pu_move rfl) rfl (fun a mt => ?_)
                    refine step_pure_g mt rfl rfl (pu_move rfl) rfl (fun a mt => ?_)
                    refine step_pure_g mt rfl rfl (pu_geq rfl rfl) rfl (fun a mt => ?_)
                    refine step_pure mt (pu_pick rfl rfl) rfl (fun a mt => ?_)
                    refine step_pure mt (pu_move rfl) rfl (fun a mt => ?_)
                    refine split_p 73 mt rfl (fun g73 mt => ?_) (fun g73 mt => ?_)
                    · refine step_skip_g mt rfl rfl rfl rfl (fun a mt => ?_)
                      refine step_skip_g mt rfl rfl rfl rfl (fun a mt => ?_)
                      refine step_skip_g mt rfl rfl rfl rfl (fun a mt => ?_)
                      refine step_skip_u mt rfl rfl rfl (fun a mt => ?_)
                      refine step_skip_u mt rfl rfl rfl (fun a mt => ?_)
                      refine step_skip_u mt rfl rfl rfl (fun a mt => ?_)
                      have hy : l[i - 1]? = some (l[i - 1]'(by omega)) := List.getElem?_eq_getElem (by omega)
                      generalize l[i - 1]'(by omega) = y at hy
                      have hyu : (l.map intV)[((i : Int) - 1).toNat]? = some (.int .i64 y) := by
                        have e : ((i : Int) - 1).toNat = i - 1 := by omega
                        rw [e]; simp [hy, intV]
                      have hgy : l.getD (i - 1) 0 = y := by simp [hy]
                      refine step_skip_u mt rfl rfl rfl (fun a mt => ?_)
                      refine step_skip_u mt rfl rfl rfl (fun a mt => ?_)
                      refine step_skip_u mt rfl rfl rfl (fun a mt => ?_)
                      refine step_skip_u mt rfl rfl rfl (fun a mt => ?_)
                      refine step_skip_g mt rfl rfl rfl rfl (fun a mt => ?_)
                      refine step_pure mt (pu_pick rfl rfl) rfl (fun a mt => ?_)
                      refine w_nil ?_
                      refine w_true mt rfl ?_
                      refine w_rs ?_
                      refine step_pure mt (pu_assign rfl) rfl (fun a mt => ?_)
                      refine w_nil ?_
                      refine w_ret (x_block_ret (x_then_ret (x_then_ret (x_block_ret (x_block_ret (x_then_ret (x_then_ret (x_block_ret (x_then_ret ?_)))))))))
                      refine post_ret1 mt rfl rfl ?_
                      have hz : rowG ab.length l i = false := by
                        unfold rowG; rw [hgx]; refine Bool.eq_false_iff.2 fun h => ?_
                        simp only [Bool.and_eq_true, Bool.or_eq_true, decide_eq_true_eq] at h
                        first | omega | (rw [hgy] at h; omega)
                      exact ⟨_, rfl, st.below, by rw [hall, hB, hz]; rfl⟩
                    · refine step_pure_g mt rfl rfl (pu_move rfl) rfl (fun a mt => ?_)
                      refine step_pure_g mt rfl rfl (pu_gtr rfl rfl) rfl (fun a mt => ?_)
                      refine step_pure_g mt rfl rfl (pu_move rfl) rfl (fun a mt => ?_)
                      refine split_p 76 mt rfl (fun g76 mt => ?_) (fun g76 mt => ?_)
                      · refine step_pure_g mt rfl rfl (pu_move rfl) rfl (fun a mt => ?_)
                        refine step_pure_g mt rfl rfl (pu_move rfl) rfl (fun a mt => ?_)
                        refine step_pure_g mt rfl rfl (pu_sub_i rfl rfl (by omega)) rfl (fun a mt => ?_)
                        have hy : l[i - 1]? = some (l[i - 1]'(by omega)) := List.getElem?_eq_getElem (by omega)
                        generalize l[i - 1]'(by omega) = y at hy
                        have hyu : (l.map intV)[((i : Int) - 1).toNat]? = some (.int .i64 y) := by
                          have e : ((i : Int) - 1).toNat = i - 1 := by omega
                          rw [e]; simp [hy, intV]
                        have hgy : l.getD (i - 1) 0 = y := by simp [hy]
                        refine step_pure_g mt rfl rfl (pu_ia (m := l.length) (i := (i : Int) - 1) K.el42 (by decide) rfl rl rfl (by omega) (by omega)) rfl (fun a mt => ?_)
                        refine step_pure_g mt rfl rfl (pu_loadR (i := (i : Int) - 1) st K.sc3 rl rfl hyu) rfl (fun a mt => ?_)
                        refine step_pure_g mt rfl rfl (pu_move rfl) rfl (fun a mt => ?_)
                        refine step_pure_g mt rfl rfl (pu_geq rfl rfl) rfl (fun a mt => ?_)
                        refine step_pure_g mt rfl rfl (pu_pick rfl rfl) rfl (fun a mt => ?_)
                        refine step_pure mt (pu_pick rfl rfl) rfl (fun a mt => ?_)
                        refine w_nil ?_
                        refine w_cond mt rfl (fun h85 => ?_) (fun h85 => ?_)
                        · refine w_rs ?_
                          refine step_pure mt (pu_assign rfl) rfl (fun a mt => ?_)
                          refine w_nil ?_
                          refine w_ret (x_block_ret (x_then_ret (x_then_ret (x_block_ret (x_block_ret (x_then_ret (x_then_ret (x_block_ret (x_then_ret ?_)))))))))
                          refine post_ret1 mt rfl rfl ?_
                          have hz : rowG ab.length l i = false := by
                            unfold rowG; rw [hgx]; refine Bool.eq_false_iff.2 fun h => ?_
                            simp only [Bool.and_eq_true, Bool.or_eq_true, decide_eq_true_eq] at h
                            first | omega | (rw [hgy] at h; omega)
                          exact ⟨_, rfl, st.below, by rw [hall, hB, hz]; rfl⟩
                        · refine w_skip ?_
                          refine x_block_n ?_
                          refine x_then_n ?_
                          refine w_region ?_
                          refine step_pure mt (pu_add_i rfl rfl (by omega)) rfl (fun a mt => ?_)
                          refine step_pure mt (pu_move rfl) rfl (fun a mt => ?_)
                          refine w_nil' ?_
                          refine x_then_n ?_
                          have hrow : rowG ab.length l i = true := by
                            unfold rowG; rw [hgx]
                            simp only [Bool.and_eq_true, Bool.or_eq_true, decide_eq_true_eq]
                            first | omega | (rw [hgy]; omega)
                          exact ⟨i + 1, ⟨by omega, _, mt.sub ⟨rfl, rfl, rfl, rfl, rfl, rfl, rfl, rfl, rfl, trivial⟩, st, by rw [hB, hrow]; rfl⟩, by omega⟩
                      · refine step_skip_g mt rfl rfl rfl rfl (fun a mt => ?_)
                        refine step_skip_g mt rfl rfl rfl rfl (fun a mt => ?_)
                        refine step_skip_g mt rfl rfl rfl rfl (fun a mt => ?_)
                        have hy : l[i - 1]? = some (l[i - 1]'(by omega)) := List.getElem?_eq_getElem (by omega)
                        generalize l[i - 1]'(by omega) = y at hy
                        have hyu : (l.map intV)[((i : Int) - 1).toNat]? = some (.int .i64 y) := by
                          have e : ((i : Int) - 1).toNat = i - 1 := by omega
                          rw [e]; simp [hy, intV]
                        have hgy : l.getD (i - 1) 0 = y := by simp [hy]
                        refine step_skip_g mt rfl rfl rfl rfl (fun a mt => ?_)
                        refine step_skip_g mt rfl rfl rfl rfl (fun a mt => ?_)
                        refine step_skip_g mt rfl rfl rfl rfl (fun a mt => ?_)
                        refine step_skip_g mt rfl rfl rfl rfl (fun a mt => ?_)
                        refine step_pure_g mt rfl rfl (pu_pick rfl rfl) rfl (fun a mt => ?_)
                        refine step_pure mt (pu_pick rfl rfl) rfl (fun a mt => ?_)
                        refine w_nil ?_
                        refine w_false mt rfl ?_
                        refine w_skip ?_
                        refine x_block_n ?_
                        refine x_then_n ?_
                        refine w_region ?_
                        refine step_pure mt (pu_add_i rfl rfl (by omega)) rfl (fun a mt => ?_)
                        refine step_pure mt (pu_move rfl) rfl (fun a mt => ?_)
                        refine w_nil' ?_
                        refine x_then_n ?_
                        have hrow : rowG ab.length l i = true := by
                          unfold rowG; rw [hgx]
                          simp only [Bool.and_eq_true, Bool.or_eq_true, decide_eq_true_eq]
                          first | omega | (rw [hgy]; omega)
                        exact ⟨i + 1, ⟨by omega, _, mt.sub ⟨rfl, rfl, rfl, rfl, rfl, rfl, rfl, rfl, rfl, trivial⟩, st, by rw [hB, hrow]; rfl⟩, by omega⟩
                · have e1 : (List.range l.length).drop i = [] := List.drop_eq_nil_of_le (by simp; omega)
                  rw [e1] at hB
                  have hB1 : mdG1 ab mk k = true := hB
                  refine w_exit (x_then_exit (x_then_exit (x_block_out ?_)))
                  refine x_block_n ?_
                  refine x_then_n ?_
                  refine w_region ?_
                  refine step_pure mt (pu_add_i rfl rfl (by omega)) rfl (fun a mt => ?_)
                  refine step_pure mt (pu_move rfl) rfl (fun a mt => ?_)
                  refine w_nil' ?_
                  refine x_then_n ?_
                  exact ⟨k + 1, ⟨by omega, _, mt.sub ⟨rfl, rfl, rfl, rfl, rfl, trivial⟩, st, by rw [hall, hB1]; rfl, fun i hi => by
                    rcases Nat.lt_or_ge i k with h | h
                    · exact hdone i h
                    · have : i = k := by omega
                      rw [this]; exact hB1⟩, by omega⟩
        · have hkn : k = ab.length := by omega
          subst hkn
          have e1 : (List.range ab.length).drop ab.length = [] := List.drop_eq_nil_of_le (by simp)
          rw [e1] at hall
          have hall : isModF ab mk = (List.range ab.length).all (mdG2 ab mk) := by rw [hall]; rfl
          refine w_exit (x_then_exit (x_then_exit (x_block_out ?_)))
          refine x_then_n ?_
          refine w_seq ?_
          refine w_rs ?_
          refine step_pure mt (pu_fld 0 K.fl44_0 rfl) rfl (fun a mt => ?_)
          refine step_pure mt (pu_loadM st K.sc41 rfl rfl) rfl (fun a mt => ?_)
          refine step_pure mt (pu_len rfl K.un41) rfl (fun a mt => ?_)
          refine step_pure mt (pu_move rfl) rfl (fun a mt => ?_)
          refine w_nil ?_
          refine w_block ?_
          refine w_loop (ι := Nat) (fun k a w' => k ≤ ab.length ∧ ∃ I' M, Mt 135 a [(1, pv b1), (89, .slice aad ab.length acc0), (90, .int .i64 ab.length), (91, .int .i64 k)] ∧ Sub I I' ∧ St [] w I w' I' (.blk b1 (.cells #[.slice aad ab.length acc0, .slice mad mk.length mcc] 44 (0, 0)) :: M) ∧ isModF ab mk = ((List.range ab.length).drop k).all (mdG2 ab mk)) (fun k => ab.length - k) 0
            ⟨Nat.zero_le _, _, _, mt.sub ⟨rfl, rfl, rfl, rfl, trivial⟩, Sub.refl _, st, hall⟩ (fun k a w' hI' => ?_)
          obtain ⟨hk, I', M, mt, hII3, st, hall⟩ := hI'
          refine w_rs ?_
          refine step_pure mt (pu_lss rfl rfl) rfl (fun a mt => ?_)
          refine w_nil ?_
          refine w_seq ?_
          refine w_cond mt rfl (fun h92 => ?_) (fun h92 => ?_)
          · have hkl : k < ab.length := by omega
            rw [all_drop hkl] at hall
            have hl : ab[k]? = some ab[k] := List.getElem?_eq_getElem hkl
            have hm0 : mk[k]? = some (mk[k]'(by omega)) := List.getElem?_eq_getElem (by omega)
            have hrr : rows[k]? = some (rows[k]'(by omega)) := List.getElem?_eq_getElem (by omega)
            generalize ab[k] = l at hl
            generalize mk[k]'(by omega) = m at hm0
            generalize rows[k]'(by omega) = r at hrr
            have rl := rrow k l r hl hrr
            have hlmax := rl.max
            unfold maxLen at hlmax
            have hum : (mk.map intV)[((k : Nat) : Int).toNat]? = some (.int .i64 m) := by simp [hm0, intV]
            have hur : rows[((k : Nat) : Int).toNat]? = some r := by simp [hrr]
            have hg : mdG2 ab mk k = l.all (upG ab mk k) := by unfold mdG2; simp [hl]
            have h1k := hdone k hkl
            have hmb : 0 ≤ m ∧ m ≤ 15 := by
              unfold mdG1 at h1k; simp [hm0] at h1k; exact ⟨h1k.1.1.1, h1k.1.1.2⟩
            have hrows : ∀ i, i < l.length → rowG ab.length l i = true := fun i hi => by
              unfold mdG1 at h1k
              simp only [Bool.and_eq_true] at h1k
              have := h1k.2
              rw [show ab.getD k [] = l by simp [hl]] at this
              exact range_all_get this hi
            refine w_skip ?_
            refine x_then_n ?_
            refine w_seq ?_
            refine w_block ?_
            refine w_rs ?_
            refine step_pure mt (pu_move rfl) rfl (fun a mt => ?_)
            refine step_pure mt (pu_ia (m := ab.length) (i := k) K.el41 (by decide) rfl rva rfl (by omega) (by omega)) rfl (fun a mt => ?_)
            refine step_pure mt (pu_loadR st K.sc42 (rva.mono st.sub0) rfl hur) rfl (fun a mt => ?_)
            refine step_pure mt (pu_assign rfl) rfl (fun a mt => ?_)
            refine step_pure mt (pu_assign rfl) rfl (fun a mt => ?_)
            refine w_nil ?_
            refine w_rs ?_
            refine step_alloc mt st (al_makeMap) rfl (fun a w' b96 mt st => ?_)
            refine step_alloc mt st (al_alloc K.ze105 rfl) rfl (fun a w' b10 mt st => ?_)
            refine s_storeL mt st K.sz105 rfl rfl (by first | rfl | assumption) rfl rfl (fun w' st => ?_)
            refine w_nil ?_
            refine w_seq ?_
            refine w_rs ?_
            refine step_pure mt (pu_move rfl) rfl (fun a mt => ?_)
            refine step_pure mt (pu_len_r rfl rl K.un42) rfl (fun a mt => ?_)
            refine step_pure mt (pu_move rfl) rfl (fun a mt => ?_)
            refine w_nil ?_
            refine w_block ?_
            refine w_loop (ι := Nat) (fun j a w' => j ≤ l.length ∧ ∃ es ck M, Mt 135 a [(1, pv b1), (8, .int .i64 k), (9, r), (10, pv b10), (89, .slice aad ab.length acc0), (90, .int .i64 ab.length), (91, .int .i64 k), (97, r), (98, .int .i64 l.length), (99, .int .i64 j)] ∧ mapRd .i64 es (fun y => if y ∈ l.take j then some (.bool true) else none) ∧ St [] w I w' I' (.blk b96 (.map es ck) :: .blk b10 (.cells #[.map (some b96)] 105 (0, 0)) :: .blk b1 (.cells #[.slice aad ab.length acc0, .slice mad mk.length mcc] 44 (0, 0)) :: M)) (fun j => l.length - j) 0
              ⟨Nat.zero_le _, _, _, _, mt.sub ⟨rfl, rfl, rfl, rfl, rfl, rfl, rfl, rfl, rfl, rfl, trivial⟩, by simpa using mapRd_nil .i64, st.pick (Pick.there _ (Pick.here _ _))⟩ (fun j a w' hI' => ?_)
            obtain ⟨hj, es, ck, M, mt, hrd, st⟩ := hI'
            refine w_rs ?_
            refine step_pure mt (pu_lss rfl rfl) rfl (fun a mt => ?_)
            refine w_nil ?_
            refine w_seq ?_
            refine w_cond mt rfl (fun h100 => ?_) (fun h100 => ?_)
            · have hjl : j < l.length := by omega
              have hx : l[j]? = some l[j] := List.getElem?_eq_getElem hjl
              generalize l[j] = x at hx
              have hxu : (l.map intV)[((j : Nat) : Int).toNat]? = some (.int .i64 x) := by simp [hx, intV]
              refine w_skip ?_
              refine x_then_n ?_
              refine w_seq ?_
              refine w_block ?_
              refine w_rs ?_
              refine step_pure mt (pu_ia (m := l.length) (i := j) K.el42 (by decide) rfl rl rfl (by omega) (by omega)) rfl (fun a mt => ?_)
              refine step_pure mt (pu_loadR st K.sc3 (rl.mono st.sub0) rfl hxu) rfl (fun a mt => ?_)
              refine step_pure mt (pu_assign rfl) rfl (fun a mt => ?_)
              refine w_nil ?_
              refine w_region ?_
              refine step_pure mt (pu_loadM st K.sc105 rfl rfl) rfl (fun a mt => ?_)
              refine step_pure mt (pu_move rfl) rfl (fun a mt => ?_)
              refine s_mapUpdate mt st rfl rfl rfl K.un105 K.un3 (by assumption) (fun w' es' ck' hr' st => ?_)
              refine w_nil' ?_
              refine x_block_n ?_
              refine x_then_n ?_
              refine w_region ?_
              refine step_pure mt (pu_add_i rfl rfl (by omega)) rfl (fun a mt => ?_)
              refine step_pure mt (pu_move rfl) rfl (fun a mt => ?_)
              refine w_nil' ?_
              refine x_then_n ?_
              have hf : (fun y => if y = x then some (Value.bool true) else if y ∈ l.take j then some (.bool true) else none) = fun y => if y ∈ l.take (j + 1) then some (.bool true) else none := by
                funext y
                rw [List.take_add_one, hx]
                by_cases h1 : y = x
                · simp [h1]
                · simp [h1]
              rw [hf] at hr'
              exact ⟨j + 1, ⟨by omega, _, _, _, mt.sub ⟨rfl, rfl, rfl, rfl, rfl, rfl, rfl, rfl, rfl, rfl, trivial⟩, hr', st⟩, by omega⟩
            · have hjn : j = l.length := by omega
              rw [hjn, List.take_length] at hrd
              refine w_exit (x_then_exit (x_then_exit (x_block_out ?_)))
              refine x_then_n ?_
              refine w_rs ?_
              refine step_pure mt (pu_move rfl) rfl (fun a mt => ?_)
              refine step_pure mt (pu_len_r rfl rl K.un42) rfl (fun a mt => ?_)
              refine step_pure mt (pu_move rfl) rfl (fun a mt => ?_)
              refine w_nil ?_
              refine w_block ?_
              refine w_loop (ι := Nat) (fun j a w' => j ≤ l.length ∧ ∃ I' M, Mt 135 a [(1, pv b1), (8, .int .i64 k), (10, pv b10), (89, .slice aad ab.length acc0), (90, .int .i64 ab.length), (91, .int .i64 k), (106, r), (107, .int .i64 l.length), (108, .int .i64 j)] ∧ Sub I I' ∧ St [] w I w' I' (.blk b96 (.map es ck) :: .blk b10 (.cells #[.map (some b96)] 105 (0, 0)) :: .blk b1 (.cells #[.slice aad ab.length acc0, .slice mad mk.length mcc] 44 (0, 0)) :: M) ∧ mdG2 ab mk k = (l.drop j).all (upG ab mk k)) (fun j => l.length - j) 0
                ⟨Nat.zero_le _, _, _, mt.sub ⟨rfl, rfl, rfl, rfl, rfl, rfl, rfl, rfl, rfl, trivial⟩, hII3, st, hg⟩ (fun j a w' hI' => ?_)
              obtain ⟨hj, I', M, mt, hII, st, hB⟩ := hI'
              refine w_rs ?_
              refine step_pure mt (pu_lss rfl rfl) rfl (fun a mt => ?_)
              refine w_nil ?_
              refine w_seq ?_
              refine w_cond mt rfl (fun h109 => ?_) (fun h109 => ?_)
              · have hjl : j < l.length := by omega
                have hx : l[j]? = some l[j] := List.getElem?_eq_getElem hjl
                have hrj := hrows j hjl
                generalize l[j] = v at hx
                rw [drop_cons hx, List.all_cons] at hB
                have hxu : (l.map intV)[((j : Nat) : Int).toNat]? = some (.int .i64 v) := by simp [hx, intV]
                have hvb : 0 ≤ v ∧ v < ab.length := by
                  unfold rowG at hrj; simp [hx] at hrj; exact ⟨hrj.1.1, hrj.1.2⟩
                have hvl : v.toNat < ab.length := by omega
                have hl2 : ab[v.toNat]? = some (ab[v.toNat]'(by omega)) := List.getElem?_eq_getElem (by omega)
                have hm2 : mk[v.toNat]? = some (mk[v.toNat]'(by omega)) := List.getElem?_eq_getElem (by omega)
                have hr2 : rows[v.toNat]? = some (rows[v.toNat]'(by omega)) := List.getElem?_eq_getElem (by omega)
                generalize ab[v.toNat]'(by omega) = l2 at hl2
                generalize mk[v.toNat]'(by omega) = m2 at hm2
                generalize rows[v.toNat]'(by omega) = r2 at hr2
                have rl2 := rrow _ l2 r2 hl2 hr2
                have hum2 : (mk.map intV)[v.toNat]? = some (.int .i64 m2) := by simp [hm2, intV]
                have h2k := hdone v.toNat hvl
                have hmb2 : 0 ≤ m2 ∧ m2 ≤ 15 := by
                  unfold mdG1 at h2k; simp [hm2] at h2k; exact ⟨h2k.1.1.1, h2k.1.1.2⟩
                have hup : upG ab mk k v = (subN m.toNat m2.toNat && !(l2.any fun u => !decide (u ∈ l))) := by unfold upG; simp [hl, hm0, hl2, hm2]
                obtain ⟨d, hd, hiff⟩ := andNotN (t := m.toNat) (u := m2.toNat) (by omega) (by omega)
                rw [show ((m.toNat : Nat) : Int) = m by omega, show ((m2.toNat : Nat) : Int) = m2 by omega] at hd
                refine w_skip ?_
                refine x_then_n ?_
                refine w_seq ?_
                refine w_block ?_
                refine w_rs ?_
                refine step_pure mt (pu_ia (m := l.length) (i := j) K.el42 (by decide) rfl rl rfl (by omega) (by omega)) rfl (fun a mt => ?_)
                refine step_pure mt (pu_loadR st K.sc3 (rl.mono st.sub0) rfl hxu) rfl (fun a mt => ?_)
                refine step_pure mt (pu_assign rfl) rfl (fun a mt => ?_)
                refine w_nil ?_
                by_cases d123 : (d : Int) ≠ 0
                · have hs : subN m.toNat m2.toNat = false := by
                    cases h : subN m.toNat m2.toNat with
                    | false => rfl
                    | true => have := hiff.2 h; omega
                  rw [hs, Bool.false_and] at hup
                  refine w_drs K.mixed rfl mt ?_
                  refine mo_pure (pu_fld 1 K.fl44_1 rfl) ?_
                  refine mo_pure (pu_loadM st K.sc42 rfl rfl) ?_
                  refine mo_pure (pu_move rfl) ?_
                  refine mo_pure (pu_ia (m := mk.length) (i := k) K.el42 (by decide) rfl rvm rfl (by omega) (by omega)) ?_
                  refine mo_pure (pu_loadR st K.sc3 (rvm.mono st.sub0) rfl hum) ?_
                  refine mo_pure (pu_fld 1 K.fl44_1 rfl) ?_
                  refine mo_pure (pu_loadM st K.sc42 rfl rfl) ?_
                  refine mo_pure (pu_move rfl) ?_
                  refine mo_pure (pu_ia (m := mk.length) (i := v) K.el42 (by decide) rfl rvm rfl (by omega) (by omega)) ?_
                  refine mo_pure (pu_loadR (i := v) st K.sc3 (rvm.mono st.sub0) rfl hum2) ?_
                  refine mo_pure ((pu_andNot rfl rfl).to (u := .int .i64 d) (congrArg (Value.int .i64) hd)) ?_
                  refine mo_pure ((pu_neq rfl rfl).tob (decide_eq_true d123)) ?_
                  refine mo_pure (pu_move rfl) ?_
                  refine mo_skip_g rfl rfl rfl ?_
                  refine mo_skip_g rfl rfl rfl ?_
                  refine mo_skip_g rfl rfl rfl ?_
                  refine mo_skip_g rfl rfl rfl ?_
                  refine mo_skip_g rfl rfl rfl ?_
                  refine mo_skip_g rfl rfl rfl ?_
                  refine mo_skip_g rfl rfl rfl ?_
                  refine mo_pure (pu_pick rfl rfl) ?_
                  refine mo_end (fun a w' mt pr hb => ?_)
                  have hIx := Iext_sub st.agr w'
                  replace st := st.extI hb
                  refine w_true mt rfl ?_
                  refine w_rs ?_
                  refine step_pure mt (pu_assign rfl) rfl (fun a mt => ?_)
                  refine w_nil ?_
                  refine w_ret (x_block_ret (x_then_ret (x_then_ret (x_block_ret (x_block_ret (x_then_ret (x_then_ret (x_block_ret (x_then_ret ?_)))))))))
                  refine post_ret1 mt rfl rfl ?_
                  first
                  | exact ⟨_, rfl, st.below, by rw [hall, hB, hup]; rfl⟩
                  | (have h3 : (l2.any fun u => !decide (u ∈ l)) = true := h132
                     exact ⟨_, rfl, st.below, by rw [hall, hB, hup, h3]; rfl⟩)
                · have hs : subN m.toNat m2.toNat = true := hiff.1 (by omega)
                  rw [hs, Bool.true_and] at hup
                  refine w_drs K.mixed rfl mt ?_
                  refine mo_pure (pu_fld 1 K.fl44_1 rfl) ?_
                  refine mo_pure (pu_loadM st K.sc42 rfl rfl) ?_
                  refine mo_pure (pu_move rfl) ?_
                  refine mo_pure (pu_ia (m := mk.length) (i := k) K.el42 (by decide) rfl rvm rfl (by omega) (by omega)) ?_
                  refine mo_pure (pu_loadR st K.sc3 (rvm.mono st.sub0) rfl hum) ?_
                  refine mo_pure (pu_fld 1 K.fl44_1 rfl) ?_
                  refine mo_pure (pu_loadM st K.sc42 rfl rfl) ?_
                  refine mo_pure (pu_move rfl) ?_
                  refine mo_pure (pu_ia (m := mk.length) (i := v) K.el42 (by decide) rfl rvm rfl (by omega) (by omega)) ?_
                  refine mo_pure (pu_loadR (i := v) st K.sc3 (rvm.mono st.sub0) rfl hum2) ?_
                  refine mo_pure ((pu_andNot rfl rfl).to (u := .int .i64 d) (congrArg (Value.int .i64) hd)) ?_
                  refine mo_pure ((pu_neq rfl rfl).tob (decide_eq_false d123)) ?_
                  refine mo_pure (pu_move rfl) ?_
                  refine mo_pure_g rfl rfl (pu_fld 0 K.fl44_0 rfl) ?_
                  refine mo_pure_g rfl rfl (pu_loadM st K.sc41 rfl rfl) ?_
                  refine mo_pure_g rfl rfl (pu_move rfl) ?_
                  refine mo_pure_g rfl rfl (pu_ia (m := ab.length) (i := v) K.el41 (by decide) rfl rva rfl (by omega) (by omega)) ?_
                  refine mo_pure_g rfl rfl (pu_loadR (i := v) st K.sc42 (rva.mono st.sub0) rfl hr2) ?_
                  refine mo_pure_g rfl rfl (pu_makeFunc (vs := []) (us := [pv b10]) rfl rfl) ?_
                  refine mo_callv_g rfl rfl (vs := [r2, .func (.func 58) #[] [pv b10].toArray]) K.cb57 rfl (fun w2 hb => containsFunc_int intV (fun _ => rfl) l2 r2 w2 ((rl2.mono st.sub0).mono (st.agr.trans (Below.sub hb))) 58 [pv b10] (fun u => !decide (u ∈ l)) K.cb58 (fun u _ w3 hb3 => mod1_ok b10 b96 es ck l u w3 (cellI_mono (Below.sub (below_then' hb hb3)) (st.cellM PickB.pick rfl)) (Below.sub (below_then' hb hb3) _ _ (st.blkM PickB.pick)) hrd)) ?_
                  refine mo_pure (pu_pick rfl rfl) ?_
                  refine mo_end (fun a w' mt pr hb => ?_)
                  have hIx := Iext_sub st.agr w'
                  replace st := st.extI hb
                  refine w_cond_b mt rfl (fun h132 => ?_) (fun h132 => ?_)
                  · refine w_rs ?_
                    refine step_pure mt (pu_assign rfl) rfl (fun a mt => ?_)
                    refine w_nil ?_
                    refine w_ret (x_block_ret (x_then_ret (x_then_ret (x_block_ret (x_block_ret (x_then_ret (x_then_ret (x_block_ret (x_then_ret ?_)))))))))
                    refine post_ret1 mt rfl rfl ?_
                    first
                    | exact ⟨_, rfl, st.below, by rw [hall, hB, hup]; rfl⟩
                    | (have h3 : (l2.any fun u => !decide (u ∈ l)) = true := h132
                       exact ⟨_, rfl, st.below, by rw [hall, hB, hup, h3]; rfl⟩)
                  · refine w_skip ?_
                    refine x_block_n ?_
                    refine x_then_n ?_
                    refine w_region ?_
                    refine step_pure mt (pu_add_i rfl rfl (by omega)) rfl (fun a mt => ?_)
                    refine step_pure mt (pu_move rfl) rfl (fun a mt => ?_)
                    refine w_nil' ?_
                    refine x_then_n ?_
                    exact ⟨j + 1, ⟨by omega, _, _, mt.sub ⟨rfl, rfl, rfl, rfl, rfl, rfl, rfl, rfl, rfl, trivial⟩, hII.trans hIx, st, by rw [hB, hup, show (l2.any fun u => !decide (u ∈ l)) = false from h132]; rfl⟩, by omega⟩
              · have e1 : l.drop j = [] := List.drop_eq_nil_of_le (by omega)
                rw [e1] at hB
                have hB1 : mdG2 ab mk k = true := hB
                refine w_exit (x_then_exit (x_then_exit (x_block_out ?_)))
                refine x_block_n ?_
                refine x_then_n ?_
                refine w_region ?_
                refine step_pure mt (pu_add_i rfl rfl (by omega)) rfl (fun a mt => ?_)
                refine step_pure mt (pu_move rfl) rfl (fun a mt => ?_)
                refine w_nil' ?_
                refine x_then_n ?_
                exact ⟨k + 1, ⟨by omega, _, _, mt.sub ⟨rfl, rfl, rfl, rfl, trivial⟩, hII, st.pick (Pick.there _ (Pick.there _ (Pick.here _ _))), by rw [hall, hB1]; rfl⟩, by omega⟩
          · have e1 : (List.range ab.length).drop k = [] := List.drop_eq_nil_of_le (by simp; omega)
            refine w_exit (x_then_exit (x_then_exit (x_block_out ?_)))
            refine x_then_n ?_
            refine w_rs ?_
            refine step_pure mt (pu_assign rfl) rfl (fun a mt => ?_)
            refine w_nil ?_
            refine w_ret ?_
            refine post_ret1 mt rfl rfl ?_
            exact ⟨_, rfl, st.below, by rw [hall, e1]; rfl⟩
end Go.Proofs.YtoilfakpgcjjpaaDoor.Log
namespace Go.Proofs.YtoilfakpgcjjpaaDoor.Log
open Go Go.RowKit Go.Proofs.YtoilfakpgcjjpaaDoor Go.Proofs.YtoilfakpgcjjpaaDoor.Eng
set_option linter.unusedVariables false
set_option linter.unusedSimpArgs false
set_option maxRecDepth 100000
theorem asc_le {n : Nat} {l : List Int} (h : ∀ i, i < l.length → rowG n l i = true) : ∀ i, i < l.length → (i : Int) ≤ l.getD i 0
  | 0, hi => by
    have := h 0 hi
    unfold rowG at this
    simp only [Bool.and_eq_true, decide_eq_true_eq] at this
    exact this.1.1
  | i + 1, hi => by
    have h1 := asc_le h i (by omega)
    have := h (i + 1) hi
    unfold rowG at this
    simp only [Bool.and_eq_true, Bool.or_eq_true, decide_eq_true_eq, Nat.add_sub_cancel] at this
    omega
theorem isModF_get {ab : List (List Int)} {mk : List Int} (h : isModF ab mk = true) : 1 ≤ ab.length ∧ ab.length ≤ 4096 ∧ mk.length = ab.length ∧ (∀ k, k < ab.length → mdG1 ab mk k = true) ∧ ∀ k, k < ab.length → mdG2 ab mk k = true := by
  unfold isModF at h
  simp only [Bool.and_eq_true, decide_eq_true_eq] at h
  exact ⟨h.1.1.1.1, h.1.1.1.2, h.1.1.2, fun k hk => range_all_get h.1.2 hk, fun k hk => range_all_get h.2 hk⟩
theorem isModF_row {ab : List (List Int)} {mk : List Int} (h : isModF ab mk = true) {k : Nat} {l : List Int} (hl : ab[k]? = some l) : 0 ≤ mk.getD k 0 ∧ mk.getD k 0 ≤ 15 ∧ (k : Int) ∈ l ∧ (∀ i, i < l.length → rowG ab.length l i = true) ∧ l.length ≤ ab.length ∧ ∀ v ∈ l, 0 ≤ v ∧ v < ab.length := by
  have hk := (List.getElem?_eq_some_iff.1 hl).1
  have h1 := (isModF_get h).2.2.2.1 k hk
  unfold mdG1 at h1
  rw [show ab.getD k [] = l by simp [hl]] at h1
  simp only [Bool.and_eq_true, decide_eq_true_eq] at h1
  have hr : ∀ i, i < l.length → rowG ab.length l i = true := fun i hi => range_all_get h1.2 hi
  refine ⟨h1.1.1.1, h1.1.1.2, ?_, hr, ?_, fun v hv => ?_⟩
  · obtain ⟨y, hy, e⟩ := List.any_eq_true.1 h1.1.2
    have : (k : Int) = y := by simpa using e
    rw [this]; exact hy
  · rcases Nat.eq_zero_or_pos l.length with h0 | h0
    · omega
    · have h2 := asc_le hr (l.length - 1) (by omega)
      have h3 := hr (l.length - 1) (by omega)
      unfold rowG at h3
      simp only [Bool.and_eq_true, decide_eq_true_eq] at h3
      omega
  · obtain ⟨i, hi⟩ := List.getElem?_of_mem hv
    have h3 := hr i (List.getElem?_eq_some_iff.1 hi).1
    unfold rowG at h3
    rw [show l.getD i 0 = v by simp [hi]] at h3
    simp only [Bool.and_eq_true, decide_eq_true_eq] at h3
    exact ⟨h3.1.1, h3.1.2⟩
theorem isModF_fits {ab : List (List Int)} {mk : List Int} (h : isModF ab mk = true) : fits ab mk := by
  obtain ⟨h1, h2, h3, h4, h5⟩ := isModF_get h
  refine ⟨h3, h2, fun m hm => ?_, fun l hl => ?_⟩
  · obtain ⟨k, hk⟩ := List.getElem?_of_mem hm
    have hkl := (List.getElem?_eq_some_iff.1 hk).1
    have := isModF_row h (k := k) (List.getElem?_eq_getElem (by omega))
    rw [show mk.getD k 0 = m by simp [hk]] at this
    exact ⟨this.1, this.2.1⟩
  · obtain ⟨k, hk⟩ := List.getElem?_of_mem hl
    have := isModF_row h hk
    exact ⟨by omega, this.2.2.2.2.2⟩
def forTo (ab : List (List Int)) (mk : List Int) (x : Fm) (k : Nat) : List Nat := (List.range k).filter (fc ab mk x)
theorem forTo_succ (ab : List (List Int)) (mk : List Int) (x : Fm) (k : Nat) : forTo ab mk x (k + 1) = if fc ab mk x k = true then forTo ab mk x k ++ [k] else forTo ab mk x k := by
  unfold forTo
  rw [List.range_succ, List.filter_append]
  by_cases h : fc ab mk x k = true <;> simp [h]
theorem forTo_len (ab : List (List Int)) (mk : List Int) (x : Fm) (k : Nat) : (forTo ab mk x k).length ≤ k := by
  unfold forTo; exact Nat.le_trans (List.length_filter_le _ _) (by simp)
def forL (ab : List (List Int)) (mk : List Int) (x : Fm) : List Nat := forTo ab mk x ab.length
theorem Forces_ok {I : Hp} (ab : List (List Int)) (mk : List Int) (mv : Value) (s : List UInt8) (w : World) (hI : Sub I (hp w)) (hm : ModV I ab mk mv) :
    CallsX Tryd.prog 25 #[mv, .string (str s)] w fun v w' => match fmOf s with
      | none => v = .tuple #[.slice none 0 0, .int .i64 4]
      | some x => if isModF ab mk = true then ∃ lv, v = .tuple #[lv, .int .i64 0] ∧ RdS (Iext I w w') lv 1 (forL ab mk x).length ((forL ab mk x).map natV) ∧ OwnR w.heap.size 3 1 (forL ab mk x).length ((forL ab mk x).map natV) lv w'
        else v = .tuple #[.slice none 0 0, .int .i64 2] := by
  obtain ⟨va, vm, rows, rfl, rva, rrow, rvm⟩ := id hm
  have hva := RdS.one rva
  have hvm := RdS.one rvm
  have st := St.start (w0 := w) (I0 := I) hI
  refine CallsX.of (nn := 38) Tryd.func25 rfl rfl rfl (fun a mt => ?_)
  refine w_rs ?_
  refine step_alloc mt st (al_box rfl rfl) rfl (fun a w' b2 mt st => ?_)
  refine step_pure mt (pu_assign rfl) rfl (fun a mt => ?_)
  refine step_pure mt (pu_assign rfl) rfl (fun a mt => ?_)
  refine w_nil ?_
  refine w_rs ?_
  refine step_pure mt (pu_move rfl) rfl (fun a mt => ?_)
  refine s_call mt st K.cb36 (vs := [.string (str s)]) rfl (parse_ok s _) rfl (fun a w' v13 mt st hI13 hv13 => ?_)
  cases hx : fmOf s with
  | none =>
    rw [hx] at hv13
    obtain ⟨u, rfl⟩ := hv13
    refine step_pure mt (pu_move rfl) rfl (fun a mt => ?_)
    refine step_pure mt (pu_extract rfl rfl) rfl (fun a mt => ?_)
    refine step_pure mt (pu_extract rfl rfl) rfl (fun a mt => ?_)
    refine step_pure mt (pu_assign rfl) rfl (fun a mt => ?_)
    refine step_pure mt (pu_assign rfl) rfl (fun a mt => ?_)
    refine w_nil ?_
    refine w_seq ?_
    refine w_rs ?_
    refine step_pure mt (pu_move rfl) rfl (fun a mt => ?_)
    refine step_pure mt (pu_neq rfl rfl) rfl (fun a mt => ?_)
    refine w_nil ?_
    refine w_true mt rfl ?_
    refine w_rs ?_
    refine step_pure mt (pu_move rfl) rfl (fun a mt => ?_)
    refine step_pure mt (pu_assign rfl) rfl (fun a mt => ?_)
    refine step_pure mt (pu_assign rfl) rfl (fun a mt => ?_)
    refine w_nil ?_
    refine w_ret (x_then_ret ?_)
    refine post_ret2 mt rfl rfl rfl ?_
    exact ⟨_, rfl, st.below, rfl⟩
  | some x =>
    rw [hx] at hv13
    subst hv13
    refine step_pure mt (pu_move rfl) rfl (fun a mt => ?_)
    refine step_pure mt (pu_extract rfl rfl) rfl (fun a mt => ?_)
    refine step_pure mt (pu_extract rfl rfl) rfl (fun a mt => ?_)
    refine step_pure mt (pu_assign rfl) rfl (fun a mt => ?_)
    refine step_pure mt (pu_assign rfl) rfl (fun a mt => ?_)
    refine w_nil ?_
    refine w_seq ?_
    refine w_rs ?_
    refine step_pure mt (pu_move rfl) rfl (fun a mt => ?_)
    refine step_pure mt (pu_neq rfl rfl) rfl (fun a mt => ?_)
    refine w_nil ?_
    refine w_false mt rfl ?_
    refine w_skip ?_
    refine x_then_n ?_
    refine w_seq ?_
    refine w_rs ?_
    refine step_pure mt (pu_loadMA st K.ag44 rfl rfl) rfl (fun a mt => ?_)
    refine s_callv mt st K.cb41 (vs := [.agg #[va, vm]]) rfl (isModel_ok ab mk (.agg #[va, vm]) _ st.agr (hm.mono st.sub0)) rfl (fun a w' mt st => ?_)
    refine step_pure mt (pu_not rfl) rfl (fun a mt => ?_)
    refine w_nil ?_
    refine w_cond_b mt rfl (fun h21 => ?_) (fun h21 => ?_)
    · refine w_rs ?_
      refine step_pure mt (pu_assign rfl) rfl (fun a mt => ?_)
      refine step_pure mt (pu_assign rfl) rfl (fun a mt => ?_)
      refine w_nil ?_
      refine w_ret (x_then_ret ?_)
      refine post_ret2 mt rfl rfl rfl ?_
      have hmf : isModF ab mk = false := by simpa using h21
      exact ⟨_, rfl, st.below, by show (if isModF ab mk = true then _ else _); rw [hmf]; exact rfl⟩
    · have hmf : isModF ab mk = true := by simpa using h21
      refine w_skip ?_
      refine x_then_n ?_
      refine w_rs ?_
      refine step_pure mt (pu_assign rfl) rfl (fun a mt => ?_)
      refine w_nil ?_
      refine w_seq ?_
      refine w_rs ?_
      refine step_pure mt (pu_loadMA st K.ag44 rfl rfl) rfl (fun a mt => ?_)
      refine step_pure mt (pu_move rfl) rfl (fun a mt => ?_)
      refine s_call mt st K.cb42 (vs := [.agg #[va, vm], enc x]) rfl (forced_ok x (fmOf_good hx).1 _ ab mk (.agg #[va, vm]) _ st.agr (hm.mono st.sub0) (isModF_fits hmf)) rfl (fun a w' v24 mt st hI24 hv24 => ?_)
      refine step_pure mt (pu_len_r rfl hv24 K.un49) rfl (fun a mt => ?_)
      have st := st.nilRow 3 1
      have hn2 := (isModF_get hmf).2.1
      obtain ⟨I1, st, hv24⟩ := Exists.intro (p := fun J => St [] w I w' J _ ∧ RdS J v24 1 ab.length _) _ ⟨st, hv24⟩
      refine step_pure mt (pu_move rfl) rfl (fun a mt => ?_)
      refine w_nil ?_
      refine w_block ?_
      refine w_loop (ι := Nat) (fun k a w' => k ≤ ab.length ∧ ∃ I' v8 M, Mt 38 a [(8, v8), (24, v24), (25, .int .i64 ab.length), (26, .int .i64 k)] ∧ Sub I1 I' ∧ St [] w I w' I' (.row v8 3 1 (forTo ab mk x k).length ((forTo ab mk x k).map natV) :: M)) (fun k => ab.length - k) 0
        ⟨Nat.zero_le _, _, _, _, mt.sub ⟨rfl, rfl, rfl, rfl, trivial⟩, Sub.refl _, st⟩ (fun k a w' hI' => ?_)
      obtain ⟨hk, I', v8, M, mt, hs1, st⟩ := hI'
      have hfl := forTo_len ab mk x k
      refine w_rs ?_
      refine step_pure mt (pu_lss rfl rfl) rfl (fun a mt => ?_)
      refine w_nil ?_
      refine w_seq ?_
      refine w_cond mt rfl (fun h27 => ?_) (fun h27 => ?_)
      · have hkl : k < ab.length := by omega
        refine w_skip ?_
        refine x_then_n ?_
        refine w_seq ?_
        refine w_block ?_
        refine w_rs ?_
        refine step_pure mt (pu_move rfl) rfl (fun a mt => ?_)
        refine step_pure mt (pu_ia (m := ab.length) (i := k) K.el49 (by decide) rfl hv24 rfl (by omega) (by omega)) rfl (fun a mt => ?_)
        refine step_pure mt (pu_loadR st K.sc4 (hv24.mono hs1) rfl (boolsV_get hkl)) rfl (fun a mt => ?_)
        refine step_pure mt (pu_assign rfl) rfl (fun a mt => ?_)
        refine step_pure mt (pu_assign rfl) rfl (fun a mt => ?_)
        refine w_nil ?_
        refine w_rs ?_
        refine step_pure mt (pu_move rfl) rfl (fun a mt => ?_)
        refine w_nil ?_
        refine w_cond_b mt rfl (fun h31 => ?_) (fun h31 => ?_)
        · have e1 : forTo ab mk x (k + 1) = forTo ab mk x k ++ [k] := by rw [forTo_succ, if_pos h31]
          refine w_region ?_
          refine step_pure mt (pu_move rfl) rfl (fun a mt => ?_)
          refine step_pure mt (pu_move rfl) rfl (fun a mt => ?_)
          refine step_alloc mt st (al_lit1 (vs := [.int .i64 k]) K.el42 rfl rfl rfl rfl rfl (by simp [Value.oneCell'])) rfl (fun a w' b34 mt st => ?_)
          refine s_append mt st K.el42 rfl (by decide) rfl rfl rfl (by simp [Value.oneCell']) (by simp only [maxLen]; omega) (by omega) rfl (fun a w' v35 mt st => ?_)
          refine step_pure mt (pu_assign rfl) rfl (fun a mt => ?_)
          refine w_nil' ?_
          refine x_block_n ?_
          refine x_then_n ?_
          refine w_region ?_
          refine step_pure mt (pu_add_i rfl rfl (by omega)) rfl (fun a mt => ?_)
          refine step_pure mt (pu_move rfl) rfl (fun a mt => ?_)
          refine w_nil' ?_
          refine x_then_n ?_
          exact ⟨k + 1, ⟨by omega, _, _, _, mt.sub ⟨rfl, rfl, rfl, rfl, trivial⟩, hs1, by
            first
            | (rw [e1]; exact st)
            | (rw [e1]
               have e2 : (forTo ab mk x k ++ [k]).length = (forTo ab mk x k).length + 1 := by simp
               have e3 : (forTo ab mk x k ++ [k]).map natV = (forTo ab mk x k).map natV ++ [.int .i64 k] := by simp [natV]
               rw [e2, e3]
               exact st)⟩, by omega⟩
        · have e1 : forTo ab mk x (k + 1) = forTo ab mk x k := by rw [forTo_succ, if_neg (by rw [h31]; decide)]
          refine w_skip ?_
          refine x_block_n ?_
          refine x_then_n ?_
          refine w_region ?_
          refine step_pure mt (pu_add_i rfl rfl (by omega)) rfl (fun a mt => ?_)
          refine step_pure mt (pu_move rfl) rfl (fun a mt => ?_)
          refine w_nil' ?_
          refine x_then_n ?_
          exact ⟨k + 1, ⟨by omega, _, _, _, mt.sub ⟨rfl, rfl, rfl, rfl, trivial⟩, hs1, by
            first
            | (rw [e1]; exact st)
            | (rw [e1]
               have e2 : (forTo ab mk x k ++ [k]).length = (forTo ab mk x k).length + 1 := by simp
               have e3 : (forTo ab mk x k ++ [k]).map natV = (forTo ab mk x k).map natV ++ [.int .i64 k] := by simp [natV]
               rw [e2, e3]
               exact st)⟩, by omega⟩
      · refine w_exit (x_then_exit (x_then_exit (x_block_out ?_)))
        refine x_then_n ?_
        refine w_rs ?_
        refine step_pure mt (pu_move rfl) rfl (fun a mt => ?_)
        refine step_pure mt (pu_assign rfl) rfl (fun a mt => ?_)
        refine step_pure mt (pu_assign rfl) rfl (fun a mt => ?_)
        refine w_nil ?_
        refine w_ret ?_
        refine post_ret2 mt rfl rfl rfl ?_
        have hkn : k = ab.length := by omega
        subst hkn
        refine ⟨_, rfl, st.below, ?_⟩
        show (if isModF ab mk = true then _ else _)
        rw [if_pos hmf]
        exact ⟨_, rfl, St.rowX st (Pick.here _ _), st.ownRow⟩
end Go.Proofs.YtoilfakpgcjjpaaDoor.Log
