/-
  Contracts: the code lowered, what it does told by rules, and the contracts of the functions that the law reaches.
-/
import Derived.Test.YtbpohnnpklbmeaaDoorSyD
import Derived.Test.YtbpohnnpklbmeaaDoorProg
import Derived.KernelRfl
set_option linter.unusedVariables false
set_option linter.unusedSimpArgs false
section
set_option maxRecDepth 100000
namespace Go.Sy
open Go.Ev Go.Proofs
variable {base : CallF}
noncomputable def rightB : Nat → Ex → Bool
  | 0, _ => false
  | d + 1, x => decide (1 ≤ x.op) && decide (x.op < 31) && decide (x.kids.length = kidsN x.op) && leafB x && x.kids.all (rightB d)
mutual
def Ex.wf : Ex → Prop
  | .mk _ _ n ks _ _ => Byt n ∧ Ex.wfs ks
def Ex.wfs : List Ex → Prop
  | [] => True
  | x :: xs => x.wf ∧ Ex.wfs xs
end
theorem wfs_mem : ∀ {ks : List Ex} {x : Ex}, Ex.wfs ks → x ∈ ks → x.wf
  | y :: ys, x, h, hx => by
    rcases List.mem_cons.1 hx with rfl | hx
    · exact h.1
    · exact wfs_mem h.2 hx
/-- what stood there stands there, whatever the frame -/
structure Kp (a s : St) : Prop where
  nx : a.nx ≤ s.nx
  keep : ∀ b, b < a.nx → hget s.h b = hget a.h b
theorem Kept.kp {a s : St} (k : Kept a s) : Kp a s := ⟨k.nx, k.keep⟩
theorem Kp.trans {a b s : St} (h : Kp a b) (k : Kp b s) : Kp a s := ⟨Nat.le_trans h.nx k.nx, fun x hx => (k.keep x (Nat.lt_of_lt_of_le hx h.nx)).trans (h.keep x hx)⟩
theorem Kp.ofB {a s : St} (k : Kp a.bare s) : Kp a s := ⟨k.nx, k.keep⟩
/-- a function that tells something of an expression -/
def TellE (base : CallF) (s0 : St) (f : FuncId) (caps : List AV) (ks : List Ex) (p : Ex → Bool) : Prop :=
  ∀ x ∈ ks, ∀ (cs : List AV) (s : St) (K : AV → St → Prop), Kp s0 s → ExR s cs x → (∀ s1, Kept s s1 → K (.bool (p x)) s1) → CB Tryd.prog base f (.agg cs :: caps) s K
def KsV (s : St) (k : AV) (ks : List Ex) : Prop := (k = .nils ∧ ks = []) ∨ ∃ b o cap ex, k = .slice b o ks.length cap 6 ex ∧ b < s.nx ∧ o + 6 * ks.length ≤ rlen s.h b ∧ KsR s b o ks ∧ Any b
theorem KsV.kept {a s : St} {k : AV} {ks : List Ex} (h : KsV a k ks) (q : Kept a s) : KsV s k ks := by
  rcases h with h | ⟨b, o, cap, ex, e1, e2, e3, e4, e5⟩
  · exact .inl h
  · exact .inr ⟨b, o, cap, ex, e1, Nat.lt_of_lt_of_le e2 q.nx, by rw [rlen_same (q.keep b e2)]; exact e3, KsP.keep (fun _ _ h => h) q.nx (fun b hb _ => q.keep b hb) b e2 e5 o ks e4, e5⟩
theorem KsV.bare {s : St} {k : AV} {ks : List Ex} (h : KsV s k ks) : KsV s.bare k ks := by
  rcases h with h | ⟨b, o, cap, ex, e1, e2, e3, e4, e5⟩
  · exact .inl h
  · exact .inr ⟨b, o, cap, ex, e1, e2, e3, KsP.keep (a := s) (s := s.bare) (fun _ _ h => h) (Nat.le_refl _) (fun _ _ _ => rfl) b e2 e5 o ks e4, e5⟩
theorem index80_ok (hb : NB base) {k : AV} {ks : List Ex} (hl : ks.length ≤ 1000000) {f : FuncId} {caps : List AV} {p : Ex → Bool} (st : St) (hk : KsV st k ks) (hT : TellE base st f caps ks p) (K : AV → St → Prop)
    (hK : ∀ (n : Int) s1, Kept st s1 → (0 ≤ n ↔ ks.any p = true) → K (.int .i64 n) s1) : CB Tryd.prog base 80 [k, .fn f caps] st K := by
  refine fn_ruleB l80 (hb.at _ (by decide) _ _) ?_
  simp only [c80, entry, List.map_cons, List.map_nil, List.getD_cons_zero, List.getD_cons_succ]
  unfold b80
  have hT : TellE base st.bare f caps ks p := fun x hx cs s K k => hT x hx cs s K k.ofB
  have hk := hk.bare
  have hE : ∀ s, Kept st.bare s → Kept st (bk st s) := fun s k => ⟨k.nx, rfl, k.keep⟩
  have hB : ∀ s c, But st.bare s c → But st (bk st s) c := fun s c k => ⟨k.nx, rfl, k.keep⟩
  have hS0 : bk st st.bare = st := rfl
  have hnx0 : st.bare.nx = st.nx := rfl
  have hfr0 : st.bare.fr = [] := rfl
  generalize st.bare = s0 at *
  have eL : ∀ (s : St) (K : AV → St → Prop), onER (lenV k s) K = K (.int .i64 (ks.length : Int)) s := fun s K => by
    rcases hk with ⟨rfl, rfl⟩ | ⟨b, o, cap, ex, rfl, _⟩
    · exact v_len0
    · exact v_len ..
  simp (disch := first | decide | assumption | omega | (simp only [nx_nw, nx_wr, nx_ap, nx_bare]; first | done | omega) | (simp (disch := first | assumption | omega | (simp only [nx_nw, nx_wr, nx_ap, nx_bare]; first | done | omega)) only [rRu, List.length_cons, List.length_nil]; first | done | omega | decide)) only [eL, Nat.reduceAdd, Nat.reduceSub, Nat.reduceMul, Nat.zero_add, a_new, a_box, a_st, a_ldA, rats_nwE, rats_nwO, rats_wr, rats_wrO, upd_nil, upd_00, upd_0, upd_S, upd_e, nx_nw, nx_wr, nx_ap, nx_bare, h_bare, len_nwE, len_nwO, len_wr, at_nwE, at_nwO, at_wr, at_wrB, at_wrA, at_wrO, cells_agg, cells_int, cells_str, cells_bool, cells_slice, cells_nils, cells_ptr, a_build0, a_buildc, a_bS, a_bS0, a_bSc, rep_0, rep_S, i_buildP, i_buildSP, r_ps0, r_ps1, i_fnA, i_slS1, i_slS2, i_slS3, v_idxS0, v_iface, r_resA, r_dops, r_dnil, r_dcons0, r_dcons1, h_0, h_1, h_rw, h_wr, h_n1, h_n2, lg_0, lg_S, te_0, te_1, te_2, vl_c, vl_l, vl_ls, vl_g, vl_gs, true_and, and_true, and_self, List.getD_cons_zero, List.getD_cons_succ, rRd, rRe, rRf, Bool.not_true, Bool.not_false, List.cons_append, List.nil_append, List.append_nil]
  refine wC_loopH (fun mm L s => ∃ i : Nat, i ≤ ks.length ∧ mm = ks.length - i ∧ Kept s0 s ∧ (∀ j (hj : j < i) (hj2 : j < ks.length), p ks[j] = false) ∧ Has L 0 k ∧ Has L 1 (.fn f caps) ∧ Has L 7 (.int .i64 (ks.length : Int)) ∧ Has L 8 (.int .i64 (i : Int))) ?_ ks.length ?_
  · rintro mm L s ⟨i, hi, rfl, hs, hp, i0, i1, i7, i8⟩
    unfold Hold
    by_cases hin : i < ks.length
    · have hk' := hk.kept hs
      rcases hk' with ⟨rfl, rfl⟩ | ⟨b, o, cap, ex, rfl, hbl, hle, hks, _⟩
      · simp at hin
      have hx := hks.at hin
      have hxl := hx.len
      simp (disch := first | decide | assumption | omega | (simp only [nx_nw, nx_wr, nx_ap, nx_bare]; first | done | omega) | (simp (disch := first | assumption | omega | (simp only [nx_nw, nx_wr, nx_ap, nx_bare]; first | done | omega)) only [rRu, List.length_cons, List.length_nil]; first | done | omega | decide)) only [r_onh i0, r_onh i1, r_onh i7, r_onh i8, Nat.reduceAdd, Nat.reduceSub, Nat.reduceMul, Nat.zero_add, a_new, a_box, a_st, a_ldA, rats_nwE, rats_nwO, rats_wr, rats_wrO, upd_nil, upd_00, upd_0, upd_S, upd_e, nx_nw, nx_wr, nx_ap, nx_bare, h_bare, len_nwE, len_nwO, len_wr, at_nwE, at_nwO, at_wr, at_wrB, at_wrA, at_wrO, cells_agg, cells_int, cells_str, cells_bool, cells_slice, cells_nils, cells_ptr, a_build0, a_buildc, a_bS, a_bS0, a_bSc, rep_0, rep_S, i_buildP, i_buildSP, r_ps0, r_ps1, i_fnA, i_slS1, i_slS2, i_slS3, v_idxS0, v_iface, r_resA, r_dops, r_dnil, r_dcons0, r_dcons1, h_0, h_1, h_rw, h_wr, h_n1, h_n2, lg_0, lg_S, te_0, te_1, te_2, vl_c, vl_l, vl_ls, vl_g, vl_gs, true_and, and_true, and_self, List.getD_cons_zero, List.getD_cons_succ, rRd, rRe, rRf, Bool.not_true, Bool.not_false, List.cons_append, List.nil_append, List.append_nil]
      refine hT _ (List.getElem_mem hin) _ _ _ hs.kp hx fun s1 k1 => ?_
      have k01 := hs.trans k1
      have f1 : s1.fr = [] := k01.fr.trans hfr0
      cases hpx : p ks[i] with
      | true =>
        simp (disch := first | decide | assumption | omega | (simp only [nx_nw, nx_wr, nx_ap, nx_bare]; first | done | omega) | (simp (disch := first | assumption | omega | (simp only [nx_nw, nx_wr, nx_ap, nx_bare]; first | done | omega)) only [rRu, List.length_cons, List.length_nil]; first | done | omega | decide)) only [v_addN, Nat.reduceAdd, Nat.reduceSub, Nat.reduceMul, Nat.zero_add, a_new, a_box, a_st, a_ldA, rats_nwE, rats_nwO, rats_wr, rats_wrO, upd_nil, upd_00, upd_0, upd_S, upd_e, nx_nw, nx_wr, nx_ap, nx_bare, h_bare, len_nwE, len_nwO, len_wr, at_nwE, at_nwO, at_wr, at_wrB, at_wrA, at_wrO, cells_agg, cells_int, cells_str, cells_bool, cells_slice, cells_nils, cells_ptr, a_build0, a_buildc, a_bS, a_bS0, a_bSc, rep_0, rep_S, i_buildP, i_buildSP, r_ps0, r_ps1, i_fnA, i_slS1, i_slS2, i_slS3, v_idxS0, v_iface, r_resA, r_dops, r_dnil, r_dcons0, r_dcons1, h_0, h_1, h_rw, h_wr, h_n1, h_n2, lg_0, lg_S, te_0, te_1, te_2, vl_c, vl_l, vl_ls, vl_g, vl_gs, true_and, and_true, and_self, List.getD_cons_zero, List.getD_cons_succ, rRd, rRe, rRf, Bool.not_true, Bool.not_false, List.cons_append, List.nil_append, List.append_nil]
        exact hK _ _ (hE _ k01) ⟨fun _ => List.any_eq_true.2 ⟨ks[i], List.getElem_mem hin, hpx⟩, fun _ => by omega⟩
      | false =>
        simp (disch := first | decide | assumption | omega | (simp only [nx_nw, nx_wr, nx_ap, nx_bare]; first | done | omega) | (simp (disch := first | assumption | omega | (simp only [nx_nw, nx_wr, nx_ap, nx_bare]; first | done | omega)) only [rRu, List.length_cons, List.length_nil]; first | done | omega | decide)) only [r_onh i7, r_onh i8, v_addN, Nat.reduceAdd, Nat.reduceSub, Nat.reduceMul, Nat.zero_add, a_new, a_box, a_st, a_ldA, rats_nwE, rats_nwO, rats_wr, rats_wrO, upd_nil, upd_00, upd_0, upd_S, upd_e, nx_nw, nx_wr, nx_ap, nx_bare, h_bare, len_nwE, len_nwO, len_wr, at_nwE, at_nwO, at_wr, at_wrB, at_wrA, at_wrO, cells_agg, cells_int, cells_str, cells_bool, cells_slice, cells_nils, cells_ptr, a_build0, a_buildc, a_bS, a_bS0, a_bSc, rep_0, rep_S, i_buildP, i_buildSP, r_ps0, r_ps1, i_fnA, i_slS1, i_slS2, i_slS3, v_idxS0, v_iface, r_resA, r_dops, r_dnil, r_dcons0, r_dcons1, h_0, h_1, h_rw, h_wr, h_n1, h_n2, lg_0, lg_S, te_0, te_1, te_2, vl_c, vl_l, vl_ls, vl_g, vl_gs, true_and, and_true, and_self, List.getD_cons_zero, List.getD_cons_succ, rRd, rRe, rRf, Bool.not_true, Bool.not_false, List.cons_append, List.nil_append, List.append_nil]
        refine ⟨ks.length - (i + 1), by omega, i + 1, by omega, rfl, k01, fun j hj hj2 => ?_, ?_⟩
        · by_cases h : j = i
          · subst h; exact hpx
          · exact hp j (by omega) hj2
        · simp (disch := decide) only [z0, z1, h_here, h_skip, i0, i1, i7, true_and, and_true]
    · simp (disch := first | decide | assumption | omega | (simp only [nx_nw, nx_wr, nx_ap, nx_bare]; first | done | omega) | (simp (disch := first | assumption | omega | (simp only [nx_nw, nx_wr, nx_ap, nx_bare]; first | done | omega)) only [rRu, List.length_cons, List.length_nil]; first | done | omega | decide)) only [r_onh i7, r_onh i8, Nat.reduceAdd, Nat.reduceSub, Nat.reduceMul, Nat.zero_add, a_new, a_box, a_st, a_ldA, rats_nwE, rats_nwO, rats_wr, rats_wrO, upd_nil, upd_00, upd_0, upd_S, upd_e, nx_nw, nx_wr, nx_ap, nx_bare, h_bare, len_nwE, len_nwO, len_wr, at_nwE, at_nwO, at_wr, at_wrB, at_wrA, at_wrO, cells_agg, cells_int, cells_str, cells_bool, cells_slice, cells_nils, cells_ptr, a_build0, a_buildc, a_bS, a_bS0, a_bSc, rep_0, rep_S, i_buildP, i_buildSP, r_ps0, r_ps1, i_fnA, i_slS1, i_slS2, i_slS3, v_idxS0, v_iface, r_resA, r_dops, r_dnil, r_dcons0, r_dcons1, h_0, h_1, h_rw, h_wr, h_n1, h_n2, lg_0, lg_S, te_0, te_1, te_2, vl_c, vl_l, vl_ls, vl_g, vl_gs, true_and, and_true, and_self, List.getD_cons_zero, List.getD_cons_succ, rRd, rRe, rRf, Bool.not_true, Bool.not_false, List.cons_append, List.nil_append, List.append_nil]
      refine hK _ _ (hE _ hs) ⟨fun h => absurd h (by omega), fun h => ?_⟩
      obtain ⟨x, hx, hpx⟩ := List.any_eq_true.1 h
      obtain ⟨j, hj, rfl⟩ := List.getElem_of_mem hx
      rw [hp j (by omega) hj] at hpx
      cases hpx
  · refine ⟨0, by omega, rfl, by first | exact Kept.refl _ | trivial, fun j hj _ => absurd hj (Nat.not_lt_zero _), ?_⟩
    simp (disch := decide) only [z0, z1, h_here, h_skip, true_and, and_true]
theorem contains68_ok (hb : NB base) {k : AV} {ks : List Ex} (hl : ks.length ≤ 1000000) {f : FuncId} {caps : List AV} {p : Ex → Bool} (st : St) (hk : KsV st k ks) (hT : TellE base st f caps ks p) (K : AV → St → Prop)
    (hK : ∀ s1, Kept st s1 → K (.bool (ks.any p)) s1) : CB Tryd.prog base 68 [k, .fn f caps] st K := by
  refine fn_ruleB l68 (hb.at _ (by decide) _ _) ?_
  simp only [c68, entry, List.map_cons, List.map_nil, List.getD_cons_zero, List.getD_cons_succ]
  unfold b68
  have hT : TellE base st.bare f caps ks p := fun x hx cs s K k => hT x hx cs s K k.ofB
  have hk := hk.bare
  have hE : ∀ s, Kept st.bare s → Kept st (bk st s) := fun s k => ⟨k.nx, rfl, k.keep⟩
  have hB : ∀ s c, But st.bare s c → But st (bk st s) c := fun s c k => ⟨k.nx, rfl, k.keep⟩
  have hS0 : bk st st.bare = st := rfl
  have hnx0 : st.bare.nx = st.nx := rfl
  have hfr0 : st.bare.fr = [] := rfl
  generalize st.bare = s0 at *
  simp (disch := first | decide | assumption | omega | (simp only [nx_nw, nx_wr, nx_ap, nx_bare]; first | done | omega) | (simp (disch := first | assumption | omega | (simp only [nx_nw, nx_wr, nx_ap, nx_bare]; first | done | omega)) only [rRu, List.length_cons, List.length_nil]; first | done | omega | decide)) only [Nat.reduceAdd, Nat.reduceSub, Nat.reduceMul, Nat.zero_add, a_new, a_box, a_st, a_ldA, rats_nwE, rats_nwO, rats_wr, rats_wrO, upd_nil, upd_00, upd_0, upd_S, upd_e, nx_nw, nx_wr, nx_ap, nx_bare, h_bare, len_nwE, len_nwO, len_wr, at_nwE, at_nwO, at_wr, at_wrB, at_wrA, at_wrO, cells_agg, cells_int, cells_str, cells_bool, cells_slice, cells_nils, cells_ptr, a_build0, a_buildc, a_bS, a_bS0, a_bSc, rep_0, rep_S, i_buildP, i_buildSP, r_ps0, r_ps1, i_fnA, i_slS1, i_slS2, i_slS3, v_idxS0, v_iface, r_resA, r_dops, r_dnil, r_dcons0, r_dcons1, h_0, h_1, h_rw, h_wr, h_n1, h_n2, lg_0, lg_S, te_0, te_1, te_2, vl_c, vl_l, vl_ls, vl_g, vl_gs, true_and, and_true, and_self, List.getD_cons_zero, List.getD_cons_succ, rRd, rRe, rRf, Bool.not_true, Bool.not_false, List.cons_append, List.nil_append, List.append_nil]
  refine index80_ok hb hl _ hk hT _ fun n s1 k1 hn => ?_
  have := hK _ (hE _ k1)
  by_cases h : (0 : Int) ≤ n
  · rw [hn.1 h] at this
    simp (disch := first | decide | assumption | omega | (simp only [nx_nw, nx_wr, nx_ap, nx_bare]; first | done | omega) | (simp (disch := first | assumption | omega | (simp only [nx_nw, nx_wr, nx_ap, nx_bare]; first | done | omega)) only [rRu, List.length_cons, List.length_nil]; first | done | omega | decide)) only [Nat.reduceAdd, Nat.reduceSub, Nat.reduceMul, Nat.zero_add, a_new, a_box, a_st, a_ldA, rats_nwE, rats_nwO, rats_wr, rats_wrO, upd_nil, upd_00, upd_0, upd_S, upd_e, nx_nw, nx_wr, nx_ap, nx_bare, h_bare, len_nwE, len_nwO, len_wr, at_nwE, at_nwO, at_wr, at_wrB, at_wrA, at_wrO, cells_agg, cells_int, cells_str, cells_bool, cells_slice, cells_nils, cells_ptr, a_build0, a_buildc, a_bS, a_bS0, a_bSc, rep_0, rep_S, i_buildP, i_buildSP, r_ps0, r_ps1, i_fnA, i_slS1, i_slS2, i_slS3, v_idxS0, v_iface, r_resA, r_dops, r_dnil, r_dcons0, r_dcons1, h_0, h_1, h_rw, h_wr, h_n1, h_n2, lg_0, lg_S, te_0, te_1, te_2, vl_c, vl_l, vl_ls, vl_g, vl_gs, true_and, and_true, and_self, List.getD_cons_zero, List.getD_cons_succ, rRd, rRe, rRf, Bool.not_true, Bool.not_false, List.cons_append, List.nil_append, List.append_nil]
    exact this
  · have hf : ks.any p = false := by
      cases hq : ks.any p
      · rfl
      · exact absurd (hn.2 hq) h
    have h' : n < (0 : Int) := by omega
    rw [hf] at this
    simp (disch := first | decide | assumption | omega | (simp only [nx_nw, nx_wr, nx_ap, nx_bare]; first | done | omega) | (simp (disch := first | assumption | omega | (simp only [nx_nw, nx_wr, nx_ap, nx_bare]; first | done | omega)) only [rRu, List.length_cons, List.length_nil]; first | done | omega | decide)) only [Nat.reduceAdd, Nat.reduceSub, Nat.reduceMul, Nat.zero_add, a_new, a_box, a_st, a_ldA, rats_nwE, rats_nwO, rats_wr, rats_wrO, upd_nil, upd_00, upd_0, upd_S, upd_e, nx_nw, nx_wr, nx_ap, nx_bare, h_bare, len_nwE, len_nwO, len_wr, at_nwE, at_nwO, at_wr, at_wrB, at_wrA, at_wrO, cells_agg, cells_int, cells_str, cells_bool, cells_slice, cells_nils, cells_ptr, a_build0, a_buildc, a_bS, a_bS0, a_bSc, rep_0, rep_S, i_buildP, i_buildSP, r_ps0, r_ps1, i_fnA, i_slS1, i_slS2, i_slS3, v_idxS0, v_iface, r_resA, r_dops, r_dnil, r_dcons0, r_dcons1, h_0, h_1, h_rw, h_wr, h_n1, h_n2, lg_0, lg_S, te_0, te_1, te_2, vl_c, vl_l, vl_ls, vl_g, vl_gs, true_and, and_true, and_self, List.getD_cons_zero, List.getD_cons_succ, rRd, rRe, rRf, Bool.not_true, Bool.not_false, List.cons_append, List.nil_append, List.append_nil]
    exact this
theorem ty23a : Go.Ev.isAgg Tryd.prog 23 = some false := by kernel_rfl
theorem ty23s : Go.Ev.sizeOf Tryd.prog 23 = some 1 := by kernel_rfl
theorem exC_get (op num : Int) (name : List Nat) (k : AV) (l c : Int) : (exC op num name k l c).getD 0 .bad = .int .i64 op ∧ (exC op num name k l c).getD 1 .bad = .int .i64 num ∧ (exC op num name k l c).getD 2 .bad = .str name ∧ (exC op num name k l c).getD 3 .bad = k ∧ (exC op num name k l c).getD 4 .bad = .int .i64 l ∧ (exC op num name k l c).getD 5 .bad = .int .i64 c ∧ (exC op num name k l c).length = 6 := ⟨rfl, rfl, rfl, rfl, rfl, rfl, rfl⟩
theorem KsV.eqs {s : St} {k : AV} {ks : List Ex} (h : KsV s k ks) : eqs k = true ∧ k.cell = true := by
  rcases h with ⟨rfl, _⟩ | ⟨_, _, _, _, rfl, _⟩ <;> exact ⟨rfl, rfl⟩
theorem KsV.lenV {s : St} {k : AV} {ks : List Ex} (h : KsV s k ks) (s' : St) (K : AV → St → Prop) : onER (Go.Sy.lenV k s') K = K (.int .i64 (ks.length : Int)) s' := by
  rcases h with ⟨rfl, rfl⟩ | ⟨_, _, _, _, rfl, _⟩
  · exact v_len0
  · exact v_len ..
theorem right_ok (hb : NB base) : ∀ (d : Nat) (hd : d ≤ 60) (x : Ex) (hw : x.wf) (cs : List AV) (st : St) (K : AV → St → Prop) (h : ExR st cs x) (hK : ∀ s1, Kept st s1 → K (.bool (rightB d x)) s1), CB Tryd.prog base 50 [.agg cs, .int .i64 (d : Int)] st K := by
  intro d
  induction d with
  | zero =>
    intro hd x hw cs st K h hK
    refine fn_ruleB l50 (hb.at _ (by decide) _ _) ?_
    simp only [c50, entry, List.map_cons, List.map_nil, List.getD_cons_zero, List.getD_cons_succ]
    unfold b50
    have h := h.bare
    have hE : ∀ s, Kept st.bare s → Kept st (bk st s) := fun s k => ⟨k.nx, rfl, k.keep⟩
    have hB : ∀ s c, But st.bare s c → But st (bk st s) c := fun s c k => ⟨k.nx, rfl, k.keep⟩
    have hS0 : bk st st.bare = st := rfl
    have hnx0 : st.bare.nx = st.nx := rfl
    have hfr0 : st.bare.fr = [] := rfl
    generalize st.bare = s0 at *
    obtain ⟨op, num, name, ks, l, c⟩ := x
    have hlen := h.len
    have hlal := h.lall
    obtain ⟨k, rfl, hk⟩ := h
    obtain ⟨g0, g1, g2, g3, g4, g5, g6⟩ := exC_get op num name k l c
    generalize exC op num name k l c = cs at *
    have d0 : ((0 : Nat) : Int) < 1 := by decide
    have hE1 := hE _ (((Kept.refl s0).nw cs).nw [.int .i64 ((0 : Nat) : Int)])
    have := hK _ hE1
    have e : rightB 0 (.mk op num name ks l c) = false := rfl
    rw [e] at this
    by_cases q1 : op < 1 <;> by_cases q2 : (31 : Int) ≤ op <;> (try (exfalso; omega)) <;>
      (simp (disch := first | decide | assumption | omega | (simp only [nx_nw, nx_wr, nx_ap, nx_bare]; first | done | omega) | (simp (disch := first | assumption | omega | (simp only [nx_nw, nx_wr, nx_ap, nx_bare]; first | done | omega)) only [hlal, g6, rRu, List.length_cons, List.length_nil]; first | done | omega | decide)) only [g0, g1, g2, g3, hlal, g6, Nat.reduceAdd, Nat.reduceSub, Nat.reduceMul, Nat.zero_add, a_new, a_box, a_st, a_ldA, rats_nwE, rats_nwO, rats_wr, rats_wrO, upd_nil, upd_00, upd_0, upd_S, upd_e, nx_nw, nx_wr, nx_ap, nx_bare, h_bare, len_nwE, len_nwO, len_wr, at_nwE, at_nwO, at_wr, at_wrB, at_wrA, at_wrO, cells_agg, cells_int, cells_str, cells_bool, cells_slice, cells_nils, cells_ptr, a_build0, a_buildc, a_bS, a_bS0, a_bSc, rep_0, rep_S, i_buildP, i_buildSP, r_ps0, r_ps1, i_fnA, i_slS1, i_slS2, i_slS3, v_idxS0, v_iface, r_resA, r_dops, r_dnil, r_dcons0, r_dcons1, h_0, h_1, h_rw, h_wr, h_n1, h_n2, lg_0, lg_S, te_0, te_1, te_2, vl_c, vl_l, vl_ls, vl_g, vl_gs, true_and, and_true, and_self, List.getD_cons_zero, List.getD_cons_succ, rRd, rRe, rRf, Bool.not_true, Bool.not_false, List.cons_append, List.nil_append, List.append_nil]
       exact this)
  | succ d ih =>
    intro hd x hw cs st K h hK
    refine fn_ruleB l50 (hb.at _ (by decide) _ _) ?_
    simp only [c50, entry, List.map_cons, List.map_nil, List.getD_cons_zero, List.getD_cons_succ]
    unfold b50
    have h := h.bare
    have hE : ∀ s, Kept st.bare s → Kept st (bk st s) := fun s k => ⟨k.nx, rfl, k.keep⟩
    have hB : ∀ s c, But st.bare s c → But st (bk st s) c := fun s c k => ⟨k.nx, rfl, k.keep⟩
    have hS0 : bk st st.bare = st := rfl
    have hnx0 : st.bare.nx = st.nx := rfl
    have hfr0 : st.bare.fr = [] := rfl
    generalize st.bare = s0 at *
    obtain ⟨op, num, name, ks, l, c⟩ := x
    have hlen := h.len
    have hlal := h.lall
    obtain ⟨k, rfl, hk⟩ := h
    have hkv : KsV s0 k ks := hk
    clear hk
    have hke := hkv.eqs
    have eL := hkv.lenV
    obtain ⟨g0, g1, g2, g3, g4, g5, g6⟩ := exC_get op num name k l c
    have hleaf := fun (s : St) (K : AV → St → Prop) (hK : ∀ s1, Kept s s1 → K (.bool (leafB (.mk op num name ks l c))) s1) => leaf_ok hb (ks := ks) hw.1 hke.2 s K hK
    generalize exC op num name k l c = cs at *
    have d0 : ¬ ((d + 1 : Nat) : Int) < 1 := by omega
    have e : rightB (d + 1) (.mk op num name ks l c) = (decide (1 ≤ op) && decide (op < 31) && decide (ks.length = kidsN op) && leafB (.mk op num name ks l c) && ks.all (rightB d)) := rfl
    have hE1 := hE _ (((Kept.refl s0).nw cs).nw [.int .i64 ((d + 1 : Nat) : Int)])
    have hs1 : sameAt Tryd.prog 23 (.ptr s0.nx 3) k (nw (nw s0 cs) [.int .i64 ((d + 1 : Nat) : Int)]).h = true := same_1 ty23a ty23s (by (simp (disch := first | decide | assumption | omega | (simp only [nx_nw, nx_wr, nx_ap, nx_bare]; first | done | omega) | (simp (disch := first | assumption | omega | (simp only [nx_nw, nx_wr, nx_ap, nx_bare]; first | done | omega)) only [g6, rRu, List.length_cons, List.length_nil]; first | done | omega | decide)) only [g6, Nat.reduceAdd, Nat.reduceSub, Nat.reduceMul, Nat.zero_add, a_new, a_box, a_st, a_ldA, rats_nwE, rats_nwO, rats_wr, rats_wrO, upd_nil, upd_00, upd_0, upd_S, upd_e, nx_nw, nx_wr, nx_ap, nx_bare, h_bare, len_nwE, len_nwO, len_wr, at_nwE, at_nwO, at_wr, at_wrB, at_wrA, at_wrO, cells_agg, cells_int, cells_str, cells_bool, cells_slice, cells_nils, cells_ptr, a_build0, a_buildc, a_bS, a_bS0, a_bSc, rep_0, rep_S, i_buildP, i_buildSP, r_ps0, r_ps1, i_fnA, i_slS1, i_slS2, i_slS3, v_idxS0, v_iface, r_resA, r_dops, r_dnil, r_dcons0, r_dcons1, h_0, h_1, h_rw, h_wr, h_n1, h_n2, lg_0, lg_S, te_0, te_1, te_2, vl_c, vl_l, vl_ls, vl_g, vl_gs, true_and, and_true, and_self, List.getD_cons_zero, List.getD_cons_succ] <;> first | done | omega | rfl)) (by (simp (disch := first | decide | assumption | omega | (simp only [nx_nw, nx_wr, nx_ap, nx_bare]; first | done | omega) | (simp (disch := first | assumption | omega | (simp only [nx_nw, nx_wr, nx_ap, nx_bare]; first | done | omega)) only [g6, rRu, List.length_cons, List.length_nil]; first | done | omega | decide)) only [g3, g6, Nat.reduceAdd, Nat.reduceSub, Nat.reduceMul, Nat.zero_add, a_new, a_box, a_st, a_ldA, rats_nwE, rats_nwO, rats_wr, rats_wrO, upd_nil, upd_00, upd_0, upd_S, upd_e, nx_nw, nx_wr, nx_ap, nx_bare, h_bare, len_nwE, len_nwO, len_wr, at_nwE, at_nwO, at_wr, at_wrB, at_wrA, at_wrO, cells_agg, cells_int, cells_str, cells_bool, cells_slice, cells_nils, cells_ptr, a_build0, a_buildc, a_bS, a_bS0, a_bSc, rep_0, rep_S, i_buildP, i_buildSP, r_ps0, r_ps1, i_fnA, i_slS1, i_slS2, i_slS3, v_idxS0, v_iface, r_resA, r_dops, r_dnil, r_dcons0, r_dcons1, h_0, h_1, h_rw, h_wr, h_n1, h_n2, lg_0, lg_S, te_0, te_1, te_2, vl_c, vl_l, vl_ls, vl_g, vl_gs, true_and, and_true, and_self, List.getD_cons_zero, List.getD_cons_succ] <;> first | done | omega | rfl)) hke.1
    rw [e] at hK
    by_cases q1 : op < 1
    · have := hK _ hE1
      have q1' : ¬ 1 ≤ op := by omega
      simp only [q1', decide_true, decide_false, Bool.and_true, Bool.true_and, Bool.and_false, Bool.false_and, Bool.or_true, Bool.true_or, Bool.or_false, Bool.false_or, Bool.and_self, Bool.or_self, Bool.not_true, Bool.not_false, eq_self, not_true, not_false_eq_true, ne_eq] at this
      simp (disch := first | decide | assumption | omega | (simp only [nx_nw, nx_wr, nx_ap, nx_bare]; first | done | omega) | (simp (disch := first | assumption | omega | (simp only [nx_nw, nx_wr, nx_ap, nx_bare]; first | done | omega)) only [hlal, g6, rRu, List.length_cons, List.length_nil]; first | done | omega | decide)) only [g0, g1, g2, g3, hlal, g6, Nat.reduceAdd, Nat.reduceSub, Nat.reduceMul, Nat.zero_add, a_new, a_box, a_st, a_ldA, rats_nwE, rats_nwO, rats_wr, rats_wrO, upd_nil, upd_00, upd_0, upd_S, upd_e, nx_nw, nx_wr, nx_ap, nx_bare, h_bare, len_nwE, len_nwO, len_wr, at_nwE, at_nwO, at_wr, at_wrB, at_wrA, at_wrO, cells_agg, cells_int, cells_str, cells_bool, cells_slice, cells_nils, cells_ptr, a_build0, a_buildc, a_bS, a_bS0, a_bSc, rep_0, rep_S, i_buildP, i_buildSP, r_ps0, r_ps1, i_fnA, i_slS1, i_slS2, i_slS3, v_idxS0, v_iface, r_resA, r_dops, r_dnil, r_dcons0, r_dcons1, h_0, h_1, h_rw, h_wr, h_n1, h_n2, lg_0, lg_S, te_0, te_1, te_2, vl_c, vl_l, vl_ls, vl_g, vl_gs, true_and, and_true, and_self, List.getD_cons_zero, List.getD_cons_succ, rRd, rRe, rRf, Bool.not_true, Bool.not_false, List.cons_append, List.nil_append, List.append_nil]
      exact this
    have q1' : 1 ≤ op := by omega
    by_cases q2 : (31 : Int) ≤ op
    · have := hK _ hE1
      have q2' : ¬ op < 31 := by omega
      simp only [q1', q2', decide_true, decide_false, Bool.and_true, Bool.true_and, Bool.and_false, Bool.false_and, Bool.or_true, Bool.true_or, Bool.or_false, Bool.false_or, Bool.and_self, Bool.or_self, Bool.not_true, Bool.not_false, eq_self, not_true, not_false_eq_true, ne_eq] at this
      simp (disch := first | decide | assumption | omega | (simp only [nx_nw, nx_wr, nx_ap, nx_bare]; first | done | omega) | (simp (disch := first | assumption | omega | (simp only [nx_nw, nx_wr, nx_ap, nx_bare]; first | done | omega)) only [hlal, g6, rRu, List.length_cons, List.length_nil]; first | done | omega | decide)) only [g0, g1, g2, g3, hlal, g6, Nat.reduceAdd, Nat.reduceSub, Nat.reduceMul, Nat.zero_add, a_new, a_box, a_st, a_ldA, rats_nwE, rats_nwO, rats_wr, rats_wrO, upd_nil, upd_00, upd_0, upd_S, upd_e, nx_nw, nx_wr, nx_ap, nx_bare, h_bare, len_nwE, len_nwO, len_wr, at_nwE, at_nwO, at_wr, at_wrB, at_wrA, at_wrO, cells_agg, cells_int, cells_str, cells_bool, cells_slice, cells_nils, cells_ptr, a_build0, a_buildc, a_bS, a_bS0, a_bSc, rep_0, rep_S, i_buildP, i_buildSP, r_ps0, r_ps1, i_fnA, i_slS1, i_slS2, i_slS3, v_idxS0, v_iface, r_resA, r_dops, r_dnil, r_dcons0, r_dcons1, h_0, h_1, h_rw, h_wr, h_n1, h_n2, lg_0, lg_S, te_0, te_1, te_2, vl_c, vl_l, vl_ls, vl_g, vl_gs, true_and, and_true, and_self, List.getD_cons_zero, List.getD_cons_succ, rRd, rRe, rRf, Bool.not_true, Bool.not_false, List.cons_append, List.nil_append, List.append_nil]
      exact this
    have q2' : op < 31 := by omega
    simp (disch := first | decide | assumption | omega | (simp only [nx_nw, nx_wr, nx_ap, nx_bare]; first | done | omega) | (simp (disch := first | assumption | omega | (simp only [nx_nw, nx_wr, nx_ap, nx_bare]; first | done | omega)) only [hlal, g6, rRu, List.length_cons, List.length_nil]; first | done | omega | decide)) only [g0, g1, g2, g3, eL, hlal, g6, Nat.reduceAdd, Nat.reduceSub, Nat.reduceMul, Nat.zero_add, a_new, a_box, a_st, a_ldA, rats_nwE, rats_nwO, rats_wr, rats_wrO, upd_nil, upd_00, upd_0, upd_S, upd_e, nx_nw, nx_wr, nx_ap, nx_bare, h_bare, len_nwE, len_nwO, len_wr, at_nwE, at_nwO, at_wr, at_wrB, at_wrA, at_wrO, cells_agg, cells_int, cells_str, cells_bool, cells_slice, cells_nils, cells_ptr, a_build0, a_buildc, a_bS, a_bS0, a_bSc, rep_0, rep_S, i_buildP, i_buildSP, r_ps0, r_ps1, i_fnA, i_slS1, i_slS2, i_slS3, v_idxS0, v_iface, r_resA, r_dops, r_dnil, r_dcons0, r_dcons1, h_0, h_1, h_rw, h_wr, h_n1, h_n2, lg_0, lg_S, te_0, te_1, te_2, vl_c, vl_l, vl_ls, vl_g, vl_gs, true_and, and_true, and_self, List.getD_cons_zero, List.getD_cons_succ, rRd, rRe, rRf, Bool.not_true, Bool.not_false, List.cons_append, List.nil_append, List.append_nil]
    refine kids_ok hb op _ _ ?_
    simp (disch := first | decide | assumption | omega | (simp only [nx_nw, nx_wr, nx_ap, nx_bare]; first | done | omega) | (simp (disch := first | assumption | omega | (simp only [nx_nw, nx_wr, nx_ap, nx_bare]; first | done | omega)) only [rRu, List.length_cons, List.length_nil]; first | done | omega | decide)) only [hs1, Nat.reduceAdd, Nat.reduceSub, Nat.reduceMul, Nat.zero_add, a_new, a_box, a_st, a_ldA, rats_nwE, rats_nwO, rats_wr, rats_wrO, upd_nil, upd_00, upd_0, upd_S, upd_e, nx_nw, nx_wr, nx_ap, nx_bare, h_bare, len_nwE, len_nwO, len_wr, at_nwE, at_nwO, at_wr, at_wrB, at_wrA, at_wrO, cells_agg, cells_int, cells_str, cells_bool, cells_slice, cells_nils, cells_ptr, a_build0, a_buildc, a_bS, a_bS0, a_bSc, rep_0, rep_S, i_buildP, i_buildSP, r_ps0, r_ps1, i_fnA, i_slS1, i_slS2, i_slS3, v_idxS0, v_iface, r_resA, r_dops, r_dnil, r_dcons0, r_dcons1, h_0, h_1, h_rw, h_wr, h_n1, h_n2, lg_0, lg_S, te_0, te_1, te_2, vl_c, vl_l, vl_ls, vl_g, vl_gs, true_and, and_true, and_self, List.getD_cons_zero, List.getD_cons_succ, rRd, rRe, rRf, Bool.not_true, Bool.not_false, List.cons_append, List.nil_append, List.append_nil]
    by_cases q3 : ks.length = kidsN op
    · have q3' : (ks.length : Int) = (kidsN op : Int) := by omega
      simp (disch := first | decide | assumption | omega | (simp only [nx_nw, nx_wr, nx_ap, nx_bare]; first | done | omega) | (simp (disch := first | assumption | omega | (simp only [nx_nw, nx_wr, nx_ap, nx_bare]; first | done | omega)) only [hlal, g6, rRu, List.length_cons, List.length_nil]; first | done | omega | decide)) only [g0, g1, g2, g3, eL, hlal, g6, Nat.reduceAdd, Nat.reduceSub, Nat.reduceMul, Nat.zero_add, a_new, a_box, a_st, a_ldA, rats_nwE, rats_nwO, rats_wr, rats_wrO, upd_nil, upd_00, upd_0, upd_S, upd_e, nx_nw, nx_wr, nx_ap, nx_bare, h_bare, len_nwE, len_nwO, len_wr, at_nwE, at_nwO, at_wr, at_wrB, at_wrA, at_wrO, cells_agg, cells_int, cells_str, cells_bool, cells_slice, cells_nils, cells_ptr, a_build0, a_buildc, a_bS, a_bS0, a_bSc, rep_0, rep_S, i_buildP, i_buildSP, r_ps0, r_ps1, i_fnA, i_slS1, i_slS2, i_slS3, v_idxS0, v_iface, r_resA, r_dops, r_dnil, r_dcons0, r_dcons1, h_0, h_1, h_rw, h_wr, h_n1, h_n2, lg_0, lg_S, te_0, te_1, te_2, vl_c, vl_l, vl_ls, vl_g, vl_gs, true_and, and_true, and_self, List.getD_cons_zero, List.getD_cons_succ, rRd, rRe, rRf, Bool.not_true, Bool.not_false, List.cons_append, List.nil_append, List.append_nil]
      have C0 : Cl (nw (nw s0 cs) [.int .i64 ((d + 1 : Nat) : Int)]) s0.nx cs := (Cl.new s0 cs).nw _
      have C1 : Cl (nw (nw s0 cs) [.int .i64 ((d + 1 : Nat) : Int)]) (s0.nx + 1) [.int .i64 ((d + 1 : Nat) : Int)] := Cl.new (nw s0 cs) _
      have k0 : Kept s0 (nw (nw s0 cs) [.int .i64 ((d + 1 : Nat) : Int)]) := ((Kept.refl s0).nw cs).nw _
      generalize nw (nw s0 cs) [.int .i64 ((d + 1 : Nat) : Int)] = u at *
      generalize s0.nx = xb at *
      refine hleaf _ _ fun s1 k1 => ?_
      have C0 := C0.kept k1
      have C1 := C1.kept k1
      have hk1 := hkv.kept (k0.trans k1)
      have k01 := k0.trans k1
      have hE2 := hE _ k01
      have R3 : rat s1.h xb 3 = k := by rw [C0.cell 3 (by omega), g3]
      clear hs1 hE1 k0 k1 hleaf
      cases hl : leafB (.mk op num name ks l c) with
      | false =>
        have := hK _ hE2
        rw [hl] at this
        simp only [q1', decide_true, decide_false, Bool.and_true, Bool.true_and, Bool.and_false, Bool.false_and, Bool.or_true, Bool.true_or, Bool.or_false, Bool.false_or, Bool.and_self, Bool.or_self, Bool.not_true, Bool.not_false, eq_self, not_true, not_false_eq_true, ne_eq] at this
        simp (disch := first | decide | assumption | omega | (simp only [nx_nw, nx_wr, nx_ap, nx_bare]; first | done | omega) | (simp (disch := first | assumption | omega | (simp only [nx_nw, nx_wr, nx_ap, nx_bare]; first | done | omega)) only [rRu, List.length_cons, List.length_nil]; first | done | omega | decide)) only [Nat.reduceAdd, Nat.reduceSub, Nat.reduceMul, Nat.zero_add, a_new, a_box, a_st, a_ldA, rats_nwE, rats_nwO, rats_wr, rats_wrO, upd_nil, upd_00, upd_0, upd_S, upd_e, nx_nw, nx_wr, nx_ap, nx_bare, h_bare, len_nwE, len_nwO, len_wr, at_nwE, at_nwO, at_wr, at_wrB, at_wrA, at_wrO, cells_agg, cells_int, cells_str, cells_bool, cells_slice, cells_nils, cells_ptr, a_build0, a_buildc, a_bS, a_bS0, a_bSc, rep_0, rep_S, i_buildP, i_buildSP, r_ps0, r_ps1, i_fnA, i_slS1, i_slS2, i_slS3, v_idxS0, v_iface, r_resA, r_dops, r_dnil, r_dcons0, r_dcons1, h_0, h_1, h_rw, h_wr, h_n1, h_n2, lg_0, lg_S, te_0, te_1, te_2, vl_c, vl_l, vl_ls, vl_g, vl_gs, true_and, and_true, and_self, List.getD_cons_zero, List.getD_cons_succ, rRd, rRe, rRf, Bool.not_true, Bool.not_false, List.cons_append, List.nil_append, List.append_nil]
        exact this
      | true =>
        simp (disch := first | decide | assumption | omega | (simp only [nx_nw, nx_wr, nx_ap, nx_bare]; first | done | omega) | (simp (disch := first | assumption | omega | (simp only [nx_nw, nx_wr, nx_ap, nx_bare]; first | done | omega)) only [C0.len, g6, rRu, List.length_cons, List.length_nil]; first | done | omega | decide)) only [R3, C0.len, g6, Nat.reduceAdd, Nat.reduceSub, Nat.reduceMul, Nat.zero_add, a_new, a_box, a_st, a_ldA, rats_nwE, rats_nwO, rats_wr, rats_wrO, upd_nil, upd_00, upd_0, upd_S, upd_e, nx_nw, nx_wr, nx_ap, nx_bare, h_bare, len_nwE, len_nwO, len_wr, at_nwE, at_nwO, at_wr, at_wrB, at_wrA, at_wrO, cells_agg, cells_int, cells_str, cells_bool, cells_slice, cells_nils, cells_ptr, a_build0, a_buildc, a_bS, a_bS0, a_bSc, rep_0, rep_S, i_buildP, i_buildSP, r_ps0, r_ps1, i_fnA, i_slS1, i_slS2, i_slS3, v_idxS0, v_iface, r_resA, r_dops, r_dnil, r_dcons0, r_dcons1, h_0, h_1, h_rw, h_wr, h_n1, h_n2, lg_0, lg_S, te_0, te_1, te_2, vl_c, vl_l, vl_ls, vl_g, vl_gs, true_and, and_true, and_self, List.getD_cons_zero, List.getD_cons_succ, rRd, rRe, rRf, Bool.not_true, Bool.not_false, List.cons_append, List.nil_append, List.append_nil]
        have hTell : TellE base s1 69 [.ptr (xb + 1) 0] ks fun x => !rightB d x := by
          intro x hx cs' s K kp hx2 hK
          have Cd : Cl s (xb + 1) [.int .i64 ((d + 1 : Nat) : Int)] := C1.keep kp.nx (kp.keep _ C1.lt)
          clear C0 C1 R3 hk1 hE2 hE hB hS0 hfr0
          refine fn_ruleB l69 (hb.at _ (by decide) _ _) ?_
          simp only [c69, entry, List.map_cons, List.map_nil, List.getD_cons_zero, List.getD_cons_succ]
          unfold b69
          generalize hs : s.bare = s0
          have Cd : Cl s0 (xb + 1) [.int .i64 ((d + 1 : Nat) : Int)] := by rw [← hs]; exact Cd.bare
          have hx2 : ExR s0 cs' x := by rw [← hs]; exact hx2.bare
          have hl6 := hx2.len
          have hll := hx2.lall
          have Ld := Cd.lt
          have Rd : rat s0.h (xb + 1) 0 = .int .i64 ((d + 1 : Nat) : Int) := Cd.cell 0 (Nat.zero_lt_one)
          have sb : ∀ (s : St) (K : AV → St → Prop), onER (binV .sub (.int .i64 ((d + 1 : Nat) : Int)) (.int .i64 1) s) K = K (.int .i64 (d : Int)) s := fun s K => by
            rw [v_sub (by omega) (by omega), show ((d + 1 : Nat) : Int) - 1 = (d : Int) by omega]
          simp (disch := first | decide | assumption | omega | (simp only [nx_nw, nx_wr, nx_ap, nx_bare]; first | done | omega) | (simp (disch := first | assumption | omega | (simp only [nx_nw, nx_wr, nx_ap, nx_bare]; first | done | omega)) only [hll, hl6, Cd.len, rRu, List.length_cons, List.length_nil]; first | done | omega | decide)) only [Rd, sb, hll, hl6, Cd.len, Nat.reduceAdd, Nat.reduceSub, Nat.reduceMul, Nat.zero_add, a_new, a_box, a_st, a_ldA, rats_nwE, rats_nwO, rats_wr, rats_wrO, upd_nil, upd_00, upd_0, upd_S, upd_e, nx_nw, nx_wr, nx_ap, nx_bare, h_bare, len_nwE, len_nwO, len_wr, at_nwE, at_nwO, at_wr, at_wrB, at_wrA, at_wrO, cells_agg, cells_int, cells_str, cells_bool, cells_slice, cells_nils, cells_ptr, a_build0, a_buildc, a_bS, a_bS0, a_bSc, rep_0, rep_S, i_buildP, i_buildSP, r_ps0, r_ps1, i_fnA, i_slS1, i_slS2, i_slS3, v_idxS0, v_iface, r_resA, r_dops, r_dnil, r_dcons0, r_dcons1, h_0, h_1, h_rw, h_wr, h_n1, h_n2, lg_0, lg_S, te_0, te_1, te_2, vl_c, vl_l, vl_ls, vl_g, vl_gs, true_and, and_true, and_self, List.getD_cons_zero, List.getD_cons_succ, rRd, rRe, rRf, Bool.not_true, Bool.not_false, List.cons_append, List.nil_append, List.append_nil]
          refine ih (by omega) x (wfs_mem hw.2 hx) cs' _ _ (hx2.kept ((Kept.refl _).nw _)) fun s2 k2 => ?_
          have := hK (bk s s2) ⟨by have h1 := k2.nx; rw [nx_nw, ← hs] at h1; exact Nat.le_trans (Nat.le_succ _) h1, rfl, fun b hb' => by
            have h1 := (((Kept.refl s0).nw cs').trans k2).keep b (by rw [← hs]; exact hb')
            rw [← hs] at h1; exact h1⟩
          simp (disch := first | decide | assumption | omega | (simp only [nx_nw, nx_wr, nx_ap, nx_bare]; first | done | omega) | (simp (disch := first | assumption | omega | (simp only [nx_nw, nx_wr, nx_ap, nx_bare]; first | done | omega)) only [rRu, List.length_cons, List.length_nil]; first | done | omega | decide)) only [Nat.reduceAdd, Nat.reduceSub, Nat.reduceMul, Nat.zero_add, a_new, a_box, a_st, a_ldA, rats_nwE, rats_nwO, rats_wr, rats_wrO, upd_nil, upd_00, upd_0, upd_S, upd_e, nx_nw, nx_wr, nx_ap, nx_bare, h_bare, len_nwE, len_nwO, len_wr, at_nwE, at_nwO, at_wr, at_wrB, at_wrA, at_wrO, cells_agg, cells_int, cells_str, cells_bool, cells_slice, cells_nils, cells_ptr, a_build0, a_buildc, a_bS, a_bS0, a_bSc, rep_0, rep_S, i_buildP, i_buildSP, r_ps0, r_ps1, i_fnA, i_slS1, i_slS2, i_slS3, v_idxS0, v_iface, r_resA, r_dops, r_dnil, r_dcons0, r_dcons1, h_0, h_1, h_rw, h_wr, h_n1, h_n2, lg_0, lg_S, te_0, te_1, te_2, vl_c, vl_l, vl_ls, vl_g, vl_gs, true_and, and_true, and_self, List.getD_cons_zero, List.getD_cons_succ, rRd, rRe, rRf, Bool.not_true, Bool.not_false, List.cons_append, List.nil_append, List.append_nil]
          exact this
        refine contains68_ok hb (by unfold kidsN at q3; split at q3 <;> (try split at q3) <;> omega) s1 hk1 hTell _ fun s2 k2 => ?_
        have := hK _ (hE _ (k01.trans k2))
        have ea : ks.all (rightB d) = !(ks.any fun x => !rightB d x) := by
          rw [List.not_any_eq_all_not]; simp
        rw [hl, ea] at this
        simp only [q1', q2', q3, decide_true, decide_false, Bool.and_true, Bool.true_and, Bool.and_false, Bool.false_and, Bool.or_true, Bool.true_or, Bool.or_false, Bool.false_or, Bool.and_self, Bool.or_self, Bool.not_true, Bool.not_false, eq_self, not_true, not_false_eq_true, ne_eq] at this
        cases hq : ks.any fun x => !rightB d x with
        | true =>
          rw [hq] at this
          simp (disch := first | decide | assumption | omega | (simp only [nx_nw, nx_wr, nx_ap, nx_bare]; first | done | omega) | (simp (disch := first | assumption | omega | (simp only [nx_nw, nx_wr, nx_ap, nx_bare]; first | done | omega)) only [rRu, List.length_cons, List.length_nil]; first | done | omega | decide)) only [Nat.reduceAdd, Nat.reduceSub, Nat.reduceMul, Nat.zero_add, a_new, a_box, a_st, a_ldA, rats_nwE, rats_nwO, rats_wr, rats_wrO, upd_nil, upd_00, upd_0, upd_S, upd_e, nx_nw, nx_wr, nx_ap, nx_bare, h_bare, len_nwE, len_nwO, len_wr, at_nwE, at_nwO, at_wr, at_wrB, at_wrA, at_wrO, cells_agg, cells_int, cells_str, cells_bool, cells_slice, cells_nils, cells_ptr, a_build0, a_buildc, a_bS, a_bS0, a_bSc, rep_0, rep_S, i_buildP, i_buildSP, r_ps0, r_ps1, i_fnA, i_slS1, i_slS2, i_slS3, v_idxS0, v_iface, r_resA, r_dops, r_dnil, r_dcons0, r_dcons1, h_0, h_1, h_rw, h_wr, h_n1, h_n2, lg_0, lg_S, te_0, te_1, te_2, vl_c, vl_l, vl_ls, vl_g, vl_gs, true_and, and_true, and_self, List.getD_cons_zero, List.getD_cons_succ, rRd, rRe, rRf, Bool.not_true, Bool.not_false, List.cons_append, List.nil_append, List.append_nil]
          exact this
        | false =>
          rw [hq] at this
          simp (disch := first | decide | assumption | omega | (simp only [nx_nw, nx_wr, nx_ap, nx_bare]; first | done | omega) | (simp (disch := first | assumption | omega | (simp only [nx_nw, nx_wr, nx_ap, nx_bare]; first | done | omega)) only [rRu, List.length_cons, List.length_nil]; first | done | omega | decide)) only [Nat.reduceAdd, Nat.reduceSub, Nat.reduceMul, Nat.zero_add, a_new, a_box, a_st, a_ldA, rats_nwE, rats_nwO, rats_wr, rats_wrO, upd_nil, upd_00, upd_0, upd_S, upd_e, nx_nw, nx_wr, nx_ap, nx_bare, h_bare, len_nwE, len_nwO, len_wr, at_nwE, at_nwO, at_wr, at_wrB, at_wrA, at_wrO, cells_agg, cells_int, cells_str, cells_bool, cells_slice, cells_nils, cells_ptr, a_build0, a_buildc, a_bS, a_bS0, a_bSc, rep_0, rep_S, i_buildP, i_buildSP, r_ps0, r_ps1, i_fnA, i_slS1, i_slS2, i_slS3, v_idxS0, v_iface, r_resA, r_dops, r_dnil, r_dcons0, r_dcons1, h_0, h_1, h_rw, h_wr, h_n1, h_n2, lg_0, lg_S, te_0, te_1, te_2, vl_c, vl_l, vl_ls, vl_g, vl_gs, true_and, and_true, and_self, List.getD_cons_zero, List.getD_cons_succ, rRd, rRe, rRf, Bool.not_true, Bool.not_false, List.cons_append, List.nil_append, List.append_nil]
          exact this
    · have q3' : (ks.length : Int) ≠ (kidsN op : Int) := by omega
      have := hK _ hE1
      simp only [q1', q2', q3, decide_true, decide_false, Bool.and_true, Bool.true_and, Bool.and_false, Bool.false_and, Bool.or_true, Bool.true_or, Bool.or_false, Bool.false_or, Bool.and_self, Bool.or_self, Bool.not_true, Bool.not_false, eq_self, not_true, not_false_eq_true, ne_eq] at this
      simp (disch := first | decide | assumption | omega | (simp only [nx_nw, nx_wr, nx_ap, nx_bare]; first | done | omega) | (simp (disch := first | assumption | omega | (simp only [nx_nw, nx_wr, nx_ap, nx_bare]; first | done | omega)) only [hlal, g6, rRu, List.length_cons, List.length_nil]; first | done | omega | decide)) only [g0, g1, g2, g3, eL, hlal, g6, Nat.reduceAdd, Nat.reduceSub, Nat.reduceMul, Nat.zero_add, a_new, a_box, a_st, a_ldA, rats_nwE, rats_nwO, rats_wr, rats_wrO, upd_nil, upd_00, upd_0, upd_S, upd_e, nx_nw, nx_wr, nx_ap, nx_bare, h_bare, len_nwE, len_nwO, len_wr, at_nwE, at_nwO, at_wr, at_wrB, at_wrA, at_wrO, cells_agg, cells_int, cells_str, cells_bool, cells_slice, cells_nils, cells_ptr, a_build0, a_buildc, a_bS, a_bS0, a_bSc, rep_0, rep_S, i_buildP, i_buildSP, r_ps0, r_ps1, i_fnA, i_slS1, i_slS2, i_slS3, v_idxS0, v_iface, r_resA, r_dops, r_dnil, r_dcons0, r_dcons1, h_0, h_1, h_rw, h_wr, h_n1, h_n2, lg_0, lg_S, te_0, te_1, te_2, vl_c, vl_l, vl_ls, vl_g, vl_gs, true_and, and_true, and_self, List.getD_cons_zero, List.getD_cons_succ, rRd, rRe, rRf, Bool.not_true, Bool.not_false, List.cons_append, List.nil_append, List.append_nil]
      exact this
end Go.Sy
end

section
set_option maxRecDepth 100000
namespace Go.Sy
open Go.Ev Go.Proofs
variable {base : CallF}
theorem treeRight_ok (hb : NB base) (x : Ex) (hw : x.wf) (cs : List AV) (st : St) (K : AV → St → Prop) (h : ExR st cs x) (hK : ∀ s1, Kept st s1 → K (.bool (rightB 60 x)) s1) : CB Tryd.prog base 29 [.agg cs] st K := by
  refine fn_ruleB l29 (hb.at _ (by decide) _ _) ?_
  simp only [c29, entry, List.map_cons, List.map_nil, List.getD_cons_zero, List.getD_cons_succ]
  unfold b29
  have h := h.bare
  have hE : ∀ s, Kept st.bare s → Kept st (bk st s) := fun s k => ⟨k.nx, rfl, k.keep⟩
  have hB : ∀ s c, But st.bare s c → But st (bk st s) c := fun s c k => ⟨k.nx, rfl, k.keep⟩
  have hS0 : bk st st.bare = st := rfl
  have hnx0 : st.bare.nx = st.nx := rfl
  have hfr0 : st.bare.fr = [] := rfl
  generalize st.bare = s0 at *
  have hl6 := h.len
  have hll := h.lall
  simp (disch := first | decide | assumption | omega | (simp only [nx_nw, nx_wr, nx_ap, nx_bare]; first | done | omega) | (simp (disch := first | assumption | omega | (simp only [nx_nw, nx_wr, nx_ap, nx_bare]; first | done | omega)) only [hll, hl6, rRu, List.length_cons, List.length_nil]; first | done | omega | decide)) only [hll, hl6, Nat.reduceAdd, Nat.reduceSub, Nat.reduceMul, Nat.zero_add, a_new, a_box, a_st, a_ldA, rats_nwE, rats_nwO, rats_wr, rats_wrO, upd_nil, upd_00, upd_0, upd_S, upd_e, nx_nw, nx_wr, nx_ap, nx_bare, h_bare, len_nwE, len_nwO, len_wr, at_nwE, at_nwO, at_wr, at_wrB, at_wrA, at_wrO, cells_agg, cells_int, cells_str, cells_bool, cells_slice, cells_nils, cells_ptr, a_build0, a_buildc, a_bS, a_bS0, a_bSc, rep_0, rep_S, i_buildP, i_buildSP, r_ps0, r_ps1, i_fnA, i_slS1, i_slS2, i_slS3, v_idxS0, v_iface, r_resA, r_dops, r_dnil, r_dcons0, r_dcons1, h_0, h_1, h_rw, h_wr, h_n1, h_n2, lg_0, lg_S, te_0, te_1, te_2, vl_c, vl_l, vl_ls, vl_g, vl_gs, true_and, and_true, and_self, List.getD_cons_zero, List.getD_cons_succ, rRd, rRe, rRf, Bool.not_true, Bool.not_false, List.cons_append, List.nil_append, List.append_nil]
  refine right_ok hb 60 (by decide) x hw cs _ _ (h.kept ((Kept.refl _).nw _)) fun s1 k1 => ?_
  simp (disch := first | decide | assumption | omega | (simp only [nx_nw, nx_wr, nx_ap, nx_bare]; first | done | omega) | (simp (disch := first | assumption | omega | (simp only [nx_nw, nx_wr, nx_ap, nx_bare]; first | done | omega)) only [rRu, List.length_cons, List.length_nil]; first | done | omega | decide)) only [Nat.reduceAdd, Nat.reduceSub, Nat.reduceMul, Nat.zero_add, a_new, a_box, a_st, a_ldA, rats_nwE, rats_nwO, rats_wr, rats_wrO, upd_nil, upd_00, upd_0, upd_S, upd_e, nx_nw, nx_wr, nx_ap, nx_bare, h_bare, len_nwE, len_nwO, len_wr, at_nwE, at_nwO, at_wr, at_wrB, at_wrA, at_wrO, cells_agg, cells_int, cells_str, cells_bool, cells_slice, cells_nils, cells_ptr, a_build0, a_buildc, a_bS, a_bS0, a_bSc, rep_0, rep_S, i_buildP, i_buildSP, r_ps0, r_ps1, i_fnA, i_slS1, i_slS2, i_slS3, v_idxS0, v_iface, r_resA, r_dops, r_dnil, r_dcons0, r_dcons1, h_0, h_1, h_rw, h_wr, h_n1, h_n2, lg_0, lg_S, te_0, te_1, te_2, vl_c, vl_l, vl_ls, vl_g, vl_gs, true_and, and_true, and_self, List.getD_cons_zero, List.getD_cons_succ, rRd, rRe, rRf, Bool.not_true, Bool.not_false, List.cons_append, List.nil_append, List.append_nil]
  exact hK _ (hE _ (((Kept.refl _).nw _).trans k1))
/-! ### an op of two -/
theorem Cl.ratsA {s : St} {b : Nat} {cx cy : List AV} (h : Cl s b (cx ++ cy)) : Go.Sy.rats s.h b 0 cx.length = cx ∧ Go.Sy.rats s.h b cx.length cy.length = cy := by
  have hl := h.len
  rw [List.length_append] at hl
  constructor
  · refine rats_ext rfl fun i hi => ?_
    rw [Nat.zero_add, h.cell i (by rw [List.length_append]; omega), List.getD_eq_getElem?_getD, List.getD_eq_getElem?_getD, List.getElem?_append_left hi]
  · refine rats_ext rfl fun i hi => ?_
    rw [h.cell _ (by rw [List.length_append]; omega), List.getD_eq_getElem?_getD, List.getD_eq_getElem?_getD, List.getElem?_append_right (by omega), Nat.add_sub_cancel_left]
theorem ExP.two {φ : Nat → Prop} {s : St} {b cap : Nat} {ex : Bool} {cx cy : List AV} {x y : Ex} (h : Cl s b (cx ++ cy)) (hφ : φ b) (hx : ExP φ s cx x) (hy : ExP φ s cy y) (op num : Int) (nm : List Nat) (l c : Int) : ExP φ s (exC op num nm (.slice b 0 2 cap 6 ex) l c) (.mk op num nm [x, y] l c) := by
  have l1 := hx.len
  have l2 := hy.len
  obtain ⟨r1, r2⟩ := h.ratsA
  rw [l1] at r1
  rw [l1, l2] at r2
  refine ⟨_, rfl, .inr ⟨b, 0, cap, ex, rfl, h.lt, ?_, ?_, hφ⟩⟩
  · rw [h.len, List.length_append, l1, l2]; exact Nat.le_refl 12
  · simp only [KsP, Nat.zero_add]
    rw [r1, r2]
    exact ⟨hx, hy, trivial⟩
theorem ExP.one {φ : Nat → Prop} {s : St} {b cap : Nat} {ex : Bool} {cx : List AV} {x : Ex} (h : Cl s b cx) (hφ : φ b) (hx : ExP φ s cx x) (op num : Int) (nm : List Nat) (l c : Int) : ExP φ s (exC op num nm (.slice b 0 1 cap 6 ex) l c) (.mk op num nm [x] l c) := by
  have l1 := hx.len
  refine ⟨_, rfl, .inr ⟨b, 0, cap, ex, rfl, h.lt, ?_, ?_, hφ⟩⟩
  · rw [h.len, l1]; exact Nat.le_refl 6
  · simp only [KsP]
    rw [h.rats0 l1]
    exact ⟨hx, trivial⟩
theorem ExP.leaf {φ : Nat → Prop} {s : St} (op num : Int) (nm : List Nat) (l c : Int) : ExP φ s (exC op num nm .nils l c) (.mk op num nm [] l c) := ⟨.nils, rfl, .inl ⟨rfl, rfl⟩⟩
theorem upd_all {z vs : List AV} (h : vs.length = z.length) : upd z 0 vs = vs := by
  rw [← upd_app z 0 vs (by omega)]
  simp [h]
theorem upd_at {z vs : List AV} {o : Nat} {a : List AV} (ha : z.take o = a) (h : o + vs.length = z.length) : upd z o vs = a ++ vs := by
  rw [← upd_app z o vs (by omega), ha, h]
  simp
section
variable {st : St} {K : AV → St → Prop}
theorem a_bS16 {cx : List AV} {z0 z1 z2 z3 z4 z5 : AV} (hx : cx.length = 6) (hlx : lall AV.cell cx = true) :
    onER (buildSV 1 6 [z0, z1, z2, z3, z4, z5] [((0, 6), .agg cx)] st) K = K (.slice st.nx 0 1 1 6 true) (nw st cx) := by
  rw [a_bS, rep_S, rep_0, List.append_nil, a_bSc (v := .agg cx) rfl hx (Nat.le_refl 6), cells_agg, upd_all (by rw [hx]; rfl), a_bS0 hlx]
theorem a_bS26 {cx cy : List AV} {z0 z1 z2 z3 z4 z5 : AV} (hx : cx.length = 6) (hy : cy.length = 6) (hlx : lall AV.cell cx = true) (hly : lall AV.cell cy = true) :
    onER (buildSV 2 6 [z0, z1, z2, z3, z4, z5] [((0, 6), .agg cx), ((6, 6), .agg cy)] st) K = K (.slice st.nx 0 2 2 6 true) (nw st (cx ++ cy)) := by
  have e1 : upd ([z0, z1, z2, z3, z4, z5] ++ [z0, z1, z2, z3, z4, z5]) 0 cx = cx ++ [z0, z1, z2, z3, z4, z5] := by
    rw [← upd_app _ 0 cx (by rw [hx]; exact Nat.le_add_left _ _), hx]; rfl
  have e2 : upd (cx ++ [z0, z1, z2, z3, z4, z5]) 6 cy = cx ++ cy := upd_at (by rw [← hx, List.take_left]) (by rw [List.length_append, hx, hy]; rfl)
  rw [a_bS, rep_S, rep_S, rep_0, List.append_nil, a_bSc (v := .agg cx) rfl hx (Nat.le_add_left 6 6), cells_agg, e1, a_bSc (v := .agg cy) rfl hy (by rw [List.length_append, hx]; exact Nat.le_refl 12), cells_agg, e2, a_bS0 (by rw [lall_app _ _ hlx, hly])]
end
def opTwo (text : List Nat) : Option Nat := (List.range 17).find? fun i => decide (sgn ((14 + i : Nat) : Int) = text)
def twoM (t : Tk) (x y : Ex) : Ex := match opTwo t.text with
  | some i => .mk ((14 + i : Nat) : Int) 0 [] [x, y] t.line t.col
  | none => .mk 0 0 [] [] 0 0
theorem opTwo_at {text : List Nat} {i : Nat} (hi : i < 17) (h : sgn ((14 + i : Nat) : Int) = text) (hj : ∀ j, j < i → sgn ((14 + j : Nat) : Int) ≠ text) : opTwo text = some i := by
  unfold opTwo
  rw [List.find?_range_eq_some]
  exact ⟨by simpa using h, by simpa using hi, fun j hj' => by simpa using hj j hj'⟩
theorem opTwo_no {text : List Nat} (hj : ∀ j, j < 17 → sgn ((14 + j : Nat) : Int) ≠ text) : opTwo text = none := by
  unfold opTwo
  rw [List.find?_eq_none]
  intro j hj'
  simpa using hj j (by simpa using hj')
end Go.Sy
end

section
set_option maxRecDepth 100000
namespace Go.Sy
open Go.Ev Go.Proofs
variable {base : CallF}
def zE : List AV := [.int .i64 0, .int .i64 0, .str [], .nils, .int .i64 0, .int .i64 0]
theorem zE_len : zE.length = 6 := nr rfl
theorem ty9a : Go.Ev.isAgg Tryd.prog 9 = some false := by kernel_rfl
theorem ty9s : Go.Ev.sizeOf Tryd.prog 9 = some 1 := by kernel_rfl
theorem two_ok (hb : NB base) (t : Tk) {cx cy : List AV} {x y : Ex} (st : St) {φ : Nat → Prop} (hφ : ∀ b, st.nx ≤ b → φ b) (hx : ExP φ st cx x) (hy : ExP φ st cy y) (K : AV → St → Prop)
    (hK : ∀ s1 cs, Kept st s1 → ExP φ s1 cs (twoM t x y) → K (.agg cs) s1) : CB Tryd.prog base 49 [.agg t.cells, .agg cx, .agg cy] st K := by
  refine fn_ruleB l49 (hb.at _ (by decide) _ _) ?_
  simp only [c49, entry, List.map_cons, List.map_nil, List.getD_cons_zero, List.getD_cons_succ]
  unfold b49
  have hφ : ∀ b, st.bare.nx ≤ b → φ b := hφ
  have hx := hx.bare
  have hy := hy.bare
  have hE : ∀ s, Kept st.bare s → Kept st (bk st s) := fun s k => ⟨k.nx, rfl, k.keep⟩
  have hB : ∀ s c, But st.bare s c → But st (bk st s) c := fun s c k => ⟨k.nx, rfl, k.keep⟩
  have hS0 : bk st st.bare = st := rfl
  have hnx0 : st.bare.nx = st.nx := rfl
  have hfr0 : st.bare.fr = [] := rfl
  generalize st.bare = s0 at *
  have lx := hx.len
  have ly := hy.len
  have qx := hx.lall
  have qy := hy.lall
  simp (disch := first | decide | assumption | omega | (simp only [nx_nw, nx_wr, nx_ap, nx_bare]; first | done | omega) | (simp (disch := first | assumption | omega | (simp only [nx_nw, nx_wr, nx_ap, nx_bare]; first | done | omega)) only [lx, ly, qx, qy, tk_len, cell_tk, rRu, List.length_cons, List.length_nil]; first | done | omega | decide)) only [lx, ly, qx, qy, tk_len, cell_tk, Nat.reduceAdd, Nat.reduceSub, Nat.reduceMul, Nat.zero_add, a_new, a_box, a_st, a_ldA, rats_nwE, rats_nwO, rats_wr, rats_wrO, upd_nil, upd_00, upd_0, upd_S, upd_e, nx_nw, nx_wr, nx_ap, nx_bare, h_bare, len_nwE, len_nwO, len_wr, at_nwE, at_nwO, at_wr, at_wrB, at_wrA, at_wrO, cells_agg, cells_int, cells_str, cells_bool, cells_slice, cells_nils, cells_ptr, a_build0, a_buildc, a_bS, a_bS0, a_bSc, rep_0, rep_S, i_buildP, i_buildSP, r_ps0, r_ps1, i_fnA, i_slS1, i_slS2, i_slS3, v_idxS0, v_iface, r_resA, r_dops, r_dnil, r_dcons0, r_dcons1, h_0, h_1, h_rw, h_wr, h_n1, h_n2, lg_0, lg_S, te_0, te_1, te_2, vl_c, vl_l, vl_ls, vl_g, vl_gs, true_and, and_true, and_self, List.getD_cons_zero, List.getD_cons_succ, rRd, rRe, rRf, Bool.not_true, Bool.not_false, List.cons_append, List.nil_append, List.append_nil]
  generalize hn : s0.nx = n0 at *
  refine wC_gen fun u hu => ?_
  have k0 : Kept s0 u := by (first | rw [hu] | skip); repeat' (first | exact Kept.refl _ | assumption | refine Kept.nw ?_ _ | (refine Kept.wrS ?_ ?_; (first | omega | (simp only [nx_nw, nx_wr, nx_ap, nx_bare]; omega))) | (refine Kept.apS ?_ ?_; (first | omega | (simp only [nx_nw, nx_wr, nx_ap, nx_bare]; omega))))
  have C1 : Cl u n0 t.cells := by rw [hu, ← hn]; exact (((Cl.new s0 t.cells).nw _).nw _).nw _
  have C2 : Cl u (n0 + 1) cx := by rw [hu, ← hn]; exact ((Cl.new (nw s0 t.cells) cx).nw _).nw _
  have C3 : Cl u (n0 + 1 + 1) cy := by rw [hu, ← hn]; exact (Cl.new (nw (nw s0 t.cells) cx) cy).nw _
  have C4 : Cl u (n0 + 1 + 1 + 1) zE := by rw [hu, ← hn]; exact Cl.new (nw (nw (nw s0 t.cells) cx) cy) zE
  clear hu
  have hx0 := hx
  have hy0 := hy
  have hx := hx.kept k0
  have hy := hy.kept k0
  refine wC_loopH (fun mm L s => ∃ i : Nat, i ≤ 17 ∧ mm = 17 - i ∧ Kept s0 s ∧ Cl s n0 t.cells ∧ Cl s (n0 + 1) cx ∧ Cl s (n0 + 1 + 1) cy ∧ Cl s (n0 + 1 + 1 + 1) zE ∧ ExP φ s cx x ∧ ExP φ s cy y ∧ (∀ j, j < i → sgn ((14 + j : Nat) : Int) ≠ t.text) ∧ Has L 3 (.ptr n0 0) ∧ Has L 4 (.ptr (n0 + 1) 0) ∧ Has L 5 (.ptr (n0 + 1 + 1) 0) ∧ Has L 6 (.ptr (n0 + 1 + 1 + 1) 0) ∧ Has L 7 (.int .i64 ((14 + i : Nat) : Int))) ?_ 17 ?_
  · rintro mm L s ⟨i, hi, rfl, ks, C1, C2, C3, C4, hx, hy, hj, i3, i4, i5, i6, i7⟩
    unfold Hold
    have L1 := C1.lt
    have L2 := C2.lt
    have L3 := C3.lt
    have L4 := C4.lt
    have sfr : s.fr = [] := ks.fr.trans hfr0
    by_cases hin : i < 17
    · have q1 : ((14 + i : Nat) : Int) < 31 := by omega
      simp (disch := first | decide | assumption | omega | (simp only [nx_nw, nx_wr, nx_ap, nx_bare]; first | done | omega) | (simp (disch := first | assumption | omega | (simp only [nx_nw, nx_wr, nx_ap, nx_bare]; first | done | omega)) only [rRu, List.length_cons, List.length_nil]; first | done | omega | decide)) only [r_onh i3, r_onh i4, r_onh i5, r_onh i6, r_onh i7, Nat.reduceAdd, Nat.reduceSub, Nat.reduceMul, Nat.zero_add, a_new, a_box, a_st, a_ldA, rats_nwE, rats_nwO, rats_wr, rats_wrO, upd_nil, upd_00, upd_0, upd_S, upd_e, nx_nw, nx_wr, nx_ap, nx_bare, h_bare, len_nwE, len_nwO, len_wr, at_nwE, at_nwO, at_wr, at_wrB, at_wrA, at_wrO, cells_agg, cells_int, cells_str, cells_bool, cells_slice, cells_nils, cells_ptr, a_build0, a_buildc, a_bS, a_bS0, a_bSc, rep_0, rep_S, i_buildP, i_buildSP, r_ps0, r_ps1, i_fnA, i_slS1, i_slS2, i_slS3, v_idxS0, v_iface, r_resA, r_dops, r_dnil, r_dcons0, r_dcons1, h_0, h_1, h_rw, h_wr, h_n1, h_n2, lg_0, lg_S, te_0, te_1, te_2, vl_c, vl_l, vl_ls, vl_g, vl_gs, true_and, and_true, and_self, List.getD_cons_zero, List.getD_cons_succ, rRd, rRe, rRf, Bool.not_true, Bool.not_false, List.cons_append, List.nil_append, List.append_nil]
      refine Sign_ok hb _ _ _ fun s1 k1 => ?_
      have hs1 : sameAt Tryd.prog 9 (.ptr n0 1) (.str t.text) s.h = true := same_1 ty9a ty9s (by rw [C1.len]; exact Nat.succ_lt_succ (Nat.succ_pos 3)) (C1.cell 1 (Nat.succ_lt_succ (Nat.succ_pos 3))) rfl
      have k01 := ks.trans k1
      have C1 := C1.kept k1
      have C2 := C2.kept k1
      have C3 := C3.kept k1
      have C4 := C4.kept k1
      have hx := hx.kept k1
      have hy := hy.kept k1
      have hs2 : sameAt Tryd.prog 9 (.ptr n0 1) (.str t.text) s1.h = true := same_1 ty9a ty9s (by rw [C1.len]; exact Nat.succ_lt_succ (Nat.succ_pos 3)) (C1.cell 1 (Nat.succ_lt_succ (Nat.succ_pos 3))) rfl
      have g1 : rat s1.h n0 1 = .str t.text := C1.cell 1 (Nat.succ_lt_succ (Nat.succ_pos 3))
      have g3 : rat s1.h n0 3 = .int .i64 (t.line : Int) := C1.cell 3 (Nat.succ_lt_succ (Nat.succ_lt_succ (Nat.succ_lt_succ (Nat.succ_pos 1))))
      have g4 : rat s1.h n0 4 = .int .i64 (t.col : Int) := C1.cell 4 (Nat.lt_succ_self 4)
      have rx := C2.rats0 lx
      have ry := C3.rats0 ly
      have L1 := C1.lt
      have L2 := C2.lt
      have L3 := C3.lt
      have L4 := C4.lt
      by_cases hq : sgn ((14 + i : Nat) : Int) = t.text
      · simp (disch := first | decide | assumption | omega | (simp only [nx_nw, nx_wr, nx_ap, nx_bare]; first | done | omega) | (simp (disch := first | assumption | omega | (simp only [nx_nw, nx_wr, nx_ap, nx_bare]; first | done | omega)) only [C1.len, C2.len, C3.len, C4.len, tk_len, zE_len, lx, ly, qx, qy, rRu, List.length_cons, List.length_nil]; first | done | omega | decide)) only [g1, hs1, hs2, r_onh i3, r_onh i4, r_onh i5, r_onh i6, r_onh i7, rx, ry, g3, g4, ↓a_bS26, C1.len, C2.len, C3.len, C4.len, tk_len, zE_len, lx, ly, qx, qy, Nat.reduceAdd, Nat.reduceSub, Nat.reduceMul, Nat.zero_add, a_new, a_box, a_st, a_ldA, rats_nwE, rats_nwO, rats_wr, rats_wrO, upd_nil, upd_00, upd_0, upd_S, upd_e, nx_nw, nx_wr, nx_ap, nx_bare, h_bare, len_nwE, len_nwO, len_wr, at_nwE, at_nwO, at_wr, at_wrB, at_wrA, at_wrO, cells_agg, cells_int, cells_str, cells_bool, cells_slice, cells_nils, cells_ptr, a_build0, a_buildc, a_bS, a_bS0, a_bSc, rep_0, rep_S, i_buildP, i_buildSP, r_ps0, r_ps1, i_fnA, i_slS1, i_slS2, i_slS3, v_idxS0, v_iface, r_resA, r_dops, r_dnil, r_dcons0, r_dcons1, h_0, h_1, h_rw, h_wr, h_n1, h_n2, lg_0, lg_S, te_0, te_1, te_2, vl_c, vl_l, vl_ls, vl_g, vl_gs, true_and, and_true, and_self, List.getD_cons_zero, List.getD_cons_succ, rRd, rRe, rRf, Bool.not_true, Bool.not_false, List.cons_append, List.nil_append, List.append_nil]
        have kS := (k01.nw (cx ++ cy)).wr (b := n0 + 1 + 1 + 1) (by omega) 0 [.int .i64 ((14 + i : Nat) : Int), .int .i64 0, .str [], .slice s1.nx 0 2 2 6 true, .int .i64 (t.line : Int), .int .i64 (t.col : Int)]
        have Cn := (Cl.new s1 (cx ++ cy)).wrO (c := n0 + 1 + 1 + 1) (by omega) 0 [.int .i64 ((14 + i : Nat) : Int), .int .i64 0, .str [], .slice s1.nx 0 2 2 6 true, .int .i64 (t.line : Int), .int .i64 (t.col : Int)]
        have e : twoM t x y = .mk ((14 + i : Nat) : Int) 0 [] [x, y] t.line t.col := by unfold twoM; rw [opTwo_at hin hq hj]
        exact hK _ _ (hE _ kS) (by rw [e]; exact (ExP.two Cn (hφ _ (by omega)) (hx0.kept kS) (hy0.kept kS) _ _ _ _ _).bk st)
      · simp (disch := first | decide | assumption | omega | (simp only [nx_nw, nx_wr, nx_ap, nx_bare]; first | done | omega) | (simp (disch := first | assumption | omega | (simp only [nx_nw, nx_wr, nx_ap, nx_bare]; first | done | omega)) only [C1.len, tk_len, rRu, List.length_cons, List.length_nil]; first | done | omega | decide)) only [g1, hs1, hs2, r_onh i3, r_onh i7, v_addN, C1.len, tk_len, Nat.reduceAdd, Nat.reduceSub, Nat.reduceMul, Nat.zero_add, a_new, a_box, a_st, a_ldA, rats_nwE, rats_nwO, rats_wr, rats_wrO, upd_nil, upd_00, upd_0, upd_S, upd_e, nx_nw, nx_wr, nx_ap, nx_bare, h_bare, len_nwE, len_nwO, len_wr, at_nwE, at_nwO, at_wr, at_wrB, at_wrA, at_wrO, cells_agg, cells_int, cells_str, cells_bool, cells_slice, cells_nils, cells_ptr, a_build0, a_buildc, a_bS, a_bS0, a_bSc, rep_0, rep_S, i_buildP, i_buildSP, r_ps0, r_ps1, i_fnA, i_slS1, i_slS2, i_slS3, v_idxS0, v_iface, r_resA, r_dops, r_dnil, r_dcons0, r_dcons1, h_0, h_1, h_rw, h_wr, h_n1, h_n2, lg_0, lg_S, te_0, te_1, te_2, vl_c, vl_l, vl_ls, vl_g, vl_gs, true_and, and_true, and_self, List.getD_cons_zero, List.getD_cons_succ, rRd, rRe, rRf, Bool.not_true, Bool.not_false, List.cons_append, List.nil_append, List.append_nil]
        refine ⟨17 - (i + 1), by omega, i + 1, by omega, rfl, k01, C1, C2, C3, C4, hx, hy, fun j hj' => ?_, ?_⟩
        · by_cases h : j = i
          · rw [h]; exact hq
          · exact hj j (by omega)
        · rw [show 14 + (i + 1) = 14 + i + 1 by omega]
          simp (disch := decide) only [z0, z1, h_here, h_skip, i3, i4, i5, i6, true_and, and_true]
    · have hi17 : i = 17 := by omega
      subst hi17
      have q1 : ¬ ((14 + 17 : Nat) : Int) < 31 := by decide
      simp (disch := first | decide | assumption | omega | (simp only [nx_nw, nx_wr, nx_ap, nx_bare]; first | done | omega) | (simp (disch := first | assumption | omega | (simp only [nx_nw, nx_wr, nx_ap, nx_bare]; first | done | omega)) only [C4.len, zE_len, rRu, List.length_cons, List.length_nil]; first | done | omega | decide)) only [r_onh i3, r_onh i4, r_onh i5, r_onh i6, r_onh i7, C4.len, zE_len, Nat.reduceAdd, Nat.reduceSub, Nat.reduceMul, Nat.zero_add, a_new, a_box, a_st, a_ldA, rats_nwE, rats_nwO, rats_wr, rats_wrO, upd_nil, upd_00, upd_0, upd_S, upd_e, nx_nw, nx_wr, nx_ap, nx_bare, h_bare, len_nwE, len_nwO, len_wr, at_nwE, at_nwO, at_wr, at_wrB, at_wrA, at_wrO, cells_agg, cells_int, cells_str, cells_bool, cells_slice, cells_nils, cells_ptr, a_build0, a_buildc, a_bS, a_bS0, a_bSc, rep_0, rep_S, i_buildP, i_buildSP, r_ps0, r_ps1, i_fnA, i_slS1, i_slS2, i_slS3, v_idxS0, v_iface, r_resA, r_dops, r_dnil, r_dcons0, r_dcons1, h_0, h_1, h_rw, h_wr, h_n1, h_n2, lg_0, lg_S, te_0, te_1, te_2, vl_c, vl_l, vl_ls, vl_g, vl_gs, true_and, and_true, and_self, List.getD_cons_zero, List.getD_cons_succ, rRd, rRe, rRf, Bool.not_true, Bool.not_false, List.cons_append, List.nil_append, List.append_nil]
      have e : twoM t x y = .mk 0 0 [] [] 0 0 := by unfold twoM; rw [opTwo_no hj]
      exact hK _ _ (hE _ (ks.wr (by omega) _ _)) (by rw [e]; exact (ExP.leaf 0 0 [] 0 0).bk st)
  · refine ⟨0, by omega, rfl, k0, C1, C2, C3, C4, hx, hy, fun j hj => absurd hj (Nat.not_lt_zero _), ?_⟩
    rw [show ((14 + 0 : Nat) : Int) = 14 from rfl]
    simp (disch := decide) only [z0, z1, h_here, h_skip, true_and, and_true]
/-! ### signs that bind alike -/
structure Lev where
  signs : List (List Nat)
  way : Nat
def levelsM : List Lev := [⟨[[60, 45, 62]], 0⟩, ⟨[[45, 62]], 1⟩, ⟨[[124]], 0⟩, ⟨[[38]], 0⟩, ⟨[[85], [82], [83], [84]], 1⟩, ⟨[[61], [33, 61], [60], [60, 61], [62], [62, 61]], 2⟩, ⟨[[43], [45]], 0⟩, ⟨[[42]], 0⟩]
/-- some levels in a block, from a place on -/
def LvR (φ : Nat → Prop) (s : St) (b : Nat) : Nat → List Lev → Prop
  | _, [] => True
  | o, v :: vs => (∃ w, Go.Sy.rats s.h b o 2 = [w, .int .i64 (v.way : Int)] ∧ SP φ s w v.signs ∧ v.signs.length ≤ 1000) ∧ LvR φ s b (o + 2) vs
theorem LvR.keep {φ : Nat → Prop} {a s : St} (hn : a.nx ≤ s.nx) (hk : ∀ b, b < a.nx → φ b → hget s.h b = hget a.h b) (b : Nat) (hb : b < a.nx) (hφ : φ b) : ∀ (o : Nat) (l : List Lev), LvR φ a b o l → LvR φ s b o l
  | _, [], _ => trivial
  | o, v :: vs, ⟨⟨w, h1, h2, h4⟩, h3⟩ => ⟨⟨w, by rw [rats_same (hk b hb hφ)]; exact h1, h2.keep hn hk, h4⟩, LvR.keep hn hk b hb hφ (o + 2) vs h3⟩
structure LvV (φ : Nat → Prop) (s : St) (v : AV) (l : List Lev) : Prop where
  ex : ∃ b o c x, v = .slice b o l.length c 2 x ∧ b < s.nx ∧ o + 2 * l.length ≤ rlen s.h b ∧ l.length ≤ c ∧ LvR φ s b o l ∧ φ b
theorem LvV.keep {φ : Nat → Prop} {a s : St} {v : AV} {l : List Lev} (h : LvV φ a v l) (hn : a.nx ≤ s.nx) (hk : ∀ b, b < a.nx → φ b → hget s.h b = hget a.h b) : LvV φ s v l := by
  obtain ⟨b, o, c, x, h1, h2, h3, h4, h5, h6⟩ := h.ex
  exact ⟨b, o, c, x, h1, Nat.lt_of_lt_of_le h2 hn, by rw [rlen_same (hk b h2 h6)]; exact h3, h4, LvR.keep hn hk b h2 h6 o l h5, h6⟩
theorem LvV.kept {φ : Nat → Prop} {a s : St} {v : AV} {l : List Lev} (h : LvV φ a v l) (k : Kept a s) : LvV φ s v l := h.keep k.nx fun b hb _ => k.keep b hb
theorem LvV.but {p : Nat} {a s : St} {v : AV} {l : List Lev} (h : LvV (· ≠ p) a v l) (k : But a s p) : LvV (· ≠ p) s v l := h.keep k.nx fun b hb hp => k.keep b hb hp
theorem LvV.bare {φ : Nat → Prop} {s : St} {v : AV} {l : List Lev} (h : LvV φ s v l) : LvV φ s.bare v l := h.keep (s := s.bare) (Nat.le_refl _) fun _ _ _ => rfl
theorem levels_ok (hb : NB base) {φ : Nat → Prop} (st : St) (hφ : ∀ b, st.nx ≤ b → φ b) (K : AV → St → Prop) (hK : ∀ s1 v, Kept st s1 → LvV φ s1 v levelsM → K v s1) : CB Tryd.prog base 28 [] st K := by
  refine fn_ruleB l28 (hb.at _ (by decide) _ _) ?_
  simp only [c28, entry, List.map_cons, List.map_nil, List.getD_cons_zero, List.getD_cons_succ]
  unfold b28
  have hφ : ∀ b, st.bare.nx ≤ b → φ b := hφ
  have hE : ∀ s, Kept st.bare s → Kept st (bk st s) := fun s k => ⟨k.nx, rfl, k.keep⟩
  have hB : ∀ s c, But st.bare s c → But st (bk st s) c := fun s c k => ⟨k.nx, rfl, k.keep⟩
  have hS0 : bk st st.bare = st := rfl
  have hnx0 : st.bare.nx = st.nx := rfl
  have hfr0 : st.bare.fr = [] := rfl
  generalize st.bare = s0 at *
  simp (disch := first | decide | assumption | omega | (simp only [nx_nw, nx_wr, nx_ap, nx_bare]; first | done | omega) | (simp (disch := first | assumption | omega | (simp only [nx_nw, nx_wr, nx_ap, nx_bare]; first | done | omega)) only [rRu, List.length_cons, List.length_nil]; first | done | omega | decide)) only [Nat.reduceAdd, Nat.reduceSub, Nat.reduceMul, Nat.zero_add, a_new, a_box, a_st, a_ldA, rats_nwE, rats_nwO, rats_wr, rats_wrO, upd_nil, upd_00, upd_0, upd_S, upd_e, nx_nw, nx_wr, nx_ap, nx_bare, h_bare, len_nwE, len_nwO, len_wr, at_nwE, at_nwO, at_wr, at_wrB, at_wrA, at_wrO, cells_agg, cells_int, cells_str, cells_bool, cells_slice, cells_nils, cells_ptr, a_build0, a_buildc, a_bS, a_bS0, a_bSc, rep_0, rep_S, i_buildP, i_buildSP, r_ps0, r_ps1, i_fnA, i_slS1, i_slS2, i_slS3, v_idxS0, v_iface, r_resA, r_dops, r_dnil, r_dcons0, r_dcons1, h_0, h_1, h_rw, h_wr, h_n1, h_n2, lg_0, lg_S, te_0, te_1, te_2, vl_c, vl_l, vl_ls, vl_g, vl_gs, true_and, and_true, and_self, List.getD_cons_zero, List.getD_cons_succ, rRd, rRe, rRf, Bool.not_true, Bool.not_false, List.cons_append, List.nil_append, List.append_nil]
  refine (fun (T : St) (hT : T = _) => ?_ : ∀ T : St, T = _ → K _ (bk st T)) _ rfl
  have kT : Kept s0 T := by rw [hT]; repeat' (first | exact Kept.refl _ | refine Kept.nw ?_ _)
  have CL : Cl T (s0.nx + 8) [.slice s0.nx 0 1 1 1 true, .int .i64 0, .slice (s0.nx + 1) 0 1 1 1 true, .int .i64 1, .slice (s0.nx + 2) 0 1 1 1 true, .int .i64 0, .slice (s0.nx + 3) 0 1 1 1 true, .int .i64 0, .slice (s0.nx + 4) 0 4 4 1 true, .int .i64 1, .slice (s0.nx + 5) 0 6 6 1 true, .int .i64 2, .slice (s0.nx + 6) 0 2 2 1 true, .int .i64 0, .slice (s0.nx + 7) 0 1 1 1 true, .int .i64 0] := by rw [hT]; exact Cl.new _ _
  have G : ∀ (i : Nat) (S : List (List Nat)), Cl T (s0.nx + i) (S.map .str) → SP φ T (.slice (s0.nx + i) 0 S.length S.length 1 true) S := fun i S h => ⟨⟨_, _, _, rfl, h, hφ _ (Nat.le_add_right _ _)⟩⟩
  have R : ∀ o, o + 2 ≤ 16 → Go.Sy.rats T.h (s0.nx + 8) o 2 = (([.slice s0.nx 0 1 1 1 true, .int .i64 0, .slice (s0.nx + 1) 0 1 1 1 true, .int .i64 1, .slice (s0.nx + 2) 0 1 1 1 true, .int .i64 0, .slice (s0.nx + 3) 0 1 1 1 true, .int .i64 0, .slice (s0.nx + 4) 0 4 4 1 true, .int .i64 1, .slice (s0.nx + 5) 0 6 6 1 true, .int .i64 2, .slice (s0.nx + 6) 0 2 2 1 true, .int .i64 0, .slice (s0.nx + 7) 0 1 1 1 true, .int .i64 0] : List AV).drop o).take 2 := fun o ho => CL.ratsP 2 o ho
  have S0 : SP φ T (.slice s0.nx 0 1 1 1 true) [[60, 45, 62]] := G 0 [[60, 45, 62]] (by rw [hT]; repeat' (first | exact Cl.new _ _ | refine Cl.nw ?_ _))
  have S1 : SP φ T (.slice (s0.nx + 1) 0 1 1 1 true) [[45, 62]] := G 1 [[45, 62]] (by rw [hT]; repeat' (first | exact Cl.new _ _ | refine Cl.nw ?_ _))
  have S2 : SP φ T (.slice (s0.nx + 2) 0 1 1 1 true) [[124]] := G 2 [[124]] (by rw [hT]; repeat' (first | exact Cl.new _ _ | refine Cl.nw ?_ _))
  have S3 : SP φ T (.slice (s0.nx + 3) 0 1 1 1 true) [[38]] := G 3 [[38]] (by rw [hT]; repeat' (first | exact Cl.new _ _ | refine Cl.nw ?_ _))
  have S4 : SP φ T (.slice (s0.nx + 4) 0 4 4 1 true) [[85], [82], [83], [84]] := G 4 [[85], [82], [83], [84]] (by rw [hT]; repeat' (first | exact Cl.new _ _ | refine Cl.nw ?_ _))
  have S5 : SP φ T (.slice (s0.nx + 5) 0 6 6 1 true) [[61], [33, 61], [60], [60, 61], [62], [62, 61]] := G 5 [[61], [33, 61], [60], [60, 61], [62], [62, 61]] (by rw [hT]; repeat' (first | exact Cl.new _ _ | refine Cl.nw ?_ _))
  have S6 : SP φ T (.slice (s0.nx + 6) 0 2 2 1 true) [[43], [45]] := G 6 [[43], [45]] (by rw [hT]; repeat' (first | exact Cl.new _ _ | refine Cl.nw ?_ _))
  have S7 : SP φ T (.slice (s0.nx + 7) 0 1 1 1 true) [[42]] := G 7 [[42]] (by rw [hT]; repeat' (first | exact Cl.new _ _ | refine Cl.nw ?_ _))
  have LR : LvR φ T (s0.nx + 8) 0 levelsM := ⟨⟨_, R 0 (by decide), S0, by decide⟩, ⟨_, R 2 (by decide), S1, by decide⟩, ⟨_, R 4 (by decide), S2, by decide⟩, ⟨_, R 6 (by decide), S3, by decide⟩, ⟨_, R 8 (by decide), S4, by decide⟩, ⟨_, R 10 (by decide), S5, by decide⟩, ⟨_, R 12 (by decide), S6, by decide⟩, ⟨_, R 14 (by decide), S7, by decide⟩, trivial⟩
  have LV : LvV φ T (.slice (s0.nx + 8) 0 8 8 2 true) levelsM := ⟨⟨_, 0, 8, true, rfl, CL.lt, by rw [CL.len]; exact Nat.le_refl 16, Nat.le_refl 8, LR, hφ _ (Nat.le_add_right _ _)⟩⟩
  exact hK _ _ (hE _ kT) (LV.keep (s := bk st T) (Nat.le_refl _) fun _ _ _ => rfl)
end Go.Sy
end

section
set_option maxRecDepth 100000
namespace Go.Sy
open Go.Ev Go.Proofs
/-! ### the parser, plain -/
def prefS : List (List Nat) := [[45], [33], [88], [70], [71], [89], [90], [79], [72]]
def opPre (text : List Nat) : Nat := 5 + prefS.idxOf text
inductive PR where
  | ok (x : Ex) (j : Nat)
  | er (t : Tk)
mutual
def exprM (ts : List Tk) : Nat → List Lev → Nat → Nat → Option PR
  | 0, _, _, _ => none
  | n + 1, [], i, d => prefM ts n i d
  | n + 1, v :: l, i, d => match exprM ts n l i d with
    | some (.ok x j) => loopM ts n v l x j d
    | r => r
def loopM (ts : List Tk) : Nat → Lev → List Lev → Ex → Nat → Nat → Option PR
  | 0, _, _, _, _, _ => none
  | n + 1, v, l, x, i, d =>
    if isM (tk ts i) v.signs = true then
      (if v.way = 1 then (match exprM ts n (v :: l) (i + 1) d with
        | some (.ok y j) => some (.ok (twoM (tk ts i) x y) j)
        | r => r)
      else (match exprM ts n l (i + 1) d with
        | some (.ok y j) => if v.way = 2 then some (.ok (twoM (tk ts i) x y) j) else loopM ts n v l (twoM (tk ts i) x y) j d
        | r => r))
    else some (.ok x i)
def prefM (ts : List Tk) : Nat → Nat → Nat → Option PR
  | 0, _, _ => none
  | n + 1, i, d =>
    if isM (tk ts i) prefS = true then
      (if 60 < d + 1 then some (.er (tk ts (i + 1))) else (match prefM ts n (i + 1) (d + 1) with
        | some (.ok x j) => some (.ok (.mk (opPre (tk ts i).text : Nat) 0 [] [x] (tk ts i).line (tk ts i).col) j)
        | r => r))
    else valM ts n i d
def valM (ts : List Tk) : Nat → Nat → Nat → Option PR
  | 0, _, _ => none
  | n + 1, i, d =>
    if (tk ts i).kind = 2 then some (.ok (.mk 1 (tk ts i).num [] [] (tk ts i).line (tk ts i).col) (i + 1))
    else if (tk ts i).kind = 1 then some (.ok (.mk 3 0 (tk ts i).text [] (tk ts i).line (tk ts i).col) (i + 1))
    else if isM (tk ts i) [[116, 114, 117, 101]] = true then some (.ok (.mk 2 1 [] [] (tk ts i).line (tk ts i).col) (i + 1))
    else if isM (tk ts i) [[102, 97, 108, 115, 101]] = true then some (.ok (.mk 2 0 [] [] (tk ts i).line (tk ts i).col) (i + 1))
    else if isM (tk ts i) [[40]] = true then
      (if 60 < d + 1 then some (.er (tk ts (i + 1))) else (match exprM ts n levelsM (i + 1) (d + 1) with
        | some (.ok x j) => if isM (tk ts j) [[41]] = true then some (.ok x (j + 1)) else some (.er (tk ts j))
        | r => r))
    else some (.er (tk ts i))
end
/-- some words: the last one is the end, and is met there alone -/
structure Wds (ts : List Tk) : Prop where
  len : ts.length ≤ 1000000
  next : ∀ i, i < ts.length → (tk ts i).kind ≠ 5 → i + 1 < ts.length
  byt : ∀ i, Byt (tk ts i).text
theorem isM_kind {t : Tk} {S : List (List Nat)} (h : isM t S = true) : (t.kind = 3 ∨ t.kind = 4) ∧ t.text ∈ S := by
  simpa [isM] using h
theorem Wds.isM {ts : List Tk} (W : Wds ts) {i : Nat} (hi : i < ts.length) {S : List (List Nat)} (h : isM (tk ts i) S = true) : i + 1 < ts.length := W.next i hi (by have := (isM_kind h).1; omega)
theorem twoM_wf {t : Tk} {x y : Ex} (hx : x.wf) (hy : y.wf) : (twoM t x y).wf := by
  have b0 : Byt [] := ⟨by decide, fun c hc => by simp at hc⟩
  unfold twoM
  split
  · exact ⟨b0, hx, hy, trivial⟩
  · exact ⟨b0, trivial⟩
end Go.Sy
end

section
set_option maxRecDepth 100000
namespace Go.Sy
open Go.Ev Go.Proofs
variable {base : CallF}
theorem ty2a : Go.Ev.isAgg Tryd.prog 2 = some false := by kernel_rfl
theorem ty2s : Go.Ev.sizeOf Tryd.prog 2 = some 1 := by kernel_rfl
theorem onER_gen {f : St → ER} {st : St} {K : AV → St → Prop} (h : ∀ u, u = st → onER (f u) K) : onER (f st) K := h st rfl
/-- what holds behind a call that reads an expression -/
def PostC (ts : List Tk) (p b d : Nat) (st : St) (r : PR) (K Kp : AV → St → Prop) : Prop :=
  match r with
  | .ok x j => j < ts.length → x.wf → ∀ s1 cs, But st s1 p → Pk s1 p b ts j d → ExP (st.nx ≤ ·) s1 cs x → K (.agg cs) s1
  | .er t => ∀ s1, But st s1 p → Kp (fltV t) s1
def PrefC (base : CallF) (ts : List Tk) (n : Nat) : Prop := ∀ (i d p b : Nat) (r : PR) (st : St) (K Kp : AV → St → Prop), prefM ts n i d = some r → Pk st p b ts i d → i < ts.length → d ≤ 60 → PostC ts p b d st r K Kp → XB Tryd.prog base 48 [.ptr p 0] st K Kp
def ValC (base : CallF) (ts : List Tk) (n : Nat) : Prop := ∀ (i d p b : Nat) (r : PR) (st : St) (K Kp : AV → St → Prop), valM ts n i d = some r → Pk st p b ts i d → i < ts.length → d ≤ 60 → PostC ts p b d st r K Kp → XB Tryd.prog base 63 [.ptr p 0] st K Kp
def ExprC (base : CallF) (ts : List Tk) (n : Nat) : Prop := ∀ (lv : List Lev) (v : AV) (i d p b : Nat) (r : PR) (st : St) (K Kp : AV → St → Prop), exprM ts n lv i d = some r → Pk st p b ts i d → LvV (· ≠ p) st v lv → i < ts.length → d ≤ 60 → PostC ts p b d st r K Kp → XB Tryd.prog base 27 [.ptr p 0, v] st K Kp
theorem ExP.leafW {φ : Nat → Prop} {s : St} (op num : Int) (nm : List Nat) (l c : Int) : ExP φ s [.int .i64 op, .int .i64 num, .str nm, .nils, .int .i64 l, .int .i64 c] (.mk op num nm [] l c) := ExP.leaf op num nm l c
theorem byt0 : Byt [] := ⟨by decide, fun c hc => by simp at hc⟩
theorem val_ok (hb : NB base) {ts : List Tk} (W : Wds ts) {n : Nat} (IH : ExprC base ts n) : ValC base ts (n + 1) := by
  intro i d p b r st K Kp hr P hi hd hQ
  have hlen := W.len
  refine fn_ruleXB x63 (by rfl) (hb.at _ (by decide) _ _) ?_
  simp only [y63, entry, List.map_cons, List.map_nil, List.getD_cons_zero, List.getD_cons_succ]
  unfold z63
  have P := P.bare
  have hE : ∀ s, Kept st.bare s → Kept st (bk st s) := fun s k => ⟨k.nx, rfl, k.keep⟩
  have hB : ∀ s c, But st.bare s c → But st (bk st s) c := fun s c k => ⟨k.nx, rfl, k.keep⟩
  have hS0 : bk st st.bare = st := rfl
  have hnx0 : st.bare.nx = st.nx := rfl
  have hfr0 : st.bare.fr = [] := rfl
  generalize st.bare = s0 at *
  have hp := P.lt
  have hbl := P.ts.lt
  simp (disch := first | decide | assumption | omega | (simp only [nx_nw, nx_wr, nx_ap, nx_bare]; first | done | omega) | (simp (disch := first | assumption | omega | (simp only [nx_nw, nx_wr, nx_ap, nx_bare]; first | done | omega)) only [rRu, List.length_cons, List.length_nil]; first | done | omega | decide)) only [Nat.reduceAdd, Nat.reduceSub, Nat.reduceMul, Nat.zero_add, a_new, a_box, a_st, a_ldA, rats_nwE, rats_nwO, rats_wr, rats_wrO, upd_nil, upd_00, upd_0, upd_S, upd_e, nx_nw, nx_wr, nx_ap, nx_bare, h_bare, len_nwE, len_nwO, len_wr, at_nwE, at_nwO, at_wr, at_wrB, at_wrA, at_wrO, cells_agg, cells_int, cells_str, cells_bool, cells_slice, cells_nils, cells_ptr, a_build0, a_buildc, a_bS, a_bS0, a_bSc, rep_0, rep_S, i_buildP, i_buildSP, r_ps0, r_ps1, i_fnA, i_slS1, i_slS2, i_slS3, v_idxS0, v_iface, r_resA, r_dops, r_dnil, r_dcons0, r_dcons1, h_0, h_1, h_rw, h_wr, h_n1, h_n2, lg_0, lg_S, te_0, te_1, te_2, vl_c, vl_l, vl_ls, vl_g, vl_gs, true_and, and_true, and_self, List.getD_cons_zero, List.getD_cons_succ, rRx, rRd, rRe, rRf, Bool.not_true, Bool.not_false, List.cons_append, List.nil_append, List.append_nil]
  refine XB.gen fun u hu => ?_
  have k0 : Kept s0 u := by (first | rw [hu] | skip); repeat' (first | exact Kept.refl _ | assumption | refine Kept.nw ?_ _ | (refine Kept.wrS ?_ ?_; (first | omega | (simp only [nx_nw, nx_wr, nx_ap, nx_bare]; omega))) | (refine Kept.apS ?_ ?_; (first | omega | (simp only [nx_nw, nx_wr, nx_ap, nx_bare]; omega))))
  have C0 : Cl u s0.nx zE := by rw [hu]; exact Cl.new s0 zE
  clear hu
  have P := P.kept k0
  generalize hrb : s0.nx = rb at *
  refine (now_ok hb _ P hi _ fun s1 k1 => ?_).x
  have k01 := k0.trans k1
  have P := P.kept k1
  have C0 := C0.kept k1
  have hp := P.lt
  have hbl := P.ts.lt
  have L0 := C0.lt
  have g3 := tk_3 (tk ts i)
  have g4 := tk_4 (tk ts i)
  simp (disch := first | decide | assumption | omega | (simp only [nx_nw, nx_wr, nx_ap, nx_bare]; first | done | omega) | (simp (disch := first | assumption | omega | (simp only [nx_nw, nx_wr, nx_ap, nx_bare]; first | done | omega)) only [tk_len, cell_tk, rRu, List.length_cons, List.length_nil]; first | done | omega | decide)) only [tk_0, tk_3, tk_4, tk_len, cell_tk, Nat.reduceAdd, Nat.reduceSub, Nat.reduceMul, Nat.zero_add, a_new, a_box, a_st, a_ldA, rats_nwE, rats_nwO, rats_wr, rats_wrO, upd_nil, upd_00, upd_0, upd_S, upd_e, nx_nw, nx_wr, nx_ap, nx_bare, h_bare, len_nwE, len_nwO, len_wr, at_nwE, at_nwO, at_wr, at_wrB, at_wrA, at_wrO, cells_agg, cells_int, cells_str, cells_bool, cells_slice, cells_nils, cells_ptr, a_build0, a_buildc, a_bS, a_bS0, a_bSc, rep_0, rep_S, i_buildP, i_buildSP, r_ps0, r_ps1, i_fnA, i_slS1, i_slS2, i_slS3, v_idxS0, v_iface, r_resA, r_dops, r_dnil, r_dcons0, r_dcons1, h_0, h_1, h_rw, h_wr, h_n1, h_n2, lg_0, lg_S, te_0, te_1, te_2, vl_c, vl_l, vl_ls, vl_g, vl_gs, true_and, and_true, and_self, List.getD_cons_zero, List.getD_cons_succ, rRx, rRd, rRe, rRf, Bool.not_true, Bool.not_false, List.cons_append, List.nil_append, List.append_nil]
  refine onER_gen fun u2 hu => ?_
  have k2 : Kept s1 u2 := by (first | rw [hu] | skip); repeat' (first | exact Kept.refl _ | assumption | refine Kept.nw ?_ _ | (refine Kept.wrS ?_ ?_; (first | omega | (simp only [nx_nw, nx_wr, nx_ap, nx_bare]; omega))) | (refine Kept.apS ?_ ?_; (first | omega | (simp only [nx_nw, nx_wr, nx_ap, nx_bare]; omega))))
  have C1 : Cl u2 s1.nx (tk ts i).cells := by ((first | rw [hu] | skip); refine Cl.of_rats (k := 5) ?_ ?_ ?_ (by decide) ?_ <;> first | (simp (disch := first | decide | assumption | omega | (simp only [nx_nw, nx_wr, nx_ap, nx_bare]; first | done | omega) | (simp (disch := first | assumption | omega | (simp only [nx_nw, nx_wr, nx_ap, nx_bare]; first | done | omega)) only [cell_tk, tk_len, rRu, List.length_cons, List.length_nil]; first | done | omega | decide)) only [cell_tk, tk_len, Nat.reduceAdd, Nat.reduceSub, Nat.reduceMul, Nat.zero_add, a_new, a_box, a_st, a_ldA, rats_nwE, rats_nwO, rats_wr, rats_wrO, upd_nil, upd_00, upd_0, upd_S, upd_e, nx_nw, nx_wr, nx_ap, nx_bare, h_bare, len_nwE, len_nwO, len_wr, at_nwE, at_nwO, at_wr, at_wrB, at_wrA, at_wrO, cells_agg, cells_int, cells_str, cells_bool, cells_slice, cells_nils, cells_ptr, a_build0, a_buildc, a_bS, a_bS0, a_bSc, rep_0, rep_S, i_buildP, i_buildSP, r_ps0, r_ps1, i_fnA, i_slS1, i_slS2, i_slS3, v_idxS0, v_iface, r_resA, r_dops, r_dnil, r_dcons0, r_dcons1, h_0, h_1, h_rw, h_wr, h_n1, h_n2, lg_0, lg_S, te_0, te_1, te_2, vl_c, vl_l, vl_ls, vl_g, vl_gs, true_and, and_true, and_self, List.getD_cons_zero, List.getD_cons_succ] <;> first | done | omega | rfl) | rfl)
  have C2 : Cl u2 (s1.nx + 1) [.int .i64 0, .int .i64 0, .str [], .nils, .int .i64 ((tk ts i).line : Int), .int .i64 ((tk ts i).col : Int)] := by ((first | rw [hu] | skip); refine Cl.of_rats (k := 6) ?_ ?_ ?_ (by decide) ?_ <;> first | (simp (disch := first | decide | assumption | omega | (simp only [nx_nw, nx_wr, nx_ap, nx_bare]; first | done | omega) | (simp (disch := first | assumption | omega | (simp only [nx_nw, nx_wr, nx_ap, nx_bare]; first | done | omega)) only [cell_tk, tk_len, rRu, List.length_cons, List.length_nil]; first | done | omega | decide)) only [cell_tk, tk_len, Nat.reduceAdd, Nat.reduceSub, Nat.reduceMul, Nat.zero_add, a_new, a_box, a_st, a_ldA, rats_nwE, rats_nwO, rats_wr, rats_wrO, upd_nil, upd_00, upd_0, upd_S, upd_e, nx_nw, nx_wr, nx_ap, nx_bare, h_bare, len_nwE, len_nwO, len_wr, at_nwE, at_nwO, at_wr, at_wrB, at_wrA, at_wrO, cells_agg, cells_int, cells_str, cells_bool, cells_slice, cells_nils, cells_ptr, a_build0, a_buildc, a_bS, a_bS0, a_bSc, rep_0, rep_S, i_buildP, i_buildSP, r_ps0, r_ps1, i_fnA, i_slS1, i_slS2, i_slS3, v_idxS0, v_iface, r_resA, r_dops, r_dnil, r_dcons0, r_dcons1, h_0, h_1, h_rw, h_wr, h_n1, h_n2, lg_0, lg_S, te_0, te_1, te_2, vl_c, vl_l, vl_ls, vl_g, vl_gs, true_and, and_true, and_self, List.getD_cons_zero, List.getD_cons_succ] <;> first | done | omega | rfl) | rfl)
  clear hu
  have k02 := k01.trans k2
  have P := P.kept k2
  have C0 := C0.kept k2
  have nr1 : rb ≠ s1.nx := by omega
  have nr2 : rb ≠ s1.nx + 1 := by omega
  have n01 := k01.nx
  generalize htb : s1.nx = tb at *
  have hp := P.lt
  have hbl := P.ts.lt
  have L0 := C0.lt
  have L1 := C1.lt
  have L2 := C2.lt
  have t2 : rat u2.h tb 2 = .int .i64 ((tk ts i).num : Int) := C1.cell 2 (Nat.succ_lt_succ (Nat.succ_lt_succ (Nat.succ_pos 2)))
  have t1 : rat u2.h tb 1 = .str (tk ts i).text := C1.cell 1 (Nat.succ_lt_succ (Nat.succ_pos 3))
  have r1 := C1.rats0 (tk_len _)
  have r2 := C2.rats0 (k := 6) rfl
  have l0 := C0.len
  have l1 := C1.len
  have l2 := C2.len
  rw [zE_len] at l0
  rw [tk_len] at l1
  have l2 : rlen u2.h (tb + 1) = 6 := l2
  have fin : ∀ (x : Ex) (cx : List AV) (s : St), But s0 s p → Pk s p b ts (i + 1) d → ExP (st.nx ≤ ·) s cx x → x.wf → r = .ok x (i + 1) → i + 1 < ts.length → K (.agg cx) (bk st s) := fun x cx s hBu hPk hEx hwf hrr hlt => by
    rw [hrr] at hQ
    exact hQ hlt hwf _ _ (hB _ _ hBu) (hPk.bk st) (hEx.bk st)
  have BU : But s0 u2 p := But.of p k02
  by_cases q2 : (tk ts i).kind = 2
  · have q2' : ((tk ts i).kind : Int) = 2 := by omega
    have hlt := W.next i hi (by omega)
    have hr' : r = .ok (.mk 1 (tk ts i).num [] [] (tk ts i).line (tk ts i).col) (i + 1) := by
      unfold valM at hr
      rw [if_pos q2] at hr
      exact (Option.some.inj hr).symm
    have hs1 : sameAt Tryd.prog 2 (.ptr tb 2) (.int .i64 ((tk ts i).num : Int)) u2.h = true := same_1 ty2a ty2s (by omega) t2 rfl
    have hs2 : sameAt Tryd.prog 2 (.ptr tb 2) (.int .i64 ((tk ts i).num : Int)) (wr u2 (tb + 1) 0 [.int .i64 1]).h = true := same_1 ty2a ty2s (by rw [len_wr]; omega) (by rw [at_wrO (by omega)]; exact t2) rfl
    simp (disch := first | decide | assumption | omega | (simp only [nx_nw, nx_wr, nx_ap, nx_bare]; first | done | omega) | (simp (disch := first | assumption | omega | (simp only [nx_nw, nx_wr, nx_ap, nx_bare]; first | done | omega)) only [l0, l1, l2, P.len, rRu, List.length_cons, List.length_nil]; first | done | omega | decide)) only [t2, hs1, hs2, r2, rats_upd, P.c1, v_addN, l0, l1, l2, P.len, Nat.reduceAdd, Nat.reduceSub, Nat.reduceMul, Nat.zero_add, a_new, a_box, a_st, a_ldA, rats_nwE, rats_nwO, rats_wr, rats_wrO, upd_nil, upd_00, upd_0, upd_S, upd_e, nx_nw, nx_wr, nx_ap, nx_bare, h_bare, len_nwE, len_nwO, len_wr, at_nwE, at_nwO, at_wr, at_wrB, at_wrA, at_wrO, cells_agg, cells_int, cells_str, cells_bool, cells_slice, cells_nils, cells_ptr, a_build0, a_buildc, a_bS, a_bS0, a_bSc, rep_0, rep_S, i_buildP, i_buildSP, r_ps0, r_ps1, i_fnA, i_slS1, i_slS2, i_slS3, v_idxS0, v_iface, r_resA, r_dops, r_dnil, r_dcons0, r_dcons1, h_0, h_1, h_rw, h_wr, h_n1, h_n2, lg_0, lg_S, te_0, te_1, te_2, vl_c, vl_l, vl_ls, vl_g, vl_gs, true_and, and_true, and_self, List.getD_cons_zero, List.getD_cons_succ, rRx, rRd, rRe, rRf, Bool.not_true, Bool.not_false, List.cons_append, List.nil_append, List.append_nil]
    exact fin _ _ _ (by (first | rw [hu] | skip); repeat' (first | exact But.refl _ _ | assumption | refine But.nw ?_ _ | refine But.wrC ?_ _ _ | (refine But.wrS ?_ ?_; (first | omega | (simp only [nx_nw, nx_wr, nx_ap, nx_bare]; omega))))) (by repeat' (first | exact P | (refine Pk.wrS ?_ ?_ ?_; (first | omega | (simp only [nx_nw, nx_wr, nx_ap, nx_bare]; omega)); (first | omega | (simp only [nx_nw, nx_wr, nx_ap, nx_bare]; omega))) | refine Pk.put1 (i := i) ?_ _ | refine Pk.put2 (d := d) ?_ _ | refine Pk.nw ?_ _)) (ExP.leafW 1 _ [] _ _) ⟨byt0, trivial⟩ hr' hlt
  have q2' : ((tk ts i).kind : Int) ≠ 2 := by omega
  by_cases q1 : (tk ts i).kind = 1
  · have q1' : ((tk ts i).kind : Int) = 1 := by omega
    have hlt := W.next i hi (by omega)
    have hr' : r = .ok (.mk 3 0 (tk ts i).text [] (tk ts i).line (tk ts i).col) (i + 1) := by
      unfold valM at hr
      rw [if_neg q2, if_pos q1] at hr
      exact (Option.some.inj hr).symm
    have hs1 : sameAt Tryd.prog 9 (.ptr tb 1) (.str (tk ts i).text) u2.h = true := same_1 ty9a ty9s (by omega) t1 rfl
    have hs2 : sameAt Tryd.prog 9 (.ptr tb 1) (.str (tk ts i).text) (wr u2 (tb + 1) 0 [.int .i64 3]).h = true := same_1 ty9a ty9s (by rw [len_wr]; omega) (by rw [at_wrO (by omega)]; exact t1) rfl
    have t0 : rat u2.h tb 0 = .int .i64 ((tk ts i).kind : Int) := C1.cell 0 (Nat.succ_pos 4)
    simp (disch := first | decide | assumption | omega | (simp only [nx_nw, nx_wr, nx_ap, nx_bare]; first | done | omega) | (simp (disch := first | assumption | omega | (simp only [nx_nw, nx_wr, nx_ap, nx_bare]; first | done | omega)) only [l0, l1, l2, P.len, rRu, List.length_cons, List.length_nil]; first | done | omega | decide)) only [t0, t1, hs1, hs2, r2, rats_upd, P.c1, v_addN, l0, l1, l2, P.len, Nat.reduceAdd, Nat.reduceSub, Nat.reduceMul, Nat.zero_add, a_new, a_box, a_st, a_ldA, rats_nwE, rats_nwO, rats_wr, rats_wrO, upd_nil, upd_00, upd_0, upd_S, upd_e, nx_nw, nx_wr, nx_ap, nx_bare, h_bare, len_nwE, len_nwO, len_wr, at_nwE, at_nwO, at_wr, at_wrB, at_wrA, at_wrO, cells_agg, cells_int, cells_str, cells_bool, cells_slice, cells_nils, cells_ptr, a_build0, a_buildc, a_bS, a_bS0, a_bSc, rep_0, rep_S, i_buildP, i_buildSP, r_ps0, r_ps1, i_fnA, i_slS1, i_slS2, i_slS3, v_idxS0, v_iface, r_resA, r_dops, r_dnil, r_dcons0, r_dcons1, h_0, h_1, h_rw, h_wr, h_n1, h_n2, lg_0, lg_S, te_0, te_1, te_2, vl_c, vl_l, vl_ls, vl_g, vl_gs, true_and, and_true, and_self, List.getD_cons_zero, List.getD_cons_succ, rRx, rRd, rRe, rRf, Bool.not_true, Bool.not_false, List.cons_append, List.nil_append, List.append_nil]
    exact fin _ _ _ (by (first | rw [hu] | skip); repeat' (first | exact But.refl _ _ | assumption | refine But.nw ?_ _ | refine But.wrC ?_ _ _ | (refine But.wrS ?_ ?_; (first | omega | (simp only [nx_nw, nx_wr, nx_ap, nx_bare]; omega))))) (by repeat' (first | exact P | (refine Pk.wrS ?_ ?_ ?_; (first | omega | (simp only [nx_nw, nx_wr, nx_ap, nx_bare]; omega)); (first | omega | (simp only [nx_nw, nx_wr, nx_ap, nx_bare]; omega))) | refine Pk.put1 (i := i) ?_ _ | refine Pk.put2 (d := d) ?_ _ | refine Pk.nw ?_ _)) (ExP.leafW 3 0 _ _ _) ⟨W.byt i, trivial⟩ hr' hlt
  have q1' : ((tk ts i).kind : Int) ≠ 1 := by omega
  have t0 : rat u2.h tb 0 = .int .i64 ((tk ts i).kind : Int) := C1.cell 0 (Nat.succ_pos 4)
  simp (disch := first | decide | assumption | omega | (simp only [nx_nw, nx_wr, nx_ap, nx_bare]; first | done | omega) | (simp (disch := first | assumption | omega | (simp only [nx_nw, nx_wr, nx_ap, nx_bare]; first | done | omega)) only [l1, rRu, List.length_cons, List.length_nil]; first | done | omega | decide)) only [t0, r1, l1, Nat.reduceAdd, Nat.reduceSub, Nat.reduceMul, Nat.zero_add, a_new, a_box, a_st, a_ldA, rats_nwE, rats_nwO, rats_wr, rats_wrO, upd_nil, upd_00, upd_0, upd_S, upd_e, nx_nw, nx_wr, nx_ap, nx_bare, h_bare, len_nwE, len_nwO, len_wr, at_nwE, at_nwO, at_wr, at_wrB, at_wrA, at_wrO, cells_agg, cells_int, cells_str, cells_bool, cells_slice, cells_nils, cells_ptr, a_build0, a_buildc, a_bS, a_bS0, a_bSc, rep_0, rep_S, i_buildP, i_buildSP, r_ps0, r_ps1, i_fnA, i_slS1, i_slS2, i_slS3, v_idxS0, v_iface, r_resA, r_dops, r_dnil, r_dcons0, r_dcons1, h_0, h_1, h_rw, h_wr, h_n1, h_n2, lg_0, lg_S, te_0, te_1, te_2, vl_c, vl_l, vl_ls, vl_g, vl_gs, true_and, and_true, and_self, List.getD_cons_zero, List.getD_cons_succ, rRx, rRd, rRe, rRf, Bool.not_true, Bool.not_false, List.cons_append, List.nil_append, List.append_nil]
  refine XB.gen fun u3 hu => ?_
  have k3 : Kept u2 u3 := by (first | rw [hu] | skip); repeat' (first | exact Kept.refl _ | assumption | refine Kept.nw ?_ _ | (refine Kept.wrS ?_ ?_; (first | omega | (simp only [nx_nw, nx_wr, nx_ap, nx_bare]; omega))) | (refine Kept.apS ?_ ?_; (first | omega | (simp only [nx_nw, nx_wr, nx_ap, nx_bare]; omega))))
  have S1 : SS u3 (.slice u2.nx 0 1 1 1 true) [[116, 114, 117, 101]] := by rw [hu]; exact SS.new u2 [[116, 114, 117, 101]]
  clear hu
  refine (is_ok hb (tk ts i) (by simp) _ S1 _ fun s4 k4 => ?_).x
  have k24 := k3.trans k4
  have k04 := k02.trans k24
  clear S1 k3 k4
  have P := P.kept k24
  have C0 := C0.kept k24
  have C1 := C1.kept k24
  have C2 := C2.kept k24
  have BU : But s0 s4 p := But.of p k04
  have hp := P.lt
  have hbl := P.ts.lt
  have L0 := C0.lt
  have L1 := C1.lt
  have L2 := C2.lt
  have r1 := C1.rats0 (tk_len _)
  have r2 := C2.rats0 (k := 6) rfl
  have l0 : rlen s4.h rb = 6 := C0.len
  have l1 : rlen s4.h tb = 5 := C1.len
  have l2 : rlen s4.h (tb + 1) = 6 := C2.len
  cases qt : isM (tk ts i) [[116, 114, 117, 101]] with
  | true =>
    have hlt := W.isM hi qt
    have hr' : r = .ok (.mk 2 1 [] [] (tk ts i).line (tk ts i).col) (i + 1) := by
      unfold valM at hr
      rw [if_neg q2, if_neg q1, if_pos qt] at hr
      exact (Option.some.inj hr).symm
    simp (disch := first | decide | assumption | omega | (simp only [nx_nw, nx_wr, nx_ap, nx_bare]; first | done | omega) | (simp (disch := first | assumption | omega | (simp only [nx_nw, nx_wr, nx_ap, nx_bare]; first | done | omega)) only [l0, l1, l2, P.len, rRu, List.length_cons, List.length_nil]; first | done | omega | decide)) only [r2, rats_upd, P.c1, v_addN, l0, l1, l2, P.len, Nat.reduceAdd, Nat.reduceSub, Nat.reduceMul, Nat.zero_add, a_new, a_box, a_st, a_ldA, rats_nwE, rats_nwO, rats_wr, rats_wrO, upd_nil, upd_00, upd_0, upd_S, upd_e, nx_nw, nx_wr, nx_ap, nx_bare, h_bare, len_nwE, len_nwO, len_wr, at_nwE, at_nwO, at_wr, at_wrB, at_wrA, at_wrO, cells_agg, cells_int, cells_str, cells_bool, cells_slice, cells_nils, cells_ptr, a_build0, a_buildc, a_bS, a_bS0, a_bSc, rep_0, rep_S, i_buildP, i_buildSP, r_ps0, r_ps1, i_fnA, i_slS1, i_slS2, i_slS3, v_idxS0, v_iface, r_resA, r_dops, r_dnil, r_dcons0, r_dcons1, h_0, h_1, h_rw, h_wr, h_n1, h_n2, lg_0, lg_S, te_0, te_1, te_2, vl_c, vl_l, vl_ls, vl_g, vl_gs, true_and, and_true, and_self, List.getD_cons_zero, List.getD_cons_succ, rRx, rRd, rRe, rRf, Bool.not_true, Bool.not_false, List.cons_append, List.nil_append, List.append_nil]
    exact fin _ _ _ (by (first | rw [hu] | skip); repeat' (first | exact But.refl _ _ | assumption | refine But.nw ?_ _ | refine But.wrC ?_ _ _ | (refine But.wrS ?_ ?_; (first | omega | (simp only [nx_nw, nx_wr, nx_ap, nx_bare]; omega))))) (by repeat' (first | exact P | (refine Pk.wrS ?_ ?_ ?_; (first | omega | (simp only [nx_nw, nx_wr, nx_ap, nx_bare]; omega)); (first | omega | (simp only [nx_nw, nx_wr, nx_ap, nx_bare]; omega))) | refine Pk.put1 (i := i) ?_ _ | refine Pk.put2 (d := d) ?_ _ | refine Pk.nw ?_ _)) (ExP.leafW 2 1 _ _ _) ⟨byt0, trivial⟩ hr' hlt
  | false =>
    simp (disch := first | decide | assumption | omega | (simp only [nx_nw, nx_wr, nx_ap, nx_bare]; first | done | omega) | (simp (disch := first | assumption | omega | (simp only [nx_nw, nx_wr, nx_ap, nx_bare]; first | done | omega)) only [l1, rRu, List.length_cons, List.length_nil]; first | done | omega | decide)) only [r1, l1, Nat.reduceAdd, Nat.reduceSub, Nat.reduceMul, Nat.zero_add, a_new, a_box, a_st, a_ldA, rats_nwE, rats_nwO, rats_wr, rats_wrO, upd_nil, upd_00, upd_0, upd_S, upd_e, nx_nw, nx_wr, nx_ap, nx_bare, h_bare, len_nwE, len_nwO, len_wr, at_nwE, at_nwO, at_wr, at_wrB, at_wrA, at_wrO, cells_agg, cells_int, cells_str, cells_bool, cells_slice, cells_nils, cells_ptr, a_build0, a_buildc, a_bS, a_bS0, a_bSc, rep_0, rep_S, i_buildP, i_buildSP, r_ps0, r_ps1, i_fnA, i_slS1, i_slS2, i_slS3, v_idxS0, v_iface, r_resA, r_dops, r_dnil, r_dcons0, r_dcons1, h_0, h_1, h_rw, h_wr, h_n1, h_n2, lg_0, lg_S, te_0, te_1, te_2, vl_c, vl_l, vl_ls, vl_g, vl_gs, true_and, and_true, and_self, List.getD_cons_zero, List.getD_cons_succ, rRx, rRd, rRe, rRf, Bool.not_true, Bool.not_false, List.cons_append, List.nil_append, List.append_nil]
    refine XB.gen fun u5 hu => ?_
    have k5 : Kept s4 u5 := by (first | rw [hu] | skip); repeat' (first | exact Kept.refl _ | assumption | refine Kept.nw ?_ _ | (refine Kept.wrS ?_ ?_; (first | omega | (simp only [nx_nw, nx_wr, nx_ap, nx_bare]; omega))) | (refine Kept.apS ?_ ?_; (first | omega | (simp only [nx_nw, nx_wr, nx_ap, nx_bare]; omega))))
    have S1 : SS u5 (.slice s4.nx 0 1 1 1 true) [[102, 97, 108, 115, 101]] := by rw [hu]; exact SS.new s4 [[102, 97, 108, 115, 101]]
    clear hu
    refine (is_ok hb (tk ts i) (by simp) _ S1 _ fun s6 k6 => ?_).x
    have k46 := k5.trans k6
    have k06 := k04.trans k46
    clear S1 k5 k6
    have P := P.kept k46
    have C0 := C0.kept k46
    have C1 := C1.kept k46
    have C2 := C2.kept k46
    have BU : But s0 s6 p := But.of p k06
    have hp := P.lt
    have hbl := P.ts.lt
    have L0 := C0.lt
    have L1 := C1.lt
    have L2 := C2.lt
    have r1 := C1.rats0 (tk_len _)
    have r2 := C2.rats0 (k := 6) rfl
    have l0 : rlen s6.h rb = 6 := C0.len
    have l1 : rlen s6.h tb = 5 := C1.len
    have l2 : rlen s6.h (tb + 1) = 6 := C2.len
    cases qf : isM (tk ts i) [[102, 97, 108, 115, 101]] with
    | true =>
      have hlt := W.isM hi qf
      have hr' : r = .ok (.mk 2 0 [] [] (tk ts i).line (tk ts i).col) (i + 1) := by
        unfold valM at hr
        rw [if_neg q2, if_neg q1, if_neg (by rw [qt]; decide), if_pos qf] at hr
        exact (Option.some.inj hr).symm
      simp (disch := first | decide | assumption | omega | (simp only [nx_nw, nx_wr, nx_ap, nx_bare]; first | done | omega) | (simp (disch := first | assumption | omega | (simp only [nx_nw, nx_wr, nx_ap, nx_bare]; first | done | omega)) only [l0, l1, l2, P.len, rRu, List.length_cons, List.length_nil]; first | done | omega | decide)) only [r2, rats_upd, P.c1, v_addN, l0, l1, l2, P.len, Nat.reduceAdd, Nat.reduceSub, Nat.reduceMul, Nat.zero_add, a_new, a_box, a_st, a_ldA, rats_nwE, rats_nwO, rats_wr, rats_wrO, upd_nil, upd_00, upd_0, upd_S, upd_e, nx_nw, nx_wr, nx_ap, nx_bare, h_bare, len_nwE, len_nwO, len_wr, at_nwE, at_nwO, at_wr, at_wrB, at_wrA, at_wrO, cells_agg, cells_int, cells_str, cells_bool, cells_slice, cells_nils, cells_ptr, a_build0, a_buildc, a_bS, a_bS0, a_bSc, rep_0, rep_S, i_buildP, i_buildSP, r_ps0, r_ps1, i_fnA, i_slS1, i_slS2, i_slS3, v_idxS0, v_iface, r_resA, r_dops, r_dnil, r_dcons0, r_dcons1, h_0, h_1, h_rw, h_wr, h_n1, h_n2, lg_0, lg_S, te_0, te_1, te_2, vl_c, vl_l, vl_ls, vl_g, vl_gs, true_and, and_true, and_self, List.getD_cons_zero, List.getD_cons_succ, rRx, rRd, rRe, rRf, Bool.not_true, Bool.not_false, List.cons_append, List.nil_append, List.append_nil]
      exact fin _ _ _ (by (first | rw [hu] | skip); repeat' (first | exact But.refl _ _ | assumption | refine But.nw ?_ _ | refine But.wrC ?_ _ _ | (refine But.wrS ?_ ?_; (first | omega | (simp only [nx_nw, nx_wr, nx_ap, nx_bare]; omega))))) (by repeat' (first | exact P | (refine Pk.wrS ?_ ?_ ?_; (first | omega | (simp only [nx_nw, nx_wr, nx_ap, nx_bare]; omega)); (first | omega | (simp only [nx_nw, nx_wr, nx_ap, nx_bare]; omega))) | refine Pk.put1 (i := i) ?_ _ | refine Pk.put2 (d := d) ?_ _ | refine Pk.nw ?_ _)) (ExP.leafW 2 0 _ _ _) ⟨byt0, trivial⟩ hr' hlt
    | false =>
      simp (disch := first | decide | assumption | omega | (simp only [nx_nw, nx_wr, nx_ap, nx_bare]; first | done | omega) | (simp (disch := first | assumption | omega | (simp only [nx_nw, nx_wr, nx_ap, nx_bare]; first | done | omega)) only [l1, rRu, List.length_cons, List.length_nil]; first | done | omega | decide)) only [r1, l1, Nat.reduceAdd, Nat.reduceSub, Nat.reduceMul, Nat.zero_add, a_new, a_box, a_st, a_ldA, rats_nwE, rats_nwO, rats_wr, rats_wrO, upd_nil, upd_00, upd_0, upd_S, upd_e, nx_nw, nx_wr, nx_ap, nx_bare, h_bare, len_nwE, len_nwO, len_wr, at_nwE, at_nwO, at_wr, at_wrB, at_wrA, at_wrO, cells_agg, cells_int, cells_str, cells_bool, cells_slice, cells_nils, cells_ptr, a_build0, a_buildc, a_bS, a_bS0, a_bSc, rep_0, rep_S, i_buildP, i_buildSP, r_ps0, r_ps1, i_fnA, i_slS1, i_slS2, i_slS3, v_idxS0, v_iface, r_resA, r_dops, r_dnil, r_dcons0, r_dcons1, h_0, h_1, h_rw, h_wr, h_n1, h_n2, lg_0, lg_S, te_0, te_1, te_2, vl_c, vl_l, vl_ls, vl_g, vl_gs, true_and, and_true, and_self, List.getD_cons_zero, List.getD_cons_succ, rRx, rRd, rRe, rRf, Bool.not_true, Bool.not_false, List.cons_append, List.nil_append, List.append_nil]
      refine XB.gen fun u7 hu => ?_
      have k7 : Kept s6 u7 := by (first | rw [hu] | skip); repeat' (first | exact Kept.refl _ | assumption | refine Kept.nw ?_ _ | (refine Kept.wrS ?_ ?_; (first | omega | (simp only [nx_nw, nx_wr, nx_ap, nx_bare]; omega))) | (refine Kept.apS ?_ ?_; (first | omega | (simp only [nx_nw, nx_wr, nx_ap, nx_bare]; omega))))
      have S1 : SS u7 (.slice s6.nx 0 1 1 1 true) [[40]] := by rw [hu]; exact SS.new s6 [[40]]
      clear hu
      refine (is_ok hb (tk ts i) (by simp) _ S1 _ fun s8 k8 => ?_).x
      have k68 := k7.trans k8
      have k08 := k06.trans k68
      clear S1 k7 k8
      have P := P.kept k68
      have C0 := C0.kept k68
      have C1 := C1.kept k68
      have C2 := C2.kept k68
      have BU : But s0 s8 p := But.of p k08
      have hp := P.lt
      have hbl := P.ts.lt
      have L0 := C0.lt
      have L1 := C1.lt
      have L2 := C2.lt
      have r1 := C1.rats0 (tk_len _)
      have l0 : rlen s8.h rb = 6 := C0.len
      have l1 : rlen s8.h tb = 5 := C1.len
      have l2 : rlen s8.h (tb + 1) = 6 := C2.len
      cases qb : isM (tk ts i) [[40]] with
      | true =>
        simp (disch := first | decide | assumption | omega | (simp only [nx_nw, nx_wr, nx_ap, nx_bare]; first | done | omega) | (simp (disch := first | assumption | omega | (simp only [nx_nw, nx_wr, nx_ap, nx_bare]; first | done | omega)) only [P.len, rRu, List.length_cons, List.length_nil]; first | done | omega | decide)) only [P.c1, v_addN, P.len, Nat.reduceAdd, Nat.reduceSub, Nat.reduceMul, Nat.zero_add, a_new, a_box, a_st, a_ldA, rats_nwE, rats_nwO, rats_wr, rats_wrO, upd_nil, upd_00, upd_0, upd_S, upd_e, nx_nw, nx_wr, nx_ap, nx_bare, h_bare, len_nwE, len_nwO, len_wr, at_nwE, at_nwO, at_wr, at_wrB, at_wrA, at_wrO, cells_agg, cells_int, cells_str, cells_bool, cells_slice, cells_nils, cells_ptr, a_build0, a_buildc, a_bS, a_bS0, a_bSc, rep_0, rep_S, i_buildP, i_buildSP, r_ps0, r_ps1, i_fnA, i_slS1, i_slS2, i_slS3, v_idxS0, v_iface, r_resA, r_dops, r_dnil, r_dcons0, r_dcons1, h_0, h_1, h_rw, h_wr, h_n1, h_n2, lg_0, lg_S, te_0, te_1, te_2, vl_c, vl_l, vl_ls, vl_g, vl_gs, true_and, and_true, and_self, List.getD_cons_zero, List.getD_cons_succ, rRx, rRd, rRe, rRf, Bool.not_true, Bool.not_false, List.cons_append, List.nil_append, List.append_nil]
        refine XB.gen fun u9 hu => ?_
        have B9 : But s0 u9 p := by (first | rw [hu] | skip); repeat' (first | exact But.refl _ _ | assumption | refine But.nw ?_ _ | refine But.wrC ?_ _ _ | (refine But.wrS ?_ ?_; (first | omega | (simp only [nx_nw, nx_wr, nx_ap, nx_bare]; omega))))
        have P9 : Pk u9 p b ts (i + 1) d := by rw [hu]; repeat' (first | exact P | (refine Pk.wrS ?_ ?_ ?_; (first | omega | (simp only [nx_nw, nx_wr, nx_ap, nx_bare]; omega)); (first | omega | (simp only [nx_nw, nx_wr, nx_ap, nx_bare]; omega))) | refine Pk.put1 (i := i) ?_ _ | refine Pk.put2 (d := d) ?_ _ | refine Pk.nw ?_ _)
        have hlt := W.isM hi qb
        have Bl : But s8 u9 p := by rw [hu]; exact (But.refl _ _).wrC _ _
        have nk9 : s8.nx = u9.nx := by rw [hu]; rfl
        have C0 := C0.but Bl (by omega)
        have C1 := C1.but Bl (by omega)
        have C2 := C2.but Bl (by omega)
        clear hu
        have hr' : r = (if 60 < d + 1 then PR.er (tk ts (i + 1)) else r) := by
          by_cases h : 60 < d + 1
          · unfold valM at hr
            rw [if_neg q2, if_neg q1, if_neg (by rw [qt]; decide), if_neg (by rw [qf]; decide), if_pos qb, if_pos h] at hr
            rw [if_pos h]; exact (Option.some.inj hr).symm
          · rw [if_neg h]
        refine open_ok hb _ P9 hlt (by omega) _ _ (fun hd1 sA BA PA => ?_) fun hd1 sA BA => ?_
        · have hr2 : (match exprM ts n levelsM (i + 1) (d + 1) with
            | some (.ok x j) => if isM (tk ts j) [[41]] = true then some (PR.ok x (j + 1)) else some (.er (tk ts j))
            | r => r) = some r := by
            unfold valM at hr
            rw [if_neg q2, if_neg q1, if_neg (by rw [qt]; decide), if_neg (by rw [qf]; decide), if_pos qb, if_neg (by omega)] at hr
            exact hr
          have B0A := B9.trans BA
          have C0 := C0.but BA (by omega)
          have C1 := C1.but BA (by omega)
          have C2 := C2.but BA (by omega)
          simp (disch := first | decide | assumption | omega | (simp only [nx_nw, nx_wr, nx_ap, nx_bare]; first | done | omega) | (simp (disch := first | assumption | omega | (simp only [nx_nw, nx_wr, nx_ap, nx_bare]; first | done | omega)) only [rRu, List.length_cons, List.length_nil]; first | done | omega | decide)) only [Nat.reduceAdd, Nat.reduceSub, Nat.reduceMul, Nat.zero_add, a_new, a_box, a_st, a_ldA, rats_nwE, rats_nwO, rats_wr, rats_wrO, upd_nil, upd_00, upd_0, upd_S, upd_e, nx_nw, nx_wr, nx_ap, nx_bare, h_bare, len_nwE, len_nwO, len_wr, at_nwE, at_nwO, at_wr, at_wrB, at_wrA, at_wrO, cells_agg, cells_int, cells_str, cells_bool, cells_slice, cells_nils, cells_ptr, a_build0, a_buildc, a_bS, a_bS0, a_bSc, rep_0, rep_S, i_buildP, i_buildSP, r_ps0, r_ps1, i_fnA, i_slS1, i_slS2, i_slS3, v_idxS0, v_iface, r_resA, r_dops, r_dnil, r_dcons0, r_dcons1, h_0, h_1, h_rw, h_wr, h_n1, h_n2, lg_0, lg_S, te_0, te_1, te_2, vl_c, vl_l, vl_ls, vl_g, vl_gs, true_and, and_true, and_self, List.getD_cons_zero, List.getD_cons_succ, rRx, rRd, rRe, rRf, Bool.not_true, Bool.not_false, List.cons_append, List.nil_append, List.append_nil]
          have hpA := PA.lt
          refine (levels_ok hb (φ := (· ≠ p)) sA (fun b hb' => by omega) _ fun sB v kB LV => ?_).x
          simp (disch := first | decide | assumption | omega | (simp only [nx_nw, nx_wr, nx_ap, nx_bare]; first | done | omega) | (simp (disch := first | assumption | omega | (simp only [nx_nw, nx_wr, nx_ap, nx_bare]; first | done | omega)) only [rRu, List.length_cons, List.length_nil]; first | done | omega | decide)) only [Nat.reduceAdd, Nat.reduceSub, Nat.reduceMul, Nat.zero_add, a_new, a_box, a_st, a_ldA, rats_nwE, rats_nwO, rats_wr, rats_wrO, upd_nil, upd_00, upd_0, upd_S, upd_e, nx_nw, nx_wr, nx_ap, nx_bare, h_bare, len_nwE, len_nwO, len_wr, at_nwE, at_nwO, at_wr, at_wrB, at_wrA, at_wrO, cells_agg, cells_int, cells_str, cells_bool, cells_slice, cells_nils, cells_ptr, a_build0, a_buildc, a_bS, a_bS0, a_bSc, rep_0, rep_S, i_buildP, i_buildSP, r_ps0, r_ps1, i_fnA, i_slS1, i_slS2, i_slS3, v_idxS0, v_iface, r_resA, r_dops, r_dnil, r_dcons0, r_dcons1, h_0, h_1, h_rw, h_wr, h_n1, h_n2, lg_0, lg_S, te_0, te_1, te_2, vl_c, vl_l, vl_ls, vl_g, vl_gs, true_and, and_true, and_self, List.getD_cons_zero, List.getD_cons_succ, rRx, rRd, rRe, rRf, Bool.not_true, Bool.not_false, List.cons_append, List.nil_append, List.append_nil]
          have PB := PA.kept kB
          have C0 := C0.kept kB
          have B0B := B0A.kept kB
          cases hx : exprM ts n levelsM (i + 1) (d + 1) with
          | none => rw [hx] at hr2; cases hr2
          | some rx =>
            rw [hx] at hr2
            refine IH levelsM v (i + 1) (d + 1) p b rx sB _ _ hx PB LV hlt (by omega) ?_
            cases rx with
            | er t =>
              have hr3 : r = .er t := (Option.some.inj hr2).symm
              rw [hr3] at hQ
              intro sC BC
              exact hQ _ (hB _ _ (B0B.trans BC))
            | ok x j =>
              intro hj hwf sC cx BC PC EC
              have C0 := C0.but BC (by omega)
              have C2' : Cl sB (tb + 1) _ := C2.kept kB
              have C2 := C2'.but BC (by omega)
              have B0C := B0B.trans BC
              have lx := EC.len
              have qx := EC.lall
              have hpC := PC.lt
              have hbC := PC.ts.lt
              have L0 := C0.lt
              have L2 := C2.lt
              have l0 : rlen sC.h rb = 6 := C0.len
              have l2 : rlen sC.h (tb + 1) = 6 := C2.len
              have sb : ∀ (s : St) (K : AV → St → Prop), onER (binV .sub (.int .i64 ((d + 1 : Nat) : Int)) (.int .i64 1) s) K = K (.int .i64 (d : Int)) s := fun s K => by
                rw [v_sub (by omega) (by omega), show ((d + 1 : Nat) : Int) - 1 = (d : Int) by omega]
              simp (disch := first | decide | assumption | omega | (simp only [nx_nw, nx_wr, nx_ap, nx_bare]; first | done | omega) | (simp (disch := first | assumption | omega | (simp only [nx_nw, nx_wr, nx_ap, nx_bare]; first | done | omega)) only [PC.len, lx, qx, l2, rRu, List.length_cons, List.length_nil]; first | done | omega | decide)) only [PC.c2, sb, PC.len, lx, qx, l2, Nat.reduceAdd, Nat.reduceSub, Nat.reduceMul, Nat.zero_add, a_new, a_box, a_st, a_ldA, rats_nwE, rats_nwO, rats_wr, rats_wrO, upd_nil, upd_00, upd_0, upd_S, upd_e, nx_nw, nx_wr, nx_ap, nx_bare, h_bare, len_nwE, len_nwO, len_wr, at_nwE, at_nwO, at_wr, at_wrB, at_wrA, at_wrO, cells_agg, cells_int, cells_str, cells_bool, cells_slice, cells_nils, cells_ptr, a_build0, a_buildc, a_bS, a_bS0, a_bSc, rep_0, rep_S, i_buildP, i_buildSP, r_ps0, r_ps1, i_fnA, i_slS1, i_slS2, i_slS3, v_idxS0, v_iface, r_resA, r_dops, r_dnil, r_dcons0, r_dcons1, h_0, h_1, h_rw, h_wr, h_n1, h_n2, lg_0, lg_S, te_0, te_1, te_2, vl_c, vl_l, vl_ls, vl_g, vl_gs, true_and, and_true, and_self, List.getD_cons_zero, List.getD_cons_succ, rRx, rRd, rRe, rRf, Bool.not_true, Bool.not_false, List.cons_append, List.nil_append, List.append_nil]
              refine XB.gen fun u10 hu => ?_
              have nB := kB.nx
              have nA := BA.nx
              have n9 := Bl.nx
              have nk : s8.nx = u9.nx := by assumption
              have B10 : But s0 u10 p := by (first | rw [hu] | skip); repeat' (first | exact But.refl _ _ | assumption | refine But.nw ?_ _ | refine But.wrC ?_ _ _ | (refine But.wrS ?_ ?_; (first | omega | (simp only [nx_nw, nx_wr, nx_ap, nx_bare]; omega))))
              have P10 : Pk u10 p b ts j d := by rw [hu]; repeat' (first | exact PC | (refine Pk.wrS ?_ ?_ ?_; (first | omega | (simp only [nx_nw, nx_wr, nx_ap, nx_bare]; omega)); (first | omega | (simp only [nx_nw, nx_wr, nx_ap, nx_bare]; omega))) | refine Pk.put1 (i := j) ?_ _ | refine Pk.put2 (d := d + 1) ?_ _ | refine Pk.nw ?_ _)
              have R10 : Go.Sy.rats u10.h (tb + 1) 0 6 = cx := by rw [hu]; (simp (disch := first | decide | assumption | omega | (simp only [nx_nw, nx_wr, nx_ap, nx_bare]; first | done | omega) | (simp (disch := first | assumption | omega | (simp only [nx_nw, nx_wr, nx_ap, nx_bare]; first | done | omega)) only [lx, rRu, List.length_cons, List.length_nil]; first | done | omega | decide)) only [lx, Nat.reduceAdd, Nat.reduceSub, Nat.reduceMul, Nat.zero_add, a_new, a_box, a_st, a_ldA, rats_nwE, rats_nwO, rats_wr, rats_wrO, upd_nil, upd_00, upd_0, upd_S, upd_e, nx_nw, nx_wr, nx_ap, nx_bare, h_bare, len_nwE, len_nwO, len_wr, at_nwE, at_nwO, at_wr, at_wrB, at_wrA, at_wrO, cells_agg, cells_int, cells_str, cells_bool, cells_slice, cells_nils, cells_ptr, a_build0, a_buildc, a_bS, a_bS0, a_bSc, rep_0, rep_S, i_buildP, i_buildSP, r_ps0, r_ps1, i_fnA, i_slS1, i_slS2, i_slS3, v_idxS0, v_iface, r_resA, r_dops, r_dnil, r_dcons0, r_dcons1, h_0, h_1, h_rw, h_wr, h_n1, h_n2, lg_0, lg_S, te_0, te_1, te_2, vl_c, vl_l, vl_ls, vl_g, vl_gs, true_and, and_true, and_self, List.getD_cons_zero, List.getD_cons_succ] <;> first | done | omega | rfl)
              have F10 : Fs sB.nx sC u10 := by (first | rw [hu] | skip); repeat' (first | exact Fs.refl _ _ | assumption | refine Fs.nw ?_ _ | (refine Fs.wrS ?_ ?_; (first | omega | (simp only [nx_nw, nx_wr, nx_ap, nx_bare]; omega))))
              have E10 := EC.fs F10
              have C0 : Cl u10 rb zE := by rw [hu]; exact (C0.wrO (by omega) _ _).wrO (by omega) _ _
              have l2 : rlen u10.h (tb + 1) = 6 := by rw [hu, len_wr, len_wr]; exact l2
              have nC : sC.nx = u10.nx := by rw [hu]; rfl
              clear hu
              refine must_ok hb _ P10 hj (by omega) [41] _ _ (fun hm sD BD PD => ?_) fun hm sD BD => ?_
              · have hr2 : (if isM (tk ts j) [[41]] = true then some (PR.ok x (j + 1)) else some (.er (tk ts j))) = some r := hr2
                rw [if_pos hm] at hr2
                have hr3 : r = .ok x (j + 1) := (Option.some.inj hr2).symm
                rw [hr3] at hQ
                have kt : hget sD.h (tb + 1) = hget u10.h (tb + 1) := BD.keep _ (by omega) (by omega)
                have RD : Go.Sy.rats sD.h (tb + 1) 0 6 = cx := (rats_same kt 6 0).trans R10
                have l2 : rlen sD.h (tb + 1) = 6 := (rlen_same kt).trans l2
                have C0 := C0.but BD (by omega)
                have l0 : rlen sD.h rb = 6 := C0.len
                have L0 := C0.lt
                have hpD := PD.lt
                have hbD := PD.ts.lt
                have ED := E10.fs (Fs.ofB BD (by omega))
                have hjlt := W.isM hj hm
                have B0D := B10.trans BD
                simp (disch := first | decide | assumption | omega | (simp only [nx_nw, nx_wr, nx_ap, nx_bare]; first | done | omega) | (simp (disch := first | assumption | omega | (simp only [nx_nw, nx_wr, nx_ap, nx_bare]; first | done | omega)) only [l0, l2, lx, qx, rRu, List.length_cons, List.length_nil]; first | done | omega | decide)) only [RD, l0, l2, lx, qx, Nat.reduceAdd, Nat.reduceSub, Nat.reduceMul, Nat.zero_add, a_new, a_box, a_st, a_ldA, rats_nwE, rats_nwO, rats_wr, rats_wrO, upd_nil, upd_00, upd_0, upd_S, upd_e, nx_nw, nx_wr, nx_ap, nx_bare, h_bare, len_nwE, len_nwO, len_wr, at_nwE, at_nwO, at_wr, at_wrB, at_wrA, at_wrO, cells_agg, cells_int, cells_str, cells_bool, cells_slice, cells_nils, cells_ptr, a_build0, a_buildc, a_bS, a_bS0, a_bSc, rep_0, rep_S, i_buildP, i_buildSP, r_ps0, r_ps1, i_fnA, i_slS1, i_slS2, i_slS3, v_idxS0, v_iface, r_resA, r_dops, r_dnil, r_dcons0, r_dcons1, h_0, h_1, h_rw, h_wr, h_n1, h_n2, lg_0, lg_S, te_0, te_1, te_2, vl_c, vl_l, vl_ls, vl_g, vl_gs, true_and, and_true, and_self, List.getD_cons_zero, List.getD_cons_succ, rRx, rRd, rRe, rRf, Bool.not_true, Bool.not_false, List.cons_append, List.nil_append, List.append_nil]
                refine hQ hjlt hwf _ _ (hB _ _ (by (first | rw [hu] | skip); repeat' (first | exact But.refl _ _ | assumption | refine But.nw ?_ _ | refine But.wrC ?_ _ _ | (refine But.wrS ?_ ?_; (first | omega | (simp only [nx_nw, nx_wr, nx_ap, nx_bare]; omega)))))) (by refine Pk.bk ?_ st; repeat' (first | exact PD | (refine Pk.wrS ?_ ?_ ?_; (first | omega | (simp only [nx_nw, nx_wr, nx_ap, nx_bare]; omega)); (first | omega | (simp only [nx_nw, nx_wr, nx_ap, nx_bare]; omega))) | refine Pk.put1 (i := i) ?_ _ | refine Pk.put2 (d := d) ?_ _ | refine Pk.nw ?_ _)) ?_
                have FE : Fs sB.nx sD (wr sD rb 0 cx) := by (first | rw [hu] | skip); repeat' (first | exact Fs.refl _ _ | assumption | refine Fs.nw ?_ _ | (refine Fs.wrS ?_ ?_; (first | omega | (simp only [nx_nw, nx_wr, nx_ap, nx_bare]; omega))))
                exact ((ED.fs FE).weak (fun b _ hb' => by show st.nx ≤ b; have : sB.nx ≤ b := hb'; omega)).bk st
              · have hr2 : (if isM (tk ts j) [[41]] = true then some (PR.ok x (j + 1)) else some (.er (tk ts j))) = some r := hr2
                rw [if_neg (by rw [hm]; decide)] at hr2
                have hr3 : r = .er (tk ts j) := (Option.some.inj hr2).symm
                rw [hr3] at hQ
                exact hQ _ (hB _ _ (B10.trans BD))
        · rw [if_pos hd1] at hr'
          rw [hr'] at hQ
          exact hQ _ (hB _ _ (B9.trans BA))
      | false =>
        have hr' : r = .er (tk ts i) := by
          unfold valM at hr
          rw [if_neg q2, if_neg q1, if_neg (by rw [qt]; decide), if_neg (by rw [qf]; decide), if_neg (by rw [qb]; decide)] at hr
          exact (Option.some.inj hr).symm
        rw [hr'] at hQ
        simp (disch := first | decide | assumption | omega | (simp only [nx_nw, nx_wr, nx_ap, nx_bare]; first | done | omega) | (simp (disch := first | assumption | omega | (simp only [nx_nw, nx_wr, nx_ap, nx_bare]; first | done | omega)) only [l1, rRu, List.length_cons, List.length_nil]; first | done | omega | decide)) only [r1, l1, Nat.reduceAdd, Nat.reduceSub, Nat.reduceMul, Nat.zero_add, a_new, a_box, a_st, a_ldA, rats_nwE, rats_nwO, rats_wr, rats_wrO, upd_nil, upd_00, upd_0, upd_S, upd_e, nx_nw, nx_wr, nx_ap, nx_bare, h_bare, len_nwE, len_nwO, len_wr, at_nwE, at_nwO, at_wr, at_wrB, at_wrA, at_wrO, cells_agg, cells_int, cells_str, cells_bool, cells_slice, cells_nils, cells_ptr, a_build0, a_buildc, a_bS, a_bS0, a_bSc, rep_0, rep_S, i_buildP, i_buildSP, r_ps0, r_ps1, i_fnA, i_slS1, i_slS2, i_slS3, v_idxS0, v_iface, r_resA, r_dops, r_dnil, r_dcons0, r_dcons1, h_0, h_1, h_rw, h_wr, h_n1, h_n2, lg_0, lg_S, te_0, te_1, te_2, vl_c, vl_l, vl_ls, vl_g, vl_gs, true_and, and_true, and_self, List.getD_cons_zero, List.getD_cons_succ, rRx, rRd, rRe, rRf, Bool.not_true, Bool.not_false, List.cons_append, List.nil_append, List.append_nil]
        refine fail_ok hb _ _ _ _ fun s9 k9 => ?_
        exact hQ _ (hB _ _ (BU.kept k9))
end Go.Sy
end

section
set_option maxRecDepth 100000
namespace Go.Sy
open Go.Ev Go.Proofs
variable {base : CallF}
theorem v_strne {a b : List Nat} (h : a ≠ b) (st : St) (K : AV → St → Prop) : onER (strV .neq (.str a) (.str b) st) K = K (.bool true) st := by
  have e : strEq a b = false := by rw [strEq_eq]; exact decide_eq_false h
  simp only [strV, strOp, onSome, onER, e, cond_false]
theorem sgn_pre : ∀ k : Nat, k < 9 → sgn ((5 + k : Nat) : Int) = prefS.getD k [] := by decide
theorem idx_pre {x : List Nat} (h : x ∈ prefS) : prefS.idxOf x < 9 ∧ sgn ((5 + prefS.idxOf x : Nat) : Int) = x ∧ ∀ j, j < prefS.idxOf x → sgn ((5 + j : Nat) : Int) ≠ x := by
  have h9 : prefS.idxOf x < 9 := List.idxOf_lt_length_of_mem h
  refine ⟨h9, ?_, fun j hj => ?_⟩
  · rw [sgn_pre _ h9, List.getD_eq_getElem?_getD, List.getElem?_eq_getElem (show prefS.idxOf x < prefS.length from h9)]
    simp
  · rw [sgn_pre _ (by omega), List.getD_eq_getElem?_getD, List.getElem?_eq_getElem (show j < prefS.length by show j < 9; omega)]
    intro he
    have hlt : j < prefS.findIdx (· == x) := hj
    have hno := List.not_of_lt_findIdx hlt
    have he' : prefS[j]'(show j < prefS.length by show j < 9; omega) = x := he
    rw [he'] at hno
    simp at hno
theorem pref_ok (hb : NB base) {ts : List Tk} (W : Wds ts) {n : Nat} (IH : PrefC base ts n) (IV : ValC base ts n) : PrefC base ts (n + 1) := by
  intro i d p b r st K Kp hr P hi hd hQ
  have hlen := W.len
  refine fn_ruleXB x48 (by rfl) (hb.at _ (by decide) _ _) ?_
  simp only [y48, entry, List.map_cons, List.map_nil, List.getD_cons_zero, List.getD_cons_succ]
  unfold z48
  have P := P.bare
  have hE : ∀ s, Kept st.bare s → Kept st (bk st s) := fun s k => ⟨k.nx, rfl, k.keep⟩
  have hB : ∀ s c, But st.bare s c → But st (bk st s) c := fun s c k => ⟨k.nx, rfl, k.keep⟩
  have hS0 : bk st st.bare = st := rfl
  have hnx0 : st.bare.nx = st.nx := rfl
  have hfr0 : st.bare.fr = [] := rfl
  generalize st.bare = s0 at *
  have hp := P.lt
  have hbl := P.ts.lt
  simp (disch := first | decide | assumption | omega | (simp only [nx_nw, nx_wr, nx_ap, nx_bare]; first | done | omega) | (simp (disch := first | assumption | omega | (simp only [nx_nw, nx_wr, nx_ap, nx_bare]; first | done | omega)) only [rRu, List.length_cons, List.length_nil]; first | done | omega | decide)) only [Nat.reduceAdd, Nat.reduceSub, Nat.reduceMul, Nat.zero_add, a_new, a_box, a_st, a_ldA, rats_nwE, rats_nwO, rats_wr, rats_wrO, upd_nil, upd_00, upd_0, upd_S, upd_e, nx_nw, nx_wr, nx_ap, nx_bare, h_bare, len_nwE, len_nwO, len_wr, at_nwE, at_nwO, at_wr, at_wrB, at_wrA, at_wrO, cells_agg, cells_int, cells_str, cells_bool, cells_slice, cells_nils, cells_ptr, a_build0, a_buildc, a_bS, a_bS0, a_bSc, rep_0, rep_S, i_buildP, i_buildSP, r_ps0, r_ps1, i_fnA, i_slS1, i_slS2, i_slS3, v_idxS0, v_iface, r_resA, r_dops, r_dnil, r_dcons0, r_dcons1, h_0, h_1, h_rw, h_wr, h_n1, h_n2, lg_0, lg_S, te_0, te_1, te_2, vl_c, vl_l, vl_ls, vl_g, vl_gs, true_and, and_true, and_self, List.getD_cons_zero, List.getD_cons_succ, rRx, rRd, rRe, rRf, Bool.not_true, Bool.not_false, List.cons_append, List.nil_append, List.append_nil]
  refine XB.gen fun u hu => ?_
  have k0 : Kept s0 u := by (first | rw [hu] | skip); repeat' (first | exact Kept.refl _ | assumption | refine Kept.nw ?_ _ | (refine Kept.wrS ?_ ?_; (first | omega | (simp only [nx_nw, nx_wr, nx_ap, nx_bare]; omega))) | (refine Kept.apS ?_ ?_; (first | omega | (simp only [nx_nw, nx_wr, nx_ap, nx_bare]; omega))))
  have C0 : Cl u s0.nx zE := by rw [hu]; exact (Cl.new s0 zE).nw _
  have S1 : SS u (.slice (s0.nx + 1) 0 9 9 1 true) prefS := by rw [hu]; exact SS.new (nw s0 zE) prefS
  have nu : u.nx = s0.nx + 2 := by rw [hu]; rfl
  clear hu
  have P := P.kept k0
  generalize hrb : s0.nx = rb at *
  refine (take_ok hb _ P hi (by omega) S1 (by decide) _ (fun hm s1 B1 P1 => ?_) fun hm s1 B1 P1 => ?_).x
  · have hlt := W.isM hi hm
    obtain ⟨x1, x2, x3⟩ := idx_pre (isM_kind hm).2
    have hr0 : (if 60 < d + 1 then some (PR.er (tk ts (i + 1))) else (match prefM ts n (i + 1) (d + 1) with
        | some (.ok x j) => some (.ok (.mk (opPre (tk ts i).text : Nat) 0 [] [x] (tk ts i).line (tk ts i).col) j)
        | r => r)) = some r := by
      unfold prefM at hr
      rw [if_pos hm] at hr
      exact hr
    have C0 := C0.but B1 (by omega)
    have B01 := (But.of p k0).trans B1
    have n1 := B1.nx
    simp (disch := first | decide | assumption | omega | (simp only [nx_nw, nx_wr, nx_ap, nx_bare]; first | done | omega) | (simp (disch := first | assumption | omega | (simp only [nx_nw, nx_wr, nx_ap, nx_bare]; first | done | omega)) only [tk_len, cell_tk, rRu, List.length_cons, List.length_nil]; first | done | omega | decide)) only [tk_len, cell_tk, Nat.reduceAdd, Nat.reduceSub, Nat.reduceMul, Nat.zero_add, a_new, a_box, a_st, a_ldA, rats_nwE, rats_nwO, rats_wr, rats_wrO, upd_nil, upd_00, upd_0, upd_S, upd_e, nx_nw, nx_wr, nx_ap, nx_bare, h_bare, len_nwE, len_nwO, len_wr, at_nwE, at_nwO, at_wr, at_wrB, at_wrA, at_wrO, cells_agg, cells_int, cells_str, cells_bool, cells_slice, cells_nils, cells_ptr, a_build0, a_buildc, a_bS, a_bS0, a_bSc, rep_0, rep_S, i_buildP, i_buildSP, r_ps0, r_ps1, i_fnA, i_slS1, i_slS2, i_slS3, v_idxS0, v_iface, r_resA, r_dops, r_dnil, r_dcons0, r_dcons1, h_0, h_1, h_rw, h_wr, h_n1, h_n2, lg_0, lg_S, te_0, te_1, te_2, vl_c, vl_l, vl_ls, vl_g, vl_gs, true_and, and_true, and_self, List.getD_cons_zero, List.getD_cons_succ, rRx, rRd, rRe, rRf, Bool.not_true, Bool.not_false, List.cons_append, List.nil_append, List.append_nil]
    refine XB.gen fun u2 hu => ?_
    have hp1 := P1.lt
    have hb1 := P1.ts.lt
    have L0 := C0.lt
    have B02 : But s0 u2 p := by (first | rw [hu] | skip); repeat' (first | exact But.refl _ _ | assumption | refine But.nw ?_ _ | refine But.wrC ?_ _ _ | (refine But.wrS ?_ ?_; (first | omega | (simp only [nx_nw, nx_wr, nx_ap, nx_bare]; omega))))
    have C1 : Cl u2 s1.nx (tk ts i).cells := by ((first | rw [hu] | skip); refine Cl.of_rats (k := 5) ?_ ?_ ?_ (by decide) ?_ <;> first | (simp (disch := first | decide | assumption | omega | (simp only [nx_nw, nx_wr, nx_ap, nx_bare]; first | done | omega) | (simp (disch := first | assumption | omega | (simp only [nx_nw, nx_wr, nx_ap, nx_bare]; first | done | omega)) only [cell_tk, tk_len, rRu, List.length_cons, List.length_nil]; first | done | omega | decide)) only [cell_tk, tk_len, Nat.reduceAdd, Nat.reduceSub, Nat.reduceMul, Nat.zero_add, a_new, a_box, a_st, a_ldA, rats_nwE, rats_nwO, rats_wr, rats_wrO, upd_nil, upd_00, upd_0, upd_S, upd_e, nx_nw, nx_wr, nx_ap, nx_bare, h_bare, len_nwE, len_nwO, len_wr, at_nwE, at_nwO, at_wr, at_wrB, at_wrA, at_wrO, cells_agg, cells_int, cells_str, cells_bool, cells_slice, cells_nils, cells_ptr, a_build0, a_buildc, a_bS, a_bS0, a_bSc, rep_0, rep_S, i_buildP, i_buildSP, r_ps0, r_ps1, i_fnA, i_slS1, i_slS2, i_slS3, v_idxS0, v_iface, r_resA, r_dops, r_dnil, r_dcons0, r_dcons1, h_0, h_1, h_rw, h_wr, h_n1, h_n2, lg_0, lg_S, te_0, te_1, te_2, vl_c, vl_l, vl_ls, vl_g, vl_gs, true_and, and_true, and_self, List.getD_cons_zero, List.getD_cons_succ] <;> first | done | omega | rfl) | rfl)
    have P2 : Pk u2 p b ts (i + 1) d := by rw [hu]; repeat' (first | exact P1 | (refine Pk.wrS ?_ ?_ ?_; (first | omega | (simp only [nx_nw, nx_wr, nx_ap, nx_bare]; omega)); (first | omega | (simp only [nx_nw, nx_wr, nx_ap, nx_bare]; omega))) | refine Pk.put1 (i := i) ?_ _ | refine Pk.put2 (d := d) ?_ _ | refine Pk.nw ?_ _)
    have k12 : Kept s1 u2 := by (first | rw [hu] | skip); repeat' (first | exact Kept.refl _ | assumption | refine Kept.nw ?_ _ | (refine Kept.wrS ?_ ?_; (first | omega | (simp only [nx_nw, nx_wr, nx_ap, nx_bare]; omega))) | (refine Kept.apS ?_ ?_; (first | omega | (simp only [nx_nw, nx_wr, nx_ap, nx_bare]; omega))))
    have C0 := C0.kept k12
    clear hu
    have nrt : rb ≠ s1.nx := by omega
    have ntp : s1.nx ≠ p := by omega
    have n02 : rb ≤ s1.nx := by omega
    generalize htb : s1.nx = tb at *
    refine open_ok hb _ P2 hlt (by omega) _ _ (fun hd1 s3 B3 P3 => ?_) fun hd1 s3 B3 => ?_
    · rw [if_neg (by omega)] at hr0
      have B03 := B02.trans B3
      have C0 := C0.but B3 (by omega)
      have C1 := C1.but B3 ntp
      have L1 := C1.lt
      have L0 := C0.lt
      simp (disch := first | decide | assumption | omega | (simp only [nx_nw, nx_wr, nx_ap, nx_bare]; first | done | omega) | (simp (disch := first | assumption | omega | (simp only [nx_nw, nx_wr, nx_ap, nx_bare]; first | done | omega)) only [rRu, List.length_cons, List.length_nil]; first | done | omega | decide)) only [Nat.reduceAdd, Nat.reduceSub, Nat.reduceMul, Nat.zero_add, a_new, a_box, a_st, a_ldA, rats_nwE, rats_nwO, rats_wr, rats_wrO, upd_nil, upd_00, upd_0, upd_S, upd_e, nx_nw, nx_wr, nx_ap, nx_bare, h_bare, len_nwE, len_nwO, len_wr, at_nwE, at_nwO, at_wr, at_wrB, at_wrA, at_wrO, cells_agg, cells_int, cells_str, cells_bool, cells_slice, cells_nils, cells_ptr, a_build0, a_buildc, a_bS, a_bS0, a_bSc, rep_0, rep_S, i_buildP, i_buildSP, r_ps0, r_ps1, i_fnA, i_slS1, i_slS2, i_slS3, v_idxS0, v_iface, r_resA, r_dops, r_dnil, r_dcons0, r_dcons1, h_0, h_1, h_rw, h_wr, h_n1, h_n2, lg_0, lg_S, te_0, te_1, te_2, vl_c, vl_l, vl_ls, vl_g, vl_gs, true_and, and_true, and_self, List.getD_cons_zero, List.getD_cons_succ, rRx, rRd, rRe, rRf, Bool.not_true, Bool.not_false, List.cons_append, List.nil_append, List.append_nil]
      cases hx : prefM ts n (i + 1) (d + 1) with
      | none => rw [hx] at hr0; cases hr0
      | some rx =>
        rw [hx] at hr0
        refine IH (i + 1) (d + 1) p b rx s3 _ _ hx P3 hlt (by omega) ?_
        cases rx with
        | er t =>
          have hr3 : r = .er t := (Option.some.inj hr0).symm
          rw [hr3] at hQ
          intro s4 B4
          exact hQ _ (hB _ _ (B03.trans B4))
        | ok x j =>
          have hr3 : r = .ok (.mk (opPre (tk ts i).text : Nat) 0 [] [x] (tk ts i).line (tk ts i).col) j := (Option.some.inj hr0).symm
          rw [hr3] at hQ
          intro hj hwf s4 cx B4 P4 E4
          have C0 := C0.but B4 (by omega)
          have C1 := C1.but B4 ntp
          have B04 := B03.trans B4
          have lx := E4.len
          have qx := E4.lall
          have hp4 := P4.lt
          have hb4 := P4.ts.lt
          have L0 := C0.lt
          have L1 := C1.lt
          have n4 := B4.nx
          have sb : ∀ (s : St) (K : AV → St → Prop), onER (binV .sub (.int .i64 ((d + 1 : Nat) : Int)) (.int .i64 1) s) K = K (.int .i64 (d : Int)) s := fun s K => by
            rw [v_sub (by omega) (by omega), show ((d + 1 : Nat) : Int) - 1 = (d : Int) by omega]
          simp (disch := first | decide | assumption | omega | (simp only [nx_nw, nx_wr, nx_ap, nx_bare]; first | done | omega) | (simp (disch := first | assumption | omega | (simp only [nx_nw, nx_wr, nx_ap, nx_bare]; first | done | omega)) only [P4.len, lx, qx, rRu, List.length_cons, List.length_nil]; first | done | omega | decide)) only [P4.c2, sb, P4.len, lx, qx, Nat.reduceAdd, Nat.reduceSub, Nat.reduceMul, Nat.zero_add, a_new, a_box, a_st, a_ldA, rats_nwE, rats_nwO, rats_wr, rats_wrO, upd_nil, upd_00, upd_0, upd_S, upd_e, nx_nw, nx_wr, nx_ap, nx_bare, h_bare, len_nwE, len_nwO, len_wr, at_nwE, at_nwO, at_wr, at_wrB, at_wrA, at_wrO, cells_agg, cells_int, cells_str, cells_bool, cells_slice, cells_nils, cells_ptr, a_build0, a_buildc, a_bS, a_bS0, a_bSc, rep_0, rep_S, i_buildP, i_buildSP, r_ps0, r_ps1, i_fnA, i_slS1, i_slS2, i_slS3, v_idxS0, v_iface, r_resA, r_dops, r_dnil, r_dcons0, r_dcons1, h_0, h_1, h_rw, h_wr, h_n1, h_n2, lg_0, lg_S, te_0, te_1, te_2, vl_c, vl_l, vl_ls, vl_g, vl_gs, true_and, and_true, and_self, List.getD_cons_zero, List.getD_cons_succ, rRx, rRd, rRe, rRf, Bool.not_true, Bool.not_false, List.cons_append, List.nil_append, List.append_nil]
          refine xC_gen fun u5 hu => ?_
          have n3 := B3.nx
          have B05 : But s0 u5 p := by (first | rw [hu] | skip); repeat' (first | exact But.refl _ _ | assumption | refine But.nw ?_ _ | refine But.wrC ?_ _ _ | (refine But.wrS ?_ ?_; (first | omega | (simp only [nx_nw, nx_wr, nx_ap, nx_bare]; omega))))
          have P5 : Pk u5 p b ts j d := by rw [hu]; repeat' (first | exact P4 | (refine Pk.wrS ?_ ?_ ?_; (first | omega | (simp only [nx_nw, nx_wr, nx_ap, nx_bare]; omega)); (first | omega | (simp only [nx_nw, nx_wr, nx_ap, nx_bare]; omega))) | refine Pk.put1 (i := j) ?_ _ | refine Pk.put2 (d := d + 1) ?_ _ | refine Pk.nw ?_ _)
          have C5 : Cl u5 s4.nx cx := by ((first | rw [hu] | skip); refine Cl.of_rats (k := 6) ?_ ?_ ?_ (by decide) ?_ <;> first | (simp (disch := first | decide | assumption | omega | (simp only [nx_nw, nx_wr, nx_ap, nx_bare]; first | done | omega) | (simp (disch := first | assumption | omega | (simp only [nx_nw, nx_wr, nx_ap, nx_bare]; first | done | omega)) only [lx, rRu, List.length_cons, List.length_nil]; first | done | omega | decide)) only [lx, Nat.reduceAdd, Nat.reduceSub, Nat.reduceMul, Nat.zero_add, a_new, a_box, a_st, a_ldA, rats_nwE, rats_nwO, rats_wr, rats_wrO, upd_nil, upd_00, upd_0, upd_S, upd_e, nx_nw, nx_wr, nx_ap, nx_bare, h_bare, len_nwE, len_nwO, len_wr, at_nwE, at_nwO, at_wr, at_wrB, at_wrA, at_wrO, cells_agg, cells_int, cells_str, cells_bool, cells_slice, cells_nils, cells_ptr, a_build0, a_buildc, a_bS, a_bS0, a_bSc, rep_0, rep_S, i_buildP, i_buildSP, r_ps0, r_ps1, i_fnA, i_slS1, i_slS2, i_slS3, v_idxS0, v_iface, r_resA, r_dops, r_dnil, r_dcons0, r_dcons1, h_0, h_1, h_rw, h_wr, h_n1, h_n2, lg_0, lg_S, te_0, te_1, te_2, vl_c, vl_l, vl_ls, vl_g, vl_gs, true_and, and_true, and_self, List.getD_cons_zero, List.getD_cons_succ] <;> first | done | omega | rfl) | rfl)
          have C0 : Cl u5 rb zE := by rw [hu]; exact ((C0.nw _).wrO (by omega) _ _).wrO (by omega) _ _
          have C1 : Cl u5 tb (tk ts i).cells := by rw [hu]; exact ((C1.nw _).wrO (by omega) _ _).wrO (by omega) _ _
          have F5 : Fs s3.nx s4 u5 := by (first | rw [hu] | skip); repeat' (first | exact Fs.refl _ _ | assumption | refine Fs.nw ?_ _ | (refine Fs.wrS ?_ ?_; (first | omega | (simp only [nx_nw, nx_wr, nx_ap, nx_bare]; omega))))
          have E5 := E4.fs F5
          clear hu
          have nxb : rb ≠ s4.nx := by omega
          have nxp : p ≠ s4.nx := by omega
          have n34 : s3.nx ≤ s4.nx := n4
          have L1' : tb < s3.nx := by omega
          generalize hxb : s4.nx = xb at *
          refine xC_loopH (fun mm L s => ∃ k : Nat, k ≤ prefS.idxOf (tk ts i).text ∧ mm = prefS.idxOf (tk ts i).text - k ∧ Kept u5 s ∧ Has L 2 (.ptr rb 0) ∧ Has L 3 (.ptr tb 0) ∧ Has L 5 (.ptr xb 0) ∧ Has L 6 (.int .i64 ((5 + k : Nat) : Int))) ?_ (prefS.idxOf (tk ts i).text) ?_
          · rintro mm L s ⟨k, hk, rfl, ks, i2, i3, i5, i6⟩
            unfold Hold
            simp (disch := first | decide | assumption | omega | (simp only [nx_nw, nx_wr, nx_ap, nx_bare]; first | done | omega) | (simp (disch := first | assumption | omega | (simp only [nx_nw, nx_wr, nx_ap, nx_bare]; first | done | omega)) only [rRu, List.length_cons, List.length_nil]; first | done | omega | decide)) only [r_onh i6, Nat.reduceAdd, Nat.reduceSub, Nat.reduceMul, Nat.zero_add, a_new, a_box, a_st, a_ldA, rats_nwE, rats_nwO, rats_wr, rats_wrO, upd_nil, upd_00, upd_0, upd_S, upd_e, nx_nw, nx_wr, nx_ap, nx_bare, h_bare, len_nwE, len_nwO, len_wr, at_nwE, at_nwO, at_wr, at_wrB, at_wrA, at_wrO, cells_agg, cells_int, cells_str, cells_bool, cells_slice, cells_nils, cells_ptr, a_build0, a_buildc, a_bS, a_bS0, a_bSc, rep_0, rep_S, i_buildP, i_buildSP, r_ps0, r_ps1, i_fnA, i_slS1, i_slS2, i_slS3, v_idxS0, v_iface, r_resA, r_dops, r_dnil, r_dcons0, r_dcons1, h_0, h_1, h_rw, h_wr, h_n1, h_n2, lg_0, lg_S, te_0, te_1, te_2, vl_c, vl_l, vl_ls, vl_g, vl_gs, true_and, and_true, and_self, List.getD_cons_zero, List.getD_cons_succ, rRx, rRd, rRe, rRf, Bool.not_true, Bool.not_false, List.cons_append, List.nil_append, List.append_nil]
            refine CB.x (Sign_ok hb _ _ _ fun s6 k6 => ?_)
            have C1s := C1.kept ks
            have hs1 : sameAt Tryd.prog 9 (.ptr tb 1) (.str (tk ts i).text) s.h = true := same_1 ty9a ty9s (by rw [C1s.len]; exact Nat.succ_lt_succ (Nat.succ_pos 3)) (C1s.cell 1 (Nat.succ_lt_succ (Nat.succ_pos 3))) rfl
            have ks6 := ks.trans k6
            have C0 := C0.kept ks6
            have C1 := C1.kept ks6
            have C5 := C5.kept ks6
            have L0 := C0.lt
            have L1 := C1.lt
            have L5 := C5.lt
            have hs2 : sameAt Tryd.prog 9 (.ptr tb 1) (.str (tk ts i).text) s6.h = true := same_1 ty9a ty9s (by rw [C1.len]; exact Nat.succ_lt_succ (Nat.succ_pos 3)) (C1.cell 1 (Nat.succ_lt_succ (Nat.succ_pos 3))) rfl
            have g1 : rat s6.h tb 1 = .str (tk ts i).text := C1.cell 1 (Nat.succ_lt_succ (Nat.succ_pos 3))
            have g3 : rat s6.h tb 3 = .int .i64 ((tk ts i).line : Int) := C1.cell 3 (Nat.succ_lt_succ (Nat.succ_lt_succ (Nat.succ_lt_succ (Nat.succ_pos 1))))
            have g4 : rat s6.h tb 4 = .int .i64 ((tk ts i).col : Int) := C1.cell 4 (Nat.lt_succ_self 4)
            have l1 : rlen s6.h tb = 5 := C1.len
            have l0 : rlen s6.h rb = 6 := C0.len
            have l5 : rlen s6.h xb = 6 := by rw [C5.len, lx]
            have R5 := C5.rats0 lx
            by_cases hke : k = prefS.idxOf (tk ts i).text
            · subst hke
              have eN : ∀ (s : St) (K : AV → St → Prop), onER (strV .neq (.str (sgn ((5 + prefS.idxOf (tk ts i).text : Nat) : Int))) (.str (tk ts i).text) s) K = K (.bool false) s := fun s K => by rw [x2]; exact v_strneq _ s K
              simp (disch := first | decide | assumption | omega | (simp only [nx_nw, nx_wr, nx_ap, nx_bare]; first | done | omega) | (simp (disch := first | assumption | omega | (simp only [nx_nw, nx_wr, nx_ap, nx_bare]; first | done | omega)) only [l0, l1, l5, lx, qx, rRu, List.length_cons, List.length_nil]; first | done | omega | decide)) only [g1, hs1, hs2, eN, r_onh i2, r_onh i3, r_onh i5, r_onh i6, R5, g3, g4, ↓a_bS16, l0, l1, l5, lx, qx, Nat.reduceAdd, Nat.reduceSub, Nat.reduceMul, Nat.zero_add, a_new, a_box, a_st, a_ldA, rats_nwE, rats_nwO, rats_wr, rats_wrO, upd_nil, upd_00, upd_0, upd_S, upd_e, nx_nw, nx_wr, nx_ap, nx_bare, h_bare, len_nwE, len_nwO, len_wr, at_nwE, at_nwO, at_wr, at_wrB, at_wrA, at_wrO, cells_agg, cells_int, cells_str, cells_bool, cells_slice, cells_nils, cells_ptr, a_build0, a_buildc, a_bS, a_bS0, a_bSc, rep_0, rep_S, i_buildP, i_buildSP, r_ps0, r_ps1, i_fnA, i_slS1, i_slS2, i_slS3, v_idxS0, v_iface, r_resA, r_dops, r_dnil, r_dcons0, r_dcons1, h_0, h_1, h_rw, h_wr, h_n1, h_n2, lg_0, lg_S, te_0, te_1, te_2, vl_c, vl_l, vl_ls, vl_g, vl_gs, true_and, and_true, and_self, List.getD_cons_zero, List.getD_cons_succ, rRx, rRd, rRe, rRf, Bool.not_true, Bool.not_false, List.cons_append, List.nil_append, List.append_nil]
              have n6 := ks6.nx
              have B06 := B05.kept ks6
              have P6 := P5.kept ks6
              have hp6 := P6.lt
              have hb6 := P6.ts.lt
              have FE : Fs s3.nx s6 (wr (nw s6 cx) rb 0 [.int .i64 ((5 + prefS.idxOf (tk ts i).text : Nat) : Int), .int .i64 0, .str [], .slice s6.nx 0 1 1 6 true, .int .i64 ((tk ts i).line : Int), .int .i64 ((tk ts i).col : Int)]) := by (first | rw [hu] | skip); repeat' (first | exact Fs.refl _ _ | assumption | refine Fs.nw ?_ _ | (refine Fs.wrS ?_ ?_; (first | omega | (simp only [nx_nw, nx_wr, nx_ap, nx_bare]; omega))))
              have Ex := ((E5.kept ks6).fs FE).weak (ψ := fun b => st.nx ≤ b) (fun b _ hb' => by show st.nx ≤ b; have : s3.nx ≤ b := hb'; omega)
              have Cn := (Cl.new s6 cx).wrO (c := rb) (by omega) 0 [.int .i64 ((5 + prefS.idxOf (tk ts i).text : Nat) : Int), .int .i64 0, .str [], .slice s6.nx 0 1 1 6 true, .int .i64 ((tk ts i).line : Int), .int .i64 ((tk ts i).col : Int)]
              exact hQ hj ⟨byt0, hwf, trivial⟩ _ _ (hB _ _ (by (first | rw [hu] | skip); repeat' (first | exact But.refl _ _ | assumption | refine But.nw ?_ _ | refine But.wrC ?_ _ _ | (refine But.wrS ?_ ?_; (first | omega | (simp only [nx_nw, nx_wr, nx_ap, nx_bare]; omega)))))) (by refine Pk.bk ?_ st; repeat' (first | exact P6 | (refine Pk.wrS ?_ ?_ ?_; (first | omega | (simp only [nx_nw, nx_wr, nx_ap, nx_bare]; omega)); (first | omega | (simp only [nx_nw, nx_wr, nx_ap, nx_bare]; omega))) | refine Pk.put1 (i := i) ?_ _ | refine Pk.put2 (d := d) ?_ _ | refine Pk.nw ?_ _)) ((ExP.one Cn (by show st.nx ≤ s6.nx; omega) Ex _ _ _ _ _).bk st)
            · have hne := x3 k (by omega)
              have eN := fun (s : St) (K : AV → St → Prop) => v_strne hne s K
              simp (disch := first | decide | assumption | omega | (simp only [nx_nw, nx_wr, nx_ap, nx_bare]; first | done | omega) | (simp (disch := first | assumption | omega | (simp only [nx_nw, nx_wr, nx_ap, nx_bare]; first | done | omega)) only [l1, rRu, List.length_cons, List.length_nil]; first | done | omega | decide)) only [g1, hs1, hs2, eN, r_onh i2, r_onh i3, r_onh i5, r_onh i6, v_addN, l1, Nat.reduceAdd, Nat.reduceSub, Nat.reduceMul, Nat.zero_add, a_new, a_box, a_st, a_ldA, rats_nwE, rats_nwO, rats_wr, rats_wrO, upd_nil, upd_00, upd_0, upd_S, upd_e, nx_nw, nx_wr, nx_ap, nx_bare, h_bare, len_nwE, len_nwO, len_wr, at_nwE, at_nwO, at_wr, at_wrB, at_wrA, at_wrO, cells_agg, cells_int, cells_str, cells_bool, cells_slice, cells_nils, cells_ptr, a_build0, a_buildc, a_bS, a_bS0, a_bSc, rep_0, rep_S, i_buildP, i_buildSP, r_ps0, r_ps1, i_fnA, i_slS1, i_slS2, i_slS3, v_idxS0, v_iface, r_resA, r_dops, r_dnil, r_dcons0, r_dcons1, h_0, h_1, h_rw, h_wr, h_n1, h_n2, lg_0, lg_S, te_0, te_1, te_2, vl_c, vl_l, vl_ls, vl_g, vl_gs, true_and, and_true, and_self, List.getD_cons_zero, List.getD_cons_succ, rRx, rRd, rRe, rRf, Bool.not_true, Bool.not_false, List.cons_append, List.nil_append, List.append_nil]
              refine ⟨prefS.idxOf (tk ts i).text - (k + 1), by omega, k + 1, by omega, rfl, ks6, ?_⟩
              rw [show 5 + (k + 1) = 5 + k + 1 by omega]
              simp (disch := decide) only [z0, z1, h_here, h_skip, i2, i3, i5, true_and, and_true]
          · refine ⟨0, Nat.zero_le _, rfl, by first | exact Kept.refl _ | trivial, ?_⟩
            rw [show ((5 + 0 : Nat) : Int) = 5 from rfl]
            simp (disch := decide) only [z0, z1, h_here, h_skip, true_and, and_true]
    · rw [if_pos hd1] at hr0
      have hr3 : r = .er (tk ts (i + 1)) := (Option.some.inj hr0).symm
      rw [hr3] at hQ
      exact hQ _ (hB _ _ (B02.trans B3))
  · have hr0 : valM ts n i d = some r := by
      unfold prefM at hr
      rw [if_neg (by rw [hm]; decide)] at hr
      exact hr
    have C0 := C0.but B1 (by omega)
    have B01 := (But.of p k0).trans B1
    have n1 := B1.nx
    simp (disch := first | decide | assumption | omega | (simp only [nx_nw, nx_wr, nx_ap, nx_bare]; first | done | omega) | (simp (disch := first | assumption | omega | (simp only [nx_nw, nx_wr, nx_ap, nx_bare]; first | done | omega)) only [tk_len, cell_tk, rRu, List.length_cons, List.length_nil]; first | done | omega | decide)) only [tk_len, cell_tk, Nat.reduceAdd, Nat.reduceSub, Nat.reduceMul, Nat.zero_add, a_new, a_box, a_st, a_ldA, rats_nwE, rats_nwO, rats_wr, rats_wrO, upd_nil, upd_00, upd_0, upd_S, upd_e, nx_nw, nx_wr, nx_ap, nx_bare, h_bare, len_nwE, len_nwO, len_wr, at_nwE, at_nwO, at_wr, at_wrB, at_wrA, at_wrO, cells_agg, cells_int, cells_str, cells_bool, cells_slice, cells_nils, cells_ptr, a_build0, a_buildc, a_bS, a_bS0, a_bSc, rep_0, rep_S, i_buildP, i_buildSP, r_ps0, r_ps1, i_fnA, i_slS1, i_slS2, i_slS3, v_idxS0, v_iface, r_resA, r_dops, r_dnil, r_dcons0, r_dcons1, h_0, h_1, h_rw, h_wr, h_n1, h_n2, lg_0, lg_S, te_0, te_1, te_2, vl_c, vl_l, vl_ls, vl_g, vl_gs, true_and, and_true, and_self, List.getD_cons_zero, List.getD_cons_succ, rRx, rRd, rRe, rRf, Bool.not_true, Bool.not_false, List.cons_append, List.nil_append, List.append_nil]
    refine XB.gen fun u2 hu => ?_
    have hp1 := P1.lt
    have hb1 := P1.ts.lt
    have L0 := C0.lt
    have B02 : But s0 u2 p := by (first | rw [hu] | skip); repeat' (first | exact But.refl _ _ | assumption | refine But.nw ?_ _ | refine But.wrC ?_ _ _ | (refine But.wrS ?_ ?_; (first | omega | (simp only [nx_nw, nx_wr, nx_ap, nx_bare]; omega))))
    have P2 : Pk u2 p b ts i d := by rw [hu]; repeat' (first | exact P1 | (refine Pk.wrS ?_ ?_ ?_; (first | omega | (simp only [nx_nw, nx_wr, nx_ap, nx_bare]; omega)); (first | omega | (simp only [nx_nw, nx_wr, nx_ap, nx_bare]; omega))) | refine Pk.put1 (i := i) ?_ _ | refine Pk.put2 (d := d) ?_ _ | refine Pk.nw ?_ _)
    have k12 : Kept s1 u2 := by (first | rw [hu] | skip); repeat' (first | exact Kept.refl _ | assumption | refine Kept.nw ?_ _ | (refine Kept.wrS ?_ ?_; (first | omega | (simp only [nx_nw, nx_wr, nx_ap, nx_bare]; omega))) | (refine Kept.apS ?_ ?_; (first | omega | (simp only [nx_nw, nx_wr, nx_ap, nx_bare]; omega))))
    have C0 := C0.kept k12
    clear hu
    refine IV i d p b r u2 _ _ hr0 P2 hi hd ?_
    cases r with
    | er t =>
      intro s4 B4
      exact hQ _ (hB _ _ (B02.trans B4))
    | ok x j =>
      intro hj hwf s4 cx B4 P4 E4
      have C0 := C0.but B4 (by omega)
      have l0 : rlen s4.h rb = 6 := C0.len
      have L0 := C0.lt
      have lx := E4.len
      have qx := E4.lall
      have B04 := B02.trans B4
      have hp4 := P4.lt
      have hb4 := P4.ts.lt
      have n2 := k12.nx
      have L0' : rb < u2.nx := by omega
      simp (disch := first | decide | assumption | omega | (simp only [nx_nw, nx_wr, nx_ap, nx_bare]; first | done | omega) | (simp (disch := first | assumption | omega | (simp only [nx_nw, nx_wr, nx_ap, nx_bare]; first | done | omega)) only [l0, lx, qx, rRu, List.length_cons, List.length_nil]; first | done | omega | decide)) only [l0, lx, qx, Nat.reduceAdd, Nat.reduceSub, Nat.reduceMul, Nat.zero_add, a_new, a_box, a_st, a_ldA, rats_nwE, rats_nwO, rats_wr, rats_wrO, upd_nil, upd_00, upd_0, upd_S, upd_e, nx_nw, nx_wr, nx_ap, nx_bare, h_bare, len_nwE, len_nwO, len_wr, at_nwE, at_nwO, at_wr, at_wrB, at_wrA, at_wrO, cells_agg, cells_int, cells_str, cells_bool, cells_slice, cells_nils, cells_ptr, a_build0, a_buildc, a_bS, a_bS0, a_bSc, rep_0, rep_S, i_buildP, i_buildSP, r_ps0, r_ps1, i_fnA, i_slS1, i_slS2, i_slS3, v_idxS0, v_iface, r_resA, r_dops, r_dnil, r_dcons0, r_dcons1, h_0, h_1, h_rw, h_wr, h_n1, h_n2, lg_0, lg_S, te_0, te_1, te_2, vl_c, vl_l, vl_ls, vl_g, vl_gs, true_and, and_true, and_self, List.getD_cons_zero, List.getD_cons_succ, rRx, rRd, rRe, rRf, Bool.not_true, Bool.not_false, List.cons_append, List.nil_append, List.append_nil]
      refine hQ hj hwf _ _ (hB _ _ (by (first | rw [hu] | skip); repeat' (first | exact But.refl _ _ | assumption | refine But.nw ?_ _ | refine But.wrC ?_ _ _ | (refine But.wrS ?_ ?_; (first | omega | (simp only [nx_nw, nx_wr, nx_ap, nx_bare]; omega)))))) (by refine Pk.bk ?_ st; repeat' (first | exact P4 | (refine Pk.wrS ?_ ?_ ?_; (first | omega | (simp only [nx_nw, nx_wr, nx_ap, nx_bare]; omega)); (first | omega | (simp only [nx_nw, nx_wr, nx_ap, nx_bare]; omega))) | refine Pk.put1 (i := i) ?_ _ | refine Pk.put2 (d := d) ?_ _ | refine Pk.nw ?_ _)) ?_
      have FE : Fs u2.nx s4 (wr s4 rb 0 cx) := by (first | rw [hu] | skip); repeat' (first | exact Fs.refl _ _ | assumption | refine Fs.nw ?_ _ | (refine Fs.wrS ?_ ?_; (first | omega | (simp only [nx_nw, nx_wr, nx_ap, nx_bare]; omega))))
      exact ((E4.fs FE).weak (fun b _ hb' => by show st.nx ≤ b; have : u2.nx ≤ b := hb'; omega)).bk st
end Go.Sy
end

section
set_option maxRecDepth 100000
namespace Go.Sy
open Go.Ev Go.Proofs
variable {base : CallF}
theorem ty25a : Go.Ev.isAgg Tryd.prog 25 = some true := by kernel_rfl
theorem ty25s : Go.Ev.sizeOf Tryd.prog 25 = some 6 := by kernel_rfl
theorem ty54a : Go.Ev.isAgg Tryd.prog 54 = some true := by kernel_rfl
theorem ty54s : Go.Ev.sizeOf Tryd.prog 54 = some 5 := by kernel_rfl
theorem tk_eqs (t : Tk) : t.cells.all eqs = true := rfl
theorem LvV.hd {φ : Nat → Prop} {s : St} {b o n c : Nat} {x : Bool} {v : Lev} {l : List Lev} (h : LvV φ s (.slice b o n c 2 x) (v :: l)) :
    n = l.length + 1 ∧ b < s.nx ∧ o + 2 ≤ rlen s.h b ∧ n ≤ c ∧ φ b ∧ (∃ w, rat s.h b o = w ∧ SP φ s w v.signs ∧ v.signs.length ≤ 1000) ∧ rat s.h b (o + 1) = .int .i64 (v.way : Int) ∧ LvV φ s (.slice b (o + 2) (n - 1) (c - 1) 2 x) l := by
  obtain ⟨b', o', c', x', h1, h2, h3, h4, h5, h6⟩ := h.ex
  simp only [AV.slice.injEq, List.length_cons] at h1
  obtain ⟨rfl, rfl, rfl, rfl, _, rfl⟩ := h1
  rw [List.length_cons] at h3 h4
  obtain ⟨⟨w, q1, q2, q4⟩, q3⟩ := h5
  simp only [ratsS, rats0, List.cons.injEq, and_true] at q1
  refine ⟨rfl, h2, by omega, h4, h6, ⟨w, q1.1, q2, q4⟩, q1.2, ⟨⟨b, o + 2, c - 1, x, ?_, h2, by omega, by omega, q3, h6⟩⟩⟩
  rw [Nat.add_sub_cancel]
theorem LvV.sl {φ : Nat → Prop} {s : St} {v : AV} {l : List Lev} (h : LvV φ s v l) : ∃ b o c x, v = .slice b o l.length c 2 x := by
  obtain ⟨b, o, c, x, h1, _⟩ := h.ex
  exact ⟨b, o, c, x, h1⟩
theorem levels_len : ∀ (ts : List Tk) (n i d : Nat), True := fun _ _ _ _ => trivial
theorem expr_ok (hb : NB base) {ts : List Tk} (W : Wds ts) {n : Nat} (IE : ∀ m, m ≤ n → ExprC base ts m) (IP : PrefC base ts n) : ExprC base ts (n + 1) := by
  intro lv v i d p b r st K Kp hr P LV hi hd hQ
  have hlen := W.len
  refine fn_ruleXB x27 (by rfl) (hb.at _ (by decide) _ _) ?_
  simp only [y27, entry, List.map_cons, List.map_nil, List.getD_cons_zero, List.getD_cons_succ]
  unfold z27
  have P := P.bare
  have LV := LV.bare
  have hE : ∀ s, Kept st.bare s → Kept st (bk st s) := fun s k => ⟨k.nx, rfl, k.keep⟩
  have hB : ∀ s c, But st.bare s c → But st (bk st s) c := fun s c k => ⟨k.nx, rfl, k.keep⟩
  have hS0 : bk st st.bare = st := rfl
  have hnx0 : st.bare.nx = st.nx := rfl
  have hfr0 : st.bare.fr = [] := rfl
  generalize st.bare = s0 at *
  have hp := P.lt
  have hbl := P.ts.lt
  obtain ⟨lb, lo, lc, lx0, rfl⟩ := LV.sl
  cases lv with
  | nil =>
    have hr : prefM ts n i d = some r := by unfold exprM at hr; exact hr
    simp (disch := first | decide | assumption | omega | (simp only [nx_nw, nx_wr, nx_ap, nx_bare]; first | done | omega) | (simp (disch := first | assumption | omega | (simp only [nx_nw, nx_wr, nx_ap, nx_bare]; first | done | omega)) only [rRu, List.length_cons, List.length_nil]; first | done | omega | decide)) only [List.length_nil, Nat.reduceAdd, Nat.reduceSub, Nat.reduceMul, Nat.zero_add, a_new, a_box, a_st, a_ldA, rats_nwE, rats_nwO, rats_wr, rats_wrO, upd_nil, upd_00, upd_0, upd_S, upd_e, nx_nw, nx_wr, nx_ap, nx_bare, h_bare, len_nwE, len_nwO, len_wr, at_nwE, at_nwO, at_wr, at_wrB, at_wrA, at_wrO, cells_agg, cells_int, cells_str, cells_bool, cells_slice, cells_nils, cells_ptr, a_build0, a_buildc, a_bS, a_bS0, a_bSc, rep_0, rep_S, i_buildP, i_buildSP, r_ps0, r_ps1, i_fnA, i_slS1, i_slS2, i_slS3, v_idxS0, v_iface, r_resA, r_dops, r_dnil, r_dcons0, r_dcons1, h_0, h_1, h_rw, h_wr, h_n1, h_n2, lg_0, lg_S, te_0, te_1, te_2, vl_c, vl_l, vl_ls, vl_g, vl_gs, true_and, and_true, and_self, List.getD_cons_zero, List.getD_cons_succ, rRx, rRd, rRe, rRf, Bool.not_true, Bool.not_false, List.cons_append, List.nil_append, List.append_nil]
    refine XB.gen fun u hu => ?_
    have nu : u.nx = s0.nx + 1 := by rw [hu]; rfl
    have k0 : Kept s0 u := by (first | rw [hu] | skip); repeat' (first | exact Kept.refl _ | assumption | refine Kept.nw ?_ _ | (refine Kept.wrS ?_ ?_; (first | omega | (simp only [nx_nw, nx_wr, nx_ap, nx_bare]; omega))) | (refine Kept.apS ?_ ?_; (first | omega | (simp only [nx_nw, nx_wr, nx_ap, nx_bare]; omega))))
    have C0 : Cl u s0.nx zE := by rw [hu]; exact Cl.new s0 zE
    clear hu
    have P := P.kept k0
    generalize hrb : s0.nx = rb at *
    refine IP i d p b r u _ _ hr P hi hd ?_
    cases r with
    | er t =>
      intro s4 B4
      exact hQ _ (hB _ _ ((But.of p k0).trans B4))
    | ok x j =>
      intro hj hwf s4 cx B4 P4 E4
      have n0 := k0.nx
      have C0 := C0.but B4 (by omega)
      have l0 : rlen s4.h rb = 6 := C0.len
      have L0 := C0.lt
      have lx := E4.len
      have qx := E4.lall
      have B04 := (But.of p k0).trans B4
      have hp4 := P4.lt
      have hb4 := P4.ts.lt
      simp (disch := first | decide | assumption | omega | (simp only [nx_nw, nx_wr, nx_ap, nx_bare]; first | done | omega) | (simp (disch := first | assumption | omega | (simp only [nx_nw, nx_wr, nx_ap, nx_bare]; first | done | omega)) only [l0, lx, qx, rRu, List.length_cons, List.length_nil]; first | done | omega | decide)) only [l0, lx, qx, Nat.reduceAdd, Nat.reduceSub, Nat.reduceMul, Nat.zero_add, a_new, a_box, a_st, a_ldA, rats_nwE, rats_nwO, rats_wr, rats_wrO, upd_nil, upd_00, upd_0, upd_S, upd_e, nx_nw, nx_wr, nx_ap, nx_bare, h_bare, len_nwE, len_nwO, len_wr, at_nwE, at_nwO, at_wr, at_wrB, at_wrA, at_wrO, cells_agg, cells_int, cells_str, cells_bool, cells_slice, cells_nils, cells_ptr, a_build0, a_buildc, a_bS, a_bS0, a_bSc, rep_0, rep_S, i_buildP, i_buildSP, r_ps0, r_ps1, i_fnA, i_slS1, i_slS2, i_slS3, v_idxS0, v_iface, r_resA, r_dops, r_dnil, r_dcons0, r_dcons1, h_0, h_1, h_rw, h_wr, h_n1, h_n2, lg_0, lg_S, te_0, te_1, te_2, vl_c, vl_l, vl_ls, vl_g, vl_gs, true_and, and_true, and_self, List.getD_cons_zero, List.getD_cons_succ, rRx, rRd, rRe, rRf, Bool.not_true, Bool.not_false, List.cons_append, List.nil_append, List.append_nil]
      refine hQ hj hwf _ _ (hB _ _ (by (first | rw [hu] | skip); repeat' (first | exact But.refl _ _ | assumption | refine But.nw ?_ _ | refine But.wrC ?_ _ _ | (refine But.wrS ?_ ?_; (first | omega | (simp only [nx_nw, nx_wr, nx_ap, nx_bare]; omega)))))) (by refine Pk.bk ?_ st; repeat' (first | exact P4 | (refine Pk.wrS ?_ ?_ ?_; (first | omega | (simp only [nx_nw, nx_wr, nx_ap, nx_bare]; omega)); (first | omega | (simp only [nx_nw, nx_wr, nx_ap, nx_bare]; omega))) | refine Pk.put1 (i := i) ?_ _ | refine Pk.put2 (d := d) ?_ _ | refine Pk.nw ?_ _)) ?_
      have FE : Fs u.nx s4 (wr s4 rb 0 cx) := by (first | rw [hu] | skip); repeat' (first | exact Fs.refl _ _ | assumption | refine Fs.nw ?_ _ | (refine Fs.wrS ?_ ?_; (first | omega | (simp only [nx_nw, nx_wr, nx_ap, nx_bare]; omega))))
      exact ((E4.fs FE).weak (fun b _ hb' => by show st.nx ≤ b; have : u.nx ≤ b := hb'; omega)).bk st
  | cons v l =>
    have hv1 : ((v :: l).length : Int) ≠ 0 := by simp; omega
    obtain ⟨e1, e2, e3, e4, e5, ⟨w, e6, e7, _⟩, e8, e9⟩ := LV.hd
    have hl1 : 1 ≤ (v :: l).length := by simp
    simp (disch := first | decide | assumption | omega | (simp only [nx_nw, nx_wr, nx_ap, nx_bare]; first | done | omega) | (simp (disch := first | assumption | omega | (simp only [nx_nw, nx_wr, nx_ap, nx_bare]; first | done | omega)) only [rRu, List.length_cons, List.length_nil]; first | done | omega | decide)) only [a_slSo, Nat.reduceAdd, Nat.reduceSub, Nat.reduceMul, Nat.zero_add, a_new, a_box, a_st, a_ldA, rats_nwE, rats_nwO, rats_wr, rats_wrO, upd_nil, upd_00, upd_0, upd_S, upd_e, nx_nw, nx_wr, nx_ap, nx_bare, h_bare, len_nwE, len_nwO, len_wr, at_nwE, at_nwO, at_wr, at_wrB, at_wrA, at_wrO, cells_agg, cells_int, cells_str, cells_bool, cells_slice, cells_nils, cells_ptr, a_build0, a_buildc, a_bS, a_bS0, a_bSc, rep_0, rep_S, i_buildP, i_buildSP, r_ps0, r_ps1, i_fnA, i_slS1, i_slS2, i_slS3, v_idxS0, v_iface, r_resA, r_dops, r_dnil, r_dcons0, r_dcons1, h_0, h_1, h_rw, h_wr, h_n1, h_n2, lg_0, lg_S, te_0, te_1, te_2, vl_c, vl_l, vl_ls, vl_g, vl_gs, true_and, and_true, and_self, List.getD_cons_zero, List.getD_cons_succ, rRx, rRd, rRe, rRf, Bool.not_true, Bool.not_false, List.cons_append, List.nil_append, List.append_nil]
    refine XB.gen fun u hu => ?_
    have k0 : Kept s0 u := by (first | rw [hu] | skip); repeat' (first | exact Kept.refl _ | assumption | refine Kept.nw ?_ _ | (refine Kept.wrS ?_ ?_; (first | omega | (simp only [nx_nw, nx_wr, nx_ap, nx_bare]; omega))) | (refine Kept.apS ?_ ?_; (first | omega | (simp only [nx_nw, nx_wr, nx_ap, nx_bare]; omega))))
    have C0 : Cl u s0.nx zE := by rw [hu]; exact Cl.new s0 zE
    have nu : u.nx = s0.nx + 1 := by rw [hu]; rfl
    clear hu
    have P := P.kept k0
    have LV' := e9.kept k0
    generalize hrb : s0.nx = rb at *
    have hr1 : (match exprM ts n l i d with | some (.ok x j) => loopM ts n v l x j d | r => r) = some r := by unfold exprM at hr; exact hr
    cases hx : exprM ts n l i d with
    | none => rw [hx] at hr1; cases hr1
    | some rx =>
      rw [hx] at hr1
      refine IE n (Nat.le_refl _) l _ i d p b rx u _ _ hx P LV' hi hd ?_
      cases rx with
      | er t =>
        have hr3 : r = .er t := (Option.some.inj hr1).symm
        rw [hr3] at hQ
        intro s4 B4
        exact hQ _ (hB _ _ ((But.of p k0).trans B4))
      | ok x0 j0 =>
        intro hj0 hwf0 s4 cx0 B4 P4 E4
        have hr2 : loopM ts n v l x0 j0 d = some r := hr1
        have C0 := C0.but B4 (by omega)
        have l0 : rlen s4.h rb = 6 := C0.len
        have L0 := C0.lt
        have lx := E4.len
        have qx := E4.lall
        have n4 := B4.nx
        have B04 := (But.of p k0).trans B4
        have hp4 := P4.lt
        have hb4 := P4.ts.lt
        simp (disch := first | decide | assumption | omega | (simp only [nx_nw, nx_wr, nx_ap, nx_bare]; first | done | omega) | (simp (disch := first | assumption | omega | (simp only [nx_nw, nx_wr, nx_ap, nx_bare]; first | done | omega)) only [lx, qx, rRu, List.length_cons, List.length_nil]; first | done | omega | decide)) only [lx, qx, Nat.reduceAdd, Nat.reduceSub, Nat.reduceMul, Nat.zero_add, a_new, a_box, a_st, a_ldA, rats_nwE, rats_nwO, rats_wr, rats_wrO, upd_nil, upd_00, upd_0, upd_S, upd_e, nx_nw, nx_wr, nx_ap, nx_bare, h_bare, len_nwE, len_nwO, len_wr, at_nwE, at_nwO, at_wr, at_wrB, at_wrA, at_wrO, cells_agg, cells_int, cells_str, cells_bool, cells_slice, cells_nils, cells_ptr, a_build0, a_buildc, a_bS, a_bS0, a_bSc, rep_0, rep_S, i_buildP, i_buildSP, r_ps0, r_ps1, i_fnA, i_slS1, i_slS2, i_slS3, v_idxS0, v_iface, r_resA, r_dops, r_dnil, r_dcons0, r_dcons1, h_0, h_1, h_rw, h_wr, h_n1, h_n2, lg_0, lg_S, te_0, te_1, te_2, vl_c, vl_l, vl_ls, vl_g, vl_gs, true_and, and_true, and_self, List.getD_cons_zero, List.getD_cons_succ, rRx, rRd, rRe, rRf, Bool.not_true, Bool.not_false, List.cons_append, List.nil_append, List.append_nil]
        refine xC_gen fun u5 hu => ?_
        have k45 : Kept s4 u5 := by (first | rw [hu] | skip); repeat' (first | exact Kept.refl _ | assumption | refine Kept.nw ?_ _ | (refine Kept.wrS ?_ ?_; (first | omega | (simp only [nx_nw, nx_wr, nx_ap, nx_bare]; omega))) | (refine Kept.apS ?_ ?_; (first | omega | (simp only [nx_nw, nx_wr, nx_ap, nx_bare]; omega))))
        have C5 : Cl u5 s4.nx cx0 := by ((first | rw [hu] | skip); refine Cl.of_rats (k := 6) ?_ ?_ ?_ (by decide) ?_ <;> first | (simp (disch := first | decide | assumption | omega | (simp only [nx_nw, nx_wr, nx_ap, nx_bare]; first | done | omega) | (simp (disch := first | assumption | omega | (simp only [nx_nw, nx_wr, nx_ap, nx_bare]; first | done | omega)) only [lx, rRu, List.length_cons, List.length_nil]; first | done | omega | decide)) only [lx, Nat.reduceAdd, Nat.reduceSub, Nat.reduceMul, Nat.zero_add, a_new, a_box, a_st, a_ldA, rats_nwE, rats_nwO, rats_wr, rats_wrO, upd_nil, upd_00, upd_0, upd_S, upd_e, nx_nw, nx_wr, nx_ap, nx_bare, h_bare, len_nwE, len_nwO, len_wr, at_nwE, at_nwO, at_wr, at_wrB, at_wrA, at_wrO, cells_agg, cells_int, cells_str, cells_bool, cells_slice, cells_nils, cells_ptr, a_build0, a_buildc, a_bS, a_bS0, a_bSc, rep_0, rep_S, i_buildP, i_buildSP, r_ps0, r_ps1, i_fnA, i_slS1, i_slS2, i_slS3, v_idxS0, v_iface, r_resA, r_dops, r_dnil, r_dcons0, r_dcons1, h_0, h_1, h_rw, h_wr, h_n1, h_n2, lg_0, lg_S, te_0, te_1, te_2, vl_c, vl_l, vl_ls, vl_g, vl_gs, true_and, and_true, and_self, List.getD_cons_zero, List.getD_cons_succ] <;> first | done | omega | rfl) | rfl)
        clear hu
        have C0 := C0.kept k45
        have P5 := P4.kept k45
        have B05 := B04.kept k45
        have E5 := (E4.weak (ψ := fun b => st.nx ≤ b ∧ b ≠ rb ∧ b ≠ s4.nx) (fun b hb1 hb' => by have : u.nx ≤ b := hb'; omega)).kept k45
        have L5 := C5.lt
        have nrx : rb ≠ s4.nx := by omega
        have npx : p ≠ s4.nx := by omega
        have nsx : s0.nx ≤ s4.nx := by omega
        generalize hxb : s4.nx = xb at *
        clear E4 lx qx
        refine xC_loopH (fun mm L s => ∃ (m i : Nat) (x : Ex) (cx : List AV), m ≤ n ∧ mm = m ∧ loopM ts m v l x i d = some r ∧ i < ts.length ∧ x.wf ∧ But s0 s p ∧ Pk s p b ts i d ∧ Cl s rb zE ∧ Cl s xb cx ∧ ExP (fun b => st.nx ≤ b ∧ b ≠ rb ∧ b ≠ xb) s cx x ∧ Has L 0 (.ptr p 0) ∧ Has L 1 (.slice lb lo (v :: l).length lc 2 lx0) ∧ Has L 4 (.ptr rb 0) ∧ Has L 5 (.ptr xb 0)) ?_ n ?_
        · rintro mm L s ⟨m, i, x, cx, hm, rfl, hl, hi, hwf, Bs, Ps, C0, C5, XE, i0, i1, i4, i5⟩
          unfold Hold
          cases mm with
          | zero => unfold loopM at hl; cases hl
          | succ m =>
            have LVs := LV.but Bs
            obtain ⟨f1, f2, f3, f4, f5, ⟨w', f6, f7, f10⟩, f8, f9⟩ := LVs.hd
            have L0 := C0.lt
            have L5 := C5.lt
            have hps := Ps.lt
            have hbs := Ps.ts.lt
            have lx := XE.len
            have qx := XE.lall
            simp (disch := first | decide | assumption | omega | (simp only [nx_nw, nx_wr, nx_ap, nx_bare]; first | done | omega) | (simp (disch := first | assumption | omega | (simp only [nx_nw, nx_wr, nx_ap, nx_bare]; first | done | omega)) only [rRu, List.length_cons, List.length_nil]; first | done | omega | decide)) only [r_onh i0, r_onh i1, r_onh i4, r_onh i5, f6, Nat.add_zero, Nat.reduceAdd, Nat.reduceSub, Nat.reduceMul, Nat.zero_add, a_new, a_box, a_st, a_ldA, rats_nwE, rats_nwO, rats_wr, rats_wrO, upd_nil, upd_00, upd_0, upd_S, upd_e, nx_nw, nx_wr, nx_ap, nx_bare, h_bare, len_nwE, len_nwO, len_wr, at_nwE, at_nwO, at_wr, at_wrB, at_wrA, at_wrO, cells_agg, cells_int, cells_str, cells_bool, cells_slice, cells_nils, cells_ptr, a_build0, a_buildc, a_bS, a_bS0, a_bSc, rep_0, rep_S, i_buildP, i_buildSP, r_ps0, r_ps1, i_fnA, i_slS1, i_slS2, i_slS3, v_idxS0, v_iface, r_resA, r_dops, r_dnil, r_dcons0, r_dcons1, h_0, h_1, h_rw, h_wr, h_n1, h_n2, lg_0, lg_S, te_0, te_1, te_2, vl_c, vl_l, vl_ls, vl_g, vl_gs, true_and, and_true, and_self, List.getD_cons_zero, List.getD_cons_succ, rRx, rRd, rRe, rRf, Bool.not_true, Bool.not_false, List.cons_append, List.nil_append, List.append_nil]
            have fin : ∀ (s' : St) (cx' : List AV) (x' : Ex) (j : Nat), r = .ok x' j → j < ts.length → x'.wf → But s0 s' p → Pk s' p b ts j d → Cl s' rb zE → ExP (fun b => st.nx ≤ b ∧ b ≠ rb ∧ b ≠ xb) s' cx' x' → K (.agg cx') (bk st (wr s' rb 0 cx')) := fun s' cx' x' j h1 h2 h3 h4 h5 h6 h7 => by
              have L0 := h6.lt
              have hp' := h5.lt
              have hb' := h5.ts.lt
              rw [h1] at hQ
              refine hQ h2 h3 _ _ (hB _ _ (by (first | rw [hu] | skip); repeat' (first | exact But.refl _ _ | assumption | refine But.nw ?_ _ | refine But.wrC ?_ _ _ | (refine But.wrS ?_ ?_; (first | omega | (simp only [nx_nw, nx_wr, nx_ap, nx_bare]; omega)))))) (by refine Pk.bk ?_ st; repeat' (first | exact h5 | (refine Pk.wrS ?_ ?_ ?_; (first | omega | (simp only [nx_nw, nx_wr, nx_ap, nx_bare]; omega)); (first | omega | (simp only [nx_nw, nx_wr, nx_ap, nx_bare]; omega))) | refine Pk.put1 (i := j) ?_ _ | refine Pk.put2 (d := d) ?_ _ | refine Pk.nw ?_ _)) ?_
              exact ((h7.move (s := wr s' rb 0 cx') (Nat.le_refl _) fun b _ hb1 => get_wrO hb1.2.1).weak fun b _ hb1 => hb1.1).bk st
            refine (take_ok hb _ Ps hi (by omega) f7.ss (by omega) _ (fun hm1 s1 B1 P1 => ?_) fun hm1 s1 B1 P1 => ?_).x
            · have hlt := W.isM hi hm1
              have C0 := C0.but B1 (by omega)
              have C5 := C5.but B1 (by omega)
              have XE := XE.move B1.nx fun b hb1 hb2 => B1.keep b hb1 (by omega)
              have B01 := Bs.trans B1
              have LV1 := LV.but B01
              obtain ⟨f1, f2, f3, f4, f5, ⟨w', f6, f7, f10⟩, f8, f9⟩ := LV1.hd
              have hl' : (if v.way = 1 then (match exprM ts m (v :: l) (i + 1) d with
                  | some (.ok y j) => some (.ok (twoM (tk ts i) x y) j)
                  | r => r)
                else (match exprM ts m l (i + 1) d with
                  | some (.ok y j) => if v.way = 2 then some (.ok (twoM (tk ts i) x y) j) else loopM ts m v l (twoM (tk ts i) x y) j d
                  | r => r)) = some r := by
                unfold loopM at hl
                rw [if_pos hm1] at hl
                exact hl
              simp (disch := first | decide | assumption | omega | (simp only [nx_nw, nx_wr, nx_ap, nx_bare]; first | done | omega) | (simp (disch := first | assumption | omega | (simp only [nx_nw, nx_wr, nx_ap, nx_bare]; first | done | omega)) only [tk_len, cell_tk, rRu, List.length_cons, List.length_nil]; first | done | omega | decide)) only [r_onh i0, r_onh i1, r_onh i4, r_onh i5, f8, tk_len, cell_tk, Nat.reduceAdd, Nat.reduceSub, Nat.reduceMul, Nat.zero_add, a_new, a_box, a_st, a_ldA, rats_nwE, rats_nwO, rats_wr, rats_wrO, upd_nil, upd_00, upd_0, upd_S, upd_e, nx_nw, nx_wr, nx_ap, nx_bare, h_bare, len_nwE, len_nwO, len_wr, at_nwE, at_nwO, at_wr, at_wrB, at_wrA, at_wrO, cells_agg, cells_int, cells_str, cells_bool, cells_slice, cells_nils, cells_ptr, a_build0, a_buildc, a_bS, a_bS0, a_bSc, rep_0, rep_S, i_buildP, i_buildSP, r_ps0, r_ps1, i_fnA, i_slS1, i_slS2, i_slS3, v_idxS0, v_iface, r_resA, r_dops, r_dnil, r_dcons0, r_dcons1, h_0, h_1, h_rw, h_wr, h_n1, h_n2, lg_0, lg_S, te_0, te_1, te_2, vl_c, vl_l, vl_ls, vl_g, vl_gs, true_and, and_true, and_self, List.getD_cons_zero, List.getD_cons_succ, rRx, rRd, rRe, rRf, Bool.not_true, Bool.not_false, List.cons_append, List.nil_append, List.append_nil]
              refine onER_gen fun u6 hu => ?_
              have k16 : Kept s1 u6 := by (first | rw [hu] | skip); repeat' (first | exact Kept.refl _ | assumption | refine Kept.nw ?_ _ | (refine Kept.wrS ?_ ?_; (first | omega | (simp only [nx_nw, nx_wr, nx_ap, nx_bare]; omega))) | (refine Kept.apS ?_ ?_; (first | omega | (simp only [nx_nw, nx_wr, nx_ap, nx_bare]; omega))))
              have C6 : Cl u6 s1.nx (tk ts i).cells := by ((first | rw [hu] | skip); refine Cl.of_rats (k := 5) ?_ ?_ ?_ (by decide) ?_ <;> first | (simp (disch := first | decide | assumption | omega | (simp only [nx_nw, nx_wr, nx_ap, nx_bare]; first | done | omega) | (simp (disch := first | assumption | omega | (simp only [nx_nw, nx_wr, nx_ap, nx_bare]; first | done | omega)) only [cell_tk, tk_len, rRu, List.length_cons, List.length_nil]; first | done | omega | decide)) only [cell_tk, tk_len, Nat.reduceAdd, Nat.reduceSub, Nat.reduceMul, Nat.zero_add, a_new, a_box, a_st, a_ldA, rats_nwE, rats_nwO, rats_wr, rats_wrO, upd_nil, upd_00, upd_0, upd_S, upd_e, nx_nw, nx_wr, nx_ap, nx_bare, h_bare, len_nwE, len_nwO, len_wr, at_nwE, at_nwO, at_wr, at_wrB, at_wrA, at_wrO, cells_agg, cells_int, cells_str, cells_bool, cells_slice, cells_nils, cells_ptr, a_build0, a_buildc, a_bS, a_bS0, a_bSc, rep_0, rep_S, i_buildP, i_buildSP, r_ps0, r_ps1, i_fnA, i_slS1, i_slS2, i_slS3, v_idxS0, v_iface, r_resA, r_dops, r_dnil, r_dcons0, r_dcons1, h_0, h_1, h_rw, h_wr, h_n1, h_n2, lg_0, lg_S, te_0, te_1, te_2, vl_c, vl_l, vl_ls, vl_g, vl_gs, true_and, and_true, and_self, List.getD_cons_zero, List.getD_cons_succ] <;> first | done | omega | rfl) | rfl)
              clear hu
              have n1 := B1.nx
              have nb0 := Bs.nx
              have C0 := C0.kept k16
              have C5 := C5.kept k16
              have XE := XE.kept k16
              have B06 := B01.kept k16
              have P6 := P1.kept k16
              have LV6 := LV1.kept k16
              have nrt : rb ≠ s1.nx := by omega
              have nxt : xb ≠ s1.nx := by omega
              have nst : st.nx ≤ s1.nx := by omega
              have npt : s1.nx ≠ p := by omega
              generalize htb : s1.nx = tb at *
              have R5 := C5.rats0 lx
              have R6 := C6.rats0 (tk_len _)
              have l0 : rlen u6.h rb = 6 := C0.len
              have l5 : rlen u6.h xb = 6 := by rw [C5.len, lx]
              have l6 : rlen u6.h tb = 5 := C6.len
              have L0 := C0.lt
              have L5 := C5.lt
              have L6 := C6.lt
              have q1 : sameAt Tryd.prog 25 (.ptr xb 0) (.agg cx) u6.h = true := same_k ty25a ty25s (by decide) (by omega) R5 XE.eqs
              have q2 : sameAt Tryd.prog 54 (.ptr tb 0) (.agg (tk ts i).cells) u6.h = true := same_k ty54a ty54s (by decide) (by omega) R6 (tk_eqs _)
              have q12 : ∀ s', But u6 s' p → sameAt Tryd.prog 25 (.ptr xb 0) (.agg cx) s'.h = true ∧ sameAt Tryd.prog 54 (.ptr tb 0) (.agg (tk ts i).cells) s'.h = true := fun s' B' => by
                have D5 := C5.but B' (by omega)
                have D6 := C6.but B' (by omega)
                exact ⟨same_k ty25a ty25s (by decide) (by rw [D5.len, lx]; omega) (D5.rats0 lx) XE.eqs, same_k ty54a ty54s (by decide) (by rw [D6.len]; exact Nat.le_refl 5) (D6.rats0 (tk_len _)) (tk_eqs _)⟩
              by_cases hw1 : v.way = 1
              · have hw1' : (v.way : Int) = 1 := by omega
                rw [if_pos hw1] at hl'
                simp (disch := first | decide | assumption | omega | (simp only [nx_nw, nx_wr, nx_ap, nx_bare]; first | done | omega) | (simp (disch := first | assumption | omega | (simp only [nx_nw, nx_wr, nx_ap, nx_bare]; first | done | omega)) only [l5, l6, rRu, List.length_cons, List.length_nil]; first | done | omega | decide)) only [r_onh i0, r_onh i1, r_onh i4, r_onh i5, vl_h i5, R5, R6, l5, l6, Nat.reduceAdd, Nat.reduceSub, Nat.reduceMul, Nat.zero_add, a_new, a_box, a_st, a_ldA, rats_nwE, rats_nwO, rats_wr, rats_wrO, upd_nil, upd_00, upd_0, upd_S, upd_e, nx_nw, nx_wr, nx_ap, nx_bare, h_bare, len_nwE, len_nwO, len_wr, at_nwE, at_nwO, at_wr, at_wrB, at_wrA, at_wrO, cells_agg, cells_int, cells_str, cells_bool, cells_slice, cells_nils, cells_ptr, a_build0, a_buildc, a_bS, a_bS0, a_bSc, rep_0, rep_S, i_buildP, i_buildSP, r_ps0, r_ps1, i_fnA, i_slS1, i_slS2, i_slS3, v_idxS0, v_iface, r_resA, r_dops, r_dnil, r_dcons0, r_dcons1, h_0, h_1, h_rw, h_wr, h_n1, h_n2, lg_0, lg_S, te_0, te_1, te_2, vl_c, vl_l, vl_ls, vl_g, vl_gs, true_and, and_true, and_self, List.getD_cons_zero, List.getD_cons_succ, rRx, rRd, rRe, rRf, Bool.not_true, Bool.not_false, List.cons_append, List.nil_append, List.append_nil]
                cases hy : exprM ts m (v :: l) (i + 1) d with
                | none => rw [hy] at hl'; cases hl'
                | some ry =>
                  rw [hy] at hl'
                  refine IE m (by omega) (v :: l) _ (i + 1) d p b ry u6 _ _ hy P6 LV6 hlt hd ?_
                  cases ry with
                  | er t =>
                    have hr3 : r = .er t := (Option.some.inj hl').symm
                    rw [hr3] at hQ
                    intro s7 B7
                    simp (disch := first | decide | assumption | omega | (simp only [nx_nw, nx_wr, nx_ap, nx_bare]; first | done | omega) | (simp (disch := first | assumption | omega | (simp only [nx_nw, nx_wr, nx_ap, nx_bare]; first | done | omega)) only [rRu, List.length_cons, List.length_nil]; first | done | omega | decide)) only [Nat.reduceAdd, Nat.reduceSub, Nat.reduceMul, Nat.zero_add, a_new, a_box, a_st, a_ldA, rats_nwE, rats_nwO, rats_wr, rats_wrO, upd_nil, upd_00, upd_0, upd_S, upd_e, nx_nw, nx_wr, nx_ap, nx_bare, h_bare, len_nwE, len_nwO, len_wr, at_nwE, at_nwO, at_wr, at_wrB, at_wrA, at_wrO, cells_agg, cells_int, cells_str, cells_bool, cells_slice, cells_nils, cells_ptr, a_build0, a_buildc, a_bS, a_bS0, a_bSc, rep_0, rep_S, i_buildP, i_buildSP, r_ps0, r_ps1, i_fnA, i_slS1, i_slS2, i_slS3, v_idxS0, v_iface, r_resA, r_dops, r_dnil, r_dcons0, r_dcons1, h_0, h_1, h_rw, h_wr, h_n1, h_n2, lg_0, lg_S, te_0, te_1, te_2, vl_c, vl_l, vl_ls, vl_g, vl_gs, true_and, and_true, and_self, List.getD_cons_zero, List.getD_cons_succ, rRx, rRd, rRe, rRf, Bool.not_true, Bool.not_false, List.cons_append, List.nil_append, List.append_nil]
                    exact hQ _ (hB _ _ (B06.trans B7))
                  | ok y j =>
                    intro hj hwy s7 cy B7 P7 E7
                    have hr3 : r = .ok (twoM (tk ts i) x y) j := (Option.some.inj hl').symm
                    obtain ⟨q3, q4⟩ := q12 s7 B7
                    have C0 := C0.but B7 (by omega)
                    have XE := XE.move B7.nx fun b hb1 hb2 => B7.keep b hb1 (by omega)
                    have n7 := B7.nx
                    simp (disch := first | decide | assumption | omega | (simp only [nx_nw, nx_wr, nx_ap, nx_bare]; first | done | omega) | (simp (disch := first | assumption | omega | (simp only [nx_nw, nx_wr, nx_ap, nx_bare]; first | done | omega)) only [rRu, List.length_cons, List.length_nil]; first | done | omega | decide)) only [q1, q2, q3, q4, vl_h i5, Nat.reduceAdd, Nat.reduceSub, Nat.reduceMul, Nat.zero_add, a_new, a_box, a_st, a_ldA, rats_nwE, rats_nwO, rats_wr, rats_wrO, upd_nil, upd_00, upd_0, upd_S, upd_e, nx_nw, nx_wr, nx_ap, nx_bare, h_bare, len_nwE, len_nwO, len_wr, at_nwE, at_nwO, at_wr, at_wrB, at_wrA, at_wrO, cells_agg, cells_int, cells_str, cells_bool, cells_slice, cells_nils, cells_ptr, a_build0, a_buildc, a_bS, a_bS0, a_bSc, rep_0, rep_S, i_buildP, i_buildSP, r_ps0, r_ps1, i_fnA, i_slS1, i_slS2, i_slS3, v_idxS0, v_iface, r_resA, r_dops, r_dnil, r_dcons0, r_dcons1, h_0, h_1, h_rw, h_wr, h_n1, h_n2, lg_0, lg_S, te_0, te_1, te_2, vl_c, vl_l, vl_ls, vl_g, vl_gs, true_and, and_true, and_self, List.getD_cons_zero, List.getD_cons_succ, rRx, rRd, rRe, rRf, Bool.not_true, Bool.not_false, List.cons_append, List.nil_append, List.append_nil]
                    refine (two_ok hb (tk ts i) (φ := fun b => st.nx ≤ b ∧ b ≠ rb ∧ b ≠ xb) s7 (fun b hb' => by omega) XE (E7.weak fun b _ hb' => by have : u6.nx ≤ b := hb'; omega) _ fun s8 c8 k8 E8 => ?_).x
                    have C0 := C0.kept k8
                    have l0 : rlen s8.h rb = 6 := C0.len
                    have q8 := E8.len
                    have q9 := E8.lall
                    have L0 := C0.lt
                    simp (disch := first | decide | assumption | omega | (simp only [nx_nw, nx_wr, nx_ap, nx_bare]; first | done | omega) | (simp (disch := first | assumption | omega | (simp only [nx_nw, nx_wr, nx_ap, nx_bare]; first | done | omega)) only [l0, q8, q9, rRu, List.length_cons, List.length_nil]; first | done | omega | decide)) only [r_onh i4, l0, q8, q9, Nat.reduceAdd, Nat.reduceSub, Nat.reduceMul, Nat.zero_add, a_new, a_box, a_st, a_ldA, rats_nwE, rats_nwO, rats_wr, rats_wrO, upd_nil, upd_00, upd_0, upd_S, upd_e, nx_nw, nx_wr, nx_ap, nx_bare, h_bare, len_nwE, len_nwO, len_wr, at_nwE, at_nwO, at_wr, at_wrB, at_wrA, at_wrO, cells_agg, cells_int, cells_str, cells_bool, cells_slice, cells_nils, cells_ptr, a_build0, a_buildc, a_bS, a_bS0, a_bSc, rep_0, rep_S, i_buildP, i_buildSP, r_ps0, r_ps1, i_fnA, i_slS1, i_slS2, i_slS3, v_idxS0, v_iface, r_resA, r_dops, r_dnil, r_dcons0, r_dcons1, h_0, h_1, h_rw, h_wr, h_n1, h_n2, lg_0, lg_S, te_0, te_1, te_2, vl_c, vl_l, vl_ls, vl_g, vl_gs, true_and, and_true, and_self, List.getD_cons_zero, List.getD_cons_succ, rRx, rRd, rRe, rRf, Bool.not_true, Bool.not_false, List.cons_append, List.nil_append, List.append_nil]
                    exact fin s8 c8 _ j hr3 hj (twoM_wf hwf hwy) ((B06.trans B7).kept k8) (P7.kept k8) C0 E8
              · have hw1' : (v.way : Int) ≠ 1 := by omega
                rw [if_neg hw1] at hl'
                obtain ⟨g1, g2, g3, g4, g5, ⟨w6, g6, g7, g10⟩, g8, g9⟩ := LV6.hd
                simp (disch := first | decide | assumption | omega | (simp only [nx_nw, nx_wr, nx_ap, nx_bare]; first | done | omega) | (simp (disch := first | assumption | omega | (simp only [nx_nw, nx_wr, nx_ap, nx_bare]; first | done | omega)) only [l5, l6, rRu, List.length_cons, List.length_nil]; first | done | omega | decide)) only [r_onh i0, r_onh i1, r_onh i4, r_onh i5, vl_h i5, R5, R6, a_slSo, l5, l6, Nat.reduceAdd, Nat.reduceSub, Nat.reduceMul, Nat.zero_add, a_new, a_box, a_st, a_ldA, rats_nwE, rats_nwO, rats_wr, rats_wrO, upd_nil, upd_00, upd_0, upd_S, upd_e, nx_nw, nx_wr, nx_ap, nx_bare, h_bare, len_nwE, len_nwO, len_wr, at_nwE, at_nwO, at_wr, at_wrB, at_wrA, at_wrO, cells_agg, cells_int, cells_str, cells_bool, cells_slice, cells_nils, cells_ptr, a_build0, a_buildc, a_bS, a_bS0, a_bSc, rep_0, rep_S, i_buildP, i_buildSP, r_ps0, r_ps1, i_fnA, i_slS1, i_slS2, i_slS3, v_idxS0, v_iface, r_resA, r_dops, r_dnil, r_dcons0, r_dcons1, h_0, h_1, h_rw, h_wr, h_n1, h_n2, lg_0, lg_S, te_0, te_1, te_2, vl_c, vl_l, vl_ls, vl_g, vl_gs, true_and, and_true, and_self, List.getD_cons_zero, List.getD_cons_succ, rRx, rRd, rRe, rRf, Bool.not_true, Bool.not_false, List.cons_append, List.nil_append, List.append_nil]
                cases hy : exprM ts m l (i + 1) d with
                | none => rw [hy] at hl'; cases hl'
                | some ry =>
                  rw [hy] at hl'
                  refine IE m (by omega) l _ (i + 1) d p b ry u6 _ _ hy P6 g9 hlt hd ?_
                  cases ry with
                  | er t =>
                    have hr3 : r = .er t := (Option.some.inj hl').symm
                    rw [hr3] at hQ
                    intro s7 B7
                    simp (disch := first | decide | assumption | omega | (simp only [nx_nw, nx_wr, nx_ap, nx_bare]; first | done | omega) | (simp (disch := first | assumption | omega | (simp only [nx_nw, nx_wr, nx_ap, nx_bare]; first | done | omega)) only [rRu, List.length_cons, List.length_nil]; first | done | omega | decide)) only [Nat.reduceAdd, Nat.reduceSub, Nat.reduceMul, Nat.zero_add, a_new, a_box, a_st, a_ldA, rats_nwE, rats_nwO, rats_wr, rats_wrO, upd_nil, upd_00, upd_0, upd_S, upd_e, nx_nw, nx_wr, nx_ap, nx_bare, h_bare, len_nwE, len_nwO, len_wr, at_nwE, at_nwO, at_wr, at_wrB, at_wrA, at_wrO, cells_agg, cells_int, cells_str, cells_bool, cells_slice, cells_nils, cells_ptr, a_build0, a_buildc, a_bS, a_bS0, a_bSc, rep_0, rep_S, i_buildP, i_buildSP, r_ps0, r_ps1, i_fnA, i_slS1, i_slS2, i_slS3, v_idxS0, v_iface, r_resA, r_dops, r_dnil, r_dcons0, r_dcons1, h_0, h_1, h_rw, h_wr, h_n1, h_n2, lg_0, lg_S, te_0, te_1, te_2, vl_c, vl_l, vl_ls, vl_g, vl_gs, true_and, and_true, and_self, List.getD_cons_zero, List.getD_cons_succ, rRx, rRd, rRe, rRf, Bool.not_true, Bool.not_false, List.cons_append, List.nil_append, List.append_nil]
                    exact hQ _ (hB _ _ (B06.trans B7))
                  | ok y j =>
                    intro hj hwy s7 cy B7 P7 E7
                    obtain ⟨q3, q4⟩ := q12 s7 B7
                    have C0 := C0.but B7 (by omega)
                    have C5 := C5.but B7 (by omega)
                    have XE := XE.move B7.nx fun b hb1 hb2 => B7.keep b hb1 (by omega)
                    have n7 := B7.nx
                    simp (disch := first | decide | assumption | omega | (simp only [nx_nw, nx_wr, nx_ap, nx_bare]; first | done | omega) | (simp (disch := first | assumption | omega | (simp only [nx_nw, nx_wr, nx_ap, nx_bare]; first | done | omega)) only [rRu, List.length_cons, List.length_nil]; first | done | omega | decide)) only [q1, q2, q3, q4, vl_h i5, Nat.reduceAdd, Nat.reduceSub, Nat.reduceMul, Nat.zero_add, a_new, a_box, a_st, a_ldA, rats_nwE, rats_nwO, rats_wr, rats_wrO, upd_nil, upd_00, upd_0, upd_S, upd_e, nx_nw, nx_wr, nx_ap, nx_bare, h_bare, len_nwE, len_nwO, len_wr, at_nwE, at_nwO, at_wr, at_wrB, at_wrA, at_wrO, cells_agg, cells_int, cells_str, cells_bool, cells_slice, cells_nils, cells_ptr, a_build0, a_buildc, a_bS, a_bS0, a_bSc, rep_0, rep_S, i_buildP, i_buildSP, r_ps0, r_ps1, i_fnA, i_slS1, i_slS2, i_slS3, v_idxS0, v_iface, r_resA, r_dops, r_dnil, r_dcons0, r_dcons1, h_0, h_1, h_rw, h_wr, h_n1, h_n2, lg_0, lg_S, te_0, te_1, te_2, vl_c, vl_l, vl_ls, vl_g, vl_gs, true_and, and_true, and_self, List.getD_cons_zero, List.getD_cons_succ, rRx, rRd, rRe, rRf, Bool.not_true, Bool.not_false, List.cons_append, List.nil_append, List.append_nil]
                    refine (two_ok hb (tk ts i) (φ := fun b => st.nx ≤ b ∧ b ≠ rb ∧ b ≠ xb) s7 (fun b hb' => by omega) XE (E7.weak fun b _ hb' => by have : u6.nx ≤ b := hb'; omega) _ fun s8 c8 k8 E8 => ?_).x
                    have C0 := C0.kept k8
                    have C5 := C5.kept k8
                    have B08 := (B06.trans B7).kept k8
                    have P8 := P7.kept k8
                    have LV8 := LV.but B08
                    obtain ⟨g1, g2, g3, g4, g5, ⟨w6, g6, g7, g10⟩, g8, g9⟩ := LV8.hd
                    have l0 : rlen s8.h rb = 6 := C0.len
                    have l5 : rlen s8.h xb = 6 := by rw [C5.len, lx]
                    have q8 := E8.len
                    have q9 := E8.lall
                    have L0 := C0.lt
                    have L5 := C5.lt
                    have hp8 := P8.lt
                    have hb8 := P8.ts.lt
                    simp (disch := first | decide | assumption | omega | (simp only [nx_nw, nx_wr, nx_ap, nx_bare]; first | done | omega) | (simp (disch := first | assumption | omega | (simp only [nx_nw, nx_wr, nx_ap, nx_bare]; first | done | omega)) only [l5, q8, q9, rRu, List.length_cons, List.length_nil]; first | done | omega | decide)) only [r_onh i1, r_onh i5, g8, l5, q8, q9, Nat.reduceAdd, Nat.reduceSub, Nat.reduceMul, Nat.zero_add, a_new, a_box, a_st, a_ldA, rats_nwE, rats_nwO, rats_wr, rats_wrO, upd_nil, upd_00, upd_0, upd_S, upd_e, nx_nw, nx_wr, nx_ap, nx_bare, h_bare, len_nwE, len_nwO, len_wr, at_nwE, at_nwO, at_wr, at_wrB, at_wrA, at_wrO, cells_agg, cells_int, cells_str, cells_bool, cells_slice, cells_nils, cells_ptr, a_build0, a_buildc, a_bS, a_bS0, a_bSc, rep_0, rep_S, i_buildP, i_buildSP, r_ps0, r_ps1, i_fnA, i_slS1, i_slS2, i_slS3, v_idxS0, v_iface, r_resA, r_dops, r_dnil, r_dcons0, r_dcons1, h_0, h_1, h_rw, h_wr, h_n1, h_n2, lg_0, lg_S, te_0, te_1, te_2, vl_c, vl_l, vl_ls, vl_g, vl_gs, true_and, and_true, and_self, List.getD_cons_zero, List.getD_cons_succ, rRx, rRd, rRe, rRf, Bool.not_true, Bool.not_false, List.cons_append, List.nil_append, List.append_nil]
                    refine onER_gen fun u9 hu => ?_
                    have C5 : Cl u9 xb c8 := by ((first | rw [hu] | skip); refine Cl.of_rats (k := 6) ?_ ?_ ?_ (by decide) ?_ <;> first | (simp (disch := first | decide | assumption | omega | (simp only [nx_nw, nx_wr, nx_ap, nx_bare]; first | done | omega) | (simp (disch := first | assumption | omega | (simp only [nx_nw, nx_wr, nx_ap, nx_bare]; first | done | omega)) only [q8, l5, rRu, List.length_cons, List.length_nil]; first | done | omega | decide)) only [q8, l5, Nat.reduceAdd, Nat.reduceSub, Nat.reduceMul, Nat.zero_add, a_new, a_box, a_st, a_ldA, rats_nwE, rats_nwO, rats_wr, rats_wrO, upd_nil, upd_00, upd_0, upd_S, upd_e, nx_nw, nx_wr, nx_ap, nx_bare, h_bare, len_nwE, len_nwO, len_wr, at_nwE, at_nwO, at_wr, at_wrB, at_wrA, at_wrO, cells_agg, cells_int, cells_str, cells_bool, cells_slice, cells_nils, cells_ptr, a_build0, a_buildc, a_bS, a_bS0, a_bSc, rep_0, rep_S, i_buildP, i_buildSP, r_ps0, r_ps1, i_fnA, i_slS1, i_slS2, i_slS3, v_idxS0, v_iface, r_resA, r_dops, r_dnil, r_dcons0, r_dcons1, h_0, h_1, h_rw, h_wr, h_n1, h_n2, lg_0, lg_S, te_0, te_1, te_2, vl_c, vl_l, vl_ls, vl_g, vl_gs, true_and, and_true, and_self, List.getD_cons_zero, List.getD_cons_succ] <;> first | done | omega | rfl) | rfl)
                    have C0 : Cl u9 rb zE := by rw [hu]; exact C0.wrO (by omega) _ _
                    have nb8 := B08.nx
                    have B09 : But s0 u9 p := by (first | rw [hu] | skip); repeat' (first | exact But.refl _ _ | assumption | refine But.nw ?_ _ | refine But.wrC ?_ _ _ | (refine But.wrS ?_ ?_; (first | omega | (simp only [nx_nw, nx_wr, nx_ap, nx_bare]; omega))))
                    have P9 : Pk u9 p b ts j d := by rw [hu]; repeat' (first | exact P8 | (refine Pk.wrS ?_ ?_ ?_; (first | omega | (simp only [nx_nw, nx_wr, nx_ap, nx_bare]; omega)); (first | omega | (simp only [nx_nw, nx_wr, nx_ap, nx_bare]; omega))) | refine Pk.put1 (i := j) ?_ _ | refine Pk.put2 (d := d) ?_ _ | refine Pk.nw ?_ _)
                    have E9 : ExP (fun b => st.nx ≤ b ∧ b ≠ rb ∧ b ≠ xb) u9 c8 (twoM (tk ts i) x y) := by rw [hu]; exact E8.move (Nat.le_refl _) fun b _ hb1 => get_wrO hb1.2.2
                    clear hu
                    have l0 : rlen u9.h rb = 6 := C0.len
                    have l5 : rlen u9.h xb = 6 := by rw [C5.len, q8]
                    have R9 := C5.rats0 q8
                    have L0 := C0.lt
                    have L5 := C5.lt
                    have hl2 : (if v.way = 2 then some (PR.ok (twoM (tk ts i) x y) j) else loopM ts m v l (twoM (tk ts i) x y) j d) = some r := hl'
                    by_cases hw2 : v.way = 2
                    · have hw2' : (v.way : Int) = 2 := by omega
                      rw [if_pos hw2] at hl2
                      have hr3 : r = .ok (twoM (tk ts i) x y) j := (Option.some.inj hl2).symm
                      simp (disch := first | decide | assumption | omega | (simp only [nx_nw, nx_wr, nx_ap, nx_bare]; first | done | omega) | (simp (disch := first | assumption | omega | (simp only [nx_nw, nx_wr, nx_ap, nx_bare]; first | done | omega)) only [l0, l5, q8, q9, rRu, List.length_cons, List.length_nil]; first | done | omega | decide)) only [r_onh i4, r_onh i5, R9, l0, l5, q8, q9, Nat.reduceAdd, Nat.reduceSub, Nat.reduceMul, Nat.zero_add, a_new, a_box, a_st, a_ldA, rats_nwE, rats_nwO, rats_wr, rats_wrO, upd_nil, upd_00, upd_0, upd_S, upd_e, nx_nw, nx_wr, nx_ap, nx_bare, h_bare, len_nwE, len_nwO, len_wr, at_nwE, at_nwO, at_wr, at_wrB, at_wrA, at_wrO, cells_agg, cells_int, cells_str, cells_bool, cells_slice, cells_nils, cells_ptr, a_build0, a_buildc, a_bS, a_bS0, a_bSc, rep_0, rep_S, i_buildP, i_buildSP, r_ps0, r_ps1, i_fnA, i_slS1, i_slS2, i_slS3, v_idxS0, v_iface, r_resA, r_dops, r_dnil, r_dcons0, r_dcons1, h_0, h_1, h_rw, h_wr, h_n1, h_n2, lg_0, lg_S, te_0, te_1, te_2, vl_c, vl_l, vl_ls, vl_g, vl_gs, true_and, and_true, and_self, List.getD_cons_zero, List.getD_cons_succ, rRx, rRd, rRe, rRf, Bool.not_true, Bool.not_false, List.cons_append, List.nil_append, List.append_nil]
                      exact fin u9 c8 _ j hr3 hj (twoM_wf hwf hwy) B09 P9 C0 E9
                    · have hw2' : (v.way : Int) ≠ 2 := by omega
                      rw [if_neg hw2] at hl2
                      simp (disch := first | decide | assumption | omega | (simp only [nx_nw, nx_wr, nx_ap, nx_bare]; first | done | omega) | (simp (disch := first | assumption | omega | (simp only [nx_nw, nx_wr, nx_ap, nx_bare]; first | done | omega)) only [rRu, List.length_cons, List.length_nil]; first | done | omega | decide)) only [Nat.reduceAdd, Nat.reduceSub, Nat.reduceMul, Nat.zero_add, a_new, a_box, a_st, a_ldA, rats_nwE, rats_nwO, rats_wr, rats_wrO, upd_nil, upd_00, upd_0, upd_S, upd_e, nx_nw, nx_wr, nx_ap, nx_bare, h_bare, len_nwE, len_nwO, len_wr, at_nwE, at_nwO, at_wr, at_wrB, at_wrA, at_wrO, cells_agg, cells_int, cells_str, cells_bool, cells_slice, cells_nils, cells_ptr, a_build0, a_buildc, a_bS, a_bS0, a_bSc, rep_0, rep_S, i_buildP, i_buildSP, r_ps0, r_ps1, i_fnA, i_slS1, i_slS2, i_slS3, v_idxS0, v_iface, r_resA, r_dops, r_dnil, r_dcons0, r_dcons1, h_0, h_1, h_rw, h_wr, h_n1, h_n2, lg_0, lg_S, te_0, te_1, te_2, vl_c, vl_l, vl_ls, vl_g, vl_gs, true_and, and_true, and_self, List.getD_cons_zero, List.getD_cons_succ, rRx, rRd, rRe, rRf, Bool.not_true, Bool.not_false, List.cons_append, List.nil_append, List.append_nil]
                      refine ⟨m, by omega, m, j, twoM (tk ts i) x y, c8, by omega, rfl, hl2, hj, twoM_wf hwf hwy, B09, P9, C0, C5, E9, ?_⟩
                      simp (disch := decide) only [z0, z1, h_here, h_skip, i0, i1, i4, i5, true_and, and_true]
            · have hr3 : r = .ok x i := by
                unfold loopM at hl
                rw [if_neg (by rw [hm1]; decide)] at hl
                exact (Option.some.inj hl).symm
              have C0 := C0.but B1 (by omega)
              have C5 := C5.but B1 (by omega)
              have l0 : rlen s1.h rb = 6 := C0.len
              have l5 : rlen s1.h xb = 6 := by rw [C5.len, lx]
              have R5 := C5.rats0 lx
              have L0 := C0.lt
              have L5 := C5.lt
              have hp1 := P1.lt
              have hb1 := P1.ts.lt
              simp (disch := first | decide | assumption | omega | (simp only [nx_nw, nx_wr, nx_ap, nx_bare]; first | done | omega) | (simp (disch := first | assumption | omega | (simp only [nx_nw, nx_wr, nx_ap, nx_bare]; first | done | omega)) only [l0, l5, lx, qx, tk_len, cell_tk, rRu, List.length_cons, List.length_nil]; first | done | omega | decide)) only [r_onh i0, r_onh i1, r_onh i4, r_onh i5, R5, l0, l5, lx, qx, tk_len, cell_tk, Nat.reduceAdd, Nat.reduceSub, Nat.reduceMul, Nat.zero_add, a_new, a_box, a_st, a_ldA, rats_nwE, rats_nwO, rats_wr, rats_wrO, upd_nil, upd_00, upd_0, upd_S, upd_e, nx_nw, nx_wr, nx_ap, nx_bare, h_bare, len_nwE, len_nwO, len_wr, at_nwE, at_nwO, at_wr, at_wrB, at_wrA, at_wrO, cells_agg, cells_int, cells_str, cells_bool, cells_slice, cells_nils, cells_ptr, a_build0, a_buildc, a_bS, a_bS0, a_bSc, rep_0, rep_S, i_buildP, i_buildSP, r_ps0, r_ps1, i_fnA, i_slS1, i_slS2, i_slS3, v_idxS0, v_iface, r_resA, r_dops, r_dnil, r_dcons0, r_dcons1, h_0, h_1, h_rw, h_wr, h_n1, h_n2, lg_0, lg_S, te_0, te_1, te_2, vl_c, vl_l, vl_ls, vl_g, vl_gs, true_and, and_true, and_self, List.getD_cons_zero, List.getD_cons_succ, rRx, rRd, rRe, rRf, Bool.not_true, Bool.not_false, List.cons_append, List.nil_append, List.append_nil]
              have n1 := B1.nx
              have nb1 := Bs.nx
              have B01 := Bs.trans B1
              have kz : Kept s1 (wr (nw s1 [.int .i64 0, .str [], .int .i64 0, .int .i64 0, .int .i64 0]) s1.nx 0 (tk ts i).cells) := ((Kept.refl _).nw _).wr (Nat.le_refl _) _ _
              exact fin _ cx x i hr3 hi hwf (B01.kept kz) (P1.kept kz) (C0.kept kz) ((XE.move B1.nx fun b hb1 hb2 => B1.keep b hb1 (by omega)).kept kz)
        · refine ⟨n, j0, x0, cx0, Nat.le_refl _, rfl, hr2, hj0, hwf0, B05, P5, C0, C5, E5, ?_⟩
          simp (disch := decide) only [z0, z1, h_here, h_skip, true_and, and_true]
end Go.Sy
end

section
set_option maxRecDepth 100000
namespace Go.Sy
open Go.Ev Go.Proofs
def z6 : XC := (.seq (.ops [⟨(some 2), true, none, (.i (.alloc [(.int .i64 0), (.int .i64 0), (.str []), .nils, (.int .i64 0), (.int .i64 0)]))⟩, ⟨(some 3), true, none, (.i (.alloc [(.int .i64 0), (.int .i64 0), (.int .i64 0)]))⟩]) (.seq (.ops [⟨(some 9), false, none, (.i (.mv (.t 0)))⟩, ⟨(some 10), false, none, (.call (.c (.fn 12 [])) [(.t 9)])⟩, ⟨(some 8), false, none, (.i (.mv (.t 10)))⟩, ⟨(some 11), false, none, (.i (.ext (.t 8) 0))⟩, ⟨(some 12), false, none, (.i (.ext (.t 8) 1))⟩, ⟨(some 4), true, none, (.i (.mv (.t 11)))⟩, ⟨none, false, none, (.i (.st 3 (.t 3) (.t 12)))⟩]) (.seq (.seq (.ops [⟨(some 13), false, none, (.i (.fad 0 (.t 3)))⟩, ⟨(some 14), false, none, (.i (.ld1 (.t 13)))⟩, ⟨(some 15), true, none, (.i (.bin .neq (.t 14) (.c (.int .i64 0))))⟩]) (.cond (.t 15) (.seq (.dops [(⟨⟨(some 16), false, none, (.i (.ldA 6 (.t 2)))⟩, (some (some (.t 2))), 25, []⟩, none), (⟨⟨(some 17), false, none, (.i (.ldA 3 (.t 3)))⟩, (some (some (.t 3))), 28, []⟩, none), (⟨⟨none, false, none, (.i (.st 6 (.t 2) (.t 16)))⟩, (some none), 0, [(0, 28)]⟩, none), (⟨⟨none, false, none, (.i (.st 3 (.t 3) (.t 17)))⟩, (some none), 0, []⟩, none)]) .ret) .skip)) (.seq (.ops [⟨none, false, none, (.defer (.c (.fn 13 [])) [(.t 3)])⟩]) (.seq (.ops [⟨(some 18), false, none, (.i (.mv (.t 4)))⟩, ⟨(some 19), false, none, (.i (.build [.nils, (.int .i64 0), (.int .i64 0)] [((0, 1), (.t 18))]))⟩, ⟨(some 20), false, none, (.i (.box (.t 19)))⟩, ⟨(some 5), true, none, (.i (.mv (.t 20)))⟩]) (.seq (.ops [⟨(some 21), false, none, (.i (.mv (.t 5)))⟩, ⟨(some 22), false, none, (.call (.c (.fn 14 [])) [(.t 21)])⟩, ⟨(some 6), true, none, (.i (.alloc [(.int .i64 0), (.int .i64 0), (.str []), .nils, (.int .i64 0), (.int .i64 0)]))⟩, ⟨none, false, none, (.i (.st 6 (.t 6) (.t 22)))⟩]) (.seq (.seq (.ops [⟨(some 23), false, none, (.i (.mv (.t 5)))⟩, ⟨(some 24), false, none, (.call (.c (.fn 15 [])) [(.t 23)])⟩, ⟨(some 7), true, none, (.i (.alloc [(.int .i64 0), (.str []), (.int .i64 0), (.int .i64 0), (.int .i64 0)]))⟩, ⟨none, false, none, (.i (.st 5 (.t 7) (.t 24)))⟩]) (.seq (.ops [⟨(some 25), false, none, (.i (.fad 0 (.t 7)))⟩, ⟨(some 26), false, none, (.i (.ld1 (.t 25)))⟩, ⟨(some 27), true, none, (.i (.bin .neq (.t 26) (.c (.int .i64 5))))⟩]) (.cond (.t 27) (.ops [⟨(some 28), false, none, (.i (.ldA 5 (.t 7)))⟩, ⟨(some 29), false, none, (.call (.c (.fn 16 [])) [(.t 28)])⟩]) .skip))) (.seq (.dops [(⟨⟨(some 30), false, none, (.i (.ldA 6 (.t 6)))⟩, (some (some (.t 6))), 25, []⟩, none), (⟨⟨(some 31), false, none, (.i (.ldA 3 (.t 3)))⟩, (some (some (.t 3))), 28, []⟩, none), (⟨⟨none, false, none, (.i (.st 6 (.t 2) (.t 30)))⟩, (some none), 0, [(0, 28)]⟩, none), (⟨⟨none, false, none, (.i (.st 3 (.t 3) (.t 31)))⟩, (some none), 0, []⟩, none)]) .ret))))))))
def y6 : XF := ⟨[0], z6, [(.cA 2 6), (.cA 3 3)]⟩
theorem x6 : lowXF Tryd.prog 6 = some y6 := by kernel_rfl
def zh13 : XC := (.block 0 (.seq (.ops [⟨(some 7), true, none, (.i (.gen .eql 20 true (.t 5) (.c .nilif)))⟩]) (.cond (.t 7) (.ops [⟨(some 2), false, none, (.i (.mv (.t 5)))⟩]) (.seq (.ops [⟨(some 8), false, none, (.i (.assert (.t 5) 28))⟩, ⟨(some 9), true, none, (.i (.ext (.t 8) 1))⟩, ⟨(some 10), true, none, (.i (.ext (.t 8) 0))⟩]) (.cond (.t 9) (.seq (.ops [⟨(some 3), true, none, (.i (.alloc [(.int .i64 0), (.int .i64 0), (.int .i64 0)]))⟩, ⟨none, false, none, (.i (.st 3 (.t 3) (.t 10)))⟩]) (.ops [⟨(some 11), false, none, (.i (.mv (.t 0)))⟩, ⟨(some 12), false, none, (.i (.ldA 3 (.t 3)))⟩, ⟨(some 13), false, none, (.i (.nilc (.t 11)))⟩, ⟨none, false, none, (.i (.st 3 (.t 13) (.t 12)))⟩])) (.seq (.ops [⟨(some 4), true, none, (.i (.mv (.t 5)))⟩]) (.ops [⟨(some 6), false, none, (.i (.mv (.t 4)))⟩, ⟨none, false, none, (.pan (.t 6))⟩])))))))
def yh13 : XH := ⟨[0], (some 5), true, [], zh13, []⟩
theorem xh13 : lowXH Tryd.prog 13 = some yh13 := by kernel_rfl
end Go.Sy
end

section
set_option maxRecDepth 100000
namespace Go.Sy
open Go.Ev Go.Proofs
variable {base : CallF}
theorem reads_ok (hb : NB base) {ts : List Tk} (W : Wds ts) : ∀ n, ExprC base ts n ∧ PrefC base ts n ∧ ValC base ts n := by
  have z : ExprC base ts 0 ∧ PrefC base ts 0 ∧ ValC base ts 0 :=
    ⟨fun lv v i d p b r st K Kp hr => (by unfold exprM at hr; cases hr), fun i d p b r st K Kp hr => (by unfold prefM at hr; cases hr), fun i d p b r st K Kp hr => (by unfold valM at hr; cases hr)⟩
  have key : ∀ n, ∀ m, m ≤ n → ExprC base ts m ∧ PrefC base ts m ∧ ValC base ts m := by
    intro n
    induction n with
    | zero =>
      intro m hm
      have : m = 0 := by omega
      subst this
      exact z
    | succ n ih =>
      intro m hm
      by_cases h : m ≤ n
      · exact ih m h
      · have : m = n + 1 := by omega
        subst this
        obtain ⟨h1, h2, h3⟩ := ih n (Nat.le_refl _)
        exact ⟨expr_ok hb W (fun k hk => (ih k hk).1) h2, pref_ok hb W h2 h3, val_ok hb W h1⟩
  exact fun n => key n n (Nat.le_refl _)
/-- an expression that is right -/
noncomputable def wholeR (ts : List Tk) (i : Nat) (r0 : PR) : PR := match r0 with
  | .er t => .er t
  | .ok x j => if rightB 60 x = true then .ok x j else .er (tk ts i)
def WholeM (ts : List Tk) (i d : Nat) (r : PR) : Prop := ∃ n r0, exprM ts n levelsM i d = some r0 ∧ r = wholeR ts i r0
theorem whole_ok (hb : NB base) {ts : List Tk} (W : Wds ts) (i d p b : Nat) (r : PR) (st : St) (K Kp : AV → St → Prop) (hr : WholeM ts i d r) (P : Pk st p b ts i d) (hi : i < ts.length) (hd : d ≤ 60) (hQ : PostC ts p b d st r K Kp) : XB Tryd.prog base 14 [.ptr p 0] st K Kp := by
  obtain ⟨n, r0, hr0, rfl⟩ := hr
  have hlen := W.len
  refine fn_ruleXB x14 (by rfl) (hb.at _ (by decide) _ _) ?_
  simp only [y14, entry, List.map_cons, List.map_nil, List.getD_cons_zero, List.getD_cons_succ]
  unfold z14
  have P := P.bare
  have hE : ∀ s, Kept st.bare s → Kept st (bk st s) := fun s k => ⟨k.nx, rfl, k.keep⟩
  have hB : ∀ s c, But st.bare s c → But st (bk st s) c := fun s c k => ⟨k.nx, rfl, k.keep⟩
  have hS0 : bk st st.bare = st := rfl
  have hnx0 : st.bare.nx = st.nx := rfl
  have hfr0 : st.bare.fr = [] := rfl
  generalize st.bare = s0 at *
  have hp := P.lt
  have hbl := P.ts.lt
  simp (disch := first | decide | assumption | omega | (simp only [nx_nw, nx_wr, nx_ap, nx_bare]; first | done | omega) | (simp (disch := first | assumption | omega | (simp only [nx_nw, nx_wr, nx_ap, nx_bare]; first | done | omega)) only [rRu, List.length_cons, List.length_nil]; first | done | omega | decide)) only [Nat.reduceAdd, Nat.reduceSub, Nat.reduceMul, Nat.zero_add, a_new, a_box, a_st, a_ldA, rats_nwE, rats_nwO, rats_wr, rats_wrO, upd_nil, upd_00, upd_0, upd_S, upd_e, nx_nw, nx_wr, nx_ap, nx_bare, h_bare, len_nwE, len_nwO, len_wr, at_nwE, at_nwO, at_wr, at_wrB, at_wrA, at_wrO, cells_agg, cells_int, cells_str, cells_bool, cells_slice, cells_nils, cells_ptr, a_build0, a_buildc, a_bS, a_bS0, a_bSc, rep_0, rep_S, i_buildP, i_buildSP, r_ps0, r_ps1, i_fnA, i_slS1, i_slS2, i_slS3, v_idxS0, v_iface, r_resA, r_dops, r_dnil, r_dcons0, r_dcons1, h_0, h_1, h_rw, h_wr, h_n1, h_n2, lg_0, lg_S, te_0, te_1, te_2, vl_c, vl_l, vl_ls, vl_g, vl_gs, true_and, and_true, and_self, List.getD_cons_zero, List.getD_cons_succ, rRx, rRd, rRe, rRf, Bool.not_true, Bool.not_false, List.cons_append, List.nil_append, List.append_nil]
  refine XB.gen fun u hu => ?_
  have k0 : Kept s0 u := by (first | rw [hu] | skip); repeat' (first | exact Kept.refl _ | assumption | refine Kept.nw ?_ _ | (refine Kept.wrS ?_ ?_; (first | omega | (simp only [nx_nw, nx_wr, nx_ap, nx_bare]; omega))) | (refine Kept.apS ?_ ?_; (first | omega | (simp only [nx_nw, nx_wr, nx_ap, nx_bare]; omega))))
  have C0 : Cl u s0.nx zE := by rw [hu]; exact Cl.new s0 zE
  have nu : u.nx = s0.nx + 1 := by rw [hu]; rfl
  clear hu
  have P := P.kept k0
  generalize hrb : s0.nx = rb at *
  refine (now_ok hb _ P hi _ fun s1 k1 => ?_).x
  have k01 := k0.trans k1
  have P := P.kept k1
  have C0 := C0.kept k1
  have hp := P.lt
  have hbl := P.ts.lt
  have L0 := C0.lt
  have n1 := k1.nx
  simp (disch := first | decide | assumption | omega | (simp only [nx_nw, nx_wr, nx_ap, nx_bare]; first | done | omega) | (simp (disch := first | assumption | omega | (simp only [nx_nw, nx_wr, nx_ap, nx_bare]; first | done | omega)) only [tk_len, cell_tk, rRu, List.length_cons, List.length_nil]; first | done | omega | decide)) only [tk_len, cell_tk, Nat.reduceAdd, Nat.reduceSub, Nat.reduceMul, Nat.zero_add, a_new, a_box, a_st, a_ldA, rats_nwE, rats_nwO, rats_wr, rats_wrO, upd_nil, upd_00, upd_0, upd_S, upd_e, nx_nw, nx_wr, nx_ap, nx_bare, h_bare, len_nwE, len_nwO, len_wr, at_nwE, at_nwO, at_wr, at_wrB, at_wrA, at_wrO, cells_agg, cells_int, cells_str, cells_bool, cells_slice, cells_nils, cells_ptr, a_build0, a_buildc, a_bS, a_bS0, a_bSc, rep_0, rep_S, i_buildP, i_buildSP, r_ps0, r_ps1, i_fnA, i_slS1, i_slS2, i_slS3, v_idxS0, v_iface, r_resA, r_dops, r_dnil, r_dcons0, r_dcons1, h_0, h_1, h_rw, h_wr, h_n1, h_n2, lg_0, lg_S, te_0, te_1, te_2, vl_c, vl_l, vl_ls, vl_g, vl_gs, true_and, and_true, and_self, List.getD_cons_zero, List.getD_cons_succ, rRx, rRd, rRe, rRf, Bool.not_true, Bool.not_false, List.cons_append, List.nil_append, List.append_nil]
  refine XB.gen fun u2 hu => ?_
  have k2 : Kept s1 u2 := by (first | rw [hu] | skip); repeat' (first | exact Kept.refl _ | assumption | refine Kept.nw ?_ _ | (refine Kept.wrS ?_ ?_; (first | omega | (simp only [nx_nw, nx_wr, nx_ap, nx_bare]; omega))) | (refine Kept.apS ?_ ?_; (first | omega | (simp only [nx_nw, nx_wr, nx_ap, nx_bare]; omega))))
  have C1 : Cl u2 s1.nx (tk ts i).cells := by ((first | rw [hu] | skip); refine Cl.of_rats (k := 5) ?_ ?_ ?_ (by decide) ?_ <;> first | (simp (disch := first | decide | assumption | omega | (simp only [nx_nw, nx_wr, nx_ap, nx_bare]; first | done | omega) | (simp (disch := first | assumption | omega | (simp only [nx_nw, nx_wr, nx_ap, nx_bare]; first | done | omega)) only [cell_tk, tk_len, rRu, List.length_cons, List.length_nil]; first | done | omega | decide)) only [cell_tk, tk_len, Nat.reduceAdd, Nat.reduceSub, Nat.reduceMul, Nat.zero_add, a_new, a_box, a_st, a_ldA, rats_nwE, rats_nwO, rats_wr, rats_wrO, upd_nil, upd_00, upd_0, upd_S, upd_e, nx_nw, nx_wr, nx_ap, nx_bare, h_bare, len_nwE, len_nwO, len_wr, at_nwE, at_nwO, at_wr, at_wrB, at_wrA, at_wrO, cells_agg, cells_int, cells_str, cells_bool, cells_slice, cells_nils, cells_ptr, a_build0, a_buildc, a_bS, a_bS0, a_bSc, rep_0, rep_S, i_buildP, i_buildSP, r_ps0, r_ps1, i_fnA, i_slS1, i_slS2, i_slS3, v_idxS0, v_iface, r_resA, r_dops, r_dnil, r_dcons0, r_dcons1, h_0, h_1, h_rw, h_wr, h_n1, h_n2, lg_0, lg_S, te_0, te_1, te_2, vl_c, vl_l, vl_ls, vl_g, vl_gs, true_and, and_true, and_self, List.getD_cons_zero, List.getD_cons_succ] <;> first | done | omega | rfl) | rfl)
  clear hu
  have k02 := k01.trans k2
  have P := P.kept k2
  have C0 := C0.kept k2
  have nr1 : rb ≠ s1.nx := by omega
  have ntp : s1.nx ≠ p := by omega
  have n0t : rb ≤ s1.nx := by omega
  generalize htb : s1.nx = tb at *
  have hp2 := P.lt
  refine (levels_ok hb (φ := (· ≠ p)) u2 (fun b hb' => by omega) _ fun sB v kB LV => ?_).x
  have P := P.kept kB
  have C0 := C0.kept kB
  have C1 := C1.kept kB
  have k0B := k02.trans kB
  have LB0 := C0.lt
  have LB1 := C1.lt
  simp (disch := first | decide | assumption | omega | (simp only [nx_nw, nx_wr, nx_ap, nx_bare]; first | done | omega) | (simp (disch := first | assumption | omega | (simp only [nx_nw, nx_wr, nx_ap, nx_bare]; first | done | omega)) only [rRu, List.length_cons, List.length_nil]; first | done | omega | decide)) only [Nat.reduceAdd, Nat.reduceSub, Nat.reduceMul, Nat.zero_add, a_new, a_box, a_st, a_ldA, rats_nwE, rats_nwO, rats_wr, rats_wrO, upd_nil, upd_00, upd_0, upd_S, upd_e, nx_nw, nx_wr, nx_ap, nx_bare, h_bare, len_nwE, len_nwO, len_wr, at_nwE, at_nwO, at_wr, at_wrB, at_wrA, at_wrO, cells_agg, cells_int, cells_str, cells_bool, cells_slice, cells_nils, cells_ptr, a_build0, a_buildc, a_bS, a_bS0, a_bSc, rep_0, rep_S, i_buildP, i_buildSP, r_ps0, r_ps1, i_fnA, i_slS1, i_slS2, i_slS3, v_idxS0, v_iface, r_resA, r_dops, r_dnil, r_dcons0, r_dcons1, h_0, h_1, h_rw, h_wr, h_n1, h_n2, lg_0, lg_S, te_0, te_1, te_2, vl_c, vl_l, vl_ls, vl_g, vl_gs, true_and, and_true, and_self, List.getD_cons_zero, List.getD_cons_succ, rRx, rRd, rRe, rRf, Bool.not_true, Bool.not_false, List.cons_append, List.nil_append, List.append_nil]
  refine (reads_ok hb W n).1 levelsM v i d p b r0 sB _ _ hr0 P LV hi hd ?_
  cases r0 with
  | er t =>
    intro s4 B4
    exact hQ _ (hB _ _ ((But.of p k0B).trans B4))
  | ok x j =>
    intro hj hwf s4 cx B4 P4 E4
    have C0 := C0.but B4 (by omega)
    have C1 := C1.but B4 ntp
    have B04 := (But.of p k0B).trans B4
    have lx := E4.len
    have qx := E4.lall
    have hp4 := P4.lt
    have hb4 := P4.ts.lt
    have L0 := C0.lt
    have L1 := C1.lt
    have n4 := B4.nx
    simp (disch := first | decide | assumption | omega | (simp only [nx_nw, nx_wr, nx_ap, nx_bare]; first | done | omega) | (simp (disch := first | assumption | omega | (simp only [nx_nw, nx_wr, nx_ap, nx_bare]; first | done | omega)) only [lx, qx, rRu, List.length_cons, List.length_nil]; first | done | omega | decide)) only [lx, qx, Nat.reduceAdd, Nat.reduceSub, Nat.reduceMul, Nat.zero_add, a_new, a_box, a_st, a_ldA, rats_nwE, rats_nwO, rats_wr, rats_wrO, upd_nil, upd_00, upd_0, upd_S, upd_e, nx_nw, nx_wr, nx_ap, nx_bare, h_bare, len_nwE, len_nwO, len_wr, at_nwE, at_nwO, at_wr, at_wrB, at_wrA, at_wrO, cells_agg, cells_int, cells_str, cells_bool, cells_slice, cells_nils, cells_ptr, a_build0, a_buildc, a_bS, a_bS0, a_bSc, rep_0, rep_S, i_buildP, i_buildSP, r_ps0, r_ps1, i_fnA, i_slS1, i_slS2, i_slS3, v_idxS0, v_iface, r_resA, r_dops, r_dnil, r_dcons0, r_dcons1, h_0, h_1, h_rw, h_wr, h_n1, h_n2, lg_0, lg_S, te_0, te_1, te_2, vl_c, vl_l, vl_ls, vl_g, vl_gs, true_and, and_true, and_self, List.getD_cons_zero, List.getD_cons_succ, rRx, rRd, rRe, rRf, Bool.not_true, Bool.not_false, List.cons_append, List.nil_append, List.append_nil]
    refine XB.gen fun u5 hu => ?_
    have k5 : Kept s4 u5 := by (first | rw [hu] | skip); repeat' (first | exact Kept.refl _ | assumption | refine Kept.nw ?_ _ | (refine Kept.wrS ?_ ?_; (first | omega | (simp only [nx_nw, nx_wr, nx_ap, nx_bare]; omega))) | (refine Kept.apS ?_ ?_; (first | omega | (simp only [nx_nw, nx_wr, nx_ap, nx_bare]; omega))))
    have C5 : Cl u5 s4.nx cx := by ((first | rw [hu] | skip); refine Cl.of_rats (k := 6) ?_ ?_ ?_ (by decide) ?_ <;> first | (simp (disch := first | decide | assumption | omega | (simp only [nx_nw, nx_wr, nx_ap, nx_bare]; first | done | omega) | (simp (disch := first | assumption | omega | (simp only [nx_nw, nx_wr, nx_ap, nx_bare]; first | done | omega)) only [lx, rRu, List.length_cons, List.length_nil]; first | done | omega | decide)) only [lx, Nat.reduceAdd, Nat.reduceSub, Nat.reduceMul, Nat.zero_add, a_new, a_box, a_st, a_ldA, rats_nwE, rats_nwO, rats_wr, rats_wrO, upd_nil, upd_00, upd_0, upd_S, upd_e, nx_nw, nx_wr, nx_ap, nx_bare, h_bare, len_nwE, len_nwO, len_wr, at_nwE, at_nwO, at_wr, at_wrB, at_wrA, at_wrO, cells_agg, cells_int, cells_str, cells_bool, cells_slice, cells_nils, cells_ptr, a_build0, a_buildc, a_bS, a_bS0, a_bSc, rep_0, rep_S, i_buildP, i_buildSP, r_ps0, r_ps1, i_fnA, i_slS1, i_slS2, i_slS3, v_idxS0, v_iface, r_resA, r_dops, r_dnil, r_dcons0, r_dcons1, h_0, h_1, h_rw, h_wr, h_n1, h_n2, lg_0, lg_S, te_0, te_1, te_2, vl_c, vl_l, vl_ls, vl_g, vl_gs, true_and, and_true, and_self, List.getD_cons_zero, List.getD_cons_succ] <;> first | done | omega | rfl) | rfl)
    clear hu
    have C0 := C0.kept k5
    have C1 := C1.kept k5
    have P5 := P4.kept k5
    have E5 := E4.kept k5
    have B05 := B04.kept k5
    have nx5 : rb ≠ s4.nx := by omega
    have nt5 : tb ≠ s4.nx := by omega
    generalize hxb : s4.nx = xb at *
    refine (treeRight_ok hb x hwf cx _ _ E5.any fun s6 k6 => ?_).x
    have C0 := C0.kept k6
    have C1 := C1.kept k6
    have C5 := C5.kept k6
    have P6 := P5.kept k6
    have E6 := E5.kept k6
    have B06 := B05.kept k6
    have l0 : rlen s6.h rb = 6 := C0.len
    have l1 : rlen s6.h tb = 5 := C1.len
    have l5 : rlen s6.h xb = 6 := by rw [C5.len, lx]
    have R1 := C1.rats0 (tk_len _)
    have R5 := C5.rats0 lx
    have L0 := C0.lt
    have L1 := C1.lt
    have L5 := C5.lt
    have hp6 := P6.lt
    have hb6 := P6.ts.lt
    cases hq : rightB 60 x with
    | true =>
      have hr3 : wholeR ts i (.ok x j) = .ok x j := if_pos hq
      rw [hr3] at hQ
      simp (disch := first | decide | assumption | omega | (simp only [nx_nw, nx_wr, nx_ap, nx_bare]; first | done | omega) | (simp (disch := first | assumption | omega | (simp only [nx_nw, nx_wr, nx_ap, nx_bare]; first | done | omega)) only [l0, l5, lx, qx, rRu, List.length_cons, List.length_nil]; first | done | omega | decide)) only [R5, l0, l5, lx, qx, Nat.reduceAdd, Nat.reduceSub, Nat.reduceMul, Nat.zero_add, a_new, a_box, a_st, a_ldA, rats_nwE, rats_nwO, rats_wr, rats_wrO, upd_nil, upd_00, upd_0, upd_S, upd_e, nx_nw, nx_wr, nx_ap, nx_bare, h_bare, len_nwE, len_nwO, len_wr, at_nwE, at_nwO, at_wr, at_wrB, at_wrA, at_wrO, cells_agg, cells_int, cells_str, cells_bool, cells_slice, cells_nils, cells_ptr, a_build0, a_buildc, a_bS, a_bS0, a_bSc, rep_0, rep_S, i_buildP, i_buildSP, r_ps0, r_ps1, i_fnA, i_slS1, i_slS2, i_slS3, v_idxS0, v_iface, r_resA, r_dops, r_dnil, r_dcons0, r_dcons1, h_0, h_1, h_rw, h_wr, h_n1, h_n2, lg_0, lg_S, te_0, te_1, te_2, vl_c, vl_l, vl_ls, vl_g, vl_gs, true_and, and_true, and_self, List.getD_cons_zero, List.getD_cons_succ, rRx, rRd, rRe, rRf, Bool.not_true, Bool.not_false, List.cons_append, List.nil_append, List.append_nil]
      refine hQ hj hwf _ _ (hB _ _ (by (first | rw [hu] | skip); repeat' (first | exact But.refl _ _ | assumption | refine But.nw ?_ _ | refine But.wrC ?_ _ _ | (refine But.wrS ?_ ?_; (first | omega | (simp only [nx_nw, nx_wr, nx_ap, nx_bare]; omega)))))) (by refine Pk.bk ?_ st; repeat' (first | exact P6 | (refine Pk.wrS ?_ ?_ ?_; (first | omega | (simp only [nx_nw, nx_wr, nx_ap, nx_bare]; omega)); (first | omega | (simp only [nx_nw, nx_wr, nx_ap, nx_bare]; omega))) | refine Pk.put1 (i := j) ?_ _ | refine Pk.put2 (d := d) ?_ _ | refine Pk.nw ?_ _)) ?_
      have FE : Fs sB.nx s6 (wr s6 rb 0 cx) := by (first | rw [hu] | skip); repeat' (first | exact Fs.refl _ _ | assumption | refine Fs.nw ?_ _ | (refine Fs.wrS ?_ ?_; (first | omega | (simp only [nx_nw, nx_wr, nx_ap, nx_bare]; omega))))
      have nB := k0B.nx
      exact ((E6.fs FE).weak (fun b _ hb' => by show st.nx ≤ b; have : sB.nx ≤ b := hb'; omega)).bk st
    | false =>
      have hr3 : wholeR ts i (.ok x j) = .er (tk ts i) := if_neg (by rw [hq]; decide)
      rw [hr3] at hQ
      simp (disch := first | decide | assumption | omega | (simp only [nx_nw, nx_wr, nx_ap, nx_bare]; first | done | omega) | (simp (disch := first | assumption | omega | (simp only [nx_nw, nx_wr, nx_ap, nx_bare]; first | done | omega)) only [l1, rRu, List.length_cons, List.length_nil]; first | done | omega | decide)) only [R1, l1, Nat.reduceAdd, Nat.reduceSub, Nat.reduceMul, Nat.zero_add, a_new, a_box, a_st, a_ldA, rats_nwE, rats_nwO, rats_wr, rats_wrO, upd_nil, upd_00, upd_0, upd_S, upd_e, nx_nw, nx_wr, nx_ap, nx_bare, h_bare, len_nwE, len_nwO, len_wr, at_nwE, at_nwO, at_wr, at_wrB, at_wrA, at_wrO, cells_agg, cells_int, cells_str, cells_bool, cells_slice, cells_nils, cells_ptr, a_build0, a_buildc, a_bS, a_bS0, a_bSc, rep_0, rep_S, i_buildP, i_buildSP, r_ps0, r_ps1, i_fnA, i_slS1, i_slS2, i_slS3, v_idxS0, v_iface, r_resA, r_dops, r_dnil, r_dcons0, r_dcons1, h_0, h_1, h_rw, h_wr, h_n1, h_n2, lg_0, lg_S, te_0, te_1, te_2, vl_c, vl_l, vl_ls, vl_g, vl_gs, true_and, and_true, and_self, List.getD_cons_zero, List.getD_cons_succ, rRx, rRd, rRe, rRf, Bool.not_true, Bool.not_false, List.cons_append, List.nil_append, List.append_nil]
      refine fail_ok hb _ _ _ _ fun s7 k7 => ?_
      exact hQ _ (hB _ _ (B06.kept k7))
end Go.Sy
end

section
set_option maxRecDepth 100000
namespace Go.Sy
open Go.Ev Go.Proofs
variable {base : CallF}
section
variable {P : Program} {e : En} {st : St} {K : AV → St → Prop}
noncomputable def asrtV (P : Program) (t : TypeId) (v : AV) (st : St) : ER := (assertF P (O v) t).run E0 st
theorem i_asrt (x : A) (t : TypeId) : wK P base (.i (.assert x t)) e st K = on1 e x fun v => onER (asrtV P t v st) K := k_1 rfl (fun _ => rfl) K
end
theorem x_endHgo {P : Program} (res : List RV) (m : Md) (K : Md → St → Prop) (L : Sl) (st : St) : endH P res m K (.go L st) = resWs P res L st fun _ => K m st := nr rfl
theorem asrt28 (f : Nat × Nat × Nat) (st : St) (K : AV → St → Prop) : onER (asrtV Tryd.prog 28 (.iface 28 (.agg (fcells f))) st) K = K (.tup [.agg (fcells f), .bool true]) st := by
  have : asrtV Tryd.prog 28 (.iface 28 (.agg (fcells f))) st = .ok (.tup [.agg (fcells f), .bool true]) st := by kernel_rfl
  rw [this]; rfl
theorem eql20n (st : St) (K : AV → St → Prop) : onER (genV Tryd.prog .eql 20 true .nilif .nilif st) K = K (.bool true) st := by
  have : genV Tryd.prog .eql 20 true .nilif .nilif st = .ok (.bool true) st := by kernel_rfl
  rw [this]; rfl
theorem eql20f (t : TypeId) (v : AV) (st : St) (K : AV → St → Prop) : onER (genV Tryd.prog .eql 20 true (.iface t v) .nilif st) K = K (.bool false) st := by
  have : genV Tryd.prog .eql 20 true (.iface t v) .nilif st = .ok (.bool false) st := by kernel_rfl
  rw [this]; rfl
theorem fl_len (f : Nat × Nat × Nat) : (fcells f).length = 3 := nr rfl
theorem cell_fl (f : Nat × Nat × Nat) : lall AV.cell (fcells f) = true := nr rfl
theorem fl_eqs (f : Nat × Nat × Nat) : (fcells f).all eqs = true := rfl
theorem ty28a : Go.Ev.isAgg Tryd.prog 28 = some true := by kernel_rfl
theorem ty28s : Go.Ev.sizeOf Tryd.prog 28 = some 3 := by kernel_rfl
theorem caught_calm {fb : Nat} (st : St) (hfr : st.fr = []) (K : Md → St → Prop) (hK : K .calm st) : DX Tryd.prog base 13 [.ptr fb 0] .calm st K := by
  refine def_ruleX xh13 (by rfl) hfr ?_
  simp only [yh13, entry, List.map_cons, List.map_nil, List.getD_cons_zero, recV, recM]
  unfold zh13
  simp (disch := first | decide | assumption | omega | (simp only [nx_nw, nx_wr, nx_ap, nx_bare]; first | done | omega) | (simp (disch := first | assumption | omega | (simp only [nx_nw, nx_wr, nx_ap, nx_bare]; first | done | omega)) only [rRu, List.length_cons, List.length_nil]; first | done | omega | decide)) only [eql20n, x_endHgo, rRm, rRn, Nat.reduceAdd, Nat.reduceSub, Nat.reduceMul, Nat.zero_add, List.getD_cons_zero, List.getD_cons_succ, rRx, rRd, rRe, rRf, Bool.not_true, Bool.not_false, List.cons_append, List.nil_append, List.append_nil]
  exact hK
theorem caught_pan {fb : Nat} (f : Nat × Nat × Nat) {cs : List AV} (st : St) (hfr : st.fr = []) (hC : Cl st fb cs) (hcs : cs.length = 3) (K : Md → St → Prop) (hK : ∀ s1, s1.nx = st.nx + 1 → s1.fr = [] → (∀ b, b < st.nx → b ≠ fb → hget s1.h b = hget st.h b) → Cl s1 fb (fcells f) → K .done s1) : DX Tryd.prog base 13 [.ptr fb 0] (.pan (.iface 28 (.agg (fcells f)))) st K := by
  refine def_ruleX xh13 (by rfl) hfr ?_
  simp only [yh13, entry, List.map_cons, List.map_nil, List.getD_cons_zero, recV, recM]
  unfold zh13
  have hl := hC.lt
  have l0 := hC.len
  simp (disch := first | decide | assumption | omega | (simp only [nx_nw, nx_wr, nx_ap, nx_bare]; first | done | omega) | (simp (disch := first | assumption | omega | (simp only [nx_nw, nx_wr, nx_ap, nx_bare]; first | done | omega)) only [fl_len, cell_fl, l0, hcs, rRu, List.length_cons, List.length_nil]; first | done | omega | decide)) only [eql20f, i_asrt, asrt28, x_endHgo, fl_len, cell_fl, l0, hcs, rRm, rRn, Nat.reduceAdd, Nat.reduceSub, Nat.reduceMul, Nat.zero_add, List.getD_cons_zero, List.getD_cons_succ, rRx, rRd, rRe, rRf, Bool.not_true, Bool.not_false, List.cons_append, List.nil_append, List.append_nil]
  have hne : fb ≠ st.nx := by omega
  refine hK _ rfl hfr (fun b h1 h2 => (get_wrO h2).trans ((get_wrO (by omega)).trans (get_nwO (by omega)))) ?_
  have C1 : Cl (wr (nw st [.int .i64 0, .int .i64 0, .int .i64 0]) st.nx 0 (fcells f)) fb cs := (hC.nw _).wrO hne _ _
  have := C1.wr 0 (fcells f)
  rw [upd_all (by rw [hcs]; rfl)] at this
  exact this
/-- what parse.Expr tells of a text: the expression, or the fault -/
def ExprO (l : List Nat) (o : Option Ex × (Nat × Nat × Nat)) : Prop :=
  if (cutT l).2.1 ≠ 0 then o = (none, (cutT l).2) else ∃ r, WholeM (cutT l).1 0 0 r ∧ o = (match r with
    | .er t => (none, (151, t.line, t.col))
    | .ok x j => if (tk (cutT l).1 j).kind = 5 then (some x, (0, 0, 0)) else (none, (151, (tk (cutT l).1 j).line, (tk (cutT l).1 j).col)))
def exO (φ : Nat → Prop) (s : St) (cs : List AV) : Option Ex → Prop
  | none => cs = zE
  | some x => ExP φ s cs x ∧ x.wf
theorem Expr_ok (hb : NB base) (hP : PI base) {l : List Nat} (hl : l.length ≤ 4611686018427387904) (h256 : ∀ x ∈ l, x < 256) (hW : (cutT l).2.1 = 0 → Wds (cutT l).1 ∧ (cutT l).1 ≠ []) {o : Option Ex × (Nat × Nat × Nat)} (ho : ExprO l o) (st : St) (K : AV → St → Prop)
    (hK : ∀ s1 cs, Kept st s1 → exO (st.nx ≤ ·) s1 cs o.1 → K (.tup [.agg cs, .agg (fcells o.2)]) s1) : CB Tryd.prog base 6 [.str l] st K := by
  refine XB.cb (XB.of (fn_ruleD x6 (hb.at _ (by decide) _ _) ?_))
  simp only [y6, entry, List.map_cons, List.map_nil, List.getD_cons_zero, List.getD_cons_succ]
  unfold z6
  have hE : ∀ s, Kept st.bare s → Kept st (bk st s) := fun s k => ⟨k.nx, rfl, k.keep⟩
  have hB : ∀ s c, But st.bare s c → But st (bk st s) c := fun s c k => ⟨k.nx, rfl, k.keep⟩
  have hS0 : bk st st.bare = st := rfl
  have hnx0 : st.bare.nx = st.nx := rfl
  have hfr0 : st.bare.fr = [] := rfl
  generalize st.bare = s0 at *
  simp (disch := first | decide | assumption | omega | (simp only [nx_nw, nx_wr, nx_ap, nx_bare]; first | done | omega) | (simp (disch := first | assumption | omega | (simp only [nx_nw, nx_wr, nx_ap, nx_bare]; first | done | omega)) only [rRu, List.length_cons, List.length_nil]; first | done | omega | decide)) only [rRm, rRn, Nat.reduceAdd, Nat.reduceSub, Nat.reduceMul, Nat.zero_add, List.getD_cons_zero, List.getD_cons_succ, rRx, rRd, rRe, rRf, Bool.not_true, Bool.not_false, List.cons_append, List.nil_append, List.append_nil]
  refine XB.gen fun u hu => ?_
  have k0 : Kept s0 u := by (first | rw [hu] | skip); repeat' (first | exact Kept.refl _ | assumption | refine Kept.nw ?_ _ | (refine Kept.wrS ?_ ?_; (first | omega | (simp only [nx_nw, nx_wr, nx_ap, nx_bare]; omega))) | (refine Kept.apS ?_ ?_; (first | omega | (simp only [nx_nw, nx_wr, nx_ap, nx_bare]; omega))))
  have C0 : Cl u s0.nx zE := by rw [hu]; exact (Cl.new s0 zE).nw _
  have C1 : Cl u (s0.nx + 1) [.int .i64 0, .int .i64 0, .int .i64 0] := by rw [hu]; exact Cl.new (nw s0 zE) _
  have nu : u.nx = s0.nx + 2 := by rw [hu]; rfl
  clear hu
  generalize hrb : s0.nx = rb at *
  refine XB.of (CW.cx (Cut_ok (hb.mem (by decide)) hP u hl h256 _ fun wb s1 e1 hTs => ?_))
  have k1 := Kept.ext e1
  have hTs : (cutT l).1 ≠ [] → Ts (back u s1) wb (cutT l).1 ∧ u.nx ≤ wb := fun h => ⟨⟨(hTs h).1.lt, (hTs h).1.len, (hTs h).1.cell⟩, (hTs h).2⟩
  generalize back u s1 = s1 at *
  have k01 := k0.trans k1
  have C0 := C0.kept k1
  have C1 := C1.kept k1
  have L0 := C0.lt
  have L1 := C1.lt
  have l1 : rlen s1.h (rb + 1) = 3 := C1.len
  have l0 : rlen s1.h rb = 6 := C0.len
  have R0 := C0.rats0 zE_len
  have g0 : (fcells (cutT l).2).getD 0 .bad = .int .i64 ((cutT l).2.1 : Int) := rfl
  simp (disch := first | decide | assumption | omega | (simp only [nx_nw, nx_wr, nx_ap, nx_bare]; first | done | omega) | (simp (disch := first | assumption | omega | (simp only [nx_nw, nx_wr, nx_ap, nx_bare]; first | done | omega)) only [l1, fl_len, cell_fl, rRu, List.length_cons, List.length_nil]; first | done | omega | decide)) only [g0, l1, fl_len, cell_fl, rRm, rRn, Nat.reduceAdd, Nat.reduceSub, Nat.reduceMul, Nat.zero_add, List.getD_cons_zero, List.getD_cons_succ, rRx, rRd, rRe, rRf, Bool.not_true, Bool.not_false, List.cons_append, List.nil_append, List.append_nil]
  refine onER_gen fun u2 hu => ?_
  have k02 : Kept s0 u2 := by (first | rw [hu] | skip); repeat' (first | exact Kept.refl _ | assumption | refine Kept.nw ?_ _ | (refine Kept.wrS ?_ ?_; (first | omega | (simp only [nx_nw, nx_wr, nx_ap, nx_bare]; omega))) | (refine Kept.apS ?_ ?_; (first | omega | (simp only [nx_nw, nx_wr, nx_ap, nx_bare]; omega))))
  have C1 : Cl u2 (rb + 1) (fcells (cutT l).2) := by ((first | rw [hu] | skip); refine Cl.of_rats (k := 3) ?_ ?_ ?_ (by decide) ?_ <;> first | (simp (disch := first | decide | assumption | omega | (simp only [nx_nw, nx_wr, nx_ap, nx_bare]; first | done | omega) | (simp (disch := first | assumption | omega | (simp only [nx_nw, nx_wr, nx_ap, nx_bare]; first | done | omega)) only [fl_len, cell_fl, l1, rRu, List.length_cons, List.length_nil]; first | done | omega | decide)) only [fl_len, cell_fl, l1, rRm, rRn, Nat.reduceAdd, Nat.reduceSub, Nat.reduceMul, Nat.zero_add, List.getD_cons_zero, List.getD_cons_succ] <;> first | done | omega | rfl) | rfl)
  have C0 : Cl u2 rb zE := by rw [hu]; exact C0.wrO (by omega) _ _
  have hTs : (cutT l).1 ≠ [] → Ts u2 wb (cutT l).1 ∧ u.nx ≤ wb := fun h => ⟨by rw [hu]; exact (hTs h).1.keep (Nat.le_refl _) (get_wrO (by have := (hTs h).2; omega)), (hTs h).2⟩
  clear hu
  have L0 := C0.lt
  have L1 := C1.lt
  have l1 : rlen u2.h (rb + 1) = 3 := C1.len
  have l0 : rlen u2.h rb = 6 := C0.len
  have R0 := C0.rats0 zE_len
  have R1 := C1.rats0 (fl_len _)
  have hf2 : u2.fr = [] := k02.fr.trans hfr0
  by_cases he : (cutT l).2.1 = 0
  · obtain ⟨W, hne⟩ := hW he
    obtain ⟨hT, hwb⟩ := hTs hne
    have he' : ((cutT l).2.1 : Int) = 0 := by omega
    have ho' : ∃ r, WholeM (cutT l).1 0 0 r ∧ o = (match r with
      | .er t => (none, (151, t.line, t.col))
      | .ok x j => if (tk (cutT l).1 j).kind = 5 then (some x, (0, 0, 0)) else (none, (151, (tk (cutT l).1 j).line, (tk (cutT l).1 j).col))) := by
      unfold ExprO at ho
      rw [if_neg (by omega)] at ho
      exact ho
    obtain ⟨r, hr, ho2⟩ := ho'
    have hz2 : (cutT l).2 = (0, 0, 0) := by
      have : cutT l = cutM l (1, 1) ∨ cutT l = ([], (132, 1, 1)) := by unfold cutT; split <;> simp
      rcases this with h | h
      · rw [h] at he ⊢; exact cutM_zero l.length l (1, 1) (Nat.le_refl _) he
      · rw [h] at he; cases he
    rw [hz2] at C1 R1
    have etv : tsV wb (cutT l).1 = .slice wb 0 (cutT l).1.length (cutT l).1.length 5 false := by unfold tsV; rw [if_neg hne]
    have hpos : 0 < (cutT l).1.length := List.length_pos_iff.2 hne
    have hwp0 : wb ≠ u2.nx := by have := hT.lt; omega
    generalize hts : (cutT l).1 = ts at *
    rw [etv]
    simp (disch := first | decide | assumption | omega | (simp only [nx_nw, nx_wr, nx_ap, nx_bare]; first | done | omega) | (simp (disch := first | assumption | omega | (simp only [nx_nw, nx_wr, nx_ap, nx_bare]; first | done | omega)) only [rRu, List.length_cons, List.length_nil]; first | done | omega | decide)) only [hf2, rRm, rRn, Nat.reduceAdd, Nat.reduceSub, Nat.reduceMul, Nat.zero_add, List.getD_cons_zero, List.getD_cons_succ, rRx, rRd, rRe, rRf, Bool.not_true, Bool.not_false, List.cons_append, List.nil_append, List.append_nil]
    refine XB.gen fun u3 hu => ?_
    have n3 : u3.nx = u2.nx + 1 := by rw [hu]; rfl
    have f3 : u3.fr = [(13, [.ptr (rb + 1) 0])] := by rw [hu]; rfl
    have kp3 : ∀ b, b < u2.nx → hget u3.h b = hget u2.h b := fun b hb' => by rw [hu]; exact get_nwO (s := ⟨u2.nx, u2.h, u2.dirty, _⟩) (Nat.ne_of_lt hb')
    have Cp : Cl u3 u2.nx [.slice wb 0 ts.length ts.length 5 false, .int .i64 0, .int .i64 0] := by rw [hu]; exact Cl.new ⟨u2.nx, u2.h, u2.dirty, _⟩ _
    clear hu
    have C0 : Cl u3 rb zE := C0.keep (by omega) (kp3 _ C0.lt)
    have C1 : Cl u3 (rb + 1) (fcells (0, 0, 0)) := C1.keep (by omega) (kp3 _ C1.lt)
    have hT : Ts u3 wb ts := hT.keep (by omega) (kp3 _ hT.lt)
    have hwp : wb ≠ u2.nx := hwp0
    have hpr : rb < u2.nx := by omega
    have hp1 : rb + 1 < u2.nx := by omega
    have n02 := k02.nx
    have K2 : ∀ b, b < s0.nx → hget u3.h b = hget s0.h b := fun b hb' => (kp3 b (by omega)).trans (k02.keep b hb')
    generalize hpp : u2.nx = p at *
    have P3 : Pk u3 p wb ts 0 0 := ⟨Cp.lt, Cp.len, Cp.cell 0 (Nat.succ_pos 2), Cp.cell 1 (Nat.succ_lt_succ (Nat.succ_pos 1)), Cp.cell 2 (Nat.lt_succ_self 2), hwp, hT⟩
    refine whole_ok hb W 0 0 p wb r u3 _ _ hr P3 hpos (by decide) ?_
    have failed : ∀ (t : Tk) (s4 : St), o = (none, (151, t.line, t.col)) → But u3 s4 p → ∀ L, Has L 2 (.ptr rb 0) → Has L 3 (.ptr (rb + 1) 0) → panEnd Tryd.prog base [.cA 2 6, .cA 3 3] (fun v st' => K v (back st st')) (fun v st' => False) (fltV t) L s4 := by
      intro t s4 ho B4 L i2 i3
      have f4 : s4.fr = [(13, [.ptr (rb + 1) 0])] := B4.fr.trans f3
      have C1 := (C1.but B4 (by omega)).bare
      have C0 := (C0.but B4 (by omega)).bare
      rw [x_endp, f4, x_leave1]
      refine caught_pan (151, t.line, t.col) _ rfl C1.bare (fl_len _) _ fun s5 n5 f5 k5 C15 => ?_
      have C05 : Cl s5 rb zE := C0.bare.keep (by rw [n5]; exact Nat.le_succ _) (k5 rb C0.lt (by omega))
      have l0 : rlen s5.h rb = 6 := C05.len
      have l1 : rlen s5.h (rb + 1) = 3 := C15.len
      have R0 := C05.rats0 zE_len
      have R1 := C15.rats0 (fl_len _)
      simp (disch := first | decide | assumption | omega | (simp only [nx_nw, nx_wr, nx_ap, nx_bare]; first | done | omega) | (simp (disch := first | assumption | omega | (simp only [nx_nw, nx_wr, nx_ap, nx_bare]; first | done | omega)) only [l0, l1, rRu, List.length_cons, List.length_nil]; first | done | omega | decide)) only [r_onh i2, r_onh i3, R0, R1, l0, l1, rRm, rRn, Nat.reduceAdd, Nat.reduceSub, Nat.reduceMul, Nat.zero_add, List.getD_cons_zero, List.getD_cons_succ, rRx, rRd, rRe, rRf, Bool.not_true, Bool.not_false, List.cons_append, List.nil_append, List.append_nil]
      have KS : Kept s0 s5 := ⟨by rw [n5]; show s0.nx ≤ s4.nx + 1; have := B4.nx; omega, f5.trans hfr0.symm, fun b hb' => (k5 b (by show b < s4.nx; have := B4.nx; omega) (by omega)).trans ((B4.keep b (by omega) (by omega)).trans (K2 b hb'))⟩
      have := hK _ zE (hE _ KS) (by rw [ho]; rfl)
      rw [ho] at this
      exact this
    cases r with
    | er t =>
      intro s4 B4
      refine failed t s4 ho2 B4 _ ?_ ?_ <;> simp (disch := decide) only [z0, z1, h_here, h_skip]
    | ok x j =>
      intro hj hwf s4 cx B4 P4 E4
      have C0 := C0.but B4 (by omega)
      have C1 := C1.but B4 (by omega)
      have lx := E4.len
      have qx := E4.lall
      have hp4 := P4.lt
      have hb4 := P4.ts.lt
      have L0 := C0.lt
      have L1 := C1.lt
      have n4 := B4.nx
      simp (disch := first | decide | assumption | omega | (simp only [nx_nw, nx_wr, nx_ap, nx_bare]; first | done | omega) | (simp (disch := first | assumption | omega | (simp only [nx_nw, nx_wr, nx_ap, nx_bare]; first | done | omega)) only [lx, qx, rRu, List.length_cons, List.length_nil]; first | done | omega | decide)) only [lx, qx, rRm, rRn, Nat.reduceAdd, Nat.reduceSub, Nat.reduceMul, Nat.zero_add, List.getD_cons_zero, List.getD_cons_succ, rRx, rRd, rRe, rRf, Bool.not_true, Bool.not_false, List.cons_append, List.nil_append, List.append_nil]
      refine XB.gen fun u5 hu => ?_
      have k5 : Kept s4 u5 := by (first | rw [hu] | skip); repeat' (first | exact Kept.refl _ | assumption | refine Kept.nw ?_ _ | (refine Kept.wrS ?_ ?_; (first | omega | (simp only [nx_nw, nx_wr, nx_ap, nx_bare]; omega))) | (refine Kept.apS ?_ ?_; (first | omega | (simp only [nx_nw, nx_wr, nx_ap, nx_bare]; omega))))
      have C5 : Cl u5 s4.nx cx := by ((first | rw [hu] | skip); refine Cl.of_rats (k := 6) ?_ ?_ ?_ (by decide) ?_ <;> first | (simp (disch := first | decide | assumption | omega | (simp only [nx_nw, nx_wr, nx_ap, nx_bare]; first | done | omega) | (simp (disch := first | assumption | omega | (simp only [nx_nw, nx_wr, nx_ap, nx_bare]; first | done | omega)) only [lx, rRu, List.length_cons, List.length_nil]; first | done | omega | decide)) only [lx, rRm, rRn, Nat.reduceAdd, Nat.reduceSub, Nat.reduceMul, Nat.zero_add, List.getD_cons_zero, List.getD_cons_succ] <;> first | done | omega | rfl) | rfl)
      clear hu
      have B5 := B4.kept k5
      have C0 := C0.kept k5
      have C1 := C1.kept k5
      have P5 := P4.kept k5
      have E5 := E4.kept k5
      have n5 := k5.nx
      have nx5 : rb ≠ s4.nx := by omega
      have nx51 : rb + 1 ≠ s4.nx := by omega
      generalize hxb : s4.nx = xb at *
      refine (now_ok hb _ P5 hj _ fun s6 k6 => ?_).x
      have B6 := B5.kept k6
      have C0 := C0.kept k6
      have C1 := C1.kept k6
      have C5 := C5.kept k6
      have E6 := E5.kept k6
      have L0 := C0.lt
      have L1 := C1.lt
      have L5 := C5.lt
      simp (disch := first | decide | assumption | omega | (simp only [nx_nw, nx_wr, nx_ap, nx_bare]; first | done | omega) | (simp (disch := first | assumption | omega | (simp only [nx_nw, nx_wr, nx_ap, nx_bare]; first | done | omega)) only [tk_len, cell_tk, rRu, List.length_cons, List.length_nil]; first | done | omega | decide)) only [tk_0, tk_len, cell_tk, rRm, rRn, Nat.reduceAdd, Nat.reduceSub, Nat.reduceMul, Nat.zero_add, List.getD_cons_zero, List.getD_cons_succ, rRx, rRd, rRe, rRf, Bool.not_true, Bool.not_false, List.cons_append, List.nil_append, List.append_nil]
      refine onER_gen fun u7 hu => ?_
      have k7 : Kept s6 u7 := by (first | rw [hu] | skip); repeat' (first | exact Kept.refl _ | assumption | refine Kept.nw ?_ _ | (refine Kept.wrS ?_ ?_; (first | omega | (simp only [nx_nw, nx_wr, nx_ap, nx_bare]; omega))) | (refine Kept.apS ?_ ?_; (first | omega | (simp only [nx_nw, nx_wr, nx_ap, nx_bare]; omega))))
      have C7 : Cl u7 s6.nx (tk ts j).cells := by ((first | rw [hu] | skip); refine Cl.of_rats (k := 5) ?_ ?_ ?_ (by decide) ?_ <;> first | (simp (disch := first | decide | assumption | omega | (simp only [nx_nw, nx_wr, nx_ap, nx_bare]; first | done | omega) | (simp (disch := first | assumption | omega | (simp only [nx_nw, nx_wr, nx_ap, nx_bare]; first | done | omega)) only [cell_tk, tk_len, rRu, List.length_cons, List.length_nil]; first | done | omega | decide)) only [cell_tk, tk_len, rRm, rRn, Nat.reduceAdd, Nat.reduceSub, Nat.reduceMul, Nat.zero_add, List.getD_cons_zero, List.getD_cons_succ] <;> first | done | omega | rfl) | rfl)
      clear hu
      have B7 := B6.kept k7
      have C0 := C0.kept k7
      have C1 := C1.kept k7
      have C5 := C5.kept k7
      have E7 := E6.kept k7
      have n6 := k6.nx
      generalize htb : s6.nx = tb at *
      have l0 : rlen u7.h rb = 6 := C0.len
      have l1 : rlen u7.h (rb + 1) = 3 := C1.len
      have l5 : rlen u7.h xb = 6 := by rw [C5.len, lx]
      have l7 : rlen u7.h tb = 5 := C7.len
      have R1 := C1.rats0 (fl_len _)
      have R5 := C5.rats0 lx
      have R7 := C7.rats0 (tk_len _)
      have L0 := C0.lt
      have L1 := C1.lt
      have L5 := C5.lt
      have L7 := C7.lt
      by_cases hk : (tk ts j).kind = 5
      · have hk' : ((tk ts j).kind : Int) = 5 := by omega
        have ho3 : o = (some x, (0, 0, 0)) := by rw [ho2]; exact if_pos hk
        have q1 : sameAt Tryd.prog 28 (.ptr (rb + 1) 0) (.agg (fcells (0, 0, 0))) u7.h = true := same_k ty28a ty28s (by decide) (by omega) R1 (fl_eqs _)
        have q2 : sameAt Tryd.prog 28 (.ptr (rb + 1) 0) (.agg (fcells (0, 0, 0))) (wr u7 rb 0 cx).h = true := same_k ty28a ty28s (by decide) (by rw [len_wr]; omega) (by rw [rats_wrO (by omega)]; exact R1) (fl_eqs _)
        simp (disch := first | decide | assumption | omega | (simp only [nx_nw, nx_wr, nx_ap, nx_bare]; first | done | omega) | (simp (disch := first | assumption | omega | (simp only [nx_nw, nx_wr, nx_ap, nx_bare]; first | done | omega)) only [l0, l1, l5, lx, qx, fl_len, cell_fl, rRu, List.length_cons, List.length_nil]; first | done | omega | decide)) only [R1, R5, q1, q2, l0, l1, l5, lx, qx, fl_len, cell_fl, rRm, rRn, Nat.reduceAdd, Nat.reduceSub, Nat.reduceMul, Nat.zero_add, List.getD_cons_zero, List.getD_cons_succ, rRx, rRd, rRe, rRf, Bool.not_true, Bool.not_false, List.cons_append, List.nil_append, List.append_nil]
        have f7 : u7.fr = [(13, [.ptr (rb + 1) 0])] := B7.fr.trans f3
        rw [show (wr (wr u7 rb 0 cx) (rb + 1) 0 (fcells (0, 0, 0))).fr = _ from f7, x_leave1]
        refine caught_calm _ rfl _ ?_
        simp (disch := first | decide | assumption | omega | (simp only [nx_nw, nx_wr, nx_ap, nx_bare]; first | done | omega) | (simp (disch := first | assumption | omega | (simp only [nx_nw, nx_wr, nx_ap, nx_bare]; first | done | omega)) only [l0, l1, l5, lx, qx, fl_len, cell_fl, rRu, List.length_cons, List.length_nil]; first | done | omega | decide)) only [R1, R5, l0, l1, l5, lx, qx, fl_len, cell_fl, rRm, rRn, Nat.reduceAdd, Nat.reduceSub, Nat.reduceMul, Nat.zero_add, List.getD_cons_zero, List.getD_cons_succ, rRx, rRd, rRe, rRf, Bool.not_true, Bool.not_false, List.cons_append, List.nil_append, List.append_nil]
        have hn37 : u3.nx ≤ u7.nx := B7.nx
        have KS : Kept s0 ⟨u7.nx, (wr (wr u7 rb 0 cx) (rb + 1) 0 (fcells (0, 0, 0))).h, (wr (wr u7 rb 0 cx) (rb + 1) 0 (fcells (0, 0, 0))).dirty, s0.fr⟩ := ⟨by show s0.nx ≤ u7.nx; omega, rfl, fun b hb' => by
          have e1 : hget (wr (wr u7 rb 0 cx) (rb + 1) 0 (fcells (0, 0, 0))).h b = hget (wr u7 rb 0 cx).h b := get_wrO (by omega)
          have e2 : hget (wr u7 rb 0 cx).h b = hget u7.h b := get_wrO (by omega)
          exact e1.trans (e2.trans ((B7.keep b (by omega) (by omega)).trans (K2 b hb')))⟩
        have E8 : ExP (st.nx ≤ ·) (bk st (wr (wr u7 rb 0 cx) (rb + 1) 0 (fcells (0, 0, 0)))) cx x := ExP.keep (a := u7) (s := bk st (wr (wr u7 rb 0 cx) (rb + 1) 0 (fcells (0, 0, 0)))) (fun b hb' h' => by show st.nx ≤ b; have h' : u3.nx ≤ b := h'; omega) (Nat.le_refl u7.nx) (fun b hb' h' => by
          have h' : u3.nx ≤ b := h'
          have e1 : hget (wr (wr u7 rb 0 cx) (rb + 1) 0 (fcells (0, 0, 0))).h b = hget (wr u7 rb 0 cx).h b := get_wrO (by omega)
          have e2 : hget (wr u7 rb 0 cx).h b = hget u7.h b := get_wrO (by omega)
          exact e1.trans e2) _ _ E7
        have := hK (bk st (wr (wr u7 rb 0 cx) (rb + 1) 0 (fcells (0, 0, 0)))) cx (hE ⟨u7.nx, (wr (wr u7 rb 0 cx) (rb + 1) 0 (fcells (0, 0, 0))).h, (wr (wr u7 rb 0 cx) (rb + 1) 0 (fcells (0, 0, 0))).dirty, s0.fr⟩ KS) (by rw [ho3]; exact ⟨E8, hwf⟩)
        rw [ho3] at this
        exact this
      · have hk' : ((tk ts j).kind : Int) ≠ 5 := by omega
        have ho3 : o = (none, (151, (tk ts j).line, (tk ts j).col)) := by rw [ho2]; exact if_neg hk
        simp (disch := first | decide | assumption | omega | (simp only [nx_nw, nx_wr, nx_ap, nx_bare]; first | done | omega) | (simp (disch := first | assumption | omega | (simp only [nx_nw, nx_wr, nx_ap, nx_bare]; first | done | omega)) only [l7, rRu, List.length_cons, List.length_nil]; first | done | omega | decide)) only [R7, l7, rRm, rRn, Nat.reduceAdd, Nat.reduceSub, Nat.reduceMul, Nat.zero_add, List.getD_cons_zero, List.getD_cons_succ, rRx, rRd, rRe, rRf, Bool.not_true, Bool.not_false, List.cons_append, List.nil_append, List.append_nil]
        refine fail_ok hb _ _ _ _ fun s8 k8 => ?_
        refine failed _ s8 ho3 (B7.kept k8) _ ?_ ?_ <;> simp (disch := decide) only [z0, z1, h_here, h_skip]
  · have he' : ((cutT l).2.1 : Int) ≠ 0 := by omega
    have ho' : o = (none, (cutT l).2) := by unfold ExprO at ho; rw [if_pos he] at ho; exact ho
    subst ho'
    have q1 : sameAt Tryd.prog 28 (.ptr (rb + 1) 0) (.agg (fcells (cutT l).2)) u2.h = true := same_k ty28a ty28s (by decide) (by omega) R1 (fl_eqs _)
    have q2 : sameAt Tryd.prog 28 (.ptr (rb + 1) 0) (.agg (fcells (cutT l).2)) (wr u2 rb 0 zE).h = true := same_k ty28a ty28s (by decide) (by rw [len_wr]; omega) (by rw [rats_wrO (by omega)]; exact R1) (fl_eqs _)
    simp (disch := first | decide | assumption | omega | (simp only [nx_nw, nx_wr, nx_ap, nx_bare]; first | done | omega) | (simp (disch := first | assumption | omega | (simp only [nx_nw, nx_wr, nx_ap, nx_bare]; first | done | omega)) only [l0, l1, zE_len, fl_len, cell_fl, rRu, List.length_cons, List.length_nil]; first | done | omega | decide)) only [R0, R1, q1, q2, l0, l1, zE_len, fl_len, cell_fl, rRm, rRn, Nat.reduceAdd, Nat.reduceSub, Nat.reduceMul, Nat.zero_add, List.getD_cons_zero, List.getD_cons_succ, rRx, rRd, rRe, rRf, Bool.not_true, Bool.not_false, List.cons_append, List.nil_append, List.append_nil]
    rw [show (wr (wr u2 rb 0 zE) (rb + 1) 0 (fcells (cutT l).2)).fr = [] from hf2, x_leave0]
    simp (disch := first | decide | assumption | omega | (simp only [nx_nw, nx_wr, nx_ap, nx_bare]; first | done | omega) | (simp (disch := first | assumption | omega | (simp only [nx_nw, nx_wr, nx_ap, nx_bare]; first | done | omega)) only [l0, l1, zE_len, fl_len, cell_fl, rRu, List.length_cons, List.length_nil]; first | done | omega | decide)) only [R0, R1, l0, l1, zE_len, fl_len, cell_fl, rRm, rRn, Nat.reduceAdd, Nat.reduceSub, Nat.reduceMul, Nat.zero_add, List.getD_cons_zero, List.getD_cons_succ, rRx, rRd, rRe, rRf, Bool.not_true, Bool.not_false, List.cons_append, List.nil_append, List.append_nil]
    have KS : Kept s0 (wr (wr u2 rb 0 zE) (rb + 1) 0 (fcells (cutT l).2)) := (k02.wr (by omega) _ _).wr (by omega) _ _
    exact hK _ zE (hE _ KS) rfl
end Go.Sy
end

section
set_option maxRecDepth 100000
namespace Go.Sy
open Go.Ev Go.Proofs
/-! ### the plain parser always answers, and where what it tells stands -/
mutual
def Ex.ev (q : Ex → Prop) : Ex → Prop
  | .mk o n nm ks l c => q (.mk o n nm ks l c) ∧ Ex.evs q ks
def Ex.evs (q : Ex → Prop) : List Ex → Prop
  | [] => True
  | x :: xs => x.ev q ∧ Ex.evs q xs
end
/-- an expression's node stands at a word, and is not the op of no sign -/
def atW (ts : List Tk) (x : Ex) : Prop := x.op ≠ 4 ∧ ∃ k, k < ts.length ∧ (tk ts k).kind ≠ 5 ∧ x.line = (tk ts k).line ∧ x.col = (tk ts k).col
def GoodR (ts : List Tk) (i : Nat) : PR → Prop
  | .ok x j => i ≤ j ∧ j < ts.length ∧ x.ev (atW ts)
  | .er t => ∃ k, k < ts.length ∧ t = tk ts k
theorem GoodR.le {ts : List Tk} {i j : Nat} {r : PR} (h : GoodR ts j r) (hij : i ≤ j) : GoodR ts i r := by
  cases r with
  | ok x k => exact ⟨Nat.le_trans hij h.1, h.2⟩
  | er t => exact h
def okL (l : List Lev) : Prop := ∀ v ∈ l, ∀ s ∈ v.signs, (opTwo s).isSome = true
theorem okL_levels : okL levelsM := by
  have : (levelsM.all fun v => v.signs.all fun s => (opTwo s).isSome) = true := by decide +kernel
  intro v hv s hs
  rw [List.all_eq_true] at this
  have h := this v hv
  rw [List.all_eq_true] at h
  exact h s hs
theorem pre_ev {ts : List Tk} {k : Nat} (hk : k < ts.length) (h5 : (tk ts k).kind ≠ 5) {o n : Int} {nm : List Nat} {ks : List Ex} (ho : o ≠ 4) (h : Ex.evs (atW ts) ks) : (Ex.mk o n nm ks (tk ts k).line (tk ts k).col).ev (atW ts) :=
  ⟨⟨ho, k, hk, h5, rfl, rfl⟩, h⟩
theorem two_ev {ts : List Tk} {k : Nat} (hk : k < ts.length) (h5 : (tk ts k).kind ≠ 5) {x y : Ex} (hx : x.ev (atW ts)) (hy : y.ev (atW ts)) (ht : (opTwo (tk ts k).text).isSome = true) : (twoM (tk ts k) x y).ev (atW ts) := by
  unfold twoM
  split
  · refine pre_ev hk h5 (by omega) ⟨hx, hy, trivial⟩
  · rename_i h; rw [h] at ht; cases ht
theorem isM_5 {t : Tk} {S : List (List Nat)} (h : isM t S = true) : t.kind ≠ 5 := by have := (isM_kind h).1; omega
def Ans (f : Nat → Option PR) (Q : PR → Prop) : Prop := ∃ N r, Q r ∧ ∀ n, N ≤ n → f n = some r
theorem Ans.mono {f : Nat → Option PR} {Q R : PR → Prop} (h : Ans f Q) (k : ∀ r, Q r → R r) : Ans f R := by
  obtain ⟨N, r, h1, h2⟩ := h; exact ⟨N, r, k r h1, h2⟩
theorem ans_s {f g : Nat → Option PR} {Q : PR → Prop} (h : Ans f Q) (k : ∀ n, g (n + 1) = f n) : Ans g Q := by
  obtain ⟨N, r, h1, h2⟩ := h
  refine ⟨N + 1, r, h1, fun n hn => ?_⟩
  obtain ⟨m, rfl⟩ : ∃ m, n = m + 1 := ⟨n - 1, by omega⟩
  rw [k, h2 m (by omega)]
theorem ans_1 {g : Nat → Option PR} {Q : PR → Prop} (r : PR) (hQ : Q r) (k : ∀ n, g (n + 1) = some r) : Ans g Q := by
  refine ⟨1, r, hQ, fun n hn => ?_⟩
  obtain ⟨m, rfl⟩ : ∃ m, n = m + 1 := ⟨n - 1, by omega⟩
  exact k m
theorem ans_b {f g : Nat → Option PR} {Q R : PR → Prop} (F : Ex → Nat → Nat → Option PR) (h : Ans f Q) (k : ∀ n, g (n + 1) = (match f n with | some (.ok x j) => F x j n | r => r)) (he : ∀ t, Q (.er t) → R (.er t)) (ho : ∀ x j, Q (.ok x j) → Ans (F x j) R) : Ans g R := by
  obtain ⟨N, r, h1, h2⟩ := h
  cases r with
  | er t =>
    refine ⟨N + 1, .er t, he t h1, fun n hn => ?_⟩
    obtain ⟨m, rfl⟩ : ∃ m, n = m + 1 := ⟨n - 1, by omega⟩
    rw [k, h2 m (by omega)]
  | ok x j =>
    obtain ⟨M, r, h3, h4⟩ := ho x j h1
    refine ⟨max N M + 1, r, h3, fun n hn => ?_⟩
    obtain ⟨m, rfl⟩ : ∃ m, n = m + 1 := ⟨n - 1, by omega⟩
    rw [k, h2 m (by omega)]
    exact h4 m (by omega)
theorem ans_k {f : Nat → Option PR} {Q : PR → Prop} (r : PR) (hQ : Q r) (k : ∀ n, f n = some r) : Ans f Q := ⟨0, r, hQ, fun n _ => k n⟩
/-- at all places with at most m words ahead -/
structure AnsM (ts : List Tk) (m : Nat) : Prop where
  e : ∀ i d l, i < ts.length → ts.length ≤ i + m → d ≤ 60 → okL l → Ans (fun n => exprM ts n l i d) (GoodR ts (i + 1))
  p : ∀ i d, i < ts.length → ts.length ≤ i + m → d ≤ 60 → Ans (fun n => prefM ts n i d) (GoodR ts (i + 1))
  o : ∀ i d v l x, i < ts.length → ts.length ≤ i + m → d ≤ 60 → okL (v :: l) → x.ev (atW ts) → Ans (fun n => loopM ts n v l x i d) (GoodR ts i)
theorem ansM {ts : List Tk} (W : Wds ts) : ∀ m, AnsM ts m
  | 0 => ⟨fun i d l h1 h2 => by omega, fun i d h1 h2 => by omega, fun i d v l x h1 h2 => by omega⟩
  | m + 1 => by
    have ih := ansM W m
    have hv : ∀ i d, i < ts.length → ts.length ≤ i + (m + 1) → d ≤ 60 → Ans (fun n => valM ts n i d) (GoodR ts (i + 1)) := by
      intro i d hi hm hd
      by_cases h2 : (tk ts i).kind = 2
      · exact ans_1 (.ok (.mk 1 (tk ts i).num [] [] (tk ts i).line (tk ts i).col) (i + 1)) ⟨Nat.le_refl _, W.next i hi (by omega), pre_ev hi (by omega) (by decide) (ks := []) trivial⟩ fun n => by simp only [valM]; rw [if_pos h2]
      by_cases h1 : (tk ts i).kind = 1
      · exact ans_1 (.ok (.mk 3 0 (tk ts i).text [] (tk ts i).line (tk ts i).col) (i + 1)) ⟨Nat.le_refl _, W.next i hi (by omega), pre_ev hi (by omega) (by decide) (ks := []) trivial⟩ fun n => by simp only [valM]; rw [if_neg h2, if_pos h1]
      by_cases ht : isM (tk ts i) [[116, 114, 117, 101]] = true
      · exact ans_1 (.ok (.mk 2 1 [] [] (tk ts i).line (tk ts i).col) (i + 1)) ⟨Nat.le_refl _, W.isM hi ht, pre_ev hi (isM_5 ht) (by decide) (ks := []) trivial⟩ fun n => by simp only [valM]; rw [if_neg h2, if_neg h1, if_pos ht]
      by_cases hf : isM (tk ts i) [[102, 97, 108, 115, 101]] = true
      · exact ans_1 (.ok (.mk 2 0 [] [] (tk ts i).line (tk ts i).col) (i + 1)) ⟨Nat.le_refl _, W.isM hi hf, pre_ev hi (isM_5 hf) (by decide) (ks := []) trivial⟩ fun n => by simp only [valM]; rw [if_neg h2, if_neg h1, if_neg ht, if_pos hf]
      by_cases hp : isM (tk ts i) [[40]] = true
      · have hi1 := W.isM hi hp
        by_cases h60 : 60 < d + 1
        · exact ans_1 (.er _) ⟨i + 1, hi1, rfl⟩ fun n => by simp only [valM]; rw [if_neg h2, if_neg h1, if_neg ht, if_neg hf, if_pos hp, if_pos h60]
        · refine ans_b (fun x j n => if isM (tk ts j) [[41]] = true then some (.ok x (j + 1)) else some (.er (tk ts j))) (ih.e (i + 1) (d + 1) levelsM hi1 (by omega) (by omega) okL_levels) (fun n => by simp only [valM]; rw [if_neg h2, if_neg h1, if_neg ht, if_neg hf, if_pos hp, if_neg h60] <;> rfl) (fun t h => h) fun x j h => ?_
          by_cases hq : isM (tk ts j) [[41]] = true
          · exact ans_k (.ok x (j + 1)) ⟨by have := h.1; omega, W.isM h.2.1 hq, h.2.2⟩ fun n => if_pos hq
          · exact ans_k (.er (tk ts j)) ⟨j, h.2.1, rfl⟩ fun n => if_neg hq
      · exact ans_1 (.er _) ⟨i, hi, rfl⟩ fun n => by simp only [valM]; rw [if_neg h2, if_neg h1, if_neg ht, if_neg hf, if_neg hp]
    have hp : ∀ i d, i < ts.length → ts.length ≤ i + (m + 1) → d ≤ 60 → Ans (fun n => prefM ts n i d) (GoodR ts (i + 1)) := by
      intro i d hi hm hd
      by_cases hp : isM (tk ts i) prefS = true
      · have hi1 := W.isM hi hp
        by_cases h60 : 60 < d + 1
        · exact ans_1 (.er _) ⟨i + 1, hi1, rfl⟩ fun n => by simp only [prefM]; rw [if_pos hp, if_pos h60]
        · refine ans_b (fun x j n => some (.ok (.mk (opPre (tk ts i).text : Nat) 0 [] [x] (tk ts i).line (tk ts i).col) j)) (ih.p (i + 1) (d + 1) hi1 (by omega) (by omega)) (fun n => by simp only [prefM]; rw [if_pos hp, if_neg h60] <;> rfl) (fun t h => h) fun x j h => ?_
          exact ans_k (.ok (.mk (opPre (tk ts i).text : Nat) 0 [] [x] (tk ts i).line (tk ts i).col) j) ⟨by have := h.1; omega, h.2.1, pre_ev hi (isM_5 hp) (by unfold opPre; omega) (ks := [x]) ⟨h.2.2, trivial⟩⟩ fun n => rfl
      · exact ans_s (hv i d hi hm hd) fun n => by simp only [prefM]; rw [if_neg hp]
    have he : ∀ l i d, i < ts.length → ts.length ≤ i + (m + 1) → d ≤ 60 → okL l → Ans (fun n => exprM ts n l i d) (GoodR ts (i + 1)) := by
      intro l
      induction l with
      | nil => intro i d hi hm hd hl; exact ans_s (hp i d hi hm hd) fun n => by simp only [exprM]
      | cons v l ihl =>
        intro i d hi hm hd hl
        refine ans_b (fun x j n => loopM ts n v l x j d) (ihl i d hi hm hd fun w hw => hl w (List.mem_cons_of_mem _ hw)) (fun n => by simp only [exprM] <;> rfl) (fun t h => h) fun x j h => ?_
        exact (ih.o j d v l x h.2.1 (by have := h.1; omega) hd hl h.2.2).mono fun r hr => hr.le h.1
    refine ⟨fun i d l h1 h2 h3 h4 => he l i d h1 h2 h3 h4, hp, fun i d v l x hi hm hd hl hx => ?_⟩
    by_cases hs : isM (tk ts i) v.signs = true
    · have hi1 := W.isM hi hs
      have ht : (opTwo (tk ts i).text).isSome = true := hl v (List.mem_cons_self ..) _ (isM_kind hs).2
      have hl' : okL l := fun w hw => hl w (List.mem_cons_of_mem _ hw)
      by_cases hw : v.way = 1
      · refine ans_b (fun y j n => some (.ok (twoM (tk ts i) x y) j)) (ih.e (i + 1) d (v :: l) hi1 (by omega) hd hl) (fun n => by simp only [loopM]; rw [if_pos hs, if_pos hw] <;> rfl) (fun t h => h) fun y j h => ?_
        exact ans_k (.ok (twoM (tk ts i) x y) j) ⟨by have := h.1; omega, h.2.1, two_ev hi (isM_5 hs) hx h.2.2 ht⟩ fun n => rfl
      · refine ans_b (fun y j n => if v.way = 2 then some (.ok (twoM (tk ts i) x y) j) else loopM ts n v l (twoM (tk ts i) x y) j d) (ih.e (i + 1) d l hi1 (by omega) hd hl') (fun n => by simp only [loopM]; rw [if_pos hs, if_neg hw] <;> rfl) (fun t h => h) fun y j h => ?_
        have hxy := two_ev hi (isM_5 hs) hx h.2.2 ht
        by_cases h2 : v.way = 2
        · exact ans_k (.ok (twoM (tk ts i) x y) j) ⟨by have := h.1; omega, h.2.1, hxy⟩ fun n => if_pos h2
        · obtain ⟨N, r, h3, h4⟩ := ih.o j d v l _ h.2.1 (by have := h.1; omega) hd hl hxy
          exact ⟨N, r, h3.le (by have := h.1; omega), fun n hn => (if_neg h2).trans (h4 n hn)⟩
    · exact ans_1 (.ok x i) ⟨Nat.le_refl _, hi, hx⟩ fun n => by simp only [loopM]; rw [if_neg hs]
end Go.Sy
end

section
set_option maxRecDepth 100000
namespace Go.Sy
open Go.Ev Go.Proofs
/-! ### a text's words and where they stand -/
theorem walk_line : ∀ (l : List Nat) (p : Nat × Nat), (walkP p l).1 = p.1 + l.count 10
  | [], p => rfl
  | x :: l, p => by
    have := walk_line l (stepP p x)
    show (walkP (stepP p x) l).1 = _
    rw [this, List.count_cons]
    unfold stepP
    by_cases h : x = 10
    · subst h; simp; omega
    · rw [if_neg h]; simp [h]
theorem count_take_le (l : List Nat) (e : Nat) : (l.take e).count 10 ≤ l.count 10 := List.Sublist.count_le _ (List.take_sublist e l)
theorem cutM_fault2 (k : Nat) : ∀ (r : List Nat) (p : Nat × Nat), r.length ≤ k → 1 ≤ p.2 → (cutM r p).2.1 ≠ 0 → (cutM r p).2.2.1 ≤ p.1 + r.count 10 ∧ (cutM r p).2.2.2 ≤ p.2 + r.length := by
  induction k with
  | zero =>
    intro r p hr h2 hf
    have : r = [] := List.eq_nil_of_length_eq_zero (by omega)
    subst this
    have hg : gaps ([] : List Nat) = 0 := by
      have := gaps_le ([] : List Nat)
      simpa using this
    have hn : nextM (([] : List Nat).drop (gaps [])) (walkP p (([] : List Nat).take (gaps []))) = (0, ⟨5, [], 0, (walkP p (([] : List Nat).take (gaps []))).1, (walkP p (([] : List Nat).take (gaps []))).2⟩, 0) := by
      rw [hg]; rfl
    rw [cutM_eq _ _ hn] at hf
    simp at hf
  | succ k ih =>
    intro r p hr h2 hf
    generalize hx : nextM (r.drop (gaps r)) (walkP p (r.take (gaps r))) = x
    obtain ⟨e, t, n⟩ := x
    obtain ⟨he, hl, hc⟩ := nextM_err hx
    have w1 := walk_line (r.take (gaps r)) p
    have w2 := (walkP_le (r.take (gaps r)) p h2).2
    have hg := gaps_le r
    have c1 : (r.take (gaps r)).count 10 + (r.drop (gaps r)).count 10 = r.count 10 := by rw [← List.count_append, List.take_append_drop]
    have l1 : (r.take (gaps r)).length = gaps r := by rw [List.length_take]; omega
    rw [cutM_eq r p hx] at hf ⊢
    by_cases h0 : e ≠ 0
    · rw [if_pos h0] at hf ⊢
      refine ⟨?_, ?_⟩
      · show t.line ≤ _
        omega
      · show t.col ≤ _
        omega
    · rw [if_neg h0] at hf ⊢
      by_cases hn : n = 0
      · rw [if_pos hn] at hf; simp at hf
      · rw [if_neg hn] at hf ⊢
        have hle := nextM_le hx
        rw [List.length_drop] at hle
        have hlen : ((r.drop (gaps r)).drop n).length ≤ k := by rw [List.length_drop, List.length_drop]; omega
        have w3 := walk_line ((r.drop (gaps r)).take n) (walkP p (r.take (gaps r)))
        have w4 := (walkP_le ((r.drop (gaps r)).take n) (walkP p (r.take (gaps r))) w2.2).2
        have c2 : ((r.drop (gaps r)).take n).count 10 + ((r.drop (gaps r)).drop n).count 10 = (r.drop (gaps r)).count 10 := by rw [← List.count_append, List.take_append_drop]
        have l2 : ((r.drop (gaps r)).take n).length = n := by rw [List.length_take, List.length_drop]; omega
        have l3 : ((r.drop (gaps r)).drop n).length = r.length - gaps r - n := by rw [List.length_drop, List.length_drop]
        have := ih _ (walkP (walkP p (r.take (gaps r))) ((r.drop (gaps r)).take n)) hlen w4.2
        generalize cutM ((r.drop (gaps r)).drop n) (walkP (walkP p (r.take (gaps r))) ((r.drop (gaps r)).take n)) = q at *
        by_cases hq : q.2.1 ≠ 0
        · rw [if_pos hq]
          obtain ⟨i1, i2⟩ := this hq
          refine ⟨?_, ?_⟩
          · show q.2.2.1 ≤ _
            omega
          · show q.2.2.2 ≤ _
            omega
        · rw [if_neg hq] at hf
          exact absurd hf hq
/-- a word within a text -/
structure InT (l : List Nat) (t : Tk) : Prop where
  l1 : 1 ≤ t.line
  l2 : t.line ≤ 1 + l.count 10
  c1 : 1 ≤ t.col
  c2 : t.col ≤ l.length + 1
  c3 : t.kind ≠ 5 → t.col ≤ l.length
  len : t.text.length ≤ l.length
  sub : ∀ c ∈ t.text, c ∈ l
theorem seg_all {l : List Nat} (k : Nat) : ∀ e, e ≤ l.length → l.length ≤ e + k → (seg l e).2.1 = 0 → 0 < (seg l e).1.length ∧ ∀ i, i < (seg l e).1.length → InT l (tk (seg l e).1 i) ∧ ((tk (seg l e).1 i).kind ≠ 5 → i + 1 < (seg l e).1.length) := by
  induction k with
  | zero =>
    intro e he hk hf
    obtain ⟨t, rest, h1, h2, h3, h4, h5, h6, h7, h8⟩ := seg_step he hf
    have hg := gapAt_le he
    have e1 : gapAt l e = l.length := by omega
    have hr := h7 e1
    subst hr
    rw [h1]
    refine ⟨Nat.succ_pos _, fun i hi => ?_⟩
    have : i = 0 := by simp at hi; exact hi
    subst this
    have w1 := walk_line (l.take (gapAt l e)) (1, 1)
    have w2 := (walkP_le (l.take (gapAt l e)) (1, 1) (by decide)).2
    have c := count_take_le l (gapAt l e)
    rw [← h2, List.length_take] at w2
    rw [← h2] at w1
    have w1 : t.line = 1 + (l.take (gapAt l e)).count 10 := w1
    have w2 : t.col ≤ 1 + min (gapAt l e) l.length ∧ 1 ≤ t.col := w2
    exact ⟨⟨by show 1 ≤ t.line; omega, by show t.line ≤ _; omega, w2.2, by show t.col ≤ _; omega, fun h => absurd (h5.2 e1) h, by show t.text.length ≤ _; omega, fun c hc => List.mem_of_mem_drop (List.mem_of_mem_take (h4 ▸ hc : c ∈ (l.drop (gapAt l e)).take t.text.length))⟩, fun h => absurd (h5.2 e1) h⟩
  | succ k ih =>
    intro e he hk hf
    obtain ⟨t, rest, h1, h2, h3, h4, h5, h6, h7, h8⟩ := seg_step he hf
    have hg := gapAt_le he
    have w1 := walk_line (l.take (gapAt l e)) (1, 1)
    have w2 := (walkP_le (l.take (gapAt l e)) (1, 1) (by decide)).2
    have c := count_take_le l (gapAt l e)
    rw [← h2, List.length_take] at w2
    rw [← h2] at w1
    have w1 : t.line = 1 + (l.take (gapAt l e)).count 10 := w1
    have w2 : t.col ≤ 1 + min (gapAt l e) l.length ∧ 1 ≤ t.col := w2
    have hT : InT l t := ⟨by omega, by omega, w2.2, by omega, fun h => by have := mt h5.2 h; omega, by omega, fun c hc => List.mem_of_mem_drop (List.mem_of_mem_take (h4 ▸ hc : c ∈ (l.drop (gapAt l e)).take t.text.length))⟩
    by_cases e1 : gapAt l e = l.length
    · have hr := h7 e1
      subst hr
      rw [h1]
      refine ⟨Nat.succ_pos _, fun i hi => ?_⟩
      have : i = 0 := by simp at hi; exact hi
      subst this
      exact ⟨hT, fun h => absurd (h5.2 e1) h⟩
    · obtain ⟨r1, r2, r3⟩ := h8 (by omega)
      have hpos : t.text.length ≠ 0 := mt h6.1 e1
      obtain ⟨i1, i2⟩ := ih _ h3 (by omega) r2
      rw [← r1] at i1 i2
      rw [h1]
      refine ⟨Nat.succ_pos _, fun i hi => ?_⟩
      cases i with
      | zero => exact ⟨hT, fun _ => by simp only [List.length_cons]; omega⟩
      | succ i =>
        have hi' : i < rest.length := by simpa using hi
        have := i2 i hi'
        exact ⟨this.1, fun h => by have := this.2 h; simp only [List.length_cons]; omega⟩
theorem tk_out {ts : List Tk} {i : Nat} (h : ts.length ≤ i) : tk ts i = ⟨0, [], 0, 0, 0⟩ := by
  unfold tk
  rw [List.getD_eq_getElem?_getD, List.getElem?_eq_none h]; rfl
theorem cutT_words {l : List Nat} (hl : l.length ≤ 60000) (h256 : ∀ x ∈ l, x < 256) (hf : (cutT l).2.1 = 0) : Wds (cutT l).1 ∧ (cutT l).1 ≠ [] ∧ ∀ i, i < (cutT l).1.length → InT l (tk (cutT l).1 i) := by
  have hc : cutT l = cutM l (1, 1) := if_neg (by omega)
  have hs : cutT l = seg l 0 := hc.trans (seg_0 l).symm
  have := seg_all (l := l) l.length 0 (Nat.zero_le _) (by omega) (by rw [← hs]; exact hf)
  rw [← hs] at this
  have hlen := cutM_len l.length l (1, 1) (Nat.le_refl _)
  rw [← hc] at hlen
  refine ⟨⟨by omega, fun i hi h => (this.2 i hi).2 h, fun i => ?_⟩, List.length_pos_iff.1 this.1, fun i hi => (this.2 i hi).1⟩
  by_cases hi : i < (cutT l).1.length
  · have h := (this.2 i hi).1
    exact ⟨by have := h.len; omega, fun c hc => h256 c (h.sub c hc)⟩
  · rw [tk_out (by omega)]
    exact ⟨by decide, fun c hc => by simp at hc⟩
theorem cutT_fault {l : List Nat} (hl : l.length ≤ 60000) (hf : (cutT l).2.1 ≠ 0) : 1 ≤ (cutT l).2.2.1 ∧ (cutT l).2.2.1 ≤ 1 + l.count 10 ∧ 1 ≤ (cutT l).2.2.2 ∧ (cutT l).2.2.2 ≤ l.length + 1 := by
  have hc : cutT l = cutM l (1, 1) := if_neg (by omega)
  rw [hc] at hf ⊢
  have h1 := cutM_fault l.length l (1, 1) (Nat.le_refl _) (by decide) (by decide) hf
  have h2 := cutM_fault2 l.length l (1, 1) (Nat.le_refl _) (by decide) hf
  have h3 : (cutM l (1, 1)).2.2.1 ≤ 1 + l.count 10 := h2.1
  have h4 : (cutM l (1, 1)).2.2.2 ≤ 1 + l.length := h2.2
  exact ⟨h1.2.2.1, h3, h1.2.2.2, by omega⟩
mutual
theorem Ex.ev_mono {p q : Ex → Prop} (h : ∀ x, p x → q x) : ∀ x : Ex, x.ev p → x.ev q
  | .mk o n nm ks l c, hx => ⟨h _ hx.1, Ex.evs_mono h ks hx.2⟩
theorem Ex.evs_mono {p q : Ex → Prop} (h : ∀ x, p x → q x) : ∀ ks : List Ex, Ex.evs p ks → Ex.evs q ks
  | [], _ => trivial
  | x :: xs, hx => ⟨Ex.ev_mono h x hx.1, Ex.evs_mono h xs hx.2⟩
end
/-- what parse.Expr tells stands in the text -/
structure ExprW (l : List Nat) (o : Option Ex × (Nat × Nat × Nat)) : Prop where
  isO : ExprO l o
  bad : o.1 = none → o.2.1 ≠ 0 ∧ 1 ≤ o.2.2.1 ∧ o.2.2.1 ≤ 1 + l.count 10 ∧ 1 ≤ o.2.2.2 ∧ o.2.2.2 ≤ l.length + 1
  ok : ∀ x, o.1 = some x → o.2 = (0, 0, 0) ∧ rightB 60 x = true ∧ x.ev (fun y => y.op ≠ 4 ∧ ∃ a b : Nat, y.line = a ∧ y.col = b ∧ 1 ≤ a ∧ a ≤ 1 + l.count 10 ∧ 1 ≤ b ∧ b ≤ l.length)
theorem exprW {l : List Nat} (hl : l.length ≤ 60000) (h256 : ∀ x ∈ l, x < 256) : ∃ o, ExprW l o := by
  by_cases hf : (cutT l).2.1 = 0
  · obtain ⟨W, hne, hI⟩ := cutT_words hl h256 hf
    have hpos := List.length_pos_iff.2 hne
    obtain ⟨N, r0, hg, hr⟩ := (ansM W (cutT l).1.length).e 0 0 levelsM hpos (by omega) (by decide) okL_levels
    have hr := hr N (Nat.le_refl _)
    have hW : WholeM (cutT l).1 0 0 (wholeR (cutT l).1 0 r0) := ⟨N, r0, hr, rfl⟩
    have bad : ∀ k, k < (cutT l).1.length → ∀ r, WholeM (cutT l).1 0 0 r → (match r with
      | .er t => (none, (151, t.line, t.col))
      | .ok x j => if (tk (cutT l).1 j).kind = 5 then (some x, (0, 0, 0)) else (none, (151, (tk (cutT l).1 j).line, (tk (cutT l).1 j).col))) = ((none, (151, (tk (cutT l).1 k).line, (tk (cutT l).1 k).col)) : Option Ex × (Nat × Nat × Nat)) → ∃ o, ExprW l o := by
      intro k hk r hw he
      have I := hI k hk
      refine ⟨(none, (151, (tk (cutT l).1 k).line, (tk (cutT l).1 k).col)), ⟨?_, fun _ => ⟨(by show (151 : Nat) ≠ 0; decide), I.l1, I.l2, I.c1, I.c2⟩, fun x hx => by cases hx⟩⟩
      unfold ExprO
      rw [if_neg (by omega)]
      exact ⟨r, hw, he.symm⟩
    cases r0 with
    | er t =>
      obtain ⟨k, hk, rfl⟩ := hg
      exact bad k hk _ hW rfl
    | ok x j =>
      obtain ⟨h1, h2, h3⟩ := hg
      by_cases hb : rightB 60 x = true
      · have e : wholeR (cutT l).1 0 (.ok x j) = .ok x j := if_pos hb
        rw [e] at hW
        by_cases hk : (tk (cutT l).1 j).kind = 5
        · refine ⟨(some x, (0, 0, 0)), ⟨?_, fun h => (by cases h), fun y hy => ?_⟩⟩
          · unfold ExprO
            rw [if_neg (by omega)]
            exact ⟨_, hW, (if_pos hk).symm⟩
          · obtain rfl : x = y := by injection hy
            refine ⟨rfl, hb, Ex.ev_mono (fun z hz => ?_) x h3⟩
            obtain ⟨z4, k, hk, k5, zl, zc⟩ := hz
            have I := hI k hk
            exact ⟨z4, _, _, zl, zc, I.l1, I.l2, I.c1, I.c3 k5⟩
        · exact bad j h2 _ hW (if_neg hk)
      · have e : wholeR (cutT l).1 0 (.ok x j) = .er (tk (cutT l).1 0) := if_neg hb
        rw [e] at hW
        exact bad 0 hpos _ hW rfl
  · have h := cutT_fault hl hf
    refine ⟨(none, (cutT l).2), ⟨?_, fun _ => ⟨hf, h⟩, fun x hx => by cases hx⟩⟩
    unfold ExprO
    rw [if_pos hf]
end Go.Sy
end

section
set_option maxRecDepth 100000
namespace Go.Sy
open Go.Ev Go.Proofs
def b3 : Cmd := (.seq (.ops [⟨(some 2), true, none, (.i (.mv (.c (.bool false))))⟩]) (.seq (.seq (.ops [⟨(some 7), false, none, (.call (.c (.fn 5 [])) [])⟩, ⟨(some 8), true, none, (.i (.un .not (.t 7)))⟩]) (.cond (.t 8) (.seq (.ops [⟨(some 2), true, none, (.i (.mv (.c (.bool false))))⟩]) .ret) .skip)) (.seq (.seq (.ops [⟨(some 9), false, none, (.i (.mv (.t 0)))⟩, ⟨(some 10), false, none, (.i (.lenS (.t 9)))⟩, ⟨(some 11), true, none, (.i (.bin .gtr (.t 10) (.c (.int .i64 2000))))⟩]) (.cond (.t 11) (.seq (.ops [⟨(some 2), true, none, (.i (.mv (.c (.bool true))))⟩]) .ret) .skip)) (.seq (.ops [⟨(some 13), false, none, (.i (.mv (.t 0)))⟩, ⟨(some 14), false, none, (.call (.c (.fn 6 [])) [(.t 13)])⟩, ⟨(some 12), false, none, (.i (.mv (.t 14)))⟩, ⟨(some 15), false, none, (.i (.ext (.t 12) 0))⟩, ⟨(some 16), false, none, (.i (.ext (.t 12) 1))⟩, ⟨(some 3), true, none, (.i (.alloc [(.int .i64 0), (.int .i64 0), (.str []), .nils, (.int .i64 0), (.int .i64 0)]))⟩, ⟨(some 4), true, none, (.i (.alloc [(.int .i64 0), (.int .i64 0), (.int .i64 0)]))⟩, ⟨none, false, none, (.i (.st 6 (.t 3) (.t 15)))⟩, ⟨none, false, none, (.i (.st 3 (.t 4) (.t 16)))⟩]) (.seq (.ops [⟨(some 5), true, none, (.i (.mv (.c (.int .i64 1))))⟩]) (.seq (.seq (.ops [⟨(some 6), true, none, (.i (.mv (.c (.int .i64 0))))⟩]) (.block 0 (.loop (.seq (.seq (.ops [⟨(some 17), false, none, (.i (.mv (.t 6)))⟩, ⟨(some 18), false, none, (.i (.mv (.t 0)))⟩, ⟨(some 19), false, none, (.i (.lenS (.t 18)))⟩, ⟨(some 20), true, none, (.i (.bin .lss (.t 17) (.t 19)))⟩]) (.cond (.t 20) .skip (.exit 0))) (.seq (.block 1 (.seq (.ops [⟨(some 23), false, none, (.i (.mv (.t 0)))⟩, ⟨(some 24), false, none, (.i (.mv (.t 6)))⟩, ⟨(some 25), false, none, (.i (.ixStr (.t 23) (.t 24)))⟩, ⟨(some 26), true, none, (.i (.bin .eql (.t 25) (.c (.int .u8 10))))⟩]) (.cond (.t 26) (.ops [⟨(some 27), false, none, (.i (.mv (.t 5)))⟩, ⟨(some 28), false, none, (.i (.bin .add (.t 27) (.c (.int .i64 1))))⟩, ⟨(some 5), true, none, (.i (.mv (.t 28)))⟩]) .skip))) (.ops [⟨(some 21), false, none, (.i (.mv (.t 6)))⟩, ⟨(some 22), false, none, (.i (.bin .add (.t 21) (.c (.int .i64 1))))⟩, ⟨(some 6), true, none, (.i (.mv (.t 22)))⟩])))))) (.seq (.seq (.ops [⟨(some 29), false, none, (.i (.ldA 3 (.t 4)))⟩, ⟨(some 30), false, none, (.i (.build [(.int .i64 0), (.int .i64 0), (.int .i64 0)] []))⟩, ⟨(some 31), true, none, (.i (.gen .neq 28 false (.t 29) (.t 30)))⟩]) (.cond (.t 31) (.seq (.ops [⟨(some 32), false, none, (.i (.fad 0 (.t 3)))⟩, ⟨(some 33), false, none, (.i (.ld1 (.t 32)))⟩, ⟨(some 34), false, none, (.i (.bin .eql (.t 33) (.c (.int .i64 0))))⟩, ⟨(some 35), false, none, (.i (.mv (.t 34)))⟩, ⟨(some 36), false, (some (35, true)), (.i (.fad 1 (.t 4)))⟩, ⟨(some 37), false, (some (35, true)), (.i (.ld1 (.t 36)))⟩, ⟨(some 38), false, (some (35, true)), (.i (.bin .geq (.t 37) (.c (.int .i64 1))))⟩, ⟨(some 39), false, none, (.i (.pick (.t 35) (.t 38) (.c (.bool false))))⟩, ⟨(some 40), false, none, (.i (.mv (.t 39)))⟩, ⟨(some 41), false, (some (40, true)), (.i (.fad 1 (.t 4)))⟩, ⟨(some 42), false, (some (40, true)), (.i (.ld1 (.t 41)))⟩, ⟨(some 43), false, (some (40, true)), (.i (.mv (.t 5)))⟩, ⟨(some 44), false, (some (40, true)), (.i (.bin .leq (.t 42) (.t 43)))⟩, ⟨(some 45), false, none, (.i (.pick (.t 40) (.t 44) (.c (.bool false))))⟩, ⟨(some 46), false, none, (.i (.mv (.t 45)))⟩, ⟨(some 47), false, (some (46, true)), (.i (.fad 2 (.t 4)))⟩, ⟨(some 48), false, (some (46, true)), (.i (.ld1 (.t 47)))⟩, ⟨(some 49), false, (some (46, true)), (.i (.bin .geq (.t 48) (.c (.int .i64 1))))⟩, ⟨(some 50), false, none, (.i (.pick (.t 46) (.t 49) (.c (.bool false))))⟩, ⟨(some 51), false, none, (.i (.mv (.t 50)))⟩, ⟨(some 52), false, (some (51, true)), (.i (.fad 2 (.t 4)))⟩, ⟨(some 53), false, (some (51, true)), (.i (.ld1 (.t 52)))⟩, ⟨(some 54), false, (some (51, true)), (.i (.mv (.t 0)))⟩, ⟨(some 55), false, (some (51, true)), (.i (.lenS (.t 54)))⟩, ⟨(some 56), false, (some (51, true)), (.i (.bin .add (.t 55) (.c (.int .i64 1))))⟩, ⟨(some 57), false, (some (51, true)), (.i (.bin .leq (.t 53) (.t 56)))⟩, ⟨(some 58), false, none, (.i (.pick (.t 51) (.t 57) (.c (.bool false))))⟩, ⟨(some 2), true, none, (.i (.mv (.t 58)))⟩]) .ret) .skip)) (.seq (.ops [⟨(some 59), false, none, (.i (.ldA 6 (.t 3)))⟩, ⟨(some 60), false, none, (.i (.mv (.t 5)))⟩, ⟨(some 61), false, none, (.i (.mv (.t 0)))⟩, ⟨(some 62), false, none, (.i (.lenS (.t 61)))⟩, ⟨(some 63), false, none, (.call (.c (.fn 7 [])) [(.t 59), (.t 60), (.t 62)])⟩, ⟨(some 64), false, none, (.i (.mv (.t 63)))⟩, ⟨(some 65), false, (some (64, true)), (.i (.ldA 6 (.t 3)))⟩, ⟨(some 66), false, (some (64, true)), (.call (.c (.fn 8 [])) [(.t 65)])⟩, ⟨(some 67), false, none, (.i (.pick (.t 64) (.t 66) (.c (.bool false))))⟩, ⟨(some 2), true, none, (.i (.mv (.t 67)))⟩]) .ret))))))))
def c3 : FD := ⟨[0], b3, [(.t 2)]⟩
theorem l3 : lowF Tryd.prog 3 = some c3 := by kernel_rfl
def b7 : Cmd := (.seq (.ops [⟨(some 3), true, none, (.i (.box (.t 0)))⟩, ⟨(some 6), true, none, (.i (.mv (.c (.bool false))))⟩]) (.seq (.seq (.ops [⟨(some 9), false, none, (.i (.fad 4 (.t 3)))⟩, ⟨(some 10), false, none, (.i (.ld1 (.t 9)))⟩, ⟨(some 11), false, none, (.i (.bin .lss (.t 10) (.c (.int .i64 1))))⟩, ⟨(some 12), false, none, (.i (.mv (.t 11)))⟩, ⟨(some 13), false, (some (12, false)), (.i (.fad 4 (.t 3)))⟩, ⟨(some 14), false, (some (12, false)), (.i (.ld1 (.t 13)))⟩, ⟨(some 15), false, (some (12, false)), (.i (.mv (.t 1)))⟩, ⟨(some 16), false, (some (12, false)), (.i (.bin .gtr (.t 14) (.t 15)))⟩, ⟨(some 17), false, none, (.i (.pick (.t 12) (.c (.bool true)) (.t 16)))⟩, ⟨(some 18), false, none, (.i (.mv (.t 17)))⟩, ⟨(some 19), false, (some (18, false)), (.i (.fad 5 (.t 3)))⟩, ⟨(some 20), false, (some (18, false)), (.i (.ld1 (.t 19)))⟩, ⟨(some 21), false, (some (18, false)), (.i (.bin .lss (.t 20) (.c (.int .i64 1))))⟩, ⟨(some 22), false, none, (.i (.pick (.t 18) (.c (.bool true)) (.t 21)))⟩, ⟨(some 23), false, none, (.i (.mv (.t 22)))⟩, ⟨(some 24), false, (some (23, false)), (.i (.fad 5 (.t 3)))⟩, ⟨(some 25), false, (some (23, false)), (.i (.ld1 (.t 24)))⟩, ⟨(some 26), false, (some (23, false)), (.i (.mv (.t 2)))⟩, ⟨(some 27), false, (some (23, false)), (.i (.bin .gtr (.t 25) (.t 26)))⟩, ⟨(some 28), true, none, (.i (.pick (.t 23) (.c (.bool true)) (.t 27)))⟩]) (.cond (.t 28) (.seq (.ops [⟨(some 6), true, none, (.i (.mv (.c (.bool false))))⟩]) .ret) .skip)) (.seq (.seq (.ops [⟨(some 29), false, none, (.i (.fad 3 (.t 3)))⟩, ⟨(some 30), true, none, (.i (.ld1 (.t 29)))⟩, ⟨(some 31), true, none, (.i (.len (.t 30)))⟩, ⟨(some 32), true, none, (.i (.mv (.c (.int .i64 0))))⟩]) (.block 0 (.loop (.seq (.ops [⟨(some 33), true, none, (.i (.bin .lss (.t 32) (.t 31)))⟩]) (.seq (.cond (.t 33) .skip (.exit 0)) (.seq (.block 1 (.seq (.ops [⟨(some 34), false, none, (.i (.idxS 6 (.t 30) (.t 32)))⟩, ⟨(some 35), false, none, (.i (.ldA 6 (.t 34)))⟩, ⟨(some 8), true, none, (.i (.alloc [(.int .i64 0), (.int .i64 0), (.str []), .nils, (.int .i64 0), (.int .i64 0)]))⟩, ⟨none, false, none, (.i (.st 6 (.t 8) (.t 35)))⟩]) (.seq (.ops [⟨(some 36), false, none, (.i (.ldA 6 (.t 8)))⟩, ⟨(some 37), false, none, (.i (.mv (.t 1)))⟩, ⟨(some 38), false, none, (.i (.mv (.t 2)))⟩, ⟨(some 39), false, none, (.call (.c (.fn 7 [])) [(.t 36), (.t 37), (.t 38)])⟩, ⟨(some 40), true, none, (.i (.un .not (.t 39)))⟩]) (.cond (.t 40) (.seq (.ops [⟨(some 6), true, none, (.i (.mv (.c (.bool false))))⟩]) .ret) .skip)))) (.ops [⟨(some 41), false, none, (.i (.bin .add (.t 32) (.c (.int .i64 1))))⟩, ⟨(some 32), true, none, (.i (.mv (.t 41)))⟩]))))))) (.seq (.ops [⟨(some 6), true, none, (.i (.mv (.c (.bool true))))⟩]) .ret))))
def c7 : FD := ⟨[0, 1, 2], b7, [(.t 6)]⟩
theorem l7 : lowF Tryd.prog 7 = some c7 := by kernel_rfl
def b8 : Cmd := (.seq (.ops [⟨(some 1), true, none, (.i (.box (.t 0)))⟩, ⟨(some 2), true, none, (.i (.mv (.c (.bool false))))⟩]) (.seq (.ops [⟨(some 3), false, none, (.i (.ldA 6 (.t 1)))⟩, ⟨(some 4), false, none, (.call (.c (.fn 17 [])) [(.t 3)])⟩, ⟨(some 5), false, none, (.i (.mv (.t 4)))⟩, ⟨(some 6), false, (some (5, true)), (.i (.ldA 6 (.t 1)))⟩, ⟨(some 7), false, (some (5, true)), (.call (.c (.fn 18 [])) [(.t 6), (.c (.int .i64 4))])⟩, ⟨(some 8), false, (some (5, true)), (.i (.un .not (.t 7)))⟩, ⟨(some 9), false, none, (.i (.pick (.t 5) (.t 8) (.c (.bool false))))⟩, ⟨(some 2), true, none, (.i (.mv (.t 9)))⟩]) .ret))
def c8 : FD := ⟨[0], b8, [(.t 2)]⟩
theorem l8 : lowF Tryd.prog 8 = some c8 := by kernel_rfl
def b17 : Cmd := (.seq (.ops [⟨(some 1), true, none, (.i (.box (.t 0)))⟩, ⟨(some 2), true, none, (.i (.mv (.c (.bool false))))⟩]) (.seq (.ops [⟨(some 3), false, none, (.i (.ldA 6 (.t 1)))⟩, ⟨(some 4), false, none, (.call (.c (.fn 30 [])) [(.t 3)])⟩, ⟨(some 5), false, none, (.i (.bin .leq (.t 4) (.c (.int .i64 60))))⟩, ⟨(some 6), false, none, (.i (.mv (.t 5)))⟩, ⟨(some 7), false, (some (6, true)), (.i (.ldA 6 (.t 1)))⟩, ⟨(some 8), false, (some (6, true)), (.call (.c (.fn 31 [])) [(.t 7)])⟩, ⟨(some 9), false, none, (.i (.pick (.t 6) (.t 8) (.c (.bool false))))⟩, ⟨(some 2), true, none, (.i (.mv (.t 9)))⟩]) .ret))
def c17 : FD := ⟨[0], b17, [(.t 2)]⟩
theorem l17 : lowF Tryd.prog 17 = some c17 := by kernel_rfl
def b18 : Cmd := (.seq (.ops [⟨(some 2), true, none, (.i (.box (.t 0)))⟩, ⟨(some 4), true, none, (.i (.mv (.c (.bool false))))⟩]) (.seq (.seq (.ops [⟨(some 7), false, none, (.i (.fad 0 (.t 2)))⟩, ⟨(some 8), false, none, (.i (.ld1 (.t 7)))⟩, ⟨(some 9), false, none, (.i (.mv (.t 1)))⟩, ⟨(some 10), true, none, (.i (.bin .eql (.t 8) (.t 9)))⟩]) (.cond (.t 10) (.seq (.ops [⟨(some 4), true, none, (.i (.mv (.c (.bool true))))⟩]) .ret) .skip)) (.seq (.seq (.ops [⟨(some 11), false, none, (.i (.fad 3 (.t 2)))⟩, ⟨(some 12), true, none, (.i (.ld1 (.t 11)))⟩, ⟨(some 13), true, none, (.i (.len (.t 12)))⟩, ⟨(some 14), true, none, (.i (.mv (.c (.int .i64 0))))⟩]) (.block 0 (.loop (.seq (.ops [⟨(some 15), true, none, (.i (.bin .lss (.t 14) (.t 13)))⟩]) (.seq (.cond (.t 15) .skip (.exit 0)) (.seq (.block 1 (.seq (.ops [⟨(some 16), false, none, (.i (.idxS 6 (.t 12) (.t 14)))⟩, ⟨(some 17), false, none, (.i (.ldA 6 (.t 16)))⟩, ⟨(some 6), true, none, (.i (.alloc [(.int .i64 0), (.int .i64 0), (.str []), .nils, (.int .i64 0), (.int .i64 0)]))⟩, ⟨none, false, none, (.i (.st 6 (.t 6) (.t 17)))⟩]) (.seq (.ops [⟨(some 18), false, none, (.i (.ldA 6 (.t 6)))⟩, ⟨(some 19), false, none, (.i (.mv (.t 1)))⟩, ⟨(some 20), true, none, (.call (.c (.fn 18 [])) [(.t 18), (.t 19)])⟩]) (.cond (.t 20) (.seq (.ops [⟨(some 4), true, none, (.i (.mv (.c (.bool true))))⟩]) .ret) .skip)))) (.ops [⟨(some 21), false, none, (.i (.bin .add (.t 14) (.c (.int .i64 1))))⟩, ⟨(some 14), true, none, (.i (.mv (.t 21)))⟩]))))))) (.seq (.ops [⟨(some 4), true, none, (.i (.mv (.c (.bool false))))⟩]) .ret))))
def c18 : FD := ⟨[0, 1], b18, [(.t 4)]⟩
theorem l18 : lowF Tryd.prog 18 = some c18 := by kernel_rfl
def b30 : Cmd := (.seq (.ops [⟨(some 1), true, none, (.i (.box (.t 0)))⟩, ⟨(some 2), true, none, (.i (.mv (.c (.int .i64 0))))⟩]) (.seq (.ops [⟨(some 3), true, none, (.i (.mv (.c (.int .i64 0))))⟩]) (.seq (.seq (.ops [⟨(some 6), false, none, (.i (.fad 3 (.t 1)))⟩, ⟨(some 7), true, none, (.i (.ld1 (.t 6)))⟩, ⟨(some 8), true, none, (.i (.len (.t 7)))⟩, ⟨(some 9), true, none, (.i (.mv (.c (.int .i64 0))))⟩]) (.block 0 (.loop (.seq (.ops [⟨(some 10), true, none, (.i (.bin .lss (.t 9) (.t 8)))⟩]) (.seq (.cond (.t 10) .skip (.exit 0)) (.seq (.block 1 (.seq (.ops [⟨(some 11), false, none, (.i (.idxS 6 (.t 7) (.t 9)))⟩, ⟨(some 12), false, none, (.i (.ldA 6 (.t 11)))⟩, ⟨(some 5), true, none, (.i (.alloc [(.int .i64 0), (.int .i64 0), (.str []), .nils, (.int .i64 0), (.int .i64 0)]))⟩, ⟨none, false, none, (.i (.st 6 (.t 5) (.t 12)))⟩]) (.ops [⟨(some 13), false, none, (.i (.mv (.t 3)))⟩, ⟨(some 14), false, none, (.i (.ldA 6 (.t 5)))⟩, ⟨(some 15), false, none, (.call (.c (.fn 30 [])) [(.t 14)])⟩, ⟨(some 16), false, none, (.i (.bi .max #[3, 3] [(.t 13), (.t 15)]))⟩, ⟨(some 3), true, none, (.i (.mv (.t 16)))⟩]))) (.ops [⟨(some 17), false, none, (.i (.bin .add (.t 9) (.c (.int .i64 1))))⟩, ⟨(some 9), true, none, (.i (.mv (.t 17)))⟩]))))))) (.seq (.ops [⟨(some 18), false, none, (.i (.mv (.t 3)))⟩, ⟨(some 19), false, none, (.i (.bin .add (.t 18) (.c (.int .i64 1))))⟩, ⟨(some 2), true, none, (.i (.mv (.t 19)))⟩]) .ret))))
def c30 : FD := ⟨[0], b30, [(.t 2)]⟩
theorem l30 : lowF Tryd.prog 30 = some c30 := by kernel_rfl
def b31 : Cmd := (.seq (.ops [⟨(some 1), true, none, (.i (.box (.t 0)))⟩, ⟨(some 2), true, none, (.i (.mv (.c (.bool false))))⟩]) (.seq (.seq (.dops [⟨⟨(some 5), false, none, (.i (.fad 0 (.t 1)))⟩, none, 0, []⟩, ⟨⟨(some 6), false, none, (.i (.ld1 (.t 5)))⟩, (some (some (.t 5))), 3, []⟩, ⟨⟨(some 7), false, none, (.call (.c (.fn 51 [])) [(.t 6)])⟩, (some none), 0, []⟩, ⟨⟨(some 8), false, none, (.i (.fad 3 (.t 1)))⟩, none, 0, []⟩, ⟨⟨(some 9), false, none, (.i (.ld1 (.t 8)))⟩, (some (some (.t 8))), 23, [(1, 0)]⟩, ⟨⟨(some 10), false, none, (.i (.len (.t 9)))⟩, none, 0, []⟩, ⟨⟨(some 11), true, none, (.i (.bin .neq (.t 7) (.t 10)))⟩, none, 0, []⟩]) (.cond (.t 11) (.seq (.ops [⟨(some 2), true, none, (.i (.mv (.c (.bool false))))⟩]) .ret) .skip)) (.seq (.seq (.ops [⟨(some 12), false, none, (.i (.fad 3 (.t 1)))⟩, ⟨(some 13), true, none, (.i (.ld1 (.t 12)))⟩, ⟨(some 14), true, none, (.i (.len (.t 13)))⟩, ⟨(some 15), true, none, (.i (.mv (.c (.int .i64 0))))⟩]) (.block 0 (.loop (.seq (.ops [⟨(some 16), true, none, (.i (.bin .lss (.t 15) (.t 14)))⟩]) (.seq (.cond (.t 16) .skip (.exit 0)) (.seq (.block 1 (.seq (.ops [⟨(some 17), false, none, (.i (.idxS 6 (.t 13) (.t 15)))⟩, ⟨(some 18), false, none, (.i (.ldA 6 (.t 17)))⟩, ⟨(some 4), true, none, (.i (.alloc [(.int .i64 0), (.int .i64 0), (.str []), .nils, (.int .i64 0), (.int .i64 0)]))⟩, ⟨none, false, none, (.i (.st 6 (.t 4) (.t 18)))⟩]) (.seq (.ops [⟨(some 19), false, none, (.i (.ldA 6 (.t 4)))⟩, ⟨(some 20), false, none, (.call (.c (.fn 31 [])) [(.t 19)])⟩, ⟨(some 21), true, none, (.i (.un .not (.t 20)))⟩]) (.cond (.t 21) (.seq (.ops [⟨(some 2), true, none, (.i (.mv (.c (.bool false))))⟩]) .ret) .skip)))) (.ops [⟨(some 22), false, none, (.i (.bin .add (.t 15) (.c (.int .i64 1))))⟩, ⟨(some 15), true, none, (.i (.mv (.t 22)))⟩]))))))) (.seq (.seq (.ops [⟨(some 23), false, none, (.i (.fad 0 (.t 1)))⟩, ⟨(some 24), false, none, (.i (.ld1 (.t 23)))⟩, ⟨(some 25), false, none, (.i (.bin .neq (.t 24) (.c (.int .i64 3))))⟩, ⟨(some 26), false, none, (.i (.mv (.t 25)))⟩, ⟨(some 27), false, (some (26, true)), (.i (.fad 2 (.t 1)))⟩, ⟨(some 28), false, (some (26, true)), (.i (.ld1 (.t 27)))⟩, ⟨(some 29), false, (some (26, true)), (.i (.strb .neq (.t 28) (.c (.str []))))⟩, ⟨(some 30), true, none, (.i (.pick (.t 26) (.t 29) (.c (.bool false))))⟩]) (.cond (.t 30) (.seq (.ops [⟨(some 2), true, none, (.i (.mv (.c (.bool false))))⟩]) .ret) .skip)) (.seq (.seq (.ops [⟨(some 31), false, none, (.i (.fad 0 (.t 1)))⟩, ⟨(some 32), true, none, (.i (.ld1 (.t 31)))⟩]) (.block 2 (.seq (.ops [⟨(some 34), false, none, (.i (.bin .eql (.t 32) (.c (.int .i64 1))))⟩, ⟨(some 33), true, none, (.i (.mv (.t 34)))⟩]) (.cond (.t 33) (.seq (.ops [⟨(some 35), false, none, (.i (.fad 1 (.t 1)))⟩, ⟨(some 36), false, none, (.i (.ld1 (.t 35)))⟩, ⟨(some 37), false, none, (.i (.bin .geq (.t 36) (.c (.int .i64 0))))⟩, ⟨(some 38), false, none, (.i (.mv (.t 37)))⟩, ⟨(some 39), false, (some (38, true)), (.i (.fad 1 (.t 1)))⟩, ⟨(some 40), false, (some (38, true)), (.i (.ld1 (.t 39)))⟩, ⟨(some 41), false, (some (38, true)), (.i (.bin .leq (.t 40) (.c (.int .i64 1000000))))⟩, ⟨(some 42), false, none, (.i (.pick (.t 38) (.t 41) (.c (.bool false))))⟩, ⟨(some 2), true, none, (.i (.mv (.t 42)))⟩]) .ret) (.seq (.ops [⟨(some 44), false, none, (.i (.bin .eql (.t 32) (.c (.int .i64 2))))⟩, ⟨(some 43), true, none, (.i (.mv (.t 44)))⟩]) (.cond (.t 43) (.seq (.ops [⟨(some 45), false, none, (.i (.fad 1 (.t 1)))⟩, ⟨(some 46), false, none, (.i (.ld1 (.t 45)))⟩, ⟨(some 47), false, none, (.i (.bin .eql (.t 46) (.c (.int .i64 0))))⟩, ⟨(some 48), false, none, (.i (.mv (.t 47)))⟩, ⟨(some 49), false, (some (48, false)), (.i (.fad 1 (.t 1)))⟩, ⟨(some 50), false, (some (48, false)), (.i (.ld1 (.t 49)))⟩, ⟨(some 51), false, (some (48, false)), (.i (.bin .eql (.t 50) (.c (.int .i64 1))))⟩, ⟨(some 52), false, none, (.i (.pick (.t 48) (.c (.bool true)) (.t 51)))⟩, ⟨(some 2), true, none, (.i (.mv (.t 52)))⟩]) .ret) (.seq (.ops [⟨(some 54), false, none, (.i (.bin .eql (.t 32) (.c (.int .i64 3))))⟩, ⟨(some 53), true, none, (.i (.mv (.t 54)))⟩]) (.cond (.t 53) (.seq (.ops [⟨(some 55), false, none, (.i (.fad 1 (.t 1)))⟩, ⟨(some 56), false, none, (.i (.ld1 (.t 55)))⟩, ⟨(some 57), false, none, (.i (.bin .eql (.t 56) (.c (.int .i64 0))))⟩, ⟨(some 58), false, none, (.i (.mv (.t 57)))⟩, ⟨(some 59), false, (some (58, true)), (.i (.fad 2 (.t 1)))⟩, ⟨(some 60), false, (some (58, true)), (.i (.ld1 (.t 59)))⟩, ⟨(some 61), false, (some (58, true)), (.call (.c (.fn 52 [])) [(.t 60)])⟩, ⟨(some 62), false, none, (.i (.pick (.t 58) (.t 61) (.c (.bool false))))⟩, ⟨(some 2), true, none, (.i (.mv (.t 62)))⟩]) .ret) (.seq (.ops [⟨(some 64), false, none, (.i (.bin .eql (.t 32) (.c (.int .i64 4))))⟩, ⟨(some 63), true, none, (.i (.mv (.t 64)))⟩]) (.cond (.t 63) (.seq (.ops [⟨(some 2), true, none, (.i (.mv (.c (.bool true))))⟩]) .ret) .skip)))))))))) (.seq (.ops [⟨(some 65), false, none, (.i (.fad 1 (.t 1)))⟩, ⟨(some 66), false, none, (.i (.ld1 (.t 65)))⟩, ⟨(some 67), false, none, (.i (.bin .eql (.t 66) (.c (.int .i64 0))))⟩, ⟨(some 2), true, none, (.i (.mv (.t 67)))⟩]) .ret))))))
def c31 : FD := ⟨[0], b31, [(.t 2)]⟩
theorem l31 : lowF Tryd.prog 31 = some c31 := by kernel_rfl
def b51 : Cmd := (.seq (.ops [⟨(some 2), true, none, (.i (.mv (.c (.int .i64 0))))⟩]) (.seq (.seq (.ops [⟨(some 3), false, none, (.i (.mv (.t 0)))⟩, ⟨(some 4), false, none, (.i (.bin .geq (.t 3) (.c (.int .i64 1))))⟩, ⟨(some 5), false, none, (.i (.mv (.t 4)))⟩, ⟨(some 6), false, (some (5, true)), (.i (.mv (.t 0)))⟩, ⟨(some 7), false, (some (5, true)), (.i (.bin .leq (.t 6) (.c (.int .i64 4))))⟩, ⟨(some 8), true, none, (.i (.pick (.t 5) (.t 7) (.c (.bool false))))⟩]) (.cond (.t 8) (.seq (.ops [⟨(some 2), true, none, (.i (.mv (.c (.int .i64 0))))⟩]) .ret) .skip)) (.seq (.seq (.ops [⟨(some 9), false, none, (.i (.mv (.t 0)))⟩, ⟨(some 10), false, none, (.i (.bin .geq (.t 9) (.c (.int .i64 5))))⟩, ⟨(some 11), false, none, (.i (.mv (.t 10)))⟩, ⟨(some 12), false, (some (11, true)), (.i (.mv (.t 0)))⟩, ⟨(some 13), false, (some (11, true)), (.i (.bin .leq (.t 12) (.c (.int .i64 13))))⟩, ⟨(some 14), true, none, (.i (.pick (.t 11) (.t 13) (.c (.bool false))))⟩]) (.cond (.t 14) (.seq (.ops [⟨(some 2), true, none, (.i (.mv (.c (.int .i64 1))))⟩]) .ret) .skip)) (.seq (.seq (.ops [⟨(some 15), false, none, (.i (.mv (.t 0)))⟩, ⟨(some 16), false, none, (.i (.bin .geq (.t 15) (.c (.int .i64 14))))⟩, ⟨(some 17), false, none, (.i (.mv (.t 16)))⟩, ⟨(some 18), false, (some (17, true)), (.i (.mv (.t 0)))⟩, ⟨(some 19), false, (some (17, true)), (.i (.bin .leq (.t 18) (.c (.int .i64 30))))⟩, ⟨(some 20), true, none, (.i (.pick (.t 17) (.t 19) (.c (.bool false))))⟩]) (.cond (.t 20) (.seq (.ops [⟨(some 2), true, none, (.i (.mv (.c (.int .i64 2))))⟩]) .ret) .skip)) (.seq (.ops [⟨(some 2), true, none, (.i (.mv (.c (.int .i64 (-(0+1))))))⟩]) .ret)))))
def c51 : FD := ⟨[0], b51, [(.t 2)]⟩
theorem l51 : lowF Tryd.prog 51 = some c51 := by kernel_rfl
end Go.Sy
end
