/-
  Contracts: the code lowered, what it does told by rules, and the contracts of the functions that the law reaches.
-/
import Derived.Test.YtbpohnnpklbmeaaDoorSyE
set_option linter.unusedVariables false
set_option linter.unusedSimpArgs false
section
set_option maxRecDepth 100000
namespace Go.Sy
open Go.Ev Go.Proofs
variable {base : CallF}
theorem kids51_ok (hb : NB base) (op : Int) (h1 : 1 ≤ op) (h31 : op < 31) (st : St) (K : AV → St → Prop) (hK : K (.int .i64 (kidsN op : Int)) st) : CB Tryd.prog base 51 [.int .i64 op] st K := by
  refine fn_ruleB l51 (hb.at _ (by decide) _ _) ?_
  simp only [c51, entry, List.map_cons, List.map_nil, List.getD_cons_zero, List.getD_cons_succ]
  unfold b51
  have hE : ∀ s, Kept st.bare s → Kept st (bk st s) := fun s k => ⟨k.nx, rfl, k.keep⟩
  have hB : ∀ s c, But st.bare s c → But st (bk st s) c := fun s c k => ⟨k.nx, rfl, k.keep⟩
  have hS0 : bk st st.bare = st := rfl
  have hnx0 : st.bare.nx = st.nx := rfl
  have hfr0 : st.bare.fr = [] := rfl
  generalize st.bare = s0 at *
  by_cases h4 : op ≤ 4
  · have e : (kidsN op : Int) = 0 := by unfold kidsN; rw [if_neg (by omega), if_neg (by omega)]; rfl
    rw [e, ← hS0] at hK
    simp (disch := first | decide | assumption | omega | (simp only [nx_nw, nx_wr, nx_ap, nx_bare]; first | done | omega) | (simp (disch := first | assumption | omega | (simp only [nx_nw, nx_wr, nx_ap, nx_bare]; first | done | omega)) only [rRu, List.length_cons, List.length_nil]; first | done | omega | decide)) only [rRm, rRn, Nat.reduceAdd, Nat.reduceSub, Nat.reduceMul, Nat.zero_add, List.getD_cons_zero, List.getD_cons_succ, rRd, rRe, rRf, Bool.not_true, Bool.not_false, List.cons_append, List.nil_append, List.append_nil]
    exact hK
  have h5 : (5 : Int) ≤ op := by omega
  by_cases h2 : op ≤ 13
  · have e : (kidsN op : Int) = 1 := by simp [kidsN, h5, h2]
    rw [e, ← hS0] at hK
    simp (disch := first | decide | assumption | omega | (simp only [nx_nw, nx_wr, nx_ap, nx_bare]; first | done | omega) | (simp (disch := first | assumption | omega | (simp only [nx_nw, nx_wr, nx_ap, nx_bare]; first | done | omega)) only [rRu, List.length_cons, List.length_nil]; first | done | omega | decide)) only [rRm, rRn, Nat.reduceAdd, Nat.reduceSub, Nat.reduceMul, Nat.zero_add, List.getD_cons_zero, List.getD_cons_succ, rRd, rRe, rRf, Bool.not_true, Bool.not_false, List.cons_append, List.nil_append, List.append_nil]
    exact hK
  · have h6 : (14 : Int) ≤ op := by omega
    have h7 : op ≤ 30 := by omega
    have e : (kidsN op : Int) = 2 := by simp [kidsN, h5, h2, h6, h31]
    rw [e, ← hS0] at hK
    simp (disch := first | decide | assumption | omega | (simp only [nx_nw, nx_wr, nx_ap, nx_bare]; first | done | omega) | (simp (disch := first | assumption | omega | (simp only [nx_nw, nx_wr, nx_ap, nx_bare]; first | done | omega)) only [rRu, List.length_cons, List.length_nil]; first | done | omega | decide)) only [rRm, rRn, Nat.reduceAdd, Nat.reduceSub, Nat.reduceMul, Nat.zero_add, List.getD_cons_zero, List.getD_cons_succ, rRd, rRe, rRf, Bool.not_true, Bool.not_false, List.cons_append, List.nil_append, List.append_nil]
    exact hK
/-- what is known of an expression that is right -/
theorem rightB_s {d : Nat} {op num : Int} {name : List Nat} {ks : List Ex} {l c : Int} (h : rightB (d + 1) (.mk op num name ks l c) = true) : 1 ≤ op ∧ op < 31 ∧ ks.length = kidsN op ∧ leafB (.mk op num name ks l c) = true ∧ ∀ y ∈ ks, rightB d y = true := by
  have e : rightB (d + 1) (.mk op num name ks l c) = (decide (1 ≤ op) && decide (op < 31) && decide (ks.length = kidsN op) && leafB (.mk op num name ks l c) && ks.all (rightB d)) := rfl
  rw [e] at h
  simp only [Bool.and_eq_true, decide_eq_true_eq, List.all_eq_true] at h
  exact ⟨h.1.1.1.1, h.1.1.1.2, h.1.1.2, h.1.2, h.2⟩
theorem kidsN_le (op : Int) : kidsN op ≤ 2 := by unfold kidsN; split <;> (try split) <;> omega
theorem v_maxN (a b : Nat) (st : St) (K : AV → St → Prop) : onER (biV Tryd.prog .max #[3, 3] (.int .i64 (a : Int)) (.int .i64 (b : Int)) st) K = K (.int .i64 ((max a b : Nat) : Int)) st := by
  have h : biV Tryd.prog .max #[3, 3] (.int .i64 (a : Int)) (.int .i64 (b : Int)) st = onSome (max2 (.int .i64 (a : Int)) (.int .i64 (b : Int))) fun v => .ok v st := by kernel_rfl
  rw [h]
  have e : max2 (.int .i64 (a : Int)) (.int .i64 (b : Int)) = some (.int .i64 ((max a b : Nat) : Int)) := by
    show cond (eqK .i64 .i64) (some (AV.int .i64 (cond (Nat.ble (Nat.succ a) b) (b : Int) (a : Int)))) none = _
    rw [eqK_self, cond_true]
    by_cases hb : a < b
    · rw [ble_t hb, Nat.max_eq_right (by omega)]; rfl
    · rw [ble_f (by omega), Nat.max_eq_left (by omega)]; rfl
  rw [e]; rfl
theorem deep_ok (hb : NB base) : ∀ (d : Nat) (hd : d ≤ 60) (x : Ex) (hr : rightB d x = true) (cs : List AV) (st : St) (K : AV → St → Prop) (h : ExR st cs x) (hK : ∀ (n : Nat) s1, n ≤ d → Kept st s1 → K (.int .i64 (n : Int)) s1), CB Tryd.prog base 30 [.agg cs] st K := by
  intro d
  induction d with
  | zero => intro hd x hr; exact absurd hr (by unfold rightB; decide)
  | succ d ih =>
    intro hd x hr cs st K h hK
    refine fn_ruleB l30 (hb.at _ (by decide) _ _) ?_
    simp only [c30, entry, List.map_cons, List.map_nil, List.getD_cons_zero, List.getD_cons_succ]
    unfold b30
    have h := h.bare
    have hE : ∀ s, Kept st.bare s → Kept st (bk st s) := fun s k => ⟨k.nx, rfl, k.keep⟩
    have hB : ∀ s c, But st.bare s c → But st (bk st s) c := fun s c k => ⟨k.nx, rfl, k.keep⟩
    have hS0 : bk st st.bare = st := rfl
    have hnx0 : st.bare.nx = st.nx := rfl
    have hfr0 : st.bare.fr = [] := rfl
    generalize st.bare = s0 at *
    obtain ⟨op, num, name, ks, l, c⟩ := x
    have hlen := h.len
    have hlal := h.lall
    obtain ⟨k, rfl, hk⟩ := h
    have hkv : KsV s0 k ks := hk
    clear hk
    have hke := hkv.eqs
    have eL := hkv.lenV
    obtain ⟨g0, g1, g2, g3, g4, g5, g6⟩ := exC_get op num name k l c
    generalize exC op num name k l c = cs at *
    obtain ⟨r1, r2, r3, r4, r5⟩ := rightB_s hr
    have hkl := kidsN_le op
    simp (disch := first | decide | assumption | omega | (simp only [nx_nw, nx_wr, nx_ap, nx_bare]; first | done | omega) | (simp (disch := first | assumption | omega | (simp only [nx_nw, nx_wr, nx_ap, nx_bare]; first | done | omega)) only [hlal, g6, rRu, List.length_cons, List.length_nil]; first | done | omega | decide)) only [g3, eL, hlal, g6, rRm, rRn, Nat.reduceAdd, Nat.reduceSub, Nat.reduceMul, Nat.zero_add, List.getD_cons_zero, List.getD_cons_succ, rRd, rRe, rRf, Bool.not_true, Bool.not_false, List.cons_append, List.nil_append, List.append_nil]
    have k0 : Kept s0 (nw s0 cs) := (Kept.refl s0).nw cs
    generalize nw s0 cs = u at *
    refine wC_loopH (fun mm L s => ∃ i : Nat, i ≤ ks.length ∧ mm = ks.length - i ∧ Kept s0 s ∧ ∃ m : Nat, m ≤ d ∧ Has L 3 (.int .i64 (m : Int)) ∧ Has L 7 k ∧ Has L 8 (.int .i64 (ks.length : Int)) ∧ Has L 9 (.int .i64 (i : Int))) ?_ ks.length ?_
    · rintro mm L s ⟨i, hi, rfl, hs, m, hm, i3, i7, i8, i9⟩
      unfold Hold
      by_cases hin : i < ks.length
      · have hk' := hkv.kept hs
        rcases hk' with ⟨rfl, rfl⟩ | ⟨b, o, cap, ex, rfl, hbl, hle, hks, _⟩
        · simp at hin
        have hx := hks.at hin
        have hxl := hx.len
        have hxa := hx.lall
        simp (disch := first | decide | assumption | omega | (simp only [nx_nw, nx_wr, nx_ap, nx_bare]; first | done | omega) | (simp (disch := first | assumption | omega | (simp only [nx_nw, nx_wr, nx_ap, nx_bare]; first | done | omega)) only [hxl, hxa, rRu, List.length_cons, List.length_nil]; first | done | omega | decide)) only [r_onh i3, r_onh i7, r_onh i8, r_onh i9, hxl, hxa, rRm, rRn, Nat.reduceAdd, Nat.reduceSub, Nat.reduceMul, Nat.zero_add, List.getD_cons_zero, List.getD_cons_succ, rRd, rRe, rRf, Bool.not_true, Bool.not_false, List.cons_append, List.nil_append, List.append_nil]
        have ks0 : Kept s (wr (nw s zE) s.nx 0 (rats s.h b (o + i * 6) 6)) := ((Kept.refl s).nw _).wr (Nat.le_refl _) _ _
        refine ih (by omega) _ (r5 _ (List.getElem_mem hin)) _ _ _ (hx.kept ks0) fun n s1 hn k1 => ?_
        have k01 := hs.trans (ks0.trans k1)
        simp (disch := first | decide | assumption | omega | (simp only [nx_nw, nx_wr, nx_ap, nx_bare]; first | done | omega) | (simp (disch := first | assumption | omega | (simp only [nx_nw, nx_wr, nx_ap, nx_bare]; first | done | omega)) only [rRu, List.length_cons, List.length_nil]; first | done | omega | decide)) only [r_onh i3, r_onh i7, r_onh i8, r_onh i9, v_addN, i_bi2, v_maxN, rRm, rRn, Nat.reduceAdd, Nat.reduceSub, Nat.reduceMul, Nat.zero_add, List.getD_cons_zero, List.getD_cons_succ, rRd, rRe, rRf, Bool.not_true, Bool.not_false, List.cons_append, List.nil_append, List.append_nil]
        refine ⟨ks.length - (i + 1), by omega, i + 1, by omega, rfl, k01, max m n, by omega, ?_⟩
        simp (disch := decide) only [z0, z1, h_here, h_skip, i3, i7, i8, i9, true_and, and_true]
      · have em : i = ks.length := by omega
        simp (disch := first | decide | assumption | omega | (simp only [nx_nw, nx_wr, nx_ap, nx_bare]; first | done | omega) | (simp (disch := first | assumption | omega | (simp only [nx_nw, nx_wr, nx_ap, nx_bare]; first | done | omega)) only [rRu, List.length_cons, List.length_nil]; first | done | omega | decide)) only [r_onh i3, r_onh i7, r_onh i8, r_onh i9, v_addN, rRm, rRn, Nat.reduceAdd, Nat.reduceSub, Nat.reduceMul, Nat.zero_add, List.getD_cons_zero, List.getD_cons_succ, rRd, rRe, rRf, Bool.not_true, Bool.not_false, List.cons_append, List.nil_append, List.append_nil]
        exact hK (m + 1) _ (by omega) (hE _ hs)
    · refine ⟨0, by omega, rfl, by first | exact k0 | trivial, 0, by omega, ?_⟩
      simp (disch := decide) only [z0, z1, h_here, h_skip, true_and, and_true]
theorem evs_mem {q : Ex → Prop} : ∀ {ks : List Ex} {x : Ex}, Ex.evs q ks → x ∈ ks → x.ev q
  | y :: ys, x, h, hx => by
    rcases List.mem_cons.1 hx with rfl | hx
    · exact h.1
    · exact evs_mem h.2 hx
theorem ev_at {q : Ex → Prop} {x : Ex} (h : x.ev q) : q x := by cases x; exact h.1
theorem has_ok (hb : NB base) : ∀ (d : Nat) (hd : d ≤ 60) (x : Ex) (hr : rightB d x = true) (h4 : x.ev fun y => y.op ≠ 4) (cs : List AV) (st : St) (K : AV → St → Prop) (h : ExR st cs x) (hK : ∀ s1, Kept st s1 → K (.bool false) s1), CB Tryd.prog base 18 [.agg cs, .int .i64 4] st K := by
  intro d
  induction d with
  | zero => intro hd x hr; exact absurd hr (by unfold rightB; decide)
  | succ d ih =>
    intro hd x hr h4 cs st K h hK
    refine fn_ruleB l18 (hb.at _ (by decide) _ _) ?_
    simp only [c18, entry, List.map_cons, List.map_nil, List.getD_cons_zero, List.getD_cons_succ]
    unfold b18
    have h := h.bare
    have hE : ∀ s, Kept st.bare s → Kept st (bk st s) := fun s k => ⟨k.nx, rfl, k.keep⟩
    have hB : ∀ s c, But st.bare s c → But st (bk st s) c := fun s c k => ⟨k.nx, rfl, k.keep⟩
    have hS0 : bk st st.bare = st := rfl
    have hnx0 : st.bare.nx = st.nx := rfl
    have hfr0 : st.bare.fr = [] := rfl
    generalize st.bare = s0 at *
    obtain ⟨op, num, name, ks, l, c⟩ := x
    have hop : op ≠ 4 := ev_at h4
    have hev := h4.2
    have hlen := h.len
    have hlal := h.lall
    obtain ⟨k, rfl, hk⟩ := h
    have hkv : KsV s0 k ks := hk
    clear hk
    have hke := hkv.eqs
    have eL := hkv.lenV
    obtain ⟨g0, g1, g2, g3, g4, g5, g6⟩ := exC_get op num name k l c
    generalize exC op num name k l c = cs at *
    obtain ⟨r1, r2, r3, r4, r5⟩ := rightB_s hr
    have hkl := kidsN_le op
    simp (disch := first | decide | assumption | omega | (simp only [nx_nw, nx_wr, nx_ap, nx_bare]; first | done | omega) | (simp (disch := first | assumption | omega | (simp only [nx_nw, nx_wr, nx_ap, nx_bare]; first | done | omega)) only [hlal, g6, rRu, List.length_cons, List.length_nil]; first | done | omega | decide)) only [g0, g3, eL, hlal, g6, rRm, rRn, Nat.reduceAdd, Nat.reduceSub, Nat.reduceMul, Nat.zero_add, List.getD_cons_zero, List.getD_cons_succ, rRd, rRe, rRf, Bool.not_true, Bool.not_false, List.cons_append, List.nil_append, List.append_nil]
    have k0 : Kept s0 (nw s0 cs) := (Kept.refl s0).nw cs
    generalize nw s0 cs = u at *
    refine wC_loopH (fun mm L s => ∃ i : Nat, i ≤ ks.length ∧ mm = ks.length - i ∧ Kept s0 s ∧ Has L 1 (.int .i64 4) ∧ Has L 12 k ∧ Has L 13 (.int .i64 (ks.length : Int)) ∧ Has L 14 (.int .i64 (i : Int))) ?_ ks.length ?_
    · rintro mm L s ⟨i, hi, rfl, hs, h1, h12, h13, h14⟩
      unfold Hold
      by_cases hin : i < ks.length
      · have hk' := hkv.kept hs
        rcases hk' with ⟨rfl, rfl⟩ | ⟨b, o, cap, ex, rfl, hbl, hle, hks, _⟩
        · simp at hin
        have hx := hks.at hin
        have hxl := hx.len
        have hxa := hx.lall
        simp (disch := first | decide | assumption | omega | (simp only [nx_nw, nx_wr, nx_ap, nx_bare]; first | done | omega) | (simp (disch := first | assumption | omega | (simp only [nx_nw, nx_wr, nx_ap, nx_bare]; first | done | omega)) only [hxl, hxa, rRu, List.length_cons, List.length_nil]; first | done | omega | decide)) only [r_onh h1, r_onh h12, r_onh h13, r_onh h14, hxl, hxa, rRm, rRn, Nat.reduceAdd, Nat.reduceSub, Nat.reduceMul, Nat.zero_add, List.getD_cons_zero, List.getD_cons_succ, rRd, rRe, rRf, Bool.not_true, Bool.not_false, List.cons_append, List.nil_append, List.append_nil]
        have ks0 : Kept s (wr (nw s zE) s.nx 0 (rats s.h b (o + i * 6) 6)) := ((Kept.refl s).nw _).wr (Nat.le_refl _) _ _
        refine ih (by omega) _ (r5 _ (List.getElem_mem hin)) (evs_mem hev (List.getElem_mem hin)) _ _ _ (hx.kept ks0) fun s1 k1 => ?_
        have k01 := hs.trans (ks0.trans k1)
        simp (disch := first | decide | assumption | omega | (simp only [nx_nw, nx_wr, nx_ap, nx_bare]; first | done | omega) | (simp (disch := first | assumption | omega | (simp only [nx_nw, nx_wr, nx_ap, nx_bare]; first | done | omega)) only [rRu, List.length_cons, List.length_nil]; first | done | omega | decide)) only [r_onh h1, r_onh h12, r_onh h13, r_onh h14, v_addN, rRm, rRn, Nat.reduceAdd, Nat.reduceSub, Nat.reduceMul, Nat.zero_add, List.getD_cons_zero, List.getD_cons_succ, rRd, rRe, rRf, Bool.not_true, Bool.not_false, List.cons_append, List.nil_append, List.append_nil]
        refine ⟨ks.length - (i + 1), by omega, i + 1, by omega, rfl, k01, ?_⟩
        simp (disch := decide) only [z0, z1, h_here, h_skip, h1, h12, h13, h14, true_and, and_true]
      · have em : i = ks.length := by omega
        simp (disch := first | decide | assumption | omega | (simp only [nx_nw, nx_wr, nx_ap, nx_bare]; first | done | omega) | (simp (disch := first | assumption | omega | (simp only [nx_nw, nx_wr, nx_ap, nx_bare]; first | done | omega)) only [rRu, List.length_cons, List.length_nil]; first | done | omega | decide)) only [r_onh h1, r_onh h12, r_onh h13, r_onh h14, rRm, rRn, Nat.reduceAdd, Nat.reduceSub, Nat.reduceMul, Nat.zero_add, List.getD_cons_zero, List.getD_cons_succ, rRd, rRe, rRf, Bool.not_true, Bool.not_false, List.cons_append, List.nil_append, List.append_nil]
        exact hK _ (hE _ hs)
    · refine ⟨0, by omega, rfl, by first | exact k0 | trivial, ?_⟩
      simp (disch := decide) only [z0, z1, h_here, h_skip, true_and, and_true]
/-- an expression's node is within a text of so many lines and columns -/
def atP (ln cl : Nat) (y : Ex) : Prop := ∃ a b : Nat, y.line = a ∧ y.col = b ∧ 1 ≤ a ∧ a ≤ ln ∧ 1 ≤ b ∧ b ≤ cl
theorem placed_ok (hb : NB base) {ln cl : Nat} : ∀ (d : Nat) (hd : d ≤ 60) (x : Ex) (hr : rightB d x = true) (h4 : x.ev (atP ln cl)) (cs : List AV) (st : St) (K : AV → St → Prop) (h : ExR st cs x) (hK : ∀ s1, Kept st s1 → K (.bool true) s1), CB Tryd.prog base 7 [.agg cs, .int .i64 (ln : Int), .int .i64 (cl : Int)] st K := by
  intro d
  induction d with
  | zero => intro hd x hr; exact absurd hr (by unfold rightB; decide)
  | succ d ih =>
    intro hd x hr h4 cs st K h hK
    refine fn_ruleB l7 (hb.at _ (by decide) _ _) ?_
    simp only [c7, entry, List.map_cons, List.map_nil, List.getD_cons_zero, List.getD_cons_succ]
    unfold b7
    have h := h.bare
    have hE : ∀ s, Kept st.bare s → Kept st (bk st s) := fun s k => ⟨k.nx, rfl, k.keep⟩
    have hB : ∀ s c, But st.bare s c → But st (bk st s) c := fun s c k => ⟨k.nx, rfl, k.keep⟩
    have hS0 : bk st st.bare = st := rfl
    have hnx0 : st.bare.nx = st.nx := rfl
    have hfr0 : st.bare.fr = [] := rfl
    generalize st.bare = s0 at *
    obtain ⟨op, num, name, ks, l, c⟩ := x
    obtain ⟨a, b, ea, eb, a1, a2, b1, b2⟩ := ev_at h4
    obtain rfl : l = (a : Int) := ea
    obtain rfl : c = (b : Int) := eb
    have hev := h4.2
    have hlen := h.len
    have hlal := h.lall
    obtain ⟨k, rfl, hk⟩ := h
    have hkv : KsV s0 k ks := hk
    clear hk
    have hke := hkv.eqs
    have eL := hkv.lenV
    obtain ⟨g0, g1, g2, g3, g4, g5, g6⟩ := exC_get op num name k a b
    generalize exC op num name k a b = cs at *
    obtain ⟨r1, r2, r3, r4, r5⟩ := rightB_s hr
    have hkl := kidsN_le op
    have j1 : ¬ (a : Int) < 1 := by omega
    have j2 : ¬ (ln : Int) < (a : Int) := by omega
    have j3 : ¬ (b : Int) < 1 := by omega
    have j4 : ¬ (cl : Int) < (b : Int) := by omega
    simp (disch := first | decide | assumption | omega | (simp only [nx_nw, nx_wr, nx_ap, nx_bare]; first | done | omega) | (simp (disch := first | assumption | omega | (simp only [nx_nw, nx_wr, nx_ap, nx_bare]; first | done | omega)) only [hlal, g6, rRu, List.length_cons, List.length_nil]; first | done | omega | decide)) only [g0, g3, g4, g5, eL, hlal, g6, rRm, rRn, Nat.reduceAdd, Nat.reduceSub, Nat.reduceMul, Nat.zero_add, List.getD_cons_zero, List.getD_cons_succ, rRd, rRe, rRf, Bool.not_true, Bool.not_false, List.cons_append, List.nil_append, List.append_nil]
    have k0 : Kept s0 (nw s0 cs) := (Kept.refl s0).nw cs
    generalize nw s0 cs = u at *
    refine wC_loopH (fun mm L s => ∃ i : Nat, i ≤ ks.length ∧ mm = ks.length - i ∧ Kept s0 s ∧ Has L 1 (.int .i64 (ln : Int)) ∧ Has L 2 (.int .i64 (cl : Int)) ∧ Has L 30 k ∧ Has L 31 (.int .i64 (ks.length : Int)) ∧ Has L 32 (.int .i64 (i : Int))) ?_ ks.length ?_
    · rintro mm L s ⟨i, hi, rfl, hs, h1, h2, h30, h31, h32⟩
      unfold Hold
      by_cases hin : i < ks.length
      · have hk' := hkv.kept hs
        rcases hk' with ⟨rfl, rfl⟩ | ⟨b, o, cap, ex, rfl, hbl, hle, hks, _⟩
        · simp at hin
        have hx := hks.at hin
        have hxl := hx.len
        have hxa := hx.lall
        simp (disch := first | decide | assumption | omega | (simp only [nx_nw, nx_wr, nx_ap, nx_bare]; first | done | omega) | (simp (disch := first | assumption | omega | (simp only [nx_nw, nx_wr, nx_ap, nx_bare]; first | done | omega)) only [hxl, hxa, rRu, List.length_cons, List.length_nil]; first | done | omega | decide)) only [r_onh h1, r_onh h2, r_onh h30, r_onh h31, r_onh h32, hxl, hxa, rRm, rRn, Nat.reduceAdd, Nat.reduceSub, Nat.reduceMul, Nat.zero_add, List.getD_cons_zero, List.getD_cons_succ, rRd, rRe, rRf, Bool.not_true, Bool.not_false, List.cons_append, List.nil_append, List.append_nil]
        have ks0 : Kept s (wr (nw s zE) s.nx 0 (rats s.h b (o + i * 6) 6)) := ((Kept.refl s).nw _).wr (Nat.le_refl _) _ _
        refine ih (by omega) _ (r5 _ (List.getElem_mem hin)) (evs_mem hev (List.getElem_mem hin)) _ _ _ (hx.kept ks0) fun s1 k1 => ?_
        have k01 := hs.trans (ks0.trans k1)
        simp (disch := first | decide | assumption | omega | (simp only [nx_nw, nx_wr, nx_ap, nx_bare]; first | done | omega) | (simp (disch := first | assumption | omega | (simp only [nx_nw, nx_wr, nx_ap, nx_bare]; first | done | omega)) only [rRu, List.length_cons, List.length_nil]; first | done | omega | decide)) only [r_onh h1, r_onh h2, r_onh h30, r_onh h31, r_onh h32, v_addN, rRm, rRn, Nat.reduceAdd, Nat.reduceSub, Nat.reduceMul, Nat.zero_add, List.getD_cons_zero, List.getD_cons_succ, rRd, rRe, rRf, Bool.not_true, Bool.not_false, List.cons_append, List.nil_append, List.append_nil]
        refine ⟨ks.length - (i + 1), by omega, i + 1, by omega, rfl, k01, ?_⟩
        simp (disch := decide) only [z0, z1, h_here, h_skip, h1, h2, h30, h31, h32, true_and, and_true]
      · have em : i = ks.length := by omega
        simp (disch := first | decide | assumption | omega | (simp only [nx_nw, nx_wr, nx_ap, nx_bare]; first | done | omega) | (simp (disch := first | assumption | omega | (simp only [nx_nw, nx_wr, nx_ap, nx_bare]; first | done | omega)) only [rRu, List.length_cons, List.length_nil]; first | done | omega | decide)) only [r_onh h1, r_onh h2, r_onh h30, r_onh h31, r_onh h32, rRm, rRn, Nat.reduceAdd, Nat.reduceSub, Nat.reduceMul, Nat.zero_add, List.getD_cons_zero, List.getD_cons_succ, rRd, rRe, rRf, Bool.not_true, Bool.not_false, List.cons_append, List.nil_append, List.append_nil]
        exact hK _ (hE _ hs)
    · refine ⟨0, by omega, rfl, by first | exact k0 | trivial, ?_⟩
      simp (disch := decide) only [z0, z1, h_here, h_skip, true_and, and_true]
end Go.Sy
end

section
set_option maxRecDepth 100000
namespace Go.Sy
open Go.Ev Go.Proofs
variable {base : CallF}
theorem leafB_s {op num : Int} {name : List Nat} {ks : List Ex} {l c : Int} (h : leafB (.mk op num name ks l c) = true) :
  (op = 1 → 0 ≤ num ∧ num ≤ 1000000) ∧ (op = 2 → num = 0 ∨ num = 1) ∧ (op = 3 → num = 0 ∧ nm name = true) ∧ (op ≠ 3 → name = []) ∧ (op ≠ 1 → op ≠ 2 → op ≠ 3 → op ≠ 4 → num = 0) := by
  have e : leafB (.mk op num name ks l c) = (if op = 1 then decide (0 ≤ num) && decide (num ≤ 1000000) && decide (name = []) else if op = 2 then (decide (num = 0) || decide (num = 1)) && decide (name = []) else if op = 3 then decide (num = 0) && nm name else if op = 4 then decide (name = []) else decide (num = 0) && decide (name = [])) := rfl
  rw [e] at h
  by_cases q1 : op = 1
  · rw [if_pos q1, Bool.and_eq_true, Bool.and_eq_true] at h
    have a := of_decide_eq_true h.1.1
    have b := of_decide_eq_true h.1.2
    have c := of_decide_eq_true h.2
    exact ⟨fun _ => ⟨a, b⟩, by omega, by omega, fun _ => c, by omega⟩
  rw [if_neg q1] at h
  by_cases q2 : op = 2
  · rw [if_pos q2, Bool.and_eq_true, Bool.or_eq_true] at h
    have a := of_decide_eq_true h.2
    refine ⟨by omega, fun _ => ?_, by omega, fun _ => a, by omega⟩
    rcases h.1 with h | h
    · exact .inl (of_decide_eq_true h)
    · exact .inr (of_decide_eq_true h)
  rw [if_neg q2] at h
  by_cases q3 : op = 3
  · rw [if_pos q3, Bool.and_eq_true] at h
    exact ⟨by omega, by omega, fun _ => ⟨of_decide_eq_true h.1, h.2⟩, fun h => absurd q3 h, by omega⟩
  rw [if_neg q3] at h
  by_cases q4 : op = 4
  · rw [if_pos q4] at h
    exact ⟨by omega, by omega, by omega, fun _ => of_decide_eq_true h, by omega⟩
  rw [if_neg q4, Bool.and_eq_true] at h
  exact ⟨by omega, by omega, by omega, fun _ => of_decide_eq_true h.2, fun _ _ _ _ => of_decide_eq_true h.1⟩
theorem ty3a : Go.Ev.isAgg Tryd.prog 3 = some false := by kernel_rfl
theorem ty3s : Go.Ev.sizeOf Tryd.prog 3 = some 1 := by kernel_rfl
theorem shape_ok (hb : NB base) : ∀ (d : Nat) (hd : d ≤ 60) (x : Ex) (hr : rightB d x = true) (hw : x.wf) (cs : List AV) (st : St) (K : AV → St → Prop) (h : ExR st cs x) (hK : ∀ s1, Kept st s1 → K (.bool true) s1), CB Tryd.prog base 31 [.agg cs] st K := by
  intro d
  induction d with
  | zero => intro hd x hr; exact absurd hr (by unfold rightB; decide)
  | succ d ih =>
    intro hd x hr hw cs st K h hK
    refine fn_ruleB l31 (hb.at _ (by decide) _ _) ?_
    simp only [c31, entry, List.map_cons, List.map_nil, List.getD_cons_zero, List.getD_cons_succ]
    unfold b31
    have h := h.bare
    have hE : ∀ s, Kept st.bare s → Kept st (bk st s) := fun s k => ⟨k.nx, rfl, k.keep⟩
    have hB : ∀ s c, But st.bare s c → But st (bk st s) c := fun s c k => ⟨k.nx, rfl, k.keep⟩
    have hS0 : bk st st.bare = st := rfl
    have hnx0 : st.bare.nx = st.nx := rfl
    have hfr0 : st.bare.fr = [] := rfl
    generalize st.bare = s0 at *
    obtain ⟨op, num, name, ks, l, c⟩ := x
    have hlen := h.len
    have hlal := h.lall
    obtain ⟨k, rfl, hk⟩ := h
    have hkv : KsV s0 k ks := hk
    clear hk
    have hke := hkv.eqs
    have eL := hkv.lenV
    obtain ⟨g0, g1, g2, g3, g4, g5, g6⟩ := exC_get op num name k l c
    generalize exC op num name k l c = cs at *
    obtain ⟨r1, r2, r3, r4, r5⟩ := rightB_s hr
    have hkl := kidsN_le op
    simp (disch := first | decide | assumption | omega | (simp only [nx_nw, nx_wr, nx_ap, nx_bare]; first | done | omega) | (simp (disch := first | assumption | omega | (simp only [nx_nw, nx_wr, nx_ap, nx_bare]; first | done | omega)) only [hlal, g6, rRu, List.length_cons, List.length_nil]; first | done | omega | decide)) only [g0, g1, g2, g3, hlal, g6, rRm, rRn, Nat.reduceAdd, Nat.reduceSub, Nat.reduceMul, Nat.zero_add, List.getD_cons_zero, List.getD_cons_succ, rRd, rRe, rRf, Bool.not_true, Bool.not_false, List.cons_append, List.nil_append, List.append_nil]
    have hs1 : sameAt Tryd.prog 23 (.ptr s0.nx 3) k (nw s0 cs).h = true := same_1 ty23a ty23s (by (simp (disch := first | decide | assumption | omega | (simp only [nx_nw, nx_wr, nx_ap, nx_bare]; first | done | omega) | (simp (disch := first | assumption | omega | (simp only [nx_nw, nx_wr, nx_ap, nx_bare]; first | done | omega)) only [g6, rRu, List.length_cons, List.length_nil]; first | done | omega | decide)) only [g6, rRm, rRn, Nat.reduceAdd, Nat.reduceSub, Nat.reduceMul, Nat.zero_add, List.getD_cons_zero, List.getD_cons_succ] <;> first | done | omega | rfl)) (by (simp (disch := first | decide | assumption | omega | (simp only [nx_nw, nx_wr, nx_ap, nx_bare]; first | done | omega) | (simp (disch := first | assumption | omega | (simp only [nx_nw, nx_wr, nx_ap, nx_bare]; first | done | omega)) only [g6, rRu, List.length_cons, List.length_nil]; first | done | omega | decide)) only [g3, g6, rRm, rRn, Nat.reduceAdd, Nat.reduceSub, Nat.reduceMul, Nat.zero_add, List.getD_cons_zero, List.getD_cons_succ] <;> first | done | omega | rfl)) hke.1
    have hs0 : sameAt Tryd.prog 3 (.ptr s0.nx 0) (.int .i64 op) (nw s0 cs).h = true := same_1 ty3a ty3s (by (simp (disch := first | decide | assumption | omega | (simp only [nx_nw, nx_wr, nx_ap, nx_bare]; first | done | omega) | (simp (disch := first | assumption | omega | (simp only [nx_nw, nx_wr, nx_ap, nx_bare]; first | done | omega)) only [g6, rRu, List.length_cons, List.length_nil]; first | done | omega | decide)) only [g6, rRm, rRn, Nat.reduceAdd, Nat.reduceSub, Nat.reduceMul, Nat.zero_add, List.getD_cons_zero, List.getD_cons_succ] <;> first | done | omega | rfl)) (by (simp (disch := first | decide | assumption | omega | (simp only [nx_nw, nx_wr, nx_ap, nx_bare]; first | done | omega) | (simp (disch := first | assumption | omega | (simp only [nx_nw, nx_wr, nx_ap, nx_bare]; first | done | omega)) only [g6, rRu, List.length_cons, List.length_nil]; first | done | omega | decide)) only [g0, g6, rRm, rRn, Nat.reduceAdd, Nat.reduceSub, Nat.reduceMul, Nat.zero_add, List.getD_cons_zero, List.getD_cons_succ] <;> first | done | omega | rfl)) rfl
    refine kids51_ok hb op r1 r2 _ _ ?_
    have e3 : (kidsN op : Int) = (ks.length : Int) := by omega
    simp (disch := first | decide | assumption | omega | (simp only [nx_nw, nx_wr, nx_ap, nx_bare]; first | done | omega) | (simp (disch := first | assumption | omega | (simp only [nx_nw, nx_wr, nx_ap, nx_bare]; first | done | omega)) only [hlal, g6, rRu, List.length_cons, List.length_nil]; first | done | omega | decide)) only [g0, g1, g2, g3, eL, hs1, hs0, hlal, g6, rRm, rRn, Nat.reduceAdd, Nat.reduceSub, Nat.reduceMul, Nat.zero_add, List.getD_cons_zero, List.getD_cons_succ, rRd, rRe, rRf, Bool.not_true, Bool.not_false, List.cons_append, List.nil_append, List.append_nil]
    have C0 : Cl (nw s0 cs) s0.nx cs := Cl.new s0 cs
    have k0 : Kept s0 (nw s0 cs) := (Kept.refl s0).nw cs
    clear hs1 hs0
    generalize nw s0 cs = u at *
    generalize hxb : s0.nx = xb at *
    refine wC_loopH (fun mm L s => ∃ i : Nat, i ≤ ks.length ∧ mm = ks.length - i ∧ Kept s0 s ∧ Has L 1 (.ptr xb 0) ∧ Cl s xb cs ∧ Has L 13 k ∧ Has L 14 (.int .i64 (ks.length : Int)) ∧ Has L 15 (.int .i64 (i : Int))) ?_ ks.length ?_
    · rintro mm L s ⟨i, hi, rfl, hs, h1, C0, h13, h14, h15⟩
      unfold Hold
      by_cases hin : i < ks.length
      · have hk' := hkv.kept hs
        rcases hk' with ⟨rfl, rfl⟩ | ⟨b, o, cap, ex, rfl, hbl, hle, hks, _⟩
        · simp at hin
        have hx := hks.at hin
        have hxl := hx.len
        have hxa := hx.lall
        simp (disch := first | decide | assumption | omega | (simp only [nx_nw, nx_wr, nx_ap, nx_bare]; first | done | omega) | (simp (disch := first | assumption | omega | (simp only [nx_nw, nx_wr, nx_ap, nx_bare]; first | done | omega)) only [hxl, hxa, rRu, List.length_cons, List.length_nil]; first | done | omega | decide)) only [r_onh h1, r_onh h13, r_onh h14, r_onh h15, hxl, hxa, rRm, rRn, Nat.reduceAdd, Nat.reduceSub, Nat.reduceMul, Nat.zero_add, List.getD_cons_zero, List.getD_cons_succ, rRd, rRe, rRf, Bool.not_true, Bool.not_false, List.cons_append, List.nil_append, List.append_nil]
        have ks0 : Kept s (wr (nw s zE) s.nx 0 (rats s.h b (o + i * 6) 6)) := ((Kept.refl s).nw _).wr (Nat.le_refl _) _ _
        refine ih (by omega) _ (r5 _ (List.getElem_mem hin)) (wfs_mem hw.2 (List.getElem_mem hin)) _ _ _ (hx.kept ks0) fun s1 k1 => ?_
        have k01 := hs.trans (ks0.trans k1)
        simp (disch := first | decide | assumption | omega | (simp only [nx_nw, nx_wr, nx_ap, nx_bare]; first | done | omega) | (simp (disch := first | assumption | omega | (simp only [nx_nw, nx_wr, nx_ap, nx_bare]; first | done | omega)) only [rRu, List.length_cons, List.length_nil]; first | done | omega | decide)) only [r_onh h1, r_onh h13, r_onh h14, r_onh h15, v_addN, rRm, rRn, Nat.reduceAdd, Nat.reduceSub, Nat.reduceMul, Nat.zero_add, List.getD_cons_zero, List.getD_cons_succ, rRd, rRe, rRf, Bool.not_true, Bool.not_false, List.cons_append, List.nil_append, List.append_nil]
        refine ⟨ks.length - (i + 1), by omega, i + 1, by omega, rfl, k01, ?_⟩
        simp (disch := decide) only [z0, z1, h_here, h_skip, (C0.kept ks0).kept k1, h1, h13, h14, h15, true_and, and_true]
      · have em : i = ks.length := by omega
        simp (disch := first | decide | assumption | omega | (simp only [nx_nw, nx_wr, nx_ap, nx_bare]; first | done | omega) | (simp (disch := first | assumption | omega | (simp only [nx_nw, nx_wr, nx_ap, nx_bare]; first | done | omega)) only [rRu, List.length_cons, List.length_nil]; first | done | omega | decide)) only [r_onh h1, r_onh h13, r_onh h14, r_onh h15, rRm, rRn, Nat.reduceAdd, Nat.reduceSub, Nat.reduceMul, Nat.zero_add, List.getD_cons_zero, List.getD_cons_succ, rRd, rRe, rRf, Bool.not_true, Bool.not_false, List.cons_append, List.nil_append, List.append_nil]
        have lC := C0.len
        have R0 : rat s.h xb 0 = .int .i64 op := by rw [C0.cell 0 (by omega), g0]
        have R1 : rat s.h xb 1 = .int .i64 num := by rw [C0.cell 1 (by omega), g1]
        have R2 : rat s.h xb 2 = .str name := by rw [C0.cell 2 (by omega), g2]
        have hKs := hK _ (hE _ hs)
        obtain ⟨b1, b2, b3, b4, b5⟩ := leafB_s r4
        clear r4 hr
        by_cases q3 : op = 3
        · obtain ⟨rfl, hn⟩ := b3 q3
          subst q3
          simp (disch := first | decide | assumption | omega | (simp only [nx_nw, nx_wr, nx_ap, nx_bare]; first | done | omega) | (simp (disch := first | assumption | omega | (simp only [nx_nw, nx_wr, nx_ap, nx_bare]; first | done | omega)) only [lC, g6, rRu, List.length_cons, List.length_nil]; first | done | omega | decide)) only [r_onh h1, R0, R1, R2, lC, g6, rRm, rRn, Nat.reduceAdd, Nat.reduceSub, Nat.reduceMul, Nat.zero_add, List.getD_cons_zero, List.getD_cons_succ, rRd, rRe, rRf, Bool.not_true, Bool.not_false, List.cons_append, List.nil_append, List.append_nil]
          refine CB.of (refName_ok (hb.mem (by decide)) name hw.1.len hw.1.lt _ _ fun s2 e2 => ?_)
          have k2 : Kept s (back s s2) := Kept.ext e2
          have := hK _ (hE _ (hs.trans k2))
          rw [hn]
          simp (disch := first | decide | assumption | omega | (simp only [nx_nw, nx_wr, nx_ap, nx_bare]; first | done | omega) | (simp (disch := first | assumption | omega | (simp only [nx_nw, nx_wr, nx_ap, nx_bare]; first | done | omega)) only [rRu, List.length_cons, List.length_nil]; first | done | omega | decide)) only [rRm, rRn, Nat.reduceAdd, Nat.reduceSub, Nat.reduceMul, Nat.zero_add, List.getD_cons_zero, List.getD_cons_succ, rRd, rRe, rRf, Bool.not_true, Bool.not_false, List.cons_append, List.nil_append, List.append_nil]
          exact this
        · have hname := b4 q3
          subst hname
          by_cases q1 : op = 1
          · obtain ⟨a1, a2⟩ := b1 q1
            subst q1
            simp (disch := first | decide | assumption | omega | (simp only [nx_nw, nx_wr, nx_ap, nx_bare]; first | done | omega) | (simp (disch := first | assumption | omega | (simp only [nx_nw, nx_wr, nx_ap, nx_bare]; first | done | omega)) only [lC, g6, rRu, List.length_cons, List.length_nil]; first | done | omega | decide)) only [r_onh h1, R0, R1, R2, v_strneq, lC, g6, rRm, rRn, Nat.reduceAdd, Nat.reduceSub, Nat.reduceMul, Nat.zero_add, List.getD_cons_zero, List.getD_cons_succ, rRd, rRe, rRf, Bool.not_true, Bool.not_false, List.cons_append, List.nil_append, List.append_nil]
            exact hKs
          by_cases q2 : op = 2
          · by_cases z : num = 0
            · subst q2 z
              simp (disch := first | decide | assumption | omega | (simp only [nx_nw, nx_wr, nx_ap, nx_bare]; first | done | omega) | (simp (disch := first | assumption | omega | (simp only [nx_nw, nx_wr, nx_ap, nx_bare]; first | done | omega)) only [lC, g6, rRu, List.length_cons, List.length_nil]; first | done | omega | decide)) only [r_onh h1, R0, R1, R2, v_strneq, lC, g6, rRm, rRn, Nat.reduceAdd, Nat.reduceSub, Nat.reduceMul, Nat.zero_add, List.getD_cons_zero, List.getD_cons_succ, rRd, rRe, rRf, Bool.not_true, Bool.not_false, List.cons_append, List.nil_append, List.append_nil]
              exact hKs
            · have z1 : num = 1 := by have := b2 q2; omega
              subst q2 z1
              simp (disch := first | decide | assumption | omega | (simp only [nx_nw, nx_wr, nx_ap, nx_bare]; first | done | omega) | (simp (disch := first | assumption | omega | (simp only [nx_nw, nx_wr, nx_ap, nx_bare]; first | done | omega)) only [lC, g6, rRu, List.length_cons, List.length_nil]; first | done | omega | decide)) only [r_onh h1, R0, R1, R2, v_strneq, lC, g6, rRm, rRn, Nat.reduceAdd, Nat.reduceSub, Nat.reduceMul, Nat.zero_add, List.getD_cons_zero, List.getD_cons_succ, rRd, rRe, rRf, Bool.not_true, Bool.not_false, List.cons_append, List.nil_append, List.append_nil]
              exact hKs
          by_cases q4 : op = 4
          · subst q4
            simp (disch := first | decide | assumption | omega | (simp only [nx_nw, nx_wr, nx_ap, nx_bare]; first | done | omega) | (simp (disch := first | assumption | omega | (simp only [nx_nw, nx_wr, nx_ap, nx_bare]; first | done | omega)) only [lC, g6, rRu, List.length_cons, List.length_nil]; first | done | omega | decide)) only [r_onh h1, R0, R1, R2, v_strneq, lC, g6, rRm, rRn, Nat.reduceAdd, Nat.reduceSub, Nat.reduceMul, Nat.zero_add, List.getD_cons_zero, List.getD_cons_succ, rRd, rRe, rRf, Bool.not_true, Bool.not_false, List.cons_append, List.nil_append, List.append_nil]
            exact hKs
          have hz := b5 q1 q2 q3 q4
          subst hz
          simp (disch := first | decide | assumption | omega | (simp only [nx_nw, nx_wr, nx_ap, nx_bare]; first | done | omega) | (simp (disch := first | assumption | omega | (simp only [nx_nw, nx_wr, nx_ap, nx_bare]; first | done | omega)) only [lC, g6, rRu, List.length_cons, List.length_nil]; first | done | omega | decide)) only [r_onh h1, R0, R1, R2, v_strneq, lC, g6, rRm, rRn, Nat.reduceAdd, Nat.reduceSub, Nat.reduceMul, Nat.zero_add, List.getD_cons_zero, List.getD_cons_succ, rRd, rRe, rRf, Bool.not_true, Bool.not_false, List.cons_append, List.nil_append, List.append_nil]
          exact hKs
    · refine ⟨0, by omega, rfl, by first | exact k0 | trivial, ?_⟩
      simp (disch := decide) only [z0, z1, h_here, h_skip, C0, true_and, and_true]
end Go.Sy
end

section
set_option maxRecDepth 100000
namespace Go.Sy
open Go.Ev Go.Proofs
variable {base : CallF}
theorem right17_ok (hb : NB base) (x : Ex) (hr : rightB 60 x = true) (hw : x.wf) (cs : List AV) (st : St) (K : AV → St → Prop) (h : ExR st cs x) (hK : ∀ s1, Kept st s1 → K (.bool true) s1) : CB Tryd.prog base 17 [.agg cs] st K := by
  refine fn_ruleB l17 (hb.at _ (by decide) _ _) ?_
  simp only [c17, entry, List.map_cons, List.map_nil, List.getD_cons_zero, List.getD_cons_succ]
  unfold b17
  have h := h.bare
  have hE : ∀ s, Kept st.bare s → Kept st (bk st s) := fun s k => ⟨k.nx, rfl, k.keep⟩
  have hB : ∀ s c, But st.bare s c → But st (bk st s) c := fun s c k => ⟨k.nx, rfl, k.keep⟩
  have hS0 : bk st st.bare = st := rfl
  have hnx0 : st.bare.nx = st.nx := rfl
  have hfr0 : st.bare.fr = [] := rfl
  generalize st.bare = s0 at *
  have hlen := h.len
  have hlal := h.lall
  simp (disch := first | decide | assumption | omega | (simp only [nx_nw, nx_wr, nx_ap, nx_bare]; first | done | omega) | (simp (disch := first | assumption | omega | (simp only [nx_nw, nx_wr, nx_ap, nx_bare]; first | done | omega)) only [hlal, hlen, rRu, List.length_cons, List.length_nil]; first | done | omega | decide)) only [hlal, hlen, rRm, rRn, Nat.reduceAdd, Nat.reduceSub, Nat.reduceMul, Nat.zero_add, List.getD_cons_zero, List.getD_cons_succ, rRd, rRe, rRf, Bool.not_true, Bool.not_false, List.cons_append, List.nil_append, List.append_nil]
  have C0 : Cl (nw s0 cs) s0.nx cs := Cl.new s0 cs
  have k0 : Kept s0 (nw s0 cs) := (Kept.refl s0).nw cs
  have h1 := h.kept k0
  generalize nw s0 cs = u at *
  generalize hxb : s0.nx = xb at *
  have R0 := C0.rats0 hlen
  refine deep_ok hb 60 (by decide) x hr _ _ _ h1 fun n s1 hn k1 => ?_
  have C0 := C0.kept k1
  have R0 := C0.rats0 hlen
  have l0 := C0.len
  have hn' : (n : Int) ≤ 60 := by omega
  simp (disch := first | decide | assumption | omega | (simp only [nx_nw, nx_wr, nx_ap, nx_bare]; first | done | omega) | (simp (disch := first | assumption | omega | (simp only [nx_nw, nx_wr, nx_ap, nx_bare]; first | done | omega)) only [l0, hlen, rRu, List.length_cons, List.length_nil]; first | done | omega | decide)) only [R0, l0, hlen, rRm, rRn, Nat.reduceAdd, Nat.reduceSub, Nat.reduceMul, Nat.zero_add, List.getD_cons_zero, List.getD_cons_succ, rRd, rRe, rRf, Bool.not_true, Bool.not_false, List.cons_append, List.nil_append, List.append_nil]
  refine shape_ok hb 60 (by decide) x hr hw _ _ _ (h1.kept k1) fun s2 k2 => ?_
  simp (disch := first | decide | assumption | omega | (simp only [nx_nw, nx_wr, nx_ap, nx_bare]; first | done | omega) | (simp (disch := first | assumption | omega | (simp only [nx_nw, nx_wr, nx_ap, nx_bare]; first | done | omega)) only [rRu, List.length_cons, List.length_nil]; first | done | omega | decide)) only [rRm, rRn, Nat.reduceAdd, Nat.reduceSub, Nat.reduceMul, Nat.zero_add, List.getD_cons_zero, List.getD_cons_succ, rRd, rRe, rRf, Bool.not_true, Bool.not_false, List.cons_append, List.nil_append, List.append_nil]
  exact hK _ (hE _ ((k0.trans k1).trans k2))
theorem writable_ok (hb : NB base) (x : Ex) (hr : rightB 60 x = true) (hw : x.wf) (h4 : x.ev fun y => y.op ≠ 4) (cs : List AV) (st : St) (K : AV → St → Prop) (h : ExR st cs x) (hK : ∀ s1, Kept st s1 → K (.bool true) s1) : CB Tryd.prog base 8 [.agg cs] st K := by
  refine fn_ruleB l8 (hb.at _ (by decide) _ _) ?_
  simp only [c8, entry, List.map_cons, List.map_nil, List.getD_cons_zero, List.getD_cons_succ]
  unfold b8
  have h := h.bare
  have hE : ∀ s, Kept st.bare s → Kept st (bk st s) := fun s k => ⟨k.nx, rfl, k.keep⟩
  have hB : ∀ s c, But st.bare s c → But st (bk st s) c := fun s c k => ⟨k.nx, rfl, k.keep⟩
  have hS0 : bk st st.bare = st := rfl
  have hnx0 : st.bare.nx = st.nx := rfl
  have hfr0 : st.bare.fr = [] := rfl
  generalize st.bare = s0 at *
  have hlen := h.len
  have hlal := h.lall
  simp (disch := first | decide | assumption | omega | (simp only [nx_nw, nx_wr, nx_ap, nx_bare]; first | done | omega) | (simp (disch := first | assumption | omega | (simp only [nx_nw, nx_wr, nx_ap, nx_bare]; first | done | omega)) only [hlal, hlen, rRu, List.length_cons, List.length_nil]; first | done | omega | decide)) only [hlal, hlen, rRm, rRn, Nat.reduceAdd, Nat.reduceSub, Nat.reduceMul, Nat.zero_add, List.getD_cons_zero, List.getD_cons_succ, rRd, rRe, rRf, Bool.not_true, Bool.not_false, List.cons_append, List.nil_append, List.append_nil]
  have C0 : Cl (nw s0 cs) s0.nx cs := Cl.new s0 cs
  have k0 : Kept s0 (nw s0 cs) := (Kept.refl s0).nw cs
  have h1 := h.kept k0
  generalize nw s0 cs = u at *
  generalize hxb : s0.nx = xb at *
  have R0 := C0.rats0 hlen
  refine right17_ok hb x hr hw _ _ _ h1 fun s1 k1 => ?_
  have C0 := C0.kept k1
  have R0 := C0.rats0 hlen
  have l0 := C0.len
  simp (disch := first | decide | assumption | omega | (simp only [nx_nw, nx_wr, nx_ap, nx_bare]; first | done | omega) | (simp (disch := first | assumption | omega | (simp only [nx_nw, nx_wr, nx_ap, nx_bare]; first | done | omega)) only [l0, hlen, rRu, List.length_cons, List.length_nil]; first | done | omega | decide)) only [R0, l0, hlen, rRm, rRn, Nat.reduceAdd, Nat.reduceSub, Nat.reduceMul, Nat.zero_add, List.getD_cons_zero, List.getD_cons_succ, rRd, rRe, rRf, Bool.not_true, Bool.not_false, List.cons_append, List.nil_append, List.append_nil]
  refine has_ok hb 60 (by decide) x hr h4 _ _ _ (h1.kept k1) fun s2 k2 => ?_
  simp (disch := first | decide | assumption | omega | (simp only [nx_nw, nx_wr, nx_ap, nx_bare]; first | done | omega) | (simp (disch := first | assumption | omega | (simp only [nx_nw, nx_wr, nx_ap, nx_bare]; first | done | omega)) only [rRu, List.length_cons, List.length_nil]; first | done | omega | decide)) only [rRm, rRn, Nat.reduceAdd, Nat.reduceSub, Nat.reduceMul, Nat.zero_add, List.getD_cons_zero, List.getD_cons_succ, rRd, rRe, rRf, Bool.not_true, Bool.not_false, List.cons_append, List.nil_append, List.append_nil]
  exact hK _ (hE _ ((k0.trans k1).trans k2))
end Go.Sy
end

section
set_option maxRecDepth 100000
namespace Go.Sy
open Go.Ev Go.Proofs
variable {base : CallF}
theorem count_step {l : List Nat} {i : Nat} (h : i < l.length) : (l.take (i + 1)).count 10 = (l.take i).count 10 + (if l.getD i 0 = 10 then 1 else 0) := by
  rw [List.take_succ_eq_append_getElem h, List.count_append]
  have e : l.getD i 0 = l[i] := by rw [List.getD_eq_getElem?_getD, List.getElem?_eq_getElem h]; rfl
  rw [e]
  by_cases q : l[i] = 10
  · rw [q]; rfl
  · rw [if_neg q, List.count_cons_of_ne q]; rfl
theorem faults_ok (hb : NB base) (h5 : ∀ st, base 5 [] st = .ok (.bool true) st) (hP : PI base) {l : List Nat} (hl : l.length ≤ 9223372036854775807) (h256 : ∀ x ∈ l, x < 256) (st : St) : CB Tryd.prog base 3 [.str l] st fun v s1 => v = .bool true := by
  refine fn_ruleB l3 (hb.at _ (by decide) _ _) ?_
  simp only [c3, entry, List.map_cons, List.map_nil, List.getD_cons_zero, List.getD_cons_succ]
  unfold b3
  have hE : ∀ s, Kept st.bare s → Kept st (bk st s) := fun s k => ⟨k.nx, rfl, k.keep⟩
  have hB : ∀ s c, But st.bare s c → But st (bk st s) c := fun s c k => ⟨k.nx, rfl, k.keep⟩
  have hS0 : bk st st.bare = st := rfl
  have hnx0 : st.bare.nx = st.nx := rfl
  have hfr0 : st.bare.fr = [] := rfl
  generalize st.bare = s0 at *
  simp (disch := first | decide | assumption | omega | (simp only [nx_nw, nx_wr, nx_ap, nx_bare]; first | done | omega) | (simp (disch := first | assumption | omega | (simp only [nx_nw, nx_wr, nx_ap, nx_bare]; first | done | omega)) only [rRu, List.length_cons, List.length_nil]; first | done | omega | decide)) only [rRm, rRn, Nat.reduceAdd, Nat.reduceSub, Nat.reduceMul, Nat.zero_add, List.getD_cons_zero, List.getD_cons_succ, rRd, rRe, rRf, Bool.not_true, Bool.not_false, List.cons_append, List.nil_append, List.append_nil]
  refine CB.of (base_rule (h5 _) ?_)
  by_cases h1 : 2000 < l.length
  · have h1' : (2000 : Int) < (l.length : Int) := by omega
    simp (disch := first | decide | assumption | omega | (simp only [nx_nw, nx_wr, nx_ap, nx_bare]; first | done | omega) | (simp (disch := first | assumption | omega | (simp only [nx_nw, nx_wr, nx_ap, nx_bare]; first | done | omega)) only [rRu, List.length_cons, List.length_nil]; first | done | omega | decide)) only [rRm, rRn, Nat.reduceAdd, Nat.reduceSub, Nat.reduceMul, Nat.zero_add, List.getD_cons_zero, List.getD_cons_succ, rRd, rRe, rRf, Bool.not_true, Bool.not_false, List.cons_append, List.nil_append, List.append_nil]
  have h1' : ¬ (2000 : Int) < (l.length : Int) := by omega
  simp (disch := first | decide | assumption | omega | (simp only [nx_nw, nx_wr, nx_ap, nx_bare]; first | done | omega) | (simp (disch := first | assumption | omega | (simp only [nx_nw, nx_wr, nx_ap, nx_bare]; first | done | omega)) only [rRu, List.length_cons, List.length_nil]; first | done | omega | decide)) only [rRm, rRn, Nat.reduceAdd, Nat.reduceSub, Nat.reduceMul, Nat.zero_add, List.getD_cons_zero, List.getD_cons_succ, rRd, rRe, rRf, Bool.not_true, Bool.not_false, List.cons_append, List.nil_append, List.append_nil]
  obtain ⟨o, ho⟩ := exprW (by omega) h256
  refine Expr_ok hb hP (by omega) h256 (fun hf => ⟨(cutT_words (by omega) h256 hf).1, (cutT_words (by omega) h256 hf).2.1⟩) ho.isO _ _ fun s1 cs k1 hx => ?_
  obtain ⟨ox, f⟩ := o
  have lx : cs.length = 6 := by
    cases ox with
    | none => rw [show cs = zE from hx]; rfl
    | some x => exact hx.1.len
  have qx : lall AV.cell cs = true := by
    cases ox with
    | none => rw [show cs = zE from hx]; rfl
    | some x => exact hx.1.lall
  simp (disch := first | decide | assumption | omega | (simp only [nx_nw, nx_wr, nx_ap, nx_bare]; first | done | omega) | (simp (disch := first | assumption | omega | (simp only [nx_nw, nx_wr, nx_ap, nx_bare]; first | done | omega)) only [lx, qx, fl_len, cell_fl, rRu, List.length_cons, List.length_nil]; first | done | omega | decide)) only [lx, qx, fl_len, cell_fl, rRm, rRn, Nat.reduceAdd, Nat.reduceSub, Nat.reduceMul, Nat.zero_add, List.getD_cons_zero, List.getD_cons_succ, rRd, rRe, rRf, Bool.not_true, Bool.not_false, List.cons_append, List.nil_append, List.append_nil]
  refine wC_gen fun u hu => ?_
  have k2 : Kept s1 u := by (first | rw [hu] | skip); repeat' (first | exact Kept.refl _ | assumption | refine Kept.nw ?_ _ | (refine Kept.wrS ?_ ?_; (first | omega | (simp only [nx_nw, nx_wr, nx_ap, nx_bare]; omega))) | (refine Kept.apS ?_ ?_; (first | omega | (simp only [nx_nw, nx_wr, nx_ap, nx_bare]; omega))))
  have C0 : Cl u s1.nx cs := by ((first | rw [hu] | skip); refine Cl.of_rats (k := 6) ?_ ?_ ?_ (by decide) ?_ <;> first | (simp (disch := first | decide | assumption | omega | (simp only [nx_nw, nx_wr, nx_ap, nx_bare]; first | done | omega) | (simp (disch := first | assumption | omega | (simp only [nx_nw, nx_wr, nx_ap, nx_bare]; first | done | omega)) only [lx, fl_len, cell_fl, rRu, List.length_cons, List.length_nil]; first | done | omega | decide)) only [lx, fl_len, cell_fl, rRm, rRn, Nat.reduceAdd, Nat.reduceSub, Nat.reduceMul, Nat.zero_add, List.getD_cons_zero, List.getD_cons_succ] <;> first | done | omega | rfl) | rfl)
  have C1 : Cl u (s1.nx + 1) (fcells f) := by ((first | rw [hu] | skip); refine Cl.of_rats (k := 3) ?_ ?_ ?_ (by decide) ?_ <;> first | (simp (disch := first | decide | assumption | omega | (simp only [nx_nw, nx_wr, nx_ap, nx_bare]; first | done | omega) | (simp (disch := first | assumption | omega | (simp only [nx_nw, nx_wr, nx_ap, nx_bare]; first | done | omega)) only [lx, fl_len, cell_fl, rRu, List.length_cons, List.length_nil]; first | done | omega | decide)) only [lx, fl_len, cell_fl, rRm, rRn, Nat.reduceAdd, Nat.reduceSub, Nat.reduceMul, Nat.zero_add, List.getD_cons_zero, List.getD_cons_succ] <;> first | done | omega | rfl) | rfl)
  clear hu
  generalize hxb : s1.nx = xb at *
  refine wC_loopH (fun mm L s => ∃ i : Nat, i ≤ l.length ∧ mm = l.length - i ∧ s = u ∧ ∃ m : Nat, m = 1 + (l.take i).count 10 ∧ Has L 0 (.str l) ∧ Has L 3 (.ptr xb 0) ∧ Has L 4 (.ptr (xb + 1) 0) ∧ Has L 5 (.int .i64 (m : Int)) ∧ Has L 6 (.int .i64 (i : Int))) ?_ l.length ?_
  · rintro mm L s ⟨i, hi, rfl, rfl, m, hm, i0, i3, i4, i5, i6⟩
    unfold Hold
    by_cases hin : i < l.length
    · have hc : (l.take i).count 10 ≤ i := by have := List.count_le_length (a := 10) (l := l.take i); rw [List.length_take] at this; omega
      have e := count_step hin
      by_cases q : l.getD i 0 = 10
      · rw [if_pos q] at e
        simp (disch := first | decide | assumption | omega | (simp only [nx_nw, nx_wr, nx_ap, nx_bare]; first | done | omega) | (simp (disch := first | assumption | omega | (simp only [nx_nw, nx_wr, nx_ap, nx_bare]; first | done | omega)) only [rRu, List.length_cons, List.length_nil]; first | done | omega | decide)) only [r_onh i0, r_onh i3, r_onh i4, r_onh i5, r_onh i6, v_addN, q, rRm, rRn, Nat.reduceAdd, Nat.reduceSub, Nat.reduceMul, Nat.zero_add, List.getD_cons_zero, List.getD_cons_succ, rRd, rRe, rRf, Bool.not_true, Bool.not_false, List.cons_append, List.nil_append, List.append_nil]
        refine ⟨l.length - (i + 1), by omega, i + 1, by omega, rfl, m + 1, by omega, ?_⟩
        simp (disch := decide) only [z0, z1, h_here, h_skip, i0, i3, i4, i5, i6, true_and, and_true]
      · rw [if_neg q] at e
        simp (disch := first | decide | assumption | omega | (simp only [nx_nw, nx_wr, nx_ap, nx_bare]; first | done | omega) | (simp (disch := first | assumption | omega | (simp only [nx_nw, nx_wr, nx_ap, nx_bare]; first | done | omega)) only [rRu, List.length_cons, List.length_nil]; first | done | omega | decide)) only [r_onh i0, r_onh i3, r_onh i4, r_onh i5, r_onh i6, v_addN, rRm, rRn, Nat.reduceAdd, Nat.reduceSub, Nat.reduceMul, Nat.zero_add, List.getD_cons_zero, List.getD_cons_succ, rRd, rRe, rRf, Bool.not_true, Bool.not_false, List.cons_append, List.nil_append, List.append_nil]
        refine ⟨l.length - (i + 1), by omega, i + 1, by omega, rfl, m, by omega, ?_⟩
        simp (disch := decide) only [z0, z1, h_here, h_skip, i0, i3, i4, i5, i6, true_and, and_true]
    · have em : i = l.length := by omega
      subst em
      rw [List.take_length] at hm
      have l0 : rlen s.h xb = 6 := by rw [C0.len, lx]
      have l1 : rlen s.h (xb + 1) = 3 := C1.len
      have R0 := C0.rats0 lx
      have R1 := C1.rats0 (fl_len f)
      cases ox with
      | none =>
        obtain ⟨q0, q1, q2, q3, q4⟩ := ho.bad rfl
        have hcz : cs = zE := hx
        subst hcz
        obtain ⟨fc, fl, fk⟩ := f
        have hne : decide ((fc, fl, fk) ≠ (0, 0, 0)) = true := by
          have : (fc, fl, fk) ≠ (0, 0, 0) := fun h => q0 (by rw [h])
          exact decide_eq_true this
        have q1 : 1 ≤ fl := q1
        have q2 : fl ≤ 1 + l.count 10 := q2
        have q3 : 1 ≤ fk := q3
        have q4 : fk ≤ l.length + 1 := q4
        have c0 : rat s.h xb 0 = .int .i64 0 := C0.cell 0 (by decide)
        have c1 : rat s.h (xb + 1) 1 = .int .i64 (fl : Int) := C1.cell 1 (by show (1 : Nat) < 3; decide)
        have c2 : rat s.h (xb + 1) 2 = .int .i64 (fk : Int) := C1.cell 2 (by show (2 : Nat) < 3; decide)
        have j1 : (1 : Int) ≤ (fl : Int) := by omega
        have j2 : (fl : Int) ≤ (m : Int) := by omega
        have j3 : (1 : Int) ≤ (fk : Int) := by omega
        have j4 : (fk : Int) ≤ ((l.length + 1 : Nat) : Int) := by omega
        simp (disch := first | decide | assumption | omega | (simp only [nx_nw, nx_wr, nx_ap, nx_bare]; first | done | omega) | (simp (disch := first | assumption | omega | (simp only [nx_nw, nx_wr, nx_ap, nx_bare]; first | done | omega)) only [l0, l1, rRu, List.length_cons, List.length_nil]; first | done | omega | decide)) only [r_onh i0, r_onh i3, r_onh i4, r_onh i5, r_onh i6, R1, neqFl, hne, c0, c1, c2, v_addN, l0, l1, rRm, rRn, Nat.reduceAdd, Nat.reduceSub, Nat.reduceMul, Nat.zero_add, List.getD_cons_zero, List.getD_cons_succ, rRd, rRe, rRf, Bool.not_true, Bool.not_false, List.cons_append, List.nil_append, List.append_nil]
      | some x =>
        obtain ⟨hf, hr, hev⟩ := ho.ok x rfl
        obtain rfl : f = (0, 0, 0) := hf
        obtain ⟨hX, hw⟩ := hx
        have hX : ExR s cs x := (hX.kept k2).any
        have hne : decide (((0, 0, 0) : Nat × Nat × Nat) ≠ (0, 0, 0)) = false := by decide
        have hp : x.ev (atP m l.length) := Ex.ev_mono (fun y hy => by
          obtain ⟨_, a, b, e1, e2, a1, a2, b1, b2⟩ := hy
          exact ⟨a, b, e1, e2, a1, by omega, b1, b2⟩) x hev
        have h4 : x.ev fun y => y.op ≠ 4 := Ex.ev_mono (fun y hy => hy.1) x hev
        simp (disch := first | decide | assumption | omega | (simp only [nx_nw, nx_wr, nx_ap, nx_bare]; first | done | omega) | (simp (disch := first | assumption | omega | (simp only [nx_nw, nx_wr, nx_ap, nx_bare]; first | done | omega)) only [l0, l1, rRu, List.length_cons, List.length_nil]; first | done | omega | decide)) only [r_onh i0, r_onh i3, r_onh i4, r_onh i5, r_onh i6, R0, R1, neqFl, hne, l0, l1, rRm, rRn, Nat.reduceAdd, Nat.reduceSub, Nat.reduceMul, Nat.zero_add, List.getD_cons_zero, List.getD_cons_succ, rRd, rRe, rRf, Bool.not_true, Bool.not_false, List.cons_append, List.nil_append, List.append_nil]
        refine placed_ok hb 60 (by decide) x hr hp _ _ _ hX fun s2 k3 => ?_
        have C0 := C0.kept k3
        have l0 : rlen s2.h xb = 6 := by rw [C0.len, lx]
        have R0 := C0.rats0 lx
        simp (disch := first | decide | assumption | omega | (simp only [nx_nw, nx_wr, nx_ap, nx_bare]; first | done | omega) | (simp (disch := first | assumption | omega | (simp only [nx_nw, nx_wr, nx_ap, nx_bare]; first | done | omega)) only [l0, rRu, List.length_cons, List.length_nil]; first | done | omega | decide)) only [r_onh i0, r_onh i3, r_onh i4, r_onh i5, r_onh i6, R0, l0, rRm, rRn, Nat.reduceAdd, Nat.reduceSub, Nat.reduceMul, Nat.zero_add, List.getD_cons_zero, List.getD_cons_succ, rRd, rRe, rRf, Bool.not_true, Bool.not_false, List.cons_append, List.nil_append, List.append_nil]
        refine writable_ok hb x hr hw h4 _ _ _ (hX.kept k3) fun s3 k4 => ?_
        simp (disch := first | decide | assumption | omega | (simp only [nx_nw, nx_wr, nx_ap, nx_bare]; first | done | omega) | (simp (disch := first | assumption | omega | (simp only [nx_nw, nx_wr, nx_ap, nx_bare]; first | done | omega)) only [rRu, List.length_cons, List.length_nil]; first | done | omega | decide)) only [rRm, rRn, Nat.reduceAdd, Nat.reduceSub, Nat.reduceMul, Nat.zero_add, List.getD_cons_zero, List.getD_cons_succ, rRd, rRe, rRf, Bool.not_true, Bool.not_false, List.cons_append, List.nil_append, List.append_nil]
  · refine ⟨0, by omega, rfl, rfl, 1, rfl, ?_⟩
    simp (disch := decide) only [z0, z1, h_here, h_skip, true_and, and_true]
end Go.Sy
end

section
set_option maxRecDepth 100000
namespace Go.Sy
open Go.Ev Go.Proofs
theorem baseW_NB : NB baseW := ⟨fun f args st h => baseW_no f args st (by rintro rfl; simp [notB] at h) (by rintro rfl; simp [notB] at h)⟩
theorem bytes_lt (s : ByteArray) : ∀ c ∈ s.data.toList.map UInt8.toNat, c < 256 := by
  intro c hc
  obtain ⟨b, _, rfl⟩ := List.mem_map.1 hc
  exact b.toNat_lt
/-- what a call of the law does, at every string of a size that a string can have, where the library's error lies -/
theorem faults_calls (s : ByteArray) (hl : s.size ≤ 9223372036854775807) (w : World) (hg : ∃ te pe, w.cell? ⟨1, 0, none⟩ = some (.iface te pe)) :
    Calls Tryd.prog 3 #[.string s] w fun e w' => e = .returned (.bool true) ∧ w'.os = w.os ∧ w'.tape = w.tape ∧ w'.output = w.output ∧ w.heap.size ≤ w'.heap.size ∧ ∀ k, k < w.heap.size → w'.heap[k]? = w.heap[k]? := by
  have hs : Sim (fun _ => .unborn) st0.h st0.nx w :=
    ⟨fun b B S e => (by cases e), fun b e => (by cases e), fun b b' B S S' e => (by cases e), fun b e => absurd rfl e, ⟨hg, fun b S e => by cases e⟩⟩
  have hll : (s.data.toList.map UInt8.toNat).length ≤ 9223372036854775807 := by
    rw [List.length_map, Array.length_toList]; exact hl
  have h := CW.calls tryd_okP (draw_ok tryd_mixed) baseW_ok (K := fun v _ => v = .bool true)
    (faults_ok (base := baseW) baseW_NB baseW_9 baseW_PI hll (bytes_lt s) st0) (ι := fun _ => .unborn) (w := w) (vs := #[.string s]) hs
    (by simp only [VRs]; exact ⟨_, _, rfl, by simp only [VR]; exact ⟨s, rfl, rfl⟩, rfl⟩)
  refine Calls.mono h fun e w' ⟨v, x, st', he, hK, ι', _, hv, _, hg, _⟩ => ?_
  rw [hK] at hv
  simp only [VR] at hv
  rw [hv] at he
  exact ⟨he, hg.os, hg.tape, hg.output, hg.size, fun k hk => hg.keep k hk (fun b S e => by cases e)⟩
end Go.Sy
end
