/-
  Contracts: the code lowered, what it does told by rules, and the contracts of the functions that the law reaches.
-/
import Derived.Test.YtfdncjlamfhppaaSyE
set_option linter.unusedVariables false
set_option linter.unusedSimpArgs false
section
set_option maxRecDepth 100000
namespace Go.Sy
open Go.Ev Go.Proofs
variable {base : CallF}
/-- some cells behind a block that is full -/
theorem o_appM {st : Ev.St} {K : AV → Ev.St → Prop} {b sl bytes n bx ox xc : Nat} {xx : Bool} (hb : sl = rlen st.h b) (hpos : 0 < sl) (hn : 0 < n) (hby : (sl + n) * bytes ≤ 140737488355328) (h63 : sl + n ≤ 9223372036854775807) (hx : ox + n ≤ rlen st.h bx)
    (hk : ∀ st', Grown st st' b (sl + n) (fun i => if i < sl then rat st.h b i else rat st.h bx (ox + (i - sl))) → K (.slice st.nx 0 (sl + n) (sl + n) 1 false) st') : onER (appV 1 bytes (.slice b 0 sl sl 1 false) (.slice bx ox n xc 1 xx) st) K := by
  obtain ⟨m, zl, z, cs, hg⟩ := isRow_pos (h := st.h) (b := bx) (by omega)
  obtain ⟨n', zl', z', cs', hg'⟩ := isRow_pos (h := st.h) (b := b) (by omega)
  rw [rlen_get hg] at hx
  rw [rlen_get hg'] at hb
  subst hb
  have e0 : Nat.mul n 1 = n := Nat.mul_one _
  have e1 : Nat.ble (Nat.add ox n) m = true := ble_t hx
  have e3 : Nat.beq (llen (rowCells zl z cs n ox)) n = true := beq_t (by rw [llen_eq, rowCells_eq]; simp)
  have e4 : Nat.ble (Nat.add sl n) sl = false := ble_f (by show sl < sl + n; omega)
  have e5 : Nat.ble (Nat.mul (Nat.add sl n) bytes) 140737488355328 = true := ble_t hby
  have e6 : Nat.ble (Nat.add sl n) 9223372036854775807 = true := ble_t h63
  have e7 : Nat.beq 1 1 = true := rfl
  have e8 : Nat.beq 0 0 = true := rfl
  have e9 : Nat.beq (Nat.mul sl 1) sl = true := beq_t (Nat.mul_one _)
  have e10 : Nat.mul (Nat.add sl n) 1 = sl + n := Nat.mul_one _
  simp only [appV, onLen, firstCells, hg, onRow, force_eq, e0, e1, cond_true, appendWith, e3, hg', e4, cond_false, e5, e6, e7, e8, e9, e10, St.put_eq, St.alloc_eq, onER]
  refine hk _ ⟨rfl, rfl, fun c h1 h2 => ?_, ?_, ?_, fun i hi => ?_⟩
  · show hget ((setF (bitsR st.nx)).run _ ((setF (bitsR b)).run _ st.h)) c = _
    rw [hget_set, if_neg h1, hget_set, if_neg h2]
  · exact ⟨_, _, _, _, by rw [hget_set, if_pos rfl]⟩
  · rw [rlen_row, if_pos rfl]
  · rw [rat_row, if_pos rfl, rat_get hg', rat_get hg, rowCell_setCells]
    have hl : (rowCells zl z cs n ox).length = n := by rw [rowCells_eq]; simp
    have e11 : Nat.mul sl 1 = sl := Nat.mul_one _
    rw [hl]
    by_cases h : i < sl
    · rw [if_pos h, if_neg (by omega)]
    · rw [if_neg h, if_pos (by omega), rowCells_eq, List.getD_eq_getElem?_getD, List.getElem?_map, List.getElem?_range (by omega)]
      rfl

/-- some bools in a slice that is full -/
structure Bl (st : Ev.St) (b n : Nat) (f : Nat → Bool) : Prop where
  lt : b < st.nx
  len : rlen st.h b = n
  cell : ∀ i, i < n → rat st.h b i = .bool (f i)
theorem Bl.kept {s s' : Ev.St} {b n : Nat} {f : Nat → Bool} (h : Bl s b n f) (k : Kept s s') : Bl s' b n f :=
  ⟨Nat.lt_of_lt_of_le h.lt k.nx, (rlen_same (k.keep b h.lt)).trans h.len, fun i hi => (rat_same (k.keep b h.lt) i).trans (h.cell i hi)⟩

theorem Bits_ok (hb : ∀ f args st, f = 24 ∨ f = 32 → base f args st = .no) {n : Int} {w : Nat} (hw1 : 1 ≤ w) (hw : w ≤ 32) (st : Ev.St) (K : AV → Ev.St → Prop)
    (hK : ∀ bo st', Ext st st' → st.nx ≤ bo → Bl st' bo w (bitN n w) → K (.slice bo 0 w w 1 false) st') : CW Try.prog base 24 [.int .i64 n, .int .i64 (w : Int)] st K := by
  refine fn_rule l24 (hb _ _ _ (by decide)) ?_
  simp only [c24, entry, List.map_cons, List.map_nil, List.getD_cons_zero, List.getD_cons_succ]
  unfold b24
  simp (disch := first | assumption | decide | omega) only [qz00, qz01, qz02, qz03, qz04, qz05, qz06, qz07, qz08, qz09, qz0a, qz0b, qz0c, qz0d, qz0e, qz0f, qz0g, qz0h, qz0i, qz0j, qz0k, qz0l, qz0m, qz0n, qz0o, qz0p, qz0q, qz0r, qz0s, qz0t, qz0u, qz0v, qz0w, qz0x, qz0y, qz0z, qz10, qz11, qz12, qz13, qz14, qz15, qz16, qz17, qz18, qz19, qz1a, qz1b, qz1c, qz1d, qz1e, qz1f, qz1g, qz1h, qz1i, qz1j, qz1k, qz1l, qz1m, qz1n, qz1o, qz1p, qz1q, qz1r, qz1s, qz1t, qz1u, qz1v, qz1w, qz1x, qz1y, qz1z, qz20, qz21, qz22, qz23, qz24, qz25, qz26, qz27, qz28, qz29, qz2a, qz2b, qz2c, qz2d, qz2e, qz2f, qz2g, qz2h, qz2i, qz2j, qz2k, qz2l, qz2m, qz2n, qz2o, qz2p, qz2q, qz2r, qz2s, qz2t, qz2u, qz2v, qz2w, qz2x, qz2y, qz2z, qz30, qz31, qz32, qz33, qz34, qz35, qz36, qz37, qz38, qz39, qz3a, qz3b, qz3c, qz3d, Bool.not_true, Bool.not_false, List.cons_append, List.nil_append, List.append_nil]
  refine o_buildS0 fun s1 h1 => ?_
  have k1 : Kept st.bare s1 := (Kept.refl _).made h1
  have n1 : s1.nx = st.nx + 1 := h1.nx
  have s1fr : s1.fr = [] := h1.fr
  have pw := pow_le32 hw
  have hp : 0 < 2 ^ w := Nat.pos_of_ne_zero (by simp)
  obtain ⟨t1, t2, t3⟩ := tmod_bd n hp
  obtain ⟨M1, M2⟩ := cutM_int n w
  rw [M1] at t3
  have eR : ∀ (s : Ev.St) (K : AV → Ev.St → Prop), onER (binV .rem (.int .i64 n) (.int .i64 ((2 ^ w : Nat) : Int)) s) K = K (.int .i64 (n.tmod ((2 ^ w : Nat) : Int))) s := fun s K => v_remI hp s K
  simp (disch := first | assumption | decide | omega) only [qz00, qz01, qz02, qz03, qz04, qz05, qz06, qz07, qz08, qz09, qz0a, qz0b, qz0c, qz0d, qz0e, qz0f, qz0g, qz0h, qz0i, qz0j, qz0k, qz0l, qz0m, qz0n, qz0o, qz0p, qz0q, qz0r, qz0s, qz0t, qz0u, qz0v, qz0w, qz0x, qz0y, qz0z, qz10, qz11, qz12, qz13, qz14, qz15, qz16, qz17, qz18, qz19, qz1a, qz1b, qz1c, qz1d, qz1e, qz1f, qz1g, qz1h, qz1i, qz1j, qz1k, qz1l, qz1m, qz1n, qz1o, qz1p, qz1q, qz1r, qz1s, qz1t, qz1u, qz1v, qz1w, qz1x, qz1y, qz1z, qz20, qz21, qz22, qz23, qz24, qz25, qz26, qz27, qz28, qz29, qz2a, qz2b, qz2c, qz2d, qz2e, qz2f, qz2g, qz2h, qz2i, qz2j, qz2k, qz2l, qz2m, qz2n, qz2o, qz2p, qz2q, qz2r, qz2s, qz2t, qz2u, qz2v, qz2w, qz2x, qz2y, qz2z, qz30, qz31, qz32, qz33, qz34, qz35, qz36, qz37, qz38, qz39, qz3a, qz3b, qz3c, qz3d, Bool.not_true, Bool.not_false, List.cons_append, List.nil_append, List.append_nil]
  refine power_ok (fun a s => hb _ a s (by decide)) w hw s1 _ ?_
  generalize hM : cutM n w = M at *
  have M3 : M < 4294967296 := by omega
  by_cases hneg : n.tmod ((2 ^ w : Nat) : Int) < 0
  · rw [if_pos hneg] at t3
    have eA : ∀ (s : Ev.St) (K : AV → Ev.St → Prop), onER (binV .add (.int .i64 (n.tmod ((2 ^ w : Nat) : Int))) (.int .i64 ((2 ^ w : Nat) : Int)) s) K = K (.int .i64 (M : Int)) s := fun s K => by
      rw [v_add (by omega) (by omega), t3]
    simp (disch := first | assumption | decide | omega) only [eR, qz00, qz01, qz02, qz03, qz04, qz05, qz06, qz07, qz08, qz09, qz0a, qz0b, qz0c, qz0d, qz0e, qz0f, qz0g, qz0h, qz0i, qz0j, qz0k, qz0l, qz0m, qz0n, qz0o, qz0p, qz0q, qz0r, qz0s, qz0t, qz0u, qz0v, qz0w, qz0x, qz0y, qz0z, qz10, qz11, qz12, qz13, qz14, qz15, qz16, qz17, qz18, qz19, qz1a, qz1b, qz1c, qz1d, qz1e, qz1f, qz1g, qz1h, qz1i, qz1j, qz1k, qz1l, qz1m, qz1n, qz1o, qz1p, qz1q, qz1r, qz1s, qz1t, qz1u, qz1v, qz1w, qz1x, qz1y, qz1z, qz20, qz21, qz22, qz23, qz24, qz25, qz26, qz27, qz28, qz29, qz2a, qz2b, qz2c, qz2d, qz2e, qz2f, qz2g, qz2h, qz2i, qz2j, qz2k, qz2l, qz2m, qz2n, qz2o, qz2p, qz2q, qz2r, qz2s, qz2t, qz2u, qz2v, qz2w, qz2x, qz2y, qz2z, qz30, qz31, qz32, qz33, qz34, qz35, qz36, qz37, qz38, qz39, qz3a, qz3b, qz3c, qz3d, Bool.not_true, Bool.not_false, List.cons_append, List.nil_append, List.append_nil]
    refine power_ok (fun a s => hb _ a s (by decide)) w hw s1 _ ?_
    simp (disch := first | assumption | decide | omega) only [eA, qz00, qz01, qz02, qz03, qz04, qz05, qz06, qz07, qz08, qz09, qz0a, qz0b, qz0c, qz0d, qz0e, qz0f, qz0g, qz0h, qz0i, qz0j, qz0k, qz0l, qz0m, qz0n, qz0o, qz0p, qz0q, qz0r, qz0s, qz0t, qz0u, qz0v, qz0w, qz0x, qz0y, qz0z, qz10, qz11, qz12, qz13, qz14, qz15, qz16, qz17, qz18, qz19, qz1a, qz1b, qz1c, qz1d, qz1e, qz1f, qz1g, qz1h, qz1i, qz1j, qz1k, qz1l, qz1m, qz1n, qz1o, qz1p, qz1q, qz1r, qz1s, qz1t, qz1u, qz1v, qz1w, qz1x, qz1y, qz1z, qz20, qz21, qz22, qz23, qz24, qz25, qz26, qz27, qz28, qz29, qz2a, qz2b, qz2c, qz2d, qz2e, qz2f, qz2g, qz2h, qz2i, qz2j, qz2k, qz2l, qz2m, qz2n, qz2o, qz2p, qz2q, qz2r, qz2s, qz2t, qz2u, qz2v, qz2w, qz2x, qz2y, qz2z, qz30, qz31, qz32, qz33, qz34, qz35, qz36, qz37, qz38, qz39, qz3a, qz3b, qz3c, qz3d, Bool.not_true, Bool.not_false, List.cons_append, List.nil_append, List.append_nil]
    refine wC_loopH (fun mm L s => ∃ k bk : Nat, k ≤ w ∧ mm = w - k ∧ Kept s1 s ∧ ((k = 0 ∧ s = s1 ∧ Has L 5 (.slice st.bare.nx 0 0 0 1 true)) ∨ (0 < k ∧ s1.nx ≤ bk ∧ Bl s bk k (fun i => M / 2 ^ i % 2 == 1) ∧ Has L 5 (.slice bk 0 k k 1 false))) ∧ Has L 1 (.int .i64 (w : Int)) ∧ Has L 6 (.int .i64 ((M / 2 ^ k : Nat) : Int)) ∧ Has L 7 (.int .i64 (k : Int))) ?_ w ?_
    · rintro mm L s ⟨k, bk, hk, rfl, ks, h5, i1, i6, i7⟩
      unfold Hold
      have sfr : s.fr = [] := ks.fr.trans s1fr
      by_cases hkw : k < w
      · have d1 : M / 2 ^ k ≤ M := Nat.div_le_self _ _
        have d2 : M / 2 ^ k / 2 = M / 2 ^ (k + 1) := by rw [Nat.div_div_eq_div_mul, Nat.pow_succ]
        have eQ := fun (s : Ev.St) (K : AV → Ev.St → Prop) => v_quoN (a := M / 2 ^ k) (by omega) s K
        have eM := fun (s : Ev.St) (K : AV → Ev.St → Prop) => v_remN (a := M / 2 ^ k) s K
        have eE : ∀ (s : Ev.St) (K : AV → Ev.St → Prop), onER (binV .eql (.int .i64 ((M / 2 ^ k % 2 : Nat) : Int)) (.int .i64 1) s) K = K (.bool (M / 2 ^ k % 2 == 1)) s := fun s K => by
          by_cases h : M / 2 ^ k % 2 = 1
          · rw [qz2y (by omega), h]; rfl
          · rw [qz2z (by omega)]
            have : (M / 2 ^ k % 2 == 1) = false := by simp [h]
            rw [this]
        rcases h5 with ⟨rfl, rfl, i5⟩ | ⟨k0, hbk, B, i5⟩
        · simp (disch := first | assumption | decide | omega) only [r_onh i1, r_onh i5, r_onh i6, r_onh i7, eM, eE, qz00, qz01, qz02, qz03, qz04, qz05, qz06, qz07, qz08, qz09, qz0a, qz0b, qz0c, qz0d, qz0e, qz0f, qz0g, qz0h, qz0i, qz0j, qz0k, qz0l, qz0m, qz0n, qz0o, qz0p, qz0q, qz0r, qz0s, qz0t, qz0u, qz0v, qz0w, qz0x, qz0y, qz0z, qz10, qz11, qz12, qz13, qz14, qz15, qz16, qz17, qz18, qz19, qz1a, qz1b, qz1c, qz1d, qz1e, qz1f, qz1g, qz1h, qz1i, qz1j, qz1k, qz1l, qz1m, qz1n, qz1o, qz1p, qz1q, qz1r, qz1s, qz1t, qz1u, qz1v, qz1w, qz1x, qz1y, qz1z, qz20, qz21, qz22, qz23, qz24, qz25, qz26, qz27, qz28, qz29, qz2a, qz2b, qz2c, qz2d, qz2e, qz2f, qz2g, qz2h, qz2i, qz2j, qz2k, qz2l, qz2m, qz2n, qz2o, qz2p, qz2q, qz2r, qz2s, qz2t, qz2u, qz2v, qz2w, qz2x, qz2y, qz2z, qz30, qz31, qz32, qz33, qz34, qz35, qz36, qz37, qz38, qz39, qz3a, qz3b, qz3c, qz3d, Bool.not_true, Bool.not_false, List.cons_append, List.nil_append, List.append_nil]
          refine o_buildS1 ⟨rfl, rfl, rfl⟩ fun s2 h2 => ?_
          simp (disch := first | assumption | decide | omega) only [qz00, qz01, qz02, qz03, qz04, qz05, qz06, qz07, qz08, qz09, qz0a, qz0b, qz0c, qz0d, qz0e, qz0f, qz0g, qz0h, qz0i, qz0j, qz0k, qz0l, qz0m, qz0n, qz0o, qz0p, qz0q, qz0r, qz0s, qz0t, qz0u, qz0v, qz0w, qz0x, qz0y, qz0z, qz10, qz11, qz12, qz13, qz14, qz15, qz16, qz17, qz18, qz19, qz1a, qz1b, qz1c, qz1d, qz1e, qz1f, qz1g, qz1h, qz1i, qz1j, qz1k, qz1l, qz1m, qz1n, qz1o, qz1p, qz1q, qz1r, qz1s, qz1t, qz1u, qz1v, qz1w, qz1x, qz1y, qz1z, qz20, qz21, qz22, qz23, qz24, qz25, qz26, qz27, qz28, qz29, qz2a, qz2b, qz2c, qz2d, qz2e, qz2f, qz2g, qz2h, qz2i, qz2j, qz2k, qz2l, qz2m, qz2n, qz2o, qz2p, qz2q, qz2r, qz2s, qz2t, qz2u, qz2v, qz2w, qz2x, qz2y, qz2z, qz30, qz31, qz32, qz33, qz34, qz35, qz36, qz37, qz38, qz39, qz3a, qz3b, qz3c, qz3d, Bool.not_true, Bool.not_false, List.cons_append, List.nil_append, List.append_nil]
          have n2 := h2.nx
          have row2 : IsRow s2.h st.bare.nx := by
            obtain ⟨a, b, c, d, e⟩ := h1.row
            exact ⟨a, b, c, d, by rw [h2.keep st.bare.nx (by show st.nx ≠ s.nx; omega)]; exact e⟩
          refine o_app3 (n := 1) row2 (by decide) (by decide) (by decide) (by rw [h2.len]; decide) fun s3 h3 => ?_
          simp (disch := first | assumption | decide | omega) only [r_onh i1, r_onh i6, r_onh i7, eQ, v_addN, qz00, qz01, qz02, qz03, qz04, qz05, qz06, qz07, qz08, qz09, qz0a, qz0b, qz0c, qz0d, qz0e, qz0f, qz0g, qz0h, qz0i, qz0j, qz0k, qz0l, qz0m, qz0n, qz0o, qz0p, qz0q, qz0r, qz0s, qz0t, qz0u, qz0v, qz0w, qz0x, qz0y, qz0z, qz10, qz11, qz12, qz13, qz14, qz15, qz16, qz17, qz18, qz19, qz1a, qz1b, qz1c, qz1d, qz1e, qz1f, qz1g, qz1h, qz1i, qz1j, qz1k, qz1l, qz1m, qz1n, qz1o, qz1p, qz1q, qz1r, qz1s, qz1t, qz1u, qz1v, qz1w, qz1x, qz1y, qz1z, qz20, qz21, qz22, qz23, qz24, qz25, qz26, qz27, qz28, qz29, qz2a, qz2b, qz2c, qz2d, qz2e, qz2f, qz2g, qz2h, qz2i, qz2j, qz2k, qz2l, qz2m, qz2n, qz2o, qz2p, qz2q, qz2r, qz2s, qz2t, qz2u, qz2v, qz2w, qz2x, qz2y, qz2z, qz30, qz31, qz32, qz33, qz34, qz35, qz36, qz37, qz38, qz39, qz3a, qz3b, qz3c, qz3d, Bool.not_true, Bool.not_false, List.cons_append, List.nil_append, List.append_nil]
          refine ⟨w - (0 + 1), by omega, 0 + 1, s2.nx, by omega, rfl, (ks.made h2).made h3, .inr ⟨by omega, by omega, ⟨by have := h3.nx; omega, h3.len, fun i hi => ?_⟩, Has.there (Has.there (Has.here _ _ _) (by decide)) (by decide)⟩, ?_⟩
          · have hi0 : i = 0 := by omega
            subst hi0
            exact (h3.cell 0 (by decide)).trans (h2.cell 0 (by decide))
          · rw [← d2]
            simp (disch := decide) only [z0, z1, h_here, h_skip, i1, true_and, and_true]
        · simp (disch := first | assumption | decide | omega) only [r_onh i1, r_onh i5, r_onh i6, r_onh i7, eM, eE, qz00, qz01, qz02, qz03, qz04, qz05, qz06, qz07, qz08, qz09, qz0a, qz0b, qz0c, qz0d, qz0e, qz0f, qz0g, qz0h, qz0i, qz0j, qz0k, qz0l, qz0m, qz0n, qz0o, qz0p, qz0q, qz0r, qz0s, qz0t, qz0u, qz0v, qz0w, qz0x, qz0y, qz0z, qz10, qz11, qz12, qz13, qz14, qz15, qz16, qz17, qz18, qz19, qz1a, qz1b, qz1c, qz1d, qz1e, qz1f, qz1g, qz1h, qz1i, qz1j, qz1k, qz1l, qz1m, qz1n, qz1o, qz1p, qz1q, qz1r, qz1s, qz1t, qz1u, qz1v, qz1w, qz1x, qz1y, qz1z, qz20, qz21, qz22, qz23, qz24, qz25, qz26, qz27, qz28, qz29, qz2a, qz2b, qz2c, qz2d, qz2e, qz2f, qz2g, qz2h, qz2i, qz2j, qz2k, qz2l, qz2m, qz2n, qz2o, qz2p, qz2q, qz2r, qz2s, qz2t, qz2u, qz2v, qz2w, qz2x, qz2y, qz2z, qz30, qz31, qz32, qz33, qz34, qz35, qz36, qz37, qz38, qz39, qz3a, qz3b, qz3c, qz3d, Bool.not_true, Bool.not_false, List.cons_append, List.nil_append, List.append_nil]
          refine o_buildS1 ⟨rfl, rfl, rfl⟩ fun s2 h2 => ?_
          simp (disch := first | assumption | decide | omega) only [qz00, qz01, qz02, qz03, qz04, qz05, qz06, qz07, qz08, qz09, qz0a, qz0b, qz0c, qz0d, qz0e, qz0f, qz0g, qz0h, qz0i, qz0j, qz0k, qz0l, qz0m, qz0n, qz0o, qz0p, qz0q, qz0r, qz0s, qz0t, qz0u, qz0v, qz0w, qz0x, qz0y, qz0z, qz10, qz11, qz12, qz13, qz14, qz15, qz16, qz17, qz18, qz19, qz1a, qz1b, qz1c, qz1d, qz1e, qz1f, qz1g, qz1h, qz1i, qz1j, qz1k, qz1l, qz1m, qz1n, qz1o, qz1p, qz1q, qz1r, qz1s, qz1t, qz1u, qz1v, qz1w, qz1x, qz1y, qz1z, qz20, qz21, qz22, qz23, qz24, qz25, qz26, qz27, qz28, qz29, qz2a, qz2b, qz2c, qz2d, qz2e, qz2f, qz2g, qz2h, qz2i, qz2j, qz2k, qz2l, qz2m, qz2n, qz2o, qz2p, qz2q, qz2r, qz2s, qz2t, qz2u, qz2v, qz2w, qz2x, qz2y, qz2z, qz30, qz31, qz32, qz33, qz34, qz35, qz36, qz37, qz38, qz39, qz3a, qz3b, qz3c, qz3d, Bool.not_true, Bool.not_false, List.cons_append, List.nil_append, List.append_nil]
          have n2 := h2.nx
          have hlt := B.lt
          have kb : hget s2.h bk = hget s.h bk := h2.keep bk (by omega)
          refine o_app2 (by rw [rlen_same kb, B.len]) k0 (by omega) (by omega) (by omega) h2.len (h2.cell 0 (by decide)) fun s3 h3 => ?_
          have n3 := h3.nx
          have n5 := (ks.made h2).nx
          simp (disch := first | assumption | decide | omega) only [r_onh i1, r_onh i6, r_onh i7, eQ, v_addN, qz00, qz01, qz02, qz03, qz04, qz05, qz06, qz07, qz08, qz09, qz0a, qz0b, qz0c, qz0d, qz0e, qz0f, qz0g, qz0h, qz0i, qz0j, qz0k, qz0l, qz0m, qz0n, qz0o, qz0p, qz0q, qz0r, qz0s, qz0t, qz0u, qz0v, qz0w, qz0x, qz0y, qz0z, qz10, qz11, qz12, qz13, qz14, qz15, qz16, qz17, qz18, qz19, qz1a, qz1b, qz1c, qz1d, qz1e, qz1f, qz1g, qz1h, qz1i, qz1j, qz1k, qz1l, qz1m, qz1n, qz1o, qz1p, qz1q, qz1r, qz1s, qz1t, qz1u, qz1v, qz1w, qz1x, qz1y, qz1z, qz20, qz21, qz22, qz23, qz24, qz25, qz26, qz27, qz28, qz29, qz2a, qz2b, qz2c, qz2d, qz2e, qz2f, qz2g, qz2h, qz2i, qz2j, qz2k, qz2l, qz2m, qz2n, qz2o, qz2p, qz2q, qz2r, qz2s, qz2t, qz2u, qz2v, qz2w, qz2x, qz2y, qz2z, qz30, qz31, qz32, qz33, qz34, qz35, qz36, qz37, qz38, qz39, qz3a, qz3b, qz3c, qz3d, Bool.not_true, Bool.not_false, List.cons_append, List.nil_append, List.append_nil]
          refine ⟨w - (k + 1), by omega, k + 1, s2.nx, by omega, rfl, ⟨by omega, h3.fr.trans (h2.fr.trans ks.fr), fun c hc => (h3.keep c (by omega) (by omega)).trans ((ks.made h2).keep c hc)⟩, .inr ⟨by omega, by omega, ⟨by omega, h3.len, fun i hi => ?_⟩, Has.there (Has.there (Has.here _ _ _) (by decide)) (by decide)⟩, ?_⟩
          · rw [h3.cell i hi]
            by_cases h : i = k
            · rw [if_pos h, h]
            · rw [if_neg h, rat_same kb]; exact B.cell i (by omega)
          · rw [← d2]
            simp (disch := decide) only [z0, z1, h_here, h_skip, i1, true_and, and_true]
      · have hkw' : k = w := by omega
        subst hkw'
        rcases h5 with ⟨k0, _⟩ | ⟨k0, hbk, B, i5⟩
        · omega
        · simp (disch := first | assumption | decide | omega) only [r_onh i1, r_onh i5, r_onh i6, r_onh i7, qz00, qz01, qz02, qz03, qz04, qz05, qz06, qz07, qz08, qz09, qz0a, qz0b, qz0c, qz0d, qz0e, qz0f, qz0g, qz0h, qz0i, qz0j, qz0k, qz0l, qz0m, qz0n, qz0o, qz0p, qz0q, qz0r, qz0s, qz0t, qz0u, qz0v, qz0w, qz0x, qz0y, qz0z, qz10, qz11, qz12, qz13, qz14, qz15, qz16, qz17, qz18, qz19, qz1a, qz1b, qz1c, qz1d, qz1e, qz1f, qz1g, qz1h, qz1i, qz1j, qz1k, qz1l, qz1m, qz1n, qz1o, qz1p, qz1q, qz1r, qz1s, qz1t, qz1u, qz1v, qz1w, qz1x, qz1y, qz1z, qz20, qz21, qz22, qz23, qz24, qz25, qz26, qz27, qz28, qz29, qz2a, qz2b, qz2c, qz2d, qz2e, qz2f, qz2g, qz2h, qz2i, qz2j, qz2k, qz2l, qz2m, qz2n, qz2o, qz2p, qz2q, qz2r, qz2s, qz2t, qz2u, qz2v, qz2w, qz2x, qz2y, qz2z, qz30, qz31, qz32, qz33, qz34, qz35, qz36, qz37, qz38, qz39, qz3a, qz3b, qz3c, qz3d, Bool.not_true, Bool.not_false, List.cons_append, List.nil_append, List.append_nil]
          have kk := k1.trans ks
          have n0 := k1.nx
          have hB : bitN n k = fun i => M / 2 ^ i % 2 == 1 := by funext i; unfold bitN; rw [hM]
          exact hK bk s.bare ⟨kk.nx, rfl, kk.keep⟩ (Nat.le_trans k1.nx hbk) (by rw [hB]; exact ⟨B.lt, B.len, B.cell⟩)
    · have e0 : M / 2 ^ 0 = M := by rw [Nat.pow_zero, Nat.div_one]
      refine ⟨0, 0, by omega, rfl, Kept.refl s1, .inl ⟨rfl, rfl, ?_⟩, ?_⟩
      · simp (disch := decide) only [z0, z1, h_here, h_skip]
      · rw [e0]
        simp (disch := decide) only [z0, z1, h_here, h_skip, true_and, and_true]
  · rw [if_neg hneg] at t3
    have hneg' : 0 ≤ n.tmod ((2 ^ w : Nat) : Int) := by omega
    simp (disch := first | assumption | decide | omega) only [eR, qz00, qz01, qz02, qz03, qz04, qz05, qz06, qz07, qz08, qz09, qz0a, qz0b, qz0c, qz0d, qz0e, qz0f, qz0g, qz0h, qz0i, qz0j, qz0k, qz0l, qz0m, qz0n, qz0o, qz0p, qz0q, qz0r, qz0s, qz0t, qz0u, qz0v, qz0w, qz0x, qz0y, qz0z, qz10, qz11, qz12, qz13, qz14, qz15, qz16, qz17, qz18, qz19, qz1a, qz1b, qz1c, qz1d, qz1e, qz1f, qz1g, qz1h, qz1i, qz1j, qz1k, qz1l, qz1m, qz1n, qz1o, qz1p, qz1q, qz1r, qz1s, qz1t, qz1u, qz1v, qz1w, qz1x, qz1y, qz1z, qz20, qz21, qz22, qz23, qz24, qz25, qz26, qz27, qz28, qz29, qz2a, qz2b, qz2c, qz2d, qz2e, qz2f, qz2g, qz2h, qz2i, qz2j, qz2k, qz2l, qz2m, qz2n, qz2o, qz2p, qz2q, qz2r, qz2s, qz2t, qz2u, qz2v, qz2w, qz2x, qz2y, qz2z, qz30, qz31, qz32, qz33, qz34, qz35, qz36, qz37, qz38, qz39, qz3a, qz3b, qz3c, qz3d, Bool.not_true, Bool.not_false, List.cons_append, List.nil_append, List.append_nil]
    rw [← t3]
    refine wC_loopH (fun mm L s => ∃ k bk : Nat, k ≤ w ∧ mm = w - k ∧ Kept s1 s ∧ ((k = 0 ∧ s = s1 ∧ Has L 5 (.slice st.bare.nx 0 0 0 1 true)) ∨ (0 < k ∧ s1.nx ≤ bk ∧ Bl s bk k (fun i => M / 2 ^ i % 2 == 1) ∧ Has L 5 (.slice bk 0 k k 1 false))) ∧ Has L 1 (.int .i64 (w : Int)) ∧ Has L 6 (.int .i64 ((M / 2 ^ k : Nat) : Int)) ∧ Has L 7 (.int .i64 (k : Int))) ?_ w ?_
    · rintro mm L s ⟨k, bk, hk, rfl, ks, h5, i1, i6, i7⟩
      unfold Hold
      have sfr : s.fr = [] := ks.fr.trans s1fr
      by_cases hkw : k < w
      · have d1 : M / 2 ^ k ≤ M := Nat.div_le_self _ _
        have d2 : M / 2 ^ k / 2 = M / 2 ^ (k + 1) := by rw [Nat.div_div_eq_div_mul, Nat.pow_succ]
        have eQ := fun (s : Ev.St) (K : AV → Ev.St → Prop) => v_quoN (a := M / 2 ^ k) (by omega) s K
        have eM := fun (s : Ev.St) (K : AV → Ev.St → Prop) => v_remN (a := M / 2 ^ k) s K
        have eE : ∀ (s : Ev.St) (K : AV → Ev.St → Prop), onER (binV .eql (.int .i64 ((M / 2 ^ k % 2 : Nat) : Int)) (.int .i64 1) s) K = K (.bool (M / 2 ^ k % 2 == 1)) s := fun s K => by
          by_cases h : M / 2 ^ k % 2 = 1
          · rw [qz2y (by omega), h]; rfl
          · rw [qz2z (by omega)]
            have : (M / 2 ^ k % 2 == 1) = false := by simp [h]
            rw [this]
        rcases h5 with ⟨rfl, rfl, i5⟩ | ⟨k0, hbk, B, i5⟩
        · simp (disch := first | assumption | decide | omega) only [r_onh i1, r_onh i5, r_onh i6, r_onh i7, eM, eE, qz00, qz01, qz02, qz03, qz04, qz05, qz06, qz07, qz08, qz09, qz0a, qz0b, qz0c, qz0d, qz0e, qz0f, qz0g, qz0h, qz0i, qz0j, qz0k, qz0l, qz0m, qz0n, qz0o, qz0p, qz0q, qz0r, qz0s, qz0t, qz0u, qz0v, qz0w, qz0x, qz0y, qz0z, qz10, qz11, qz12, qz13, qz14, qz15, qz16, qz17, qz18, qz19, qz1a, qz1b, qz1c, qz1d, qz1e, qz1f, qz1g, qz1h, qz1i, qz1j, qz1k, qz1l, qz1m, qz1n, qz1o, qz1p, qz1q, qz1r, qz1s, qz1t, qz1u, qz1v, qz1w, qz1x, qz1y, qz1z, qz20, qz21, qz22, qz23, qz24, qz25, qz26, qz27, qz28, qz29, qz2a, qz2b, qz2c, qz2d, qz2e, qz2f, qz2g, qz2h, qz2i, qz2j, qz2k, qz2l, qz2m, qz2n, qz2o, qz2p, qz2q, qz2r, qz2s, qz2t, qz2u, qz2v, qz2w, qz2x, qz2y, qz2z, qz30, qz31, qz32, qz33, qz34, qz35, qz36, qz37, qz38, qz39, qz3a, qz3b, qz3c, qz3d, Bool.not_true, Bool.not_false, List.cons_append, List.nil_append, List.append_nil]
          refine o_buildS1 ⟨rfl, rfl, rfl⟩ fun s2 h2 => ?_
          simp (disch := first | assumption | decide | omega) only [qz00, qz01, qz02, qz03, qz04, qz05, qz06, qz07, qz08, qz09, qz0a, qz0b, qz0c, qz0d, qz0e, qz0f, qz0g, qz0h, qz0i, qz0j, qz0k, qz0l, qz0m, qz0n, qz0o, qz0p, qz0q, qz0r, qz0s, qz0t, qz0u, qz0v, qz0w, qz0x, qz0y, qz0z, qz10, qz11, qz12, qz13, qz14, qz15, qz16, qz17, qz18, qz19, qz1a, qz1b, qz1c, qz1d, qz1e, qz1f, qz1g, qz1h, qz1i, qz1j, qz1k, qz1l, qz1m, qz1n, qz1o, qz1p, qz1q, qz1r, qz1s, qz1t, qz1u, qz1v, qz1w, qz1x, qz1y, qz1z, qz20, qz21, qz22, qz23, qz24, qz25, qz26, qz27, qz28, qz29, qz2a, qz2b, qz2c, qz2d, qz2e, qz2f, qz2g, qz2h, qz2i, qz2j, qz2k, qz2l, qz2m, qz2n, qz2o, qz2p, qz2q, qz2r, qz2s, qz2t, qz2u, qz2v, qz2w, qz2x, qz2y, qz2z, qz30, qz31, qz32, qz33, qz34, qz35, qz36, qz37, qz38, qz39, qz3a, qz3b, qz3c, qz3d, Bool.not_true, Bool.not_false, List.cons_append, List.nil_append, List.append_nil]
          have n2 := h2.nx
          have row2 : IsRow s2.h st.bare.nx := by
            obtain ⟨a, b, c, d, e⟩ := h1.row
            exact ⟨a, b, c, d, by rw [h2.keep st.bare.nx (by show st.nx ≠ s.nx; omega)]; exact e⟩
          refine o_app3 (n := 1) row2 (by decide) (by decide) (by decide) (by rw [h2.len]; decide) fun s3 h3 => ?_
          simp (disch := first | assumption | decide | omega) only [r_onh i1, r_onh i6, r_onh i7, eQ, v_addN, qz00, qz01, qz02, qz03, qz04, qz05, qz06, qz07, qz08, qz09, qz0a, qz0b, qz0c, qz0d, qz0e, qz0f, qz0g, qz0h, qz0i, qz0j, qz0k, qz0l, qz0m, qz0n, qz0o, qz0p, qz0q, qz0r, qz0s, qz0t, qz0u, qz0v, qz0w, qz0x, qz0y, qz0z, qz10, qz11, qz12, qz13, qz14, qz15, qz16, qz17, qz18, qz19, qz1a, qz1b, qz1c, qz1d, qz1e, qz1f, qz1g, qz1h, qz1i, qz1j, qz1k, qz1l, qz1m, qz1n, qz1o, qz1p, qz1q, qz1r, qz1s, qz1t, qz1u, qz1v, qz1w, qz1x, qz1y, qz1z, qz20, qz21, qz22, qz23, qz24, qz25, qz26, qz27, qz28, qz29, qz2a, qz2b, qz2c, qz2d, qz2e, qz2f, qz2g, qz2h, qz2i, qz2j, qz2k, qz2l, qz2m, qz2n, qz2o, qz2p, qz2q, qz2r, qz2s, qz2t, qz2u, qz2v, qz2w, qz2x, qz2y, qz2z, qz30, qz31, qz32, qz33, qz34, qz35, qz36, qz37, qz38, qz39, qz3a, qz3b, qz3c, qz3d, Bool.not_true, Bool.not_false, List.cons_append, List.nil_append, List.append_nil]
          refine ⟨w - (0 + 1), by omega, 0 + 1, s2.nx, by omega, rfl, (ks.made h2).made h3, .inr ⟨by omega, by omega, ⟨by have := h3.nx; omega, h3.len, fun i hi => ?_⟩, Has.there (Has.there (Has.here _ _ _) (by decide)) (by decide)⟩, ?_⟩
          · have hi0 : i = 0 := by omega
            subst hi0
            exact (h3.cell 0 (by decide)).trans (h2.cell 0 (by decide))
          · rw [← d2]
            simp (disch := decide) only [z0, z1, h_here, h_skip, i1, true_and, and_true]
        · simp (disch := first | assumption | decide | omega) only [r_onh i1, r_onh i5, r_onh i6, r_onh i7, eM, eE, qz00, qz01, qz02, qz03, qz04, qz05, qz06, qz07, qz08, qz09, qz0a, qz0b, qz0c, qz0d, qz0e, qz0f, qz0g, qz0h, qz0i, qz0j, qz0k, qz0l, qz0m, qz0n, qz0o, qz0p, qz0q, qz0r, qz0s, qz0t, qz0u, qz0v, qz0w, qz0x, qz0y, qz0z, qz10, qz11, qz12, qz13, qz14, qz15, qz16, qz17, qz18, qz19, qz1a, qz1b, qz1c, qz1d, qz1e, qz1f, qz1g, qz1h, qz1i, qz1j, qz1k, qz1l, qz1m, qz1n, qz1o, qz1p, qz1q, qz1r, qz1s, qz1t, qz1u, qz1v, qz1w, qz1x, qz1y, qz1z, qz20, qz21, qz22, qz23, qz24, qz25, qz26, qz27, qz28, qz29, qz2a, qz2b, qz2c, qz2d, qz2e, qz2f, qz2g, qz2h, qz2i, qz2j, qz2k, qz2l, qz2m, qz2n, qz2o, qz2p, qz2q, qz2r, qz2s, qz2t, qz2u, qz2v, qz2w, qz2x, qz2y, qz2z, qz30, qz31, qz32, qz33, qz34, qz35, qz36, qz37, qz38, qz39, qz3a, qz3b, qz3c, qz3d, Bool.not_true, Bool.not_false, List.cons_append, List.nil_append, List.append_nil]
          refine o_buildS1 ⟨rfl, rfl, rfl⟩ fun s2 h2 => ?_
          simp (disch := first | assumption | decide | omega) only [qz00, qz01, qz02, qz03, qz04, qz05, qz06, qz07, qz08, qz09, qz0a, qz0b, qz0c, qz0d, qz0e, qz0f, qz0g, qz0h, qz0i, qz0j, qz0k, qz0l, qz0m, qz0n, qz0o, qz0p, qz0q, qz0r, qz0s, qz0t, qz0u, qz0v, qz0w, qz0x, qz0y, qz0z, qz10, qz11, qz12, qz13, qz14, qz15, qz16, qz17, qz18, qz19, qz1a, qz1b, qz1c, qz1d, qz1e, qz1f, qz1g, qz1h, qz1i, qz1j, qz1k, qz1l, qz1m, qz1n, qz1o, qz1p, qz1q, qz1r, qz1s, qz1t, qz1u, qz1v, qz1w, qz1x, qz1y, qz1z, qz20, qz21, qz22, qz23, qz24, qz25, qz26, qz27, qz28, qz29, qz2a, qz2b, qz2c, qz2d, qz2e, qz2f, qz2g, qz2h, qz2i, qz2j, qz2k, qz2l, qz2m, qz2n, qz2o, qz2p, qz2q, qz2r, qz2s, qz2t, qz2u, qz2v, qz2w, qz2x, qz2y, qz2z, qz30, qz31, qz32, qz33, qz34, qz35, qz36, qz37, qz38, qz39, qz3a, qz3b, qz3c, qz3d, Bool.not_true, Bool.not_false, List.cons_append, List.nil_append, List.append_nil]
          have n2 := h2.nx
          have hlt := B.lt
          have kb : hget s2.h bk = hget s.h bk := h2.keep bk (by omega)
          refine o_app2 (by rw [rlen_same kb, B.len]) k0 (by omega) (by omega) (by omega) h2.len (h2.cell 0 (by decide)) fun s3 h3 => ?_
          have n3 := h3.nx
          have n5 := (ks.made h2).nx
          simp (disch := first | assumption | decide | omega) only [r_onh i1, r_onh i6, r_onh i7, eQ, v_addN, qz00, qz01, qz02, qz03, qz04, qz05, qz06, qz07, qz08, qz09, qz0a, qz0b, qz0c, qz0d, qz0e, qz0f, qz0g, qz0h, qz0i, qz0j, qz0k, qz0l, qz0m, qz0n, qz0o, qz0p, qz0q, qz0r, qz0s, qz0t, qz0u, qz0v, qz0w, qz0x, qz0y, qz0z, qz10, qz11, qz12, qz13, qz14, qz15, qz16, qz17, qz18, qz19, qz1a, qz1b, qz1c, qz1d, qz1e, qz1f, qz1g, qz1h, qz1i, qz1j, qz1k, qz1l, qz1m, qz1n, qz1o, qz1p, qz1q, qz1r, qz1s, qz1t, qz1u, qz1v, qz1w, qz1x, qz1y, qz1z, qz20, qz21, qz22, qz23, qz24, qz25, qz26, qz27, qz28, qz29, qz2a, qz2b, qz2c, qz2d, qz2e, qz2f, qz2g, qz2h, qz2i, qz2j, qz2k, qz2l, qz2m, qz2n, qz2o, qz2p, qz2q, qz2r, qz2s, qz2t, qz2u, qz2v, qz2w, qz2x, qz2y, qz2z, qz30, qz31, qz32, qz33, qz34, qz35, qz36, qz37, qz38, qz39, qz3a, qz3b, qz3c, qz3d, Bool.not_true, Bool.not_false, List.cons_append, List.nil_append, List.append_nil]
          refine ⟨w - (k + 1), by omega, k + 1, s2.nx, by omega, rfl, ⟨by omega, h3.fr.trans (h2.fr.trans ks.fr), fun c hc => (h3.keep c (by omega) (by omega)).trans ((ks.made h2).keep c hc)⟩, .inr ⟨by omega, by omega, ⟨by omega, h3.len, fun i hi => ?_⟩, Has.there (Has.there (Has.here _ _ _) (by decide)) (by decide)⟩, ?_⟩
          · rw [h3.cell i hi]
            by_cases h : i = k
            · rw [if_pos h, h]
            · rw [if_neg h, rat_same kb]; exact B.cell i (by omega)
          · rw [← d2]
            simp (disch := decide) only [z0, z1, h_here, h_skip, i1, true_and, and_true]
      · have hkw' : k = w := by omega
        subst hkw'
        rcases h5 with ⟨k0, _⟩ | ⟨k0, hbk, B, i5⟩
        · omega
        · simp (disch := first | assumption | decide | omega) only [r_onh i1, r_onh i5, r_onh i6, r_onh i7, qz00, qz01, qz02, qz03, qz04, qz05, qz06, qz07, qz08, qz09, qz0a, qz0b, qz0c, qz0d, qz0e, qz0f, qz0g, qz0h, qz0i, qz0j, qz0k, qz0l, qz0m, qz0n, qz0o, qz0p, qz0q, qz0r, qz0s, qz0t, qz0u, qz0v, qz0w, qz0x, qz0y, qz0z, qz10, qz11, qz12, qz13, qz14, qz15, qz16, qz17, qz18, qz19, qz1a, qz1b, qz1c, qz1d, qz1e, qz1f, qz1g, qz1h, qz1i, qz1j, qz1k, qz1l, qz1m, qz1n, qz1o, qz1p, qz1q, qz1r, qz1s, qz1t, qz1u, qz1v, qz1w, qz1x, qz1y, qz1z, qz20, qz21, qz22, qz23, qz24, qz25, qz26, qz27, qz28, qz29, qz2a, qz2b, qz2c, qz2d, qz2e, qz2f, qz2g, qz2h, qz2i, qz2j, qz2k, qz2l, qz2m, qz2n, qz2o, qz2p, qz2q, qz2r, qz2s, qz2t, qz2u, qz2v, qz2w, qz2x, qz2y, qz2z, qz30, qz31, qz32, qz33, qz34, qz35, qz36, qz37, qz38, qz39, qz3a, qz3b, qz3c, qz3d, Bool.not_true, Bool.not_false, List.cons_append, List.nil_append, List.append_nil]
          have kk := k1.trans ks
          have n0 := k1.nx
          have hB : bitN n k = fun i => M / 2 ^ i % 2 == 1 := by funext i; unfold bitN; rw [hM]
          exact hK bk s.bare ⟨kk.nx, rfl, kk.keep⟩ (Nat.le_trans k1.nx hbk) (by rw [hB]; exact ⟨B.lt, B.len, B.cell⟩)
    · have e0 : M / 2 ^ 0 = M := by rw [Nat.pow_zero, Nat.div_one]
      refine ⟨0, 0, by omega, rfl, Kept.refl s1, .inl ⟨rfl, rfl, ?_⟩, ?_⟩
      · simp (disch := decide) only [z0, z1, h_here, h_skip]
      · rw [e0]
        simp (disch := decide) only [z0, z1, h_here, h_skip, true_and, and_true]
end Go.Sy
end

section
set_option maxRecDepth 100000
namespace Go.Sy
open Go.Ev Go.Proofs
variable {base : CallF}
theorem Cut_ok (hb : ∀ f args st, f = 26 ∨ f = 32 → base f args st = .no) {n : Int} {w : Nat} (hw1 : 1 ≤ w) (hw : w ≤ 32) (st : Ev.St) (K : AV → Ev.St → Prop)
    (hK : K (.int .i64 (cutN n w)) st.bare) : CW Try.prog base 26 [.int .i64 n, .int .i64 (w : Int)] st K := by
  refine fn_rule l26 (hb _ _ _ (by decide)) ?_
  simp only [c26, entry, List.map_cons, List.map_nil, List.getD_cons_zero, List.getD_cons_succ]
  unfold b26
  have pw := pow_le32 hw
  have hp : 0 < 2 ^ w := Nat.pos_of_ne_zero (by simp)
  obtain ⟨t1, t2, t3⟩ := tmod_bd n hp
  obtain ⟨M1, M2⟩ := cutM_int n w
  rw [M1] at t3
  have eR : ∀ (s : Ev.St) (K : AV → Ev.St → Prop), onER (binV .rem (.int .i64 n) (.int .i64 ((2 ^ w : Nat) : Int)) s) K = K (.int .i64 (n.tmod ((2 ^ w : Nat) : Int))) s := fun s K => v_remI hp s K
  unfold cutN at hK
  simp (disch := first | assumption | decide | omega) only [qz00, qz01, qz02, qz03, qz04, qz05, qz06, qz07, qz08, qz09, qz0a, qz0b, qz0c, qz0d, qz0e, qz0f, qz0g, qz0h, qz0i, qz0j, qz0k, qz0l, qz0m, qz0n, qz0o, qz0p, qz0q, qz0r, qz0s, qz0t, qz0u, qz0v, qz0w, qz0x, qz0y, qz0z, qz10, qz11, qz12, qz13, qz14, qz15, qz16, qz17, qz18, qz19, qz1a, qz1b, qz1c, qz1d, qz1e, qz1f, qz1g, qz1h, qz1i, qz1j, qz1k, qz1l, qz1m, qz1n, qz1o, qz1p, qz1q, qz1r, qz1s, qz1t, qz1u, qz1v, qz1w, qz1x, qz1y, qz1z, qz20, qz21, qz22, qz23, qz24, qz25, qz26, qz27, qz28, qz29, qz2a, qz2b, qz2c, qz2d, qz2e, qz2f, qz2g, qz2h, qz2i, qz2j, qz2k, qz2l, qz2m, qz2n, qz2o, qz2p, qz2q, qz2r, qz2s, qz2t, qz2u, qz2v, qz2w, qz2x, qz2y, qz2z, qz30, qz31, qz32, qz33, qz34, qz35, qz36, qz37, qz38, qz39, qz3a, qz3b, qz3c, qz3d, Bool.not_true, Bool.not_false, List.cons_append, List.nil_append, List.append_nil]
  refine power_ok (fun a s => hb _ a s (by decide)) w hw st.bare _ ?_
  generalize hM : cutM n w = M at *
  have M3 : M < 4294967296 := by omega
  have eS : ∀ (s : Ev.St) (K : AV → Ev.St → Prop), onER (binV .sub (.int .i64 (M : Int)) (.int .i64 ((2 ^ w : Nat) : Int)) s) K = K (.int .i64 ((M : Int) - ((2 ^ w : Nat) : Int))) s := fun s K => by
    rw [v_sub (by omega) (by omega)]
  have eW : 0 < w := by omega
  by_cases hneg : n.tmod ((2 ^ w : Nat) : Int) < 0
  · rw [if_pos hneg] at t3
    have eA : ∀ (s : Ev.St) (K : AV → Ev.St → Prop), onER (binV .add (.int .i64 (n.tmod ((2 ^ w : Nat) : Int))) (.int .i64 ((2 ^ w : Nat) : Int)) s) K = K (.int .i64 (M : Int)) s := fun s K => by
      rw [v_add (by omega) (by omega), t3]
    simp (disch := first | assumption | decide | omega) only [eR, qz00, qz01, qz02, qz03, qz04, qz05, qz06, qz07, qz08, qz09, qz0a, qz0b, qz0c, qz0d, qz0e, qz0f, qz0g, qz0h, qz0i, qz0j, qz0k, qz0l, qz0m, qz0n, qz0o, qz0p, qz0q, qz0r, qz0s, qz0t, qz0u, qz0v, qz0w, qz0x, qz0y, qz0z, qz10, qz11, qz12, qz13, qz14, qz15, qz16, qz17, qz18, qz19, qz1a, qz1b, qz1c, qz1d, qz1e, qz1f, qz1g, qz1h, qz1i, qz1j, qz1k, qz1l, qz1m, qz1n, qz1o, qz1p, qz1q, qz1r, qz1s, qz1t, qz1u, qz1v, qz1w, qz1x, qz1y, qz1z, qz20, qz21, qz22, qz23, qz24, qz25, qz26, qz27, qz28, qz29, qz2a, qz2b, qz2c, qz2d, qz2e, qz2f, qz2g, qz2h, qz2i, qz2j, qz2k, qz2l, qz2m, qz2n, qz2o, qz2p, qz2q, qz2r, qz2s, qz2t, qz2u, qz2v, qz2w, qz2x, qz2y, qz2z, qz30, qz31, qz32, qz33, qz34, qz35, qz36, qz37, qz38, qz39, qz3a, qz3b, qz3c, qz3d, Bool.not_true, Bool.not_false, List.cons_append, List.nil_append, List.append_nil]
    refine power_ok (fun a s => hb _ a s (by decide)) w hw st.bare _ ?_
    simp (disch := first | assumption | decide | omega) only [eA, qz00, qz01, qz02, qz03, qz04, qz05, qz06, qz07, qz08, qz09, qz0a, qz0b, qz0c, qz0d, qz0e, qz0f, qz0g, qz0h, qz0i, qz0j, qz0k, qz0l, qz0m, qz0n, qz0o, qz0p, qz0q, qz0r, qz0s, qz0t, qz0u, qz0v, qz0w, qz0x, qz0y, qz0z, qz10, qz11, qz12, qz13, qz14, qz15, qz16, qz17, qz18, qz19, qz1a, qz1b, qz1c, qz1d, qz1e, qz1f, qz1g, qz1h, qz1i, qz1j, qz1k, qz1l, qz1m, qz1n, qz1o, qz1p, qz1q, qz1r, qz1s, qz1t, qz1u, qz1v, qz1w, qz1x, qz1y, qz1z, qz20, qz21, qz22, qz23, qz24, qz25, qz26, qz27, qz28, qz29, qz2a, qz2b, qz2c, qz2d, qz2e, qz2f, qz2g, qz2h, qz2i, qz2j, qz2k, qz2l, qz2m, qz2n, qz2o, qz2p, qz2q, qz2r, qz2s, qz2t, qz2u, qz2v, qz2w, qz2x, qz2y, qz2z, qz30, qz31, qz32, qz33, qz34, qz35, qz36, qz37, qz38, qz39, qz3a, qz3b, qz3c, qz3d, Bool.not_true, Bool.not_false, List.cons_append, List.nil_append, List.append_nil]
    refine power_ok (fun a s => hb _ a s (by decide)) (w - 1) (by omega) st.bare _ ?_
    by_cases hc : M < 2 ^ (w - 1)
    · rw [if_pos hc] at hK
      have hc' : (M : Int) < ((2 ^ (w - 1) : Nat) : Int) := by omega
      simp (disch := first | assumption | decide | omega) only [qz00, qz01, qz02, qz03, qz04, qz05, qz06, qz07, qz08, qz09, qz0a, qz0b, qz0c, qz0d, qz0e, qz0f, qz0g, qz0h, qz0i, qz0j, qz0k, qz0l, qz0m, qz0n, qz0o, qz0p, qz0q, qz0r, qz0s, qz0t, qz0u, qz0v, qz0w, qz0x, qz0y, qz0z, qz10, qz11, qz12, qz13, qz14, qz15, qz16, qz17, qz18, qz19, qz1a, qz1b, qz1c, qz1d, qz1e, qz1f, qz1g, qz1h, qz1i, qz1j, qz1k, qz1l, qz1m, qz1n, qz1o, qz1p, qz1q, qz1r, qz1s, qz1t, qz1u, qz1v, qz1w, qz1x, qz1y, qz1z, qz20, qz21, qz22, qz23, qz24, qz25, qz26, qz27, qz28, qz29, qz2a, qz2b, qz2c, qz2d, qz2e, qz2f, qz2g, qz2h, qz2i, qz2j, qz2k, qz2l, qz2m, qz2n, qz2o, qz2p, qz2q, qz2r, qz2s, qz2t, qz2u, qz2v, qz2w, qz2x, qz2y, qz2z, qz30, qz31, qz32, qz33, qz34, qz35, qz36, qz37, qz38, qz39, qz3a, qz3b, qz3c, qz3d, Bool.not_true, Bool.not_false, List.cons_append, List.nil_append, List.append_nil]
      exact hK
    · rw [if_neg hc] at hK
      have hc' : ((2 ^ (w - 1) : Nat) : Int) ≤ (M : Int) := by omega
      simp (disch := first | assumption | decide | omega) only [qz00, qz01, qz02, qz03, qz04, qz05, qz06, qz07, qz08, qz09, qz0a, qz0b, qz0c, qz0d, qz0e, qz0f, qz0g, qz0h, qz0i, qz0j, qz0k, qz0l, qz0m, qz0n, qz0o, qz0p, qz0q, qz0r, qz0s, qz0t, qz0u, qz0v, qz0w, qz0x, qz0y, qz0z, qz10, qz11, qz12, qz13, qz14, qz15, qz16, qz17, qz18, qz19, qz1a, qz1b, qz1c, qz1d, qz1e, qz1f, qz1g, qz1h, qz1i, qz1j, qz1k, qz1l, qz1m, qz1n, qz1o, qz1p, qz1q, qz1r, qz1s, qz1t, qz1u, qz1v, qz1w, qz1x, qz1y, qz1z, qz20, qz21, qz22, qz23, qz24, qz25, qz26, qz27, qz28, qz29, qz2a, qz2b, qz2c, qz2d, qz2e, qz2f, qz2g, qz2h, qz2i, qz2j, qz2k, qz2l, qz2m, qz2n, qz2o, qz2p, qz2q, qz2r, qz2s, qz2t, qz2u, qz2v, qz2w, qz2x, qz2y, qz2z, qz30, qz31, qz32, qz33, qz34, qz35, qz36, qz37, qz38, qz39, qz3a, qz3b, qz3c, qz3d, Bool.not_true, Bool.not_false, List.cons_append, List.nil_append, List.append_nil]
      refine power_ok (fun a s => hb _ a s (by decide)) w hw st.bare _ ?_
      simp (disch := first | assumption | decide | omega) only [eS, qz00, qz01, qz02, qz03, qz04, qz05, qz06, qz07, qz08, qz09, qz0a, qz0b, qz0c, qz0d, qz0e, qz0f, qz0g, qz0h, qz0i, qz0j, qz0k, qz0l, qz0m, qz0n, qz0o, qz0p, qz0q, qz0r, qz0s, qz0t, qz0u, qz0v, qz0w, qz0x, qz0y, qz0z, qz10, qz11, qz12, qz13, qz14, qz15, qz16, qz17, qz18, qz19, qz1a, qz1b, qz1c, qz1d, qz1e, qz1f, qz1g, qz1h, qz1i, qz1j, qz1k, qz1l, qz1m, qz1n, qz1o, qz1p, qz1q, qz1r, qz1s, qz1t, qz1u, qz1v, qz1w, qz1x, qz1y, qz1z, qz20, qz21, qz22, qz23, qz24, qz25, qz26, qz27, qz28, qz29, qz2a, qz2b, qz2c, qz2d, qz2e, qz2f, qz2g, qz2h, qz2i, qz2j, qz2k, qz2l, qz2m, qz2n, qz2o, qz2p, qz2q, qz2r, qz2s, qz2t, qz2u, qz2v, qz2w, qz2x, qz2y, qz2z, qz30, qz31, qz32, qz33, qz34, qz35, qz36, qz37, qz38, qz39, qz3a, qz3b, qz3c, qz3d, Bool.not_true, Bool.not_false, List.cons_append, List.nil_append, List.append_nil]
      exact hK
  · rw [if_neg hneg] at t3
    have hneg' : 0 ≤ n.tmod ((2 ^ w : Nat) : Int) := by omega
    simp (disch := first | assumption | decide | omega) only [eR, qz00, qz01, qz02, qz03, qz04, qz05, qz06, qz07, qz08, qz09, qz0a, qz0b, qz0c, qz0d, qz0e, qz0f, qz0g, qz0h, qz0i, qz0j, qz0k, qz0l, qz0m, qz0n, qz0o, qz0p, qz0q, qz0r, qz0s, qz0t, qz0u, qz0v, qz0w, qz0x, qz0y, qz0z, qz10, qz11, qz12, qz13, qz14, qz15, qz16, qz17, qz18, qz19, qz1a, qz1b, qz1c, qz1d, qz1e, qz1f, qz1g, qz1h, qz1i, qz1j, qz1k, qz1l, qz1m, qz1n, qz1o, qz1p, qz1q, qz1r, qz1s, qz1t, qz1u, qz1v, qz1w, qz1x, qz1y, qz1z, qz20, qz21, qz22, qz23, qz24, qz25, qz26, qz27, qz28, qz29, qz2a, qz2b, qz2c, qz2d, qz2e, qz2f, qz2g, qz2h, qz2i, qz2j, qz2k, qz2l, qz2m, qz2n, qz2o, qz2p, qz2q, qz2r, qz2s, qz2t, qz2u, qz2v, qz2w, qz2x, qz2y, qz2z, qz30, qz31, qz32, qz33, qz34, qz35, qz36, qz37, qz38, qz39, qz3a, qz3b, qz3c, qz3d, Bool.not_true, Bool.not_false, List.cons_append, List.nil_append, List.append_nil]
    rw [← t3]
    try simp (disch := first | assumption | decide | omega) only [qz00, qz01, qz02, qz03, qz04, qz05, qz06, qz07, qz08, qz09, qz0a, qz0b, qz0c, qz0d, qz0e, qz0f, qz0g, qz0h, qz0i, qz0j, qz0k, qz0l, qz0m, qz0n, qz0o, qz0p, qz0q, qz0r, qz0s, qz0t, qz0u, qz0v, qz0w, qz0x, qz0y, qz0z, qz10, qz11, qz12, qz13, qz14, qz15, qz16, qz17, qz18, qz19, qz1a, qz1b, qz1c, qz1d, qz1e, qz1f, qz1g, qz1h, qz1i, qz1j, qz1k, qz1l, qz1m, qz1n, qz1o, qz1p, qz1q, qz1r, qz1s, qz1t, qz1u, qz1v, qz1w, qz1x, qz1y, qz1z, qz20, qz21, qz22, qz23, qz24, qz25, qz26, qz27, qz28, qz29, qz2a, qz2b, qz2c, qz2d, qz2e, qz2f, qz2g, qz2h, qz2i, qz2j, qz2k, qz2l, qz2m, qz2n, qz2o, qz2p, qz2q, qz2r, qz2s, qz2t, qz2u, qz2v, qz2w, qz2x, qz2y, qz2z, qz30, qz31, qz32, qz33, qz34, qz35, qz36, qz37, qz38, qz39, qz3a, qz3b, qz3c, qz3d, Bool.not_true, Bool.not_false, List.cons_append, List.nil_append, List.append_nil]
    refine power_ok (fun a s => hb _ a s (by decide)) (w - 1) (by omega) st.bare _ ?_
    by_cases hc : M < 2 ^ (w - 1)
    · rw [if_pos hc] at hK
      have hc' : (M : Int) < ((2 ^ (w - 1) : Nat) : Int) := by omega
      simp (disch := first | assumption | decide | omega) only [qz00, qz01, qz02, qz03, qz04, qz05, qz06, qz07, qz08, qz09, qz0a, qz0b, qz0c, qz0d, qz0e, qz0f, qz0g, qz0h, qz0i, qz0j, qz0k, qz0l, qz0m, qz0n, qz0o, qz0p, qz0q, qz0r, qz0s, qz0t, qz0u, qz0v, qz0w, qz0x, qz0y, qz0z, qz10, qz11, qz12, qz13, qz14, qz15, qz16, qz17, qz18, qz19, qz1a, qz1b, qz1c, qz1d, qz1e, qz1f, qz1g, qz1h, qz1i, qz1j, qz1k, qz1l, qz1m, qz1n, qz1o, qz1p, qz1q, qz1r, qz1s, qz1t, qz1u, qz1v, qz1w, qz1x, qz1y, qz1z, qz20, qz21, qz22, qz23, qz24, qz25, qz26, qz27, qz28, qz29, qz2a, qz2b, qz2c, qz2d, qz2e, qz2f, qz2g, qz2h, qz2i, qz2j, qz2k, qz2l, qz2m, qz2n, qz2o, qz2p, qz2q, qz2r, qz2s, qz2t, qz2u, qz2v, qz2w, qz2x, qz2y, qz2z, qz30, qz31, qz32, qz33, qz34, qz35, qz36, qz37, qz38, qz39, qz3a, qz3b, qz3c, qz3d, Bool.not_true, Bool.not_false, List.cons_append, List.nil_append, List.append_nil]
      exact hK
    · rw [if_neg hc] at hK
      have hc' : ((2 ^ (w - 1) : Nat) : Int) ≤ (M : Int) := by omega
      simp (disch := first | assumption | decide | omega) only [qz00, qz01, qz02, qz03, qz04, qz05, qz06, qz07, qz08, qz09, qz0a, qz0b, qz0c, qz0d, qz0e, qz0f, qz0g, qz0h, qz0i, qz0j, qz0k, qz0l, qz0m, qz0n, qz0o, qz0p, qz0q, qz0r, qz0s, qz0t, qz0u, qz0v, qz0w, qz0x, qz0y, qz0z, qz10, qz11, qz12, qz13, qz14, qz15, qz16, qz17, qz18, qz19, qz1a, qz1b, qz1c, qz1d, qz1e, qz1f, qz1g, qz1h, qz1i, qz1j, qz1k, qz1l, qz1m, qz1n, qz1o, qz1p, qz1q, qz1r, qz1s, qz1t, qz1u, qz1v, qz1w, qz1x, qz1y, qz1z, qz20, qz21, qz22, qz23, qz24, qz25, qz26, qz27, qz28, qz29, qz2a, qz2b, qz2c, qz2d, qz2e, qz2f, qz2g, qz2h, qz2i, qz2j, qz2k, qz2l, qz2m, qz2n, qz2o, qz2p, qz2q, qz2r, qz2s, qz2t, qz2u, qz2v, qz2w, qz2x, qz2y, qz2z, qz30, qz31, qz32, qz33, qz34, qz35, qz36, qz37, qz38, qz39, qz3a, qz3b, qz3c, qz3d, Bool.not_true, Bool.not_false, List.cons_append, List.nil_append, List.append_nil]
      refine power_ok (fun a s => hb _ a s (by decide)) w hw st.bare _ ?_
      simp (disch := first | assumption | decide | omega) only [eS, qz00, qz01, qz02, qz03, qz04, qz05, qz06, qz07, qz08, qz09, qz0a, qz0b, qz0c, qz0d, qz0e, qz0f, qz0g, qz0h, qz0i, qz0j, qz0k, qz0l, qz0m, qz0n, qz0o, qz0p, qz0q, qz0r, qz0s, qz0t, qz0u, qz0v, qz0w, qz0x, qz0y, qz0z, qz10, qz11, qz12, qz13, qz14, qz15, qz16, qz17, qz18, qz19, qz1a, qz1b, qz1c, qz1d, qz1e, qz1f, qz1g, qz1h, qz1i, qz1j, qz1k, qz1l, qz1m, qz1n, qz1o, qz1p, qz1q, qz1r, qz1s, qz1t, qz1u, qz1v, qz1w, qz1x, qz1y, qz1z, qz20, qz21, qz22, qz23, qz24, qz25, qz26, qz27, qz28, qz29, qz2a, qz2b, qz2c, qz2d, qz2e, qz2f, qz2g, qz2h, qz2i, qz2j, qz2k, qz2l, qz2m, qz2n, qz2o, qz2p, qz2q, qz2r, qz2s, qz2t, qz2u, qz2v, qz2w, qz2x, qz2y, qz2z, qz30, qz31, qz32, qz33, qz34, qz35, qz36, qz37, qz38, qz39, qz3a, qz3b, qz3c, qz3d, Bool.not_true, Bool.not_false, List.cons_append, List.nil_append, List.append_nil]
      exact hK
end Go.Sy
end

section
set_option maxRecDepth 100000
namespace Go.Sy
open Go.Ev Go.Proofs
variable {base : CallF}
/-- some cells beside a graph -/
structure Cl (st : Ev.St) (own : Nat → Prop) (b n : Nat) (c : Nat → AV) : Prop where
  lt : b < st.nx
  off : ¬ own b
  len : rlen st.h b = n
  cell : ∀ i, i < n → rat st.h b i = c i
theorem Cl.step {st s : Ev.St} {own own' : Nat → Prop} {b n : Nat} {c : Nat → AV} (h : Cl st own b n c) (k : Step own own' st.bare s) : Cl s own' b n c :=
  ⟨Nat.lt_of_lt_of_le h.lt k.nx, fun h' => (k.own b h').elim h.off fun h2 => by have := h.lt; have : st.nx ≤ b := h2; omega, (rlen_same (k.keep b h.lt h.off)).trans h.len, fun i hi => (rat_same (k.keep b h.lt h.off) _).trans (h.cell i hi)⟩
theorem Cl.aft {st st' : Ev.St} {g p q m j p' b n : Nat} {ex' : Bool} {G G' : Gr} {c : Nat → AV} (h : Cl st (Own g p q m G) b n c) (A : Aft g p q m G j st p' ex' G' st') : Cl st' (Own g p' q m G') b n c := h.step A.step
theorem Cl.ext {st s : Ev.St} {own : Nat → Prop} {b n : Nat} {c : Nat → AV} (h : Cl st own b n c) (k : Kept st s) : Cl s own b n c :=
  ⟨Nat.lt_of_lt_of_le h.lt k.nx, h.off, (rlen_same (k.keep b h.lt)).trans h.len, fun i hi => (rat_same (k.keep b h.lt) _).trans (h.cell i hi)⟩
theorem Cl.own {st : Ev.St} {own own' : Nat → Prop} {b n : Nat} {c : Nat → AV} (h : Cl st own b n c) (k : ∀ x, own' x → own x ∨ st.nx ≤ x) : Cl st own' b n c :=
  ⟨h.lt, fun h' => (k b h').elim h.off fun h2 => by have := h.lt; omega, h.len, h.cell⟩

/-- the graph's inputs are its first gates -/
def Gr.Ins (G : Gr) (N : Nat) : Prop := G.inputs = (List.range N).map fun i => 2 * (i + 1)
theorem Gr.Ins.len {G : Gr} {N : Nat} (h : G.Ins N) : G.inputs.length = N := by rw [h]; simp
theorem Ins_new : Gr.new.Ins 0 := rfl
theorem Ins_more {G : Gr} {N : Nat} (h : G.Ins N) (hl : G.parts.length = N + 1) : G.more.Ins (N + 1) := by
  show G.inputs ++ [2 * G.parts.length] = _
  rw [h, hl, List.range_succ, List.map_append]; rfl
theorem Ins_moreN {G : Gr} {N : Nat} (h : G.Ins N) (hl : G.parts.length = N + 1) : ∀ k, (G.moreN k).Ins (N + k)
  | 0 => h
  | k + 1 => Ins_more (N := N + k) (Ins_moreN h hl k) (by rw [moreN_parts, hl]; omega)
theorem Ins_aft {st st' : Ev.St} {g p q m j p' N : Nat} {ex' : Bool} {G G' : Gr} (h : G.Ins N) (A : Aft g p q m G j st p' ex' G' st') : G'.Ins N := by
  show G'.inputs = _
  rw [A.inp]; exact h
theorem Ins_inp {G : Gr} {N : Nat} (h : G.Ins N) (nv : Nat) (f : Nat → Bool) (x : Nat) : ∀ k, k ≤ N → inpR G.inputs nv f k x = if 1 ≤ x ∧ x ≤ k then (if x - 1 < nv then f (x - 1) else false) else false
  | 0, _ => by rw [if_neg (by omega)]; rfl
  | k + 1, hk => by
    have e : G.inputs.getD k 0 / 2 = k + 1 := by
      rw [h, List.getD_eq_getElem?_getD, List.getElem?_map, List.getElem?_range (by omega)]
      show 2 * (k + 1) / 2 = k + 1
      omega
    unfold inpR
    rw [e, Ins_inp h nv f x k (by omega)]
    by_cases hx : x = k + 1
    · subst hx
      rw [if_pos rfl, if_pos (show 1 ≤ k + 1 ∧ k + 1 ≤ k + 1 by omega), Nat.add_sub_cancel]
    · rw [if_neg hx]
      by_cases hx2 : 1 ≤ x ∧ x ≤ k
      · rw [if_pos hx2, if_pos (show 1 ≤ x ∧ x ≤ k + 1 by omega)]
      · rw [if_neg hx2, if_neg (show ¬ (1 ≤ x ∧ x ≤ k + 1) by omega)]

theorem ev_moreN (G : Gr) (inp : Nat → Bool) : ∀ w i, i < w → ev inp (G.moreN w).parts (2 * (G.parts.length + i)) = inp (G.parts.length + i)
  | 0, i, h => absurd h (Nat.not_lt_zero i)
  | w + 1, i, h => by
    have hl := moreN_parts G w
    show ev inp ((G.moreN w).parts ++ [(0, 0)]) (2 * (G.parts.length + i)) = _
    by_cases hi : i = w
    · rw [hi, ← hl]; exact ev_input inp _
    · rw [ev_app inp _ _ (by omega)]
      exact ev_moreN G inp w i (by omega)

theorem Input_num (hb : ∀ f args st, f ≠ 12 → base f args st = .no) {g p q m w : Nat} {ex : Bool} {G : Gr} (st : Ev.St) (hfr : st.fr = []) (hG : GM st.h st.nx g p q m ex G) (hok : G.OK) (hw1 : 1 ≤ w) (hw2 : w ≤ 32) (hN : G.parts.length + w ≤ 1048576) (hI : G.inputs.length + w ≤ 1048576) (K : AV → Ev.St → Prop)
    (hK : ∀ bo p' q' ex' st', Step (Own g p q m G) (Own g p' q' m (G.moreN w)) st.bare (back st st') → GM (back st st').h (back st st').nx g p' q' m ex' (G.moreN w) → (G.moreN w).OK → G.Le (G.moreN w) → Vc (back st st') (Own g p' q' m (G.moreN w)) (G.moreN w) bo w (fun inp => num (fun i => inp (G.parts.length + i)) w) → K (.tup [.slice bo 0 w w 1 true, .int .i64 0]) st') :
    CW Try.prog base 20 [.ptr g 0, .int .i64 (w : Int)] st K := by
  refine vecInput_ok (fun f a s hf => hb _ a s (by intro h; subst h; simp at hf)) st hG hw1 hw2 hN hI K fun bo p' q' ex' st' f S GG _ E => ?_
  have S' : Step (Own g p q m G) (Own g p' q' m (G.moreN w)) st.bare (back st st') := ⟨S.nx, by show st.fr = []; exact hfr, S.keep, S.own⟩
  refine hK bo p' q' ex' st' S' GG (moreN_ok hok w hN) (moreN_le G w) ⟨_, hw1, ⟨E.lt, E.off, E.len, E.cell⟩, fun i hi => ?_, fun inp hi => ?_⟩
  · show 2 * (G.parts.length + i) / 2 < _
    rw [moreN_parts]; omega
  · exact num_congr hw1 fun i hi => ev_moreN G inp w i hi
theorem gInput_num (hb : ∀ f args st, f ≠ 12 → base f args st = .no) {g p q m : Nat} {ex : Bool} {G : Gr} (st : Ev.St) (hfr : st.fr = []) (hG : GM st.h st.nx g p q m ex G) (hok : G.OK) (hN : G.parts.length < 1048576) (hI : G.inputs.length < 1048576) (K : AV → Ev.St → Prop)
    (hK : ∀ p' q' st', Step (Own g p q m G) (Own g p' q' m G.more) st.bare (back st st') → GM (back st st').h (back st st').nx g p' q' m false G.more → G.more.OK → G.Le G.more → Eg G.more (2 * G.parts.length) (fun inp => inp G.parts.length) → K (.tup [.int .u32 ((2 * G.parts.length : Nat) : Int), .int .i64 0]) st') :
    CW Try.prog base 29 [.ptr g 0] st K := by
  refine Input_ok (fun f a s hf => hb _ a s (by intro h; subst h; simp at hf)) st hG hN hI K fun p' q' st' f S GG => ?_
  have S' : Step (Own g p q m G) (Own g p' q' m G.more) st.bare (back st st') := ⟨S.nx, by show st.fr = []; exact hfr, S.keep, S.own⟩
  refine hK p' q' st' S' GG (OK_input hok hN) ⟨[(0, 0)], rfl⟩ ⟨?_, fun inp hi => ev_input inp _⟩
  show 2 * G.parts.length / 2 < (G.parts ++ [(0, 0)]).length
  rw [List.length_append]
  simp only [List.length_cons, List.length_nil]
  omega
theorem unum_bt (n : Int) : ∀ k, unum (fun i => decide (bt n i = 1)) k = n % 2 ^ k
  | 0 => by
    show (0 : Int) = n % 1
    omega
  | k + 1 => by
    show unum (fun i => decide (bt n i = 1)) k + b2 (decide (bt n k = 1)) * 2 ^ k = _
    rw [unum_bt n k, mod_succ, Int.mul_comm (2 ^ k)]
    have h := bt_le n k
    have e : b2 (decide (bt n k = 1)) = (bt n k : Int) := by
      rcases (show bt n k = 0 ∨ bt n k = 1 by omega) with h | h <;> rw [h] <;> rfl
    rw [e]
theorem num_bt {n : Int} {w : Nat} (hw : 1 ≤ w) (h : fits n n w) : num (fun i => decide (bt n i = 1)) w = n := by
  have e := fits_mod h hw
  unfold num
  rw [unum_bt]
  rw [pow_cast] at e
  show n % 2 ^ w - b2 (decide (bt n (w - 1) = 1)) * 2 ^ w = n
  by_cases hb : bt n (w - 1) = 1
  · rw [if_pos hb] at e
    rw [decide_eq_true hb]
    show _ - 1 * _ = _
    rw [Int.one_mul]
    exact e
  · rw [if_neg hb] at e
    rw [decide_eq_false hb]
    show _ - 0 * _ = _
    omega
theorem Const_num (hb : ∀ f args st, f ≠ 12 → base f args st = .no) {g p q m : Nat} {ex : Bool} {G : Gr} (n : Int) (st : Ev.St) (hfr : st.fr = []) (hG : GM st.h st.nx g p q m ex G) (hok : G.OK) (K : AV → Ev.St → Prop) (hK0 : IsW n n 0 → K (.tup [.nils, .int .i64 111]) st.bare)
    (hK : ∀ w b st', 1 ≤ w → w ≤ 32 → IsW n n w → Kept st (back st st') → Vc (back st st') (Own g p q m G) G b w (fun _ => n) → K (.tup [.slice b 0 w w 1 true, .int .i64 0]) st') :
    CW Try.prog base 16 [.int .i64 n] st K := by
  refine Const_ok (fun f a s hf => hb _ a s (by rcases hf with rfl | rfl <;> decide)) n st K hK0 fun w b st' hw hW e hbn B => ?_
  have hf : fits n n w := by
    rcases hW.2 with ⟨h, _⟩ | ⟨_, _, h, _⟩
    · omega
    · exact h
  refine hK w b st' hw hW.1 hW ⟨e.nx, rfl, e.keep⟩ ⟨bt n, hw, ⟨B.1, fun h => by have := own_lt hG h; omega, B.2.1, fun i hi => (B.2.2 i hi).2⟩, fun i hi => ?_, fun inp hi => ?_⟩
  · have := bt_le n i
    have := hG.ppos
    show bt n i / 2 < _
    omega
  · have hn := num_bt hw hf
    refine Eq.trans (num_congr hw fun i hi' => ?_) hn
    have h := bt_le n i
    rcases (show bt n i = 0 ∨ bt n i = 1 by omega) with h | h <;> rw [h]
    · exact G_0 hok hi
    · exact G_1 hok hi
end Go.Sy
end

section
set_option maxRecDepth 100000
namespace Go.Sy
open Go.Ev Go.Proofs
variable {base : CallF}
theorem Vc.bk {s t : Ev.St} {own : Nat → Prop} {G : Gr} {b n : Nat} {F : (Nat → Bool) → Int} (h : Vc s own G b n F) : Vc (back t s) own G b n F := by
  obtain ⟨a, h1, h2, h3, h4⟩ := h
  exact ⟨a, h1, ⟨h2.lt, h2.off, h2.len, h2.cell⟩, h3, h4⟩
theorem Cl.two {st : Ev.St} {own : Nat → Prop} {b : Nat} {x y : AV} (h : Cl st own b 2 (fun i => [x, y].getD i .bad)) : 0 < rlen st.h b ∧ 1 < rlen st.h b ∧ rat st.h b 0 = x ∧ rat st.h b 1 = y :=
  ⟨by rw [h.len]; decide, by rw [h.len]; decide, h.cell 0 (by decide), h.cell 1 (by decide)⟩
theorem loadK3 (b o n zl : Nat) (z : List AV) (cs : T AV) (h : T AO) (hg : hget h b = some (.row n zl z cs)) (ho : o < n) : (loadK Try.prog 3).run (.ptr b o) h = some (rowCell zl z cs o) := by
  have e1 : Go.Ev.isAgg Try.prog 3 = some false := by kernel_rfl
  have e2 : Go.Ev.sizeOf Try.prog 3 = some 1 := by kernel_rfl
  have e3 : Nat.ble (Nat.succ o) n = true := ble_t ho
  simp only [loadK, e1, e2, hg, e3, cond_true]
theorem same3 {b o : Nat} {h : T AO} {n : Int} (ho : o < rlen h b) (hv : rat h b o = .int .i64 n) : sameAt Try.prog 3 (.ptr b o) (.int .i64 n) h = true := by
  obtain ⟨n', zl, z, cs, hg⟩ := isRow_pos (h := h) (b := b) (by omega)
  rw [rlen_get hg] at ho
  rw [rat_get hg] at hv
  unfold sameAt
  rw [loadK3 b o n' zl z cs h hg ho, hv]
  show eqAV (.int .i64 n) (.int .i64 n) = true
  have : ∀ a : Int, eqI a a = true := fun a => by cases a <;> simp [eqI]
  simp [eqAV, eqCellS, eqCell, eqK_self, this]
section
variable {P : Program} {st : Ev.St} {K : AV → Ev.St → Prop} {e : En}
theorem k_4 {i : Ins} {x y z w : A} {V : AV → AV → AV → AV → Ev.St → ER} (h1 : insA i = [x, y, z, w]) (h2 : ∀ ρ, execI P ρ i st = V (ρ x) (ρ y) (ρ z) (ρ w) st) (K : AV → Ev.St → Prop) :
    wK P base (.i i) e st K = on1 e x fun v => on1 e y fun u => on1 e z fun t => on1 e w fun r => onER (V v u t r st) K := by
  simp [wK, wI, h1, h2, on1, and_assoc]
theorem i_buildS4 (z : AV) (x y w u : A) : wK P base (.i (.buildS 4 1 [z] [((0, 1), x), ((1, 1), y), ((2, 1), w), ((3, 1), u)])) e st K = on1 e x fun v1 => on1 e y fun v2 => on1 e w fun v3 => on1 e u fun v4 => onER (buildSV 4 1 [z] [((0, 1), v1), ((1, 1), v2), ((2, 1), v3), ((3, 1), v4)] st) K := k_4 rfl (fun _ => rfl) K
theorem o_buildS4 {z v u t r : AV} (h : One v) (i : One u) (j : One t) (l : One r) (hk : ∀ st', Made st st' 4 (fun i => [v, u, t, r].getD i .bad) → K (.slice st.nx 0 4 4 1 true) st') : onER (buildSV 4 1 [z] [((0, 1), v), ((1, 1), u), ((2, 1), t), ((3, 1), r)] st) K := by
  have e2 : fillP (repeatC [z] 4) [((0, 1), v), ((1, 1), u), ((2, 1), t), ((3, 1), r)] = some [v, u, t, r] := by
    simp only [fillP, h.2.1, h.1, i.2.1, i.1, j.2.1, j.1, l.2.1, l.1, cond_true]
    rfl
  have e3 : lall AV.cell [v, u, t, r] = true := by simp only [lall, h.2.2, i.2.2, j.2.2, l.2.2, cond_true]
  simp only [buildSV, e2, onSome, e3, cond_true, force_eq, llen_eq, St.alloc_eq, onER]
  refine hk _ (made_row fun i hi => ?_)
  rw [rowCell_eq, get_e, Nat.mod_eq_of_lt hi]; rfl
theorem v_slSN (b n c sz m : Nat) (ex : Bool) (h : m ≤ c) (k : IntKind) : onER (slSV sz (.slice b 0 n c sz ex) (.int k (m : Int)) st) K = K (.slice b 0 m c sz ex) st := by
  have e : onNat (.int k (m : Int)) = fun F => F m := by funext F; show (force m F) = F m; rw [force_eq]
  have e1 : Nat.beq sz sz = true := beq_t rfl
  have e2 : Nat.ble 0 m = true := ble_t (Nat.zero_le _)
  have e3 : Nat.ble m c = true := ble_t h
  have e4 : Nat.add 0 (Nat.mul 0 sz) = 0 := by show 0 + 0 * sz = 0; omega
  have e5 : Nat.sub m 0 = m := rfl
  have e6 : Nat.sub c 0 = c := rfl
  simp only [slSV, optA, e, e1, e2, e3, cond_true, force_eq, e4, e5, e6, onER]
end
def lv2 (x y : AV) : Nat → AV := fun i => [x, y].getD i .bad

/-- what was there at a law's start stays -/
structure Kx (a : Ev.St) (own : Nat → Prop) (s : Ev.St) : Prop where
  kept : Kept a.bare s
  own : ∀ c, own c → a.nx ≤ c
theorem Kx.step {a st s : Ev.St} {own own' : Nat → Prop} (h : Kx a own st) (S : Step own own' st.bare s) : Kx a own' s :=
  ⟨⟨Nat.le_trans h.kept.nx S.nx, S.fr, fun c hc => (S.keep c (Nat.lt_of_lt_of_le hc h.kept.nx) fun ho => by have := h.own c ho; have : c < a.nx := hc; omega).trans (h.kept.keep c hc)⟩, fun c hc => (S.own c hc).elim (h.own c) fun h2 => Nat.le_trans h.kept.nx h2⟩
theorem Kx.aft {a st st' : Ev.St} {g p q m j p' : Nat} {ex' : Bool} {G G' : Gr} (h : Kx a (Own g p q m G) st) (A : Aft g p q m G j st p' ex' G' st') : Kx a (Own g p' q m G') st' := h.step A.step
theorem Kx.ext {a st s : Ev.St} {own : Nat → Prop} (h : Kx a own st) (k : Kept st s) : Kx a own s := ⟨h.kept.trans k, h.own⟩
def cntB (f : Nat → Bool) : Nat → Nat
  | 0 => 0
  | k + 1 => cntB f k + (if f k = true then 1 else 0)
theorem cntB_le (f : Nat → Bool) : ∀ k, cntB f k ≤ k
  | 0 => Nat.le_refl 0
  | k + 1 => by
    have := cntB_le f k
    show cntB f k + (if f k = true then 1 else 0) ≤ k + 1
    split <;> omega
theorem W11 {w : Nat} (h : IsW 1 1 w) : w = 2 := by
  refine h.uniq ⟨by decide, .inr ⟨Int.le_refl _, by decide, by unfold fits; decide, fun j h1 h2 => ?_⟩⟩
  have : j = 1 := by omega
  subst this
  unfold fits; decide
theorem orders_ok (hb : ∀ f args st, f ≠ 12 → base f args st = .no) (h12 : ∀ st, base 12 [] st = .ok (.bool true) st) (w0 w1 v0 v1 : Int) (st : Ev.St) : CW Try.prog base 6 [.agg [.int .i64 w0, .int .i64 w1], .agg [.int .i64 v0, .int .i64 v1]] st fun v st' => v = .bool true ∧ Ext st st' := by
  refine fn_rule l6 (hb _ _ _ (by decide)) ?_
  simp only [c6, entry, List.map_cons, List.map_nil, List.getD_cons_zero, List.getD_cons_succ]
  unfold b6
  simp (disch := first | assumption | decide | omega) only [qz3e, qz3f, qz3g, qz3h, qz3i, qz3j, qz00, qz01, qz02, qz03, qz04, qz05, qz06, qz07, qz08, qz09, qz0a, qz0b, qz0c, qz0d, qz0e, qz0f, qz0g, qz0h, qz0i, qz0j, qz0k, qz0l, qz0m, qz0n, qz0o, qz0p, qz0q, qz0r, qz0s, qz0t, qz0u, qz0v, qz0w, qz0x, qz0y, qz0z, qz10, qz11, qz12, qz13, qz14, qz15, qz16, qz17, qz18, qz19, qz1a, qz1b, qz1c, qz1d, qz1e, qz1f, qz1g, qz1h, qz1i, qz1j, qz1k, qz1l, qz1m, qz1n, qz1o, qz1p, qz1q, qz1r, qz1s, qz1t, qz1u, qz1v, qz1w, qz1x, qz1y, qz1z, qz20, qz21, qz22, qz23, qz24, qz25, qz26, qz27, qz28, qz29, qz2a, qz2b, qz2c, qz2d, qz2e, qz2f, qz2g, qz2h, qz2i, qz2j, qz2k, qz2l, qz2m, qz2n, qz2o, qz2p, qz2q, qz2r, qz2s, qz2t, qz2u, qz2v, qz2w, qz2x, qz2y, qz2z, qz30, qz31, qz32, qz33, qz34, qz35, qz36, qz37, qz38, qz39, qz3a, qz3b, qz3c, qz3d, Bool.not_true, Bool.not_false, List.cons_append, List.nil_append, List.append_nil]
  refine o_box rfl fun s1 m1 => ?_
  simp (disch := first | assumption | decide | omega) only [qz3e, qz3f, qz3g, qz3h, qz3i, qz3j, qz00, qz01, qz02, qz03, qz04, qz05, qz06, qz07, qz08, qz09, qz0a, qz0b, qz0c, qz0d, qz0e, qz0f, qz0g, qz0h, qz0i, qz0j, qz0k, qz0l, qz0m, qz0n, qz0o, qz0p, qz0q, qz0r, qz0s, qz0t, qz0u, qz0v, qz0w, qz0x, qz0y, qz0z, qz10, qz11, qz12, qz13, qz14, qz15, qz16, qz17, qz18, qz19, qz1a, qz1b, qz1c, qz1d, qz1e, qz1f, qz1g, qz1h, qz1i, qz1j, qz1k, qz1l, qz1m, qz1n, qz1o, qz1p, qz1q, qz1r, qz1s, qz1t, qz1u, qz1v, qz1w, qz1x, qz1y, qz1z, qz20, qz21, qz22, qz23, qz24, qz25, qz26, qz27, qz28, qz29, qz2a, qz2b, qz2c, qz2d, qz2e, qz2f, qz2g, qz2h, qz2i, qz2j, qz2k, qz2l, qz2m, qz2n, qz2o, qz2p, qz2q, qz2r, qz2s, qz2t, qz2u, qz2v, qz2w, qz2x, qz2y, qz2z, qz30, qz31, qz32, qz33, qz34, qz35, qz36, qz37, qz38, qz39, qz3a, qz3b, qz3c, qz3d, Bool.not_true, Bool.not_false, List.cons_append, List.nil_append, List.append_nil]
  refine o_box rfl fun s2 m2 => ?_
  have k2 : Kept st.bare s2 := ((Kept.refl _).made m1).made m2
  have n1 : s1.nx = st.nx + 1 := m1.nx
  have n2 : s2.nx = s1.nx + 1 := m2.nx
  have kb : hget s2.h st.bare.nx = hget s1.h st.bare.nx := m2.keep _ (by show st.nx ≠ s1.nx; omega)
  have C2 : Cl s2 (fun _ => False) st.bare.nx 2 (fun i => [AV.int .i64 w0, .int .i64 w1].getD i .bad) := ⟨by show st.nx < s2.nx; omega, id, (rlen_same kb).trans m1.len, fun i hi => (rat_same kb i).trans (m1.cell i hi)⟩
  have C3 : Cl s2 (fun _ => False) s1.nx 2 (fun i => [AV.int .i64 v0, .int .i64 v1].getD i .bad) := ⟨by omega, id, m2.len, fun i hi => m2.cell i hi⟩
  have hb2 : s1.nx < s2.nx := by omega
  have hb1 : st.bare.nx < s2.nx := by show st.nx < s2.nx; omega
  generalize st.bare.nx = bw at C2 hb1
  generalize s1.nx = bv at C3 hb2
  have sfr : s2.fr = [] := k2.fr
  simp (disch := first | assumption | decide | omega) only [qz3e, qz3f, qz3g, qz3h, qz3i, qz3j, qz00, qz01, qz02, qz03, qz04, qz05, qz06, qz07, qz08, qz09, qz0a, qz0b, qz0c, qz0d, qz0e, qz0f, qz0g, qz0h, qz0i, qz0j, qz0k, qz0l, qz0m, qz0n, qz0o, qz0p, qz0q, qz0r, qz0s, qz0t, qz0u, qz0v, qz0w, qz0x, qz0y, qz0z, qz10, qz11, qz12, qz13, qz14, qz15, qz16, qz17, qz18, qz19, qz1a, qz1b, qz1c, qz1d, qz1e, qz1f, qz1g, qz1h, qz1i, qz1j, qz1k, qz1l, qz1m, qz1n, qz1o, qz1p, qz1q, qz1r, qz1s, qz1t, qz1u, qz1v, qz1w, qz1x, qz1y, qz1z, qz20, qz21, qz22, qz23, qz24, qz25, qz26, qz27, qz28, qz29, qz2a, qz2b, qz2c, qz2d, qz2e, qz2f, qz2g, qz2h, qz2i, qz2j, qz2k, qz2l, qz2m, qz2n, qz2o, qz2p, qz2q, qz2r, qz2s, qz2t, qz2u, qz2v, qz2w, qz2x, qz2y, qz2z, qz30, qz31, qz32, qz33, qz34, qz35, qz36, qz37, qz38, qz39, qz3a, qz3b, qz3c, qz3d, Bool.not_true, Bool.not_false, List.cons_append, List.nil_append, List.append_nil]
  refine base_rule (h12 _) ?_
  obtain ⟨q0, q1, q2, q3⟩ := C2.two
  by_cases g1 : w0 < 1
  · simp (disch := first | assumption | decide | omega) only [qz3e, qz3f, qz3g, qz3h, qz3i, qz3j, qz3w, qz3x, q2, q3, qz00, qz01, qz02, qz03, qz04, qz05, qz06, qz07, qz08, qz09, qz0a, qz0b, qz0c, qz0d, qz0e, qz0f, qz0g, qz0h, qz0i, qz0j, qz0k, qz0l, qz0m, qz0n, qz0o, qz0p, qz0q, qz0r, qz0s, qz0t, qz0u, qz0v, qz0w, qz0x, qz0y, qz0z, qz10, qz11, qz12, qz13, qz14, qz15, qz16, qz17, qz18, qz19, qz1a, qz1b, qz1c, qz1d, qz1e, qz1f, qz1g, qz1h, qz1i, qz1j, qz1k, qz1l, qz1m, qz1n, qz1o, qz1p, qz1q, qz1r, qz1s, qz1t, qz1u, qz1v, qz1w, qz1x, qz1y, qz1z, qz20, qz21, qz22, qz23, qz24, qz25, qz26, qz27, qz28, qz29, qz2a, qz2b, qz2c, qz2d, qz2e, qz2f, qz2g, qz2h, qz2i, qz2j, qz2k, qz2l, qz2m, qz2n, qz2o, qz2p, qz2q, qz2r, qz2s, qz2t, qz2u, qz2v, qz2w, qz2x, qz2y, qz2z, qz30, qz31, qz32, qz33, qz34, qz35, qz36, qz37, qz38, qz39, qz3a, qz3b, qz3c, qz3d, Bool.not_true, Bool.not_false, List.cons_append, List.nil_append, List.append_nil]
    exact ⟨trivial, Ext.of st k2⟩
  · by_cases g2 : w1 < 1
    · simp (disch := first | assumption | decide | omega) only [qz3e, qz3f, qz3g, qz3h, qz3i, qz3j, qz3w, qz3x, q2, q3, qz00, qz01, qz02, qz03, qz04, qz05, qz06, qz07, qz08, qz09, qz0a, qz0b, qz0c, qz0d, qz0e, qz0f, qz0g, qz0h, qz0i, qz0j, qz0k, qz0l, qz0m, qz0n, qz0o, qz0p, qz0q, qz0r, qz0s, qz0t, qz0u, qz0v, qz0w, qz0x, qz0y, qz0z, qz10, qz11, qz12, qz13, qz14, qz15, qz16, qz17, qz18, qz19, qz1a, qz1b, qz1c, qz1d, qz1e, qz1f, qz1g, qz1h, qz1i, qz1j, qz1k, qz1l, qz1m, qz1n, qz1o, qz1p, qz1q, qz1r, qz1s, qz1t, qz1u, qz1v, qz1w, qz1x, qz1y, qz1z, qz20, qz21, qz22, qz23, qz24, qz25, qz26, qz27, qz28, qz29, qz2a, qz2b, qz2c, qz2d, qz2e, qz2f, qz2g, qz2h, qz2i, qz2j, qz2k, qz2l, qz2m, qz2n, qz2o, qz2p, qz2q, qz2r, qz2s, qz2t, qz2u, qz2v, qz2w, qz2x, qz2y, qz2z, qz30, qz31, qz32, qz33, qz34, qz35, qz36, qz37, qz38, qz39, qz3a, qz3b, qz3c, qz3d, Bool.not_true, Bool.not_false, List.cons_append, List.nil_append, List.append_nil]
      exact ⟨trivial, Ext.of st k2⟩
    · by_cases g3 : 16 < w0
      · simp (disch := first | assumption | decide | omega) only [qz3e, qz3f, qz3g, qz3h, qz3i, qz3j, qz3w, qz3x, q2, q3, qz00, qz01, qz02, qz03, qz04, qz05, qz06, qz07, qz08, qz09, qz0a, qz0b, qz0c, qz0d, qz0e, qz0f, qz0g, qz0h, qz0i, qz0j, qz0k, qz0l, qz0m, qz0n, qz0o, qz0p, qz0q, qz0r, qz0s, qz0t, qz0u, qz0v, qz0w, qz0x, qz0y, qz0z, qz10, qz11, qz12, qz13, qz14, qz15, qz16, qz17, qz18, qz19, qz1a, qz1b, qz1c, qz1d, qz1e, qz1f, qz1g, qz1h, qz1i, qz1j, qz1k, qz1l, qz1m, qz1n, qz1o, qz1p, qz1q, qz1r, qz1s, qz1t, qz1u, qz1v, qz1w, qz1x, qz1y, qz1z, qz20, qz21, qz22, qz23, qz24, qz25, qz26, qz27, qz28, qz29, qz2a, qz2b, qz2c, qz2d, qz2e, qz2f, qz2g, qz2h, qz2i, qz2j, qz2k, qz2l, qz2m, qz2n, qz2o, qz2p, qz2q, qz2r, qz2s, qz2t, qz2u, qz2v, qz2w, qz2x, qz2y, qz2z, qz30, qz31, qz32, qz33, qz34, qz35, qz36, qz37, qz38, qz39, qz3a, qz3b, qz3c, qz3d, Bool.not_true, Bool.not_false, List.cons_append, List.nil_append, List.append_nil]
        exact ⟨trivial, Ext.of st k2⟩
      · by_cases g4 : 16 < w1
        · simp (disch := first | assumption | decide | omega) only [qz3e, qz3f, qz3g, qz3h, qz3i, qz3j, qz3w, qz3x, q2, q3, qz00, qz01, qz02, qz03, qz04, qz05, qz06, qz07, qz08, qz09, qz0a, qz0b, qz0c, qz0d, qz0e, qz0f, qz0g, qz0h, qz0i, qz0j, qz0k, qz0l, qz0m, qz0n, qz0o, qz0p, qz0q, qz0r, qz0s, qz0t, qz0u, qz0v, qz0w, qz0x, qz0y, qz0z, qz10, qz11, qz12, qz13, qz14, qz15, qz16, qz17, qz18, qz19, qz1a, qz1b, qz1c, qz1d, qz1e, qz1f, qz1g, qz1h, qz1i, qz1j, qz1k, qz1l, qz1m, qz1n, qz1o, qz1p, qz1q, qz1r, qz1s, qz1t, qz1u, qz1v, qz1w, qz1x, qz1y, qz1z, qz20, qz21, qz22, qz23, qz24, qz25, qz26, qz27, qz28, qz29, qz2a, qz2b, qz2c, qz2d, qz2e, qz2f, qz2g, qz2h, qz2i, qz2j, qz2k, qz2l, qz2m, qz2n, qz2o, qz2p, qz2q, qz2r, qz2s, qz2t, qz2u, qz2v, qz2w, qz2x, qz2y, qz2z, qz30, qz31, qz32, qz33, qz34, qz35, qz36, qz37, qz38, qz39, qz3a, qz3b, qz3c, qz3d, Bool.not_true, Bool.not_false, List.cons_append, List.nil_append, List.append_nil]
          exact ⟨trivial, Ext.of st k2⟩
        · obtain ⟨n0, rfl⟩ : ∃ n : Nat, w0 = n := ⟨w0.toNat, by omega⟩
          obtain ⟨n1, rfl⟩ : ∃ n : Nat, w1 = n := ⟨w1.toNat, by omega⟩
          simp (disch := first | assumption | decide | omega) only [qz3e, qz3f, qz3g, qz3h, qz3i, qz3j, qz3w, qz3x, q2, q3, qz00, qz01, qz02, qz03, qz04, qz05, qz06, qz07, qz08, qz09, qz0a, qz0b, qz0c, qz0d, qz0e, qz0f, qz0g, qz0h, qz0i, qz0j, qz0k, qz0l, qz0m, qz0n, qz0o, qz0p, qz0q, qz0r, qz0s, qz0t, qz0u, qz0v, qz0w, qz0x, qz0y, qz0z, qz10, qz11, qz12, qz13, qz14, qz15, qz16, qz17, qz18, qz19, qz1a, qz1b, qz1c, qz1d, qz1e, qz1f, qz1g, qz1h, qz1i, qz1j, qz1k, qz1l, qz1m, qz1n, qz1o, qz1p, qz1q, qz1r, qz1s, qz1t, qz1u, qz1v, qz1w, qz1x, qz1y, qz1z, qz20, qz21, qz22, qz23, qz24, qz25, qz26, qz27, qz28, qz29, qz2a, qz2b, qz2c, qz2d, qz2e, qz2f, qz2g, qz2h, qz2i, qz2j, qz2k, qz2l, qz2m, qz2n, qz2o, qz2p, qz2q, qz2r, qz2s, qz2t, qz2u, qz2v, qz2w, qz2x, qz2y, qz2z, qz30, qz31, qz32, qz33, qz34, qz35, qz36, qz37, qz38, qz39, qz3a, qz3b, qz3c, qz3d, Bool.not_true, Bool.not_false, List.cons_append, List.nil_append, List.append_nil]
          refine NewG_ok (fun a s => hb _ a s (by decide)) _ _ fun g p m s3 e3 hg hp hm hG => ?_
          have k3 : Kept s2 (back s2 s3) := ⟨e3.nx, rfl, e3.keep⟩
          have C2 := C2.ext k3
          have C3 := C3.ext k3
          have ow : ∀ c, Own g p 0 m Gr.new c → s2.nx ≤ c := fun c hc => by
            rcases hc with h | h | h | ⟨h, _⟩
            · omega
            · omega
            · omega
            · exact absurd rfl h
          have C2 : Cl (back s2 s3) (Own g p 0 m Gr.new) bw 2 (fun i => [AV.int .i64 (n0 : Int), .int .i64 (n1 : Int)].getD i .bad) := ⟨C2.lt, fun h => by have := ow _ h; omega, C2.len, C2.cell⟩
          have C3 : Cl (back s2 s3) (Own g p 0 m Gr.new) bv 2 (fun i => [AV.int .i64 v0, .int .i64 v1].getD i .bad) := ⟨C3.lt, fun h => by have := ow _ h; omega, C3.len, C3.cell⟩
          have CK : Kx st (Own g p 0 m Gr.new) (back s2 s3) := ⟨k2.trans k3, fun c hc => Nat.le_trans k2.nx (ow c hc)⟩
          have hG : GM (back s2 s3).h (back s2 s3).nx g p 0 m true Gr.new := hG
          have hfr : (back s2 s3).fr = [] := sfr
          generalize back s2 s3 = t at C2 C3 CK hG hfr
          have hok := Gr.new_ok
          have hin := Ins_new
          have hlen : Gr.new.parts.length = 0 + 1 := rfl
          generalize hGd : Gr.new = G at C2 C3 CK hG hok hin hlen
          obtain ⟨q0, q1, q2, q3⟩ := C2.two
          simp (disch := first | assumption | decide | omega) only [qz3e, qz3f, qz3g, qz3h, qz3i, qz3j, qz3w, qz3x, q2, q3, qz00, qz01, qz02, qz03, qz04, qz05, qz06, qz07, qz08, qz09, qz0a, qz0b, qz0c, qz0d, qz0e, qz0f, qz0g, qz0h, qz0i, qz0j, qz0k, qz0l, qz0m, qz0n, qz0o, qz0p, qz0q, qz0r, qz0s, qz0t, qz0u, qz0v, qz0w, qz0x, qz0y, qz0z, qz10, qz11, qz12, qz13, qz14, qz15, qz16, qz17, qz18, qz19, qz1a, qz1b, qz1c, qz1d, qz1e, qz1f, qz1g, qz1h, qz1i, qz1j, qz1k, qz1l, qz1m, qz1n, qz1o, qz1p, qz1q, qz1r, qz1s, qz1t, qz1u, qz1v, qz1w, qz1x, qz1y, qz1z, qz20, qz21, qz22, qz23, qz24, qz25, qz26, qz27, qz28, qz29, qz2a, qz2b, qz2c, qz2d, qz2e, qz2f, qz2g, qz2h, qz2i, qz2j, qz2k, qz2l, qz2m, qz2n, qz2o, qz2p, qz2q, qz2r, qz2s, qz2t, qz2u, qz2v, qz2w, qz2x, qz2y, qz2z, qz30, qz31, qz32, qz33, qz34, qz35, qz36, qz37, qz38, qz39, qz3a, qz3b, qz3c, qz3d, Bool.not_true, Bool.not_false, List.cons_append, List.nil_append, List.append_nil]
          refine Input_num hb t hfr hG hok (w := n0) (by omega) (by omega) (by omega) (by rw [hin.len]; omega) _ fun ba p1 qq1 ex1 s4 S hG hok1 L Va => ?_
          have C2 := C2.step S
          have C3 := C3.step S
          have CK := CK.step S
          have hin1 := Ins_moreN hin hlen n0
          have hlen1 := moreN_parts G n0
          generalize hGd1 : G.moreN n0 = G1 at C2 C3 CK hG hok1 hin1 hlen1 Va
          generalize back t s4 = t1 at C2 C3 CK hG Va
          have hfr1 := CK.kept.fr
          obtain ⟨q0, q1, q2, q3⟩ := C2.two
          simp (disch := first | assumption | decide | omega) only [qz3e, qz3f, qz3g, qz3h, qz3i, qz3j, qz3w, qz3x, q2, q3, qz00, qz01, qz02, qz03, qz04, qz05, qz06, qz07, qz08, qz09, qz0a, qz0b, qz0c, qz0d, qz0e, qz0f, qz0g, qz0h, qz0i, qz0j, qz0k, qz0l, qz0m, qz0n, qz0o, qz0p, qz0q, qz0r, qz0s, qz0t, qz0u, qz0v, qz0w, qz0x, qz0y, qz0z, qz10, qz11, qz12, qz13, qz14, qz15, qz16, qz17, qz18, qz19, qz1a, qz1b, qz1c, qz1d, qz1e, qz1f, qz1g, qz1h, qz1i, qz1j, qz1k, qz1l, qz1m, qz1n, qz1o, qz1p, qz1q, qz1r, qz1s, qz1t, qz1u, qz1v, qz1w, qz1x, qz1y, qz1z, qz20, qz21, qz22, qz23, qz24, qz25, qz26, qz27, qz28, qz29, qz2a, qz2b, qz2c, qz2d, qz2e, qz2f, qz2g, qz2h, qz2i, qz2j, qz2k, qz2l, qz2m, qz2n, qz2o, qz2p, qz2q, qz2r, qz2s, qz2t, qz2u, qz2v, qz2w, qz2x, qz2y, qz2z, qz30, qz31, qz32, qz33, qz34, qz35, qz36, qz37, qz38, qz39, qz3a, qz3b, qz3c, qz3d, Bool.not_true, Bool.not_false, List.cons_append, List.nil_append, List.append_nil]
          refine Input_num hb t1 hfr1 hG hok1 (w := n1) (by omega) (by omega) (by omega) (by rw [hin1.len]; omega) _ fun bb p2 qq2 ex2 s5 S hG hok2 L Vb => ?_
          have C2 := C2.step S
          have C3 := C3.step S
          have CK := CK.step S
          have Va := Va.step S L
          have hin2 := Ins_moreN hin1 (by omega) n1
          have hlen2 := moreN_parts G1 n1
          generalize hGd2 : G1.moreN n1 = G2 at C2 C3 CK hG hok2 hin2 hlen2 Va Vb
          generalize back t1 s5 = t2 at C2 C3 CK hG Va Vb
          have hfr2 := CK.kept.fr
          simp (disch := first | assumption | decide | omega) only [qz3e, qz3f, qz3g, qz3h, qz3i, qz3j, qz00, qz01, qz02, qz03, qz04, qz05, qz06, qz07, qz08, qz09, qz0a, qz0b, qz0c, qz0d, qz0e, qz0f, qz0g, qz0h, qz0i, qz0j, qz0k, qz0l, qz0m, qz0n, qz0o, qz0p, qz0q, qz0r, qz0s, qz0t, qz0u, qz0v, qz0w, qz0x, qz0y, qz0z, qz10, qz11, qz12, qz13, qz14, qz15, qz16, qz17, qz18, qz19, qz1a, qz1b, qz1c, qz1d, qz1e, qz1f, qz1g, qz1h, qz1i, qz1j, qz1k, qz1l, qz1m, qz1n, qz1o, qz1p, qz1q, qz1r, qz1s, qz1t, qz1u, qz1v, qz1w, qz1x, qz1y, qz1z, qz20, qz21, qz22, qz23, qz24, qz25, qz26, qz27, qz28, qz29, qz2a, qz2b, qz2c, qz2d, qz2e, qz2f, qz2g, qz2h, qz2i, qz2j, qz2k, qz2l, qz2m, qz2n, qz2o, qz2p, qz2q, qz2r, qz2s, qz2t, qz2u, qz2v, qz2w, qz2x, qz2y, qz2z, qz30, qz31, qz32, qz33, qz34, qz35, qz36, qz37, qz38, qz39, qz3a, qz3b, qz3c, qz3d, Bool.not_true, Bool.not_false, List.cons_append, List.nil_append, List.append_nil]
          refine Const_num hb 1 t2 hfr2 hG hok2 _ (fun h => by have := W11 h; omega) fun w bo s6 _ _ hW k6 Vo => ?_
          have := W11 hW
          subst this
          have C2 := C2.ext k6
          have C3 := C3.ext k6
          have CK := CK.ext k6
          have Va := Va.ext k6
          have Vb := Vb.ext k6
          have hG := hG.keep k6.keep k6.nx
          generalize back t2 s6 = t3 at C2 C3 CK hG Va Vb Vo
          have hfr3 := CK.kept.fr
          simp (disch := first | assumption | decide | omega) only [qz3e, qz3f, qz3g, qz3h, qz3i, qz3j, qz00, qz01, qz02, qz03, qz04, qz05, qz06, qz07, qz08, qz09, qz0a, qz0b, qz0c, qz0d, qz0e, qz0f, qz0g, qz0h, qz0i, qz0j, qz0k, qz0l, qz0m, qz0n, qz0o, qz0p, qz0q, qz0r, qz0s, qz0t, qz0u, qz0v, qz0w, qz0x, qz0y, qz0z, qz10, qz11, qz12, qz13, qz14, qz15, qz16, qz17, qz18, qz19, qz1a, qz1b, qz1c, qz1d, qz1e, qz1f, qz1g, qz1h, qz1i, qz1j, qz1k, qz1l, qz1m, qz1n, qz1o, qz1p, qz1q, qz1r, qz1s, qz1t, qz1u, qz1v, qz1w, qz1x, qz1y, qz1z, qz20, qz21, qz22, qz23, qz24, qz25, qz26, qz27, qz28, qz29, qz2a, qz2b, qz2c, qz2d, qz2e, qz2f, qz2g, qz2h, qz2i, qz2j, qz2k, qz2l, qz2m, qz2n, qz2o, qz2p, qz2q, qz2r, qz2s, qz2t, qz2u, qz2v, qz2w, qz2x, qz2y, qz2z, qz30, qz31, qz32, qz33, qz34, qz35, qz36, qz37, qz38, qz39, qz3a, qz3b, qz3c, qz3d, Bool.not_true, Bool.not_false, List.cons_append, List.nil_append, List.append_nil]
          refine Less_num hb t3 hG hok2 (by omega) (by omega) Va Vb _ fun x p4 ex4 G4 s7 B E1 => ?_
          have B := B.back hfr3
          have C2 := C2.aft B
          have C3 := C3.aft B
          have CK := CK.aft B
          have Va := Va.aft B
          have Vb := Vb.aft B
          have Vo := Vo.aft B
          have hin4 := Ins_aft hin2 B
          generalize back t3 s7 = t4 at B C2 C3 CK Va Vb Vo
          have hfr4 := B.fr
          have hl4 := B.len
          have hG4 := B.gm
          have hok4 := B.ok
          simp (disch := first | assumption | decide | omega) only [qz3e, qz3f, qz3g, qz3h, qz3i, qz3j, qz00, qz01, qz02, qz03, qz04, qz05, qz06, qz07, qz08, qz09, qz0a, qz0b, qz0c, qz0d, qz0e, qz0f, qz0g, qz0h, qz0i, qz0j, qz0k, qz0l, qz0m, qz0n, qz0o, qz0p, qz0q, qz0r, qz0s, qz0t, qz0u, qz0v, qz0w, qz0x, qz0y, qz0z, qz10, qz11, qz12, qz13, qz14, qz15, qz16, qz17, qz18, qz19, qz1a, qz1b, qz1c, qz1d, qz1e, qz1f, qz1g, qz1h, qz1i, qz1j, qz1k, qz1l, qz1m, qz1n, qz1o, qz1p, qz1q, qz1r, qz1s, qz1t, qz1u, qz1v, qz1w, qz1x, qz1y, qz1z, qz20, qz21, qz22, qz23, qz24, qz25, qz26, qz27, qz28, qz29, qz2a, qz2b, qz2c, qz2d, qz2e, qz2f, qz2g, qz2h, qz2i, qz2j, qz2k, qz2l, qz2m, qz2n, qz2o, qz2p, qz2q, qz2r, qz2s, qz2t, qz2u, qz2v, qz2w, qz2x, qz2y, qz2z, qz30, qz31, qz32, qz33, qz34, qz35, qz36, qz37, qz38, qz39, qz3a, qz3b, qz3c, qz3d, Bool.not_true, Bool.not_false, List.cons_append, List.nil_append, List.append_nil]
          refine Less_num hb t4 hG4 hok4 (by omega) (by omega) Vb Va _ fun y p5 ex5 G5 s8 B E2 => ?_
          have B := B.back hfr4
          have C2 := C2.aft B
          have C3 := C3.aft B
          have CK := CK.aft B
          have Va := Va.aft B
          have Vb := Vb.aft B
          have Vo := Vo.aft B
          have E1 := E1.aft B
          have hin5 := Ins_aft hin4 B
          generalize back t4 s8 = t5 at B C2 C3 CK Va Vb Vo
          have hfr5 := B.fr
          have hl5 := B.len
          have hG5 := B.gm
          have hok5 := B.ok
          simp (disch := first | assumption | decide | omega) only [qz3e, qz3f, qz3g, qz3h, qz3i, qz3j, qz00, qz01, qz02, qz03, qz04, qz05, qz06, qz07, qz08, qz09, qz0a, qz0b, qz0c, qz0d, qz0e, qz0f, qz0g, qz0h, qz0i, qz0j, qz0k, qz0l, qz0m, qz0n, qz0o, qz0p, qz0q, qz0r, qz0s, qz0t, qz0u, qz0v, qz0w, qz0x, qz0y, qz0z, qz10, qz11, qz12, qz13, qz14, qz15, qz16, qz17, qz18, qz19, qz1a, qz1b, qz1c, qz1d, qz1e, qz1f, qz1g, qz1h, qz1i, qz1j, qz1k, qz1l, qz1m, qz1n, qz1o, qz1p, qz1q, qz1r, qz1s, qz1t, qz1u, qz1v, qz1w, qz1x, qz1y, qz1z, qz20, qz21, qz22, qz23, qz24, qz25, qz26, qz27, qz28, qz29, qz2a, qz2b, qz2c, qz2d, qz2e, qz2f, qz2g, qz2h, qz2i, qz2j, qz2k, qz2l, qz2m, qz2n, qz2o, qz2p, qz2q, qz2r, qz2s, qz2t, qz2u, qz2v, qz2w, qz2x, qz2y, qz2z, qz30, qz31, qz32, qz33, qz34, qz35, qz36, qz37, qz38, qz39, qz3a, qz3b, qz3c, qz3d, Bool.not_true, Bool.not_false, List.cons_append, List.nil_append, List.append_nil]
          refine Equal_num hb t5 hG5 hok5 (by omega) (by omega) Va Vb _ fun z p6 ex6 G6 s9 B E3 => ?_
          have B := B.back hfr5
          have C2 := C2.aft B
          have C3 := C3.aft B
          have CK := CK.aft B
          have Va := Va.aft B
          have Vb := Vb.aft B
          have Vo := Vo.aft B
          have E1 := E1.aft B
          have E2 := E2.aft B
          have hin6 := Ins_aft hin5 B
          generalize back t5 s9 = t6 at B C2 C3 CK Va Vb Vo
          have hfr6 := B.fr
          have hl6 := B.len
          have hG6 := B.gm
          have hok6 := B.ok
          simp (disch := first | assumption | decide | omega) only [qz3e, qz3f, qz3g, qz3h, qz3i, qz3j, qz00, qz01, qz02, qz03, qz04, qz05, qz06, qz07, qz08, qz09, qz0a, qz0b, qz0c, qz0d, qz0e, qz0f, qz0g, qz0h, qz0i, qz0j, qz0k, qz0l, qz0m, qz0n, qz0o, qz0p, qz0q, qz0r, qz0s, qz0t, qz0u, qz0v, qz0w, qz0x, qz0y, qz0z, qz10, qz11, qz12, qz13, qz14, qz15, qz16, qz17, qz18, qz19, qz1a, qz1b, qz1c, qz1d, qz1e, qz1f, qz1g, qz1h, qz1i, qz1j, qz1k, qz1l, qz1m, qz1n, qz1o, qz1p, qz1q, qz1r, qz1s, qz1t, qz1u, qz1v, qz1w, qz1x, qz1y, qz1z, qz20, qz21, qz22, qz23, qz24, qz25, qz26, qz27, qz28, qz29, qz2a, qz2b, qz2c, qz2d, qz2e, qz2f, qz2g, qz2h, qz2i, qz2j, qz2k, qz2l, qz2m, qz2n, qz2o, qz2p, qz2q, qz2r, qz2s, qz2t, qz2u, qz2v, qz2w, qz2x, qz2y, qz2z, qz30, qz31, qz32, qz33, qz34, qz35, qz36, qz37, qz38, qz39, qz3a, qz3b, qz3c, qz3d, Bool.not_true, Bool.not_false, List.cons_append, List.nil_append, List.append_nil]
          refine Sub_num hb t6 hG6 hok6 (by omega) (by omega) Va Vo _ fun bl p7 ex7 G7 s10 B Vl' => ?_
          have B := B.back hfr6
          have Vl' := Vl'.bk (t := t6)
          have C2 := C2.aft B
          have C3 := C3.aft B
          have CK := CK.aft B
          have Va := Va.aft B
          have E1 := E1.aft B
          have E2 := E2.aft B
          have E3 := E3.aft B
          have hin7 := Ins_aft hin6 B
          generalize back t6 s10 = t7 at B C2 C3 CK Va Vl'
          have hfr7 := B.fr
          have hl7 := B.len
          have hG7 := B.gm
          have hok7 := B.ok
          simp (disch := first | assumption | decide | omega) only [qz3e, qz3f, qz3g, qz3h, qz3i, qz3j, qz00, qz01, qz02, qz03, qz04, qz05, qz06, qz07, qz08, qz09, qz0a, qz0b, qz0c, qz0d, qz0e, qz0f, qz0g, qz0h, qz0i, qz0j, qz0k, qz0l, qz0m, qz0n, qz0o, qz0p, qz0q, qz0r, qz0s, qz0t, qz0u, qz0v, qz0w, qz0x, qz0y, qz0z, qz10, qz11, qz12, qz13, qz14, qz15, qz16, qz17, qz18, qz19, qz1a, qz1b, qz1c, qz1d, qz1e, qz1f, qz1g, qz1h, qz1i, qz1j, qz1k, qz1l, qz1m, qz1n, qz1o, qz1p, qz1q, qz1r, qz1s, qz1t, qz1u, qz1v, qz1w, qz1x, qz1y, qz1z, qz20, qz21, qz22, qz23, qz24, qz25, qz26, qz27, qz28, qz29, qz2a, qz2b, qz2c, qz2d, qz2e, qz2f, qz2g, qz2h, qz2i, qz2j, qz2k, qz2l, qz2m, qz2n, qz2o, qz2p, qz2q, qz2r, qz2s, qz2t, qz2u, qz2v, qz2w, qz2x, qz2y, qz2z, qz30, qz31, qz32, qz33, qz34, qz35, qz36, qz37, qz38, qz39, qz3a, qz3b, qz3c, qz3d, Bool.not_true, Bool.not_false, List.cons_append, List.nil_append, List.append_nil]
          refine Less_num hb t7 hG7 hok7 (by omega) (by omega) Vl' Va _ fun u p8 ex8 G8 s11 B E4 => ?_
          have B := B.back hfr7
          have C2 := C2.aft B
          have C3 := C3.aft B
          have CK := CK.aft B
          have E1 := E1.aft B
          have E2 := E2.aft B
          have E3 := E3.aft B
          have hin8 := Ins_aft hin7 B
          generalize back t7 s11 = t8 at B C2 C3 CK
          have hfr8 := B.fr
          have hl8 := B.len
          have hG8 := B.gm
          have hok8 := B.ok
          obtain ⟨q0, q1, q2, q3⟩ := C2.two
          obtain ⟨r0, r1, r2, r3⟩ := C3.two
          have CK0 := CK
          simp (disch := first | assumption | decide | omega) only [qz3e, qz3f, qz3g, qz3h, qz3i, qz3j, qz3k, qz3l, qz3m, qz3n, qz3o, qz3p, qz3q, qz3r, qz3s, qz3t, qz3u, qz3v, qz3w, qz3x, true_and, cond_true, q2, q3, r2, r3, qz00, qz01, qz02, qz03, qz04, qz05, qz06, qz07, qz08, qz09, qz0a, qz0b, qz0c, qz0d, qz0e, qz0f, qz0g, qz0h, qz0i, qz0j, qz0k, qz0l, qz0m, qz0n, qz0o, qz0p, qz0q, qz0r, qz0s, qz0t, qz0u, qz0v, qz0w, qz0x, qz0y, qz0z, qz10, qz11, qz12, qz13, qz14, qz15, qz16, qz17, qz18, qz19, qz1a, qz1b, qz1c, qz1d, qz1e, qz1f, qz1g, qz1h, qz1i, qz1j, qz1k, qz1l, qz1m, qz1n, qz1o, qz1p, qz1q, qz1r, qz1s, qz1t, qz1u, qz1v, qz1w, qz1x, qz1y, qz1z, qz20, qz21, qz22, qz23, qz24, qz25, qz26, qz27, qz28, qz29, qz2a, qz2b, qz2c, qz2d, qz2e, qz2f, qz2g, qz2h, qz2i, qz2j, qz2k, qz2l, qz2m, qz2n, qz2o, qz2p, qz2q, qz2r, qz2s, qz2t, qz2u, qz2v, qz2w, qz2x, qz2y, qz2z, qz30, qz31, qz32, qz33, qz34, qz35, qz36, qz37, qz38, qz39, qz3a, qz3b, qz3c, qz3d, Bool.not_true, Bool.not_false, List.cons_append, List.nil_append, List.append_nil]
          refine Bits_ok (fun f a s hf => hb _ a s (by rcases hf with rfl | rfl <;> decide)) (w := n0) (by omega) (by omega) t8 _ fun d1 s12 e12 hd1 B1 => ?_
          have k9 : Kept t8 (back t8 s12) := ⟨e12.nx, rfl, e12.keep⟩
          have B1 : Bl (back t8 s12) d1 n0 (bitN v0 n0) := ⟨B1.lt, B1.len, B1.cell⟩
          have x1 := same2 r1 r3
          have x2 := same3 q1 q3
          have C2 := C2.ext k9
          have C3 := C3.ext k9
          have CK := CK.ext k9
          have hG9 := hG8.keep k9.keep k9.nx
          generalize back t8 s12 = t9 at k9 B1 C2 C3 CK hG9
          have hfr9 := CK.kept.fr
          obtain ⟨q0, q1, q2, q3⟩ := C2.two
          obtain ⟨r0, r1, r2, r3⟩ := C3.two
          have x3 := same2 r1 r3
          have x4 := same3 q1 q3
          simp (disch := first | assumption | decide | omega) only [qz3e, qz3f, qz3g, qz3h, qz3i, qz3j, qz3k, qz3l, qz3m, qz3n, qz3o, qz3p, qz3q, qz3r, qz3s, qz3t, qz3u, qz3v, qz3w, qz3x, true_and, cond_true, q2, q3, r2, r3, x1, x2, x3, x4, qz00, qz01, qz02, qz03, qz04, qz05, qz06, qz07, qz08, qz09, qz0a, qz0b, qz0c, qz0d, qz0e, qz0f, qz0g, qz0h, qz0i, qz0j, qz0k, qz0l, qz0m, qz0n, qz0o, qz0p, qz0q, qz0r, qz0s, qz0t, qz0u, qz0v, qz0w, qz0x, qz0y, qz0z, qz10, qz11, qz12, qz13, qz14, qz15, qz16, qz17, qz18, qz19, qz1a, qz1b, qz1c, qz1d, qz1e, qz1f, qz1g, qz1h, qz1i, qz1j, qz1k, qz1l, qz1m, qz1n, qz1o, qz1p, qz1q, qz1r, qz1s, qz1t, qz1u, qz1v, qz1w, qz1x, qz1y, qz1z, qz20, qz21, qz22, qz23, qz24, qz25, qz26, qz27, qz28, qz29, qz2a, qz2b, qz2c, qz2d, qz2e, qz2f, qz2g, qz2h, qz2i, qz2j, qz2k, qz2l, qz2m, qz2n, qz2o, qz2p, qz2q, qz2r, qz2s, qz2t, qz2u, qz2v, qz2w, qz2x, qz2y, qz2z, qz30, qz31, qz32, qz33, qz34, qz35, qz36, qz37, qz38, qz39, qz3a, qz3b, qz3c, qz3d, Bool.not_true, Bool.not_false, List.cons_append, List.nil_append, List.append_nil]
          refine Bits_ok (fun f a s hf => hb _ a s (by rcases hf with rfl | rfl <;> decide)) (w := n1) (by omega) (by omega) t9 _ fun d2 s13 e13 hd2 B2 => ?_
          have k10 : Kept t9 (back t9 s13) := ⟨e13.nx, rfl, e13.keep⟩
          have B2 : Bl (back t9 s13) d2 n1 (bitN v1 n1) := ⟨B2.lt, B2.len, B2.cell⟩
          have B1 := B1.kept k10
          have CK := CK.ext k10
          have hG10 := hG9.keep k10.keep k10.nx
          have k11 := k9.trans k10
          generalize back t9 s13 = t10 at k10 k11 B1 B2 CK hG10
          have hfr10 := CK.kept.fr
          simp (disch := first | assumption | decide | omega) only [qz3e, qz3f, qz3g, qz3h, qz3i, qz3j, qz3k, qz3l, qz3m, qz3n, qz3o, qz3p, qz3q, qz3r, qz3s, qz3t, qz3u, qz3v, qz3w, qz3x, true_and, cond_true, qz00, qz01, qz02, qz03, qz04, qz05, qz06, qz07, qz08, qz09, qz0a, qz0b, qz0c, qz0d, qz0e, qz0f, qz0g, qz0h, qz0i, qz0j, qz0k, qz0l, qz0m, qz0n, qz0o, qz0p, qz0q, qz0r, qz0s, qz0t, qz0u, qz0v, qz0w, qz0x, qz0y, qz0z, qz10, qz11, qz12, qz13, qz14, qz15, qz16, qz17, qz18, qz19, qz1a, qz1b, qz1c, qz1d, qz1e, qz1f, qz1g, qz1h, qz1i, qz1j, qz1k, qz1l, qz1m, qz1n, qz1o, qz1p, qz1q, qz1r, qz1s, qz1t, qz1u, qz1v, qz1w, qz1x, qz1y, qz1z, qz20, qz21, qz22, qz23, qz24, qz25, qz26, qz27, qz28, qz29, qz2a, qz2b, qz2c, qz2d, qz2e, qz2f, qz2g, qz2h, qz2i, qz2j, qz2k, qz2l, qz2m, qz2n, qz2o, qz2p, qz2q, qz2r, qz2s, qz2t, qz2u, qz2v, qz2w, qz2x, qz2y, qz2z, qz30, qz31, qz32, qz33, qz34, qz35, qz36, qz37, qz38, qz39, qz3a, qz3b, qz3c, qz3d, Bool.not_true, Bool.not_false, List.cons_append, List.nil_append, List.append_nil]
          refine o_appM B1.len.symm (by omega) (by omega) (by omega) (by omega) (by rw [B2.len]; omega) fun s14 A14 => ?_
          have n14 := A14.nx
          have k12 : Kept t8 s14 := ⟨by have := k11.nx; omega, A14.fr.trans k11.fr, fun c hc => (A14.keep c (by have := k11.nx; omega) (by omega)).trans (k11.keep c hc)⟩
          have VV : Vl s14 (.slice t10.nx 0 (n0 + n1) (n0 + n1) 1 false) (n0 + n1) (fun i => if i < n0 then bitN v0 n0 i else bitN v1 n1 (i - n0)) := .inr ⟨t10.nx, 0, _, _, rfl, by omega, by rw [A14.len]; omega, fun i hi => by
            rw [Nat.zero_add, A14.cell i hi]
            by_cases h : i < n0
            · rw [if_pos h]; simp only [if_pos h]; exact B1.cell i h
            · rw [if_neg h, Nat.zero_add]; simp only [if_neg h]; exact B2.cell (i - n0) (by omega)⟩
          have hG11 := hG8.keep k12.keep k12.nx
          have CK : Kx st (Own g p8 qq2 m G8) s14 := ⟨⟨by have := CK.kept.nx; omega, A14.fr.trans CK.kept.fr, fun c hc => (A14.keep c (by have := CK.kept.nx; have : c < st.nx := hc; have : st.bare.nx = st.nx := rfl; omega) (by have := CK0.kept.nx; have : c < st.nx := hc; have : st.bare.nx = st.nx := rfl; omega)).trans (CK.kept.keep c hc)⟩, CK.own⟩
          have hfr11 := CK.kept.fr
          generalize t10.nx = dr at VV
          simp (disch := first | assumption | decide | omega) only [qz3e, qz3f, qz3g, qz3h, qz3i, qz3j, qz3k, qz3l, qz3m, qz3n, qz3o, qz3p, qz3q, qz3r, qz3s, qz3t, qz3u, qz3v, qz3w, qz3x, true_and, cond_true, i_buildS4, qz00, qz01, qz02, qz03, qz04, qz05, qz06, qz07, qz08, qz09, qz0a, qz0b, qz0c, qz0d, qz0e, qz0f, qz0g, qz0h, qz0i, qz0j, qz0k, qz0l, qz0m, qz0n, qz0o, qz0p, qz0q, qz0r, qz0s, qz0t, qz0u, qz0v, qz0w, qz0x, qz0y, qz0z, qz10, qz11, qz12, qz13, qz14, qz15, qz16, qz17, qz18, qz19, qz1a, qz1b, qz1c, qz1d, qz1e, qz1f, qz1g, qz1h, qz1i, qz1j, qz1k, qz1l, qz1m, qz1n, qz1o, qz1p, qz1q, qz1r, qz1s, qz1t, qz1u, qz1v, qz1w, qz1x, qz1y, qz1z, qz20, qz21, qz22, qz23, qz24, qz25, qz26, qz27, qz28, qz29, qz2a, qz2b, qz2c, qz2d, qz2e, qz2f, qz2g, qz2h, qz2i, qz2j, qz2k, qz2l, qz2m, qz2n, qz2o, qz2p, qz2q, qz2r, qz2s, qz2t, qz2u, qz2v, qz2w, qz2x, qz2y, qz2z, qz30, qz31, qz32, qz33, qz34, qz35, qz36, qz37, qz38, qz39, qz3a, qz3b, qz3c, qz3d, Bool.not_true, Bool.not_false, List.cons_append, List.nil_append, List.append_nil]
          refine o_buildS4 ⟨rfl, rfl, rfl⟩ ⟨rfl, rfl, rfl⟩ ⟨rfl, rfl, rfl⟩ ⟨rfl, rfl, rfl⟩ fun s15 m15 => ?_
          have k15 : Kept s14 s15 := (Kept.refl _).made m15
          have CK := CK.ext k15
          have VV := VV.keep k15.keep k15.nx
          have hG15 := hG11.keep k15.keep k15.nx
          have hR : Row s15 s14.nx 0 4 (fun i => [x, y, z, u].getD i 0) := ⟨by have := m15.nx; omega, by rw [m15.len]; decide, fun i hi => by
            rw [Nat.zero_add, m15.cell i hi]
            match i, hi with
            | 0, _ => rfl
            | 1, _ => rfl
            | 2, _ => rfl
            | 3, _ => rfl⟩
          have hfr15 := CK.kept.fr
          simp (disch := first | assumption | decide | omega) only [qz3e, qz3f, qz3g, qz3h, qz3i, qz3j, qz00, qz01, qz02, qz03, qz04, qz05, qz06, qz07, qz08, qz09, qz0a, qz0b, qz0c, qz0d, qz0e, qz0f, qz0g, qz0h, qz0i, qz0j, qz0k, qz0l, qz0m, qz0n, qz0o, qz0p, qz0q, qz0r, qz0s, qz0t, qz0u, qz0v, qz0w, qz0x, qz0y, qz0z, qz10, qz11, qz12, qz13, qz14, qz15, qz16, qz17, qz18, qz19, qz1a, qz1b, qz1c, qz1d, qz1e, qz1f, qz1g, qz1h, qz1i, qz1j, qz1k, qz1l, qz1m, qz1n, qz1o, qz1p, qz1q, qz1r, qz1s, qz1t, qz1u, qz1v, qz1w, qz1x, qz1y, qz1z, qz20, qz21, qz22, qz23, qz24, qz25, qz26, qz27, qz28, qz29, qz2a, qz2b, qz2c, qz2d, qz2e, qz2f, qz2g, qz2h, qz2i, qz2j, qz2k, qz2l, qz2m, qz2n, qz2o, qz2p, qz2q, qz2r, qz2s, qz2t, qz2u, qz2v, qz2w, qz2x, qz2y, qz2z, qz30, qz31, qz32, qz33, qz34, qz35, qz36, qz37, qz38, qz39, qz3a, qz3b, qz3c, qz3d, Bool.not_true, Bool.not_false, List.cons_append, List.nil_append, List.append_nil]
          refine EvalG_ok (fun f a s hf => hb _ a s (by intro h; subst h; simp at hf)) (by decide) (by omega) s15 hG15 hok8 (by rw [hin8.len]; omega) VV hR (fun i hi => by
            match i, hi with
            | 0, _ => exact E1.1
            | 1, _ => exact E2.1
            | 2, _ => exact E3.1
            | 3, _ => exact E4.1) _ fun bo2 s16 e16 _ hbo hbl hbv => ?_
          have hi0 := inpR_0 hok8 (n0 + n1) (fun i => if i < n0 then bitN v0 n0 i else bitN v1 n1 (i - n0)) G8.inputs.length (Nat.le_refl _)
          generalize inpR G8.inputs (n0 + n1) (fun i => if i < n0 then bitN v0 n0 i else bitN v1 n1 (i - n0)) G8.inputs.length = inp at hi0 hbv
          have u0 : rat (back s15 s16).h bo2 0 = .bool (decide (num (fun i => inp (G.parts.length + i)) n0 < num (fun i => inp (G1.parts.length + i)) n1)) := (hbv 0 (by decide)).trans (congrArg AV.bool (E1.2 inp hi0))
          have u1 : rat (back s15 s16).h bo2 1 = .bool (decide (num (fun i => inp (G1.parts.length + i)) n1 < num (fun i => inp (G.parts.length + i)) n0)) := (hbv 1 (by decide)).trans (congrArg AV.bool (E2.2 inp hi0))
          have u2 : rat (back s15 s16).h bo2 2 = .bool (decide (num (fun i => inp (G.parts.length + i)) n0 = num (fun i => inp (G1.parts.length + i)) n1)) := (hbv 2 (by decide)).trans (congrArg AV.bool (E3.2 inp hi0))
          have u3 : rat (back s15 s16).h bo2 3 = .bool (decide (num (fun i => inp (G.parts.length + i)) n0 - 1 < num (fun i => inp (G.parts.length + i)) n0)) := (hbv 3 (by decide)).trans (congrArg AV.bool (E4.2 inp hi0))
          have ul : rlen (back s15 s16).h bo2 = 4 := hbl
          have k16 : Kept s15 (back s15 s16) := ⟨e16.nx, rfl, e16.keep⟩
          have CK := CK.ext k16
          generalize back s15 s16 = t16 at CK u0 u1 u2 u3 ul
          generalize num (fun i => inp (G.parts.length + i)) n0 = A at u0 u1 u2 u3
          generalize num (fun i => inp (G1.parts.length + i)) n1 = D at u0 u1 u2 u3
          have hfr16 := CK.kept.fr
          have eS : ∀ (s : Ev.St) (K : AV → Ev.St → Prop), onER (slSV 1 (.slice bo2 0 4 4 1 true) (.int .i64 3) s) K = K (.slice bo2 0 3 4 1 true) s := fun s K => v_slSN (st := s) (K := K) bo2 4 4 1 3 true (by decide) .i64
          have eI : ∀ (s : Ev.St) (K : AV → Ev.St → Prop), onER (idxSV 1 (.slice bo2 0 4 4 1 true) (.int .i64 3) s) K = K (.ptr bo2 (0 + 3 * 1)) s := fun s K => qz39 (i := 3) (by decide) 1 .i64
          simp (disch := first | assumption | decide | omega) only [qz3e, qz3f, qz3g, qz3h, qz3i, qz3j, i_slSh, eS, qz00, qz01, qz02, qz03, qz04, qz05, qz06, qz07, qz08, qz09, qz0a, qz0b, qz0c, qz0d, qz0e, qz0f, qz0g, qz0h, qz0i, qz0j, qz0k, qz0l, qz0m, qz0n, qz0o, qz0p, qz0q, qz0r, qz0s, qz0t, qz0u, qz0v, qz0w, qz0x, qz0y, qz0z, qz10, qz11, qz12, qz13, qz14, qz15, qz16, qz17, qz18, qz19, qz1a, qz1b, qz1c, qz1d, qz1e, qz1f, qz1g, qz1h, qz1i, qz1j, qz1k, qz1l, qz1m, qz1n, qz1o, qz1p, qz1q, qz1r, qz1s, qz1t, qz1u, qz1v, qz1w, qz1x, qz1y, qz1z, qz20, qz21, qz22, qz23, qz24, qz25, qz26, qz27, qz28, qz29, qz2a, qz2b, qz2c, qz2d, qz2e, qz2f, qz2g, qz2h, qz2i, qz2j, qz2k, qz2l, qz2m, qz2n, qz2o, qz2p, qz2q, qz2r, qz2s, qz2t, qz2u, qz2v, qz2w, qz2x, qz2y, qz2z, qz30, qz31, qz32, qz33, qz34, qz35, qz36, qz37, qz38, qz39, qz3a, qz3b, qz3c, qz3d, Bool.not_true, Bool.not_false, List.cons_append, List.nil_append, List.append_nil]
          generalize hW : (fun i : Nat => [decide (A < D), decide (D < A), decide (A = D)].getD i false) = W
          have hWc : ∀ i, i < 3 → rat t16.h bo2 i = .bool (W i) := fun i hi => by
            subst hW
            match i, hi with
            | 0, _ => exact u0
            | 1, _ => exact u1
            | 2, _ => exact u2
          have hW3 : cntB W 3 = 1 := by
            subst hW
            show 0 + (if decide (A < D) = true then 1 else 0) + (if decide (D < A) = true then 1 else 0) + (if decide (A = D) = true then 1 else 0) = 1
            rcases Int.lt_trichotomy A D with h | h | h
            · rw [decide_eq_true h, decide_eq_false (by omega), decide_eq_false (by omega)]; rfl
            · rw [decide_eq_false (by omega), decide_eq_false (by omega), decide_eq_true h]; rfl
            · rw [decide_eq_false (by omega), decide_eq_true h, decide_eq_false (by omega)]; rfl
          have u3 : rat t16.h bo2 (0 + 3 * 1) = .bool true := by
            rw [show 0 + 3 * 1 = 3 by rfl, u3]
            rw [decide_eq_true (by omega)]
          have ul3 : 0 + 3 * 1 < rlen t16.h bo2 := by omega
          refine wC_loopH (fun mm L s => ∃ k : Nat, k ≤ 3 ∧ mm = 3 - k ∧ s = t16 ∧ Has L 23 (.slice bo2 0 4 4 1 true) ∧ Has L 25 (.int .i64 (cntB W k : Int)) ∧ Has L 152 (.slice bo2 0 3 4 1 true) ∧ Has L 153 (.int .i64 ((3 : Nat) : Int)) ∧ Has L 154 (.int .i64 (k : Int))) ?_ 3 ?_
          · rintro mm L s ⟨k, hk, rfl, rfl, i23, i25, i152, i153, i154⟩
            unfold Hold
            have cb := cntB_le W k
            by_cases hk3 : k < 3
            · have f1 : 0 + k * 1 < rlen s.h bo2 := by omega
              have f2 : rat s.h bo2 (0 + k * 1) = .bool (W k) := by rw [show 0 + k * 1 = k by omega]; exact hWc k hk3
              have f3 : cntB W (k + 1) = cntB W k + (if W k = true then 1 else 0) := rfl
              cases hWk : W k with
              | true =>
                rw [hWk] at f2 f3
                rw [if_pos rfl] at f3
                simp (disch := first | assumption | decide | omega) only [qz3e, qz3f, qz3g, qz3h, qz3i, qz3j, r_onh i23, r_onh i25, r_onh i152, r_onh i153, r_onh i154, f2, v_addN, qz00, qz01, qz02, qz03, qz04, qz05, qz06, qz07, qz08, qz09, qz0a, qz0b, qz0c, qz0d, qz0e, qz0f, qz0g, qz0h, qz0i, qz0j, qz0k, qz0l, qz0m, qz0n, qz0o, qz0p, qz0q, qz0r, qz0s, qz0t, qz0u, qz0v, qz0w, qz0x, qz0y, qz0z, qz10, qz11, qz12, qz13, qz14, qz15, qz16, qz17, qz18, qz19, qz1a, qz1b, qz1c, qz1d, qz1e, qz1f, qz1g, qz1h, qz1i, qz1j, qz1k, qz1l, qz1m, qz1n, qz1o, qz1p, qz1q, qz1r, qz1s, qz1t, qz1u, qz1v, qz1w, qz1x, qz1y, qz1z, qz20, qz21, qz22, qz23, qz24, qz25, qz26, qz27, qz28, qz29, qz2a, qz2b, qz2c, qz2d, qz2e, qz2f, qz2g, qz2h, qz2i, qz2j, qz2k, qz2l, qz2m, qz2n, qz2o, qz2p, qz2q, qz2r, qz2s, qz2t, qz2u, qz2v, qz2w, qz2x, qz2y, qz2z, qz30, qz31, qz32, qz33, qz34, qz35, qz36, qz37, qz38, qz39, qz3a, qz3b, qz3c, qz3d, Bool.not_true, Bool.not_false, List.cons_append, List.nil_append, List.append_nil]
                refine ⟨3 - (k + 1), by omega, k + 1, by omega, rfl, ?_⟩
                rw [f3]
                simp (disch := decide) only [z0, z1, h_here, h_skip, i23, i25, i152, i153, true_and, and_true]
              | false =>
                rw [hWk] at f2
                have f3 : cntB W (k + 1) = cntB W k := by rw [f3, hWk]; rfl
                simp (disch := first | assumption | decide | omega) only [qz3e, qz3f, qz3g, qz3h, qz3i, qz3j, r_onh i23, r_onh i25, r_onh i152, r_onh i153, r_onh i154, f2, v_addN, qz00, qz01, qz02, qz03, qz04, qz05, qz06, qz07, qz08, qz09, qz0a, qz0b, qz0c, qz0d, qz0e, qz0f, qz0g, qz0h, qz0i, qz0j, qz0k, qz0l, qz0m, qz0n, qz0o, qz0p, qz0q, qz0r, qz0s, qz0t, qz0u, qz0v, qz0w, qz0x, qz0y, qz0z, qz10, qz11, qz12, qz13, qz14, qz15, qz16, qz17, qz18, qz19, qz1a, qz1b, qz1c, qz1d, qz1e, qz1f, qz1g, qz1h, qz1i, qz1j, qz1k, qz1l, qz1m, qz1n, qz1o, qz1p, qz1q, qz1r, qz1s, qz1t, qz1u, qz1v, qz1w, qz1x, qz1y, qz1z, qz20, qz21, qz22, qz23, qz24, qz25, qz26, qz27, qz28, qz29, qz2a, qz2b, qz2c, qz2d, qz2e, qz2f, qz2g, qz2h, qz2i, qz2j, qz2k, qz2l, qz2m, qz2n, qz2o, qz2p, qz2q, qz2r, qz2s, qz2t, qz2u, qz2v, qz2w, qz2x, qz2y, qz2z, qz30, qz31, qz32, qz33, qz34, qz35, qz36, qz37, qz38, qz39, qz3a, qz3b, qz3c, qz3d, Bool.not_true, Bool.not_false, List.cons_append, List.nil_append, List.append_nil]
                refine ⟨3 - (k + 1), by omega, k + 1, by omega, rfl, ?_⟩
                rw [f3]
                simp (disch := decide) only [z0, z1, h_here, h_skip, i23, i25, i152, i153, true_and, and_true]
            · have hk3' : k = 3 := by omega
              subst hk3'
              have f4 : ((cntB W 3 : Nat) : Int) = 1 := by omega
              simp (disch := first | assumption | decide | omega) only [qz3e, qz3f, qz3g, qz3h, qz3i, qz3j, r_onh i23, r_onh i25, r_onh i152, r_onh i153, r_onh i154, eI, u3, qz00, qz01, qz02, qz03, qz04, qz05, qz06, qz07, qz08, qz09, qz0a, qz0b, qz0c, qz0d, qz0e, qz0f, qz0g, qz0h, qz0i, qz0j, qz0k, qz0l, qz0m, qz0n, qz0o, qz0p, qz0q, qz0r, qz0s, qz0t, qz0u, qz0v, qz0w, qz0x, qz0y, qz0z, qz10, qz11, qz12, qz13, qz14, qz15, qz16, qz17, qz18, qz19, qz1a, qz1b, qz1c, qz1d, qz1e, qz1f, qz1g, qz1h, qz1i, qz1j, qz1k, qz1l, qz1m, qz1n, qz1o, qz1p, qz1q, qz1r, qz1s, qz1t, qz1u, qz1v, qz1w, qz1x, qz1y, qz1z, qz20, qz21, qz22, qz23, qz24, qz25, qz26, qz27, qz28, qz29, qz2a, qz2b, qz2c, qz2d, qz2e, qz2f, qz2g, qz2h, qz2i, qz2j, qz2k, qz2l, qz2m, qz2n, qz2o, qz2p, qz2q, qz2r, qz2s, qz2t, qz2u, qz2v, qz2w, qz2x, qz2y, qz2z, qz30, qz31, qz32, qz33, qz34, qz35, qz36, qz37, qz38, qz39, qz3a, qz3b, qz3c, qz3d, Bool.not_true, Bool.not_false, List.cons_append, List.nil_append, List.append_nil]
              exact ⟨trivial, Ext.of st CK.kept⟩
          · have e0 : cntB W 0 = 0 := rfl
            refine ⟨0, by omega, rfl, ?_⟩
            rw [e0]
            simp (disch := decide) only [z0, z1, h_here, h_skip, true_and, and_true]
end Go.Sy
end

section
set_option maxRecDepth 100000
namespace Go.Sy
open Go.Ev Go.Proofs
/-- what a call of the law does, at every input -/
theorem orders_calls (w0 w1 v0 v1 : Int) (w : World) :
    Calls Try.prog 6 #[.agg #[.int .i64 w0, .int .i64 w1], .agg #[.int .i64 v0, .int .i64 v1]] w fun e w' => e = .returned (.bool true) ∧ w'.os = w.os ∧ w'.tape = w.tape ∧ w'.output = w.output ∧ w.heap.size ≤ w'.heap.size ∧ ∀ k, k < w.heap.size → w'.heap[k]? = w.heap[k]? := by
  have hs : Sim (fun _ => .unborn) st0.h st0.nx w :=
    ⟨fun b B S e => (by cases e), fun b e => (by cases e), fun b b' B S S' e => (by cases e), fun b e => absurd rfl e⟩
  have h := CW.calls try_okP (draw_ok try_mixed) base12_ok
    (orders_ok (base := base12) (fun f args st => base12_no f args st) (fun _ => rfl) w0 w1 v0 v1 st0) (ι := fun _ => .unborn) (w := w) (vs := #[.agg #[.int .i64 w0, .int .i64 w1], .agg #[.int .i64 v0, .int .i64 v1]]) hs
    (by
      simp only [VRs, VR]
      exact ⟨_, _, rfl, ⟨_, rfl, _, _, rfl, rfl, _, _, rfl, rfl, rfl⟩, _, _, rfl, ⟨_, rfl, _, _, rfl, rfl, _, _, rfl, rfl, rfl⟩, rfl⟩)
  refine Calls.mono h fun e w' ⟨v, x, st', he, hK, ι', _, hv, _, hg, _⟩ => ?_
  rw [hK.1] at hv
  simp only [VR] at hv
  rw [hv] at he
  exact ⟨he, hg.os, hg.tape, hg.output, hg.size, fun k hk => hg.keep k hk (fun b S e => by cases e)⟩
end Go.Sy
end
