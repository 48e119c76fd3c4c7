/-
  Contracts: the code lowered, what it does told by rules, and the contracts of the functions that the law reaches.
-/
import Derived.Test.YtfdncjlamfhppaaDoorSyD
set_option linter.unusedVariables false
set_option linter.unusedSimpArgs false
section
set_option maxRecDepth 100000
namespace Go.Sy
open Go.Ev Go.Proofs Go.RowKit
variable {base : CallF}
theorem x48_ok {l : List Nat} {a c : Nat} {rm : Bool} {L : Sl} {st : St} {Q : Out → Prop} (h0 : Has L 0 (.str l)) (h5 : Has L 5 (.int .i64 (a : Int))) (h6 : Has L 6 (.bool rm)) (h7 : Has L 7 (.int .u8 (c : Int))) (ha : a < l.length) (hl : l.length ≤ 4611686018427387904)
    (hk : Q (.go ((48, .bool (decide (rm = false ∧ c = 47 ∧ a + 1 < l.length ∧ l.getD (a + 1) 0 = 47))) :: L) st)) : wC Tryd.prog base x48 L st Q := by
  unfold x48
  cases rm with
  | true =>
    rw [decide_eq_false (by simp)] at hk
    simp (disch := first | decide | assumption | omega) only [r_onh h0, r_onh h5, r_onh h6, r_onh h7, qz00, qz01, qz02, qz03, qz04, qz05, qz06, qz07, qz08, qz09, qz0a, qz0b, qz0c, qz0d, qz0e, qz0f, qz0g, qz0h, qz0i, qz0j, qz0k, qz0l, qz0m, qz0n, qz0o, qz0p, qz0q, qz0r, qz0s, qz0t, qz0u, qz0v, qz0w, qz0x, qz0y, qz0z, qz10, qz11, qz12, qz13, qz14, qz15, qz16, qz17, qz18, qz19, qz1a, qz1b, qz1c, qz1d, qz1e, qz1f, qz1g, qz1h, qz1i, qz1j, qz1k, qz1l, qz1m, qz1n, qz1o, qz1p, qz1q, qz1r, qz1s, qz1t, qz1u, qz1v, qz1w, qz1x, qz1y, qz1z, qz20, qz21, qz22, qz23, qz24, qz25, qz26, qz27, qz28, qz29, qz2a, qz2b, qz2c, qz2d, qz2e, qz2f, qz2g, qz2h, qz2i, qz2j, qz2k, qz2l, qz2m, qz2n, qz2o, qz2p, qz2q, qz2r, qz2s, qz2t, qz2u, qz2v, qz2w, qz2x, qz2y, qz2z, qz30, qz31, qz32, qz33, qz34, qz35, qz36, qz37, qz38, qz39, qz3a, qz3b, qz3c, qz3d, Bool.not_true, Bool.not_false, List.cons_append, List.nil_append, List.append_nil]
    exact hk
  | false =>
    by_cases hc : c = 47
    · have hc' : (c : Int) = 47 := by omega
      by_cases hn : a + 1 < l.length
      · have hn' : ((a + 1 : Nat) : Int) < (l.length : Int) := by omega
        have eX : ∀ (s : St) (K : AV → St → Prop), onER (ixStrV (.str l) (.int .i64 ((a + 1 : Nat) : Int)) s) K = K (.int .u8 ((l.getD (a + 1) 0 : Nat) : Int)) s := fun s K => qz37 hn .i64
        generalize l.getD (a + 1) 0 = d at eX hk
        by_cases hd : d = 47
        · have hd' : (d : Int) = 47 := by omega
          rw [decide_eq_true ⟨rfl, hc, hn, hd⟩] at hk
          simp (disch := first | decide | assumption | omega) only [r_onh h0, r_onh h5, r_onh h6, r_onh h7, v_addN, eX, qz00, qz01, qz02, qz03, qz04, qz05, qz06, qz07, qz08, qz09, qz0a, qz0b, qz0c, qz0d, qz0e, qz0f, qz0g, qz0h, qz0i, qz0j, qz0k, qz0l, qz0m, qz0n, qz0o, qz0p, qz0q, qz0r, qz0s, qz0t, qz0u, qz0v, qz0w, qz0x, qz0y, qz0z, qz10, qz11, qz12, qz13, qz14, qz15, qz16, qz17, qz18, qz19, qz1a, qz1b, qz1c, qz1d, qz1e, qz1f, qz1g, qz1h, qz1i, qz1j, qz1k, qz1l, qz1m, qz1n, qz1o, qz1p, qz1q, qz1r, qz1s, qz1t, qz1u, qz1v, qz1w, qz1x, qz1y, qz1z, qz20, qz21, qz22, qz23, qz24, qz25, qz26, qz27, qz28, qz29, qz2a, qz2b, qz2c, qz2d, qz2e, qz2f, qz2g, qz2h, qz2i, qz2j, qz2k, qz2l, qz2m, qz2n, qz2o, qz2p, qz2q, qz2r, qz2s, qz2t, qz2u, qz2v, qz2w, qz2x, qz2y, qz2z, qz30, qz31, qz32, qz33, qz34, qz35, qz36, qz37, qz38, qz39, qz3a, qz3b, qz3c, qz3d, Bool.not_true, Bool.not_false, List.cons_append, List.nil_append, List.append_nil]
          exact hk
        · have hd' : (d : Int) ≠ 47 := by omega
          rw [decide_eq_false (fun h => hd h.2.2.2)] at hk
          simp (disch := first | decide | assumption | omega) only [r_onh h0, r_onh h5, r_onh h6, r_onh h7, v_addN, eX, qz00, qz01, qz02, qz03, qz04, qz05, qz06, qz07, qz08, qz09, qz0a, qz0b, qz0c, qz0d, qz0e, qz0f, qz0g, qz0h, qz0i, qz0j, qz0k, qz0l, qz0m, qz0n, qz0o, qz0p, qz0q, qz0r, qz0s, qz0t, qz0u, qz0v, qz0w, qz0x, qz0y, qz0z, qz10, qz11, qz12, qz13, qz14, qz15, qz16, qz17, qz18, qz19, qz1a, qz1b, qz1c, qz1d, qz1e, qz1f, qz1g, qz1h, qz1i, qz1j, qz1k, qz1l, qz1m, qz1n, qz1o, qz1p, qz1q, qz1r, qz1s, qz1t, qz1u, qz1v, qz1w, qz1x, qz1y, qz1z, qz20, qz21, qz22, qz23, qz24, qz25, qz26, qz27, qz28, qz29, qz2a, qz2b, qz2c, qz2d, qz2e, qz2f, qz2g, qz2h, qz2i, qz2j, qz2k, qz2l, qz2m, qz2n, qz2o, qz2p, qz2q, qz2r, qz2s, qz2t, qz2u, qz2v, qz2w, qz2x, qz2y, qz2z, qz30, qz31, qz32, qz33, qz34, qz35, qz36, qz37, qz38, qz39, qz3a, qz3b, qz3c, qz3d, Bool.not_true, Bool.not_false, List.cons_append, List.nil_append, List.append_nil]
          exact hk
      · have hn' : ¬ ((a + 1 : Nat) : Int) < (l.length : Int) := by omega
        rw [decide_eq_false (fun h => hn h.2.2.1)] at hk
        simp (disch := first | decide | assumption | omega) only [r_onh h0, r_onh h5, r_onh h6, r_onh h7, v_addN, qz00, qz01, qz02, qz03, qz04, qz05, qz06, qz07, qz08, qz09, qz0a, qz0b, qz0c, qz0d, qz0e, qz0f, qz0g, qz0h, qz0i, qz0j, qz0k, qz0l, qz0m, qz0n, qz0o, qz0p, qz0q, qz0r, qz0s, qz0t, qz0u, qz0v, qz0w, qz0x, qz0y, qz0z, qz10, qz11, qz12, qz13, qz14, qz15, qz16, qz17, qz18, qz19, qz1a, qz1b, qz1c, qz1d, qz1e, qz1f, qz1g, qz1h, qz1i, qz1j, qz1k, qz1l, qz1m, qz1n, qz1o, qz1p, qz1q, qz1r, qz1s, qz1t, qz1u, qz1v, qz1w, qz1x, qz1y, qz1z, qz20, qz21, qz22, qz23, qz24, qz25, qz26, qz27, qz28, qz29, qz2a, qz2b, qz2c, qz2d, qz2e, qz2f, qz2g, qz2h, qz2i, qz2j, qz2k, qz2l, qz2m, qz2n, qz2o, qz2p, qz2q, qz2r, qz2s, qz2t, qz2u, qz2v, qz2w, qz2x, qz2y, qz2z, qz30, qz31, qz32, qz33, qz34, qz35, qz36, qz37, qz38, qz39, qz3a, qz3b, qz3c, qz3d, Bool.not_true, Bool.not_false, List.cons_append, List.nil_append, List.append_nil]
        exact hk
    · have hc' : (c : Int) ≠ 47 := by omega
      rw [decide_eq_false (fun h => hc h.2.1)] at hk
      simp (disch := first | decide | assumption | omega) only [r_onh h0, r_onh h5, r_onh h6, r_onh h7, qz00, qz01, qz02, qz03, qz04, qz05, qz06, qz07, qz08, qz09, qz0a, qz0b, qz0c, qz0d, qz0e, qz0f, qz0g, qz0h, qz0i, qz0j, qz0k, qz0l, qz0m, qz0n, qz0o, qz0p, qz0q, qz0r, qz0s, qz0t, qz0u, qz0v, qz0w, qz0x, qz0y, qz0z, qz10, qz11, qz12, qz13, qz14, qz15, qz16, qz17, qz18, qz19, qz1a, qz1b, qz1c, qz1d, qz1e, qz1f, qz1g, qz1h, qz1i, qz1j, qz1k, qz1l, qz1m, qz1n, qz1o, qz1p, qz1q, qz1r, qz1s, qz1t, qz1u, qz1v, qz1w, qz1x, qz1y, qz1z, qz20, qz21, qz22, qz23, qz24, qz25, qz26, qz27, qz28, qz29, qz2a, qz2b, qz2c, qz2d, qz2e, qz2f, qz2g, qz2h, qz2i, qz2j, qz2k, qz2l, qz2m, qz2n, qz2o, qz2p, qz2q, qz2r, qz2s, qz2t, qz2u, qz2v, qz2w, qz2x, qz2y, qz2z, qz30, qz31, qz32, qz33, qz34, qz35, qz36, qz37, qz38, qz39, qz3a, qz3b, qz3c, qz3d, Bool.not_true, Bool.not_false, List.cons_append, List.nil_append, List.append_nil]
      exact hk
theorem x61_ok {c : Nat} {rm : Bool} {L : Sl} {st : St} {Q : Out → Prop} (h6 : Has L 6 (.bool rm)) (h7 : Has L 7 (.int .u8 (c : Int)))
    (hk : Q (.go ((61, .bool (rm || isBlank c)) :: L) st)) : wC Tryd.prog base x61 L st Q := by
  unfold x61
  unfold isBlank at hk
  cases rm with
  | true =>
    rw [Bool.true_or] at hk
    simp (disch := first | decide | assumption | omega) only [r_onh h6, r_onh h7, qz00, qz01, qz02, qz03, qz04, qz05, qz06, qz07, qz08, qz09, qz0a, qz0b, qz0c, qz0d, qz0e, qz0f, qz0g, qz0h, qz0i, qz0j, qz0k, qz0l, qz0m, qz0n, qz0o, qz0p, qz0q, qz0r, qz0s, qz0t, qz0u, qz0v, qz0w, qz0x, qz0y, qz0z, qz10, qz11, qz12, qz13, qz14, qz15, qz16, qz17, qz18, qz19, qz1a, qz1b, qz1c, qz1d, qz1e, qz1f, qz1g, qz1h, qz1i, qz1j, qz1k, qz1l, qz1m, qz1n, qz1o, qz1p, qz1q, qz1r, qz1s, qz1t, qz1u, qz1v, qz1w, qz1x, qz1y, qz1z, qz20, qz21, qz22, qz23, qz24, qz25, qz26, qz27, qz28, qz29, qz2a, qz2b, qz2c, qz2d, qz2e, qz2f, qz2g, qz2h, qz2i, qz2j, qz2k, qz2l, qz2m, qz2n, qz2o, qz2p, qz2q, qz2r, qz2s, qz2t, qz2u, qz2v, qz2w, qz2x, qz2y, qz2z, qz30, qz31, qz32, qz33, qz34, qz35, qz36, qz37, qz38, qz39, qz3a, qz3b, qz3c, qz3d, Bool.not_true, Bool.not_false, List.cons_append, List.nil_append, List.append_nil]
    exact hk
  | false =>
    rw [Bool.false_or] at hk
    by_cases h1 : c = 32
    · have h1' : (c : Int) = 32 := by omega
      rw [decide_eq_true h1, Bool.true_or, Bool.true_or] at hk
      simp (disch := first | decide | assumption | omega) only [r_onh h6, r_onh h7, qz00, qz01, qz02, qz03, qz04, qz05, qz06, qz07, qz08, qz09, qz0a, qz0b, qz0c, qz0d, qz0e, qz0f, qz0g, qz0h, qz0i, qz0j, qz0k, qz0l, qz0m, qz0n, qz0o, qz0p, qz0q, qz0r, qz0s, qz0t, qz0u, qz0v, qz0w, qz0x, qz0y, qz0z, qz10, qz11, qz12, qz13, qz14, qz15, qz16, qz17, qz18, qz19, qz1a, qz1b, qz1c, qz1d, qz1e, qz1f, qz1g, qz1h, qz1i, qz1j, qz1k, qz1l, qz1m, qz1n, qz1o, qz1p, qz1q, qz1r, qz1s, qz1t, qz1u, qz1v, qz1w, qz1x, qz1y, qz1z, qz20, qz21, qz22, qz23, qz24, qz25, qz26, qz27, qz28, qz29, qz2a, qz2b, qz2c, qz2d, qz2e, qz2f, qz2g, qz2h, qz2i, qz2j, qz2k, qz2l, qz2m, qz2n, qz2o, qz2p, qz2q, qz2r, qz2s, qz2t, qz2u, qz2v, qz2w, qz2x, qz2y, qz2z, qz30, qz31, qz32, qz33, qz34, qz35, qz36, qz37, qz38, qz39, qz3a, qz3b, qz3c, qz3d, Bool.not_true, Bool.not_false, List.cons_append, List.nil_append, List.append_nil]
      exact hk
    · have h1' : (c : Int) ≠ 32 := by omega
      by_cases h2 : c = 9
      · have h2' : (c : Int) = 9 := by omega
        rw [decide_eq_true h2, Bool.or_true, Bool.true_or] at hk
        simp (disch := first | decide | assumption | omega) only [r_onh h6, r_onh h7, qz00, qz01, qz02, qz03, qz04, qz05, qz06, qz07, qz08, qz09, qz0a, qz0b, qz0c, qz0d, qz0e, qz0f, qz0g, qz0h, qz0i, qz0j, qz0k, qz0l, qz0m, qz0n, qz0o, qz0p, qz0q, qz0r, qz0s, qz0t, qz0u, qz0v, qz0w, qz0x, qz0y, qz0z, qz10, qz11, qz12, qz13, qz14, qz15, qz16, qz17, qz18, qz19, qz1a, qz1b, qz1c, qz1d, qz1e, qz1f, qz1g, qz1h, qz1i, qz1j, qz1k, qz1l, qz1m, qz1n, qz1o, qz1p, qz1q, qz1r, qz1s, qz1t, qz1u, qz1v, qz1w, qz1x, qz1y, qz1z, qz20, qz21, qz22, qz23, qz24, qz25, qz26, qz27, qz28, qz29, qz2a, qz2b, qz2c, qz2d, qz2e, qz2f, qz2g, qz2h, qz2i, qz2j, qz2k, qz2l, qz2m, qz2n, qz2o, qz2p, qz2q, qz2r, qz2s, qz2t, qz2u, qz2v, qz2w, qz2x, qz2y, qz2z, qz30, qz31, qz32, qz33, qz34, qz35, qz36, qz37, qz38, qz39, qz3a, qz3b, qz3c, qz3d, Bool.not_true, Bool.not_false, List.cons_append, List.nil_append, List.append_nil]
        exact hk
      · have h2' : (c : Int) ≠ 9 := by omega
        by_cases h3 : c = 10
        · have h3' : (c : Int) = 10 := by omega
          rw [decide_eq_true h3, Bool.or_true] at hk
          simp (disch := first | decide | assumption | omega) only [r_onh h6, r_onh h7, qz00, qz01, qz02, qz03, qz04, qz05, qz06, qz07, qz08, qz09, qz0a, qz0b, qz0c, qz0d, qz0e, qz0f, qz0g, qz0h, qz0i, qz0j, qz0k, qz0l, qz0m, qz0n, qz0o, qz0p, qz0q, qz0r, qz0s, qz0t, qz0u, qz0v, qz0w, qz0x, qz0y, qz0z, qz10, qz11, qz12, qz13, qz14, qz15, qz16, qz17, qz18, qz19, qz1a, qz1b, qz1c, qz1d, qz1e, qz1f, qz1g, qz1h, qz1i, qz1j, qz1k, qz1l, qz1m, qz1n, qz1o, qz1p, qz1q, qz1r, qz1s, qz1t, qz1u, qz1v, qz1w, qz1x, qz1y, qz1z, qz20, qz21, qz22, qz23, qz24, qz25, qz26, qz27, qz28, qz29, qz2a, qz2b, qz2c, qz2d, qz2e, qz2f, qz2g, qz2h, qz2i, qz2j, qz2k, qz2l, qz2m, qz2n, qz2o, qz2p, qz2q, qz2r, qz2s, qz2t, qz2u, qz2v, qz2w, qz2x, qz2y, qz2z, qz30, qz31, qz32, qz33, qz34, qz35, qz36, qz37, qz38, qz39, qz3a, qz3b, qz3c, qz3d, Bool.not_true, Bool.not_false, List.cons_append, List.nil_append, List.append_nil]
          exact hk
        · have h3' : (c : Int) ≠ 10 := by omega
          rw [decide_eq_false h1, decide_eq_false h2, decide_eq_false h3] at hk
          simp (disch := first | decide | assumption | omega) only [r_onh h6, r_onh h7, qz00, qz01, qz02, qz03, qz04, qz05, qz06, qz07, qz08, qz09, qz0a, qz0b, qz0c, qz0d, qz0e, qz0f, qz0g, qz0h, qz0i, qz0j, qz0k, qz0l, qz0m, qz0n, qz0o, qz0p, qz0q, qz0r, qz0s, qz0t, qz0u, qz0v, qz0w, qz0x, qz0y, qz0z, qz10, qz11, qz12, qz13, qz14, qz15, qz16, qz17, qz18, qz19, qz1a, qz1b, qz1c, qz1d, qz1e, qz1f, qz1g, qz1h, qz1i, qz1j, qz1k, qz1l, qz1m, qz1n, qz1o, qz1p, qz1q, qz1r, qz1s, qz1t, qz1u, qz1v, qz1w, qz1x, qz1y, qz1z, qz20, qz21, qz22, qz23, qz24, qz25, qz26, qz27, qz28, qz29, qz2a, qz2b, qz2c, qz2d, qz2e, qz2f, qz2g, qz2h, qz2i, qz2j, qz2k, qz2l, qz2m, qz2n, qz2o, qz2p, qz2q, qz2r, qz2s, qz2t, qz2u, qz2v, qz2w, qz2x, qz2y, qz2z, qz30, qz31, qz32, qz33, qz34, qz35, qz36, qz37, qz38, qz39, qz3a, qz3b, qz3c, qz3d, Bool.not_true, Bool.not_false, List.cons_append, List.nil_append, List.append_nil]
          exact hk
theorem xA_ok {a n tb b : Nat} {acc : List Tk} {t : Tk} {L : Sl} {s : St} {Q : Out → Prop} (h4 : Has L 4 (rsV b acc)) (h5 : Has L 5 (.int .i64 (a : Int))) (h8 : Has L 8 (.int .i64 (n : Int))) (h11 : Has L 11 (.ptr tb 0)) (T : T5 s tb t) (R : Rs s b acc) (hlen : acc.length ≤ 1000000) (han : a + n ≤ 4611686018427387904)
    (hk : ∀ s' b', s.nx ≤ s'.nx → s'.fr = s.fr → (∀ x, x < s.nx → x ≠ b → hget s'.h x = hget s.h x) → s.nx ≤ b' → Rs s' b' (acc ++ [t]) → Q (.go ((5, .int .i64 ((a + n : Nat) : Int)) :: (4, rsV b' (acc ++ [t])) :: L) s')) : wC Tryd.prog base xA L s Q := by
  unfold xA
  simp (disch := first | decide | assumption | omega) only [r_onh h4, r_onh h11, T.ld, i_buildS15, qz00, qz01, qz02, qz03, qz04, qz05, qz06, qz07, qz08, qz09, qz0a, qz0b, qz0c, qz0d, qz0e, qz0f, qz0g, qz0h, qz0i, qz0j, qz0k, qz0l, qz0m, qz0n, qz0o, qz0p, qz0q, qz0r, qz0s, qz0t, qz0u, qz0v, qz0w, qz0x, qz0y, qz0z, qz10, qz11, qz12, qz13, qz14, qz15, qz16, qz17, qz18, qz19, qz1a, qz1b, qz1c, qz1d, qz1e, qz1f, qz1g, qz1h, qz1i, qz1j, qz1k, qz1l, qz1m, qz1n, qz1o, qz1p, qz1q, qz1r, qz1s, qz1t, qz1u, qz1v, qz1w, qz1x, qz1y, qz1z, qz20, qz21, qz22, qz23, qz24, qz25, qz26, qz27, qz28, qz29, qz2a, qz2b, qz2c, qz2d, qz2e, qz2f, qz2g, qz2h, qz2i, qz2j, qz2k, qz2l, qz2m, qz2n, qz2o, qz2p, qz2q, qz2r, qz2s, qz2t, qz2u, qz2v, qz2w, qz2x, qz2y, qz2z, qz30, qz31, qz32, qz33, qz34, qz35, qz36, qz37, qz38, qz39, qz3a, qz3b, qz3c, qz3d, Bool.not_true, Bool.not_false, List.cons_append, List.nil_append, List.append_nil]
  refine o_buildST t fun s1 m1 => ?_
  have n1 := m1.nx
  simp (disch := first | decide | assumption | omega) only [qz00, qz01, qz02, qz03, qz04, qz05, qz06, qz07, qz08, qz09, qz0a, qz0b, qz0c, qz0d, qz0e, qz0f, qz0g, qz0h, qz0i, qz0j, qz0k, qz0l, qz0m, qz0n, qz0o, qz0p, qz0q, qz0r, qz0s, qz0t, qz0u, qz0v, qz0w, qz0x, qz0y, qz0z, qz10, qz11, qz12, qz13, qz14, qz15, qz16, qz17, qz18, qz19, qz1a, qz1b, qz1c, qz1d, qz1e, qz1f, qz1g, qz1h, qz1i, qz1j, qz1k, qz1l, qz1m, qz1n, qz1o, qz1p, qz1q, qz1r, qz1s, qz1t, qz1u, qz1v, qz1w, qz1x, qz1y, qz1z, qz20, qz21, qz22, qz23, qz24, qz25, qz26, qz27, qz28, qz29, qz2a, qz2b, qz2c, qz2d, qz2e, qz2f, qz2g, qz2h, qz2i, qz2j, qz2k, qz2l, qz2m, qz2n, qz2o, qz2p, qz2q, qz2r, qz2s, qz2t, qz2u, qz2v, qz2w, qz2x, qz2y, qz2z, qz30, qz31, qz32, qz33, qz34, qz35, qz36, qz37, qz38, qz39, qz3a, qz3b, qz3c, qz3d, Bool.not_true, Bool.not_false, List.cons_append, List.nil_append, List.append_nil]
  refine o_appR5 (R.keep (by omega) (m1.keep b (by have := R.lt; omega))) hlen m1.len (fun i hi => m1.cell i hi) fun s2 q1 q2 q3 R2 T2 => ?_
  have eA := fun (s : St) (K : AV → St → Prop) => v_addNN (a := a) (b := n) (by omega) s K
  simp (disch := first | decide | assumption | omega) only [r_onh h5, r_onh h8, eA, qz00, qz01, qz02, qz03, qz04, qz05, qz06, qz07, qz08, qz09, qz0a, qz0b, qz0c, qz0d, qz0e, qz0f, qz0g, qz0h, qz0i, qz0j, qz0k, qz0l, qz0m, qz0n, qz0o, qz0p, qz0q, qz0r, qz0s, qz0t, qz0u, qz0v, qz0w, qz0x, qz0y, qz0z, qz10, qz11, qz12, qz13, qz14, qz15, qz16, qz17, qz18, qz19, qz1a, qz1b, qz1c, qz1d, qz1e, qz1f, qz1g, qz1h, qz1i, qz1j, qz1k, qz1l, qz1m, qz1n, qz1o, qz1p, qz1q, qz1r, qz1s, qz1t, qz1u, qz1v, qz1w, qz1x, qz1y, qz1z, qz20, qz21, qz22, qz23, qz24, qz25, qz26, qz27, qz28, qz29, qz2a, qz2b, qz2c, qz2d, qz2e, qz2f, qz2g, qz2h, qz2i, qz2j, qz2k, qz2l, qz2m, qz2n, qz2o, qz2p, qz2q, qz2r, qz2s, qz2t, qz2u, qz2v, qz2w, qz2x, qz2y, qz2z, qz30, qz31, qz32, qz33, qz34, qz35, qz36, qz37, qz38, qz39, qz3a, qz3b, qz3c, qz3d, Bool.not_true, Bool.not_false, List.cons_append, List.nil_append, List.append_nil]
  exact hk s2 s1.nx (by omega) (q2.trans m1.fr) (fun x hx hb => (q3 x (by omega) hb).trans (m1.keep x (by omega))) (by omega) R2
theorem valN_bound {s : List Nat} (hs : ∀ c ∈ s, isDigit c = true) : valN s + 1 ≤ 10 ^ s.length := by
  have := valN_acc s 0 hs
  rw [Nat.zero_add, Nat.one_mul] at this
  exact this
theorem valN_snoc (s : List Nat) (c : Nat) : valN (s ++ [c]) = 10 * valN s + (c - 48) := by
  unfold valN
  rw [List.foldl_append]; rfl
theorem digit_range {c : Nat} (h : isDigit c = true) : 48 ≤ c ∧ c ≤ 57 := by
  unfold isDigit at h
  simp at h
  omega
set_option maxHeartbeats 1000000 in
theorem xN_ok {n tb : Nat} {t : Tk} {L : Sl} {s : St} {Q : Out → Prop} (h8 : Has L 8 (.int .i64 (n : Int))) (h11 : Has L 11 (.ptr tb 0)) (T : T5 s tb t) (hn : t.text.length = n) (hn2 : n ≤ 1000000) (hz : t.num = 0) (hd : ∀ c ∈ t.text, isDigit c = true) (hfr : s.fr = [])
    (hk : ∀ L' s', (∀ x v, x < 12 → Has L x v → Has L' x v) → s'.nx = s.nx → s'.fr = s.fr → (∀ x, x ≠ tb → hget s'.h x = hget s.h x) → T5 s' tb { t with num := valN (t.text.take (min n 8)) } → Q (.go L' s')) : wC Tryd.prog base xN L s Q := by
  unfold xN
  simp (disch := first | decide | assumption | omega) only [qz00, qz01, qz02, qz03, qz04, qz05, qz06, qz07, qz08, qz09, qz0a, qz0b, qz0c, qz0d, qz0e, qz0f, qz0g, qz0h, qz0i, qz0j, qz0k, qz0l, qz0m, qz0n, qz0o, qz0p, qz0q, qz0r, qz0s, qz0t, qz0u, qz0v, qz0w, qz0x, qz0y, qz0z, qz10, qz11, qz12, qz13, qz14, qz15, qz16, qz17, qz18, qz19, qz1a, qz1b, qz1c, qz1d, qz1e, qz1f, qz1g, qz1h, qz1i, qz1j, qz1k, qz1l, qz1m, qz1n, qz1o, qz1p, qz1q, qz1r, qz1s, qz1t, qz1u, qz1v, qz1w, qz1x, qz1y, qz1z, qz20, qz21, qz22, qz23, qz24, qz25, qz26, qz27, qz28, qz29, qz2a, qz2b, qz2c, qz2d, qz2e, qz2f, qz2g, qz2h, qz2i, qz2j, qz2k, qz2l, qz2m, qz2n, qz2o, qz2p, qz2q, qz2r, qz2s, qz2t, qz2u, qz2v, qz2w, qz2x, qz2y, qz2z, qz30, qz31, qz32, qz33, qz34, qz35, qz36, qz37, qz38, qz39, qz3a, qz3b, qz3c, qz3d, Bool.not_true, Bool.not_false, List.cons_append, List.nil_append, List.append_nil]
  refine wC_loopH (fun mm L' s' => ∃ k : Nat, k ≤ min n 8 ∧ mm = min n 8 - k ∧ s'.nx = s.nx ∧ s'.fr = s.fr ∧ (∀ x, x ≠ tb → hget s'.h x = hget s.h x) ∧ T5 s' tb { t with num := valN (t.text.take k) } ∧ (∀ x v, x < 12 → Has L x v → Has L' x v) ∧ Has L' 12 (.int .i64 (k : Int))) ?_ (min n 8) ?_
  · rintro mm L' s' ⟨k, hkk, rfl, e1, e2, e3, T', hL, i12⟩
    unfold Hold
    have j8 := hL 8 _ (by decide) h8
    have j11 := hL 11 _ (by decide) h11
    by_cases hlt : k < min n 8
    · have q1 : (k : Int) < (n : Int) := by omega
      have q2 : (k : Int) < 8 := by omega
      have hkl : k < t.text.length := by omega
      have eX : ∀ (s : St) (K : AV → St → Prop), onER (ixStrV (.str t.text) (.int .i64 (k : Int)) s) K = K (.int .u8 ((t.text.getD k 0 : Nat) : Int)) s := fun s K => qz37 hkl .i64
      have hdk : isDigit (t.text.getD k 0) = true := by
        rw [List.getD_eq_getElem?_getD, List.getElem?_eq_getElem hkl]
        exact hd _ (List.getElem_mem hkl)
      have hnext : valN (t.text.take (k + 1)) = 10 * valN (t.text.take k) + (t.text.getD k 0 - 48) := by
        rw [take_succ_getD hkl, valN_snoc]
      have hb : valN (t.text.take k) + 1 ≤ 10 ^ 8 := by
        refine Nat.le_trans (valN_bound fun c hc => hd c (List.mem_of_mem_take hc)) ?_
        exact Nat.pow_le_pow_right (by decide) (by rw [List.length_take]; omega)
      generalize t.text.getD k 0 = ch at eX hdk hnext
      generalize valN (t.text.take k) = v at T' hnext hb
      obtain ⟨d1, d2⟩ := digit_range hdk
      have d3 : ch < 256 := by omega
      have hv : v ≤ 99999999 := by omega
      have g1 : 1 < rlen s'.h tb := by rw [T'.len]; decide
      have g2 : 2 < rlen s'.h tb := by rw [T'.len]; decide
      have c1 : rat s'.h tb 1 = .str t.text := T'.c1
      have c2 : rat s'.h tb 2 = .int .i64 (v : Int) := T'.c2
      have sm := sameD g2 c2
      have eC : ∀ (s : St) (K : AV → St → Prop), onER (cvtV .i64 (.int .u8 ((ch - 48 : Nat) : Int)) s) K = K (.int .i64 ((ch - 48 : Nat) : Int)) s := fun s K => by
        simp only [cvtV, onER, wrapI_eq]
        rw [IntWalk.i64_in _ ⟨by omega, by omega⟩]
      have eA := fun (s : St) (K : AV → St → Prop) => v_addNN (a := 10 * v) (b := ch - 48) (by omega) s K
      simp (disch := first | decide | assumption | omega) only [r_onh j8, r_onh j11, r_onh i12, qz3k, qz3l, qz3m, qz3o, qz3p, qz3q, qz3r, qz3t, r_heldw6, Nat.zero_add, c1, c2, eX, eC, eA, sm, cond_true, true_and, v_mul10, v_sub48, qz00, qz01, qz02, qz03, qz04, qz05, qz06, qz07, qz08, qz09, qz0a, qz0b, qz0c, qz0d, qz0e, qz0f, qz0g, qz0h, qz0i, qz0j, qz0k, qz0l, qz0m, qz0n, qz0o, qz0p, qz0q, qz0r, qz0s, qz0t, qz0u, qz0v, qz0w, qz0x, qz0y, qz0z, qz10, qz11, qz12, qz13, qz14, qz15, qz16, qz17, qz18, qz19, qz1a, qz1b, qz1c, qz1d, qz1e, qz1f, qz1g, qz1h, qz1i, qz1j, qz1k, qz1l, qz1m, qz1n, qz1o, qz1p, qz1q, qz1r, qz1s, qz1t, qz1u, qz1v, qz1w, qz1x, qz1y, qz1z, qz20, qz21, qz22, qz23, qz24, qz25, qz26, qz27, qz28, qz29, qz2a, qz2b, qz2c, qz2d, qz2e, qz2f, qz2g, qz2h, qz2i, qz2j, qz2k, qz2l, qz2m, qz2n, qz2o, qz2p, qz2q, qz2r, qz2s, qz2t, qz2u, qz2v, qz2w, qz2x, qz2y, qz2z, qz30, qz31, qz32, qz33, qz34, qz35, qz36, qz37, qz38, qz39, qz3a, qz3b, qz3c, qz3d, Bool.not_true, Bool.not_false, List.cons_append, List.nil_append, List.append_nil]
      refine o_st1 g2 ⟨rfl, rfl, rfl⟩ fun s2 w => ?_
      have T2 : T5 s2 tb { t with num := valN (t.text.take (k + 1)) } := by
        have := T'.put2 (k := 10 * v + (ch - 48)) w
        rw [hnext]
        exact this
      have w1 := w.nx
      simp (disch := first | decide | assumption | omega) only [r_onh i12, qz3l, qz3p, qz3t, true_and, v_addN, qz00, qz01, qz02, qz03, qz04, qz05, qz06, qz07, qz08, qz09, qz0a, qz0b, qz0c, qz0d, qz0e, qz0f, qz0g, qz0h, qz0i, qz0j, qz0k, qz0l, qz0m, qz0n, qz0o, qz0p, qz0q, qz0r, qz0s, qz0t, qz0u, qz0v, qz0w, qz0x, qz0y, qz0z, qz10, qz11, qz12, qz13, qz14, qz15, qz16, qz17, qz18, qz19, qz1a, qz1b, qz1c, qz1d, qz1e, qz1f, qz1g, qz1h, qz1i, qz1j, qz1k, qz1l, qz1m, qz1n, qz1o, qz1p, qz1q, qz1r, qz1s, qz1t, qz1u, qz1v, qz1w, qz1x, qz1y, qz1z, qz20, qz21, qz22, qz23, qz24, qz25, qz26, qz27, qz28, qz29, qz2a, qz2b, qz2c, qz2d, qz2e, qz2f, qz2g, qz2h, qz2i, qz2j, qz2k, qz2l, qz2m, qz2n, qz2o, qz2p, qz2q, qz2r, qz2s, qz2t, qz2u, qz2v, qz2w, qz2x, qz2y, qz2z, qz30, qz31, qz32, qz33, qz34, qz35, qz36, qz37, qz38, qz39, qz3a, qz3b, qz3c, qz3d, Bool.not_true, Bool.not_false, List.cons_append, List.nil_append, List.append_nil]
      refine ⟨min n 8 - (k + 1), by omega, k + 1, by omega, rfl, by omega, w.fr.trans e2, fun x hx => (w.keep x hx).trans (e3 x hx), T2, fun x v hx h => ?_, Has.here _ _ _⟩
      exact ((hL x v hx h).there (by omega)).there (by omega)
    · have hk8 : k = min n 8 := by omega
      subst hk8
      by_cases q1 : ((min n 8 : Nat) : Int) < (n : Int)
      · have q2 : ¬ ((min n 8 : Nat) : Int) < 8 := by omega
        have q3 : (8 : Int) ≤ ((min n 8 : Nat) : Int) := by omega
        simp (disch := first | decide | assumption | omega) only [r_onh j8, r_onh i12, qz00, qz01, qz02, qz03, qz04, qz05, qz06, qz07, qz08, qz09, qz0a, qz0b, qz0c, qz0d, qz0e, qz0f, qz0g, qz0h, qz0i, qz0j, qz0k, qz0l, qz0m, qz0n, qz0o, qz0p, qz0q, qz0r, qz0s, qz0t, qz0u, qz0v, qz0w, qz0x, qz0y, qz0z, qz10, qz11, qz12, qz13, qz14, qz15, qz16, qz17, qz18, qz19, qz1a, qz1b, qz1c, qz1d, qz1e, qz1f, qz1g, qz1h, qz1i, qz1j, qz1k, qz1l, qz1m, qz1n, qz1o, qz1p, qz1q, qz1r, qz1s, qz1t, qz1u, qz1v, qz1w, qz1x, qz1y, qz1z, qz20, qz21, qz22, qz23, qz24, qz25, qz26, qz27, qz28, qz29, qz2a, qz2b, qz2c, qz2d, qz2e, qz2f, qz2g, qz2h, qz2i, qz2j, qz2k, qz2l, qz2m, qz2n, qz2o, qz2p, qz2q, qz2r, qz2s, qz2t, qz2u, qz2v, qz2w, qz2x, qz2y, qz2z, qz30, qz31, qz32, qz33, qz34, qz35, qz36, qz37, qz38, qz39, qz3a, qz3b, qz3c, qz3d, Bool.not_true, Bool.not_false, List.cons_append, List.nil_append, List.append_nil]
        exact hk _ s' (fun x v hx h => (hL x v hx h).there (by omega)) e1 e2 e3 T'
      · have q2 : (n : Int) ≤ ((min n 8 : Nat) : Int) := by omega
        simp (disch := first | decide | assumption | omega) only [r_onh j8, r_onh i12, qz00, qz01, qz02, qz03, qz04, qz05, qz06, qz07, qz08, qz09, qz0a, qz0b, qz0c, qz0d, qz0e, qz0f, qz0g, qz0h, qz0i, qz0j, qz0k, qz0l, qz0m, qz0n, qz0o, qz0p, qz0q, qz0r, qz0s, qz0t, qz0u, qz0v, qz0w, qz0x, qz0y, qz0z, qz10, qz11, qz12, qz13, qz14, qz15, qz16, qz17, qz18, qz19, qz1a, qz1b, qz1c, qz1d, qz1e, qz1f, qz1g, qz1h, qz1i, qz1j, qz1k, qz1l, qz1m, qz1n, qz1o, qz1p, qz1q, qz1r, qz1s, qz1t, qz1u, qz1v, qz1w, qz1x, qz1y, qz1z, qz20, qz21, qz22, qz23, qz24, qz25, qz26, qz27, qz28, qz29, qz2a, qz2b, qz2c, qz2d, qz2e, qz2f, qz2g, qz2h, qz2i, qz2j, qz2k, qz2l, qz2m, qz2n, qz2o, qz2p, qz2q, qz2r, qz2s, qz2t, qz2u, qz2v, qz2w, qz2x, qz2y, qz2z, qz30, qz31, qz32, qz33, qz34, qz35, qz36, qz37, qz38, qz39, qz3a, qz3b, qz3c, qz3d, Bool.not_true, Bool.not_false, List.cons_append, List.nil_append, List.append_nil]
        exact hk _ s' (fun x v hx h => (hL x v hx h).there (by omega)) e1 e2 e3 T'
  · refine ⟨0, Nat.zero_le _, rfl, rfl, rfl, fun _ _ => rfl, ?_, fun x v hx h => h.there (by omega), Has.here _ _ _⟩
    have e : valN (t.text.take 0) = t.num := by rw [hz]; rfl
    rw [e]
    exact T
end Go.Sy
end

section
set_option maxRecDepth 100000
namespace Go.Sy
open Go.Ev Go.Proofs
/-! ### blanks and remarks, byte by byte -/
/-- is a remark there, behind the look at a byte? -/
def rem2 (rm : Bool) : List Nat → Bool
  | [] => rm
  | c :: r => if c = 10 then false else if rm = false ∧ c = 47 ∧ r.head? = some 47 then true else rm
def skipR : Bool → List Nat → Nat
  | _, [] => 0
  | rm, c :: r => if (rem2 rm (c :: r) || isBlank c) = true then skipR (rem2 rm (c :: r)) r + 1 else 0
theorem rem2_cons (rm : Bool) (c : Nat) (r : List Nat) : rem2 rm (c :: r) = if c = 10 then false else if rm = false ∧ c = 47 ∧ r.head? = some 47 then true else rm := rfl
theorem skipR_cons (rm : Bool) (c : Nat) (r : List Nat) : skipR rm (c :: r) = if (rem2 rm (c :: r) || isBlank c) = true then skipR (rem2 rm (c :: r)) r + 1 else 0 := by rw [skipR]
theorem wordN_cons (x : Nat) (r : List Nat) : wordN (x :: r) = if isLetter x = true then lead isInner (x :: r) else if isDigit x = true then lead isDigit (x :: r) else signN (x :: r) := rfl
theorem skipR_true : ∀ r : List Nat, skipR true r = lead notEnd r + skipR false (r.drop (lead notEnd r))
  | [] => rfl
  | c :: r => by
    by_cases h : c = 10
    · subst h
      have h1 : lead notEnd (10 :: r) = 0 := rfl
      rw [h1, List.drop_zero, Nat.zero_add, skipR_cons, skipR_cons, rem2_cons, rem2_cons, if_pos rfl, if_pos rfl]
    · have h1 : rem2 true (c :: r) = true := by rw [rem2_cons, if_neg h, if_neg (by simp)]
      have h2 : lead notEnd (c :: r) = lead notEnd r + 1 := by
        have : notEnd c = true := by unfold notEnd; simp [h]
        simp only [lead, if_pos this]
      have h3 : skipR true (c :: r) = skipR true r + 1 := by
        rw [skipR_cons, h1, Bool.true_or, if_pos rfl]
      rw [h3, h2, skipR_true r, List.drop_succ_cons]
      omega
theorem skipR_blank : ∀ r : List Nat, skipR false r = lead isBlank r + skipR false (r.drop (lead isBlank r))
  | [] => rfl
  | c :: r => by
    by_cases h : isBlank c = true
    · have hc : c = 32 ∨ c = 9 ∨ c = 10 := by unfold isBlank at h; simp at h; omega
      have h1 : rem2 false (c :: r) = false := by
        rw [rem2_cons]
        by_cases h10 : c = 10
        · rw [if_pos h10]
        · rw [if_neg h10, if_neg (fun h => by have := h.2.1; omega)]
      have h2 : lead isBlank (c :: r) = lead isBlank r + 1 := by simp only [lead, if_pos h]
      have h3 : skipR false (c :: r) = skipR false r + 1 := by
        rw [skipR_cons, h1, h, Bool.or_true, if_pos rfl]
      rw [h3, h2, skipR_blank r, List.drop_succ_cons]
      omega
    · have h2 : lead isBlank (c :: r) = 0 := by simp only [lead, if_neg h]
      rw [h2, List.drop_zero, Nat.zero_add]
theorem skipR_gaps (k : Nat) : ∀ r : List Nat, r.length ≤ k → skipR false r = gaps r := by
  induction k with
  | zero =>
    intro r hr
    have : r = [] := List.eq_nil_of_length_eq_zero (by omega)
    subst this
    have hg := gaps_le ([] : List Nat)
    simp at hg
    rw [hg]; rfl
  | succ k ih =>
    intro r hr
    have hle := gap_le r
    have key : skipR false r = gap r + if gap r = 0 then 0 else skipR false (r.drop (gap r)) := by
      unfold gap
      by_cases hb : lead isBlank r = 0 ∧ begins [47, 47] r = true
      · rw [if_pos hb]
        have hr2 : r.take 2 = [47, 47] := of_decide_eq_true hb.2
        match r, hr2 with
        | x :: y :: r', hr2 =>
          obtain ⟨rfl, rfl⟩ : x = 47 ∧ y = 47 := by simpa using hr2
          have h2 : lead notEnd (47 :: 47 :: r') = lead notEnd (47 :: r') + 1 := rfl
          have h3 : skipR false (47 :: 47 :: r') = skipR true (47 :: r') + 1 := by
            have h4 : rem2 false (47 :: 47 :: r') = true := by
              rw [rem2_cons, if_neg (by decide), if_pos ⟨rfl, rfl, rfl⟩]
            rw [skipR_cons, h4, Bool.true_or, if_pos rfl]
          rw [h3, skipR_true, h2, if_neg (by omega), List.drop_succ_cons]
          omega
        | [], hr2 => simp at hr2
        | [x], hr2 => simp at hr2
      · rw [if_neg hb]
        by_cases h0 : lead isBlank r = 0
        · rw [h0, if_pos rfl]
          cases r with
          | nil => rfl
          | cons c r =>
            have hnb : ¬ isBlank c = true := fun h => by simp only [lead, if_pos h] at h0; omega
            have hnb' : isBlank c = false := by simpa using hnb
            have h1 : rem2 false (c :: r) = false := by
              rw [rem2_cons]
              by_cases h10 : c = 10
              · rw [if_pos h10]
              · rw [if_neg h10]
                refine if_neg fun h => hb ⟨h0, decide_eq_true ?_⟩
                obtain ⟨_, rfl, h⟩ := h
                cases r with
                | nil => simp at h
                | cons d r => simp at h; subst h; rfl
            rw [skipR_cons, h1, hnb']; rfl
        · rw [if_neg h0]; exact skipR_blank r
    by_cases h0 : gap r = 0
    · rw [key, gaps_0 h0, h0]; rfl
    · rw [key, gaps_1 h0, if_neg h0, ih _ (by rw [List.length_drop]; omega)]
/-! ### the next word, by its length -/
theorem next_zero {x : Nat} {r : List Nat} {p : Nat × Nat} (h : wordN (x :: r) = 0) : nextM (x :: r) p = (131, ⟨3, [], 0, p.1, p.2⟩, 0) := by
  rw [wordN_cons] at h
  unfold nextM
  simp only
  by_cases hL : isLetter x = true
  · rw [if_pos hL] at h
    have := lead_pos (p := isInner) (r := r) (show isInner x = true by unfold isInner; rw [hL]; rfl)
    omega
  · rw [if_neg hL] at h ⊢
    by_cases hD : isDigit x = true
    · rw [if_pos hD] at h
      have := lead_pos (p := isDigit) (r := r) hD
      omega
    · rw [if_neg hD] at h ⊢
      rw [if_pos h]
theorem next_letter {x : Nat} {r : List Nat} {p : Nat × Nat} (hL : isLetter x = true) : nextM (x :: r) p = if 32 < wordN (x :: r) then (132, ⟨1, [], 0, p.1, p.2⟩, 0) else (0, ⟨if kept ((x :: r).take (wordN (x :: r))) = true then 4 else 1, (x :: r).take (wordN (x :: r)), 0, p.1, p.2⟩, wordN (x :: r)) := by
  have e : wordN (x :: r) = lead isInner (x :: r) := if_pos hL
  rw [e]
  show (if isLetter x = true then _ else _) = _
  rw [if_pos hL]
theorem next_digit {x : Nat} {r : List Nat} {p : Nat × Nat} (hL : isLetter x = false) (hD : isDigit x = true) : nextM (x :: r) p = if 7 < wordN (x :: r) ∨ 1000000 < valN ((x :: r).take (wordN (x :: r))) then (132, ⟨2, [], 0, p.1, p.2⟩, 0) else (0, ⟨2, (x :: r).take (wordN (x :: r)), valN ((x :: r).take (wordN (x :: r))), p.1, p.2⟩, wordN (x :: r)) := by
  have e : wordN (x :: r) = lead isDigit (x :: r) := by
    rw [wordN_cons, if_neg (by rw [hL]; decide), if_pos hD]
  rw [e]
  show (if isLetter x = true then _ else if isDigit x = true then _ else _) = _
  rw [if_neg (by rw [hL]; decide), if_pos hD]
theorem next_sign {x : Nat} {r : List Nat} {p : Nat × Nat} (hL : isLetter x = false) (hD : isDigit x = false) (hn : wordN (x :: r) ≠ 0) : nextM (x :: r) p = (0, ⟨3, (x :: r).take (wordN (x :: r)), 0, p.1, p.2⟩, wordN (x :: r)) := by
  have e : wordN (x :: r) = signN (x :: r) := by
    rw [wordN_cons, if_neg (by rw [hL]; decide), if_neg (by rw [hD]; decide)]
  rw [e] at hn ⊢
  show (if isLetter x = true then _ else if isDigit x = true then _ else _) = _
  rw [if_neg (by rw [hL]; decide), if_neg (by rw [hD]; decide)]
  simp only
  rw [if_neg hn]
theorem letter_not_digit {c : Nat} (h : isLetter c = true) : isDigit c = false := by
  unfold isLetter at h
  unfold isDigit
  simp at h ⊢
  omega
theorem wordN_digits {x : Nat} {r : List Nat} (hL : isLetter x = false) (hD : isDigit x = true) : ∀ c ∈ (x :: r).take (wordN (x :: r)), isDigit c = true := by
  have e : wordN (x :: r) = lead isDigit (x :: r) := by
    rw [wordN_cons, if_neg (by rw [hL]; decide), if_pos hD]
  rw [e]
  exact lead_run isDigit _
theorem wordN_le (r : List Nat) : wordN r ≤ r.length := by
  cases r with
  | nil => exact Nat.le_refl _
  | cons x r =>
    rw [wordN_cons]
    split
    · exact lead_le _ _
    · split
      · exact lead_le _ _
      · exact signN_le _
end Go.Sy
end

section
set_option maxRecDepth 100000
namespace Go.Sy
open Go.Ev Go.Proofs
section
variable {P : Program} {base : CallF}
theorem k_4 {i : Ins} {x y z w : A} {V : AV → AV → AV → AV → St → ER} {e : En} {st : St} (h1 : insA i = [x, y, z, w]) (h2 : ∀ ρ, execI P ρ i st = V (ρ x) (ρ y) (ρ z) (ρ w) st) (K : AV → St → Prop) :
    wK P base (.i i) e st K = on1 e x fun v => on1 e y fun u => on1 e z fun t => on1 e w fun r => onER (V v u t r st) K := by
  simp [wK, wI, h1, h2, on1, and_assoc]
theorem i_build4 {e : En} {st : St} {K : AV → St → Prop} (z : List AV) (p q r s : Nat × Nat) (x y w t : A) : wK P base (.i (.build z [(p, x), (q, y), (r, w), (s, t)])) e st K = on1 e x fun v => on1 e y fun u => on1 e w fun a => on1 e t fun b => onER (buildV z [(p, v), (q, u), (r, a), (s, b)] st) K := k_4 rfl (fun _ => rfl) K
end
theorem b_tokS (l : List Nat) (a c : Nat) (s : St) (K : AV → St → Prop) : onER (buildV [.int .i64 0, .str [], .int .i64 0, .int .i64 0, .int .i64 0] [((0, 1), .int .i64 3), ((1, 1), .str l), ((3, 1), .int .i64 (a : Int)), ((4, 1), .int .i64 (c : Int))] s) K = K (.agg (Tk.mk 3 l 0 a c).cells) s := by
  have : fillP [.int .i64 0, .str [], .int .i64 0, .int .i64 0, .int .i64 0] [((0, 1), .int .i64 3), ((1, 1), .str l), ((3, 1), .int .i64 (a : Int)), ((4, 1), .int .i64 (c : Int))] = some (Tk.mk 3 l 0 a c).cells := rfl
  simp only [buildV, this, onSome, onER]
theorem b_tokE (a c : Nat) (s : St) (K : AV → St → Prop) : onER (buildV [.int .i64 0, .str [], .int .i64 0, .int .i64 0, .int .i64 0] [((0, 1), .int .i64 5), ((3, 1), .int .i64 (a : Int)), ((4, 1), .int .i64 (c : Int))] s) K = K (.agg (Tk.mk 5 [] 0 a c).cells) s := b_tok a c s K
theorem dropC {l : List Nat} {a : Nat} (h : a < l.length) : l.drop a = l.getD a 0 :: l.drop (a + 1) := by
  rw [List.drop_eq_getElem_cons h, List.getD_eq_getElem?_getD, List.getElem?_eq_getElem h]; rfl
theorem head_drop {l : List Nat} {a d : Nat} (hd : d ≠ 0) : (l.drop a).head? = some d ↔ (a < l.length ∧ l.getD a 0 = d) := by
  rw [List.head?_drop, List.getD_eq_getElem?_getD]
  by_cases h : a < l.length
  · rw [List.getElem?_eq_getElem h]; simp [h]
  · rw [List.getElem?_eq_none (by omega)]; simp; omega
/-- how far the document's loop has come -/
def RI (l : List Nat) (st : St) (mm : Nat) (L : Sl) (s : St) : Prop :=
  ∃ (a d b : Nat) (acc : List Tk) (rm : Bool), d ≤ a ∧ a ≤ l.length ∧ mm = l.length - a ∧ acc.length ≤ d ∧ Kept st.bare s ∧ st.nx < s.nx ∧ rlen s.h st.nx = 3 ∧ Rs s b acc ∧ st.nx < b ∧
    gaps (l.drop d) = (a - d) + skipR rm (l.drop a) ∧ cutM l (1, 1) = ahead acc (cutM (l.drop d) (walkP (1, 1) (l.take d))) ∧
    Has L 0 (.str l) ∧ Has L 3 (.ptr st.nx 0) ∧ Has L 4 (rsV b acc) ∧ Has L 5 (.int .i64 (a : Int)) ∧ Has L 6 (.bool rm)
/-- a byte that is no word's -/
theorem RI.skip {l : List Nat} {st s : St} {L : Sl} {a d b : Nat} {acc : List Tk} {rm rm' : Bool} (h1 : d ≤ a) (h2 : a < l.length) (h3 : acc.length ≤ d) (k : Kept st.bare s) (hx : st.nx < s.nx) (F : rlen s.h st.nx = 3) (R : Rs s b acc) (hb : st.nx < b)
    (hg : gaps (l.drop d) = (a - d) + skipR rm (l.drop a)) (hM : cutM l (1, 1) = ahead acc (cutM (l.drop d) (walkP (1, 1) (l.take d))))
    (hr : rem2 rm (l.drop a) = rm') (hs : (rm' || isBlank (l.getD a 0)) = true)
    (i0 : Has L 0 (.str l)) (i3 : Has L 3 (.ptr st.nx 0)) (i4 : Has L 4 (rsV b acc)) (i5 : Has L 5 (.int .i64 ((a + 1 : Nat) : Int))) (i6 : Has L 6 (.bool rm')) : ∃ k', k' < l.length - a ∧ RI l st k' L s := by
  refine ⟨l.length - (a + 1), by omega, a + 1, d, b, acc, rm', by omega, by omega, rfl, h3, k, hx, F, R, hb, ?_, hM, i0, i3, i4, i5, i6⟩
  rw [hg, dropC h2, skipR_cons]
  rw [dropC h2] at hr
  rw [hr, if_pos hs]
  omega
theorem RI.at {l : List Nat} {a d : Nat} {rm : Bool} (h1 : d ≤ a) (h2 : a ≤ l.length) (hg : gaps (l.drop d) = (a - d) + skipR rm (l.drop a)) (hs : skipR rm (l.drop a) = 0) :
    (l.drop d).drop (gaps (l.drop d)) = l.drop a ∧ walkP (walkP (1, 1) (l.take d)) ((l.drop d).take (gaps (l.drop d))) = walkP (1, 1) (l.take a) := by
  rw [hs, Nat.add_zero] at hg
  rw [hg]
  constructor
  · rw [List.drop_drop]; congr 1; omega
  · have h : l.take d ++ (l.drop d).take (a - d) = l.take a := by
      rw [← List.take_add]; congr 1; omega
    rw [← walkP_app, h]
/-- behind a word -/
theorem RI.word {l : List Nat} {st s : St} {L : Sl} {a d b n : Nat} {acc : List Tk} {rm : Bool} {t : Tk} (h1 : d ≤ a) (h2 : a < l.length) (h3 : acc.length ≤ d) (k : Kept st.bare s) (hx : st.nx < s.nx) (F : rlen s.h st.nx = 3) (R : Rs s b (acc ++ [t])) (hb : st.nx < b)
    (hg : gaps (l.drop d) = (a - d) + skipR rm (l.drop a)) (hM : cutM l (1, 1) = ahead acc (cutM (l.drop d) (walkP (1, 1) (l.take d)))) (hs : skipR rm (l.drop a) = 0)
    (hN : nextM (l.drop a) (walkP (1, 1) (l.take a)) = (0, t, n)) (hn : n ≠ 0)
    (i0 : Has L 0 (.str l)) (i3 : Has L 3 (.ptr st.nx 0)) (i4 : Has L 4 (rsV b (acc ++ [t]))) (i5 : Has L 5 (.int .i64 ((a + n : Nat) : Int))) (i6 : Has L 6 (.bool false)) : ∃ k', k' < l.length - a ∧ RI l st k' L s := by
  have hle := nextM_le hN
  rw [List.length_drop] at hle
  obtain ⟨w1, w2⟩ := RI.at h1 (by omega) hg hs
  have hN' : nextM ((l.drop d).drop (gaps (l.drop d))) (walkP (walkP (1, 1) (l.take d)) ((l.drop d).take (gaps (l.drop d)))) = (0, t, n) := by rw [w1, w2]; exact hN
  have hE := ahead_more (acc := acc) hN' hn
  rw [w1, w2, List.drop_drop] at hE
  have h : l.take a ++ (l.drop a).take n = l.take (a + n) := by rw [← List.take_add]
  rw [← walkP_app, h] at hE
  refine ⟨l.length - (a + n), by omega, a + n, a + n, b, acc ++ [t], false, Nat.le_refl _, by omega, rfl, ?_, k, hx, F, R, hb, ?_, hM.trans hE, i0, i3, i4, i5, i6⟩
  · rw [List.length_append]; show acc.length + 1 ≤ _; omega
  · rw [skipR_gaps _ _ (Nat.le_refl _)]; omega
theorem RI.fault {l : List Nat} {a d n e : Nat} {acc : List Tk} {rm : Bool} {t : Tk} (h1 : d ≤ a) (h2 : a ≤ l.length)
    (hg : gaps (l.drop d) = (a - d) + skipR rm (l.drop a)) (hM : cutM l (1, 1) = ahead acc (cutM (l.drop d) (walkP (1, 1) (l.take d)))) (hs : skipR rm (l.drop a) = 0)
    (hN : nextM (l.drop a) (walkP (1, 1) (l.take a)) = (e, t, n)) (he : e ≠ 0) : cutM l (1, 1) = ([], (e, t.line, t.col)) := by
  obtain ⟨w1, w2⟩ := RI.at h1 h2 hg hs
  have hN' : nextM ((l.drop d).drop (gaps (l.drop d))) (walkP (walkP (1, 1) (l.take d)) ((l.drop d).take (gaps (l.drop d)))) = (e, t, n) := by rw [w1, w2]; exact hN
  rw [hM, ahead_err hN' he]
theorem RI.end {l : List Nat} {d : Nat} {acc : List Tk} {rm : Bool} (h1 : d ≤ l.length)
    (hg : gaps (l.drop d) = (l.length - d) + skipR rm (l.drop l.length)) (hM : cutM l (1, 1) = ahead acc (cutM (l.drop d) (walkP (1, 1) (l.take d)))) :
    cutM l (1, 1) = (acc ++ [⟨5, [], 0, (walkP (1, 1) l).1, (walkP (1, 1) l).2⟩], (0, 0, 0)) := by
  have hs : skipR rm (l.drop l.length) = 0 := by rw [List.drop_length]; cases rm <;> rfl
  obtain ⟨w1, w2⟩ := RI.at h1 (Nat.le_refl _) hg hs
  have hN' : nextM ((l.drop d).drop (gaps (l.drop d))) (walkP (walkP (1, 1) (l.take d)) ((l.drop d).take (gaps (l.drop d)))) = (0, ⟨5, [], 0, (walkP (1, 1) l).1, (walkP (1, 1) l).2⟩, 0) := by
    rw [w1, w2, List.drop_length, List.take_length]; rfl
  rw [hM, ahead_end hN']
end Go.Sy
end

section
set_option maxRecDepth 100000
namespace Go.Sy
open Go.Ev Go.Proofs
variable {base : CallF}
theorem b_flt131 (b c : Nat) (s : St) (K : AV → St → Prop) : onER (buildV [.int .i64 0, .int .i64 0, .int .i64 0] [((0, 1), .int .i64 131), ((1, 1), .int .i64 (b : Int)), ((2, 1), .int .i64 (c : Int))] s) K = K (.agg (fcells (131, b, c))) s := b_flt 131 b c s K
theorem b_flt132 (b c : Nat) (s : St) (K : AV → St → Prop) : onER (buildV [.int .i64 0, .int .i64 0, .int .i64 0] [((0, 1), .int .i64 132), ((1, 1), .int .i64 (b : Int)), ((2, 1), .int .i64 (c : Int))] s) K = K (.agg (fcells (132, b, c))) s := b_flt 132 b c s K
set_option maxHeartbeats 4000000 in
theorem refCut_ok (hb : ∀ f args st, f ∈ [10, 13, 18, 19, 20, 21, 22] → base f args st = .no) {l : List Nat} (st : St) (hl : l.length ≤ 4611686018427387904) (K : AV → St → Prop)
    (hK : ∀ b st', Ext st st' → ((cutT l).1 ≠ [] → Ts st' b (cutT l).1 ∧ st.nx ≤ b) → K (.tup [tsV b (cutT l).1, .agg (fcells (cutT l).2)]) st') : CW Tryd.prog base 10 [.str l] st K := by
  refine fn_rule l10 (hb _ _ _ (by simp)) ?_
  simp only [c10, entry, List.map_cons, List.map_nil, List.getD_cons_zero, List.getD_cons_succ]
  rw [b10_eq]
  simp (disch := first | decide | assumption | omega) only [qz00, qz01, qz02, qz03, qz04, qz05, qz06, qz07, qz08, qz09, qz0a, qz0b, qz0c, qz0d, qz0e, qz0f, qz0g, qz0h, qz0i, qz0j, qz0k, qz0l, qz0m, qz0n, qz0o, qz0p, qz0q, qz0r, qz0s, qz0t, qz0u, qz0v, qz0w, qz0x, qz0y, qz0z, qz10, qz11, qz12, qz13, qz14, qz15, qz16, qz17, qz18, qz19, qz1a, qz1b, qz1c, qz1d, qz1e, qz1f, qz1g, qz1h, qz1i, qz1j, qz1k, qz1l, qz1m, qz1n, qz1o, qz1p, qz1q, qz1r, qz1s, qz1t, qz1u, qz1v, qz1w, qz1x, qz1y, qz1z, qz20, qz21, qz22, qz23, qz24, qz25, qz26, qz27, qz28, qz29, qz2a, qz2b, qz2c, qz2d, qz2e, qz2f, qz2g, qz2h, qz2i, qz2j, qz2k, qz2l, qz2m, qz2n, qz2o, qz2p, qz2q, qz2r, qz2s, qz2t, qz2u, qz2v, qz2w, qz2x, qz2y, qz2z, qz30, qz31, qz32, qz33, qz34, qz35, qz36, qz37, qz38, qz39, qz3a, qz3b, qz3c, qz3d, Bool.not_true, Bool.not_false, List.cons_append, List.nil_append, List.append_nil]
  refine o_new fun s1 m1 => ?_
  have n1 : s1.nx = st.nx + 1 := m1.nx
  have k1 : Kept st.bare s1 := (Kept.refl _).made m1
  have F1 : rlen s1.h st.nx = 3 := m1.len
  have hst : st.bare.nx = st.nx := rfl
  rw [hst]
  by_cases h1 : 65536 < l.length
  · have h1' : (65536 : Int) < (l.length : Int) := by omega
    have e : cutT l = ([], (132, 1, 1)) := if_pos h1
    rw [e] at hK
    simp (disch := first | decide | assumption | omega) only [i_build3, b_flt1, qz00, qz01, qz02, qz03, qz04, qz05, qz06, qz07, qz08, qz09, qz0a, qz0b, qz0c, qz0d, qz0e, qz0f, qz0g, qz0h, qz0i, qz0j, qz0k, qz0l, qz0m, qz0n, qz0o, qz0p, qz0q, qz0r, qz0s, qz0t, qz0u, qz0v, qz0w, qz0x, qz0y, qz0z, qz10, qz11, qz12, qz13, qz14, qz15, qz16, qz17, qz18, qz19, qz1a, qz1b, qz1c, qz1d, qz1e, qz1f, qz1g, qz1h, qz1i, qz1j, qz1k, qz1l, qz1m, qz1n, qz1o, qz1p, qz1q, qz1r, qz1s, qz1t, qz1u, qz1v, qz1w, qz1x, qz1y, qz1z, qz20, qz21, qz22, qz23, qz24, qz25, qz26, qz27, qz28, qz29, qz2a, qz2b, qz2c, qz2d, qz2e, qz2f, qz2g, qz2h, qz2i, qz2j, qz2k, qz2l, qz2m, qz2n, qz2o, qz2p, qz2q, qz2r, qz2s, qz2t, qz2u, qz2v, qz2w, qz2x, qz2y, qz2z, qz30, qz31, qz32, qz33, qz34, qz35, qz36, qz37, qz38, qz39, qz3a, qz3b, qz3c, qz3d, Bool.not_true, Bool.not_false, List.cons_append, List.nil_append, List.append_nil]
    refine o_stF (132, 1, 1) F1 fun s2 w1 w2 w3 F => ?_
    simp (disch := first | decide | assumption | omega) only [r_resA, F.ld, qz00, qz01, qz02, qz03, qz04, qz05, qz06, qz07, qz08, qz09, qz0a, qz0b, qz0c, qz0d, qz0e, qz0f, qz0g, qz0h, qz0i, qz0j, qz0k, qz0l, qz0m, qz0n, qz0o, qz0p, qz0q, qz0r, qz0s, qz0t, qz0u, qz0v, qz0w, qz0x, qz0y, qz0z, qz10, qz11, qz12, qz13, qz14, qz15, qz16, qz17, qz18, qz19, qz1a, qz1b, qz1c, qz1d, qz1e, qz1f, qz1g, qz1h, qz1i, qz1j, qz1k, qz1l, qz1m, qz1n, qz1o, qz1p, qz1q, qz1r, qz1s, qz1t, qz1u, qz1v, qz1w, qz1x, qz1y, qz1z, qz20, qz21, qz22, qz23, qz24, qz25, qz26, qz27, qz28, qz29, qz2a, qz2b, qz2c, qz2d, qz2e, qz2f, qz2g, qz2h, qz2i, qz2j, qz2k, qz2l, qz2m, qz2n, qz2o, qz2p, qz2q, qz2r, qz2s, qz2t, qz2u, qz2v, qz2w, qz2x, qz2y, qz2z, qz30, qz31, qz32, qz33, qz34, qz35, qz36, qz37, qz38, qz39, qz3a, qz3b, qz3c, qz3d, Bool.not_true, Bool.not_false, List.cons_append, List.nil_append, List.append_nil]
    exact hK 0 s2.bare ⟨by show st.nx ≤ s2.nx; omega, rfl, fun x hx => (w3 x (by omega)).trans (k1.keep x hx)⟩ fun h => absurd rfl h
  · have h1' : ¬ (65536 : Int) < (l.length : Int) := by omega
    have e : cutT l = cutM l (1, 1) := if_neg h1
    rw [e] at hK
    simp (disch := first | decide | assumption | omega) only [i_buildS05, qz00, qz01, qz02, qz03, qz04, qz05, qz06, qz07, qz08, qz09, qz0a, qz0b, qz0c, qz0d, qz0e, qz0f, qz0g, qz0h, qz0i, qz0j, qz0k, qz0l, qz0m, qz0n, qz0o, qz0p, qz0q, qz0r, qz0s, qz0t, qz0u, qz0v, qz0w, qz0x, qz0y, qz0z, qz10, qz11, qz12, qz13, qz14, qz15, qz16, qz17, qz18, qz19, qz1a, qz1b, qz1c, qz1d, qz1e, qz1f, qz1g, qz1h, qz1i, qz1j, qz1k, qz1l, qz1m, qz1n, qz1o, qz1p, qz1q, qz1r, qz1s, qz1t, qz1u, qz1v, qz1w, qz1x, qz1y, qz1z, qz20, qz21, qz22, qz23, qz24, qz25, qz26, qz27, qz28, qz29, qz2a, qz2b, qz2c, qz2d, qz2e, qz2f, qz2g, qz2h, qz2i, qz2j, qz2k, qz2l, qz2m, qz2n, qz2o, qz2p, qz2q, qz2r, qz2s, qz2t, qz2u, qz2v, qz2w, qz2x, qz2y, qz2z, qz30, qz31, qz32, qz33, qz34, qz35, qz36, qz37, qz38, qz39, qz3a, qz3b, qz3c, qz3d, Bool.not_true, Bool.not_false, List.cons_append, List.nil_append, List.append_nil]
    refine o_buildS05 fun s2 m2 => ?_
    have n2 : s2.nx = s1.nx + 1 := m2.nx
    have k2 := k1.made m2
    have F2 : rlen s2.h st.nx = 3 := (rlen_same (m2.keep st.nx (by omega))).trans F1
    have R2 : Rs s2 s1.nx [] := ⟨by omega, m2.row, fun h => absurd rfl h⟩
    have hb2 : st.nx < s1.nx := by omega
    generalize s1.nx = b2 at R2 n1 n2 hb2
    simp (disch := first | decide | assumption | omega) only [qz00, qz01, qz02, qz03, qz04, qz05, qz06, qz07, qz08, qz09, qz0a, qz0b, qz0c, qz0d, qz0e, qz0f, qz0g, qz0h, qz0i, qz0j, qz0k, qz0l, qz0m, qz0n, qz0o, qz0p, qz0q, qz0r, qz0s, qz0t, qz0u, qz0v, qz0w, qz0x, qz0y, qz0z, qz10, qz11, qz12, qz13, qz14, qz15, qz16, qz17, qz18, qz19, qz1a, qz1b, qz1c, qz1d, qz1e, qz1f, qz1g, qz1h, qz1i, qz1j, qz1k, qz1l, qz1m, qz1n, qz1o, qz1p, qz1q, qz1r, qz1s, qz1t, qz1u, qz1v, qz1w, qz1x, qz1y, qz1z, qz20, qz21, qz22, qz23, qz24, qz25, qz26, qz27, qz28, qz29, qz2a, qz2b, qz2c, qz2d, qz2e, qz2f, qz2g, qz2h, qz2i, qz2j, qz2k, qz2l, qz2m, qz2n, qz2o, qz2p, qz2q, qz2r, qz2s, qz2t, qz2u, qz2v, qz2w, qz2x, qz2y, qz2z, qz30, qz31, qz32, qz33, qz34, qz35, qz36, qz37, qz38, qz39, qz3a, qz3b, qz3c, qz3d, Bool.not_true, Bool.not_false, List.cons_append, List.nil_append, List.append_nil]
    refine wC_loopH (RI l st) ?_ l.length ?_
    · rintro mm L s ⟨a, d, b, acc, rm, hda, hal, rfl, hacc, ks, hx, F, R, hbn, hg, hM, i0, i3, i4, i5, i6⟩
      unfold Hold
      have sfr : s.fr = [] := ks.fr
      by_cases hlt : a < l.length
      · have hlt' : (a : Int) < (l.length : Int) := by omega
        have eX : ∀ (s : St) (K : AV → St → Prop), onER (ixStrV (.str l) (.int .i64 (a : Int)) s) K = K (.int .u8 ((l.getD a 0 : Nat) : Int)) s := fun s K => qz37 hlt .i64
        have hskip := fun (L : Sl) (rm' : Bool) (hr : rem2 rm (l.drop a) = rm') (hs : (rm' || isBlank (l.getD a 0)) = true) => RI.skip (L := L) hda hlt hacc ks hx F R hbn hg hM hr hs
        have hdc := dropC hlt
        have hr2 : rem2 rm (l.drop a) = if l.getD a 0 = 10 then false else if rm = false ∧ l.getD a 0 = 47 ∧ (l.drop (a + 1)).head? = some 47 then true else rm := by rw [hdc, rem2_cons]
        have hsk : skipR rm (l.drop a) = if (rem2 rm (l.drop a) || isBlank (l.getD a 0)) = true then skipR (rem2 rm (l.drop a)) (l.drop (a + 1)) + 1 else 0 := by rw [hdc, skipR_cons]
        have hhd := head_drop (l := l) (a := a + 1) (d := 47) (by decide)
        generalize hch : l.getD a 0 = ch at eX hskip hdc hr2 hsk
        by_cases h10 : ch = 10
        · have h10' : (ch : Int) = 10 := by omega
          rw [if_pos h10] at hr2
          simp (disch := first | decide | assumption | omega) only [r_onh i0, r_onh i5, eX, qz00, qz01, qz02, qz03, qz04, qz05, qz06, qz07, qz08, qz09, qz0a, qz0b, qz0c, qz0d, qz0e, qz0f, qz0g, qz0h, qz0i, qz0j, qz0k, qz0l, qz0m, qz0n, qz0o, qz0p, qz0q, qz0r, qz0s, qz0t, qz0u, qz0v, qz0w, qz0x, qz0y, qz0z, qz10, qz11, qz12, qz13, qz14, qz15, qz16, qz17, qz18, qz19, qz1a, qz1b, qz1c, qz1d, qz1e, qz1f, qz1g, qz1h, qz1i, qz1j, qz1k, qz1l, qz1m, qz1n, qz1o, qz1p, qz1q, qz1r, qz1s, qz1t, qz1u, qz1v, qz1w, qz1x, qz1y, qz1z, qz20, qz21, qz22, qz23, qz24, qz25, qz26, qz27, qz28, qz29, qz2a, qz2b, qz2c, qz2d, qz2e, qz2f, qz2g, qz2h, qz2i, qz2j, qz2k, qz2l, qz2m, qz2n, qz2o, qz2p, qz2q, qz2r, qz2s, qz2t, qz2u, qz2v, qz2w, qz2x, qz2y, qz2z, qz30, qz31, qz32, qz33, qz34, qz35, qz36, qz37, qz38, qz39, qz3a, qz3b, qz3c, qz3d, Bool.not_true, Bool.not_false, List.cons_append, List.nil_append, List.append_nil]
          refine x48_ok (l := l) (a := a) (c := ch) (rm := false) (by simp (disch := decide) only [z0, z1, h_here, h_skip, i0]) (by simp (disch := decide) only [z0, z1, h_here, h_skip, i5]) (by simp (disch := decide) only [z0, z1, h_here, h_skip]) (by simp (disch := decide) only [z0, z1, h_here, h_skip]) hlt hl ?_
          rw [decide_eq_false (fun h => by have := h.2.1; omega)]
          simp (disch := first | decide | assumption | omega) only [qz00, qz01, qz02, qz03, qz04, qz05, qz06, qz07, qz08, qz09, qz0a, qz0b, qz0c, qz0d, qz0e, qz0f, qz0g, qz0h, qz0i, qz0j, qz0k, qz0l, qz0m, qz0n, qz0o, qz0p, qz0q, qz0r, qz0s, qz0t, qz0u, qz0v, qz0w, qz0x, qz0y, qz0z, qz10, qz11, qz12, qz13, qz14, qz15, qz16, qz17, qz18, qz19, qz1a, qz1b, qz1c, qz1d, qz1e, qz1f, qz1g, qz1h, qz1i, qz1j, qz1k, qz1l, qz1m, qz1n, qz1o, qz1p, qz1q, qz1r, qz1s, qz1t, qz1u, qz1v, qz1w, qz1x, qz1y, qz1z, qz20, qz21, qz22, qz23, qz24, qz25, qz26, qz27, qz28, qz29, qz2a, qz2b, qz2c, qz2d, qz2e, qz2f, qz2g, qz2h, qz2i, qz2j, qz2k, qz2l, qz2m, qz2n, qz2o, qz2p, qz2q, qz2r, qz2s, qz2t, qz2u, qz2v, qz2w, qz2x, qz2y, qz2z, qz30, qz31, qz32, qz33, qz34, qz35, qz36, qz37, qz38, qz39, qz3a, qz3b, qz3c, qz3d, Bool.not_true, Bool.not_false, List.cons_append, List.nil_append, List.append_nil]
          refine x61_ok (c := ch) (rm := false) (by simp (disch := decide) only [z0, z1, h_here, h_skip]) (by simp (disch := decide) only [z0, z1, h_here, h_skip]) ?_
          have hbl : (false || isBlank ch) = true := by rw [h10]; rfl
          rw [hbl]
          simp (disch := first | decide | assumption | omega) only [r_onh i5, v_addN, qz00, qz01, qz02, qz03, qz04, qz05, qz06, qz07, qz08, qz09, qz0a, qz0b, qz0c, qz0d, qz0e, qz0f, qz0g, qz0h, qz0i, qz0j, qz0k, qz0l, qz0m, qz0n, qz0o, qz0p, qz0q, qz0r, qz0s, qz0t, qz0u, qz0v, qz0w, qz0x, qz0y, qz0z, qz10, qz11, qz12, qz13, qz14, qz15, qz16, qz17, qz18, qz19, qz1a, qz1b, qz1c, qz1d, qz1e, qz1f, qz1g, qz1h, qz1i, qz1j, qz1k, qz1l, qz1m, qz1n, qz1o, qz1p, qz1q, qz1r, qz1s, qz1t, qz1u, qz1v, qz1w, qz1x, qz1y, qz1z, qz20, qz21, qz22, qz23, qz24, qz25, qz26, qz27, qz28, qz29, qz2a, qz2b, qz2c, qz2d, qz2e, qz2f, qz2g, qz2h, qz2i, qz2j, qz2k, qz2l, qz2m, qz2n, qz2o, qz2p, qz2q, qz2r, qz2s, qz2t, qz2u, qz2v, qz2w, qz2x, qz2y, qz2z, qz30, qz31, qz32, qz33, qz34, qz35, qz36, qz37, qz38, qz39, qz3a, qz3b, qz3c, qz3d, Bool.not_true, Bool.not_false, List.cons_append, List.nil_append, List.append_nil]
          exact hskip _ false hr2 hbl (by simp (disch := decide) only [z0, z1, h_here, h_skip, i0]) (by simp (disch := decide) only [z0, z1, h_here, h_skip, i3]) (by simp (disch := decide) only [z0, z1, h_here, h_skip, i4]) (by simp (disch := decide) only [z0, z1, h_here, h_skip]) (by simp (disch := decide) only [z0, z1, h_here, h_skip])
        · have h10' : (ch : Int) ≠ 10 := by omega
          rw [if_neg h10] at hr2
          simp (disch := first | decide | assumption | omega) only [r_onh i0, r_onh i5, eX, qz00, qz01, qz02, qz03, qz04, qz05, qz06, qz07, qz08, qz09, qz0a, qz0b, qz0c, qz0d, qz0e, qz0f, qz0g, qz0h, qz0i, qz0j, qz0k, qz0l, qz0m, qz0n, qz0o, qz0p, qz0q, qz0r, qz0s, qz0t, qz0u, qz0v, qz0w, qz0x, qz0y, qz0z, qz10, qz11, qz12, qz13, qz14, qz15, qz16, qz17, qz18, qz19, qz1a, qz1b, qz1c, qz1d, qz1e, qz1f, qz1g, qz1h, qz1i, qz1j, qz1k, qz1l, qz1m, qz1n, qz1o, qz1p, qz1q, qz1r, qz1s, qz1t, qz1u, qz1v, qz1w, qz1x, qz1y, qz1z, qz20, qz21, qz22, qz23, qz24, qz25, qz26, qz27, qz28, qz29, qz2a, qz2b, qz2c, qz2d, qz2e, qz2f, qz2g, qz2h, qz2i, qz2j, qz2k, qz2l, qz2m, qz2n, qz2o, qz2p, qz2q, qz2r, qz2s, qz2t, qz2u, qz2v, qz2w, qz2x, qz2y, qz2z, qz30, qz31, qz32, qz33, qz34, qz35, qz36, qz37, qz38, qz39, qz3a, qz3b, qz3c, qz3d, Bool.not_true, Bool.not_false, List.cons_append, List.nil_append, List.append_nil]
          refine x48_ok (l := l) (a := a) (c := ch) (rm := rm) (by simp (disch := decide) only [z0, z1, h_here, h_skip, i0]) (by simp (disch := decide) only [z0, z1, h_here, h_skip, i5]) (by simp (disch := decide) only [z0, z1, h_here, h_skip, i6]) (by simp (disch := decide) only [z0, z1, h_here, h_skip]) hlt hl ?_
          by_cases hrem : rm = false ∧ ch = 47 ∧ a + 1 < l.length ∧ l.getD (a + 1) 0 = 47
          · rw [decide_eq_true hrem]
            rw [if_pos ⟨hrem.1, hrem.2.1, hhd.2 hrem.2.2⟩] at hr2
            simp (disch := first | decide | assumption | omega) only [qz00, qz01, qz02, qz03, qz04, qz05, qz06, qz07, qz08, qz09, qz0a, qz0b, qz0c, qz0d, qz0e, qz0f, qz0g, qz0h, qz0i, qz0j, qz0k, qz0l, qz0m, qz0n, qz0o, qz0p, qz0q, qz0r, qz0s, qz0t, qz0u, qz0v, qz0w, qz0x, qz0y, qz0z, qz10, qz11, qz12, qz13, qz14, qz15, qz16, qz17, qz18, qz19, qz1a, qz1b, qz1c, qz1d, qz1e, qz1f, qz1g, qz1h, qz1i, qz1j, qz1k, qz1l, qz1m, qz1n, qz1o, qz1p, qz1q, qz1r, qz1s, qz1t, qz1u, qz1v, qz1w, qz1x, qz1y, qz1z, qz20, qz21, qz22, qz23, qz24, qz25, qz26, qz27, qz28, qz29, qz2a, qz2b, qz2c, qz2d, qz2e, qz2f, qz2g, qz2h, qz2i, qz2j, qz2k, qz2l, qz2m, qz2n, qz2o, qz2p, qz2q, qz2r, qz2s, qz2t, qz2u, qz2v, qz2w, qz2x, qz2y, qz2z, qz30, qz31, qz32, qz33, qz34, qz35, qz36, qz37, qz38, qz39, qz3a, qz3b, qz3c, qz3d, Bool.not_true, Bool.not_false, List.cons_append, List.nil_append, List.append_nil]
            refine x61_ok (c := ch) (rm := true) (by simp (disch := decide) only [z0, z1, h_here, h_skip]) (by simp (disch := decide) only [z0, z1, h_here, h_skip]) ?_
            have hbl : (true || isBlank ch) = true := Bool.true_or _
            rw [hbl]
            simp (disch := first | decide | assumption | omega) only [r_onh i5, v_addN, qz00, qz01, qz02, qz03, qz04, qz05, qz06, qz07, qz08, qz09, qz0a, qz0b, qz0c, qz0d, qz0e, qz0f, qz0g, qz0h, qz0i, qz0j, qz0k, qz0l, qz0m, qz0n, qz0o, qz0p, qz0q, qz0r, qz0s, qz0t, qz0u, qz0v, qz0w, qz0x, qz0y, qz0z, qz10, qz11, qz12, qz13, qz14, qz15, qz16, qz17, qz18, qz19, qz1a, qz1b, qz1c, qz1d, qz1e, qz1f, qz1g, qz1h, qz1i, qz1j, qz1k, qz1l, qz1m, qz1n, qz1o, qz1p, qz1q, qz1r, qz1s, qz1t, qz1u, qz1v, qz1w, qz1x, qz1y, qz1z, qz20, qz21, qz22, qz23, qz24, qz25, qz26, qz27, qz28, qz29, qz2a, qz2b, qz2c, qz2d, qz2e, qz2f, qz2g, qz2h, qz2i, qz2j, qz2k, qz2l, qz2m, qz2n, qz2o, qz2p, qz2q, qz2r, qz2s, qz2t, qz2u, qz2v, qz2w, qz2x, qz2y, qz2z, qz30, qz31, qz32, qz33, qz34, qz35, qz36, qz37, qz38, qz39, qz3a, qz3b, qz3c, qz3d, Bool.not_true, Bool.not_false, List.cons_append, List.nil_append, List.append_nil]
            exact hskip _ true hr2 hbl (by simp (disch := decide) only [z0, z1, h_here, h_skip, i0]) (by simp (disch := decide) only [z0, z1, h_here, h_skip, i3]) (by simp (disch := decide) only [z0, z1, h_here, h_skip, i4]) (by simp (disch := decide) only [z0, z1, h_here, h_skip]) (by simp (disch := decide) only [z0, z1, h_here, h_skip])
          · rw [decide_eq_false hrem]
            rw [if_neg (fun h => hrem ⟨h.1, h.2.1, hhd.1 h.2.2⟩)] at hr2
            simp (disch := first | decide | assumption | omega) only [qz00, qz01, qz02, qz03, qz04, qz05, qz06, qz07, qz08, qz09, qz0a, qz0b, qz0c, qz0d, qz0e, qz0f, qz0g, qz0h, qz0i, qz0j, qz0k, qz0l, qz0m, qz0n, qz0o, qz0p, qz0q, qz0r, qz0s, qz0t, qz0u, qz0v, qz0w, qz0x, qz0y, qz0z, qz10, qz11, qz12, qz13, qz14, qz15, qz16, qz17, qz18, qz19, qz1a, qz1b, qz1c, qz1d, qz1e, qz1f, qz1g, qz1h, qz1i, qz1j, qz1k, qz1l, qz1m, qz1n, qz1o, qz1p, qz1q, qz1r, qz1s, qz1t, qz1u, qz1v, qz1w, qz1x, qz1y, qz1z, qz20, qz21, qz22, qz23, qz24, qz25, qz26, qz27, qz28, qz29, qz2a, qz2b, qz2c, qz2d, qz2e, qz2f, qz2g, qz2h, qz2i, qz2j, qz2k, qz2l, qz2m, qz2n, qz2o, qz2p, qz2q, qz2r, qz2s, qz2t, qz2u, qz2v, qz2w, qz2x, qz2y, qz2z, qz30, qz31, qz32, qz33, qz34, qz35, qz36, qz37, qz38, qz39, qz3a, qz3b, qz3c, qz3d, Bool.not_true, Bool.not_false, List.cons_append, List.nil_append, List.append_nil]
            refine x61_ok (c := ch) (rm := rm) (by simp (disch := decide) only [z0, z1, h_here, h_skip, i6]) (by simp (disch := decide) only [z0, z1, h_here, h_skip]) ?_
            cases hbl : (rm || isBlank ch) with
            | true =>
              simp (disch := first | decide | assumption | omega) only [r_onh i5, v_addN, qz00, qz01, qz02, qz03, qz04, qz05, qz06, qz07, qz08, qz09, qz0a, qz0b, qz0c, qz0d, qz0e, qz0f, qz0g, qz0h, qz0i, qz0j, qz0k, qz0l, qz0m, qz0n, qz0o, qz0p, qz0q, qz0r, qz0s, qz0t, qz0u, qz0v, qz0w, qz0x, qz0y, qz0z, qz10, qz11, qz12, qz13, qz14, qz15, qz16, qz17, qz18, qz19, qz1a, qz1b, qz1c, qz1d, qz1e, qz1f, qz1g, qz1h, qz1i, qz1j, qz1k, qz1l, qz1m, qz1n, qz1o, qz1p, qz1q, qz1r, qz1s, qz1t, qz1u, qz1v, qz1w, qz1x, qz1y, qz1z, qz20, qz21, qz22, qz23, qz24, qz25, qz26, qz27, qz28, qz29, qz2a, qz2b, qz2c, qz2d, qz2e, qz2f, qz2g, qz2h, qz2i, qz2j, qz2k, qz2l, qz2m, qz2n, qz2o, qz2p, qz2q, qz2r, qz2s, qz2t, qz2u, qz2v, qz2w, qz2x, qz2y, qz2z, qz30, qz31, qz32, qz33, qz34, qz35, qz36, qz37, qz38, qz39, qz3a, qz3b, qz3c, qz3d, Bool.not_true, Bool.not_false, List.cons_append, List.nil_append, List.append_nil]
              exact hskip _ rm hr2 hbl (by simp (disch := decide) only [z0, z1, h_here, h_skip, i0]) (by simp (disch := decide) only [z0, z1, h_here, h_skip, i3]) (by simp (disch := decide) only [z0, z1, h_here, h_skip, i4]) (by simp (disch := decide) only [z0, z1, h_here, h_skip]) (by simp (disch := decide) only [z0, z1, h_here, h_skip, i6])
            | false =>
              have hrm : rm = false := by cases rm with | true => simp at hbl | false => rfl
              rw [hr2, hbl, if_neg (by decide)] at hsk
              rw [hrm] at i6
              simp (disch := first | decide | assumption | omega) only [r_onh i0, r_onh i5, qz00, qz01, qz02, qz03, qz04, qz05, qz06, qz07, qz08, qz09, qz0a, qz0b, qz0c, qz0d, qz0e, qz0f, qz0g, qz0h, qz0i, qz0j, qz0k, qz0l, qz0m, qz0n, qz0o, qz0p, qz0q, qz0r, qz0s, qz0t, qz0u, qz0v, qz0w, qz0x, qz0y, qz0z, qz10, qz11, qz12, qz13, qz14, qz15, qz16, qz17, qz18, qz19, qz1a, qz1b, qz1c, qz1d, qz1e, qz1f, qz1g, qz1h, qz1i, qz1j, qz1k, qz1l, qz1m, qz1n, qz1o, qz1p, qz1q, qz1r, qz1s, qz1t, qz1u, qz1v, qz1w, qz1x, qz1y, qz1z, qz20, qz21, qz22, qz23, qz24, qz25, qz26, qz27, qz28, qz29, qz2a, qz2b, qz2c, qz2d, qz2e, qz2f, qz2g, qz2h, qz2i, qz2j, qz2k, qz2l, qz2m, qz2n, qz2o, qz2p, qz2q, qz2r, qz2s, qz2t, qz2u, qz2v, qz2w, qz2x, qz2y, qz2z, qz30, qz31, qz32, qz33, qz34, qz35, qz36, qz37, qz38, qz39, qz3a, qz3b, qz3c, qz3d, Bool.not_true, Bool.not_false, List.cons_append, List.nil_append, List.append_nil]
              refine word_ok (fun f a s hf => hb _ a s (by simp at hf ⊢; rcases hf with h | h | h | h <;> simp [h])) hlt hl s _ fun s3 e3 => ?_
              have k3 := ks.trans (Kept.ext e3)
              have F3 : rlen (Go.Ev.back s s3).h st.nx = 3 := (rlen_same (e3.keep st.nx hx)).trans F
              have R3 : Rs (Go.Ev.back s s3) b acc := R.keep e3.nx (e3.keep b R.lt)
              have hx3 : st.nx < (Go.Ev.back s s3).nx := Nat.lt_of_lt_of_le hx e3.nx
              generalize Go.Ev.back s s3 = u at k3 F3 R3 hx3
              have ufr : u.fr = [] := k3.fr
              simp (disch := first | decide | assumption | omega) only [r_onh i0, r_onh i5, qz00, qz01, qz02, qz03, qz04, qz05, qz06, qz07, qz08, qz09, qz0a, qz0b, qz0c, qz0d, qz0e, qz0f, qz0g, qz0h, qz0i, qz0j, qz0k, qz0l, qz0m, qz0n, qz0o, qz0p, qz0q, qz0r, qz0s, qz0t, qz0u, qz0v, qz0w, qz0x, qz0y, qz0z, qz10, qz11, qz12, qz13, qz14, qz15, qz16, qz17, qz18, qz19, qz1a, qz1b, qz1c, qz1d, qz1e, qz1f, qz1g, qz1h, qz1i, qz1j, qz1k, qz1l, qz1m, qz1n, qz1o, qz1p, qz1q, qz1r, qz1s, qz1t, qz1u, qz1v, qz1w, qz1x, qz1y, qz1z, qz20, qz21, qz22, qz23, qz24, qz25, qz26, qz27, qz28, qz29, qz2a, qz2b, qz2c, qz2d, qz2e, qz2f, qz2g, qz2h, qz2i, qz2j, qz2k, qz2l, qz2m, qz2n, qz2o, qz2p, qz2q, qz2r, qz2s, qz2t, qz2u, qz2v, qz2w, qz2x, qz2y, qz2z, qz30, qz31, qz32, qz33, qz34, qz35, qz36, qz37, qz38, qz39, qz3a, qz3b, qz3c, qz3d, Bool.not_true, Bool.not_false, List.cons_append, List.nil_append, List.append_nil]
              refine place_ok (fun a s => hb _ a s (by simp)) hal hl u _ ?_
              have wn := wordN_le (l.drop a)
              rw [List.length_drop] at wn
              have hfa := fun (e n : Nat) (t : Tk) => RI.fault (e := e) (n := n) (t := t) hda hal hg hM hsk
              have hwd := fun (L : Sl) (s : St) (b' n : Nat) (t : Tk) (k : Kept st.bare s) hx F R hb => RI.word (L := L) (s := s) (b := b') (n := n) (t := t) hda hlt hacc k hx F R hb hg hM hsk
              have nz := next_zero (x := ch) (r := l.drop (a + 1)) (p := walkP (1, 1) (l.take a))
              have nl := next_letter (x := ch) (r := l.drop (a + 1)) (p := walkP (1, 1) (l.take a))
              have nd := next_digit (x := ch) (r := l.drop (a + 1)) (p := walkP (1, 1) (l.take a))
              have ns := next_sign (x := ch) (r := l.drop (a + 1)) (p := walkP (1, 1) (l.take a))
              have ds := wordN_digits (x := ch) (r := l.drop (a + 1))
              rw [← hdc] at nz nl nd ns ds
              generalize wordN (l.drop a) = n at *
              generalize walkP (1, 1) (l.take a) = p at *
              have finF : ∀ (e : Nat) (u s' : St), Kept st.bare u → s'.nx = u.nx → (∀ c, c ≠ st.nx → hget s'.h c = hget u.h c) → cutM l (1, 1) = ([], (e, p.1, p.2)) → K (.tup [.nils, .agg (fcells (e, p.1, p.2))]) s'.bare := fun e u s' k z1 z3 hcut => by
                rw [hcut] at hK
                exact hK 0 s'.bare ⟨by show st.bare.nx ≤ s'.nx; rw [z1]; exact k.nx, rfl, fun x hx => (z3 x (by omega)).trans (k.keep x hx)⟩ fun h => absurd rfl h
              by_cases hn : n = 0
              · have hn' : (n : Int) = 0 := by omega
                simp (disch := first | decide | assumption | omega) only [i_build3, b_flt131, r_onh i3, qz00, qz01, qz02, qz03, qz04, qz05, qz06, qz07, qz08, qz09, qz0a, qz0b, qz0c, qz0d, qz0e, qz0f, qz0g, qz0h, qz0i, qz0j, qz0k, qz0l, qz0m, qz0n, qz0o, qz0p, qz0q, qz0r, qz0s, qz0t, qz0u, qz0v, qz0w, qz0x, qz0y, qz0z, qz10, qz11, qz12, qz13, qz14, qz15, qz16, qz17, qz18, qz19, qz1a, qz1b, qz1c, qz1d, qz1e, qz1f, qz1g, qz1h, qz1i, qz1j, qz1k, qz1l, qz1m, qz1n, qz1o, qz1p, qz1q, qz1r, qz1s, qz1t, qz1u, qz1v, qz1w, qz1x, qz1y, qz1z, qz20, qz21, qz22, qz23, qz24, qz25, qz26, qz27, qz28, qz29, qz2a, qz2b, qz2c, qz2d, qz2e, qz2f, qz2g, qz2h, qz2i, qz2j, qz2k, qz2l, qz2m, qz2n, qz2o, qz2p, qz2q, qz2r, qz2s, qz2t, qz2u, qz2v, qz2w, qz2x, qz2y, qz2z, qz30, qz31, qz32, qz33, qz34, qz35, qz36, qz37, qz38, qz39, qz3a, qz3b, qz3c, qz3d, Bool.not_true, Bool.not_false, List.cons_append, List.nil_append, List.append_nil]
                refine o_stF (131, p.1, p.2) F3 fun s' z1 z2 z3 FF => ?_
                simp (disch := first | decide | assumption | omega) only [r_resA, r_onh i3, FF.ld, qz00, qz01, qz02, qz03, qz04, qz05, qz06, qz07, qz08, qz09, qz0a, qz0b, qz0c, qz0d, qz0e, qz0f, qz0g, qz0h, qz0i, qz0j, qz0k, qz0l, qz0m, qz0n, qz0o, qz0p, qz0q, qz0r, qz0s, qz0t, qz0u, qz0v, qz0w, qz0x, qz0y, qz0z, qz10, qz11, qz12, qz13, qz14, qz15, qz16, qz17, qz18, qz19, qz1a, qz1b, qz1c, qz1d, qz1e, qz1f, qz1g, qz1h, qz1i, qz1j, qz1k, qz1l, qz1m, qz1n, qz1o, qz1p, qz1q, qz1r, qz1s, qz1t, qz1u, qz1v, qz1w, qz1x, qz1y, qz1z, qz20, qz21, qz22, qz23, qz24, qz25, qz26, qz27, qz28, qz29, qz2a, qz2b, qz2c, qz2d, qz2e, qz2f, qz2g, qz2h, qz2i, qz2j, qz2k, qz2l, qz2m, qz2n, qz2o, qz2p, qz2q, qz2r, qz2s, qz2t, qz2u, qz2v, qz2w, qz2x, qz2y, qz2z, qz30, qz31, qz32, qz33, qz34, qz35, qz36, qz37, qz38, qz39, qz3a, qz3b, qz3c, qz3d, Bool.not_true, Bool.not_false, List.cons_append, List.nil_append, List.append_nil]
                exact finF 131 u s' k3 z1 z3 (hfa _ _ _ (nz hn) (by decide))
              · have hn' : (n : Int) ≠ 0 := by omega
                have eA := fun (s : St) (K : AV → St → Prop) => v_addNN (a := a) (b := n) (by omega) s K
                have eS := fun (s : St) (K : AV → St → Prop) => v_sl3 (st := s) (K := K) (l := l) (a := a) (n := a + n) (by omega) (by omega) .i64 .i64
                have en : a + n - a = n := by omega
                simp (disch := first | decide | assumption | omega) only [r_onh i0, r_onh i5, eA, eS, en, i_build4, b_tokS, qz00, qz01, qz02, qz03, qz04, qz05, qz06, qz07, qz08, qz09, qz0a, qz0b, qz0c, qz0d, qz0e, qz0f, qz0g, qz0h, qz0i, qz0j, qz0k, qz0l, qz0m, qz0n, qz0o, qz0p, qz0q, qz0r, qz0s, qz0t, qz0u, qz0v, qz0w, qz0x, qz0y, qz0z, qz10, qz11, qz12, qz13, qz14, qz15, qz16, qz17, qz18, qz19, qz1a, qz1b, qz1c, qz1d, qz1e, qz1f, qz1g, qz1h, qz1i, qz1j, qz1k, qz1l, qz1m, qz1n, qz1o, qz1p, qz1q, qz1r, qz1s, qz1t, qz1u, qz1v, qz1w, qz1x, qz1y, qz1z, qz20, qz21, qz22, qz23, qz24, qz25, qz26, qz27, qz28, qz29, qz2a, qz2b, qz2c, qz2d, qz2e, qz2f, qz2g, qz2h, qz2i, qz2j, qz2k, qz2l, qz2m, qz2n, qz2o, qz2p, qz2q, qz2r, qz2s, qz2t, qz2u, qz2v, qz2w, qz2x, qz2y, qz2z, qz30, qz31, qz32, qz33, qz34, qz35, qz36, qz37, qz38, qz39, qz3a, qz3b, qz3c, qz3d, Bool.not_true, Bool.not_false, List.cons_append, List.nil_append, List.append_nil]
                refine o_new fun s4 m4 => ?_
                have n4 : s4.nx = u.nx + 1 := m4.nx
                have l4 : rlen s4.h u.nx = 5 := m4.len
                have k4 := k3.made m4
                simp (disch := first | decide | assumption | omega) only [qz00, qz01, qz02, qz03, qz04, qz05, qz06, qz07, qz08, qz09, qz0a, qz0b, qz0c, qz0d, qz0e, qz0f, qz0g, qz0h, qz0i, qz0j, qz0k, qz0l, qz0m, qz0n, qz0o, qz0p, qz0q, qz0r, qz0s, qz0t, qz0u, qz0v, qz0w, qz0x, qz0y, qz0z, qz10, qz11, qz12, qz13, qz14, qz15, qz16, qz17, qz18, qz19, qz1a, qz1b, qz1c, qz1d, qz1e, qz1f, qz1g, qz1h, qz1i, qz1j, qz1k, qz1l, qz1m, qz1n, qz1o, qz1p, qz1q, qz1r, qz1s, qz1t, qz1u, qz1v, qz1w, qz1x, qz1y, qz1z, qz20, qz21, qz22, qz23, qz24, qz25, qz26, qz27, qz28, qz29, qz2a, qz2b, qz2c, qz2d, qz2e, qz2f, qz2g, qz2h, qz2i, qz2j, qz2k, qz2l, qz2m, qz2n, qz2o, qz2p, qz2q, qz2r, qz2s, qz2t, qz2u, qz2v, qz2w, qz2x, qz2y, qz2z, qz30, qz31, qz32, qz33, qz34, qz35, qz36, qz37, qz38, qz39, qz3a, qz3b, qz3c, qz3d, Bool.not_true, Bool.not_false, List.cons_append, List.nil_append, List.append_nil]
                refine o_stT l4 (by omega) fun s5 w1 w2 w3 T => ?_
                have k5 : Kept st.bare s5 := ⟨by have := k4.nx; omega, w2.trans k4.fr, fun x hx => (w3 x (by have := k3.nx; have : x < st.bare.nx := hx; omega)).trans (k4.keep x hx)⟩
                have k35 : ∀ x, x ≠ u.nx → hget s5.h x = hget u.h x := fun x hx => (w3 x hx).trans (m4.keep x hx)
                have F5 : rlen s5.h st.nx = 3 := (rlen_same (k35 st.nx (by omega))).trans F3
                have R5 : Rs s5 b acc := R3.keep (by omega) (k35 b (by have := R3.lt; omega))
                have hx5 : st.nx < s5.nx := by omega
                have htb : st.nx < u.nx := hx3
                have hbt : b ≠ u.nx := by have := R3.lt; omega
                have s5fr : s5.fr = [] := k5.fr
                generalize u.nx = tb at T htb hbt
                clear k4 k35 w1 w2 w3 n4 l4 m4 k3 F3 R3 hx3
                have finW : ∀ (L : Sl) (s6 s7 : St) (b7 : Nat) (t : Tk), Kept st.bare s6 → st.nx < s6.nx → rlen s6.h st.nx = 3 → s6.nx ≤ s7.nx → s7.fr = s6.fr → (∀ x, x < s6.nx → x ≠ b → hget s7.h x = hget s6.h x) → s6.nx ≤ b7 → Rs s7 b7 (acc ++ [t]) → nextM (l.drop a) p = (0, t, n) → Has L 0 (.str l) → Has L 3 (.ptr st.nx 0) → Has L 4 (rsV b7 (acc ++ [t])) → Has L 5 (.int .i64 ((a + n : Nat) : Int)) → Has L 6 (.bool false) → ∃ k', k' < l.length - a ∧ RI l st k' L s7 := fun L s6 s7 b7 t k6 hx6 F6 y1 y2 y3 y4 R7 hN =>
                  hwd L s7 b7 n t ⟨Nat.le_trans k6.nx y1, y2.trans k6.fr, fun x hx => (y3 x (Nat.lt_of_lt_of_le hx k6.nx) (by have : x < st.nx := hx; omega)).trans (k6.keep x hx)⟩ (by omega) ((rlen_same (y3 st.nx hx6 (by omega))).trans F6) R7 (by omega) hN hn
                have t0 : 0 < rlen s5.h tb := by rw [T.len]; decide
                simp (disch := first | decide | assumption | omega) only [qz00, qz01, qz02, qz03, qz04, qz05, qz06, qz07, qz08, qz09, qz0a, qz0b, qz0c, qz0d, qz0e, qz0f, qz0g, qz0h, qz0i, qz0j, qz0k, qz0l, qz0m, qz0n, qz0o, qz0p, qz0q, qz0r, qz0s, qz0t, qz0u, qz0v, qz0w, qz0x, qz0y, qz0z, qz10, qz11, qz12, qz13, qz14, qz15, qz16, qz17, qz18, qz19, qz1a, qz1b, qz1c, qz1d, qz1e, qz1f, qz1g, qz1h, qz1i, qz1j, qz1k, qz1l, qz1m, qz1n, qz1o, qz1p, qz1q, qz1r, qz1s, qz1t, qz1u, qz1v, qz1w, qz1x, qz1y, qz1z, qz20, qz21, qz22, qz23, qz24, qz25, qz26, qz27, qz28, qz29, qz2a, qz2b, qz2c, qz2d, qz2e, qz2f, qz2g, qz2h, qz2i, qz2j, qz2k, qz2l, qz2m, qz2n, qz2o, qz2p, qz2q, qz2r, qz2s, qz2t, qz2u, qz2v, qz2w, qz2x, qz2y, qz2z, qz30, qz31, qz32, qz33, qz34, qz35, qz36, qz37, qz38, qz39, qz3a, qz3b, qz3c, qz3d, Bool.not_true, Bool.not_false, List.cons_append, List.nil_append, List.append_nil]
                refine Letter_ok (fun a s => hb _ a s (by simp)) ch s5 _ ?_
                cases hL : isLetter ch with
                | true =>
                  have nl' := nl hL
                  simp (disch := first | decide | assumption | omega) only [qz00, qz01, qz02, qz03, qz04, qz05, qz06, qz07, qz08, qz09, qz0a, qz0b, qz0c, qz0d, qz0e, qz0f, qz0g, qz0h, qz0i, qz0j, qz0k, qz0l, qz0m, qz0n, qz0o, qz0p, qz0q, qz0r, qz0s, qz0t, qz0u, qz0v, qz0w, qz0x, qz0y, qz0z, qz10, qz11, qz12, qz13, qz14, qz15, qz16, qz17, qz18, qz19, qz1a, qz1b, qz1c, qz1d, qz1e, qz1f, qz1g, qz1h, qz1i, qz1j, qz1k, qz1l, qz1m, qz1n, qz1o, qz1p, qz1q, qz1r, qz1s, qz1t, qz1u, qz1v, qz1w, qz1x, qz1y, qz1z, qz20, qz21, qz22, qz23, qz24, qz25, qz26, qz27, qz28, qz29, qz2a, qz2b, qz2c, qz2d, qz2e, qz2f, qz2g, qz2h, qz2i, qz2j, qz2k, qz2l, qz2m, qz2n, qz2o, qz2p, qz2q, qz2r, qz2s, qz2t, qz2u, qz2v, qz2w, qz2x, qz2y, qz2z, qz30, qz31, qz32, qz33, qz34, qz35, qz36, qz37, qz38, qz39, qz3a, qz3b, qz3c, qz3d, Bool.not_true, Bool.not_false, List.cons_append, List.nil_append, List.append_nil]
                  refine o_st1 t0 ⟨rfl, rfl, rfl⟩ fun s6 m6 => ?_
                  have T6 := T.put0 (k := 1) m6
                  have n6 := m6.nx
                  have k6 := k5.wrote m6 (by show st.nx ≤ tb; omega)
                  have F6 : rlen s6.h st.nx = 3 := (rlen_same (m6.keep st.nx (by omega))).trans F5
                  have R6 : Rs s6 b acc := R5.keep (by omega) (m6.keep b hbt)
                  have hx6 : st.nx < s6.nx := by omega
                  have s6fr : s6.fr = [] := k6.fr
                  have g1 : 1 < rlen s6.h tb := by rw [T6.len]; decide
                  have c1 : rat s6.h tb 1 = .str ((l.drop a).take n) := T6.c1
                  simp (disch := first | decide | assumption | omega) only [c1, qz00, qz01, qz02, qz03, qz04, qz05, qz06, qz07, qz08, qz09, qz0a, qz0b, qz0c, qz0d, qz0e, qz0f, qz0g, qz0h, qz0i, qz0j, qz0k, qz0l, qz0m, qz0n, qz0o, qz0p, qz0q, qz0r, qz0s, qz0t, qz0u, qz0v, qz0w, qz0x, qz0y, qz0z, qz10, qz11, qz12, qz13, qz14, qz15, qz16, qz17, qz18, qz19, qz1a, qz1b, qz1c, qz1d, qz1e, qz1f, qz1g, qz1h, qz1i, qz1j, qz1k, qz1l, qz1m, qz1n, qz1o, qz1p, qz1q, qz1r, qz1s, qz1t, qz1u, qz1v, qz1w, qz1x, qz1y, qz1z, qz20, qz21, qz22, qz23, qz24, qz25, qz26, qz27, qz28, qz29, qz2a, qz2b, qz2c, qz2d, qz2e, qz2f, qz2g, qz2h, qz2i, qz2j, qz2k, qz2l, qz2m, qz2n, qz2o, qz2p, qz2q, qz2r, qz2s, qz2t, qz2u, qz2v, qz2w, qz2x, qz2y, qz2z, qz30, qz31, qz32, qz33, qz34, qz35, qz36, qz37, qz38, qz39, qz3a, qz3b, qz3c, qz3d, Bool.not_true, Bool.not_false, List.cons_append, List.nil_append, List.append_nil]
                  refine refKept_ok (fun f a s hf => hb _ a s (by rcases hf with rfl | rfl <;> simp)) ((l.drop a).take n) s6 _ fun s7 e7 => ?_
                  have k7 := k6.trans (Kept.ext e7)
                  have F7 : rlen (Go.Ev.back s6 s7).h st.nx = 3 := (rlen_same (e7.keep st.nx hx6)).trans F6
                  have R7 : Rs (Go.Ev.back s6 s7) b acc := R6.keep e7.nx (e7.keep b R6.lt)
                  have hx7 : st.nx < (Go.Ev.back s6 s7).nx := Nat.lt_of_lt_of_le hx6 e7.nx
                  have T7 := T6.keep (s' := Go.Ev.back s6 s7) e7.nx (e7.keep tb T6.lt)
                  generalize Go.Ev.back s6 s7 = v at k7 F7 R7 hx7 T7
                  have vfr : v.fr = [] := k7.fr
                  cases hkp : kept ((l.drop a).take n) with
                  | true =>
                    rw [hkp, if_pos rfl] at nl'
                    have g0 : 0 < rlen v.h tb := by rw [T7.len]; decide
                    simp (disch := first | decide | assumption | omega) only [qz00, qz01, qz02, qz03, qz04, qz05, qz06, qz07, qz08, qz09, qz0a, qz0b, qz0c, qz0d, qz0e, qz0f, qz0g, qz0h, qz0i, qz0j, qz0k, qz0l, qz0m, qz0n, qz0o, qz0p, qz0q, qz0r, qz0s, qz0t, qz0u, qz0v, qz0w, qz0x, qz0y, qz0z, qz10, qz11, qz12, qz13, qz14, qz15, qz16, qz17, qz18, qz19, qz1a, qz1b, qz1c, qz1d, qz1e, qz1f, qz1g, qz1h, qz1i, qz1j, qz1k, qz1l, qz1m, qz1n, qz1o, qz1p, qz1q, qz1r, qz1s, qz1t, qz1u, qz1v, qz1w, qz1x, qz1y, qz1z, qz20, qz21, qz22, qz23, qz24, qz25, qz26, qz27, qz28, qz29, qz2a, qz2b, qz2c, qz2d, qz2e, qz2f, qz2g, qz2h, qz2i, qz2j, qz2k, qz2l, qz2m, qz2n, qz2o, qz2p, qz2q, qz2r, qz2s, qz2t, qz2u, qz2v, qz2w, qz2x, qz2y, qz2z, qz30, qz31, qz32, qz33, qz34, qz35, qz36, qz37, qz38, qz39, qz3a, qz3b, qz3c, qz3d, Bool.not_true, Bool.not_false, List.cons_append, List.nil_append, List.append_nil]
                    refine o_st1 g0 ⟨rfl, rfl, rfl⟩ fun s8 m8 => ?_
                    have T8 := T7.put0 (k := 4) m8
                    have n8 := m8.nx
                    have k8 := k7.wrote m8 (by show st.nx ≤ tb; omega)
                    have F8 : rlen s8.h st.nx = 3 := (rlen_same (m8.keep st.nx (by omega))).trans F7
                    have R8 : Rs s8 b acc := R7.keep (by omega) (m8.keep b hbt)
                    have hx8 : st.nx < s8.nx := by omega
                    have s8fr : s8.fr = [] := k8.fr
                    by_cases h32 : 32 < n
                    · have h32' : (32 : Int) < (n : Int) := by omega
                      rw [if_pos h32] at nl'
                      simp (disch := first | decide | assumption | omega) only [i_build3, b_flt132, r_onh i3, qz00, qz01, qz02, qz03, qz04, qz05, qz06, qz07, qz08, qz09, qz0a, qz0b, qz0c, qz0d, qz0e, qz0f, qz0g, qz0h, qz0i, qz0j, qz0k, qz0l, qz0m, qz0n, qz0o, qz0p, qz0q, qz0r, qz0s, qz0t, qz0u, qz0v, qz0w, qz0x, qz0y, qz0z, qz10, qz11, qz12, qz13, qz14, qz15, qz16, qz17, qz18, qz19, qz1a, qz1b, qz1c, qz1d, qz1e, qz1f, qz1g, qz1h, qz1i, qz1j, qz1k, qz1l, qz1m, qz1n, qz1o, qz1p, qz1q, qz1r, qz1s, qz1t, qz1u, qz1v, qz1w, qz1x, qz1y, qz1z, qz20, qz21, qz22, qz23, qz24, qz25, qz26, qz27, qz28, qz29, qz2a, qz2b, qz2c, qz2d, qz2e, qz2f, qz2g, qz2h, qz2i, qz2j, qz2k, qz2l, qz2m, qz2n, qz2o, qz2p, qz2q, qz2r, qz2s, qz2t, qz2u, qz2v, qz2w, qz2x, qz2y, qz2z, qz30, qz31, qz32, qz33, qz34, qz35, qz36, qz37, qz38, qz39, qz3a, qz3b, qz3c, qz3d, Bool.not_true, Bool.not_false, List.cons_append, List.nil_append, List.append_nil]
                      refine o_stF (132, p.1, p.2) F8 fun s' z1 z2 z3 FF => ?_
                      simp (disch := first | decide | assumption | omega) only [r_resA, r_onh i3, FF.ld, qz00, qz01, qz02, qz03, qz04, qz05, qz06, qz07, qz08, qz09, qz0a, qz0b, qz0c, qz0d, qz0e, qz0f, qz0g, qz0h, qz0i, qz0j, qz0k, qz0l, qz0m, qz0n, qz0o, qz0p, qz0q, qz0r, qz0s, qz0t, qz0u, qz0v, qz0w, qz0x, qz0y, qz0z, qz10, qz11, qz12, qz13, qz14, qz15, qz16, qz17, qz18, qz19, qz1a, qz1b, qz1c, qz1d, qz1e, qz1f, qz1g, qz1h, qz1i, qz1j, qz1k, qz1l, qz1m, qz1n, qz1o, qz1p, qz1q, qz1r, qz1s, qz1t, qz1u, qz1v, qz1w, qz1x, qz1y, qz1z, qz20, qz21, qz22, qz23, qz24, qz25, qz26, qz27, qz28, qz29, qz2a, qz2b, qz2c, qz2d, qz2e, qz2f, qz2g, qz2h, qz2i, qz2j, qz2k, qz2l, qz2m, qz2n, qz2o, qz2p, qz2q, qz2r, qz2s, qz2t, qz2u, qz2v, qz2w, qz2x, qz2y, qz2z, qz30, qz31, qz32, qz33, qz34, qz35, qz36, qz37, qz38, qz39, qz3a, qz3b, qz3c, qz3d, Bool.not_true, Bool.not_false, List.cons_append, List.nil_append, List.append_nil]
                      exact finF 132 s8 s' k8 z1 z3 (hfa _ _ _ nl' (by decide))
                    · have h32' : ¬ (32 : Int) < (n : Int) := by omega
                      rw [if_neg h32] at nl'
                      simp (disch := first | decide | assumption | omega) only [qz00, qz01, qz02, qz03, qz04, qz05, qz06, qz07, qz08, qz09, qz0a, qz0b, qz0c, qz0d, qz0e, qz0f, qz0g, qz0h, qz0i, qz0j, qz0k, qz0l, qz0m, qz0n, qz0o, qz0p, qz0q, qz0r, qz0s, qz0t, qz0u, qz0v, qz0w, qz0x, qz0y, qz0z, qz10, qz11, qz12, qz13, qz14, qz15, qz16, qz17, qz18, qz19, qz1a, qz1b, qz1c, qz1d, qz1e, qz1f, qz1g, qz1h, qz1i, qz1j, qz1k, qz1l, qz1m, qz1n, qz1o, qz1p, qz1q, qz1r, qz1s, qz1t, qz1u, qz1v, qz1w, qz1x, qz1y, qz1z, qz20, qz21, qz22, qz23, qz24, qz25, qz26, qz27, qz28, qz29, qz2a, qz2b, qz2c, qz2d, qz2e, qz2f, qz2g, qz2h, qz2i, qz2j, qz2k, qz2l, qz2m, qz2n, qz2o, qz2p, qz2q, qz2r, qz2s, qz2t, qz2u, qz2v, qz2w, qz2x, qz2y, qz2z, qz30, qz31, qz32, qz33, qz34, qz35, qz36, qz37, qz38, qz39, qz3a, qz3b, qz3c, qz3d, Bool.not_true, Bool.not_false, List.cons_append, List.nil_append, List.append_nil]
                      refine Digit_ok (fun a s => hb _ a s (by simp)) ch s8 _ ?_
                      rw [letter_not_digit hL]
                      simp (disch := first | decide | assumption | omega) only [qz00, qz01, qz02, qz03, qz04, qz05, qz06, qz07, qz08, qz09, qz0a, qz0b, qz0c, qz0d, qz0e, qz0f, qz0g, qz0h, qz0i, qz0j, qz0k, qz0l, qz0m, qz0n, qz0o, qz0p, qz0q, qz0r, qz0s, qz0t, qz0u, qz0v, qz0w, qz0x, qz0y, qz0z, qz10, qz11, qz12, qz13, qz14, qz15, qz16, qz17, qz18, qz19, qz1a, qz1b, qz1c, qz1d, qz1e, qz1f, qz1g, qz1h, qz1i, qz1j, qz1k, qz1l, qz1m, qz1n, qz1o, qz1p, qz1q, qz1r, qz1s, qz1t, qz1u, qz1v, qz1w, qz1x, qz1y, qz1z, qz20, qz21, qz22, qz23, qz24, qz25, qz26, qz27, qz28, qz29, qz2a, qz2b, qz2c, qz2d, qz2e, qz2f, qz2g, qz2h, qz2i, qz2j, qz2k, qz2l, qz2m, qz2n, qz2o, qz2p, qz2q, qz2r, qz2s, qz2t, qz2u, qz2v, qz2w, qz2x, qz2y, qz2z, qz30, qz31, qz32, qz33, qz34, qz35, qz36, qz37, qz38, qz39, qz3a, qz3b, qz3c, qz3d, Bool.not_true, Bool.not_false, List.cons_append, List.nil_append, List.append_nil]
                      refine xA_ok (a := a) (n := n) (b := b) (acc := acc) (by simp (disch := decide) only [z0, z1, h_here, h_skip, i4]) (by simp (disch := decide) only [z0, z1, h_here, h_skip, i5]) (by simp (disch := decide) only [z0, z1, h_here, h_skip]) (by simp (disch := decide) only [z0, z1, h_here, h_skip]) T8 R8 (by omega) (by omega) fun s9 b9 y1 y2 y3 y4 R9 => ?_
                      simp (disch := first | decide | assumption | omega) only [qz00, qz01, qz02, qz03, qz04, qz05, qz06, qz07, qz08, qz09, qz0a, qz0b, qz0c, qz0d, qz0e, qz0f, qz0g, qz0h, qz0i, qz0j, qz0k, qz0l, qz0m, qz0n, qz0o, qz0p, qz0q, qz0r, qz0s, qz0t, qz0u, qz0v, qz0w, qz0x, qz0y, qz0z, qz10, qz11, qz12, qz13, qz14, qz15, qz16, qz17, qz18, qz19, qz1a, qz1b, qz1c, qz1d, qz1e, qz1f, qz1g, qz1h, qz1i, qz1j, qz1k, qz1l, qz1m, qz1n, qz1o, qz1p, qz1q, qz1r, qz1s, qz1t, qz1u, qz1v, qz1w, qz1x, qz1y, qz1z, qz20, qz21, qz22, qz23, qz24, qz25, qz26, qz27, qz28, qz29, qz2a, qz2b, qz2c, qz2d, qz2e, qz2f, qz2g, qz2h, qz2i, qz2j, qz2k, qz2l, qz2m, qz2n, qz2o, qz2p, qz2q, qz2r, qz2s, qz2t, qz2u, qz2v, qz2w, qz2x, qz2y, qz2z, qz30, qz31, qz32, qz33, qz34, qz35, qz36, qz37, qz38, qz39, qz3a, qz3b, qz3c, qz3d, Bool.not_true, Bool.not_false, List.cons_append, List.nil_append, List.append_nil]
                      exact finW _ s8 s9 b9 _ k8 hx8 F8 y1 y2 y3 y4 R9 nl' (by simp (disch := decide) only [z0, z1, h_here, h_skip, i0]) (by simp (disch := decide) only [z0, z1, h_here, h_skip, i3]) (by simp (disch := decide) only [z0, z1, h_here, h_skip]) (by simp (disch := decide) only [z0, z1, h_here, h_skip]) (by simp (disch := decide) only [z0, z1, h_here, h_skip, i6])
                  | false =>
                    rw [hkp, if_neg Bool.false_ne_true] at nl'
                    simp (disch := first | decide | assumption | omega) only [qz00, qz01, qz02, qz03, qz04, qz05, qz06, qz07, qz08, qz09, qz0a, qz0b, qz0c, qz0d, qz0e, qz0f, qz0g, qz0h, qz0i, qz0j, qz0k, qz0l, qz0m, qz0n, qz0o, qz0p, qz0q, qz0r, qz0s, qz0t, qz0u, qz0v, qz0w, qz0x, qz0y, qz0z, qz10, qz11, qz12, qz13, qz14, qz15, qz16, qz17, qz18, qz19, qz1a, qz1b, qz1c, qz1d, qz1e, qz1f, qz1g, qz1h, qz1i, qz1j, qz1k, qz1l, qz1m, qz1n, qz1o, qz1p, qz1q, qz1r, qz1s, qz1t, qz1u, qz1v, qz1w, qz1x, qz1y, qz1z, qz20, qz21, qz22, qz23, qz24, qz25, qz26, qz27, qz28, qz29, qz2a, qz2b, qz2c, qz2d, qz2e, qz2f, qz2g, qz2h, qz2i, qz2j, qz2k, qz2l, qz2m, qz2n, qz2o, qz2p, qz2q, qz2r, qz2s, qz2t, qz2u, qz2v, qz2w, qz2x, qz2y, qz2z, qz30, qz31, qz32, qz33, qz34, qz35, qz36, qz37, qz38, qz39, qz3a, qz3b, qz3c, qz3d, Bool.not_true, Bool.not_false, List.cons_append, List.nil_append, List.append_nil]
                    by_cases h32 : 32 < n
                    · have h32' : (32 : Int) < (n : Int) := by omega
                      rw [if_pos h32] at nl'
                      simp (disch := first | decide | assumption | omega) only [i_build3, b_flt132, r_onh i3, qz00, qz01, qz02, qz03, qz04, qz05, qz06, qz07, qz08, qz09, qz0a, qz0b, qz0c, qz0d, qz0e, qz0f, qz0g, qz0h, qz0i, qz0j, qz0k, qz0l, qz0m, qz0n, qz0o, qz0p, qz0q, qz0r, qz0s, qz0t, qz0u, qz0v, qz0w, qz0x, qz0y, qz0z, qz10, qz11, qz12, qz13, qz14, qz15, qz16, qz17, qz18, qz19, qz1a, qz1b, qz1c, qz1d, qz1e, qz1f, qz1g, qz1h, qz1i, qz1j, qz1k, qz1l, qz1m, qz1n, qz1o, qz1p, qz1q, qz1r, qz1s, qz1t, qz1u, qz1v, qz1w, qz1x, qz1y, qz1z, qz20, qz21, qz22, qz23, qz24, qz25, qz26, qz27, qz28, qz29, qz2a, qz2b, qz2c, qz2d, qz2e, qz2f, qz2g, qz2h, qz2i, qz2j, qz2k, qz2l, qz2m, qz2n, qz2o, qz2p, qz2q, qz2r, qz2s, qz2t, qz2u, qz2v, qz2w, qz2x, qz2y, qz2z, qz30, qz31, qz32, qz33, qz34, qz35, qz36, qz37, qz38, qz39, qz3a, qz3b, qz3c, qz3d, Bool.not_true, Bool.not_false, List.cons_append, List.nil_append, List.append_nil]
                      refine o_stF (132, p.1, p.2) F7 fun s' z1 z2 z3 FF => ?_
                      simp (disch := first | decide | assumption | omega) only [r_resA, r_onh i3, FF.ld, qz00, qz01, qz02, qz03, qz04, qz05, qz06, qz07, qz08, qz09, qz0a, qz0b, qz0c, qz0d, qz0e, qz0f, qz0g, qz0h, qz0i, qz0j, qz0k, qz0l, qz0m, qz0n, qz0o, qz0p, qz0q, qz0r, qz0s, qz0t, qz0u, qz0v, qz0w, qz0x, qz0y, qz0z, qz10, qz11, qz12, qz13, qz14, qz15, qz16, qz17, qz18, qz19, qz1a, qz1b, qz1c, qz1d, qz1e, qz1f, qz1g, qz1h, qz1i, qz1j, qz1k, qz1l, qz1m, qz1n, qz1o, qz1p, qz1q, qz1r, qz1s, qz1t, qz1u, qz1v, qz1w, qz1x, qz1y, qz1z, qz20, qz21, qz22, qz23, qz24, qz25, qz26, qz27, qz28, qz29, qz2a, qz2b, qz2c, qz2d, qz2e, qz2f, qz2g, qz2h, qz2i, qz2j, qz2k, qz2l, qz2m, qz2n, qz2o, qz2p, qz2q, qz2r, qz2s, qz2t, qz2u, qz2v, qz2w, qz2x, qz2y, qz2z, qz30, qz31, qz32, qz33, qz34, qz35, qz36, qz37, qz38, qz39, qz3a, qz3b, qz3c, qz3d, Bool.not_true, Bool.not_false, List.cons_append, List.nil_append, List.append_nil]
                      exact finF 132 v s' k7 z1 z3 (hfa _ _ _ nl' (by decide))
                    · have h32' : ¬ (32 : Int) < (n : Int) := by omega
                      rw [if_neg h32] at nl'
                      simp (disch := first | decide | assumption | omega) only [qz00, qz01, qz02, qz03, qz04, qz05, qz06, qz07, qz08, qz09, qz0a, qz0b, qz0c, qz0d, qz0e, qz0f, qz0g, qz0h, qz0i, qz0j, qz0k, qz0l, qz0m, qz0n, qz0o, qz0p, qz0q, qz0r, qz0s, qz0t, qz0u, qz0v, qz0w, qz0x, qz0y, qz0z, qz10, qz11, qz12, qz13, qz14, qz15, qz16, qz17, qz18, qz19, qz1a, qz1b, qz1c, qz1d, qz1e, qz1f, qz1g, qz1h, qz1i, qz1j, qz1k, qz1l, qz1m, qz1n, qz1o, qz1p, qz1q, qz1r, qz1s, qz1t, qz1u, qz1v, qz1w, qz1x, qz1y, qz1z, qz20, qz21, qz22, qz23, qz24, qz25, qz26, qz27, qz28, qz29, qz2a, qz2b, qz2c, qz2d, qz2e, qz2f, qz2g, qz2h, qz2i, qz2j, qz2k, qz2l, qz2m, qz2n, qz2o, qz2p, qz2q, qz2r, qz2s, qz2t, qz2u, qz2v, qz2w, qz2x, qz2y, qz2z, qz30, qz31, qz32, qz33, qz34, qz35, qz36, qz37, qz38, qz39, qz3a, qz3b, qz3c, qz3d, Bool.not_true, Bool.not_false, List.cons_append, List.nil_append, List.append_nil]
                      refine Digit_ok (fun a s => hb _ a s (by simp)) ch v _ ?_
                      rw [letter_not_digit hL]
                      simp (disch := first | decide | assumption | omega) only [qz00, qz01, qz02, qz03, qz04, qz05, qz06, qz07, qz08, qz09, qz0a, qz0b, qz0c, qz0d, qz0e, qz0f, qz0g, qz0h, qz0i, qz0j, qz0k, qz0l, qz0m, qz0n, qz0o, qz0p, qz0q, qz0r, qz0s, qz0t, qz0u, qz0v, qz0w, qz0x, qz0y, qz0z, qz10, qz11, qz12, qz13, qz14, qz15, qz16, qz17, qz18, qz19, qz1a, qz1b, qz1c, qz1d, qz1e, qz1f, qz1g, qz1h, qz1i, qz1j, qz1k, qz1l, qz1m, qz1n, qz1o, qz1p, qz1q, qz1r, qz1s, qz1t, qz1u, qz1v, qz1w, qz1x, qz1y, qz1z, qz20, qz21, qz22, qz23, qz24, qz25, qz26, qz27, qz28, qz29, qz2a, qz2b, qz2c, qz2d, qz2e, qz2f, qz2g, qz2h, qz2i, qz2j, qz2k, qz2l, qz2m, qz2n, qz2o, qz2p, qz2q, qz2r, qz2s, qz2t, qz2u, qz2v, qz2w, qz2x, qz2y, qz2z, qz30, qz31, qz32, qz33, qz34, qz35, qz36, qz37, qz38, qz39, qz3a, qz3b, qz3c, qz3d, Bool.not_true, Bool.not_false, List.cons_append, List.nil_append, List.append_nil]
                      refine xA_ok (a := a) (n := n) (b := b) (acc := acc) (by simp (disch := decide) only [z0, z1, h_here, h_skip, i4]) (by simp (disch := decide) only [z0, z1, h_here, h_skip, i5]) (by simp (disch := decide) only [z0, z1, h_here, h_skip]) (by simp (disch := decide) only [z0, z1, h_here, h_skip]) T7 R7 (by omega) (by omega) fun s9 b9 y1 y2 y3 y4 R9 => ?_
                      simp (disch := first | decide | assumption | omega) only [qz00, qz01, qz02, qz03, qz04, qz05, qz06, qz07, qz08, qz09, qz0a, qz0b, qz0c, qz0d, qz0e, qz0f, qz0g, qz0h, qz0i, qz0j, qz0k, qz0l, qz0m, qz0n, qz0o, qz0p, qz0q, qz0r, qz0s, qz0t, qz0u, qz0v, qz0w, qz0x, qz0y, qz0z, qz10, qz11, qz12, qz13, qz14, qz15, qz16, qz17, qz18, qz19, qz1a, qz1b, qz1c, qz1d, qz1e, qz1f, qz1g, qz1h, qz1i, qz1j, qz1k, qz1l, qz1m, qz1n, qz1o, qz1p, qz1q, qz1r, qz1s, qz1t, qz1u, qz1v, qz1w, qz1x, qz1y, qz1z, qz20, qz21, qz22, qz23, qz24, qz25, qz26, qz27, qz28, qz29, qz2a, qz2b, qz2c, qz2d, qz2e, qz2f, qz2g, qz2h, qz2i, qz2j, qz2k, qz2l, qz2m, qz2n, qz2o, qz2p, qz2q, qz2r, qz2s, qz2t, qz2u, qz2v, qz2w, qz2x, qz2y, qz2z, qz30, qz31, qz32, qz33, qz34, qz35, qz36, qz37, qz38, qz39, qz3a, qz3b, qz3c, qz3d, Bool.not_true, Bool.not_false, List.cons_append, List.nil_append, List.append_nil]
                      exact finW _ v s9 b9 _ k7 hx7 F7 y1 y2 y3 y4 R9 nl' (by simp (disch := decide) only [z0, z1, h_here, h_skip, i0]) (by simp (disch := decide) only [z0, z1, h_here, h_skip, i3]) (by simp (disch := decide) only [z0, z1, h_here, h_skip]) (by simp (disch := decide) only [z0, z1, h_here, h_skip]) (by simp (disch := decide) only [z0, z1, h_here, h_skip, i6])
                | false =>
                  simp (disch := first | decide | assumption | omega) only [qz00, qz01, qz02, qz03, qz04, qz05, qz06, qz07, qz08, qz09, qz0a, qz0b, qz0c, qz0d, qz0e, qz0f, qz0g, qz0h, qz0i, qz0j, qz0k, qz0l, qz0m, qz0n, qz0o, qz0p, qz0q, qz0r, qz0s, qz0t, qz0u, qz0v, qz0w, qz0x, qz0y, qz0z, qz10, qz11, qz12, qz13, qz14, qz15, qz16, qz17, qz18, qz19, qz1a, qz1b, qz1c, qz1d, qz1e, qz1f, qz1g, qz1h, qz1i, qz1j, qz1k, qz1l, qz1m, qz1n, qz1o, qz1p, qz1q, qz1r, qz1s, qz1t, qz1u, qz1v, qz1w, qz1x, qz1y, qz1z, qz20, qz21, qz22, qz23, qz24, qz25, qz26, qz27, qz28, qz29, qz2a, qz2b, qz2c, qz2d, qz2e, qz2f, qz2g, qz2h, qz2i, qz2j, qz2k, qz2l, qz2m, qz2n, qz2o, qz2p, qz2q, qz2r, qz2s, qz2t, qz2u, qz2v, qz2w, qz2x, qz2y, qz2z, qz30, qz31, qz32, qz33, qz34, qz35, qz36, qz37, qz38, qz39, qz3a, qz3b, qz3c, qz3d, Bool.not_true, Bool.not_false, List.cons_append, List.nil_append, List.append_nil]
                  refine Digit_ok (fun a s => hb _ a s (by simp)) ch s5 _ ?_
                  cases hD : isDigit ch with
                  | true =>
                    have nd' := nd hL hD
                    have ds' := ds hL hD
                    have htl : ((l.drop a).take n).length = n := by rw [List.length_take, List.length_drop]; omega
                    simp (disch := first | decide | assumption | omega) only [qz00, qz01, qz02, qz03, qz04, qz05, qz06, qz07, qz08, qz09, qz0a, qz0b, qz0c, qz0d, qz0e, qz0f, qz0g, qz0h, qz0i, qz0j, qz0k, qz0l, qz0m, qz0n, qz0o, qz0p, qz0q, qz0r, qz0s, qz0t, qz0u, qz0v, qz0w, qz0x, qz0y, qz0z, qz10, qz11, qz12, qz13, qz14, qz15, qz16, qz17, qz18, qz19, qz1a, qz1b, qz1c, qz1d, qz1e, qz1f, qz1g, qz1h, qz1i, qz1j, qz1k, qz1l, qz1m, qz1n, qz1o, qz1p, qz1q, qz1r, qz1s, qz1t, qz1u, qz1v, qz1w, qz1x, qz1y, qz1z, qz20, qz21, qz22, qz23, qz24, qz25, qz26, qz27, qz28, qz29, qz2a, qz2b, qz2c, qz2d, qz2e, qz2f, qz2g, qz2h, qz2i, qz2j, qz2k, qz2l, qz2m, qz2n, qz2o, qz2p, qz2q, qz2r, qz2s, qz2t, qz2u, qz2v, qz2w, qz2x, qz2y, qz2z, qz30, qz31, qz32, qz33, qz34, qz35, qz36, qz37, qz38, qz39, qz3a, qz3b, qz3c, qz3d, Bool.not_true, Bool.not_false, List.cons_append, List.nil_append, List.append_nil]
                    refine o_st1 t0 ⟨rfl, rfl, rfl⟩ fun s6 m6 => ?_
                    have T6 := T.put0 (k := 2) m6
                    have n6 := m6.nx
                    have k6 := k5.wrote m6 (by show st.nx ≤ tb; omega)
                    have F6 : rlen s6.h st.nx = 3 := (rlen_same (m6.keep st.nx (by omega))).trans F5
                    have R6 : Rs s6 b acc := R5.keep (by omega) (m6.keep b hbt)
                    have hx6 : st.nx < s6.nx := by omega
                    have s6fr : s6.fr = [] := k6.fr
                    simp (disch := first | decide | assumption | omega) only [qz00, qz01, qz02, qz03, qz04, qz05, qz06, qz07, qz08, qz09, qz0a, qz0b, qz0c, qz0d, qz0e, qz0f, qz0g, qz0h, qz0i, qz0j, qz0k, qz0l, qz0m, qz0n, qz0o, qz0p, qz0q, qz0r, qz0s, qz0t, qz0u, qz0v, qz0w, qz0x, qz0y, qz0z, qz10, qz11, qz12, qz13, qz14, qz15, qz16, qz17, qz18, qz19, qz1a, qz1b, qz1c, qz1d, qz1e, qz1f, qz1g, qz1h, qz1i, qz1j, qz1k, qz1l, qz1m, qz1n, qz1o, qz1p, qz1q, qz1r, qz1s, qz1t, qz1u, qz1v, qz1w, qz1x, qz1y, qz1z, qz20, qz21, qz22, qz23, qz24, qz25, qz26, qz27, qz28, qz29, qz2a, qz2b, qz2c, qz2d, qz2e, qz2f, qz2g, qz2h, qz2i, qz2j, qz2k, qz2l, qz2m, qz2n, qz2o, qz2p, qz2q, qz2r, qz2s, qz2t, qz2u, qz2v, qz2w, qz2x, qz2y, qz2z, qz30, qz31, qz32, qz33, qz34, qz35, qz36, qz37, qz38, qz39, qz3a, qz3b, qz3c, qz3d, Bool.not_true, Bool.not_false, List.cons_append, List.nil_append, List.append_nil]
                    refine xN_ok (n := n) (by simp (disch := decide) only [z0, z1, h_here, h_skip]) (by simp (disch := decide) only [z0, z1, h_here, h_skip]) T6 htl (by omega) rfl ds' s6fr fun L7 s7 hL7 q1 q2 q3 T7 => ?_
                    have f0 := hL7 0 (.str l) (by decide) (by simp (disch := decide) only [z0, z1, h_here, h_skip, i0])
                    have f3 := hL7 3 (.ptr st.nx 0) (by decide) (by simp (disch := decide) only [z0, z1, h_here, h_skip, i3])
                    have f4 := hL7 4 (rsV b acc) (by decide) (by simp (disch := decide) only [z0, z1, h_here, h_skip, i4])
                    have f5 := hL7 5 (.int .i64 (a : Int)) (by decide) (by simp (disch := decide) only [z0, z1, h_here, h_skip, i5])
                    have f6 := hL7 6 (.bool false) (by decide) (by simp (disch := decide) only [z0, z1, h_here, h_skip, i6])
                    have f8 := hL7 8 (.int .i64 (n : Int)) (by decide) (by simp (disch := decide) only [z0, z1, h_here, h_skip])
                    have f9 := hL7 9 (.int .i64 (p.1 : Int)) (by decide) (by simp (disch := decide) only [z0, z1, h_here, h_skip])
                    have f10 := hL7 10 (.int .i64 (p.2 : Int)) (by decide) (by simp (disch := decide) only [z0, z1, h_here, h_skip])
                    have f11 := hL7 11 (.ptr tb 0) (by decide) (by simp (disch := decide) only [z0, z1, h_here, h_skip])
                    have k7 : Kept st.bare s7 := ⟨by rw [q1]; exact k6.nx, q2.trans k6.fr, fun x hx => (q3 x (by have : x < st.nx := hx; omega)).trans (k6.keep x hx)⟩
                    have F7 : rlen s7.h st.nx = 3 := (rlen_same (q3 st.nx (by omega))).trans F6
                    have R7 : Rs s7 b acc := R6.keep (by omega) (q3 b hbt)
                    have hx7 : st.nx < s7.nx := by omega
                    have s7fr : s7.fr = [] := k7.fr
                    clear hL7
                    have hvle : valN (((l.drop a).take n).take (min n 8)) + 1 ≤ 10 ^ 8 := by
                      refine Nat.le_trans (valN_bound fun c hc => ds' c (List.mem_of_mem_take hc)) ?_
                      exact Nat.pow_le_pow_right (by decide) (by rw [List.length_take]; omega)
                    by_cases h7 : 7 < n
                    · have h7' : (7 : Int) < (n : Int) := by omega
                      rw [if_pos (.inl h7)] at nd'
                      simp (disch := first | decide | assumption | omega) only [r_onh f8, i_build3, b_flt132, r_onh f3, r_onh f9, r_onh f10, qz00, qz01, qz02, qz03, qz04, qz05, qz06, qz07, qz08, qz09, qz0a, qz0b, qz0c, qz0d, qz0e, qz0f, qz0g, qz0h, qz0i, qz0j, qz0k, qz0l, qz0m, qz0n, qz0o, qz0p, qz0q, qz0r, qz0s, qz0t, qz0u, qz0v, qz0w, qz0x, qz0y, qz0z, qz10, qz11, qz12, qz13, qz14, qz15, qz16, qz17, qz18, qz19, qz1a, qz1b, qz1c, qz1d, qz1e, qz1f, qz1g, qz1h, qz1i, qz1j, qz1k, qz1l, qz1m, qz1n, qz1o, qz1p, qz1q, qz1r, qz1s, qz1t, qz1u, qz1v, qz1w, qz1x, qz1y, qz1z, qz20, qz21, qz22, qz23, qz24, qz25, qz26, qz27, qz28, qz29, qz2a, qz2b, qz2c, qz2d, qz2e, qz2f, qz2g, qz2h, qz2i, qz2j, qz2k, qz2l, qz2m, qz2n, qz2o, qz2p, qz2q, qz2r, qz2s, qz2t, qz2u, qz2v, qz2w, qz2x, qz2y, qz2z, qz30, qz31, qz32, qz33, qz34, qz35, qz36, qz37, qz38, qz39, qz3a, qz3b, qz3c, qz3d, Bool.not_true, Bool.not_false, List.cons_append, List.nil_append, List.append_nil]
                      refine o_stF (132, p.1, p.2) F7 fun s' z1 z2 z3 FF => ?_
                      simp (disch := first | decide | assumption | omega) only [r_resA, r_onh f3, FF.ld, qz00, qz01, qz02, qz03, qz04, qz05, qz06, qz07, qz08, qz09, qz0a, qz0b, qz0c, qz0d, qz0e, qz0f, qz0g, qz0h, qz0i, qz0j, qz0k, qz0l, qz0m, qz0n, qz0o, qz0p, qz0q, qz0r, qz0s, qz0t, qz0u, qz0v, qz0w, qz0x, qz0y, qz0z, qz10, qz11, qz12, qz13, qz14, qz15, qz16, qz17, qz18, qz19, qz1a, qz1b, qz1c, qz1d, qz1e, qz1f, qz1g, qz1h, qz1i, qz1j, qz1k, qz1l, qz1m, qz1n, qz1o, qz1p, qz1q, qz1r, qz1s, qz1t, qz1u, qz1v, qz1w, qz1x, qz1y, qz1z, qz20, qz21, qz22, qz23, qz24, qz25, qz26, qz27, qz28, qz29, qz2a, qz2b, qz2c, qz2d, qz2e, qz2f, qz2g, qz2h, qz2i, qz2j, qz2k, qz2l, qz2m, qz2n, qz2o, qz2p, qz2q, qz2r, qz2s, qz2t, qz2u, qz2v, qz2w, qz2x, qz2y, qz2z, qz30, qz31, qz32, qz33, qz34, qz35, qz36, qz37, qz38, qz39, qz3a, qz3b, qz3c, qz3d, Bool.not_true, Bool.not_false, List.cons_append, List.nil_append, List.append_nil]
                      exact finF 132 s7 s' k7 z1 z3 (hfa _ _ _ nd' (by decide))
                    · have h7' : ¬ (7 : Int) < (n : Int) := by omega
                      have hmin : ((l.drop a).take n).take (min n 8) = (l.drop a).take n := List.take_of_length_le (by omega)
                      rw [hmin] at T7 hvle
                      have g2 : 2 < rlen s7.h tb := by rw [T7.len]; decide
                      have c2 : rat s7.h tb 2 = .int .i64 (valN ((l.drop a).take n) : Int) := T7.c2
                      generalize valN ((l.drop a).take n) = vv at nd' T7 c2 hvle
                      by_cases h6 : 1000000 < vv
                      · have h6' : (1000000 : Int) < (vv : Int) := by omega
                        rw [if_pos (.inr h6)] at nd'
                        simp (disch := first | decide | assumption | omega) only [r_onh f8, r_onh f11, Nat.zero_add, c2, i_build3, b_flt132, r_onh f3, r_onh f9, r_onh f10, qz00, qz01, qz02, qz03, qz04, qz05, qz06, qz07, qz08, qz09, qz0a, qz0b, qz0c, qz0d, qz0e, qz0f, qz0g, qz0h, qz0i, qz0j, qz0k, qz0l, qz0m, qz0n, qz0o, qz0p, qz0q, qz0r, qz0s, qz0t, qz0u, qz0v, qz0w, qz0x, qz0y, qz0z, qz10, qz11, qz12, qz13, qz14, qz15, qz16, qz17, qz18, qz19, qz1a, qz1b, qz1c, qz1d, qz1e, qz1f, qz1g, qz1h, qz1i, qz1j, qz1k, qz1l, qz1m, qz1n, qz1o, qz1p, qz1q, qz1r, qz1s, qz1t, qz1u, qz1v, qz1w, qz1x, qz1y, qz1z, qz20, qz21, qz22, qz23, qz24, qz25, qz26, qz27, qz28, qz29, qz2a, qz2b, qz2c, qz2d, qz2e, qz2f, qz2g, qz2h, qz2i, qz2j, qz2k, qz2l, qz2m, qz2n, qz2o, qz2p, qz2q, qz2r, qz2s, qz2t, qz2u, qz2v, qz2w, qz2x, qz2y, qz2z, qz30, qz31, qz32, qz33, qz34, qz35, qz36, qz37, qz38, qz39, qz3a, qz3b, qz3c, qz3d, Bool.not_true, Bool.not_false, List.cons_append, List.nil_append, List.append_nil]
                        refine o_stF (132, p.1, p.2) F7 fun s' z1 z2 z3 FF => ?_
                        simp (disch := first | decide | assumption | omega) only [r_resA, r_onh f3, FF.ld, qz00, qz01, qz02, qz03, qz04, qz05, qz06, qz07, qz08, qz09, qz0a, qz0b, qz0c, qz0d, qz0e, qz0f, qz0g, qz0h, qz0i, qz0j, qz0k, qz0l, qz0m, qz0n, qz0o, qz0p, qz0q, qz0r, qz0s, qz0t, qz0u, qz0v, qz0w, qz0x, qz0y, qz0z, qz10, qz11, qz12, qz13, qz14, qz15, qz16, qz17, qz18, qz19, qz1a, qz1b, qz1c, qz1d, qz1e, qz1f, qz1g, qz1h, qz1i, qz1j, qz1k, qz1l, qz1m, qz1n, qz1o, qz1p, qz1q, qz1r, qz1s, qz1t, qz1u, qz1v, qz1w, qz1x, qz1y, qz1z, qz20, qz21, qz22, qz23, qz24, qz25, qz26, qz27, qz28, qz29, qz2a, qz2b, qz2c, qz2d, qz2e, qz2f, qz2g, qz2h, qz2i, qz2j, qz2k, qz2l, qz2m, qz2n, qz2o, qz2p, qz2q, qz2r, qz2s, qz2t, qz2u, qz2v, qz2w, qz2x, qz2y, qz2z, qz30, qz31, qz32, qz33, qz34, qz35, qz36, qz37, qz38, qz39, qz3a, qz3b, qz3c, qz3d, Bool.not_true, Bool.not_false, List.cons_append, List.nil_append, List.append_nil]
                        exact finF 132 s7 s' k7 z1 z3 (hfa _ _ _ nd' (by decide))
                      · have h6' : ¬ (1000000 : Int) < (vv : Int) := by omega
                        rw [if_neg (fun h => by omega)] at nd'
                        simp (disch := first | decide | assumption | omega) only [r_onh f8, r_onh f11, Nat.zero_add, c2, qz00, qz01, qz02, qz03, qz04, qz05, qz06, qz07, qz08, qz09, qz0a, qz0b, qz0c, qz0d, qz0e, qz0f, qz0g, qz0h, qz0i, qz0j, qz0k, qz0l, qz0m, qz0n, qz0o, qz0p, qz0q, qz0r, qz0s, qz0t, qz0u, qz0v, qz0w, qz0x, qz0y, qz0z, qz10, qz11, qz12, qz13, qz14, qz15, qz16, qz17, qz18, qz19, qz1a, qz1b, qz1c, qz1d, qz1e, qz1f, qz1g, qz1h, qz1i, qz1j, qz1k, qz1l, qz1m, qz1n, qz1o, qz1p, qz1q, qz1r, qz1s, qz1t, qz1u, qz1v, qz1w, qz1x, qz1y, qz1z, qz20, qz21, qz22, qz23, qz24, qz25, qz26, qz27, qz28, qz29, qz2a, qz2b, qz2c, qz2d, qz2e, qz2f, qz2g, qz2h, qz2i, qz2j, qz2k, qz2l, qz2m, qz2n, qz2o, qz2p, qz2q, qz2r, qz2s, qz2t, qz2u, qz2v, qz2w, qz2x, qz2y, qz2z, qz30, qz31, qz32, qz33, qz34, qz35, qz36, qz37, qz38, qz39, qz3a, qz3b, qz3c, qz3d, Bool.not_true, Bool.not_false, List.cons_append, List.nil_append, List.append_nil]
                        refine xA_ok (a := a) (n := n) (b := b) (acc := acc) (by simp (disch := decide) only [z0, z1, h_here, h_skip, f4]) (by simp (disch := decide) only [z0, z1, h_here, h_skip, f5]) (by simp (disch := decide) only [z0, z1, h_here, h_skip, f8]) (by simp (disch := decide) only [z0, z1, h_here, h_skip, f11]) T7 R7 (by omega) (by omega) fun s9 b9 y1 y2 y3 y4 R9 => ?_
                        simp (disch := first | decide | assumption | omega) only [qz00, qz01, qz02, qz03, qz04, qz05, qz06, qz07, qz08, qz09, qz0a, qz0b, qz0c, qz0d, qz0e, qz0f, qz0g, qz0h, qz0i, qz0j, qz0k, qz0l, qz0m, qz0n, qz0o, qz0p, qz0q, qz0r, qz0s, qz0t, qz0u, qz0v, qz0w, qz0x, qz0y, qz0z, qz10, qz11, qz12, qz13, qz14, qz15, qz16, qz17, qz18, qz19, qz1a, qz1b, qz1c, qz1d, qz1e, qz1f, qz1g, qz1h, qz1i, qz1j, qz1k, qz1l, qz1m, qz1n, qz1o, qz1p, qz1q, qz1r, qz1s, qz1t, qz1u, qz1v, qz1w, qz1x, qz1y, qz1z, qz20, qz21, qz22, qz23, qz24, qz25, qz26, qz27, qz28, qz29, qz2a, qz2b, qz2c, qz2d, qz2e, qz2f, qz2g, qz2h, qz2i, qz2j, qz2k, qz2l, qz2m, qz2n, qz2o, qz2p, qz2q, qz2r, qz2s, qz2t, qz2u, qz2v, qz2w, qz2x, qz2y, qz2z, qz30, qz31, qz32, qz33, qz34, qz35, qz36, qz37, qz38, qz39, qz3a, qz3b, qz3c, qz3d, Bool.not_true, Bool.not_false, List.cons_append, List.nil_append, List.append_nil]
                        exact finW _ s7 s9 b9 _ k7 hx7 F7 y1 y2 y3 y4 R9 nd' (by simp (disch := decide) only [z0, z1, h_here, h_skip, f0]) (by simp (disch := decide) only [z0, z1, h_here, h_skip, f3]) (by simp (disch := decide) only [z0, z1, h_here, h_skip]) (by simp (disch := decide) only [z0, z1, h_here, h_skip]) (by simp (disch := decide) only [z0, z1, h_here, h_skip, f6])
                  | false =>
                    have ns' := ns hL hD hn
                    simp (disch := first | decide | assumption | omega) only [qz00, qz01, qz02, qz03, qz04, qz05, qz06, qz07, qz08, qz09, qz0a, qz0b, qz0c, qz0d, qz0e, qz0f, qz0g, qz0h, qz0i, qz0j, qz0k, qz0l, qz0m, qz0n, qz0o, qz0p, qz0q, qz0r, qz0s, qz0t, qz0u, qz0v, qz0w, qz0x, qz0y, qz0z, qz10, qz11, qz12, qz13, qz14, qz15, qz16, qz17, qz18, qz19, qz1a, qz1b, qz1c, qz1d, qz1e, qz1f, qz1g, qz1h, qz1i, qz1j, qz1k, qz1l, qz1m, qz1n, qz1o, qz1p, qz1q, qz1r, qz1s, qz1t, qz1u, qz1v, qz1w, qz1x, qz1y, qz1z, qz20, qz21, qz22, qz23, qz24, qz25, qz26, qz27, qz28, qz29, qz2a, qz2b, qz2c, qz2d, qz2e, qz2f, qz2g, qz2h, qz2i, qz2j, qz2k, qz2l, qz2m, qz2n, qz2o, qz2p, qz2q, qz2r, qz2s, qz2t, qz2u, qz2v, qz2w, qz2x, qz2y, qz2z, qz30, qz31, qz32, qz33, qz34, qz35, qz36, qz37, qz38, qz39, qz3a, qz3b, qz3c, qz3d, Bool.not_true, Bool.not_false, List.cons_append, List.nil_append, List.append_nil]
                    refine xA_ok (a := a) (n := n) (b := b) (acc := acc) (by simp (disch := decide) only [z0, z1, h_here, h_skip, i4]) (by simp (disch := decide) only [z0, z1, h_here, h_skip, i5]) (by simp (disch := decide) only [z0, z1, h_here, h_skip]) (by simp (disch := decide) only [z0, z1, h_here, h_skip]) T R5 (by omega) (by omega) fun s9 b9 y1 y2 y3 y4 R9 => ?_
                    simp (disch := first | decide | assumption | omega) only [qz00, qz01, qz02, qz03, qz04, qz05, qz06, qz07, qz08, qz09, qz0a, qz0b, qz0c, qz0d, qz0e, qz0f, qz0g, qz0h, qz0i, qz0j, qz0k, qz0l, qz0m, qz0n, qz0o, qz0p, qz0q, qz0r, qz0s, qz0t, qz0u, qz0v, qz0w, qz0x, qz0y, qz0z, qz10, qz11, qz12, qz13, qz14, qz15, qz16, qz17, qz18, qz19, qz1a, qz1b, qz1c, qz1d, qz1e, qz1f, qz1g, qz1h, qz1i, qz1j, qz1k, qz1l, qz1m, qz1n, qz1o, qz1p, qz1q, qz1r, qz1s, qz1t, qz1u, qz1v, qz1w, qz1x, qz1y, qz1z, qz20, qz21, qz22, qz23, qz24, qz25, qz26, qz27, qz28, qz29, qz2a, qz2b, qz2c, qz2d, qz2e, qz2f, qz2g, qz2h, qz2i, qz2j, qz2k, qz2l, qz2m, qz2n, qz2o, qz2p, qz2q, qz2r, qz2s, qz2t, qz2u, qz2v, qz2w, qz2x, qz2y, qz2z, qz30, qz31, qz32, qz33, qz34, qz35, qz36, qz37, qz38, qz39, qz3a, qz3b, qz3c, qz3d, Bool.not_true, Bool.not_false, List.cons_append, List.nil_append, List.append_nil]
                    exact finW _ s5 s9 b9 _ k5 hx5 F5 y1 y2 y3 y4 R9 ns' (by simp (disch := decide) only [z0, z1, h_here, h_skip, i0]) (by simp (disch := decide) only [z0, z1, h_here, h_skip, i3]) (by simp (disch := decide) only [z0, z1, h_here, h_skip]) (by simp (disch := decide) only [z0, z1, h_here, h_skip]) (by simp (disch := decide) only [z0, z1, h_here, h_skip, i6])
      · have hae : a = l.length := by omega
        subst hae
        have hlt' : ¬ (l.length : Int) < (l.length : Int) := by omega
        have hE := RI.end hda hg hM
        rw [hE] at hK
        simp (disch := first | decide | assumption | omega) only [r_onh i0, r_onh i5, qz00, qz01, qz02, qz03, qz04, qz05, qz06, qz07, qz08, qz09, qz0a, qz0b, qz0c, qz0d, qz0e, qz0f, qz0g, qz0h, qz0i, qz0j, qz0k, qz0l, qz0m, qz0n, qz0o, qz0p, qz0q, qz0r, qz0s, qz0t, qz0u, qz0v, qz0w, qz0x, qz0y, qz0z, qz10, qz11, qz12, qz13, qz14, qz15, qz16, qz17, qz18, qz19, qz1a, qz1b, qz1c, qz1d, qz1e, qz1f, qz1g, qz1h, qz1i, qz1j, qz1k, qz1l, qz1m, qz1n, qz1o, qz1p, qz1q, qz1r, qz1s, qz1t, qz1u, qz1v, qz1w, qz1x, qz1y, qz1z, qz20, qz21, qz22, qz23, qz24, qz25, qz26, qz27, qz28, qz29, qz2a, qz2b, qz2c, qz2d, qz2e, qz2f, qz2g, qz2h, qz2i, qz2j, qz2k, qz2l, qz2m, qz2n, qz2o, qz2p, qz2q, qz2r, qz2s, qz2t, qz2u, qz2v, qz2w, qz2x, qz2y, qz2z, qz30, qz31, qz32, qz33, qz34, qz35, qz36, qz37, qz38, qz39, qz3a, qz3b, qz3c, qz3d, Bool.not_true, Bool.not_false, List.cons_append, List.nil_append, List.append_nil]
        refine place_ok (fun a s => hb _ a s (by simp)) (Nat.le_refl _) hl s _ ?_
        rw [List.take_length]
        generalize walkP (1, 1) l = p at *
        simp (disch := first | decide | assumption | omega) only [r_onh i4, i_build3, b_tokE, i_buildS15, qz00, qz01, qz02, qz03, qz04, qz05, qz06, qz07, qz08, qz09, qz0a, qz0b, qz0c, qz0d, qz0e, qz0f, qz0g, qz0h, qz0i, qz0j, qz0k, qz0l, qz0m, qz0n, qz0o, qz0p, qz0q, qz0r, qz0s, qz0t, qz0u, qz0v, qz0w, qz0x, qz0y, qz0z, qz10, qz11, qz12, qz13, qz14, qz15, qz16, qz17, qz18, qz19, qz1a, qz1b, qz1c, qz1d, qz1e, qz1f, qz1g, qz1h, qz1i, qz1j, qz1k, qz1l, qz1m, qz1n, qz1o, qz1p, qz1q, qz1r, qz1s, qz1t, qz1u, qz1v, qz1w, qz1x, qz1y, qz1z, qz20, qz21, qz22, qz23, qz24, qz25, qz26, qz27, qz28, qz29, qz2a, qz2b, qz2c, qz2d, qz2e, qz2f, qz2g, qz2h, qz2i, qz2j, qz2k, qz2l, qz2m, qz2n, qz2o, qz2p, qz2q, qz2r, qz2s, qz2t, qz2u, qz2v, qz2w, qz2x, qz2y, qz2z, qz30, qz31, qz32, qz33, qz34, qz35, qz36, qz37, qz38, qz39, qz3a, qz3b, qz3c, qz3d, Bool.not_true, Bool.not_false, List.cons_append, List.nil_append, List.append_nil]
        refine o_buildST ⟨5, [], 0, p.1, p.2⟩ fun s2 m2 => ?_
        have n2 := m2.nx
        have nb : s.bare.nx = s.nx := rfl
        have kx := ks.made m2
        simp (disch := first | decide | assumption | omega) only [qz00, qz01, qz02, qz03, qz04, qz05, qz06, qz07, qz08, qz09, qz0a, qz0b, qz0c, qz0d, qz0e, qz0f, qz0g, qz0h, qz0i, qz0j, qz0k, qz0l, qz0m, qz0n, qz0o, qz0p, qz0q, qz0r, qz0s, qz0t, qz0u, qz0v, qz0w, qz0x, qz0y, qz0z, qz10, qz11, qz12, qz13, qz14, qz15, qz16, qz17, qz18, qz19, qz1a, qz1b, qz1c, qz1d, qz1e, qz1f, qz1g, qz1h, qz1i, qz1j, qz1k, qz1l, qz1m, qz1n, qz1o, qz1p, qz1q, qz1r, qz1s, qz1t, qz1u, qz1v, qz1w, qz1x, qz1y, qz1z, qz20, qz21, qz22, qz23, qz24, qz25, qz26, qz27, qz28, qz29, qz2a, qz2b, qz2c, qz2d, qz2e, qz2f, qz2g, qz2h, qz2i, qz2j, qz2k, qz2l, qz2m, qz2n, qz2o, qz2p, qz2q, qz2r, qz2s, qz2t, qz2u, qz2v, qz2w, qz2x, qz2y, qz2z, qz30, qz31, qz32, qz33, qz34, qz35, qz36, qz37, qz38, qz39, qz3a, qz3b, qz3c, qz3d, Bool.not_true, Bool.not_false, List.cons_append, List.nil_append, List.append_nil]
        refine o_appR5 (t := ⟨5, [], 0, p.1, p.2⟩) (R.keep (by omega) (m2.keep b (by have := R.lt; omega))) (by omega) m2.len (fun i hi => m2.cell i hi) fun s3 q1 q2 q3 R3 T3 => ?_
        have hbl := R.lt
        have F3 : rlen s3.h st.nx = 3 := (rlen_same ((q3 st.nx (by omega) (by omega)).trans (m2.keep st.nx (by omega)))).trans F
        simp (disch := first | decide | assumption | omega) only [r_onh i3, qz00, qz01, qz02, qz03, qz04, qz05, qz06, qz07, qz08, qz09, qz0a, qz0b, qz0c, qz0d, qz0e, qz0f, qz0g, qz0h, qz0i, qz0j, qz0k, qz0l, qz0m, qz0n, qz0o, qz0p, qz0q, qz0r, qz0s, qz0t, qz0u, qz0v, qz0w, qz0x, qz0y, qz0z, qz10, qz11, qz12, qz13, qz14, qz15, qz16, qz17, qz18, qz19, qz1a, qz1b, qz1c, qz1d, qz1e, qz1f, qz1g, qz1h, qz1i, qz1j, qz1k, qz1l, qz1m, qz1n, qz1o, qz1p, qz1q, qz1r, qz1s, qz1t, qz1u, qz1v, qz1w, qz1x, qz1y, qz1z, qz20, qz21, qz22, qz23, qz24, qz25, qz26, qz27, qz28, qz29, qz2a, qz2b, qz2c, qz2d, qz2e, qz2f, qz2g, qz2h, qz2i, qz2j, qz2k, qz2l, qz2m, qz2n, qz2o, qz2p, qz2q, qz2r, qz2s, qz2t, qz2u, qz2v, qz2w, qz2x, qz2y, qz2z, qz30, qz31, qz32, qz33, qz34, qz35, qz36, qz37, qz38, qz39, qz3a, qz3b, qz3c, qz3d, Bool.not_true, Bool.not_false, List.cons_append, List.nil_append, List.append_nil]
        refine o_stF (0, 0, 0) F3 fun s4 z1 z2 z3 FF => ?_
        have hne : acc ++ [Tk.mk 5 [] 0 p.1 p.2] ≠ [] := by simp
        rw [rsV_ts hne]
        simp (disch := first | decide | assumption | omega) only [r_resA, r_onh i3, FF.ld, qz00, qz01, qz02, qz03, qz04, qz05, qz06, qz07, qz08, qz09, qz0a, qz0b, qz0c, qz0d, qz0e, qz0f, qz0g, qz0h, qz0i, qz0j, qz0k, qz0l, qz0m, qz0n, qz0o, qz0p, qz0q, qz0r, qz0s, qz0t, qz0u, qz0v, qz0w, qz0x, qz0y, qz0z, qz10, qz11, qz12, qz13, qz14, qz15, qz16, qz17, qz18, qz19, qz1a, qz1b, qz1c, qz1d, qz1e, qz1f, qz1g, qz1h, qz1i, qz1j, qz1k, qz1l, qz1m, qz1n, qz1o, qz1p, qz1q, qz1r, qz1s, qz1t, qz1u, qz1v, qz1w, qz1x, qz1y, qz1z, qz20, qz21, qz22, qz23, qz24, qz25, qz26, qz27, qz28, qz29, qz2a, qz2b, qz2c, qz2d, qz2e, qz2f, qz2g, qz2h, qz2i, qz2j, qz2k, qz2l, qz2m, qz2n, qz2o, qz2p, qz2q, qz2r, qz2s, qz2t, qz2u, qz2v, qz2w, qz2x, qz2y, qz2z, qz30, qz31, qz32, qz33, qz34, qz35, qz36, qz37, qz38, qz39, qz3a, qz3b, qz3c, qz3d, Bool.not_true, Bool.not_false, List.cons_append, List.nil_append, List.append_nil]
        have T4 := T3.keep (s' := s4) (by omega) (z3 _ (by omega))
        refine hK s2.nx s4.bare ⟨?_, rfl, fun x hx => ?_⟩ fun _ => ⟨⟨T4.lt, T4.len, T4.cell⟩, by omega⟩
        · show st.nx ≤ s4.nx; omega
        · have hx' : x < st.nx := hx
          exact (z3 x (by omega)).trans ((q3 x (by omega) (by omega)).trans (kx.keep x hx))
    · refine ⟨0, 0, b2, [], false, Nat.le_refl _, Nat.zero_le _, rfl, Nat.le_refl _, k2, by omega, F2, R2, hb2, ?_, ?_, ?_⟩
      · rw [skipR_gaps _ _ (Nat.le_refl _)]; omega
      · rw [List.drop_zero, List.take_zero]; exact (ahead_nil _ _).symm
      · have e5 : rsV b2 [] = .slice b2 0 0 0 5 true := rfl
        rw [e5]
        simp (disch := decide) only [z0, z1, h_here, h_skip, true_and, and_true]
end Go.Sy
end

section
set_option maxRecDepth 100000
namespace Go.Sy
open Go.Ev Go.Proofs
variable {base : CallF}
theorem eqFlS (f : Nat × Nat × Nat) (st : St) (K : AV → St → Prop) : onER (genV Tryd.prog .eql 25 false (.agg (fcells f)) (.agg (fcells f)) st) K = K (.bool true) st := by
  have h : genV Tryd.prog .eql 25 false (.agg (fcells f)) (.agg (fcells f)) st = onSome ((eqF Tryd.prog 20 25).run (.agg (fcells f)) (.agg (fcells f))) fun b => .ok (.bool b) st := by kernel_rfl
  rw [h, eqFl]
  simp [onSome, onER]
theorem cuts_ok (hb : ∀ f args st, f ≠ 9 → f ≠ 31 → base f args st = .no) (h9 : ∀ st, base 9 [] st = .ok (.bool true) st) (hP : PI base) {l : List Nat} (hl : l.length ≤ 9223372036854775807) (h256 : ∀ x ∈ l, x < 256) (st : St) : CW Tryd.prog base 4 [.str l] st fun v st' => v = .bool true ∧ Ext st st' := by
  refine fn_rule l4 (hb _ _ _ (by decide) (by decide)) ?_
  simp only [c4, entry, List.map_cons, List.map_nil, List.getD_cons_zero, List.getD_cons_succ]
  unfold b4
  simp (disch := first | decide | assumption | omega) only [qz00, qz01, qz02, qz03, qz04, qz05, qz06, qz07, qz08, qz09, qz0a, qz0b, qz0c, qz0d, qz0e, qz0f, qz0g, qz0h, qz0i, qz0j, qz0k, qz0l, qz0m, qz0n, qz0o, qz0p, qz0q, qz0r, qz0s, qz0t, qz0u, qz0v, qz0w, qz0x, qz0y, qz0z, qz10, qz11, qz12, qz13, qz14, qz15, qz16, qz17, qz18, qz19, qz1a, qz1b, qz1c, qz1d, qz1e, qz1f, qz1g, qz1h, qz1i, qz1j, qz1k, qz1l, qz1m, qz1n, qz1o, qz1p, qz1q, qz1r, qz1s, qz1t, qz1u, qz1v, qz1w, qz1x, qz1y, qz1z, qz20, qz21, qz22, qz23, qz24, qz25, qz26, qz27, qz28, qz29, qz2a, qz2b, qz2c, qz2d, qz2e, qz2f, qz2g, qz2h, qz2i, qz2j, qz2k, qz2l, qz2m, qz2n, qz2o, qz2p, qz2q, qz2r, qz2s, qz2t, qz2u, qz2v, qz2w, qz2x, qz2y, qz2z, qz30, qz31, qz32, qz33, qz34, qz35, qz36, qz37, qz38, qz39, qz3a, qz3b, qz3c, qz3d, Bool.not_true, Bool.not_false, List.cons_append, List.nil_append, List.append_nil]
  refine base_rule (h9 _) ?_
  by_cases h1 : 4000 < l.length
  · have h1' : (4000 : Int) < (l.length : Int) := by omega
    simp (disch := first | decide | assumption | omega) only [qz00, qz01, qz02, qz03, qz04, qz05, qz06, qz07, qz08, qz09, qz0a, qz0b, qz0c, qz0d, qz0e, qz0f, qz0g, qz0h, qz0i, qz0j, qz0k, qz0l, qz0m, qz0n, qz0o, qz0p, qz0q, qz0r, qz0s, qz0t, qz0u, qz0v, qz0w, qz0x, qz0y, qz0z, qz10, qz11, qz12, qz13, qz14, qz15, qz16, qz17, qz18, qz19, qz1a, qz1b, qz1c, qz1d, qz1e, qz1f, qz1g, qz1h, qz1i, qz1j, qz1k, qz1l, qz1m, qz1n, qz1o, qz1p, qz1q, qz1r, qz1s, qz1t, qz1u, qz1v, qz1w, qz1x, qz1y, qz1z, qz20, qz21, qz22, qz23, qz24, qz25, qz26, qz27, qz28, qz29, qz2a, qz2b, qz2c, qz2d, qz2e, qz2f, qz2g, qz2h, qz2i, qz2j, qz2k, qz2l, qz2m, qz2n, qz2o, qz2p, qz2q, qz2r, qz2s, qz2t, qz2u, qz2v, qz2w, qz2x, qz2y, qz2z, qz30, qz31, qz32, qz33, qz34, qz35, qz36, qz37, qz38, qz39, qz3a, qz3b, qz3c, qz3d, Bool.not_true, Bool.not_false, List.cons_append, List.nil_append, List.append_nil]
    exact ⟨trivial, Nat.le_refl _, rfl, fun _ _ => rfl⟩
  · have h1' : ¬ (4000 : Int) < (l.length : Int) := by omega
    simp (disch := first | decide | assumption | omega) only [qz00, qz01, qz02, qz03, qz04, qz05, qz06, qz07, qz08, qz09, qz0a, qz0b, qz0c, qz0d, qz0e, qz0f, qz0g, qz0h, qz0i, qz0j, qz0k, qz0l, qz0m, qz0n, qz0o, qz0p, qz0q, qz0r, qz0s, qz0t, qz0u, qz0v, qz0w, qz0x, qz0y, qz0z, qz10, qz11, qz12, qz13, qz14, qz15, qz16, qz17, qz18, qz19, qz1a, qz1b, qz1c, qz1d, qz1e, qz1f, qz1g, qz1h, qz1i, qz1j, qz1k, qz1l, qz1m, qz1n, qz1o, qz1p, qz1q, qz1r, qz1s, qz1t, qz1u, qz1v, qz1w, qz1x, qz1y, qz1z, qz20, qz21, qz22, qz23, qz24, qz25, qz26, qz27, qz28, qz29, qz2a, qz2b, qz2c, qz2d, qz2e, qz2f, qz2g, qz2h, qz2i, qz2j, qz2k, qz2l, qz2m, qz2n, qz2o, qz2p, qz2q, qz2r, qz2s, qz2t, qz2u, qz2v, qz2w, qz2x, qz2y, qz2z, qz30, qz31, qz32, qz33, qz34, qz35, qz36, qz37, qz38, qz39, qz3a, qz3b, qz3c, qz3d, Bool.not_true, Bool.not_false, List.cons_append, List.nil_append, List.append_nil]
    refine Cut_ok (fun f a s hf => hb _ a s (by intro h; subst h; simp at hf) (by intro h; subst h; simp at hf)) hP st.bare (by omega) h256 _ fun b s1 e1 hT => ?_
    have k1 := Kept.ext e1
    have hlen : (cutT l).1.length ≤ 1000000 := by
      have e : cutT l = cutM l (1, 1) := if_neg (by omega)
      have := cutM_len l.length l (1, 1) (Nat.le_refl _)
      rw [e]; omega
    have hT' : (cutT l).1 ≠ [] → Ts (Go.Ev.back st.bare s1) b (cutT l).1 := fun h => ⟨(hT h).1.lt, (hT h).1.len, (hT h).1.cell⟩
    generalize Go.Ev.back st.bare s1 = u at k1 hT'
    have ufr : u.fr = [] := k1.fr
    simp (disch := first | decide | assumption | omega) only [qz00, qz01, qz02, qz03, qz04, qz05, qz06, qz07, qz08, qz09, qz0a, qz0b, qz0c, qz0d, qz0e, qz0f, qz0g, qz0h, qz0i, qz0j, qz0k, qz0l, qz0m, qz0n, qz0o, qz0p, qz0q, qz0r, qz0s, qz0t, qz0u, qz0v, qz0w, qz0x, qz0y, qz0z, qz10, qz11, qz12, qz13, qz14, qz15, qz16, qz17, qz18, qz19, qz1a, qz1b, qz1c, qz1d, qz1e, qz1f, qz1g, qz1h, qz1i, qz1j, qz1k, qz1l, qz1m, qz1n, qz1o, qz1p, qz1q, qz1r, qz1s, qz1t, qz1u, qz1v, qz1w, qz1x, qz1y, qz1z, qz20, qz21, qz22, qz23, qz24, qz25, qz26, qz27, qz28, qz29, qz2a, qz2b, qz2c, qz2d, qz2e, qz2f, qz2g, qz2h, qz2i, qz2j, qz2k, qz2l, qz2m, qz2n, qz2o, qz2p, qz2q, qz2r, qz2s, qz2t, qz2u, qz2v, qz2w, qz2x, qz2y, qz2z, qz30, qz31, qz32, qz33, qz34, qz35, qz36, qz37, qz38, qz39, qz3a, qz3b, qz3c, qz3d, Bool.not_true, Bool.not_false, List.cons_append, List.nil_append, List.append_nil]
    refine o_new fun s2 m2 => ?_
    have k2 := k1.made m2
    have n2 := m2.nx
    have l2 : rlen s2.h u.nx = 3 := m2.len
    simp (disch := first | decide | assumption | omega) only [qz00, qz01, qz02, qz03, qz04, qz05, qz06, qz07, qz08, qz09, qz0a, qz0b, qz0c, qz0d, qz0e, qz0f, qz0g, qz0h, qz0i, qz0j, qz0k, qz0l, qz0m, qz0n, qz0o, qz0p, qz0q, qz0r, qz0s, qz0t, qz0u, qz0v, qz0w, qz0x, qz0y, qz0z, qz10, qz11, qz12, qz13, qz14, qz15, qz16, qz17, qz18, qz19, qz1a, qz1b, qz1c, qz1d, qz1e, qz1f, qz1g, qz1h, qz1i, qz1j, qz1k, qz1l, qz1m, qz1n, qz1o, qz1p, qz1q, qz1r, qz1s, qz1t, qz1u, qz1v, qz1w, qz1x, qz1y, qz1z, qz20, qz21, qz22, qz23, qz24, qz25, qz26, qz27, qz28, qz29, qz2a, qz2b, qz2c, qz2d, qz2e, qz2f, qz2g, qz2h, qz2i, qz2j, qz2k, qz2l, qz2m, qz2n, qz2o, qz2p, qz2q, qz2r, qz2s, qz2t, qz2u, qz2v, qz2w, qz2x, qz2y, qz2z, qz30, qz31, qz32, qz33, qz34, qz35, qz36, qz37, qz38, qz39, qz3a, qz3b, qz3c, qz3d, Bool.not_true, Bool.not_false, List.cons_append, List.nil_append, List.append_nil]
    refine o_stF (cutT l).2 l2 fun s3 w1 w2 w3 F => ?_
    have k3 : Kept st.bare s3 := ⟨by have := k2.nx; omega, w2.trans k2.fr, fun x hx => (w3 x (by have := k1.nx; have : x < st.bare.nx := hx; omega)).trans (k2.keep x hx)⟩
    have T3 : (cutT l).1 ≠ [] → Ts s3 b (cutT l).1 := fun h => (hT' h).keep (by omega) ((w3 b (by have := (hT' h).lt; omega)).trans (m2.keep b (by have := (hT' h).lt; omega)))
    have s3fr : s3.fr = [] := k3.fr
    have hf3 : u.nx < s3.nx := by omega
    generalize u.nx = fa at F hf3
    simp (disch := first | decide | assumption | omega) only [qz00, qz01, qz02, qz03, qz04, qz05, qz06, qz07, qz08, qz09, qz0a, qz0b, qz0c, qz0d, qz0e, qz0f, qz0g, qz0h, qz0i, qz0j, qz0k, qz0l, qz0m, qz0n, qz0o, qz0p, qz0q, qz0r, qz0s, qz0t, qz0u, qz0v, qz0w, qz0x, qz0y, qz0z, qz10, qz11, qz12, qz13, qz14, qz15, qz16, qz17, qz18, qz19, qz1a, qz1b, qz1c, qz1d, qz1e, qz1f, qz1g, qz1h, qz1i, qz1j, qz1k, qz1l, qz1m, qz1n, qz1o, qz1p, qz1q, qz1r, qz1s, qz1t, qz1u, qz1v, qz1w, qz1x, qz1y, qz1z, qz20, qz21, qz22, qz23, qz24, qz25, qz26, qz27, qz28, qz29, qz2a, qz2b, qz2c, qz2d, qz2e, qz2f, qz2g, qz2h, qz2i, qz2j, qz2k, qz2l, qz2m, qz2n, qz2o, qz2p, qz2q, qz2r, qz2s, qz2t, qz2u, qz2v, qz2w, qz2x, qz2y, qz2z, qz30, qz31, qz32, qz33, qz34, qz35, qz36, qz37, qz38, qz39, qz3a, qz3b, qz3c, qz3d, Bool.not_true, Bool.not_false, List.cons_append, List.nil_append, List.append_nil]
    refine refCut_ok (fun f a s hf => hb _ a s (by intro h; subst h; simp at hf) (by intro h; subst h; simp at hf)) s3 (by omega) _ fun b2 s4 e4 hU => ?_
    have k4 := k3.trans (Kept.ext e4)
    have T4 : (cutT l).1 ≠ [] → Ts (Go.Ev.back s3 s4) b (cutT l).1 := fun h => (T3 h).keep e4.nx (e4.keep b (T3 h).lt)
    have U4 : (cutT l).1 ≠ [] → Ts (Go.Ev.back s3 s4) b2 (cutT l).1 := fun h => ⟨(hU h).1.lt, (hU h).1.len, (hU h).1.cell⟩
    have F4 : F3 (Go.Ev.back s3 s4) fa (cutT l).2 := ⟨(rlen_same (e4.keep fa hf3)).trans F.len, (rat_same (e4.keep fa hf3) 0).trans F.c0, (rat_same (e4.keep fa hf3) 1).trans F.c1, (rat_same (e4.keep fa hf3) 2).trans F.c2⟩
    have hf4 : fa < (Go.Ev.back s3 s4).nx := Nat.lt_of_lt_of_le hf3 e4.nx
    generalize Go.Ev.back s3 s4 = v at k4 T4 U4 F4 hf4
    have vfr : v.fr = [] := k4.fr
    simp (disch := first | decide | assumption | omega) only [qz00, qz01, qz02, qz03, qz04, qz05, qz06, qz07, qz08, qz09, qz0a, qz0b, qz0c, qz0d, qz0e, qz0f, qz0g, qz0h, qz0i, qz0j, qz0k, qz0l, qz0m, qz0n, qz0o, qz0p, qz0q, qz0r, qz0s, qz0t, qz0u, qz0v, qz0w, qz0x, qz0y, qz0z, qz10, qz11, qz12, qz13, qz14, qz15, qz16, qz17, qz18, qz19, qz1a, qz1b, qz1c, qz1d, qz1e, qz1f, qz1g, qz1h, qz1i, qz1j, qz1k, qz1l, qz1m, qz1n, qz1o, qz1p, qz1q, qz1r, qz1s, qz1t, qz1u, qz1v, qz1w, qz1x, qz1y, qz1z, qz20, qz21, qz22, qz23, qz24, qz25, qz26, qz27, qz28, qz29, qz2a, qz2b, qz2c, qz2d, qz2e, qz2f, qz2g, qz2h, qz2i, qz2j, qz2k, qz2l, qz2m, qz2n, qz2o, qz2p, qz2q, qz2r, qz2s, qz2t, qz2u, qz2v, qz2w, qz2x, qz2y, qz2z, qz30, qz31, qz32, qz33, qz34, qz35, qz36, qz37, qz38, qz39, qz3a, qz3b, qz3c, qz3d, Bool.not_true, Bool.not_false, List.cons_append, List.nil_append, List.append_nil]
    refine o_new fun s5 m5 => ?_
    have k5 := k4.made m5
    have n5 := m5.nx
    have l5 : rlen s5.h v.nx = 3 := m5.len
    simp (disch := first | decide | assumption | omega) only [qz00, qz01, qz02, qz03, qz04, qz05, qz06, qz07, qz08, qz09, qz0a, qz0b, qz0c, qz0d, qz0e, qz0f, qz0g, qz0h, qz0i, qz0j, qz0k, qz0l, qz0m, qz0n, qz0o, qz0p, qz0q, qz0r, qz0s, qz0t, qz0u, qz0v, qz0w, qz0x, qz0y, qz0z, qz10, qz11, qz12, qz13, qz14, qz15, qz16, qz17, qz18, qz19, qz1a, qz1b, qz1c, qz1d, qz1e, qz1f, qz1g, qz1h, qz1i, qz1j, qz1k, qz1l, qz1m, qz1n, qz1o, qz1p, qz1q, qz1r, qz1s, qz1t, qz1u, qz1v, qz1w, qz1x, qz1y, qz1z, qz20, qz21, qz22, qz23, qz24, qz25, qz26, qz27, qz28, qz29, qz2a, qz2b, qz2c, qz2d, qz2e, qz2f, qz2g, qz2h, qz2i, qz2j, qz2k, qz2l, qz2m, qz2n, qz2o, qz2p, qz2q, qz2r, qz2s, qz2t, qz2u, qz2v, qz2w, qz2x, qz2y, qz2z, qz30, qz31, qz32, qz33, qz34, qz35, qz36, qz37, qz38, qz39, qz3a, qz3b, qz3c, qz3d, Bool.not_true, Bool.not_false, List.cons_append, List.nil_append, List.append_nil]
    refine o_stF (cutT l).2 l5 fun s6 z1 z2 z3 G => ?_
    have k6 : Kept st.bare s6 := ⟨by have := k5.nx; omega, z2.trans k5.fr, fun x hx => (z3 x (by have := k4.nx; have : x < st.bare.nx := hx; omega)).trans (k5.keep x hx)⟩
    have q6 : ∀ x, x < v.nx → hget s6.h x = hget v.h x := fun x hx => (z3 x (by omega)).trans (m5.keep x (by omega))
    have T6 : (cutT l).1 ≠ [] → Ts s6 b (cutT l).1 := fun h => (T4 h).keep (by omega) (q6 b (T4 h).lt)
    have U6 : (cutT l).1 ≠ [] → Ts s6 b2 (cutT l).1 := fun h => (U4 h).keep (by omega) (q6 b2 (U4 h).lt)
    have F6 : F3 s6 fa (cutT l).2 := ⟨(rlen_same (q6 fa hf4)).trans F4.len, (rat_same (q6 fa hf4) 0).trans F4.c0, (rat_same (q6 fa hf4) 1).trans F4.c1, (rat_same (q6 fa hf4) 2).trans F4.c2⟩
    have s6fr : s6.fr = [] := k6.fr
    simp (disch := first | decide | assumption | omega) only [qz00, qz01, qz02, qz03, qz04, qz05, qz06, qz07, qz08, qz09, qz0a, qz0b, qz0c, qz0d, qz0e, qz0f, qz0g, qz0h, qz0i, qz0j, qz0k, qz0l, qz0m, qz0n, qz0o, qz0p, qz0q, qz0r, qz0s, qz0t, qz0u, qz0v, qz0w, qz0x, qz0y, qz0z, qz10, qz11, qz12, qz13, qz14, qz15, qz16, qz17, qz18, qz19, qz1a, qz1b, qz1c, qz1d, qz1e, qz1f, qz1g, qz1h, qz1i, qz1j, qz1k, qz1l, qz1m, qz1n, qz1o, qz1p, qz1q, qz1r, qz1s, qz1t, qz1u, qz1v, qz1w, qz1x, qz1y, qz1z, qz20, qz21, qz22, qz23, qz24, qz25, qz26, qz27, qz28, qz29, qz2a, qz2b, qz2c, qz2d, qz2e, qz2f, qz2g, qz2h, qz2i, qz2j, qz2k, qz2l, qz2m, qz2n, qz2o, qz2p, qz2q, qz2r, qz2s, qz2t, qz2u, qz2v, qz2w, qz2x, qz2y, qz2z, qz30, qz31, qz32, qz33, qz34, qz35, qz36, qz37, qz38, qz39, qz3a, qz3b, qz3c, qz3d, Bool.not_true, Bool.not_false, List.cons_append, List.nil_append, List.append_nil]
    refine Same_ok (fun a s => hb _ a s (by decide) (by decide)) s6 T6 U6 hlen _ ?_
    have F7 : F3 s6.bare fa (cutT l).2 := ⟨F6.len, F6.c0, F6.c1, F6.c2⟩
    have G7 : F3 s6.bare v.nx (cutT l).2 := ⟨G.len, G.c0, G.c1, G.c2⟩
    simp (disch := first | decide | assumption | omega) only [F6.ld, G.ld, F7.ld, G7.ld, eqFlS, qz00, qz01, qz02, qz03, qz04, qz05, qz06, qz07, qz08, qz09, qz0a, qz0b, qz0c, qz0d, qz0e, qz0f, qz0g, qz0h, qz0i, qz0j, qz0k, qz0l, qz0m, qz0n, qz0o, qz0p, qz0q, qz0r, qz0s, qz0t, qz0u, qz0v, qz0w, qz0x, qz0y, qz0z, qz10, qz11, qz12, qz13, qz14, qz15, qz16, qz17, qz18, qz19, qz1a, qz1b, qz1c, qz1d, qz1e, qz1f, qz1g, qz1h, qz1i, qz1j, qz1k, qz1l, qz1m, qz1n, qz1o, qz1p, qz1q, qz1r, qz1s, qz1t, qz1u, qz1v, qz1w, qz1x, qz1y, qz1z, qz20, qz21, qz22, qz23, qz24, qz25, qz26, qz27, qz28, qz29, qz2a, qz2b, qz2c, qz2d, qz2e, qz2f, qz2g, qz2h, qz2i, qz2j, qz2k, qz2l, qz2m, qz2n, qz2o, qz2p, qz2q, qz2r, qz2s, qz2t, qz2u, qz2v, qz2w, qz2x, qz2y, qz2z, qz30, qz31, qz32, qz33, qz34, qz35, qz36, qz37, qz38, qz39, qz3a, qz3b, qz3c, qz3d, Bool.not_true, Bool.not_false, List.cons_append, List.nil_append, List.append_nil]
    exact ⟨trivial, k6.nx, rfl, k6.keep⟩
/-- what a call of the law does, at every string of a size that a string can have, where the library's error lies -/
theorem cuts_calls (s : ByteArray) (hl : s.size ≤ 9223372036854775807) (w : World) (hg : ∃ te pe, w.cell? ⟨1, 0, none⟩ = some (.iface te pe)) :
    Calls Tryd.prog 4 #[.string s] w fun e w' => e = .returned (.bool true) ∧ w'.os = w.os ∧ w'.tape = w.tape ∧ w'.output = w.output ∧ w.heap.size ≤ w'.heap.size ∧ ∀ k, k < w.heap.size → w'.heap[k]? = w.heap[k]? := by
  have hs : Sim (fun _ => .unborn) st0.h st0.nx w :=
    ⟨fun b B S e => (by cases e), fun b e => (by cases e), fun b b' B S S' e => (by cases e), fun b e => absurd rfl e, ⟨hg, fun b S e => by cases e⟩⟩
  have hll : (s.data.toList.map UInt8.toNat).length ≤ 9223372036854775807 := by
    rw [List.length_map, Array.length_toList]; exact hl
  have h := CW.calls tryd_okP (draw_ok tryd_mixed) baseW_ok
    (cuts_ok (base := baseW) (fun f args st h9 h31 => baseW_no f args st h9 h31) baseW_9 baseW_PI hll (bytes_lt s) st0) (ι := fun _ => .unborn) (w := w) (vs := #[.string s]) hs
    (by simp only [VRs]; exact ⟨_, _, rfl, by simp only [VR]; exact ⟨s, rfl, rfl⟩, rfl⟩)
  refine Calls.mono h fun e w' ⟨v, x, st', he, hK, ι', _, hv, _, hg, _⟩ => ?_
  rw [hK.1] at hv
  simp only [VR] at hv
  rw [hv] at he
  exact ⟨he, hg.os, hg.tape, hg.output, hg.size, fun k hk => hg.keep k hk (fun b S e => by cases e)⟩
end Go.Sy
end
