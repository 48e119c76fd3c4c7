/-
  Contracts: the code lowered, what it does told by rules, and the contracts of the functions that the law reaches.
-/
import Derived.Test.YtfdncjlamfhppaaSyE
set_option linter.unusedVariables false
set_option linter.unusedSimpArgs false
section
set_option maxRecDepth 100000
namespace Go.Sy
open Go.Ev Go.Proofs
variable {base : CallF}
theorem r_held2 {P : Program} (t u : TypeId) (a v : AV) (x y : TE) (h h' : T AO) (tb : List TE) : held P t (.rd a v) (x :: y :: .wr h h' :: tb) [(2, u)] = cond (cond (sameAt P t a v h) (sameAt P t a v h') false) true false := nr rfl
theorem genEq4 (a : Bool) (st : Ev.St) (K : AV → Ev.St → Prop) : onER (genV Try.prog .eql 4 false (.bool a) (.bool a) st) K = K (.bool true) st := by
  have : genV Try.prog .eql 4 false (.bool a) (.bool a) st = .ok (.bool true) st := by
    cases a <;> kernel_rfl
  rw [this]; rfl
theorem v_lssD (a b : Int) (st : Ev.St) (K : AV → Ev.St → Prop) : onER (binV .lss (.int .i64 a) (.int .i64 b) st) K = K (.bool (decide (a < b))) st := by
  by_cases h : a < b
  · rw [qz2q h, decide_eq_true h]
  · rw [qz2r (by omega), decide_eq_false h]
theorem v_eqlD (a b : Int) (st : Ev.St) (K : AV → Ev.St → Prop) : onER (binV .eql (.int .i64 a) (.int .i64 b) st) K = K (.bool (decide (a = b))) st := by
  by_cases h : a = b
  · rw [qz2y h, decide_eq_true h]
  · rw [qz2z h, decide_eq_false h]
theorem Vl.ext {s s' : Ev.St} {V : AV} {nv : Nat} {f : Nat → Bool} (h : Vl s V nv f) (k : Kept s s') : Vl s' V nv f := h.keep k.keep k.nx
theorem cut16 (n : Int) {w : Nat} (h1 : 1 ≤ w) (h2 : w ≤ 16) : -32768 ≤ cutN n w ∧ cutN n w < 32768 := by
  have h := cutN_bd n h1
  have e := pow_mono2 (show w - 1 ≤ 15 by omega)
  have e2 : (2 : Int) ^ 15 = 32768 := by decide
  omega

set_option maxHeartbeats 4000000 in
theorem runs_ok (hb : ∀ f args st, f ≠ 12 → base f args st = .no) (h12 : ∀ st, base 12 [] st = .ok (.bool true) st) (w0 w1 v0 v1 : Int) (yes : Bool) (st : Ev.St) : CW Try.prog base 9 [.agg [.int .i64 w0, .int .i64 w1], .agg [.int .i64 v0, .int .i64 v1], .bool yes] st fun v st' => v = .bool true ∧ Ext st st' := by
  refine fn_rule l9 (hb _ _ _ (by decide)) ?_
  simp only [c9, entry, List.map_cons, List.map_nil, List.getD_cons_zero, List.getD_cons_succ]
  unfold b9
  simp (disch := first | decide | assumption | omega) only [qz3e, qz3f, qz3g, qz3h, qz3i, qz3j, qz00, qz01, qz02, qz03, qz04, qz05, qz06, qz07, qz08, qz09, qz0a, qz0b, qz0c, qz0d, qz0e, qz0f, qz0g, qz0h, qz0i, qz0j, qz0k, qz0l, qz0m, qz0n, qz0o, qz0p, qz0q, qz0r, qz0s, qz0t, qz0u, qz0v, qz0w, qz0x, qz0y, qz0z, qz10, qz11, qz12, qz13, qz14, qz15, qz16, qz17, qz18, qz19, qz1a, qz1b, qz1c, qz1d, qz1e, qz1f, qz1g, qz1h, qz1i, qz1j, qz1k, qz1l, qz1m, qz1n, qz1o, qz1p, qz1q, qz1r, qz1s, qz1t, qz1u, qz1v, qz1w, qz1x, qz1y, qz1z, qz20, qz21, qz22, qz23, qz24, qz25, qz26, qz27, qz28, qz29, qz2a, qz2b, qz2c, qz2d, qz2e, qz2f, qz2g, qz2h, qz2i, qz2j, qz2k, qz2l, qz2m, qz2n, qz2o, qz2p, qz2q, qz2r, qz2s, qz2t, qz2u, qz2v, qz2w, qz2x, qz2y, qz2z, qz30, qz31, qz32, qz33, qz34, qz35, qz36, qz37, qz38, qz39, qz3a, qz3b, qz3c, qz3d, Bool.not_true, Bool.not_false, List.cons_append, List.nil_append, List.append_nil]
  refine o_box rfl fun s1 m1 => ?_
  simp (disch := first | decide | assumption | omega) only [qz3e, qz3f, qz3g, qz3h, qz3i, qz3j, qz00, qz01, qz02, qz03, qz04, qz05, qz06, qz07, qz08, qz09, qz0a, qz0b, qz0c, qz0d, qz0e, qz0f, qz0g, qz0h, qz0i, qz0j, qz0k, qz0l, qz0m, qz0n, qz0o, qz0p, qz0q, qz0r, qz0s, qz0t, qz0u, qz0v, qz0w, qz0x, qz0y, qz0z, qz10, qz11, qz12, qz13, qz14, qz15, qz16, qz17, qz18, qz19, qz1a, qz1b, qz1c, qz1d, qz1e, qz1f, qz1g, qz1h, qz1i, qz1j, qz1k, qz1l, qz1m, qz1n, qz1o, qz1p, qz1q, qz1r, qz1s, qz1t, qz1u, qz1v, qz1w, qz1x, qz1y, qz1z, qz20, qz21, qz22, qz23, qz24, qz25, qz26, qz27, qz28, qz29, qz2a, qz2b, qz2c, qz2d, qz2e, qz2f, qz2g, qz2h, qz2i, qz2j, qz2k, qz2l, qz2m, qz2n, qz2o, qz2p, qz2q, qz2r, qz2s, qz2t, qz2u, qz2v, qz2w, qz2x, qz2y, qz2z, qz30, qz31, qz32, qz33, qz34, qz35, qz36, qz37, qz38, qz39, qz3a, qz3b, qz3c, qz3d, Bool.not_true, Bool.not_false, List.cons_append, List.nil_append, List.append_nil]
  refine o_box rfl fun s2 m2 => ?_
  have k2 : Kept st.bare s2 := ((Kept.refl _).made m1).made m2
  have n1 : s1.nx = st.nx + 1 := m1.nx
  have n2 : s2.nx = s1.nx + 1 := m2.nx
  have kb : hget s2.h st.bare.nx = hget s1.h st.bare.nx := m2.keep _ (by show st.nx ≠ s1.nx; omega)
  have C2 : Cl s2 (fun _ => False) st.bare.nx 2 (fun i => [AV.int .i64 w0, .int .i64 w1].getD i .bad) := ⟨by show st.nx < s2.nx; omega, id, (rlen_same kb).trans m1.len, fun i hi => (rat_same kb i).trans (m1.cell i hi)⟩
  have C3 : Cl s2 (fun _ => False) s1.nx 2 (fun i => [AV.int .i64 v0, .int .i64 v1].getD i .bad) := ⟨by omega, id, m2.len, fun i hi => m2.cell i hi⟩
  have hb2 : s1.nx < s2.nx := by omega
  have hb1 : st.bare.nx < s2.nx := by show st.nx < s2.nx; omega
  generalize st.bare.nx = bw at C2 hb1
  generalize s1.nx = bv at C3 hb2
  have sfr : s2.fr = [] := k2.fr
  simp (disch := first | decide | assumption | omega) only [qz3e, qz3f, qz3g, qz3h, qz3i, qz3j, qz00, qz01, qz02, qz03, qz04, qz05, qz06, qz07, qz08, qz09, qz0a, qz0b, qz0c, qz0d, qz0e, qz0f, qz0g, qz0h, qz0i, qz0j, qz0k, qz0l, qz0m, qz0n, qz0o, qz0p, qz0q, qz0r, qz0s, qz0t, qz0u, qz0v, qz0w, qz0x, qz0y, qz0z, qz10, qz11, qz12, qz13, qz14, qz15, qz16, qz17, qz18, qz19, qz1a, qz1b, qz1c, qz1d, qz1e, qz1f, qz1g, qz1h, qz1i, qz1j, qz1k, qz1l, qz1m, qz1n, qz1o, qz1p, qz1q, qz1r, qz1s, qz1t, qz1u, qz1v, qz1w, qz1x, qz1y, qz1z, qz20, qz21, qz22, qz23, qz24, qz25, qz26, qz27, qz28, qz29, qz2a, qz2b, qz2c, qz2d, qz2e, qz2f, qz2g, qz2h, qz2i, qz2j, qz2k, qz2l, qz2m, qz2n, qz2o, qz2p, qz2q, qz2r, qz2s, qz2t, qz2u, qz2v, qz2w, qz2x, qz2y, qz2z, qz30, qz31, qz32, qz33, qz34, qz35, qz36, qz37, qz38, qz39, qz3a, qz3b, qz3c, qz3d, Bool.not_true, Bool.not_false, List.cons_append, List.nil_append, List.append_nil]
  refine base_rule (h12 _) ?_
  obtain ⟨q0, q1, q2, q3⟩ := C2.two
  by_cases g1 : w0 < 1
  · simp (disch := first | decide | assumption | omega) only [qz3e, qz3f, qz3g, qz3h, qz3i, qz3j, qz3w, qz3x, q2, q3, qz00, qz01, qz02, qz03, qz04, qz05, qz06, qz07, qz08, qz09, qz0a, qz0b, qz0c, qz0d, qz0e, qz0f, qz0g, qz0h, qz0i, qz0j, qz0k, qz0l, qz0m, qz0n, qz0o, qz0p, qz0q, qz0r, qz0s, qz0t, qz0u, qz0v, qz0w, qz0x, qz0y, qz0z, qz10, qz11, qz12, qz13, qz14, qz15, qz16, qz17, qz18, qz19, qz1a, qz1b, qz1c, qz1d, qz1e, qz1f, qz1g, qz1h, qz1i, qz1j, qz1k, qz1l, qz1m, qz1n, qz1o, qz1p, qz1q, qz1r, qz1s, qz1t, qz1u, qz1v, qz1w, qz1x, qz1y, qz1z, qz20, qz21, qz22, qz23, qz24, qz25, qz26, qz27, qz28, qz29, qz2a, qz2b, qz2c, qz2d, qz2e, qz2f, qz2g, qz2h, qz2i, qz2j, qz2k, qz2l, qz2m, qz2n, qz2o, qz2p, qz2q, qz2r, qz2s, qz2t, qz2u, qz2v, qz2w, qz2x, qz2y, qz2z, qz30, qz31, qz32, qz33, qz34, qz35, qz36, qz37, qz38, qz39, qz3a, qz3b, qz3c, qz3d, Bool.not_true, Bool.not_false, List.cons_append, List.nil_append, List.append_nil]
    exact ⟨trivial, Ext.of st k2⟩
  · by_cases g2 : w1 < 1
    · simp (disch := first | decide | assumption | omega) only [qz3e, qz3f, qz3g, qz3h, qz3i, qz3j, qz3w, qz3x, q2, q3, qz00, qz01, qz02, qz03, qz04, qz05, qz06, qz07, qz08, qz09, qz0a, qz0b, qz0c, qz0d, qz0e, qz0f, qz0g, qz0h, qz0i, qz0j, qz0k, qz0l, qz0m, qz0n, qz0o, qz0p, qz0q, qz0r, qz0s, qz0t, qz0u, qz0v, qz0w, qz0x, qz0y, qz0z, qz10, qz11, qz12, qz13, qz14, qz15, qz16, qz17, qz18, qz19, qz1a, qz1b, qz1c, qz1d, qz1e, qz1f, qz1g, qz1h, qz1i, qz1j, qz1k, qz1l, qz1m, qz1n, qz1o, qz1p, qz1q, qz1r, qz1s, qz1t, qz1u, qz1v, qz1w, qz1x, qz1y, qz1z, qz20, qz21, qz22, qz23, qz24, qz25, qz26, qz27, qz28, qz29, qz2a, qz2b, qz2c, qz2d, qz2e, qz2f, qz2g, qz2h, qz2i, qz2j, qz2k, qz2l, qz2m, qz2n, qz2o, qz2p, qz2q, qz2r, qz2s, qz2t, qz2u, qz2v, qz2w, qz2x, qz2y, qz2z, qz30, qz31, qz32, qz33, qz34, qz35, qz36, qz37, qz38, qz39, qz3a, qz3b, qz3c, qz3d, Bool.not_true, Bool.not_false, List.cons_append, List.nil_append, List.append_nil]
      exact ⟨trivial, Ext.of st k2⟩
    · by_cases g3 : 16 < w0
      · simp (disch := first | decide | assumption | omega) only [qz3e, qz3f, qz3g, qz3h, qz3i, qz3j, qz3w, qz3x, q2, q3, qz00, qz01, qz02, qz03, qz04, qz05, qz06, qz07, qz08, qz09, qz0a, qz0b, qz0c, qz0d, qz0e, qz0f, qz0g, qz0h, qz0i, qz0j, qz0k, qz0l, qz0m, qz0n, qz0o, qz0p, qz0q, qz0r, qz0s, qz0t, qz0u, qz0v, qz0w, qz0x, qz0y, qz0z, qz10, qz11, qz12, qz13, qz14, qz15, qz16, qz17, qz18, qz19, qz1a, qz1b, qz1c, qz1d, qz1e, qz1f, qz1g, qz1h, qz1i, qz1j, qz1k, qz1l, qz1m, qz1n, qz1o, qz1p, qz1q, qz1r, qz1s, qz1t, qz1u, qz1v, qz1w, qz1x, qz1y, qz1z, qz20, qz21, qz22, qz23, qz24, qz25, qz26, qz27, qz28, qz29, qz2a, qz2b, qz2c, qz2d, qz2e, qz2f, qz2g, qz2h, qz2i, qz2j, qz2k, qz2l, qz2m, qz2n, qz2o, qz2p, qz2q, qz2r, qz2s, qz2t, qz2u, qz2v, qz2w, qz2x, qz2y, qz2z, qz30, qz31, qz32, qz33, qz34, qz35, qz36, qz37, qz38, qz39, qz3a, qz3b, qz3c, qz3d, Bool.not_true, Bool.not_false, List.cons_append, List.nil_append, List.append_nil]
        exact ⟨trivial, Ext.of st k2⟩
      · by_cases g4 : 16 < w1
        · simp (disch := first | decide | assumption | omega) only [qz3e, qz3f, qz3g, qz3h, qz3i, qz3j, qz3w, qz3x, q2, q3, qz00, qz01, qz02, qz03, qz04, qz05, qz06, qz07, qz08, qz09, qz0a, qz0b, qz0c, qz0d, qz0e, qz0f, qz0g, qz0h, qz0i, qz0j, qz0k, qz0l, qz0m, qz0n, qz0o, qz0p, qz0q, qz0r, qz0s, qz0t, qz0u, qz0v, qz0w, qz0x, qz0y, qz0z, qz10, qz11, qz12, qz13, qz14, qz15, qz16, qz17, qz18, qz19, qz1a, qz1b, qz1c, qz1d, qz1e, qz1f, qz1g, qz1h, qz1i, qz1j, qz1k, qz1l, qz1m, qz1n, qz1o, qz1p, qz1q, qz1r, qz1s, qz1t, qz1u, qz1v, qz1w, qz1x, qz1y, qz1z, qz20, qz21, qz22, qz23, qz24, qz25, qz26, qz27, qz28, qz29, qz2a, qz2b, qz2c, qz2d, qz2e, qz2f, qz2g, qz2h, qz2i, qz2j, qz2k, qz2l, qz2m, qz2n, qz2o, qz2p, qz2q, qz2r, qz2s, qz2t, qz2u, qz2v, qz2w, qz2x, qz2y, qz2z, qz30, qz31, qz32, qz33, qz34, qz35, qz36, qz37, qz38, qz39, qz3a, qz3b, qz3c, qz3d, Bool.not_true, Bool.not_false, List.cons_append, List.nil_append, List.append_nil]
          exact ⟨trivial, Ext.of st k2⟩
        · obtain ⟨n0, rfl⟩ : ∃ n : Nat, w0 = n := ⟨w0.toNat, by omega⟩
          obtain ⟨n1, rfl⟩ : ∃ n : Nat, w1 = n := ⟨w1.toNat, by omega⟩
          simp (disch := first | decide | assumption | omega) only [qz3e, qz3f, qz3g, qz3h, qz3i, qz3j, qz3w, qz3x, q2, q3, qz00, qz01, qz02, qz03, qz04, qz05, qz06, qz07, qz08, qz09, qz0a, qz0b, qz0c, qz0d, qz0e, qz0f, qz0g, qz0h, qz0i, qz0j, qz0k, qz0l, qz0m, qz0n, qz0o, qz0p, qz0q, qz0r, qz0s, qz0t, qz0u, qz0v, qz0w, qz0x, qz0y, qz0z, qz10, qz11, qz12, qz13, qz14, qz15, qz16, qz17, qz18, qz19, qz1a, qz1b, qz1c, qz1d, qz1e, qz1f, qz1g, qz1h, qz1i, qz1j, qz1k, qz1l, qz1m, qz1n, qz1o, qz1p, qz1q, qz1r, qz1s, qz1t, qz1u, qz1v, qz1w, qz1x, qz1y, qz1z, qz20, qz21, qz22, qz23, qz24, qz25, qz26, qz27, qz28, qz29, qz2a, qz2b, qz2c, qz2d, qz2e, qz2f, qz2g, qz2h, qz2i, qz2j, qz2k, qz2l, qz2m, qz2n, qz2o, qz2p, qz2q, qz2r, qz2s, qz2t, qz2u, qz2v, qz2w, qz2x, qz2y, qz2z, qz30, qz31, qz32, qz33, qz34, qz35, qz36, qz37, qz38, qz39, qz3a, qz3b, qz3c, qz3d, Bool.not_true, Bool.not_false, List.cons_append, List.nil_append, List.append_nil]
          refine NewG_ok (fun a s => hb _ a s (by decide)) _ _ fun g p m s3 e3 hg hp hm hG => ?_
          have k3 : Kept s2 (back s2 s3) := ⟨e3.nx, rfl, e3.keep⟩
          have C2 := C2.ext k3
          have C3 := C3.ext k3
          have ow : ∀ c, Own g p 0 m Gr.new c → s2.nx ≤ c := fun c hc => by
            rcases hc with h | h | h | ⟨h, _⟩
            · omega
            · omega
            · omega
            · exact absurd rfl h
          have C2 : Cl (back s2 s3) (Own g p 0 m Gr.new) bw 2 (fun i => [AV.int .i64 (n0 : Int), .int .i64 (n1 : Int)].getD i .bad) := ⟨C2.lt, fun h => by have := ow _ h; omega, C2.len, C2.cell⟩
          have C3 : Cl (back s2 s3) (Own g p 0 m Gr.new) bv 2 (fun i => [AV.int .i64 v0, .int .i64 v1].getD i .bad) := ⟨C3.lt, fun h => by have := ow _ h; omega, C3.len, C3.cell⟩
          have CK : Kx st (Own g p 0 m Gr.new) (back s2 s3) := ⟨k2.trans k3, fun c hc => Nat.le_trans k2.nx (ow c hc)⟩
          have hG : GM (back s2 s3).h (back s2 s3).nx g p 0 m true Gr.new := hG
          have hfr : (back s2 s3).fr = [] := sfr
          generalize back s2 s3 = t at C2 C3 CK hG hfr
          have hok := Gr.new_ok
          have hin := Ins_new
          have hlen : Gr.new.parts.length = 0 + 1 := rfl
          generalize hGd : Gr.new = G at C2 C3 CK hG hok hin hlen
          obtain ⟨q0, q1, q2, q3⟩ := C2.two
          simp (disch := first | decide | assumption | omega) only [qz3e, qz3f, qz3g, qz3h, qz3i, qz3j, qz3w, qz3x, q2, q3, qz00, qz01, qz02, qz03, qz04, qz05, qz06, qz07, qz08, qz09, qz0a, qz0b, qz0c, qz0d, qz0e, qz0f, qz0g, qz0h, qz0i, qz0j, qz0k, qz0l, qz0m, qz0n, qz0o, qz0p, qz0q, qz0r, qz0s, qz0t, qz0u, qz0v, qz0w, qz0x, qz0y, qz0z, qz10, qz11, qz12, qz13, qz14, qz15, qz16, qz17, qz18, qz19, qz1a, qz1b, qz1c, qz1d, qz1e, qz1f, qz1g, qz1h, qz1i, qz1j, qz1k, qz1l, qz1m, qz1n, qz1o, qz1p, qz1q, qz1r, qz1s, qz1t, qz1u, qz1v, qz1w, qz1x, qz1y, qz1z, qz20, qz21, qz22, qz23, qz24, qz25, qz26, qz27, qz28, qz29, qz2a, qz2b, qz2c, qz2d, qz2e, qz2f, qz2g, qz2h, qz2i, qz2j, qz2k, qz2l, qz2m, qz2n, qz2o, qz2p, qz2q, qz2r, qz2s, qz2t, qz2u, qz2v, qz2w, qz2x, qz2y, qz2z, qz30, qz31, qz32, qz33, qz34, qz35, qz36, qz37, qz38, qz39, qz3a, qz3b, qz3c, qz3d, Bool.not_true, Bool.not_false, List.cons_append, List.nil_append, List.append_nil]
          refine Input_num hb t hfr hG hok (w := n0) (by omega) (by omega) (by omega) (by rw [hin.len]; omega) _ fun ba p1 qq1 ex1 s4 S hG hok1 L Va => ?_
          have C2 := C2.step S
          have C3 := C3.step S
          have CK := CK.step S
          have hin1 := Ins_moreN hin hlen n0
          have hlen1 := moreN_parts G n0
          rw [hlen] at Va hlen1
          generalize hGd1 : G.moreN n0 = G1 at C2 C3 CK hG hok1 hin1 hlen1 Va
          generalize back t s4 = t1 at C2 C3 CK hG Va
          have hfr1 := CK.kept.fr
          obtain ⟨q0, q1, q2, q3⟩ := C2.two
          simp (disch := first | decide | assumption | omega) only [qz3e, qz3f, qz3g, qz3h, qz3i, qz3j, qz3w, qz3x, q2, q3, qz00, qz01, qz02, qz03, qz04, qz05, qz06, qz07, qz08, qz09, qz0a, qz0b, qz0c, qz0d, qz0e, qz0f, qz0g, qz0h, qz0i, qz0j, qz0k, qz0l, qz0m, qz0n, qz0o, qz0p, qz0q, qz0r, qz0s, qz0t, qz0u, qz0v, qz0w, qz0x, qz0y, qz0z, qz10, qz11, qz12, qz13, qz14, qz15, qz16, qz17, qz18, qz19, qz1a, qz1b, qz1c, qz1d, qz1e, qz1f, qz1g, qz1h, qz1i, qz1j, qz1k, qz1l, qz1m, qz1n, qz1o, qz1p, qz1q, qz1r, qz1s, qz1t, qz1u, qz1v, qz1w, qz1x, qz1y, qz1z, qz20, qz21, qz22, qz23, qz24, qz25, qz26, qz27, qz28, qz29, qz2a, qz2b, qz2c, qz2d, qz2e, qz2f, qz2g, qz2h, qz2i, qz2j, qz2k, qz2l, qz2m, qz2n, qz2o, qz2p, qz2q, qz2r, qz2s, qz2t, qz2u, qz2v, qz2w, qz2x, qz2y, qz2z, qz30, qz31, qz32, qz33, qz34, qz35, qz36, qz37, qz38, qz39, qz3a, qz3b, qz3c, qz3d, Bool.not_true, Bool.not_false, List.cons_append, List.nil_append, List.append_nil]
          refine Input_num hb t1 hfr1 hG hok1 (w := n1) (by omega) (by omega) (by omega) (by rw [hin1.len]; omega) _ fun bb p2 qq2 ex2 s5 S hG hok2 L Vb => ?_
          have C2 := C2.step S
          have C3 := C3.step S
          have CK := CK.step S
          have Va := Va.step S L
          have hin2 := Ins_moreN hin1 (by omega) n1
          have hlen2 := moreN_parts G1 n1
          rw [hlen1] at Vb hlen2
          generalize hGd2 : G1.moreN n1 = G2 at C2 C3 CK hG hok2 hin2 hlen2 Va Vb
          generalize back t1 s5 = t2 at C2 C3 CK hG Va Vb
          have hfr2 := CK.kept.fr
          simp (disch := first | decide | assumption | omega) only [qz3e, qz3f, qz3g, qz3h, qz3i, qz3j, qz00, qz01, qz02, qz03, qz04, qz05, qz06, qz07, qz08, qz09, qz0a, qz0b, qz0c, qz0d, qz0e, qz0f, qz0g, qz0h, qz0i, qz0j, qz0k, qz0l, qz0m, qz0n, qz0o, qz0p, qz0q, qz0r, qz0s, qz0t, qz0u, qz0v, qz0w, qz0x, qz0y, qz0z, qz10, qz11, qz12, qz13, qz14, qz15, qz16, qz17, qz18, qz19, qz1a, qz1b, qz1c, qz1d, qz1e, qz1f, qz1g, qz1h, qz1i, qz1j, qz1k, qz1l, qz1m, qz1n, qz1o, qz1p, qz1q, qz1r, qz1s, qz1t, qz1u, qz1v, qz1w, qz1x, qz1y, qz1z, qz20, qz21, qz22, qz23, qz24, qz25, qz26, qz27, qz28, qz29, qz2a, qz2b, qz2c, qz2d, qz2e, qz2f, qz2g, qz2h, qz2i, qz2j, qz2k, qz2l, qz2m, qz2n, qz2o, qz2p, qz2q, qz2r, qz2s, qz2t, qz2u, qz2v, qz2w, qz2x, qz2y, qz2z, qz30, qz31, qz32, qz33, qz34, qz35, qz36, qz37, qz38, qz39, qz3a, qz3b, qz3c, qz3d, Bool.not_true, Bool.not_false, List.cons_append, List.nil_append, List.append_nil]
          refine gInput_num hb t2 hfr2 hG hok2 (by omega) (by rw [hin2.len]; omega) _ fun p3 qq3 s6 S hG hok3 L Ec => ?_
          have C2 := C2.step S
          have C3 := C3.step S
          have CK := CK.step S
          have Va := Va.step S L
          have Vb := Vb.step S L
          have hin3 := Ins_more hin2 (by omega)
          have hlen3 : G2.more.parts.length = 0 + 1 + n0 + n1 + 1 := by
            show (G2.parts ++ [(0, 0)]).length = _
            rw [List.length_append, hlen2]; rfl
          rw [hlen2] at Ec
          generalize hx0 : 2 * G2.parts.length = xc at *
          rw [hlen2] at hx0
          rw [hx0] at Ec
          generalize hGd3 : G2.more = G3 at C2 C3 CK hG hok3 hin3 hlen3 Va Vb Ec
          generalize back t2 s6 = t3 at C2 C3 CK hG Va Vb
          have hfr3 := CK.kept.fr
          obtain ⟨q0, q1, q2, q3⟩ := C2.two
          obtain ⟨r0, r1, r2, r3⟩ := C3.two
          have y1 := same2 r1 r3
          have C20 := C2
          have y2 := same3 q1 q3
          simp (disch := first | decide | assumption | omega) only [qz3e, qz3f, qz3g, qz3h, qz3i, qz3j, qz3k, qz3l, qz3m, qz3n, qz3o, qz3p, qz3q, qz3r, qz3s, qz3t, qz3u, r_held2, qz3v, qz3w, qz3x, true_and, cond_true, q2, q3, r2, r3, y1, y2, qz00, qz01, qz02, qz03, qz04, qz05, qz06, qz07, qz08, qz09, qz0a, qz0b, qz0c, qz0d, qz0e, qz0f, qz0g, qz0h, qz0i, qz0j, qz0k, qz0l, qz0m, qz0n, qz0o, qz0p, qz0q, qz0r, qz0s, qz0t, qz0u, qz0v, qz0w, qz0x, qz0y, qz0z, qz10, qz11, qz12, qz13, qz14, qz15, qz16, qz17, qz18, qz19, qz1a, qz1b, qz1c, qz1d, qz1e, qz1f, qz1g, qz1h, qz1i, qz1j, qz1k, qz1l, qz1m, qz1n, qz1o, qz1p, qz1q, qz1r, qz1s, qz1t, qz1u, qz1v, qz1w, qz1x, qz1y, qz1z, qz20, qz21, qz22, qz23, qz24, qz25, qz26, qz27, qz28, qz29, qz2a, qz2b, qz2c, qz2d, qz2e, qz2f, qz2g, qz2h, qz2i, qz2j, qz2k, qz2l, qz2m, qz2n, qz2o, qz2p, qz2q, qz2r, qz2s, qz2t, qz2u, qz2v, qz2w, qz2x, qz2y, qz2z, qz30, qz31, qz32, qz33, qz34, qz35, qz36, qz37, qz38, qz39, qz3a, qz3b, qz3c, qz3d, Bool.not_true, Bool.not_false, List.cons_append, List.nil_append, List.append_nil]
          refine Cut_ok (fun f a s hf => hb _ a s (by rcases hf with rfl | rfl <;> decide)) (w := n0) (by omega) (by omega) t3 _ ?_
          have hx := cut16 v0 (w := n0) (by omega) (by omega)
          have hxx := bitN_num (cutN v0 n0) (w := n0) (by omega)
          rw [cutN_in (by omega) (cutN_bd v0 (by omega))] at hxx
          generalize cutN v0 n0 = x at hx hxx
          simp (disch := first | decide | assumption | omega) only [qz3e, qz3f, qz3g, qz3h, qz3i, qz3j, qz3k, qz3l, qz3m, qz3n, qz3o, qz3p, qz3q, qz3r, qz3s, qz3t, qz3u, r_held2, qz3v, qz3w, qz3x, true_and, cond_true, q2, q3, r2, r3, y1, y2, qz00, qz01, qz02, qz03, qz04, qz05, qz06, qz07, qz08, qz09, qz0a, qz0b, qz0c, qz0d, qz0e, qz0f, qz0g, qz0h, qz0i, qz0j, qz0k, qz0l, qz0m, qz0n, qz0o, qz0p, qz0q, qz0r, qz0s, qz0t, qz0u, qz0v, qz0w, qz0x, qz0y, qz0z, qz10, qz11, qz12, qz13, qz14, qz15, qz16, qz17, qz18, qz19, qz1a, qz1b, qz1c, qz1d, qz1e, qz1f, qz1g, qz1h, qz1i, qz1j, qz1k, qz1l, qz1m, qz1n, qz1o, qz1p, qz1q, qz1r, qz1s, qz1t, qz1u, qz1v, qz1w, qz1x, qz1y, qz1z, qz20, qz21, qz22, qz23, qz24, qz25, qz26, qz27, qz28, qz29, qz2a, qz2b, qz2c, qz2d, qz2e, qz2f, qz2g, qz2h, qz2i, qz2j, qz2k, qz2l, qz2m, qz2n, qz2o, qz2p, qz2q, qz2r, qz2s, qz2t, qz2u, qz2v, qz2w, qz2x, qz2y, qz2z, qz30, qz31, qz32, qz33, qz34, qz35, qz36, qz37, qz38, qz39, qz3a, qz3b, qz3c, qz3d, Bool.not_true, Bool.not_false, List.cons_append, List.nil_append, List.append_nil]
          refine Cut_ok (fun f a s hf => hb _ a s (by rcases hf with rfl | rfl <;> decide)) (w := n1) (by omega) (by omega) t3 _ ?_
          have hy := cut16 v1 (w := n1) (by omega) (by omega)
          have hyy := bitN_num (cutN v1 n1) (w := n1) (by omega)
          rw [cutN_in (by omega) (cutN_bd v1 (by omega))] at hyy
          generalize cutN v1 n1 = y at hy hyy
          simp (disch := first | decide | assumption | omega) only [qz3e, qz3f, qz3g, qz3h, qz3i, qz3j, qz3k, qz3l, qz3m, qz3n, qz3o, qz3p, qz3q, qz3r, qz3s, qz3t, qz3u, r_held2, qz3v, qz3w, qz3x, true_and, cond_true, q2, q3, r2, r3, y1, y2, qz00, qz01, qz02, qz03, qz04, qz05, qz06, qz07, qz08, qz09, qz0a, qz0b, qz0c, qz0d, qz0e, qz0f, qz0g, qz0h, qz0i, qz0j, qz0k, qz0l, qz0m, qz0n, qz0o, qz0p, qz0q, qz0r, qz0s, qz0t, qz0u, qz0v, qz0w, qz0x, qz0y, qz0z, qz10, qz11, qz12, qz13, qz14, qz15, qz16, qz17, qz18, qz19, qz1a, qz1b, qz1c, qz1d, qz1e, qz1f, qz1g, qz1h, qz1i, qz1j, qz1k, qz1l, qz1m, qz1n, qz1o, qz1p, qz1q, qz1r, qz1s, qz1t, qz1u, qz1v, qz1w, qz1x, qz1y, qz1z, qz20, qz21, qz22, qz23, qz24, qz25, qz26, qz27, qz28, qz29, qz2a, qz2b, qz2c, qz2d, qz2e, qz2f, qz2g, qz2h, qz2i, qz2j, qz2k, qz2l, qz2m, qz2n, qz2o, qz2p, qz2q, qz2r, qz2s, qz2t, qz2u, qz2v, qz2w, qz2x, qz2y, qz2z, qz30, qz31, qz32, qz33, qz34, qz35, qz36, qz37, qz38, qz39, qz3a, qz3b, qz3c, qz3d, Bool.not_true, Bool.not_false, List.cons_append, List.nil_append, List.append_nil]
          refine Bits_ok (fun f a s hf => hb _ a s (by rcases hf with rfl | rfl <;> decide)) (w := n0) (by omega) (by omega) t3 _ fun d1 s7 e7 hd1 B1 => ?_
          have k7 : Kept t3 (back t3 s7) := ⟨e7.nx, rfl, e7.keep⟩
          have B1 : Bl (back t3 s7) d1 n0 (bitN x n0) := ⟨B1.lt, B1.len, B1.cell⟩
          have CK0 := CK
          have C2 := C2.ext k7
          have C3 := C3.ext k7
          have CK := CK.ext k7
          generalize back t3 s7 = t7 at k7 B1 C2 C3 CK
          have hfr7 := CK.kept.fr
          obtain ⟨q0, q1, q2, q3⟩ := C2.two
          have y3 := same3 q1 q3
          simp (disch := first | decide | assumption | omega) only [qz3e, qz3f, qz3g, qz3h, qz3i, qz3j, qz3k, qz3l, qz3m, qz3n, qz3o, qz3p, qz3q, qz3r, qz3s, qz3t, qz3u, r_held2, qz3v, qz3w, qz3x, true_and, cond_true, q2, q3, y1, y2, y3, qz00, qz01, qz02, qz03, qz04, qz05, qz06, qz07, qz08, qz09, qz0a, qz0b, qz0c, qz0d, qz0e, qz0f, qz0g, qz0h, qz0i, qz0j, qz0k, qz0l, qz0m, qz0n, qz0o, qz0p, qz0q, qz0r, qz0s, qz0t, qz0u, qz0v, qz0w, qz0x, qz0y, qz0z, qz10, qz11, qz12, qz13, qz14, qz15, qz16, qz17, qz18, qz19, qz1a, qz1b, qz1c, qz1d, qz1e, qz1f, qz1g, qz1h, qz1i, qz1j, qz1k, qz1l, qz1m, qz1n, qz1o, qz1p, qz1q, qz1r, qz1s, qz1t, qz1u, qz1v, qz1w, qz1x, qz1y, qz1z, qz20, qz21, qz22, qz23, qz24, qz25, qz26, qz27, qz28, qz29, qz2a, qz2b, qz2c, qz2d, qz2e, qz2f, qz2g, qz2h, qz2i, qz2j, qz2k, qz2l, qz2m, qz2n, qz2o, qz2p, qz2q, qz2r, qz2s, qz2t, qz2u, qz2v, qz2w, qz2x, qz2y, qz2z, qz30, qz31, qz32, qz33, qz34, qz35, qz36, qz37, qz38, qz39, qz3a, qz3b, qz3c, qz3d, Bool.not_true, Bool.not_false, List.cons_append, List.nil_append, List.append_nil]
          refine Bits_ok (fun f a s hf => hb _ a s (by rcases hf with rfl | rfl <;> decide)) (w := n1) (by omega) (by omega) t7 _ fun d2 s8 e8 hd2 B2 => ?_
          have k8 : Kept t7 (back t7 s8) := ⟨e8.nx, rfl, e8.keep⟩
          have B2 : Bl (back t7 s8) d2 n1 (bitN y n1) := ⟨B2.lt, B2.len, B2.cell⟩
          have B1 := B1.kept k8
          have CK := CK.ext k8
          have k9 := k7.trans k8
          generalize back t7 s8 = t8 at k9 B1 B2 CK
          have hfr8 := CK.kept.fr
          simp (disch := first | decide | assumption | omega) only [qz3e, qz3f, qz3g, qz3h, qz3i, qz3j, qz3k, qz3l, qz3m, qz3n, qz3o, qz3p, qz3q, qz3r, qz3s, qz3t, qz3u, r_held2, qz3v, qz3w, qz3x, true_and, cond_true, qz00, qz01, qz02, qz03, qz04, qz05, qz06, qz07, qz08, qz09, qz0a, qz0b, qz0c, qz0d, qz0e, qz0f, qz0g, qz0h, qz0i, qz0j, qz0k, qz0l, qz0m, qz0n, qz0o, qz0p, qz0q, qz0r, qz0s, qz0t, qz0u, qz0v, qz0w, qz0x, qz0y, qz0z, qz10, qz11, qz12, qz13, qz14, qz15, qz16, qz17, qz18, qz19, qz1a, qz1b, qz1c, qz1d, qz1e, qz1f, qz1g, qz1h, qz1i, qz1j, qz1k, qz1l, qz1m, qz1n, qz1o, qz1p, qz1q, qz1r, qz1s, qz1t, qz1u, qz1v, qz1w, qz1x, qz1y, qz1z, qz20, qz21, qz22, qz23, qz24, qz25, qz26, qz27, qz28, qz29, qz2a, qz2b, qz2c, qz2d, qz2e, qz2f, qz2g, qz2h, qz2i, qz2j, qz2k, qz2l, qz2m, qz2n, qz2o, qz2p, qz2q, qz2r, qz2s, qz2t, qz2u, qz2v, qz2w, qz2x, qz2y, qz2z, qz30, qz31, qz32, qz33, qz34, qz35, qz36, qz37, qz38, qz39, qz3a, qz3b, qz3c, qz3d, Bool.not_true, Bool.not_false, List.cons_append, List.nil_append, List.append_nil]
          refine o_appM B1.len.symm (by omega) (by omega) (by omega) (by omega) (by rw [B2.len]; omega) fun s9 A9 => ?_
          have n9 := A9.nx
          have k10 : Kept t3 s9 := ⟨by have := k9.nx; omega, A9.fr.trans k9.fr, fun c hc => (A9.keep c (by have := k9.nx; omega) (by omega)).trans (k9.keep c hc)⟩
          have nn := k9.nx
          have hfr9 : s9.fr = [] := A9.fr.trans hfr8
          have rl := A9.len
          have rc := A9.cell
          clear A9
          generalize t8.nx = dr at rl rc n9 nn
          simp (disch := first | decide | assumption | omega) only [qz3e, qz3f, qz3g, qz3h, qz3i, qz3j, qz3k, qz3l, qz3m, qz3n, qz3o, qz3p, qz3q, qz3r, qz3s, qz3t, qz3u, r_held2, qz3v, qz3w, qz3x, true_and, cond_true, qz00, qz01, qz02, qz03, qz04, qz05, qz06, qz07, qz08, qz09, qz0a, qz0b, qz0c, qz0d, qz0e, qz0f, qz0g, qz0h, qz0i, qz0j, qz0k, qz0l, qz0m, qz0n, qz0o, qz0p, qz0q, qz0r, qz0s, qz0t, qz0u, qz0v, qz0w, qz0x, qz0y, qz0z, qz10, qz11, qz12, qz13, qz14, qz15, qz16, qz17, qz18, qz19, qz1a, qz1b, qz1c, qz1d, qz1e, qz1f, qz1g, qz1h, qz1i, qz1j, qz1k, qz1l, qz1m, qz1n, qz1o, qz1p, qz1q, qz1r, qz1s, qz1t, qz1u, qz1v, qz1w, qz1x, qz1y, qz1z, qz20, qz21, qz22, qz23, qz24, qz25, qz26, qz27, qz28, qz29, qz2a, qz2b, qz2c, qz2d, qz2e, qz2f, qz2g, qz2h, qz2i, qz2j, qz2k, qz2l, qz2m, qz2n, qz2o, qz2p, qz2q, qz2r, qz2s, qz2t, qz2u, qz2v, qz2w, qz2x, qz2y, qz2z, qz30, qz31, qz32, qz33, qz34, qz35, qz36, qz37, qz38, qz39, qz3a, qz3b, qz3c, qz3d, Bool.not_true, Bool.not_false, List.cons_append, List.nil_append, List.append_nil]
          refine o_buildS1 ⟨rfl, rfl, rfl⟩ fun s10 m10 => ?_
          have k11 := k10.made m10
          have kd : hget s10.h dr = hget s9.h dr := m10.keep dr (by omega)
          have n10 := m10.nx
          have hfr10 : s10.fr = [] := m10.fr.trans hfr9
          simp (disch := first | decide | assumption | omega) only [qz3e, qz3f, qz3g, qz3h, qz3i, qz3j, qz3k, qz3l, qz3m, qz3n, qz3o, qz3p, qz3q, qz3r, qz3s, qz3t, qz3u, r_held2, qz3v, qz3w, qz3x, true_and, cond_true, qz00, qz01, qz02, qz03, qz04, qz05, qz06, qz07, qz08, qz09, qz0a, qz0b, qz0c, qz0d, qz0e, qz0f, qz0g, qz0h, qz0i, qz0j, qz0k, qz0l, qz0m, qz0n, qz0o, qz0p, qz0q, qz0r, qz0s, qz0t, qz0u, qz0v, qz0w, qz0x, qz0y, qz0z, qz10, qz11, qz12, qz13, qz14, qz15, qz16, qz17, qz18, qz19, qz1a, qz1b, qz1c, qz1d, qz1e, qz1f, qz1g, qz1h, qz1i, qz1j, qz1k, qz1l, qz1m, qz1n, qz1o, qz1p, qz1q, qz1r, qz1s, qz1t, qz1u, qz1v, qz1w, qz1x, qz1y, qz1z, qz20, qz21, qz22, qz23, qz24, qz25, qz26, qz27, qz28, qz29, qz2a, qz2b, qz2c, qz2d, qz2e, qz2f, qz2g, qz2h, qz2i, qz2j, qz2k, qz2l, qz2m, qz2n, qz2o, qz2p, qz2q, qz2r, qz2s, qz2t, qz2u, qz2v, qz2w, qz2x, qz2y, qz2z, qz30, qz31, qz32, qz33, qz34, qz35, qz36, qz37, qz38, qz39, qz3a, qz3b, qz3c, qz3d, Bool.not_true, Bool.not_false, List.cons_append, List.nil_append, List.append_nil]
          refine o_app2 (by rw [rlen_same kd, rl]) (by omega) (by omega) (by omega) (by omega) m10.len (m10.cell 0 (by decide)) fun t11 A11 => ?_
          have n11 := A11.nx
          have k12 : Kept t3 t11 := ⟨by have := k11.nx; omega, A11.fr.trans k11.fr, fun c hc => (A11.keep c (by have := k11.nx; omega) (by omega)).trans (k11.keep c hc)⟩
          generalize hf : (fun i => if i < n0 then bitN x n0 i else if i < n0 + n1 then bitN y n1 (i - n0) else yes) = f
          have CR : Cl t11 (Own g p3 qq3 m G3) s10.nx (n0 + n1 + 1) (fun i => .bool (f i)) := ⟨by omega, fun h => by have := own_lt hG h; have := k11.nx; omega, A11.len, fun i hi => by
            subst hf
            rw [A11.cell i hi]
            by_cases h : i = n0 + n1
            · rw [if_pos h]
              simp only [if_neg (show ¬ i < n0 by omega), if_neg (show ¬ i < n0 + n1 by omega)]
            · rw [if_neg h, rat_same kd, rc i (by omega)]
              by_cases h : i < n0
              · rw [if_pos h]; simp only [if_pos h]; exact B1.cell i h
              · rw [if_neg h, Nat.zero_add]; simp only [if_neg h, if_pos (show i < n0 + n1 by omega)]; exact B2.cell (i - n0) (by omega)⟩
          have CK := CK0.ext k12
          clear CK0
          have C2 := C20.ext k12
          have Va := Va.ext k12
          have Vb := Vb.ext k12
          have hG11 := hG.keep k12.keep k12.nx
          have hok11 := hok3
          have hin11 := hin3
          generalize s10.nx = dq at CR
          have hfr11 := CK.kept.fr
          generalize hFA : (fun inp : Nat → Bool => num (fun i => inp (0 + 1 + i)) n0) = FA at Va
          generalize hFB : (fun inp : Nat → Bool => num (fun i => inp (0 + 1 + n0 + i)) n1) = FB at Vb
          generalize hFC : (fun inp : Nat → Bool => inp (0 + 1 + n0 + n1)) = FC at Ec
          simp (disch := first | decide | assumption | omega) only [qz3e, qz3f, qz3g, qz3h, qz3i, qz3j, qz3k, qz3l, qz3m, qz3n, qz3o, qz3p, qz3q, qz3r, qz3s, qz3t, qz3u, r_held2, qz3v, qz3w, qz3x, true_and, cond_true, qz00, qz01, qz02, qz03, qz04, qz05, qz06, qz07, qz08, qz09, qz0a, qz0b, qz0c, qz0d, qz0e, qz0f, qz0g, qz0h, qz0i, qz0j, qz0k, qz0l, qz0m, qz0n, qz0o, qz0p, qz0q, qz0r, qz0s, qz0t, qz0u, qz0v, qz0w, qz0x, qz0y, qz0z, qz10, qz11, qz12, qz13, qz14, qz15, qz16, qz17, qz18, qz19, qz1a, qz1b, qz1c, qz1d, qz1e, qz1f, qz1g, qz1h, qz1i, qz1j, qz1k, qz1l, qz1m, qz1n, qz1o, qz1p, qz1q, qz1r, qz1s, qz1t, qz1u, qz1v, qz1w, qz1x, qz1y, qz1z, qz20, qz21, qz22, qz23, qz24, qz25, qz26, qz27, qz28, qz29, qz2a, qz2b, qz2c, qz2d, qz2e, qz2f, qz2g, qz2h, qz2i, qz2j, qz2k, qz2l, qz2m, qz2n, qz2o, qz2p, qz2q, qz2r, qz2s, qz2t, qz2u, qz2v, qz2w, qz2x, qz2y, qz2z, qz30, qz31, qz32, qz33, qz34, qz35, qz36, qz37, qz38, qz39, qz3a, qz3b, qz3c, qz3d, Bool.not_true, Bool.not_false, List.cons_append, List.nil_append, List.append_nil]
          refine Add_num hb t11 hG11 hok11 (by omega) (by omega) Va Vb _ fun b12 p12 ex12 G12 s12 B V12 => ?_
          have B := B.back hfr11
          have V12 := V12.bk (t := t11)
          have C2 := C2.aft B
          have CR := CR.aft B
          have CK := CK.aft B
          have Va := Va.aft B
          have Vb := Vb.aft B
          have Ec := Ec.aft B
          have hin12 := Ins_aft hin11 B
          generalize back t11 s12 = t12 at B C2 CR CK Va Vb V12
          have hfr12 := B.fr
          have hl12 := B.len
          have hG12 := B.gm
          have hok12 := B.ok
          clear B
          simp (disch := first | decide | assumption | omega) only [qz3e, qz3f, qz3g, qz3h, qz3i, qz3j, qz00, qz01, qz02, qz03, qz04, qz05, qz06, qz07, qz08, qz09, qz0a, qz0b, qz0c, qz0d, qz0e, qz0f, qz0g, qz0h, qz0i, qz0j, qz0k, qz0l, qz0m, qz0n, qz0o, qz0p, qz0q, qz0r, qz0s, qz0t, qz0u, qz0v, qz0w, qz0x, qz0y, qz0z, qz10, qz11, qz12, qz13, qz14, qz15, qz16, qz17, qz18, qz19, qz1a, qz1b, qz1c, qz1d, qz1e, qz1f, qz1g, qz1h, qz1i, qz1j, qz1k, qz1l, qz1m, qz1n, qz1o, qz1p, qz1q, qz1r, qz1s, qz1t, qz1u, qz1v, qz1w, qz1x, qz1y, qz1z, qz20, qz21, qz22, qz23, qz24, qz25, qz26, qz27, qz28, qz29, qz2a, qz2b, qz2c, qz2d, qz2e, qz2f, qz2g, qz2h, qz2i, qz2j, qz2k, qz2l, qz2m, qz2n, qz2o, qz2p, qz2q, qz2r, qz2s, qz2t, qz2u, qz2v, qz2w, qz2x, qz2y, qz2z, qz30, qz31, qz32, qz33, qz34, qz35, qz36, qz37, qz38, qz39, qz3a, qz3b, qz3c, qz3d, Bool.not_true, Bool.not_false, List.cons_append, List.nil_append, List.append_nil]
          refine Sub_num hb t12 hG12 hok12 (by omega) (by omega) Va Vb _ fun b13 p13 ex13 G13 s13 B V13 => ?_
          have B := B.back hfr12
          have V13 := V13.bk (t := t12)
          have C2 := C2.aft B
          have CR := CR.aft B
          have CK := CK.aft B
          have Va := Va.aft B
          have Vb := Vb.aft B
          have Ec := Ec.aft B
          have V12 := V12.aft B
          have hin13 := Ins_aft hin12 B
          generalize back t12 s13 = t13 at B C2 CR CK Va Vb V12 V13
          have hfr13 := B.fr
          have hl13 := B.len
          have hG13 := B.gm
          have hok13 := B.ok
          clear B
          simp (disch := first | decide | assumption | omega) only [qz3e, qz3f, qz3g, qz3h, qz3i, qz3j, qz00, qz01, qz02, qz03, qz04, qz05, qz06, qz07, qz08, qz09, qz0a, qz0b, qz0c, qz0d, qz0e, qz0f, qz0g, qz0h, qz0i, qz0j, qz0k, qz0l, qz0m, qz0n, qz0o, qz0p, qz0q, qz0r, qz0s, qz0t, qz0u, qz0v, qz0w, qz0x, qz0y, qz0z, qz10, qz11, qz12, qz13, qz14, qz15, qz16, qz17, qz18, qz19, qz1a, qz1b, qz1c, qz1d, qz1e, qz1f, qz1g, qz1h, qz1i, qz1j, qz1k, qz1l, qz1m, qz1n, qz1o, qz1p, qz1q, qz1r, qz1s, qz1t, qz1u, qz1v, qz1w, qz1x, qz1y, qz1z, qz20, qz21, qz22, qz23, qz24, qz25, qz26, qz27, qz28, qz29, qz2a, qz2b, qz2c, qz2d, qz2e, qz2f, qz2g, qz2h, qz2i, qz2j, qz2k, qz2l, qz2m, qz2n, qz2o, qz2p, qz2q, qz2r, qz2s, qz2t, qz2u, qz2v, qz2w, qz2x, qz2y, qz2z, qz30, qz31, qz32, qz33, qz34, qz35, qz36, qz37, qz38, qz39, qz3a, qz3b, qz3c, qz3d, Bool.not_true, Bool.not_false, List.cons_append, List.nil_append, List.append_nil]
          refine Times_num hb t13 hG13 hok13 (by omega) (by omega) Va Vb _ fun b14 p14 ex14 G14 s14 B V14 => ?_
          have B := B.back hfr13
          have V14 := V14.bk (t := t13)
          have C2 := C2.aft B
          have CR := CR.aft B
          have CK := CK.aft B
          have Va := Va.aft B
          have Vb := Vb.aft B
          have Ec := Ec.aft B
          have V12 := V12.aft B
          have V13 := V13.aft B
          have hin14 := Ins_aft hin13 B
          generalize back t13 s14 = t14 at B C2 CR CK Va Vb V12 V13 V14
          have hfr14 := B.fr
          have hl14 := B.len
          have hG14 := B.gm
          have hok14 := B.ok
          clear B
          simp (disch := first | decide | assumption | omega) only [qz3e, qz3f, qz3g, qz3h, qz3i, qz3j, qz00, qz01, qz02, qz03, qz04, qz05, qz06, qz07, qz08, qz09, qz0a, qz0b, qz0c, qz0d, qz0e, qz0f, qz0g, qz0h, qz0i, qz0j, qz0k, qz0l, qz0m, qz0n, qz0o, qz0p, qz0q, qz0r, qz0s, qz0t, qz0u, qz0v, qz0w, qz0x, qz0y, qz0z, qz10, qz11, qz12, qz13, qz14, qz15, qz16, qz17, qz18, qz19, qz1a, qz1b, qz1c, qz1d, qz1e, qz1f, qz1g, qz1h, qz1i, qz1j, qz1k, qz1l, qz1m, qz1n, qz1o, qz1p, qz1q, qz1r, qz1s, qz1t, qz1u, qz1v, qz1w, qz1x, qz1y, qz1z, qz20, qz21, qz22, qz23, qz24, qz25, qz26, qz27, qz28, qz29, qz2a, qz2b, qz2c, qz2d, qz2e, qz2f, qz2g, qz2h, qz2i, qz2j, qz2k, qz2l, qz2m, qz2n, qz2o, qz2p, qz2q, qz2r, qz2s, qz2t, qz2u, qz2v, qz2w, qz2x, qz2y, qz2z, qz30, qz31, qz32, qz33, qz34, qz35, qz36, qz37, qz38, qz39, qz3a, qz3b, qz3c, qz3d, Bool.not_true, Bool.not_false, List.cons_append, List.nil_append, List.append_nil]
          refine Less_num hb t14 hG14 hok14 (by omega) (by omega) Va Vb _ fun x15 p15 ex15 G15 s15 B E15 => ?_
          have B := B.back hfr14
          have C2 := C2.aft B
          have CR := CR.aft B
          have CK := CK.aft B
          have Va := Va.aft B
          have Vb := Vb.aft B
          have Ec := Ec.aft B
          have V12 := V12.aft B
          have V13 := V13.aft B
          have V14 := V14.aft B
          have hin15 := Ins_aft hin14 B
          generalize back t14 s15 = t15 at B C2 CR CK Va Vb V12 V13 V14
          have hfr15 := B.fr
          have hl15 := B.len
          have hG15 := B.gm
          have hok15 := B.ok
          clear B
          simp (disch := first | decide | assumption | omega) only [qz3e, qz3f, qz3g, qz3h, qz3i, qz3j, qz00, qz01, qz02, qz03, qz04, qz05, qz06, qz07, qz08, qz09, qz0a, qz0b, qz0c, qz0d, qz0e, qz0f, qz0g, qz0h, qz0i, qz0j, qz0k, qz0l, qz0m, qz0n, qz0o, qz0p, qz0q, qz0r, qz0s, qz0t, qz0u, qz0v, qz0w, qz0x, qz0y, qz0z, qz10, qz11, qz12, qz13, qz14, qz15, qz16, qz17, qz18, qz19, qz1a, qz1b, qz1c, qz1d, qz1e, qz1f, qz1g, qz1h, qz1i, qz1j, qz1k, qz1l, qz1m, qz1n, qz1o, qz1p, qz1q, qz1r, qz1s, qz1t, qz1u, qz1v, qz1w, qz1x, qz1y, qz1z, qz20, qz21, qz22, qz23, qz24, qz25, qz26, qz27, qz28, qz29, qz2a, qz2b, qz2c, qz2d, qz2e, qz2f, qz2g, qz2h, qz2i, qz2j, qz2k, qz2l, qz2m, qz2n, qz2o, qz2p, qz2q, qz2r, qz2s, qz2t, qz2u, qz2v, qz2w, qz2x, qz2y, qz2z, qz30, qz31, qz32, qz33, qz34, qz35, qz36, qz37, qz38, qz39, qz3a, qz3b, qz3c, qz3d, Bool.not_true, Bool.not_false, List.cons_append, List.nil_append, List.append_nil]
          refine Equal_num hb t15 hG15 hok15 (by omega) (by omega) Va Vb _ fun x16 p16 ex16 G16 s16 B E16 => ?_
          have B := B.back hfr15
          have C2 := C2.aft B
          have CR := CR.aft B
          have CK := CK.aft B
          have Va := Va.aft B
          have Vb := Vb.aft B
          have Ec := Ec.aft B
          have V12 := V12.aft B
          have V13 := V13.aft B
          have V14 := V14.aft B
          have E15 := E15.aft B
          have hin16 := Ins_aft hin15 B
          generalize back t15 s16 = t16 at B C2 CR CK Va Vb V12 V13 V14
          have hfr16 := B.fr
          have hl16 := B.len
          have hG16 := B.gm
          have hok16 := B.ok
          clear B
          simp (disch := first | decide | assumption | omega) only [qz3e, qz3f, qz3g, qz3h, qz3i, qz3j, qz00, qz01, qz02, qz03, qz04, qz05, qz06, qz07, qz08, qz09, qz0a, qz0b, qz0c, qz0d, qz0e, qz0f, qz0g, qz0h, qz0i, qz0j, qz0k, qz0l, qz0m, qz0n, qz0o, qz0p, qz0q, qz0r, qz0s, qz0t, qz0u, qz0v, qz0w, qz0x, qz0y, qz0z, qz10, qz11, qz12, qz13, qz14, qz15, qz16, qz17, qz18, qz19, qz1a, qz1b, qz1c, qz1d, qz1e, qz1f, qz1g, qz1h, qz1i, qz1j, qz1k, qz1l, qz1m, qz1n, qz1o, qz1p, qz1q, qz1r, qz1s, qz1t, qz1u, qz1v, qz1w, qz1x, qz1y, qz1z, qz20, qz21, qz22, qz23, qz24, qz25, qz26, qz27, qz28, qz29, qz2a, qz2b, qz2c, qz2d, qz2e, qz2f, qz2g, qz2h, qz2i, qz2j, qz2k, qz2l, qz2m, qz2n, qz2o, qz2p, qz2q, qz2r, qz2s, qz2t, qz2u, qz2v, qz2w, qz2x, qz2y, qz2z, qz30, qz31, qz32, qz33, qz34, qz35, qz36, qz37, qz38, qz39, qz3a, qz3b, qz3c, qz3d, Bool.not_true, Bool.not_false, List.cons_append, List.nil_append, List.append_nil]
          refine Choose_num hb t16 hG16 hok16 (by omega) (by omega) Ec Va Vb _ fun b17 p17 ex17 G17 s17 B V17 => ?_
          have B := B.back hfr16
          have V17 := V17.bk (t := t16)
          have C2 := C2.aft B
          have CR := CR.aft B
          have CK := CK.aft B
          have V12 := V12.aft B
          have V13 := V13.aft B
          have V14 := V14.aft B
          have E15 := E15.aft B
          have E16 := E16.aft B
          have hin17 := Ins_aft hin16 B
          generalize back t16 s17 = t17 at B C2 CR CK V12 V13 V14 V17
          have hfr17 := B.fr
          have hl17 := B.len
          have hG17 := B.gm
          have hok17 := B.ok
          clear B
          have hiv : ∀ X, inpR G17.inputs (n0 + n1 + 1) f G17.inputs.length X = if 1 ≤ X ∧ X ≤ n0 + n1 + 1 then f (X - 1) else false := fun X => by
            rw [hin17.len, Ins_inp hin17 (n0 + n1 + 1) f X _ (Nat.le_refl _), Nat.zero_add]
            by_cases h : 1 ≤ X ∧ X ≤ n0 + n1 + 1
            · rw [if_pos h, if_pos h, if_pos (by omega)]
            · rw [if_neg h, if_neg h]
          have vA : FA (inpR G17.inputs (n0 + n1 + 1) f G17.inputs.length) = x := by
            rw [← hFA, ← hxx]
            refine num_congr (by omega) fun i hi => ?_
            show inpR G17.inputs (n0 + n1 + 1) f G17.inputs.length (0 + 1 + i) = _
            rw [hiv, if_pos (by omega), ← hf]
            simp only [show 0 + 1 + i - 1 = i by omega, if_pos hi]
          have vB : FB (inpR G17.inputs (n0 + n1 + 1) f G17.inputs.length) = y := by
            rw [← hFB, ← hyy]
            refine num_congr (by omega) fun i hi => ?_
            show inpR G17.inputs (n0 + n1 + 1) f G17.inputs.length (0 + 1 + n0 + i) = _
            rw [hiv, if_pos (by omega), ← hf]
            simp only [show 0 + 1 + n0 + i - 1 = n0 + i by omega, if_neg (show ¬ n0 + i < n0 by omega), if_pos (show n0 + i < n0 + n1 by omega), Nat.add_sub_cancel_left]
          have vC : FC (inpR G17.inputs (n0 + n1 + 1) f G17.inputs.length) = yes := by
            rw [← hFC]
            show inpR G17.inputs (n0 + n1 + 1) f G17.inputs.length (0 + 1 + n0 + n1) = _
            rw [hiv, if_pos (by omega), ← hf]
            simp only [show 0 + 1 + n0 + n1 - 1 = n0 + n1 by omega, if_neg (show ¬ n0 + n1 < n0 by omega), if_neg (show ¬ n0 + n1 < n0 + n1 by omega)]
          have hi0 := inpR_0 hok17 (n0 + n1 + 1) f G17.inputs.length (Nat.le_refl _)
          have VV : Vl t17 (.slice dq 0 (n0 + n1 + 1) (n0 + n1 + 1) 1 false) (n0 + n1 + 1) f := .inr ⟨dq, 0, _, _, rfl, CR.lt, by rw [CR.len]; omega, fun i hi => by rw [Nat.zero_add]; exact CR.cell i hi⟩
          clear hiv hf hFA hFB hFC CR
          simp (disch := first | decide | assumption | omega) only [qz3e, qz3f, qz3g, qz3h, qz3i, qz3j, qz00, qz01, qz02, qz03, qz04, qz05, qz06, qz07, qz08, qz09, qz0a, qz0b, qz0c, qz0d, qz0e, qz0f, qz0g, qz0h, qz0i, qz0j, qz0k, qz0l, qz0m, qz0n, qz0o, qz0p, qz0q, qz0r, qz0s, qz0t, qz0u, qz0v, qz0w, qz0x, qz0y, qz0z, qz10, qz11, qz12, qz13, qz14, qz15, qz16, qz17, qz18, qz19, qz1a, qz1b, qz1c, qz1d, qz1e, qz1f, qz1g, qz1h, qz1i, qz1j, qz1k, qz1l, qz1m, qz1n, qz1o, qz1p, qz1q, qz1r, qz1s, qz1t, qz1u, qz1v, qz1w, qz1x, qz1y, qz1z, qz20, qz21, qz22, qz23, qz24, qz25, qz26, qz27, qz28, qz29, qz2a, qz2b, qz2c, qz2d, qz2e, qz2f, qz2g, qz2h, qz2i, qz2j, qz2k, qz2l, qz2m, qz2n, qz2o, qz2p, qz2q, qz2r, qz2s, qz2t, qz2u, qz2v, qz2w, qz2x, qz2y, qz2z, qz30, qz31, qz32, qz33, qz34, qz35, qz36, qz37, qz38, qz39, qz3a, qz3b, qz3c, qz3d, Bool.not_true, Bool.not_false, List.cons_append, List.nil_append, List.append_nil]
          refine Number_num hb (by omega) (by omega) t17 hG17 hok17 (by rw [hin17.len]; omega) VV V12 _ fun s18 e18 => ?_
          have k18 : Kept t17 (back t17 s18) := ⟨e18.nx, rfl, e18.keep⟩
          have CK := CK.ext k18
          have C2 := C2.ext k18
          have VV := VV.ext k18
          have V13 := V13.ext k18
          have V14 := V14.ext k18
          have V17 := V17.ext k18
          have hG18 := hG17.keep k18.keep k18.nx
          generalize back t17 s18 = t18 at k18 hG18 CK C2 VV V13 V14 V17
          have hfr18 := CK.kept.fr
          simp (disch := first | decide | assumption | omega) only [qz3e, qz3f, qz3g, qz3h, qz3i, qz3j, qz00, qz01, qz02, qz03, qz04, qz05, qz06, qz07, qz08, qz09, qz0a, qz0b, qz0c, qz0d, qz0e, qz0f, qz0g, qz0h, qz0i, qz0j, qz0k, qz0l, qz0m, qz0n, qz0o, qz0p, qz0q, qz0r, qz0s, qz0t, qz0u, qz0v, qz0w, qz0x, qz0y, qz0z, qz10, qz11, qz12, qz13, qz14, qz15, qz16, qz17, qz18, qz19, qz1a, qz1b, qz1c, qz1d, qz1e, qz1f, qz1g, qz1h, qz1i, qz1j, qz1k, qz1l, qz1m, qz1n, qz1o, qz1p, qz1q, qz1r, qz1s, qz1t, qz1u, qz1v, qz1w, qz1x, qz1y, qz1z, qz20, qz21, qz22, qz23, qz24, qz25, qz26, qz27, qz28, qz29, qz2a, qz2b, qz2c, qz2d, qz2e, qz2f, qz2g, qz2h, qz2i, qz2j, qz2k, qz2l, qz2m, qz2n, qz2o, qz2p, qz2q, qz2r, qz2s, qz2t, qz2u, qz2v, qz2w, qz2x, qz2y, qz2z, qz30, qz31, qz32, qz33, qz34, qz35, qz36, qz37, qz38, qz39, qz3a, qz3b, qz3c, qz3d, Bool.not_true, Bool.not_false, List.cons_append, List.nil_append, List.append_nil]
          refine Number_num hb (by omega) (by omega) t18 hG18 hok17 (by rw [hin17.len]; omega) VV V13 _ fun s19 e19 => ?_
          have k19 : Kept t18 (back t18 s19) := ⟨e19.nx, rfl, e19.keep⟩
          have CK := CK.ext k19
          have C2 := C2.ext k19
          have VV := VV.ext k19
          have V14 := V14.ext k19
          have V17 := V17.ext k19
          have hG19 := hG18.keep k19.keep k19.nx
          generalize back t18 s19 = t19 at k19 hG19 CK C2 VV V14 V17
          have hfr19 := CK.kept.fr
          simp (disch := first | decide | assumption | omega) only [qz3e, qz3f, qz3g, qz3h, qz3i, qz3j, qz00, qz01, qz02, qz03, qz04, qz05, qz06, qz07, qz08, qz09, qz0a, qz0b, qz0c, qz0d, qz0e, qz0f, qz0g, qz0h, qz0i, qz0j, qz0k, qz0l, qz0m, qz0n, qz0o, qz0p, qz0q, qz0r, qz0s, qz0t, qz0u, qz0v, qz0w, qz0x, qz0y, qz0z, qz10, qz11, qz12, qz13, qz14, qz15, qz16, qz17, qz18, qz19, qz1a, qz1b, qz1c, qz1d, qz1e, qz1f, qz1g, qz1h, qz1i, qz1j, qz1k, qz1l, qz1m, qz1n, qz1o, qz1p, qz1q, qz1r, qz1s, qz1t, qz1u, qz1v, qz1w, qz1x, qz1y, qz1z, qz20, qz21, qz22, qz23, qz24, qz25, qz26, qz27, qz28, qz29, qz2a, qz2b, qz2c, qz2d, qz2e, qz2f, qz2g, qz2h, qz2i, qz2j, qz2k, qz2l, qz2m, qz2n, qz2o, qz2p, qz2q, qz2r, qz2s, qz2t, qz2u, qz2v, qz2w, qz2x, qz2y, qz2z, qz30, qz31, qz32, qz33, qz34, qz35, qz36, qz37, qz38, qz39, qz3a, qz3b, qz3c, qz3d, Bool.not_true, Bool.not_false, List.cons_append, List.nil_append, List.append_nil]
          refine Number_num hb (by omega) (by omega) t19 hG19 hok17 (by rw [hin17.len]; omega) VV V14 _ fun s20 e20 => ?_
          have k20 : Kept t19 (back t19 s20) := ⟨e20.nx, rfl, e20.keep⟩
          have CK := CK.ext k20
          have C2 := C2.ext k20
          have VV := VV.ext k20
          have V17 := V17.ext k20
          have hG20 := hG19.keep k20.keep k20.nx
          generalize back t19 s20 = t20 at k20 hG20 CK C2 VV V17
          have hfr20 := CK.kept.fr
          simp (disch := first | decide | assumption | omega) only [qz3e, qz3f, qz3g, qz3h, qz3i, qz3j, i_buildS2, qz00, qz01, qz02, qz03, qz04, qz05, qz06, qz07, qz08, qz09, qz0a, qz0b, qz0c, qz0d, qz0e, qz0f, qz0g, qz0h, qz0i, qz0j, qz0k, qz0l, qz0m, qz0n, qz0o, qz0p, qz0q, qz0r, qz0s, qz0t, qz0u, qz0v, qz0w, qz0x, qz0y, qz0z, qz10, qz11, qz12, qz13, qz14, qz15, qz16, qz17, qz18, qz19, qz1a, qz1b, qz1c, qz1d, qz1e, qz1f, qz1g, qz1h, qz1i, qz1j, qz1k, qz1l, qz1m, qz1n, qz1o, qz1p, qz1q, qz1r, qz1s, qz1t, qz1u, qz1v, qz1w, qz1x, qz1y, qz1z, qz20, qz21, qz22, qz23, qz24, qz25, qz26, qz27, qz28, qz29, qz2a, qz2b, qz2c, qz2d, qz2e, qz2f, qz2g, qz2h, qz2i, qz2j, qz2k, qz2l, qz2m, qz2n, qz2o, qz2p, qz2q, qz2r, qz2s, qz2t, qz2u, qz2v, qz2w, qz2x, qz2y, qz2z, qz30, qz31, qz32, qz33, qz34, qz35, qz36, qz37, qz38, qz39, qz3a, qz3b, qz3c, qz3d, Bool.not_true, Bool.not_false, List.cons_append, List.nil_append, List.append_nil]
          refine o_buildS2 ⟨rfl, rfl, rfl⟩ ⟨rfl, rfl, rfl⟩ fun s21 m21 => ?_
          have k21 : Kept t20 s21 := (Kept.refl _).made m21
          have CK := CK.ext k21
          have C2 := C2.ext k21
          have VV := VV.ext k21
          have V17 := V17.ext k21
          have hG21 := hG20.keep k21.keep k21.nx
          have hR : Row s21 t20.nx 0 2 (two x15 x16) := (ed2 (own := fun _ => False) m21 (fun _ h => h.elim)).row
          have hfr21 := CK.kept.fr
          simp (disch := first | decide | assumption | omega) only [qz3e, qz3f, qz3g, qz3h, qz3i, qz3j, qz00, qz01, qz02, qz03, qz04, qz05, qz06, qz07, qz08, qz09, qz0a, qz0b, qz0c, qz0d, qz0e, qz0f, qz0g, qz0h, qz0i, qz0j, qz0k, qz0l, qz0m, qz0n, qz0o, qz0p, qz0q, qz0r, qz0s, qz0t, qz0u, qz0v, qz0w, qz0x, qz0y, qz0z, qz10, qz11, qz12, qz13, qz14, qz15, qz16, qz17, qz18, qz19, qz1a, qz1b, qz1c, qz1d, qz1e, qz1f, qz1g, qz1h, qz1i, qz1j, qz1k, qz1l, qz1m, qz1n, qz1o, qz1p, qz1q, qz1r, qz1s, qz1t, qz1u, qz1v, qz1w, qz1x, qz1y, qz1z, qz20, qz21, qz22, qz23, qz24, qz25, qz26, qz27, qz28, qz29, qz2a, qz2b, qz2c, qz2d, qz2e, qz2f, qz2g, qz2h, qz2i, qz2j, qz2k, qz2l, qz2m, qz2n, qz2o, qz2p, qz2q, qz2r, qz2s, qz2t, qz2u, qz2v, qz2w, qz2x, qz2y, qz2z, qz30, qz31, qz32, qz33, qz34, qz35, qz36, qz37, qz38, qz39, qz3a, qz3b, qz3c, qz3d, Bool.not_true, Bool.not_false, List.cons_append, List.nil_append, List.append_nil]
          refine EvalG_ok (fun f a s hf => hb _ a s (by intro h; subst h; simp at hf)) (by decide) (by omega) s21 hG21 hok17 (by rw [hin17.len]; omega) VV hR (fun i hi => has_two E15.1 E16.1 i) _ fun bo2 s22 e22 _ hbo hbl hbv => ?_
          have u0 : rat (back s21 s22).h bo2 (0 + 0 * 1) = .bool (decide (x < y)) := by
            refine (hbv 0 (by decide)).trans (congrArg AV.bool ((E15.2 _ hi0).trans ?_))
            show decide (FA _ < FB _) = _
            rw [vA, vB]
          have u1 : rat (back s21 s22).h bo2 (0 + 1 * 1) = .bool (decide (x = y)) := by
            refine (hbv 1 (by decide)).trans (congrArg AV.bool ((E16.2 _ hi0).trans ?_))
            show decide (FA _ = FB _) = _
            rw [vA, vB]
          have ul : rlen (back s21 s22).h bo2 = 2 := hbl
          have hblt : bo2 < (back s21 s22).nx := hbo
          have k22 : Kept s21 (back s21 s22) := ⟨e22.nx, rfl, e22.keep⟩
          have CK := CK.ext k22
          have C2 := C2.ext k22
          have VV := VV.ext k22
          have V17 := V17.ext k22
          have hG22 := hG21.keep k22.keep k22.nx
          generalize back s21 s22 = t22 at CK C2 V17 VV hG22 u0 u1 ul hblt
          have hfr22 := CK.kept.fr
          simp (disch := first | decide | assumption | omega) only [qz3e, qz3f, qz3g, qz3h, qz3i, qz3j, qz00, qz01, qz02, qz03, qz04, qz05, qz06, qz07, qz08, qz09, qz0a, qz0b, qz0c, qz0d, qz0e, qz0f, qz0g, qz0h, qz0i, qz0j, qz0k, qz0l, qz0m, qz0n, qz0o, qz0p, qz0q, qz0r, qz0s, qz0t, qz0u, qz0v, qz0w, qz0x, qz0y, qz0z, qz10, qz11, qz12, qz13, qz14, qz15, qz16, qz17, qz18, qz19, qz1a, qz1b, qz1c, qz1d, qz1e, qz1f, qz1g, qz1h, qz1i, qz1j, qz1k, qz1l, qz1m, qz1n, qz1o, qz1p, qz1q, qz1r, qz1s, qz1t, qz1u, qz1v, qz1w, qz1x, qz1y, qz1z, qz20, qz21, qz22, qz23, qz24, qz25, qz26, qz27, qz28, qz29, qz2a, qz2b, qz2c, qz2d, qz2e, qz2f, qz2g, qz2h, qz2i, qz2j, qz2k, qz2l, qz2m, qz2n, qz2o, qz2p, qz2q, qz2r, qz2s, qz2t, qz2u, qz2v, qz2w, qz2x, qz2y, qz2z, qz30, qz31, qz32, qz33, qz34, qz35, qz36, qz37, qz38, qz39, qz3a, qz3b, qz3c, qz3d, Bool.not_true, Bool.not_false, List.cons_append, List.nil_append, List.append_nil]
          refine Number_num hb (by omega) (by omega) t22 hG22 hok17 (by rw [hin17.len]; omega) VV V17 _ fun s23 e23 => ?_
          have k23 : Kept t22 (back t22 s23) := ⟨e23.nx, rfl, e23.keep⟩
          have CK := CK.ext k23
          have C2 := C2.ext k23
          have hG23 := hG22.keep k23.keep k23.nx
          generalize back t22 s23 = t23 at k23 hG23 CK C2
          have hfr23 := CK.kept.fr
          obtain ⟨q0, q1, q2, q3⟩ := C2.two
          have kb := k23.keep bo2 hblt
          rw [← rat_same kb] at u0 u1
          rw [← rlen_same kb] at ul
          have ul0 : 0 + 0 * 1 < rlen t23.h bo2 := by omega
          have ul1 : 0 + 1 * 1 < rlen t23.h bo2 := by omega
          have eI0 : ∀ (s : Ev.St) (K : AV → Ev.St → Prop), onER (idxSV 1 (.slice bo2 0 2 2 1 true) (.int .i64 0) s) K = K (.ptr bo2 (0 + 0 * 1)) s := fun s K => qz39 (i := 0) (by decide) 1 .i64
          have eI1 : ∀ (s : Ev.St) (K : AV → Ev.St → Prop), onER (idxSV 1 (.slice bo2 0 2 2 1 true) (.int .i64 1) s) K = K (.ptr bo2 (0 + 1 * 1)) s := fun s K => qz39 (i := 1) (by decide) 1 .i64
          have eL := fun (s : Ev.St) (K : AV → Ev.St → Prop) => v_lssD x y s K
          have eE := fun (s : Ev.St) (K : AV → Ev.St → Prop) => v_eqlD x y s K
          have eP : ∀ (s : Ev.St) (K : AV → Ev.St → Prop), onER (binV .add (.int .i64 x) (.int .i64 y) s) K = K (.int .i64 (x + y)) s := fun s K => v_add (by omega) (by omega)
          have eQ : ∀ (s : Ev.St) (K : AV → Ev.St → Prop), onER (binV .sub (.int .i64 x) (.int .i64 y) s) K = K (.int .i64 (x - y)) s := fun s K => v_sub (by omega) (by omega)
          have pb := prod_bd (show (0 : Int) < 32768 by decide) (show (0 : Int) < 32768 by decide) hx hy
          have eM : ∀ (s : Ev.St) (K : AV → Ev.St → Prop), onER (binV .mul (.int .i64 x) (.int .i64 y) s) K = K (.int .i64 (x * y)) s := fun s K => v_mul (by omega) (by omega)
          have eN := fun (s : Ev.St) (K : AV → Ev.St → Prop) => v_addNN (a := n0) (b := n1) (by omega) s K
          have mx : max n0 n1 ≤ 16 := Nat.max_le.2 ⟨by omega, by omega⟩
          generalize inpR G17.inputs (n0 + n1 + 1) f G17.inputs.length = I at vA vB vC
          cases yes with
          | true =>
            have hW : (if FC I = true then FA I else FB I) = x := by rw [vC, vA, vB]; rfl
            rw [hW]
            simp (disch := first | decide | assumption | omega) only [qz3e, qz3f, qz3g, qz3h, qz3i, qz3j, vA, vB, qz3w, qz3x, q2, q3, v_max3, eI0, eI1, u0, u1, eL, eE, eP, eQ, eM, eN, genEq4, v_addN, qz00, qz01, qz02, qz03, qz04, qz05, qz06, qz07, qz08, qz09, qz0a, qz0b, qz0c, qz0d, qz0e, qz0f, qz0g, qz0h, qz0i, qz0j, qz0k, qz0l, qz0m, qz0n, qz0o, qz0p, qz0q, qz0r, qz0s, qz0t, qz0u, qz0v, qz0w, qz0x, qz0y, qz0z, qz10, qz11, qz12, qz13, qz14, qz15, qz16, qz17, qz18, qz19, qz1a, qz1b, qz1c, qz1d, qz1e, qz1f, qz1g, qz1h, qz1i, qz1j, qz1k, qz1l, qz1m, qz1n, qz1o, qz1p, qz1q, qz1r, qz1s, qz1t, qz1u, qz1v, qz1w, qz1x, qz1y, qz1z, qz20, qz21, qz22, qz23, qz24, qz25, qz26, qz27, qz28, qz29, qz2a, qz2b, qz2c, qz2d, qz2e, qz2f, qz2g, qz2h, qz2i, qz2j, qz2k, qz2l, qz2m, qz2n, qz2o, qz2p, qz2q, qz2r, qz2s, qz2t, qz2u, qz2v, qz2w, qz2x, qz2y, qz2z, qz30, qz31, qz32, qz33, qz34, qz35, qz36, qz37, qz38, qz39, qz3a, qz3b, qz3c, qz3d, Bool.not_true, Bool.not_false, List.cons_append, List.nil_append, List.append_nil]
            exact ⟨trivial, Ext.of st CK.kept⟩
          | false =>
            have hW : (if FC I = true then FA I else FB I) = y := by rw [vC, vA, vB]; rfl
            rw [hW]
            simp (disch := first | decide | assumption | omega) only [qz3e, qz3f, qz3g, qz3h, qz3i, qz3j, vA, vB, qz3w, qz3x, q2, q3, v_max3, eI0, eI1, u0, u1, eL, eE, eP, eQ, eM, eN, genEq4, v_addN, qz00, qz01, qz02, qz03, qz04, qz05, qz06, qz07, qz08, qz09, qz0a, qz0b, qz0c, qz0d, qz0e, qz0f, qz0g, qz0h, qz0i, qz0j, qz0k, qz0l, qz0m, qz0n, qz0o, qz0p, qz0q, qz0r, qz0s, qz0t, qz0u, qz0v, qz0w, qz0x, qz0y, qz0z, qz10, qz11, qz12, qz13, qz14, qz15, qz16, qz17, qz18, qz19, qz1a, qz1b, qz1c, qz1d, qz1e, qz1f, qz1g, qz1h, qz1i, qz1j, qz1k, qz1l, qz1m, qz1n, qz1o, qz1p, qz1q, qz1r, qz1s, qz1t, qz1u, qz1v, qz1w, qz1x, qz1y, qz1z, qz20, qz21, qz22, qz23, qz24, qz25, qz26, qz27, qz28, qz29, qz2a, qz2b, qz2c, qz2d, qz2e, qz2f, qz2g, qz2h, qz2i, qz2j, qz2k, qz2l, qz2m, qz2n, qz2o, qz2p, qz2q, qz2r, qz2s, qz2t, qz2u, qz2v, qz2w, qz2x, qz2y, qz2z, qz30, qz31, qz32, qz33, qz34, qz35, qz36, qz37, qz38, qz39, qz3a, qz3b, qz3c, qz3d, Bool.not_true, Bool.not_false, List.cons_append, List.nil_append, List.append_nil]
            exact ⟨trivial, Ext.of st CK.kept⟩
end Go.Sy
end

section
set_option maxRecDepth 100000
namespace Go.Sy
open Go.Ev Go.Proofs
/-- what a call of the law does, at every input -/
theorem runs_calls (w0 w1 v0 v1 : Int) (yes : Bool) (w : World) :
    Calls Try.prog 9 #[.agg #[.int .i64 w0, .int .i64 w1], .agg #[.int .i64 v0, .int .i64 v1], .bool yes] w fun e w' => e = .returned (.bool true) ∧ w'.os = w.os ∧ w'.tape = w.tape ∧ w'.output = w.output ∧ w.heap.size ≤ w'.heap.size ∧ ∀ k, k < w.heap.size → w'.heap[k]? = w.heap[k]? := by
  have hs : Sim (fun _ => .unborn) st0.h st0.nx w :=
    ⟨fun b B S e => (by cases e), fun b e => (by cases e), fun b b' B S S' e => (by cases e), fun b e => absurd rfl e⟩
  have h := CW.calls try_okP (draw_ok try_mixed) base12_ok
    (runs_ok (base := base12) (fun f args st => base12_no f args st) (fun _ => rfl) w0 w1 v0 v1 yes st0) (ι := fun _ => .unborn) (w := w) (vs := #[.agg #[.int .i64 w0, .int .i64 w1], .agg #[.int .i64 v0, .int .i64 v1], .bool yes]) hs
    (by
      simp only [VRs, VR]
      exact ⟨_, _, rfl, ⟨_, rfl, _, _, rfl, rfl, _, _, rfl, rfl, rfl⟩, _, _, rfl, ⟨_, rfl, _, _, rfl, rfl, _, _, rfl, rfl, rfl⟩, _, _, rfl, rfl, rfl⟩)
  refine Calls.mono h fun e w' ⟨v, x, st', he, hK, ι', _, hv, _, hg, _⟩ => ?_
  rw [hK.1] at hv
  simp only [VR] at hv
  rw [hv] at he
  exact ⟨he, hg.os, hg.tape, hg.output, hg.size, fun k hk => hg.keep k hk (fun b S e => by cases e)⟩
end Go.Sy
end
