/-
  Contracts: the code lowered, what it does told by rules, and the contracts of the functions that the law reaches.
-/
import Derived.Test.YtfdncjlamfhppaaSyE
set_option linter.unusedVariables false
set_option linter.unusedSimpArgs false
section
set_option maxRecDepth 100000
namespace Go.Sy
open Go.Ev Go.Proofs
variable {base : CallF}
theorem v_idxA3 {st : Ev.St} {K : AV → Ev.St → Prop} (b : Nat) (k : IntKind) : onER (idxAV 3 1 (.ptr b 0) (.int k 0) st) K = K (.ptr b 0) st ∧ onER (idxAV 3 1 (.ptr b 0) (.int k 1) st) K = K (.ptr b 1) st ∧ onER (idxAV 3 1 (.ptr b 0) (.int k 2) st) K = K (.ptr b 2) st := by
  have e0 : onNat (.int k 0) = fun F => F 0 := by funext F; show (force 0 F) = F 0; rw [force_eq]
  have e1 : onNat (.int k 1) = fun F => F 1 := by funext F; show (force 1 F) = F 1; rw [force_eq]
  have e2 : onNat (.int k 2) = fun F => F 2 := by funext F; show (force 2 F) = F 2; rw [force_eq]
  refine ⟨?_, ?_, ?_⟩
  · simp only [idxAV, onPtr, e0, force_eq]; rfl
  · simp only [idxAV, onPtr, e1, force_eq]; rfl
  · simp only [idxAV, onPtr, e2, force_eq]; rfl
theorem Cl.three {st : Ev.St} {own : Nat → Prop} {b : Nat} {x y z : AV} (h : Cl st own b 3 (fun i => [x, y, z].getD i .bad)) : (0 < rlen st.h b ∧ 1 < rlen st.h b ∧ 2 < rlen st.h b) ∧ rat st.h b 0 = x ∧ rat st.h b 1 = y ∧ rat st.h b 2 = z :=
  ⟨⟨by rw [h.len]; decide, by rw [h.len]; decide, by rw [h.len]; decide⟩, h.cell 0 (by decide), h.cell 1 (by decide), h.cell 2 (by decide)⟩
theorem IsW_le {n : Int} {w j : Nat} (h : IsW n n w) (hj : 1 ≤ j) (hj2 : j ≤ 32) (hf : fits n n j) : 1 ≤ w ∧ w ≤ j := by
  obtain ⟨hw, ⟨rfl, h | h⟩ | ⟨h1, h2, h3, h4⟩⟩ := h
  · omega
  · exact absurd hf (h j hj hj2)
  · refine ⟨h2, ?_⟩
    rcases Nat.lt_or_ge j w with h | h
    · exact absurd hf (h4 j hj h)
    · exact h
theorem fits_cut (n : Int) : fits (cutN n 8) (cutN n 8) 8 := by
  have h := cutN_bd n (w := 8) (by decide)
  have e : (2 : Int) ^ (8 - 1) = 128 := by decide
  have e2 : 2 ^ (8 - 1) = 128 := by decide
  unfold fits
  rw [e2]
  rw [e] at h
  omega
set_option maxHeartbeats 2000000 in
theorem ring_ok (hb : ∀ f args st, f ≠ 12 → base f args st = .no) (h12 : ∀ st, base 12 [] st = .ok (.bool true) st) (v0 v1 v2 wd : Int) (st : Ev.St) : CW Try.prog base 7 [.agg [.int .i64 v0, .int .i64 v1, .int .i64 v2], .int .i64 wd] st fun v st' => v = .bool true ∧ Ext st st' := by
  refine fn_rule l7 (hb _ _ _ (by decide)) ?_
  simp only [c7, entry, List.map_cons, List.map_nil, List.getD_cons_zero, List.getD_cons_succ]
  unfold b7
  have eX0 := fun (s : Ev.St) (K : AV → Ev.St → Prop) (b : Nat) => (v_idxA3 (st := s) (K := K) b .i64).1
  have eX1 := fun (s : Ev.St) (K : AV → Ev.St → Prop) (b : Nat) => (v_idxA3 (st := s) (K := K) b .i64).2.1
  have eX2 := fun (s : Ev.St) (K : AV → Ev.St → Prop) (b : Nat) => (v_idxA3 (st := s) (K := K) b .i64).2.2
  simp (disch := first | assumption | decide | omega) only [qz3e, qz3f, qz3g, qz3h, qz3i, qz3j, qz00, qz01, qz02, qz03, qz04, qz05, qz06, qz07, qz08, qz09, qz0a, qz0b, qz0c, qz0d, qz0e, qz0f, qz0g, qz0h, qz0i, qz0j, qz0k, qz0l, qz0m, qz0n, qz0o, qz0p, qz0q, qz0r, qz0s, qz0t, qz0u, qz0v, qz0w, qz0x, qz0y, qz0z, qz10, qz11, qz12, qz13, qz14, qz15, qz16, qz17, qz18, qz19, qz1a, qz1b, qz1c, qz1d, qz1e, qz1f, qz1g, qz1h, qz1i, qz1j, qz1k, qz1l, qz1m, qz1n, qz1o, qz1p, qz1q, qz1r, qz1s, qz1t, qz1u, qz1v, qz1w, qz1x, qz1y, qz1z, qz20, qz21, qz22, qz23, qz24, qz25, qz26, qz27, qz28, qz29, qz2a, qz2b, qz2c, qz2d, qz2e, qz2f, qz2g, qz2h, qz2i, qz2j, qz2k, qz2l, qz2m, qz2n, qz2o, qz2p, qz2q, qz2r, qz2s, qz2t, qz2u, qz2v, qz2w, qz2x, qz2y, qz2z, qz30, qz31, qz32, qz33, qz34, qz35, qz36, qz37, qz38, qz39, qz3a, qz3b, qz3c, qz3d, Bool.not_true, Bool.not_false, List.cons_append, List.nil_append, List.append_nil]
  refine o_box rfl fun s1 m1 => ?_
  have k2 : Kept st.bare s1 := (Kept.refl _).made m1
  have n1 : s1.nx = st.nx + 1 := m1.nx
  have C2 : Cl s1 (fun _ => False) st.bare.nx 3 (fun i => [AV.int .i64 v0, .int .i64 v1, .int .i64 v2].getD i .bad) := ⟨by show st.nx < s1.nx; omega, id, m1.len, m1.cell⟩
  have hb1 : st.bare.nx < s1.nx := by show st.nx < s1.nx; omega
  generalize st.bare.nx = bw at C2 hb1
  have sfr : s1.fr = [] := k2.fr
  simp (disch := first | assumption | decide | omega) only [qz3e, qz3f, qz3g, qz3h, qz3i, qz3j, qz00, qz01, qz02, qz03, qz04, qz05, qz06, qz07, qz08, qz09, qz0a, qz0b, qz0c, qz0d, qz0e, qz0f, qz0g, qz0h, qz0i, qz0j, qz0k, qz0l, qz0m, qz0n, qz0o, qz0p, qz0q, qz0r, qz0s, qz0t, qz0u, qz0v, qz0w, qz0x, qz0y, qz0z, qz10, qz11, qz12, qz13, qz14, qz15, qz16, qz17, qz18, qz19, qz1a, qz1b, qz1c, qz1d, qz1e, qz1f, qz1g, qz1h, qz1i, qz1j, qz1k, qz1l, qz1m, qz1n, qz1o, qz1p, qz1q, qz1r, qz1s, qz1t, qz1u, qz1v, qz1w, qz1x, qz1y, qz1z, qz20, qz21, qz22, qz23, qz24, qz25, qz26, qz27, qz28, qz29, qz2a, qz2b, qz2c, qz2d, qz2e, qz2f, qz2g, qz2h, qz2i, qz2j, qz2k, qz2l, qz2m, qz2n, qz2o, qz2p, qz2q, qz2r, qz2s, qz2t, qz2u, qz2v, qz2w, qz2x, qz2y, qz2z, qz30, qz31, qz32, qz33, qz34, qz35, qz36, qz37, qz38, qz39, qz3a, qz3b, qz3c, qz3d, Bool.not_true, Bool.not_false, List.cons_append, List.nil_append, List.append_nil]
  refine base_rule (h12 _) ?_
  by_cases g1 : wd < 1
  · simp (disch := first | assumption | decide | omega) only [qz3e, qz3f, qz3g, qz3h, qz3i, qz3j, qz00, qz01, qz02, qz03, qz04, qz05, qz06, qz07, qz08, qz09, qz0a, qz0b, qz0c, qz0d, qz0e, qz0f, qz0g, qz0h, qz0i, qz0j, qz0k, qz0l, qz0m, qz0n, qz0o, qz0p, qz0q, qz0r, qz0s, qz0t, qz0u, qz0v, qz0w, qz0x, qz0y, qz0z, qz10, qz11, qz12, qz13, qz14, qz15, qz16, qz17, qz18, qz19, qz1a, qz1b, qz1c, qz1d, qz1e, qz1f, qz1g, qz1h, qz1i, qz1j, qz1k, qz1l, qz1m, qz1n, qz1o, qz1p, qz1q, qz1r, qz1s, qz1t, qz1u, qz1v, qz1w, qz1x, qz1y, qz1z, qz20, qz21, qz22, qz23, qz24, qz25, qz26, qz27, qz28, qz29, qz2a, qz2b, qz2c, qz2d, qz2e, qz2f, qz2g, qz2h, qz2i, qz2j, qz2k, qz2l, qz2m, qz2n, qz2o, qz2p, qz2q, qz2r, qz2s, qz2t, qz2u, qz2v, qz2w, qz2x, qz2y, qz2z, qz30, qz31, qz32, qz33, qz34, qz35, qz36, qz37, qz38, qz39, qz3a, qz3b, qz3c, qz3d, Bool.not_true, Bool.not_false, List.cons_append, List.nil_append, List.append_nil]
    exact ⟨trivial, Ext.of st k2⟩
  · by_cases g2 : 9 < wd
    · simp (disch := first | assumption | decide | omega) only [qz3e, qz3f, qz3g, qz3h, qz3i, qz3j, qz00, qz01, qz02, qz03, qz04, qz05, qz06, qz07, qz08, qz09, qz0a, qz0b, qz0c, qz0d, qz0e, qz0f, qz0g, qz0h, qz0i, qz0j, qz0k, qz0l, qz0m, qz0n, qz0o, qz0p, qz0q, qz0r, qz0s, qz0t, qz0u, qz0v, qz0w, qz0x, qz0y, qz0z, qz10, qz11, qz12, qz13, qz14, qz15, qz16, qz17, qz18, qz19, qz1a, qz1b, qz1c, qz1d, qz1e, qz1f, qz1g, qz1h, qz1i, qz1j, qz1k, qz1l, qz1m, qz1n, qz1o, qz1p, qz1q, qz1r, qz1s, qz1t, qz1u, qz1v, qz1w, qz1x, qz1y, qz1z, qz20, qz21, qz22, qz23, qz24, qz25, qz26, qz27, qz28, qz29, qz2a, qz2b, qz2c, qz2d, qz2e, qz2f, qz2g, qz2h, qz2i, qz2j, qz2k, qz2l, qz2m, qz2n, qz2o, qz2p, qz2q, qz2r, qz2s, qz2t, qz2u, qz2v, qz2w, qz2x, qz2y, qz2z, qz30, qz31, qz32, qz33, qz34, qz35, qz36, qz37, qz38, qz39, qz3a, qz3b, qz3c, qz3d, Bool.not_true, Bool.not_false, List.cons_append, List.nil_append, List.append_nil]
      exact ⟨trivial, Ext.of st k2⟩
    · obtain ⟨n0, rfl⟩ : ∃ n : Nat, wd = n := ⟨wd.toNat, by omega⟩
      simp (disch := first | assumption | decide | omega) only [qz3e, qz3f, qz3g, qz3h, qz3i, qz3j, qz00, qz01, qz02, qz03, qz04, qz05, qz06, qz07, qz08, qz09, qz0a, qz0b, qz0c, qz0d, qz0e, qz0f, qz0g, qz0h, qz0i, qz0j, qz0k, qz0l, qz0m, qz0n, qz0o, qz0p, qz0q, qz0r, qz0s, qz0t, qz0u, qz0v, qz0w, qz0x, qz0y, qz0z, qz10, qz11, qz12, qz13, qz14, qz15, qz16, qz17, qz18, qz19, qz1a, qz1b, qz1c, qz1d, qz1e, qz1f, qz1g, qz1h, qz1i, qz1j, qz1k, qz1l, qz1m, qz1n, qz1o, qz1p, qz1q, qz1r, qz1s, qz1t, qz1u, qz1v, qz1w, qz1x, qz1y, qz1z, qz20, qz21, qz22, qz23, qz24, qz25, qz26, qz27, qz28, qz29, qz2a, qz2b, qz2c, qz2d, qz2e, qz2f, qz2g, qz2h, qz2i, qz2j, qz2k, qz2l, qz2m, qz2n, qz2o, qz2p, qz2q, qz2r, qz2s, qz2t, qz2u, qz2v, qz2w, qz2x, qz2y, qz2z, qz30, qz31, qz32, qz33, qz34, qz35, qz36, qz37, qz38, qz39, qz3a, qz3b, qz3c, qz3d, Bool.not_true, Bool.not_false, List.cons_append, List.nil_append, List.append_nil]
      refine NewG_ok (fun a s => hb _ a s (by decide)) _ _ fun g p m s3 e3 hg hp hm hG => ?_
      have k3 : Kept s1 (back s1 s3) := ⟨e3.nx, rfl, e3.keep⟩
      have C2 := C2.ext k3
      have ow : ∀ c, Own g p 0 m Gr.new c → s1.nx ≤ c := fun c hc => by
        rcases hc with h | h | h | ⟨h, _⟩
        · omega
        · omega
        · omega
        · exact absurd rfl h
      have C2 : Cl (back s1 s3) (Own g p 0 m Gr.new) bw 3 (fun i => [AV.int .i64 v0, .int .i64 v1, .int .i64 v2].getD i .bad) := ⟨C2.lt, fun h => by have := ow _ h; omega, C2.len, C2.cell⟩
      have CK : Kx st (Own g p 0 m Gr.new) (back s1 s3) := ⟨k2.trans k3, fun c hc => Nat.le_trans k2.nx (ow c hc)⟩
      have hG : GM (back s1 s3).h (back s1 s3).nx g p 0 m true Gr.new := hG
      have hfr : (back s1 s3).fr = [] := sfr
      generalize back s1 s3 = t at C2 CK hG hfr
      have hok := Gr.new_ok
      have hin := Ins_new
      have hlen : Gr.new.parts.length = 0 + 1 := rfl
      generalize hGd : Gr.new = G at C2 CK hG hok hin hlen
      simp (disch := first | assumption | decide | omega) only [qz3e, qz3f, qz3g, qz3h, qz3i, qz3j, qz00, qz01, qz02, qz03, qz04, qz05, qz06, qz07, qz08, qz09, qz0a, qz0b, qz0c, qz0d, qz0e, qz0f, qz0g, qz0h, qz0i, qz0j, qz0k, qz0l, qz0m, qz0n, qz0o, qz0p, qz0q, qz0r, qz0s, qz0t, qz0u, qz0v, qz0w, qz0x, qz0y, qz0z, qz10, qz11, qz12, qz13, qz14, qz15, qz16, qz17, qz18, qz19, qz1a, qz1b, qz1c, qz1d, qz1e, qz1f, qz1g, qz1h, qz1i, qz1j, qz1k, qz1l, qz1m, qz1n, qz1o, qz1p, qz1q, qz1r, qz1s, qz1t, qz1u, qz1v, qz1w, qz1x, qz1y, qz1z, qz20, qz21, qz22, qz23, qz24, qz25, qz26, qz27, qz28, qz29, qz2a, qz2b, qz2c, qz2d, qz2e, qz2f, qz2g, qz2h, qz2i, qz2j, qz2k, qz2l, qz2m, qz2n, qz2o, qz2p, qz2q, qz2r, qz2s, qz2t, qz2u, qz2v, qz2w, qz2x, qz2y, qz2z, qz30, qz31, qz32, qz33, qz34, qz35, qz36, qz37, qz38, qz39, qz3a, qz3b, qz3c, qz3d, Bool.not_true, Bool.not_false, List.cons_append, List.nil_append, List.append_nil]
      refine Input_num hb t hfr hG hok (w := n0) (by omega) (by omega) (by omega) (by rw [hin.len]; omega) _ fun ba p1 qq1 ex1 s4 S hG hok1 L Va => ?_
      have C2 := C2.step S
      have CK := CK.step S
      have hin1 := Ins_moreN hin hlen n0
      have hlen1 := moreN_parts G n0
      generalize hGd1 : G.moreN n0 = G1 at C2 CK hG hok1 hin1 hlen1 Va
      generalize back t s4 = t1 at C2 CK hG Va
      have hfr1 := CK.kept.fr
      obtain ⟨⟨q0, q1, q2⟩, r0, r1, r2⟩ := C2.three
      simp (disch := first | assumption | decide | omega) only [qz3e, qz3f, qz3g, qz3h, qz3i, qz3j, eX0, eX1, eX2, r1, qz00, qz01, qz02, qz03, qz04, qz05, qz06, qz07, qz08, qz09, qz0a, qz0b, qz0c, qz0d, qz0e, qz0f, qz0g, qz0h, qz0i, qz0j, qz0k, qz0l, qz0m, qz0n, qz0o, qz0p, qz0q, qz0r, qz0s, qz0t, qz0u, qz0v, qz0w, qz0x, qz0y, qz0z, qz10, qz11, qz12, qz13, qz14, qz15, qz16, qz17, qz18, qz19, qz1a, qz1b, qz1c, qz1d, qz1e, qz1f, qz1g, qz1h, qz1i, qz1j, qz1k, qz1l, qz1m, qz1n, qz1o, qz1p, qz1q, qz1r, qz1s, qz1t, qz1u, qz1v, qz1w, qz1x, qz1y, qz1z, qz20, qz21, qz22, qz23, qz24, qz25, qz26, qz27, qz28, qz29, qz2a, qz2b, qz2c, qz2d, qz2e, qz2f, qz2g, qz2h, qz2i, qz2j, qz2k, qz2l, qz2m, qz2n, qz2o, qz2p, qz2q, qz2r, qz2s, qz2t, qz2u, qz2v, qz2w, qz2x, qz2y, qz2z, qz30, qz31, qz32, qz33, qz34, qz35, qz36, qz37, qz38, qz39, qz3a, qz3b, qz3c, qz3d, Bool.not_true, Bool.not_false, List.cons_append, List.nil_append, List.append_nil]
      refine Cut_ok (fun f a s hf => hb _ a s (by rcases hf with rfl | rfl <;> decide)) (w := 8) (by decide) (by decide) t1 _ ?_
      simp (disch := first | assumption | decide | omega) only [qz3e, qz3f, qz3g, qz3h, qz3i, qz3j, qz00, qz01, qz02, qz03, qz04, qz05, qz06, qz07, qz08, qz09, qz0a, qz0b, qz0c, qz0d, qz0e, qz0f, qz0g, qz0h, qz0i, qz0j, qz0k, qz0l, qz0m, qz0n, qz0o, qz0p, qz0q, qz0r, qz0s, qz0t, qz0u, qz0v, qz0w, qz0x, qz0y, qz0z, qz10, qz11, qz12, qz13, qz14, qz15, qz16, qz17, qz18, qz19, qz1a, qz1b, qz1c, qz1d, qz1e, qz1f, qz1g, qz1h, qz1i, qz1j, qz1k, qz1l, qz1m, qz1n, qz1o, qz1p, qz1q, qz1r, qz1s, qz1t, qz1u, qz1v, qz1w, qz1x, qz1y, qz1z, qz20, qz21, qz22, qz23, qz24, qz25, qz26, qz27, qz28, qz29, qz2a, qz2b, qz2c, qz2d, qz2e, qz2f, qz2g, qz2h, qz2i, qz2j, qz2k, qz2l, qz2m, qz2n, qz2o, qz2p, qz2q, qz2r, qz2s, qz2t, qz2u, qz2v, qz2w, qz2x, qz2y, qz2z, qz30, qz31, qz32, qz33, qz34, qz35, qz36, qz37, qz38, qz39, qz3a, qz3b, qz3c, qz3d, Bool.not_true, Bool.not_false, List.cons_append, List.nil_append, List.append_nil]
      refine Const_num hb (cutN v1 8) t1 hfr1 hG hok1 _ (fun h => by have := IsW_le h (by decide) (by decide) (fits_cut v1); omega) fun wb bb s6 _ _ hW k6 Vb => ?_
      obtain ⟨hwb1, hwb2⟩ := IsW_le hW (by decide) (by decide) (fits_cut v1)
      have C2 := C2.ext k6
      have CK := CK.ext k6
      have Va := Va.ext k6
      have hG := hG.keep k6.keep k6.nx
      generalize back t1 s6 = t2 at C2 CK hG Va Vb
      have hfr2 := CK.kept.fr
      obtain ⟨⟨q0, q1, q2⟩, r0, r1, r2⟩ := C2.three
      simp (disch := first | assumption | decide | omega) only [qz3e, qz3f, qz3g, qz3h, qz3i, qz3j, eX0, eX1, eX2, r2, qz00, qz01, qz02, qz03, qz04, qz05, qz06, qz07, qz08, qz09, qz0a, qz0b, qz0c, qz0d, qz0e, qz0f, qz0g, qz0h, qz0i, qz0j, qz0k, qz0l, qz0m, qz0n, qz0o, qz0p, qz0q, qz0r, qz0s, qz0t, qz0u, qz0v, qz0w, qz0x, qz0y, qz0z, qz10, qz11, qz12, qz13, qz14, qz15, qz16, qz17, qz18, qz19, qz1a, qz1b, qz1c, qz1d, qz1e, qz1f, qz1g, qz1h, qz1i, qz1j, qz1k, qz1l, qz1m, qz1n, qz1o, qz1p, qz1q, qz1r, qz1s, qz1t, qz1u, qz1v, qz1w, qz1x, qz1y, qz1z, qz20, qz21, qz22, qz23, qz24, qz25, qz26, qz27, qz28, qz29, qz2a, qz2b, qz2c, qz2d, qz2e, qz2f, qz2g, qz2h, qz2i, qz2j, qz2k, qz2l, qz2m, qz2n, qz2o, qz2p, qz2q, qz2r, qz2s, qz2t, qz2u, qz2v, qz2w, qz2x, qz2y, qz2z, qz30, qz31, qz32, qz33, qz34, qz35, qz36, qz37, qz38, qz39, qz3a, qz3b, qz3c, qz3d, Bool.not_true, Bool.not_false, List.cons_append, List.nil_append, List.append_nil]
      refine Cut_ok (fun f a s hf => hb _ a s (by rcases hf with rfl | rfl <;> decide)) (w := 8) (by decide) (by decide) t2 _ ?_
      simp (disch := first | assumption | decide | omega) only [qz3e, qz3f, qz3g, qz3h, qz3i, qz3j, qz00, qz01, qz02, qz03, qz04, qz05, qz06, qz07, qz08, qz09, qz0a, qz0b, qz0c, qz0d, qz0e, qz0f, qz0g, qz0h, qz0i, qz0j, qz0k, qz0l, qz0m, qz0n, qz0o, qz0p, qz0q, qz0r, qz0s, qz0t, qz0u, qz0v, qz0w, qz0x, qz0y, qz0z, qz10, qz11, qz12, qz13, qz14, qz15, qz16, qz17, qz18, qz19, qz1a, qz1b, qz1c, qz1d, qz1e, qz1f, qz1g, qz1h, qz1i, qz1j, qz1k, qz1l, qz1m, qz1n, qz1o, qz1p, qz1q, qz1r, qz1s, qz1t, qz1u, qz1v, qz1w, qz1x, qz1y, qz1z, qz20, qz21, qz22, qz23, qz24, qz25, qz26, qz27, qz28, qz29, qz2a, qz2b, qz2c, qz2d, qz2e, qz2f, qz2g, qz2h, qz2i, qz2j, qz2k, qz2l, qz2m, qz2n, qz2o, qz2p, qz2q, qz2r, qz2s, qz2t, qz2u, qz2v, qz2w, qz2x, qz2y, qz2z, qz30, qz31, qz32, qz33, qz34, qz35, qz36, qz37, qz38, qz39, qz3a, qz3b, qz3c, qz3d, Bool.not_true, Bool.not_false, List.cons_append, List.nil_append, List.append_nil]
      refine Const_num hb (cutN v2 8) t2 hfr2 hG hok1 _ (fun h => by have := IsW_le h (by decide) (by decide) (fits_cut v2); omega) fun wc bc s7 _ _ hW k7 Vc' => ?_
      obtain ⟨hwc1, hwc2⟩ := IsW_le hW (by decide) (by decide) (fits_cut v2)
      have C2 := C2.ext k7
      have CK := CK.ext k7
      have Va := Va.ext k7
      have Vb := Vb.ext k7
      have hG := hG.keep k7.keep k7.nx
      generalize back t2 s7 = t3 at C2 CK hG Va Vb Vc'
      have hfr3 := CK.kept.fr
      simp (disch := first | assumption | decide | omega) only [qz3e, qz3f, qz3g, qz3h, qz3i, qz3j, qz00, qz01, qz02, qz03, qz04, qz05, qz06, qz07, qz08, qz09, qz0a, qz0b, qz0c, qz0d, qz0e, qz0f, qz0g, qz0h, qz0i, qz0j, qz0k, qz0l, qz0m, qz0n, qz0o, qz0p, qz0q, qz0r, qz0s, qz0t, qz0u, qz0v, qz0w, qz0x, qz0y, qz0z, qz10, qz11, qz12, qz13, qz14, qz15, qz16, qz17, qz18, qz19, qz1a, qz1b, qz1c, qz1d, qz1e, qz1f, qz1g, qz1h, qz1i, qz1j, qz1k, qz1l, qz1m, qz1n, qz1o, qz1p, qz1q, qz1r, qz1s, qz1t, qz1u, qz1v, qz1w, qz1x, qz1y, qz1z, qz20, qz21, qz22, qz23, qz24, qz25, qz26, qz27, qz28, qz29, qz2a, qz2b, qz2c, qz2d, qz2e, qz2f, qz2g, qz2h, qz2i, qz2j, qz2k, qz2l, qz2m, qz2n, qz2o, qz2p, qz2q, qz2r, qz2s, qz2t, qz2u, qz2v, qz2w, qz2x, qz2y, qz2z, qz30, qz31, qz32, qz33, qz34, qz35, qz36, qz37, qz38, qz39, qz3a, qz3b, qz3c, qz3d, Bool.not_true, Bool.not_false, List.cons_append, List.nil_append, List.append_nil]
      refine Const_num hb 1 t3 hfr3 hG hok1 _ (fun h => by have := W11 h; omega) fun w bo s8 _ _ hW k8 Vo => ?_
      have := W11 hW
      subst this
      have C2 := C2.ext k8
      have CK := CK.ext k8
      have Va := Va.ext k8
      have Vb := Vb.ext k8
      have Vc' := Vc'.ext k8
      have hG4 := hG.keep k8.keep k8.nx
      generalize back t3 s8 = t4 at C2 CK hG4 Va Vb Vc' Vo
      have hfr4 := CK.kept.fr
      have hok4 := hok1
      have hin4 := hin1
      generalize hA : (fun inp : Nat → Bool => num (fun i => inp (G.parts.length + i)) n0) = FA at Va
      simp (disch := first | assumption | decide | omega) only [qz3e, qz3f, qz3g, qz3h, qz3i, qz3j, qz00, qz01, qz02, qz03, qz04, qz05, qz06, qz07, qz08, qz09, qz0a, qz0b, qz0c, qz0d, qz0e, qz0f, qz0g, qz0h, qz0i, qz0j, qz0k, qz0l, qz0m, qz0n, qz0o, qz0p, qz0q, qz0r, qz0s, qz0t, qz0u, qz0v, qz0w, qz0x, qz0y, qz0z, qz10, qz11, qz12, qz13, qz14, qz15, qz16, qz17, qz18, qz19, qz1a, qz1b, qz1c, qz1d, qz1e, qz1f, qz1g, qz1h, qz1i, qz1j, qz1k, qz1l, qz1m, qz1n, qz1o, qz1p, qz1q, qz1r, qz1s, qz1t, qz1u, qz1v, qz1w, qz1x, qz1y, qz1z, qz20, qz21, qz22, qz23, qz24, qz25, qz26, qz27, qz28, qz29, qz2a, qz2b, qz2c, qz2d, qz2e, qz2f, qz2g, qz2h, qz2i, qz2j, qz2k, qz2l, qz2m, qz2n, qz2o, qz2p, qz2q, qz2r, qz2s, qz2t, qz2u, qz2v, qz2w, qz2x, qz2y, qz2z, qz30, qz31, qz32, qz33, qz34, qz35, qz36, qz37, qz38, qz39, qz3a, qz3b, qz3c, qz3d, Bool.not_true, Bool.not_false, List.cons_append, List.nil_append, List.append_nil]
      refine Add_num hb t4 hG4 hok4 (by omega) (by omega) Vb Vc' _ fun b5 p5 ex5 G5 s5 B V5 => ?_
      have B := B.back hfr4
      have V5 := V5.bk (t := t4)
      have C2 := C2.aft B
      have CK := CK.aft B
      have Va := Va.aft B
      have Vb := Vb.aft B
      have Vc' := Vc'.aft B
      have Vo := Vo.aft B
      have hin5 := Ins_aft hin4 B
      generalize back t4 s5 = t5 at B C2 CK Va Vb Vc' Vo V5
      have hfr5 := B.fr
      have hl5 := B.len
      have hG5 := B.gm
      have hok5 := B.ok
      clear B
      simp (disch := first | assumption | decide | omega) only [qz3e, qz3f, qz3g, qz3h, qz3i, qz3j, qz00, qz01, qz02, qz03, qz04, qz05, qz06, qz07, qz08, qz09, qz0a, qz0b, qz0c, qz0d, qz0e, qz0f, qz0g, qz0h, qz0i, qz0j, qz0k, qz0l, qz0m, qz0n, qz0o, qz0p, qz0q, qz0r, qz0s, qz0t, qz0u, qz0v, qz0w, qz0x, qz0y, qz0z, qz10, qz11, qz12, qz13, qz14, qz15, qz16, qz17, qz18, qz19, qz1a, qz1b, qz1c, qz1d, qz1e, qz1f, qz1g, qz1h, qz1i, qz1j, qz1k, qz1l, qz1m, qz1n, qz1o, qz1p, qz1q, qz1r, qz1s, qz1t, qz1u, qz1v, qz1w, qz1x, qz1y, qz1z, qz20, qz21, qz22, qz23, qz24, qz25, qz26, qz27, qz28, qz29, qz2a, qz2b, qz2c, qz2d, qz2e, qz2f, qz2g, qz2h, qz2i, qz2j, qz2k, qz2l, qz2m, qz2n, qz2o, qz2p, qz2q, qz2r, qz2s, qz2t, qz2u, qz2v, qz2w, qz2x, qz2y, qz2z, qz30, qz31, qz32, qz33, qz34, qz35, qz36, qz37, qz38, qz39, qz3a, qz3b, qz3c, qz3d, Bool.not_true, Bool.not_false, List.cons_append, List.nil_append, List.append_nil]
      refine Times_num hb t5 hG5 hok5 (by omega) (by omega) Va V5 _ fun b6 p6 ex6 G6 s6 B V6 => ?_
      have B := B.back hfr5
      have V6 := V6.bk (t := t5)
      have C2 := C2.aft B
      have CK := CK.aft B
      have Va := Va.aft B
      have Vb := Vb.aft B
      have Vc' := Vc'.aft B
      have Vo := Vo.aft B
      have hin6 := Ins_aft hin5 B
      generalize back t5 s6 = t6 at B C2 CK Va Vb Vc' Vo V6
      have hfr6 := B.fr
      have hl6 := B.len
      have hG6 := B.gm
      have hok6 := B.ok
      clear B
      simp (disch := first | assumption | decide | omega) only [qz3e, qz3f, qz3g, qz3h, qz3i, qz3j, qz00, qz01, qz02, qz03, qz04, qz05, qz06, qz07, qz08, qz09, qz0a, qz0b, qz0c, qz0d, qz0e, qz0f, qz0g, qz0h, qz0i, qz0j, qz0k, qz0l, qz0m, qz0n, qz0o, qz0p, qz0q, qz0r, qz0s, qz0t, qz0u, qz0v, qz0w, qz0x, qz0y, qz0z, qz10, qz11, qz12, qz13, qz14, qz15, qz16, qz17, qz18, qz19, qz1a, qz1b, qz1c, qz1d, qz1e, qz1f, qz1g, qz1h, qz1i, qz1j, qz1k, qz1l, qz1m, qz1n, qz1o, qz1p, qz1q, qz1r, qz1s, qz1t, qz1u, qz1v, qz1w, qz1x, qz1y, qz1z, qz20, qz21, qz22, qz23, qz24, qz25, qz26, qz27, qz28, qz29, qz2a, qz2b, qz2c, qz2d, qz2e, qz2f, qz2g, qz2h, qz2i, qz2j, qz2k, qz2l, qz2m, qz2n, qz2o, qz2p, qz2q, qz2r, qz2s, qz2t, qz2u, qz2v, qz2w, qz2x, qz2y, qz2z, qz30, qz31, qz32, qz33, qz34, qz35, qz36, qz37, qz38, qz39, qz3a, qz3b, qz3c, qz3d, Bool.not_true, Bool.not_false, List.cons_append, List.nil_append, List.append_nil]
      refine Times_num hb t6 hG6 hok6 (by omega) (by omega) Va Vb _ fun b7 p7 ex7 G7 s7 B V7 => ?_
      have B := B.back hfr6
      have V7 := V7.bk (t := t6)
      have C2 := C2.aft B
      have CK := CK.aft B
      have Va := Va.aft B
      have Vb := Vb.aft B
      have Vc' := Vc'.aft B
      have Vo := Vo.aft B
      have V6 := V6.aft B
      have hin7 := Ins_aft hin6 B
      generalize back t6 s7 = t7 at B C2 CK Va Vb Vc' Vo V6 V7
      have hfr7 := B.fr
      have hl7 := B.len
      have hG7 := B.gm
      have hok7 := B.ok
      clear B
      simp (disch := first | assumption | decide | omega) only [qz3e, qz3f, qz3g, qz3h, qz3i, qz3j, qz00, qz01, qz02, qz03, qz04, qz05, qz06, qz07, qz08, qz09, qz0a, qz0b, qz0c, qz0d, qz0e, qz0f, qz0g, qz0h, qz0i, qz0j, qz0k, qz0l, qz0m, qz0n, qz0o, qz0p, qz0q, qz0r, qz0s, qz0t, qz0u, qz0v, qz0w, qz0x, qz0y, qz0z, qz10, qz11, qz12, qz13, qz14, qz15, qz16, qz17, qz18, qz19, qz1a, qz1b, qz1c, qz1d, qz1e, qz1f, qz1g, qz1h, qz1i, qz1j, qz1k, qz1l, qz1m, qz1n, qz1o, qz1p, qz1q, qz1r, qz1s, qz1t, qz1u, qz1v, qz1w, qz1x, qz1y, qz1z, qz20, qz21, qz22, qz23, qz24, qz25, qz26, qz27, qz28, qz29, qz2a, qz2b, qz2c, qz2d, qz2e, qz2f, qz2g, qz2h, qz2i, qz2j, qz2k, qz2l, qz2m, qz2n, qz2o, qz2p, qz2q, qz2r, qz2s, qz2t, qz2u, qz2v, qz2w, qz2x, qz2y, qz2z, qz30, qz31, qz32, qz33, qz34, qz35, qz36, qz37, qz38, qz39, qz3a, qz3b, qz3c, qz3d, Bool.not_true, Bool.not_false, List.cons_append, List.nil_append, List.append_nil]
      refine Times_num hb t7 hG7 hok7 (by omega) (by omega) Va Vc' _ fun b8 p8 ex8 G8 s8 B V8 => ?_
      have B := B.back hfr7
      have V8 := V8.bk (t := t7)
      have C2 := C2.aft B
      have CK := CK.aft B
      have Va := Va.aft B
      have Vo := Vo.aft B
      have V6 := V6.aft B
      have V7 := V7.aft B
      have hin8 := Ins_aft hin7 B
      generalize back t7 s8 = t8 at B C2 CK Va Vo V6 V7 V8
      have hfr8 := B.fr
      have hl8 := B.len
      have hG8 := B.gm
      have hok8 := B.ok
      clear B
      simp (disch := first | assumption | decide | omega) only [qz3e, qz3f, qz3g, qz3h, qz3i, qz3j, qz00, qz01, qz02, qz03, qz04, qz05, qz06, qz07, qz08, qz09, qz0a, qz0b, qz0c, qz0d, qz0e, qz0f, qz0g, qz0h, qz0i, qz0j, qz0k, qz0l, qz0m, qz0n, qz0o, qz0p, qz0q, qz0r, qz0s, qz0t, qz0u, qz0v, qz0w, qz0x, qz0y, qz0z, qz10, qz11, qz12, qz13, qz14, qz15, qz16, qz17, qz18, qz19, qz1a, qz1b, qz1c, qz1d, qz1e, qz1f, qz1g, qz1h, qz1i, qz1j, qz1k, qz1l, qz1m, qz1n, qz1o, qz1p, qz1q, qz1r, qz1s, qz1t, qz1u, qz1v, qz1w, qz1x, qz1y, qz1z, qz20, qz21, qz22, qz23, qz24, qz25, qz26, qz27, qz28, qz29, qz2a, qz2b, qz2c, qz2d, qz2e, qz2f, qz2g, qz2h, qz2i, qz2j, qz2k, qz2l, qz2m, qz2n, qz2o, qz2p, qz2q, qz2r, qz2s, qz2t, qz2u, qz2v, qz2w, qz2x, qz2y, qz2z, qz30, qz31, qz32, qz33, qz34, qz35, qz36, qz37, qz38, qz39, qz3a, qz3b, qz3c, qz3d, Bool.not_true, Bool.not_false, List.cons_append, List.nil_append, List.append_nil]
      refine Add_num hb t8 hG8 hok8 (by omega) (by omega) V7 V8 _ fun b9 p9 ex9 G9 s9 B V9 => ?_
      have B := B.back hfr8
      have V9 := V9.bk (t := t8)
      have C2 := C2.aft B
      have CK := CK.aft B
      have Va := Va.aft B
      have Vo := Vo.aft B
      have V6 := V6.aft B
      have hin9 := Ins_aft hin8 B
      generalize back t8 s9 = t9 at B C2 CK Va Vo V6 V9
      have hfr9 := B.fr
      have hl9 := B.len
      have hG9 := B.gm
      have hok9 := B.ok
      clear B
      simp (disch := first | assumption | decide | omega) only [qz3e, qz3f, qz3g, qz3h, qz3i, qz3j, qz00, qz01, qz02, qz03, qz04, qz05, qz06, qz07, qz08, qz09, qz0a, qz0b, qz0c, qz0d, qz0e, qz0f, qz0g, qz0h, qz0i, qz0j, qz0k, qz0l, qz0m, qz0n, qz0o, qz0p, qz0q, qz0r, qz0s, qz0t, qz0u, qz0v, qz0w, qz0x, qz0y, qz0z, qz10, qz11, qz12, qz13, qz14, qz15, qz16, qz17, qz18, qz19, qz1a, qz1b, qz1c, qz1d, qz1e, qz1f, qz1g, qz1h, qz1i, qz1j, qz1k, qz1l, qz1m, qz1n, qz1o, qz1p, qz1q, qz1r, qz1s, qz1t, qz1u, qz1v, qz1w, qz1x, qz1y, qz1z, qz20, qz21, qz22, qz23, qz24, qz25, qz26, qz27, qz28, qz29, qz2a, qz2b, qz2c, qz2d, qz2e, qz2f, qz2g, qz2h, qz2i, qz2j, qz2k, qz2l, qz2m, qz2n, qz2o, qz2p, qz2q, qz2r, qz2s, qz2t, qz2u, qz2v, qz2w, qz2x, qz2y, qz2z, qz30, qz31, qz32, qz33, qz34, qz35, qz36, qz37, qz38, qz39, qz3a, qz3b, qz3c, qz3d, Bool.not_true, Bool.not_false, List.cons_append, List.nil_append, List.append_nil]
      refine Equal_num hb t9 hG9 hok9 (by omega) (by omega) V6 V9 _ fun x10 p10 ex10 G10 s10 B E10 => ?_
      have B := B.back hfr9
      have C2 := C2.aft B
      have CK := CK.aft B
      have Va := Va.aft B
      have Vo := Vo.aft B
      have hin10 := Ins_aft hin9 B
      generalize back t9 s10 = t10 at B C2 CK Va Vo
      have hfr10 := B.fr
      have hl10 := B.len
      have hG10 := B.gm
      have hok10 := B.ok
      clear B
      simp (disch := first | assumption | decide | omega) only [qz3e, qz3f, qz3g, qz3h, qz3i, qz3j, qz00, qz01, qz02, qz03, qz04, qz05, qz06, qz07, qz08, qz09, qz0a, qz0b, qz0c, qz0d, qz0e, qz0f, qz0g, qz0h, qz0i, qz0j, qz0k, qz0l, qz0m, qz0n, qz0o, qz0p, qz0q, qz0r, qz0s, qz0t, qz0u, qz0v, qz0w, qz0x, qz0y, qz0z, qz10, qz11, qz12, qz13, qz14, qz15, qz16, qz17, qz18, qz19, qz1a, qz1b, qz1c, qz1d, qz1e, qz1f, qz1g, qz1h, qz1i, qz1j, qz1k, qz1l, qz1m, qz1n, qz1o, qz1p, qz1q, qz1r, qz1s, qz1t, qz1u, qz1v, qz1w, qz1x, qz1y, qz1z, qz20, qz21, qz22, qz23, qz24, qz25, qz26, qz27, qz28, qz29, qz2a, qz2b, qz2c, qz2d, qz2e, qz2f, qz2g, qz2h, qz2i, qz2j, qz2k, qz2l, qz2m, qz2n, qz2o, qz2p, qz2q, qz2r, qz2s, qz2t, qz2u, qz2v, qz2w, qz2x, qz2y, qz2z, qz30, qz31, qz32, qz33, qz34, qz35, qz36, qz37, qz38, qz39, qz3a, qz3b, qz3c, qz3d, Bool.not_true, Bool.not_false, List.cons_append, List.nil_append, List.append_nil]
      refine Sub_num hb t10 hG10 hok10 (by omega) (by omega) Va Va _ fun b11 p11 ex11 G11 s11 B V11 => ?_
      have B := B.back hfr10
      have V11 := V11.bk (t := t10)
      have C2 := C2.aft B
      have CK := CK.aft B
      have Va := Va.aft B
      have Vo := Vo.aft B
      have E10 := E10.aft B
      have hin11 := Ins_aft hin10 B
      generalize back t10 s11 = t11 at B C2 CK Va Vo V11
      have hfr11 := B.fr
      have hl11 := B.len
      have hG11 := B.gm
      have hok11 := B.ok
      clear B
      simp (disch := first | assumption | decide | omega) only [qz3e, qz3f, qz3g, qz3h, qz3i, qz3j, qz00, qz01, qz02, qz03, qz04, qz05, qz06, qz07, qz08, qz09, qz0a, qz0b, qz0c, qz0d, qz0e, qz0f, qz0g, qz0h, qz0i, qz0j, qz0k, qz0l, qz0m, qz0n, qz0o, qz0p, qz0q, qz0r, qz0s, qz0t, qz0u, qz0v, qz0w, qz0x, qz0y, qz0z, qz10, qz11, qz12, qz13, qz14, qz15, qz16, qz17, qz18, qz19, qz1a, qz1b, qz1c, qz1d, qz1e, qz1f, qz1g, qz1h, qz1i, qz1j, qz1k, qz1l, qz1m, qz1n, qz1o, qz1p, qz1q, qz1r, qz1s, qz1t, qz1u, qz1v, qz1w, qz1x, qz1y, qz1z, qz20, qz21, qz22, qz23, qz24, qz25, qz26, qz27, qz28, qz29, qz2a, qz2b, qz2c, qz2d, qz2e, qz2f, qz2g, qz2h, qz2i, qz2j, qz2k, qz2l, qz2m, qz2n, qz2o, qz2p, qz2q, qz2r, qz2s, qz2t, qz2u, qz2v, qz2w, qz2x, qz2y, qz2z, qz30, qz31, qz32, qz33, qz34, qz35, qz36, qz37, qz38, qz39, qz3a, qz3b, qz3c, qz3d, Bool.not_true, Bool.not_false, List.cons_append, List.nil_append, List.append_nil]
      refine Times_num hb t11 hG11 hok11 (by omega) (by omega) Va Vo _ fun b12 p12 ex12 G12 s12 B V12 => ?_
      have B := B.back hfr11
      have V12 := V12.bk (t := t11)
      have C2 := C2.aft B
      have CK := CK.aft B
      have Va := Va.aft B
      have V11 := V11.aft B
      have E10 := E10.aft B
      have hin12 := Ins_aft hin11 B
      generalize back t11 s12 = t12 at B C2 CK Va V11 V12
      have hfr12 := B.fr
      have hl12 := B.len
      have hG12 := B.gm
      have hok12 := B.ok
      clear B
      simp (disch := first | assumption | decide | omega) only [qz3e, qz3f, qz3g, qz3h, qz3i, qz3j, qz00, qz01, qz02, qz03, qz04, qz05, qz06, qz07, qz08, qz09, qz0a, qz0b, qz0c, qz0d, qz0e, qz0f, qz0g, qz0h, qz0i, qz0j, qz0k, qz0l, qz0m, qz0n, qz0o, qz0p, qz0q, qz0r, qz0s, qz0t, qz0u, qz0v, qz0w, qz0x, qz0y, qz0z, qz10, qz11, qz12, qz13, qz14, qz15, qz16, qz17, qz18, qz19, qz1a, qz1b, qz1c, qz1d, qz1e, qz1f, qz1g, qz1h, qz1i, qz1j, qz1k, qz1l, qz1m, qz1n, qz1o, qz1p, qz1q, qz1r, qz1s, qz1t, qz1u, qz1v, qz1w, qz1x, qz1y, qz1z, qz20, qz21, qz22, qz23, qz24, qz25, qz26, qz27, qz28, qz29, qz2a, qz2b, qz2c, qz2d, qz2e, qz2f, qz2g, qz2h, qz2i, qz2j, qz2k, qz2l, qz2m, qz2n, qz2o, qz2p, qz2q, qz2r, qz2s, qz2t, qz2u, qz2v, qz2w, qz2x, qz2y, qz2z, qz30, qz31, qz32, qz33, qz34, qz35, qz36, qz37, qz38, qz39, qz3a, qz3b, qz3c, qz3d, Bool.not_true, Bool.not_false, List.cons_append, List.nil_append, List.append_nil]
      refine Equal_num hb t12 hG12 hok12 (by omega) (by omega) V12 Va _ fun x13 p13 ex13 G13 s13 B E13 => ?_
      have B := B.back hfr12
      have C2 := C2.aft B
      have CK := CK.aft B
      have V11 := V11.aft B
      have E10 := E10.aft B
      have hin13 := Ins_aft hin12 B
      generalize back t12 s13 = t13 at B C2 CK V11
      have hfr13 := B.fr
      have hl13 := B.len
      have hG13 := B.gm
      have hok13 := B.ok
      clear B
      obtain ⟨⟨q0, q1, q2⟩, r0, r1, r2⟩ := C2.three
      simp (disch := first | assumption | decide | omega) only [qz3e, qz3f, qz3g, qz3h, qz3i, qz3j, eX0, eX1, eX2, r0, qz00, qz01, qz02, qz03, qz04, qz05, qz06, qz07, qz08, qz09, qz0a, qz0b, qz0c, qz0d, qz0e, qz0f, qz0g, qz0h, qz0i, qz0j, qz0k, qz0l, qz0m, qz0n, qz0o, qz0p, qz0q, qz0r, qz0s, qz0t, qz0u, qz0v, qz0w, qz0x, qz0y, qz0z, qz10, qz11, qz12, qz13, qz14, qz15, qz16, qz17, qz18, qz19, qz1a, qz1b, qz1c, qz1d, qz1e, qz1f, qz1g, qz1h, qz1i, qz1j, qz1k, qz1l, qz1m, qz1n, qz1o, qz1p, qz1q, qz1r, qz1s, qz1t, qz1u, qz1v, qz1w, qz1x, qz1y, qz1z, qz20, qz21, qz22, qz23, qz24, qz25, qz26, qz27, qz28, qz29, qz2a, qz2b, qz2c, qz2d, qz2e, qz2f, qz2g, qz2h, qz2i, qz2j, qz2k, qz2l, qz2m, qz2n, qz2o, qz2p, qz2q, qz2r, qz2s, qz2t, qz2u, qz2v, qz2w, qz2x, qz2y, qz2z, qz30, qz31, qz32, qz33, qz34, qz35, qz36, qz37, qz38, qz39, qz3a, qz3b, qz3c, qz3d, Bool.not_true, Bool.not_false, List.cons_append, List.nil_append, List.append_nil]
      refine Bits_ok (fun f a s hf => hb _ a s (by rcases hf with rfl | rfl <;> decide)) (w := n0) (by omega) (by omega) t13 _ fun d1 s14 e14 hd1 B1 => ?_
      have k14 : Kept t13 (back t13 s14) := ⟨e14.nx, rfl, e14.keep⟩
      have B1 : Bl (back t13 s14) d1 n0 (bitN v0 n0) := ⟨B1.lt, B1.len, B1.cell⟩
      have CK := CK.ext k14
      have V11 := V11.ext k14
      have hG14 := hG13.keep k14.keep k14.nx
      generalize back t13 s14 = t14 at B1 CK V11 hG14
      have hfr14 := CK.kept.fr
      have VV : Vl t14 (.slice d1 0 n0 n0 1 false) n0 (bitN v0 n0) := .inr ⟨d1, 0, _, _, rfl, B1.lt, by rw [B1.len]; omega, fun i hi => by rw [Nat.zero_add]; exact B1.cell i hi⟩
      simp (disch := first | assumption | decide | omega) only [qz3e, qz3f, qz3g, qz3h, qz3i, qz3j, i_buildS2, qz00, qz01, qz02, qz03, qz04, qz05, qz06, qz07, qz08, qz09, qz0a, qz0b, qz0c, qz0d, qz0e, qz0f, qz0g, qz0h, qz0i, qz0j, qz0k, qz0l, qz0m, qz0n, qz0o, qz0p, qz0q, qz0r, qz0s, qz0t, qz0u, qz0v, qz0w, qz0x, qz0y, qz0z, qz10, qz11, qz12, qz13, qz14, qz15, qz16, qz17, qz18, qz19, qz1a, qz1b, qz1c, qz1d, qz1e, qz1f, qz1g, qz1h, qz1i, qz1j, qz1k, qz1l, qz1m, qz1n, qz1o, qz1p, qz1q, qz1r, qz1s, qz1t, qz1u, qz1v, qz1w, qz1x, qz1y, qz1z, qz20, qz21, qz22, qz23, qz24, qz25, qz26, qz27, qz28, qz29, qz2a, qz2b, qz2c, qz2d, qz2e, qz2f, qz2g, qz2h, qz2i, qz2j, qz2k, qz2l, qz2m, qz2n, qz2o, qz2p, qz2q, qz2r, qz2s, qz2t, qz2u, qz2v, qz2w, qz2x, qz2y, qz2z, qz30, qz31, qz32, qz33, qz34, qz35, qz36, qz37, qz38, qz39, qz3a, qz3b, qz3c, qz3d, Bool.not_true, Bool.not_false, List.cons_append, List.nil_append, List.append_nil]
      refine o_buildS2 ⟨rfl, rfl, rfl⟩ ⟨rfl, rfl, rfl⟩ fun s15 m15 => ?_
      have k15 : Kept t14 s15 := (Kept.refl _).made m15
      have CK := CK.ext k15
      have V11 := V11.ext k15
      have VV := VV.keep k15.keep k15.nx
      have hG15 := hG14.keep k15.keep k15.nx
      have hR : Row s15 t14.nx 0 2 (two x10 x13) := (ed2 (own := fun _ => False) m15 (fun _ h => h.elim)).row
      have hfr15 := CK.kept.fr
      simp (disch := first | assumption | decide | omega) only [qz3e, qz3f, qz3g, qz3h, qz3i, qz3j, qz00, qz01, qz02, qz03, qz04, qz05, qz06, qz07, qz08, qz09, qz0a, qz0b, qz0c, qz0d, qz0e, qz0f, qz0g, qz0h, qz0i, qz0j, qz0k, qz0l, qz0m, qz0n, qz0o, qz0p, qz0q, qz0r, qz0s, qz0t, qz0u, qz0v, qz0w, qz0x, qz0y, qz0z, qz10, qz11, qz12, qz13, qz14, qz15, qz16, qz17, qz18, qz19, qz1a, qz1b, qz1c, qz1d, qz1e, qz1f, qz1g, qz1h, qz1i, qz1j, qz1k, qz1l, qz1m, qz1n, qz1o, qz1p, qz1q, qz1r, qz1s, qz1t, qz1u, qz1v, qz1w, qz1x, qz1y, qz1z, qz20, qz21, qz22, qz23, qz24, qz25, qz26, qz27, qz28, qz29, qz2a, qz2b, qz2c, qz2d, qz2e, qz2f, qz2g, qz2h, qz2i, qz2j, qz2k, qz2l, qz2m, qz2n, qz2o, qz2p, qz2q, qz2r, qz2s, qz2t, qz2u, qz2v, qz2w, qz2x, qz2y, qz2z, qz30, qz31, qz32, qz33, qz34, qz35, qz36, qz37, qz38, qz39, qz3a, qz3b, qz3c, qz3d, Bool.not_true, Bool.not_false, List.cons_append, List.nil_append, List.append_nil]
      refine EvalG_ok (fun f a s hf => hb _ a s (by intro h; subst h; simp at hf)) (by decide) (by omega) s15 hG15 hok13 (by rw [hin13.len]; omega) VV hR (fun i hi => has_two E10.1 E13.1 i) _ fun bo2 s16 e16 _ hbo hbl hbv => ?_
      have hi0 := inpR_0 hok13 n0 (bitN v0 n0) G13.inputs.length (Nat.le_refl _)
      have u0 : rat (back s15 s16).h bo2 (0 + 0 * 1) = .bool true := by
        refine (hbv 0 (by decide)).trans (congrArg AV.bool ((E10.2 _ hi0).trans ?_))
        show decide (_ * (_ + _) = _ * _ + _ * _) = true
        rw [Int.mul_add]
        exact decide_eq_true rfl
      have u1 : rat (back s15 s16).h bo2 (0 + 1 * 1) = .bool true := by
        refine (hbv 1 (by decide)).trans (congrArg AV.bool ((E13.2 _ hi0).trans ?_))
        show decide (_ * (1 : Int) = _) = true
        rw [Int.mul_one]
        exact decide_eq_true rfl
      have ul : rlen (back s15 s16).h bo2 = 2 := hbl
      have hblt : bo2 < (back s15 s16).nx := hbo
      have k16 : Kept s15 (back s15 s16) := ⟨e16.nx, rfl, e16.keep⟩
      have CK := CK.ext k16
      have V11 := V11.ext k16
      have VV := VV.keep k16.keep k16.nx
      have hG16 := hG15.keep k16.keep k16.nx
      generalize back s15 s16 = t16 at CK V11 VV hG16 u0 u1 ul hblt
      have hfr16 := CK.kept.fr
      simp (disch := first | assumption | decide | omega) only [qz3e, qz3f, qz3g, qz3h, qz3i, qz3j, qz00, qz01, qz02, qz03, qz04, qz05, qz06, qz07, qz08, qz09, qz0a, qz0b, qz0c, qz0d, qz0e, qz0f, qz0g, qz0h, qz0i, qz0j, qz0k, qz0l, qz0m, qz0n, qz0o, qz0p, qz0q, qz0r, qz0s, qz0t, qz0u, qz0v, qz0w, qz0x, qz0y, qz0z, qz10, qz11, qz12, qz13, qz14, qz15, qz16, qz17, qz18, qz19, qz1a, qz1b, qz1c, qz1d, qz1e, qz1f, qz1g, qz1h, qz1i, qz1j, qz1k, qz1l, qz1m, qz1n, qz1o, qz1p, qz1q, qz1r, qz1s, qz1t, qz1u, qz1v, qz1w, qz1x, qz1y, qz1z, qz20, qz21, qz22, qz23, qz24, qz25, qz26, qz27, qz28, qz29, qz2a, qz2b, qz2c, qz2d, qz2e, qz2f, qz2g, qz2h, qz2i, qz2j, qz2k, qz2l, qz2m, qz2n, qz2o, qz2p, qz2q, qz2r, qz2s, qz2t, qz2u, qz2v, qz2w, qz2x, qz2y, qz2z, qz30, qz31, qz32, qz33, qz34, qz35, qz36, qz37, qz38, qz39, qz3a, qz3b, qz3c, qz3d, Bool.not_true, Bool.not_false, List.cons_append, List.nil_append, List.append_nil]
      refine Number_num hb (by omega) (by omega) t16 hG16 hok13 (by rw [hin13.len]; omega) VV V11 _ fun s17 e17 => ?_
      have hz : ∀ y : Int, y - y = 0 := fun y => Int.sub_self y
      have k17 : Kept t16 (back t16 s17) := ⟨e17.nx, rfl, e17.keep⟩
      have CK := CK.ext k17
      have kb := k17.keep bo2 hblt
      rw [← rat_same kb] at u0 u1
      rw [← rlen_same kb] at ul
      generalize back t16 s17 = t17 at CK u0 u1 ul
      have ul0 : 0 + 0 * 1 < rlen t17.h bo2 := by omega
      have ul1 : 0 + 1 * 1 < rlen t17.h bo2 := by omega
      have eI0 : ∀ (s : Ev.St) (K : AV → Ev.St → Prop), onER (idxSV 1 (.slice bo2 0 2 2 1 true) (.int .i64 0) s) K = K (.ptr bo2 (0 + 0 * 1)) s := fun s K => qz39 (i := 0) (by decide) 1 .i64
      have eI1 : ∀ (s : Ev.St) (K : AV → Ev.St → Prop), onER (idxSV 1 (.slice bo2 0 2 2 1 true) (.int .i64 1) s) K = K (.ptr bo2 (0 + 1 * 1)) s := fun s K => qz39 (i := 1) (by decide) 1 .i64
      simp (disch := first | assumption | decide | omega) only [qz3e, qz3f, qz3g, qz3h, qz3i, qz3j, eI0, eI1, u0, u1, hz, qz00, qz01, qz02, qz03, qz04, qz05, qz06, qz07, qz08, qz09, qz0a, qz0b, qz0c, qz0d, qz0e, qz0f, qz0g, qz0h, qz0i, qz0j, qz0k, qz0l, qz0m, qz0n, qz0o, qz0p, qz0q, qz0r, qz0s, qz0t, qz0u, qz0v, qz0w, qz0x, qz0y, qz0z, qz10, qz11, qz12, qz13, qz14, qz15, qz16, qz17, qz18, qz19, qz1a, qz1b, qz1c, qz1d, qz1e, qz1f, qz1g, qz1h, qz1i, qz1j, qz1k, qz1l, qz1m, qz1n, qz1o, qz1p, qz1q, qz1r, qz1s, qz1t, qz1u, qz1v, qz1w, qz1x, qz1y, qz1z, qz20, qz21, qz22, qz23, qz24, qz25, qz26, qz27, qz28, qz29, qz2a, qz2b, qz2c, qz2d, qz2e, qz2f, qz2g, qz2h, qz2i, qz2j, qz2k, qz2l, qz2m, qz2n, qz2o, qz2p, qz2q, qz2r, qz2s, qz2t, qz2u, qz2v, qz2w, qz2x, qz2y, qz2z, qz30, qz31, qz32, qz33, qz34, qz35, qz36, qz37, qz38, qz39, qz3a, qz3b, qz3c, qz3d, Bool.not_true, Bool.not_false, List.cons_append, List.nil_append, List.append_nil]
      exact ⟨trivial, Ext.of st CK.kept⟩
end Go.Sy
end

namespace Go.Ev
open Go.ChangeShapes Go.WideShapes Go.ChangeAt Go.RowKit
section
variable {H : Type} {enc : TypeId × Value → H} {P : Program} {w : World} {base : Nat} {sp : Nat → Bool} {held : Bool}
/-- an array of three whole numbers, by value -/
theorem open_arr3 {r : Reach} {b0 : Nat} {t e : TypeId} {k : IntKind} {v : Value} {d : DataW H} {ps : List MemPlace} (ht : P.underlying t = some (.array 3 e)) (he : P.underlying e = some (.int k)) (hc : P.cellsOf e = 1) (hct : P.cellsOf t = 3)
    (hval : Value.okWide P w r b0 t v) (hd : DataW.Trod enc P w base sp held t v d ps) :
    ∃ x y z, v = .agg #[.int k x, .int k y, .int k z] ∧ d = .agg [.lit (.int k x), .lit (.int k y), .lit (.int k z)] ∧ ps = [] ∧ (Lit.int k x).wf = true ∧ (Lit.int k y).wf = true ∧ (Lit.int k z).wf = true := by
  simp only [Value.okWide, ht] at hval
  obtain ⟨cs, rfl, hsz, _⟩ := hval
  rw [hct] at hsz
  obtain ⟨fuel, hf⟩ := hd
  obtain ⟨xs, m, rfl, hx, hl, hn, hi⟩ := DataW.trod_array ht hf
  have h0 := hi 0 (by decide)
  have h1 := hi 1 (by decide)
  have h2 := hi 2 (by decide)
  rw [hc] at h0 h1 h2
  match xs, hn, h0, h1, h2, hx with
  | [a, b, c], _, h0, h1, h2, hx =>
    obtain ⟨x, e0, rfl, w0⟩ := DataW.trod_int he (show DataW.trod enc P w base sp held m e _ = some a from h0)
    obtain ⟨y, e1, rfl, w1⟩ := DataW.trod_int he (show DataW.trod enc P w base sp held m e _ = some b from h1)
    obtain ⟨z, e2, rfl, w2⟩ := DataW.trod_int he (show DataW.trod enc P w base sp held m e _ = some c from h2)
    obtain ⟨l⟩ := cs
    match l, hsz with
    | [c0, c1, c2], _ =>
      simp [Value.cells] at e0 e1 e2
      subst e0 e1 e2
      simp only [Prod.mk.injEq] at hx
      obtain ⟨rfl, rfl⟩ := hx
      exact ⟨x, y, z, rfl, rfl, rfl, w0, w1, w2⟩
theorem shut_arr3 {t e : TypeId} {k : IntKind} {x y z : Int} (ht : P.underlying t = some (.array 3 e)) (he : P.underlying e = some (.int k)) (hc : P.cellsOf e = 1) (hct : P.cellsOf t = 3) (hx : (Lit.int k x).wf = true) (hy : (Lit.int k y).wf = true) (hz : (Lit.int k z).wf = true) :
    DataW.Trod enc P w base sp held t (.agg #[.int k x, .int k y, .int k z]) (.agg [.lit (.int k x), .lit (.int k y), .lit (.int k z)]) [] :=
  ⟨2, by simp [DataW.trod, Value.cells, ht, he, hc, hct, hx, hy, hz, List.range, List.range.loop]⟩
end
end Go.Ev

section
set_option maxRecDepth 100000
namespace Go.Sy
open Go.Ev Go.Proofs
/-- what a call of the law does, at every input -/
theorem ring_calls (v0 v1 v2 wd : Int) (w : World) :
    Calls Try.prog 7 #[.agg #[.int .i64 v0, .int .i64 v1, .int .i64 v2], .int .i64 wd] w fun e w' => e = .returned (.bool true) ∧ w'.os = w.os ∧ w'.tape = w.tape ∧ w'.output = w.output ∧ w.heap.size ≤ w'.heap.size ∧ ∀ k, k < w.heap.size → w'.heap[k]? = w.heap[k]? := by
  have hs : Sim (fun _ => .unborn) st0.h st0.nx w :=
    ⟨fun b B S e => (by cases e), fun b e => (by cases e), fun b b' B S S' e => (by cases e), fun b e => absurd rfl e⟩
  have h := CW.calls try_okP (draw_ok try_mixed) base12_ok
    (ring_ok (base := base12) (fun f args st => base12_no f args st) (fun _ => rfl) v0 v1 v2 wd st0) (ι := fun _ => .unborn) (w := w) (vs := #[.agg #[.int .i64 v0, .int .i64 v1, .int .i64 v2], .int .i64 wd]) hs
    (by
      simp only [VRs, VR]
      exact ⟨_, _, rfl, ⟨_, rfl, _, _, rfl, rfl, _, _, rfl, rfl, _, _, rfl, rfl, rfl⟩, _, _, rfl, rfl, rfl⟩)
  refine Calls.mono h fun e w' ⟨v, x, st', he, hK, ι', _, hv, _, hg, _⟩ => ?_
  rw [hK.1] at hv
  simp only [VR] at hv
  rw [hv] at he
  exact ⟨he, hg.os, hg.tape, hg.output, hg.size, fun k hk => hg.keep k hk (fun b S e => by cases e)⟩
end Go.Sy
end
