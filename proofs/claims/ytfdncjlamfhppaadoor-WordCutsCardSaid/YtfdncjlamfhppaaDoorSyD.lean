/-
  Contracts: the code lowered, what it does told by rules, and the contracts of the functions that the law reaches.
-/
import Derived.Test.YtfdncjlamfhppaaDoorSyC
import Derived.Shelf.LaysC
import Derived.Shelf.Strconv.ParseIntPublic10
import Derived.Test.YtfdncjlamfhppaaDoorProg
import Derived.KernelRfl
set_option linter.unusedVariables false
set_option linter.unusedSimpArgs false
section
set_option maxRecDepth 100000
namespace Go.Sy
open Go.Ev Go.Proofs
variable {base : CallF}
theorem b_tok (l c : Int) (s : St) (K : AV → St → Prop) : onER (buildV [.int .i64 0, .str [], .int .i64 0, .int .i64 0, .int .i64 0] [((0, 1), .int .i64 5), ((3, 1), .int .i64 l), ((4, 1), .int .i64 c)] s) K = K (.agg [.int .i64 5, .str [], .int .i64 0, .int .i64 l, .int .i64 c]) s := by
  have : fillP [.int .i64 0, .str [], .int .i64 0, .int .i64 0, .int .i64 0] [((0, 1), .int .i64 5), ((3, 1), .int .i64 l), ((4, 1), .int .i64 c)] = some [.int .i64 5, .str [], .int .i64 0, .int .i64 l, .int .i64 c] := rfl
  simp only [buildV, this, onSome, onER]
theorem Ct.bare {s : St} {c a : Nat} {l : List Nat} {p : Nat × Nat} (h : Ct s c l a p) : Ct s.bare c l a p := ⟨h.lt, h.len, h.c0, h.c1, h.c2, h.c3⟩
theorem But.new {a s s' : St} {c b o : Nat} {v : AV} (h : But a s c) (w : Wrote s s' b o v) (hb : a.nx ≤ b) : But a s' c := ⟨by rw [w.nx]; exact h.nx, w.fr.trans h.fr, fun x hx hc => (w.keep x (by omega)).trans (h.keep x hx hc)⟩
theorem lead_run (p : Nat → Bool) : ∀ l : List Nat, ∀ c ∈ l.take (lead p l), p c = true
  | [], c, h => by simp at h
  | y :: l, c, h => by
    simp only [lead] at h
    by_cases hy : p y = true
    · rw [if_pos hy, List.take_succ_cons] at h
      rcases List.mem_cons.1 h with h | h
      · rw [h]; exact hy
      · exact lead_run p l c h
    · rw [if_neg hy] at h; simp at h
theorem lead_digits {x : Nat} {r : List Nat} (h : isDigit x = true) : digits ((x :: r).take (lead isDigit (x :: r))) := by
  refine ⟨?_, lead_run isDigit _⟩
  have : lead isDigit (x :: r) = lead isDigit r + 1 := by simp only [lead, if_pos h]
  rw [this, List.take_succ_cons]
  simp
theorem valN_acc (s : List Nat) : ∀ v, (∀ c ∈ s, isDigit c = true) → s.foldl (fun v c => 10 * v + (c - 48)) v + 1 ≤ (v + 1) * 10 ^ s.length := by
  induction s with
  | nil => exact fun v _ => by simp
  | cons c s ih =>
    intro v h
    have hc := h c (by simp)
    have hc9 : c - 48 ≤ 9 := by
      unfold isDigit at hc
      simp at hc
      omega
    have := ih (10 * v + (c - 48)) fun d hd => h d (by simp [hd])
    refine Nat.le_trans this ?_
    rw [List.length_cons, Nat.pow_succ, ← Nat.mul_assoc, Nat.mul_right_comm]
    exact Nat.mul_le_mul_right _ (by omega)
theorem valN_le {s : List Nat} {n : Nat} (hn : s.length = n) (h7 : n ≤ 7) (h : ∀ c ∈ s, isDigit c = true) : valN s ≤ 99999999 := by
  have := valN_acc s 0 h
  have e : 10 ^ s.length ≤ 10 ^ 7 := Nat.pow_le_pow_right (by decide) (by omega)
  have e7 : 10 ^ 7 = 10000000 := by decide
  unfold valN
  omega
theorem firstN_le (r : List Nat) : ∀ xs, firstN r xs ≤ r.length
  | [] => Nat.zero_le _
  | y :: xs => by
    show (if begins y r = true then y.length else firstN r xs) ≤ r.length
    by_cases h : begins y r = true
    · rw [if_pos h]
      rcases Nat.lt_or_ge r.length y.length with h2 | h2
      · rw [begins_len h2] at h; exact absurd h (by decide)
      · exact h2
    · rw [if_neg h]; exact firstN_le r xs
theorem signN_le (r : List Nat) : signN r ≤ r.length := firstN_le r _
theorem neqNil (s : St) (K : AV → St → Prop) : onER (genV Tryd.prog .neq 49 true .nilif .nilif s) K = K (.bool false) s := by
  have : genV Tryd.prog .neq 49 true .nilif .nilif s = .ok (.bool false) s := by kernel_rfl
  rw [this]; rfl
set_option maxHeartbeats 4000000 in
theorem next_ok (hb : ∀ f args st, f ∈ [12, 17, 23, 24, 25, 27, 29, 30, 32, 33, 36, 37] → base f args st = .no) (hP : PI base) {c a : Nat} {l : List Nat} {p : Nat × Nat} (st : St) (hC : Ct st c l a p) (ha : a ≤ l.length) (hl : l.length ≤ 536870912) (h256 : ∀ x ∈ l, x < 256) (hp1 : p.1 ≤ 1073741824) (hp2 : 1 ≤ p.2 ∧ p.2 ≤ 1073741824) (K : AV → St → Prop)
    (hK : ∀ e t n, nextM (l.drop a) p = (e, t, n) → ∀ st', But st.bare st' c → (e = 0 → Ct st' c l (a + n) (walkP p ((l.drop a).take n))) → K (.tup [.agg t.cells, .int .i64 (e : Int)]) st') : CW Tryd.prog base 17 [.ptr c 0] st K := by
  refine fn_rule l17 (hb _ _ _ (by simp)) ?_
  simp only [c17, entry, List.map_cons, List.map_nil, List.getD_cons_zero, List.getD_cons_succ]
  unfold b17
  simp (disch := first | decide | assumption | omega) only [qz00, qz01, qz02, qz03, qz04, qz05, qz06, qz07, qz08, qz09, qz0a, qz0b, qz0c, qz0d, qz0e, qz0f, qz0g, qz0h, qz0i, qz0j, qz0k, qz0l, qz0m, qz0n, qz0o, qz0p, qz0q, qz0r, qz0s, qz0t, qz0u, qz0v, qz0w, qz0x, qz0y, qz0z, qz10, qz11, qz12, qz13, qz14, qz15, qz16, qz17, qz18, qz19, qz1a, qz1b, qz1c, qz1d, qz1e, qz1f, qz1g, qz1h, qz1i, qz1j, qz1k, qz1l, qz1m, qz1n, qz1o, qz1p, qz1q, qz1r, qz1s, qz1t, qz1u, qz1v, qz1w, qz1x, qz1y, qz1z, qz20, qz21, qz22, qz23, qz24, qz25, qz26, qz27, qz28, qz29, qz2a, qz2b, qz2c, qz2d, qz2e, qz2f, qz2g, qz2h, qz2i, qz2j, qz2k, qz2l, qz2m, qz2n, qz2o, qz2p, qz2q, qz2r, qz2s, qz2t, qz2u, qz2v, qz2w, qz2x, qz2y, qz2z, qz30, qz31, qz32, qz33, qz34, qz35, qz36, qz37, qz38, qz39, qz3a, qz3b, qz3c, qz3d, Bool.not_true, Bool.not_false, List.cons_append, List.nil_append, List.append_nil]
  refine o_new fun s1 m1 => ?_
  have n1 : s1.nx = st.nx + 1 := m1.nx
  have kc1 : hget s1.h c = hget st.h c := m1.keep c (by have := hC.lt; show c ≠ st.nx; omega)
  have C1 : Ct s1 c l a p := hC.keep (by omega) kc1
  have T1 : rlen s1.h st.nx = 5 := m1.len
  have k1 : Kept st.bare s1 := (Kept.refl _).made m1
  have g0 : 0 < rlen s1.h c := by rw [C1.len]; decide
  have g1 : 1 < rlen s1.h c := by rw [C1.len]; decide
  have g2 : 2 < rlen s1.h c := by rw [C1.len]; decide
  have g3 : 3 < rlen s1.h c := by rw [C1.len]; decide
  have eS := fun (s : St) (K : AV → St → Prop) => v_sl1 (st := s) (K := K) ha .i64
  have hst : st.bare.nx = st.nx := rfl
  rw [hst]
  simp (disch := first | decide | assumption | omega) only [C1.c0, C1.c1, C1.c2, C1.c3, eS, Nat.zero_add, i_build3, b_tok, qz00, qz01, qz02, qz03, qz04, qz05, qz06, qz07, qz08, qz09, qz0a, qz0b, qz0c, qz0d, qz0e, qz0f, qz0g, qz0h, qz0i, qz0j, qz0k, qz0l, qz0m, qz0n, qz0o, qz0p, qz0q, qz0r, qz0s, qz0t, qz0u, qz0v, qz0w, qz0x, qz0y, qz0z, qz10, qz11, qz12, qz13, qz14, qz15, qz16, qz17, qz18, qz19, qz1a, qz1b, qz1c, qz1d, qz1e, qz1f, qz1g, qz1h, qz1i, qz1j, qz1k, qz1l, qz1m, qz1n, qz1o, qz1p, qz1q, qz1r, qz1s, qz1t, qz1u, qz1v, qz1w, qz1x, qz1y, qz1z, qz20, qz21, qz22, qz23, qz24, qz25, qz26, qz27, qz28, qz29, qz2a, qz2b, qz2c, qz2d, qz2e, qz2f, qz2g, qz2h, qz2i, qz2j, qz2k, qz2l, qz2m, qz2n, qz2o, qz2p, qz2q, qz2r, qz2s, qz2t, qz2u, qz2v, qz2w, qz2x, qz2y, qz2z, qz30, qz31, qz32, qz33, qz34, qz35, qz36, qz37, qz38, qz39, qz3a, qz3b, qz3c, qz3d, Bool.not_true, Bool.not_false, List.cons_append, List.nil_append, List.append_nil]
  refine o_new fun s2 m2 => ?_
  have n2 : s2.nx = s1.nx + 1 := m2.nx
  have k2 := k1.made m2
  have l2 : rlen s2.h s1.nx = 5 := m2.len
  simp (disch := first | decide | assumption | omega) only [qz00, qz01, qz02, qz03, qz04, qz05, qz06, qz07, qz08, qz09, qz0a, qz0b, qz0c, qz0d, qz0e, qz0f, qz0g, qz0h, qz0i, qz0j, qz0k, qz0l, qz0m, qz0n, qz0o, qz0p, qz0q, qz0r, qz0s, qz0t, qz0u, qz0v, qz0w, qz0x, qz0y, qz0z, qz10, qz11, qz12, qz13, qz14, qz15, qz16, qz17, qz18, qz19, qz1a, qz1b, qz1c, qz1d, qz1e, qz1f, qz1g, qz1h, qz1i, qz1j, qz1k, qz1l, qz1m, qz1n, qz1o, qz1p, qz1q, qz1r, qz1s, qz1t, qz1u, qz1v, qz1w, qz1x, qz1y, qz1z, qz20, qz21, qz22, qz23, qz24, qz25, qz26, qz27, qz28, qz29, qz2a, qz2b, qz2c, qz2d, qz2e, qz2f, qz2g, qz2h, qz2i, qz2j, qz2k, qz2l, qz2m, qz2n, qz2o, qz2p, qz2q, qz2r, qz2s, qz2t, qz2u, qz2v, qz2w, qz2x, qz2y, qz2z, qz30, qz31, qz32, qz33, qz34, qz35, qz36, qz37, qz38, qz39, qz3a, qz3b, qz3c, qz3d, Bool.not_true, Bool.not_false, List.cons_append, List.nil_append, List.append_nil]
  refine o_stT (t := ⟨5, [], 0, p.1, p.2⟩) l2 (by omega) fun s3 w1 w2 w3 T => ?_
  have k3 : Kept st.bare s3 := ⟨by have := k2.nx; omega, w2.trans k2.fr, fun x hx => (w3 x (by have : x < st.nx := hx; omega)).trans (k2.keep x hx)⟩
  have C3 : Ct s3 c l a p := C1.keep (by omega) ((w3 c (by have := hC.lt; omega)).trans (m2.keep c (by have := hC.lt; omega)))
  have R3 : rlen s3.h st.nx = 5 := (rlen_same ((w3 st.nx (by omega)).trans (m2.keep st.nx (by omega)))).trans T1
  have hlt := hC.lt
  have hrl : (l.drop a).length = l.length - a := List.length_drop
  have hr256 : ∀ x ∈ l.drop a, x < 256 := fun x hx => h256 x (List.mem_of_mem_drop hx)
  generalize s1.nx = tb at T l2 n1 n2 w3
  have htb : st.nx < tb ∨ st.nx > tb := by omega
  have B3 : But st.bare s3 c := ⟨k3.nx, k3.fr, fun x hx _ => k3.keep x hx⟩
  have sfr : s3.fr = [] := B3.fr
  have fin : ∀ (t : Tk) (e n : Nat) (s s' : St), nextM (l.drop a) p = (e, t, n) → But st.bare s c → (e = 0 → Ct s c l (a + n) (walkP p ((l.drop a).take n))) → s'.nx = s.nx → (∀ x, x ≠ st.nx → hget s'.h x = hget s.h x) → K (.tup [.agg t.cells, .int .i64 (e : Int)]) s'.bare := fun t e n s s' hn B hc q1 q3 =>
    hK e t n hn s'.bare ⟨by show st.bare.nx ≤ s'.nx; rw [q1]; exact B.nx, rfl, fun x hx hc' => (q3 x (by have : x < st.nx := hx; omega)).trans (B.keep x hx hc')⟩ fun he => ((hc he).keep (s' := s') (by omega) (q3 c (by omega))).bare
  generalize hr : l.drop a = r at *
  simp (disch := first | decide | assumption | omega) only [qz00, qz01, qz02, qz03, qz04, qz05, qz06, qz07, qz08, qz09, qz0a, qz0b, qz0c, qz0d, qz0e, qz0f, qz0g, qz0h, qz0i, qz0j, qz0k, qz0l, qz0m, qz0n, qz0o, qz0p, qz0q, qz0r, qz0s, qz0t, qz0u, qz0v, qz0w, qz0x, qz0y, qz0z, qz10, qz11, qz12, qz13, qz14, qz15, qz16, qz17, qz18, qz19, qz1a, qz1b, qz1c, qz1d, qz1e, qz1f, qz1g, qz1h, qz1i, qz1j, qz1k, qz1l, qz1m, qz1n, qz1o, qz1p, qz1q, qz1r, qz1s, qz1t, qz1u, qz1v, qz1w, qz1x, qz1y, qz1z, qz20, qz21, qz22, qz23, qz24, qz25, qz26, qz27, qz28, qz29, qz2a, qz2b, qz2c, qz2d, qz2e, qz2f, qz2g, qz2h, qz2i, qz2j, qz2k, qz2l, qz2m, qz2n, qz2o, qz2p, qz2q, qz2r, qz2s, qz2t, qz2u, qz2v, qz2w, qz2x, qz2y, qz2z, qz30, qz31, qz32, qz33, qz34, qz35, qz36, qz37, qz38, qz39, qz3a, qz3b, qz3c, qz3d, Bool.not_true, Bool.not_false, List.cons_append, List.nil_append, List.append_nil]
  cases r with
  | nil =>
    simp (disch := first | decide | assumption | omega) only [T.ld, qz00, qz01, qz02, qz03, qz04, qz05, qz06, qz07, qz08, qz09, qz0a, qz0b, qz0c, qz0d, qz0e, qz0f, qz0g, qz0h, qz0i, qz0j, qz0k, qz0l, qz0m, qz0n, qz0o, qz0p, qz0q, qz0r, qz0s, qz0t, qz0u, qz0v, qz0w, qz0x, qz0y, qz0z, qz10, qz11, qz12, qz13, qz14, qz15, qz16, qz17, qz18, qz19, qz1a, qz1b, qz1c, qz1d, qz1e, qz1f, qz1g, qz1h, qz1i, qz1j, qz1k, qz1l, qz1m, qz1n, qz1o, qz1p, qz1q, qz1r, qz1s, qz1t, qz1u, qz1v, qz1w, qz1x, qz1y, qz1z, qz20, qz21, qz22, qz23, qz24, qz25, qz26, qz27, qz28, qz29, qz2a, qz2b, qz2c, qz2d, qz2e, qz2f, qz2g, qz2h, qz2i, qz2j, qz2k, qz2l, qz2m, qz2n, qz2o, qz2p, qz2q, qz2r, qz2s, qz2t, qz2u, qz2v, qz2w, qz2x, qz2y, qz2z, qz30, qz31, qz32, qz33, qz34, qz35, qz36, qz37, qz38, qz39, qz3a, qz3b, qz3c, qz3d, Bool.not_true, Bool.not_false, List.cons_append, List.nil_append, List.append_nil]
    refine o_stT R3 (by omega) fun s' q1 q2 q3 Q => ?_
    simp (disch := first | decide | assumption | omega) only [r_resA, Q.ld, qz00, qz01, qz02, qz03, qz04, qz05, qz06, qz07, qz08, qz09, qz0a, qz0b, qz0c, qz0d, qz0e, qz0f, qz0g, qz0h, qz0i, qz0j, qz0k, qz0l, qz0m, qz0n, qz0o, qz0p, qz0q, qz0r, qz0s, qz0t, qz0u, qz0v, qz0w, qz0x, qz0y, qz0z, qz10, qz11, qz12, qz13, qz14, qz15, qz16, qz17, qz18, qz19, qz1a, qz1b, qz1c, qz1d, qz1e, qz1f, qz1g, qz1h, qz1i, qz1j, qz1k, qz1l, qz1m, qz1n, qz1o, qz1p, qz1q, qz1r, qz1s, qz1t, qz1u, qz1v, qz1w, qz1x, qz1y, qz1z, qz20, qz21, qz22, qz23, qz24, qz25, qz26, qz27, qz28, qz29, qz2a, qz2b, qz2c, qz2d, qz2e, qz2f, qz2g, qz2h, qz2i, qz2j, qz2k, qz2l, qz2m, qz2n, qz2o, qz2p, qz2q, qz2r, qz2s, qz2t, qz2u, qz2v, qz2w, qz2x, qz2y, qz2z, qz30, qz31, qz32, qz33, qz34, qz35, qz36, qz37, qz38, qz39, qz3a, qz3b, qz3c, qz3d, Bool.not_true, Bool.not_false, List.cons_append, List.nil_append, List.append_nil]
    exact fin ⟨5, [], 0, p.1, p.2⟩ 0 0 s3 s' rfl B3 (fun _ => C3) q1 q3
  | cons x r' =>
    have e0 : 0 < (x :: r').length := by simp
    have hx256 : x < 256 := hr256 x (by simp)
    have hne : (x :: r') ≠ [] := by simp
    have hlr := lead_le
    simp (disch := first | decide | assumption | omega) only [List.getD_cons_zero, qz00, qz01, qz02, qz03, qz04, qz05, qz06, qz07, qz08, qz09, qz0a, qz0b, qz0c, qz0d, qz0e, qz0f, qz0g, qz0h, qz0i, qz0j, qz0k, qz0l, qz0m, qz0n, qz0o, qz0p, qz0q, qz0r, qz0s, qz0t, qz0u, qz0v, qz0w, qz0x, qz0y, qz0z, qz10, qz11, qz12, qz13, qz14, qz15, qz16, qz17, qz18, qz19, qz1a, qz1b, qz1c, qz1d, qz1e, qz1f, qz1g, qz1h, qz1i, qz1j, qz1k, qz1l, qz1m, qz1n, qz1o, qz1p, qz1q, qz1r, qz1s, qz1t, qz1u, qz1v, qz1w, qz1x, qz1y, qz1z, qz20, qz21, qz22, qz23, qz24, qz25, qz26, qz27, qz28, qz29, qz2a, qz2b, qz2c, qz2d, qz2e, qz2f, qz2g, qz2h, qz2i, qz2j, qz2k, qz2l, qz2m, qz2n, qz2o, qz2p, qz2q, qz2r, qz2s, qz2t, qz2u, qz2v, qz2w, qz2x, qz2y, qz2z, qz30, qz31, qz32, qz33, qz34, qz35, qz36, qz37, qz38, qz39, qz3a, qz3b, qz3c, qz3d, Bool.not_true, Bool.not_false, List.cons_append, List.nil_append, List.append_nil]
    refine letter_ok (fun a s => hb _ a s (by simp)) x s3 _ ?_
    cases hL : isLetter x with
    | true =>
      simp (disch := first | decide | assumption | omega) only [qz00, qz01, qz02, qz03, qz04, qz05, qz06, qz07, qz08, qz09, qz0a, qz0b, qz0c, qz0d, qz0e, qz0f, qz0g, qz0h, qz0i, qz0j, qz0k, qz0l, qz0m, qz0n, qz0o, qz0p, qz0q, qz0r, qz0s, qz0t, qz0u, qz0v, qz0w, qz0x, qz0y, qz0z, qz10, qz11, qz12, qz13, qz14, qz15, qz16, qz17, qz18, qz19, qz1a, qz1b, qz1c, qz1d, qz1e, qz1f, qz1g, qz1h, qz1i, qz1j, qz1k, qz1l, qz1m, qz1n, qz1o, qz1p, qz1q, qz1r, qz1s, qz1t, qz1u, qz1v, qz1w, qz1x, qz1y, qz1z, qz20, qz21, qz22, qz23, qz24, qz25, qz26, qz27, qz28, qz29, qz2a, qz2b, qz2c, qz2d, qz2e, qz2f, qz2g, qz2h, qz2i, qz2j, qz2k, qz2l, qz2m, qz2n, qz2o, qz2p, qz2q, qz2r, qz2s, qz2t, qz2u, qz2v, qz2w, qz2x, qz2y, qz2z, qz30, qz31, qz32, qz33, qz34, qz35, qz36, qz37, qz38, qz39, qz3a, qz3b, qz3c, qz3d, Bool.not_true, Bool.not_false, List.cons_append, List.nil_append, List.append_nil]
      refine run_ok (fun a s => hb _ a s (by simp)) _ (by omega) hr256 25 [] isInner (fun c st K hc hK => inner_ok (fun f a s hf => hb _ a s (by rcases hf with rfl | rfl | rfl <;> simp)) c st K hK) s3 _ ?_
      have hn := hlr isInner (x :: r')
      have hM : nextM (x :: r') p = if 32 < lead isInner (x :: r') then (132, ⟨1, [], 0, p.1, p.2⟩, 0) else (0, ⟨if kept ((x :: r').take (lead isInner (x :: r'))) = true then 4 else 1, (x :: r').take (lead isInner (x :: r')), 0, p.1, p.2⟩, lead isInner (x :: r')) := by
        show (if isLetter x = true then _ else _) = _
        rw [if_pos hL]
      generalize lead isInner (x :: r') = n at hn hM
      have t0 : 0 < rlen s3.h tb := by rw [T.len]; decide
      simp (disch := first | decide | assumption | omega) only [qz00, qz01, qz02, qz03, qz04, qz05, qz06, qz07, qz08, qz09, qz0a, qz0b, qz0c, qz0d, qz0e, qz0f, qz0g, qz0h, qz0i, qz0j, qz0k, qz0l, qz0m, qz0n, qz0o, qz0p, qz0q, qz0r, qz0s, qz0t, qz0u, qz0v, qz0w, qz0x, qz0y, qz0z, qz10, qz11, qz12, qz13, qz14, qz15, qz16, qz17, qz18, qz19, qz1a, qz1b, qz1c, qz1d, qz1e, qz1f, qz1g, qz1h, qz1i, qz1j, qz1k, qz1l, qz1m, qz1n, qz1o, qz1p, qz1q, qz1r, qz1s, qz1t, qz1u, qz1v, qz1w, qz1x, qz1y, qz1z, qz20, qz21, qz22, qz23, qz24, qz25, qz26, qz27, qz28, qz29, qz2a, qz2b, qz2c, qz2d, qz2e, qz2f, qz2g, qz2h, qz2i, qz2j, qz2k, qz2l, qz2m, qz2n, qz2o, qz2p, qz2q, qz2r, qz2s, qz2t, qz2u, qz2v, qz2w, qz2x, qz2y, qz2z, qz30, qz31, qz32, qz33, qz34, qz35, qz36, qz37, qz38, qz39, qz3a, qz3b, qz3c, qz3d, Bool.not_true, Bool.not_false, List.cons_append, List.nil_append, List.append_nil]
      refine o_st1 t0 ⟨rfl, rfl, rfl⟩ fun s4 m4 => ?_
      have T4 := T.put0 (k := 1) m4
      have B4 := B3.new m4 (by show st.nx ≤ tb; omega)
      have C4 := C3.keep (by rw [m4.nx]; exact Nat.le_refl _) (m4.keep c (by omega))
      have R4 := (rlen_same (m4.keep st.nx (by omega))).trans R3
      have n4 := m4.nx
      have s4fr : s4.fr = [] := B4.fr
      by_cases h32 : 32 < n
      · have h32' : (32 : Int) < (n : Int) := by omega
        rw [if_pos h32] at hM
        simp (disch := first | decide | assumption | omega) only [T4.ld, qz00, qz01, qz02, qz03, qz04, qz05, qz06, qz07, qz08, qz09, qz0a, qz0b, qz0c, qz0d, qz0e, qz0f, qz0g, qz0h, qz0i, qz0j, qz0k, qz0l, qz0m, qz0n, qz0o, qz0p, qz0q, qz0r, qz0s, qz0t, qz0u, qz0v, qz0w, qz0x, qz0y, qz0z, qz10, qz11, qz12, qz13, qz14, qz15, qz16, qz17, qz18, qz19, qz1a, qz1b, qz1c, qz1d, qz1e, qz1f, qz1g, qz1h, qz1i, qz1j, qz1k, qz1l, qz1m, qz1n, qz1o, qz1p, qz1q, qz1r, qz1s, qz1t, qz1u, qz1v, qz1w, qz1x, qz1y, qz1z, qz20, qz21, qz22, qz23, qz24, qz25, qz26, qz27, qz28, qz29, qz2a, qz2b, qz2c, qz2d, qz2e, qz2f, qz2g, qz2h, qz2i, qz2j, qz2k, qz2l, qz2m, qz2n, qz2o, qz2p, qz2q, qz2r, qz2s, qz2t, qz2u, qz2v, qz2w, qz2x, qz2y, qz2z, qz30, qz31, qz32, qz33, qz34, qz35, qz36, qz37, qz38, qz39, qz3a, qz3b, qz3c, qz3d, Bool.not_true, Bool.not_false, List.cons_append, List.nil_append, List.append_nil]
        refine o_stT R4 (by have := T4.lt; omega) fun s' q1 q2 q3 Q => ?_
        simp (disch := first | decide | assumption | omega) only [r_resA, Q.ld, qz00, qz01, qz02, qz03, qz04, qz05, qz06, qz07, qz08, qz09, qz0a, qz0b, qz0c, qz0d, qz0e, qz0f, qz0g, qz0h, qz0i, qz0j, qz0k, qz0l, qz0m, qz0n, qz0o, qz0p, qz0q, qz0r, qz0s, qz0t, qz0u, qz0v, qz0w, qz0x, qz0y, qz0z, qz10, qz11, qz12, qz13, qz14, qz15, qz16, qz17, qz18, qz19, qz1a, qz1b, qz1c, qz1d, qz1e, qz1f, qz1g, qz1h, qz1i, qz1j, qz1k, qz1l, qz1m, qz1n, qz1o, qz1p, qz1q, qz1r, qz1s, qz1t, qz1u, qz1v, qz1w, qz1x, qz1y, qz1z, qz20, qz21, qz22, qz23, qz24, qz25, qz26, qz27, qz28, qz29, qz2a, qz2b, qz2c, qz2d, qz2e, qz2f, qz2g, qz2h, qz2i, qz2j, qz2k, qz2l, qz2m, qz2n, qz2o, qz2p, qz2q, qz2r, qz2s, qz2t, qz2u, qz2v, qz2w, qz2x, qz2y, qz2z, qz30, qz31, qz32, qz33, qz34, qz35, qz36, qz37, qz38, qz39, qz3a, qz3b, qz3c, qz3d, Bool.not_true, Bool.not_false, List.cons_append, List.nil_append, List.append_nil]
        exact fin ⟨1, [], 0, p.1, p.2⟩ 132 0 s4 s' (by rw [hM]) B4 (fun h => absurd h (by decide)) q1 q3
      · have h32' : ¬ (32 : Int) < (n : Int) := by omega
        rw [if_neg h32] at hM
        have eT := fun (s : St) (K : AV → St → Prop) => v_sl2 (st := s) (K := K) (l := x :: r') (n := n) hn .i64
        simp (disch := first | decide | assumption | omega) only [eT, qz00, qz01, qz02, qz03, qz04, qz05, qz06, qz07, qz08, qz09, qz0a, qz0b, qz0c, qz0d, qz0e, qz0f, qz0g, qz0h, qz0i, qz0j, qz0k, qz0l, qz0m, qz0n, qz0o, qz0p, qz0q, qz0r, qz0s, qz0t, qz0u, qz0v, qz0w, qz0x, qz0y, qz0z, qz10, qz11, qz12, qz13, qz14, qz15, qz16, qz17, qz18, qz19, qz1a, qz1b, qz1c, qz1d, qz1e, qz1f, qz1g, qz1h, qz1i, qz1j, qz1k, qz1l, qz1m, qz1n, qz1o, qz1p, qz1q, qz1r, qz1s, qz1t, qz1u, qz1v, qz1w, qz1x, qz1y, qz1z, qz20, qz21, qz22, qz23, qz24, qz25, qz26, qz27, qz28, qz29, qz2a, qz2b, qz2c, qz2d, qz2e, qz2f, qz2g, qz2h, qz2i, qz2j, qz2k, qz2l, qz2m, qz2n, qz2o, qz2p, qz2q, qz2r, qz2s, qz2t, qz2u, qz2v, qz2w, qz2x, qz2y, qz2z, qz30, qz31, qz32, qz33, qz34, qz35, qz36, qz37, qz38, qz39, qz3a, qz3b, qz3c, qz3d, Bool.not_true, Bool.not_false, List.cons_append, List.nil_append, List.append_nil]
        refine Kept_ok (fun a s => hb _ a s (by simp)) _ s4 _ ?_
        cases hk : kept ((x :: r').take n) with
        | true =>
          rw [hk, if_pos rfl] at hM
          have t4 : 0 < rlen s4.h tb := by rw [T4.len]; decide
          simp (disch := first | decide | assumption | omega) only [qz00, qz01, qz02, qz03, qz04, qz05, qz06, qz07, qz08, qz09, qz0a, qz0b, qz0c, qz0d, qz0e, qz0f, qz0g, qz0h, qz0i, qz0j, qz0k, qz0l, qz0m, qz0n, qz0o, qz0p, qz0q, qz0r, qz0s, qz0t, qz0u, qz0v, qz0w, qz0x, qz0y, qz0z, qz10, qz11, qz12, qz13, qz14, qz15, qz16, qz17, qz18, qz19, qz1a, qz1b, qz1c, qz1d, qz1e, qz1f, qz1g, qz1h, qz1i, qz1j, qz1k, qz1l, qz1m, qz1n, qz1o, qz1p, qz1q, qz1r, qz1s, qz1t, qz1u, qz1v, qz1w, qz1x, qz1y, qz1z, qz20, qz21, qz22, qz23, qz24, qz25, qz26, qz27, qz28, qz29, qz2a, qz2b, qz2c, qz2d, qz2e, qz2f, qz2g, qz2h, qz2i, qz2j, qz2k, qz2l, qz2m, qz2n, qz2o, qz2p, qz2q, qz2r, qz2s, qz2t, qz2u, qz2v, qz2w, qz2x, qz2y, qz2z, qz30, qz31, qz32, qz33, qz34, qz35, qz36, qz37, qz38, qz39, qz3a, qz3b, qz3c, qz3d, Bool.not_true, Bool.not_false, List.cons_append, List.nil_append, List.append_nil]
          refine o_st1 t4 ⟨rfl, rfl, rfl⟩ fun s5 m5 => ?_
          have T5' := T4.put0 (k := 4) m5
          have B5 := B4.new m5 (by show st.nx ≤ tb; omega)
          have C5 := C4.keep (by rw [m5.nx]; exact Nat.le_refl _) (m5.keep c (by omega))
          have R5 := (rlen_same (m5.keep st.nx (by omega))).trans R4
          have s5fr : s5.fr = [] := B5.fr
          have n5 := m5.nx
          have u1 : 1 < rlen s5.h tb := by rw [T5'.len]; decide
          have eT := fun (s : St) (K : AV → St → Prop) => v_sl2 (st := s) (K := K) (l := x :: r') (n := n) hn .i64
          simp (disch := first | decide | assumption | omega) only [eT, Nat.zero_add, qz00, qz01, qz02, qz03, qz04, qz05, qz06, qz07, qz08, qz09, qz0a, qz0b, qz0c, qz0d, qz0e, qz0f, qz0g, qz0h, qz0i, qz0j, qz0k, qz0l, qz0m, qz0n, qz0o, qz0p, qz0q, qz0r, qz0s, qz0t, qz0u, qz0v, qz0w, qz0x, qz0y, qz0z, qz10, qz11, qz12, qz13, qz14, qz15, qz16, qz17, qz18, qz19, qz1a, qz1b, qz1c, qz1d, qz1e, qz1f, qz1g, qz1h, qz1i, qz1j, qz1k, qz1l, qz1m, qz1n, qz1o, qz1p, qz1q, qz1r, qz1s, qz1t, qz1u, qz1v, qz1w, qz1x, qz1y, qz1z, qz20, qz21, qz22, qz23, qz24, qz25, qz26, qz27, qz28, qz29, qz2a, qz2b, qz2c, qz2d, qz2e, qz2f, qz2g, qz2h, qz2i, qz2j, qz2k, qz2l, qz2m, qz2n, qz2o, qz2p, qz2q, qz2r, qz2s, qz2t, qz2u, qz2v, qz2w, qz2x, qz2y, qz2z, qz30, qz31, qz32, qz33, qz34, qz35, qz36, qz37, qz38, qz39, qz3a, qz3b, qz3c, qz3d, Bool.not_true, Bool.not_false, List.cons_append, List.nil_append, List.append_nil]
          refine o_st1 u1 ⟨rfl, rfl, rfl⟩ fun sA mA => ?_
          have TA := T5'.put1 mA
          have BA := B5.new mA (by show st.nx ≤ tb; omega)
          have CA := C5.keep (by rw [mA.nx]; exact Nat.le_refl _) (mA.keep c (by omega))
          have RA := (rlen_same (mA.keep st.nx (by omega))).trans R5
          have sAfr : sA.fr = [] := BA.fr
          have nA := mA.nx
          have TAlt := TA.lt
          simp (disch := first | decide | assumption | omega) only [qz00, qz01, qz02, qz03, qz04, qz05, qz06, qz07, qz08, qz09, qz0a, qz0b, qz0c, qz0d, qz0e, qz0f, qz0g, qz0h, qz0i, qz0j, qz0k, qz0l, qz0m, qz0n, qz0o, qz0p, qz0q, qz0r, qz0s, qz0t, qz0u, qz0v, qz0w, qz0x, qz0y, qz0z, qz10, qz11, qz12, qz13, qz14, qz15, qz16, qz17, qz18, qz19, qz1a, qz1b, qz1c, qz1d, qz1e, qz1f, qz1g, qz1h, qz1i, qz1j, qz1k, qz1l, qz1m, qz1n, qz1o, qz1p, qz1q, qz1r, qz1s, qz1t, qz1u, qz1v, qz1w, qz1x, qz1y, qz1z, qz20, qz21, qz22, qz23, qz24, qz25, qz26, qz27, qz28, qz29, qz2a, qz2b, qz2c, qz2d, qz2e, qz2f, qz2g, qz2h, qz2i, qz2j, qz2k, qz2l, qz2m, qz2n, qz2o, qz2p, qz2q, qz2r, qz2s, qz2t, qz2u, qz2v, qz2w, qz2x, qz2y, qz2z, qz30, qz31, qz32, qz33, qz34, qz35, qz36, qz37, qz38, qz39, qz3a, qz3b, qz3c, qz3d, Bool.not_true, Bool.not_false, List.cons_append, List.nil_append, List.append_nil]
          refine skip_ok (fun a s => hb _ a s (by simp)) sA CA (n := n) (by omega) (by omega) hp1 hp2 _ fun sB BB CB => ?_
          have BB' := BA.trans BB.back
          have CB' := CB.back (s := sA)
          have TB := TA.keep (s' := Go.Ev.back sA sB) BB.nx (BB.keep tb TAlt (by omega))
          have RB := (rlen_same (BB.keep st.nx (by show st.nx < sA.nx; omega) (by omega)) : rlen (Go.Ev.back sA sB).h st.nx = _).trans RA
          have nB : sA.nx ≤ (Go.Ev.back sA sB).nx := BB.nx
          generalize Go.Ev.back sA sB = sC at BB' CB' TB RB nB
          simp (disch := first | decide | assumption | omega) only [TB.ld, qz00, qz01, qz02, qz03, qz04, qz05, qz06, qz07, qz08, qz09, qz0a, qz0b, qz0c, qz0d, qz0e, qz0f, qz0g, qz0h, qz0i, qz0j, qz0k, qz0l, qz0m, qz0n, qz0o, qz0p, qz0q, qz0r, qz0s, qz0t, qz0u, qz0v, qz0w, qz0x, qz0y, qz0z, qz10, qz11, qz12, qz13, qz14, qz15, qz16, qz17, qz18, qz19, qz1a, qz1b, qz1c, qz1d, qz1e, qz1f, qz1g, qz1h, qz1i, qz1j, qz1k, qz1l, qz1m, qz1n, qz1o, qz1p, qz1q, qz1r, qz1s, qz1t, qz1u, qz1v, qz1w, qz1x, qz1y, qz1z, qz20, qz21, qz22, qz23, qz24, qz25, qz26, qz27, qz28, qz29, qz2a, qz2b, qz2c, qz2d, qz2e, qz2f, qz2g, qz2h, qz2i, qz2j, qz2k, qz2l, qz2m, qz2n, qz2o, qz2p, qz2q, qz2r, qz2s, qz2t, qz2u, qz2v, qz2w, qz2x, qz2y, qz2z, qz30, qz31, qz32, qz33, qz34, qz35, qz36, qz37, qz38, qz39, qz3a, qz3b, qz3c, qz3d, Bool.not_true, Bool.not_false, List.cons_append, List.nil_append, List.append_nil]
          refine o_stT RB (by omega) fun s' q1 q2 q3 Q => ?_
          simp (disch := first | decide | assumption | omega) only [r_resA, Q.ld, qz00, qz01, qz02, qz03, qz04, qz05, qz06, qz07, qz08, qz09, qz0a, qz0b, qz0c, qz0d, qz0e, qz0f, qz0g, qz0h, qz0i, qz0j, qz0k, qz0l, qz0m, qz0n, qz0o, qz0p, qz0q, qz0r, qz0s, qz0t, qz0u, qz0v, qz0w, qz0x, qz0y, qz0z, qz10, qz11, qz12, qz13, qz14, qz15, qz16, qz17, qz18, qz19, qz1a, qz1b, qz1c, qz1d, qz1e, qz1f, qz1g, qz1h, qz1i, qz1j, qz1k, qz1l, qz1m, qz1n, qz1o, qz1p, qz1q, qz1r, qz1s, qz1t, qz1u, qz1v, qz1w, qz1x, qz1y, qz1z, qz20, qz21, qz22, qz23, qz24, qz25, qz26, qz27, qz28, qz29, qz2a, qz2b, qz2c, qz2d, qz2e, qz2f, qz2g, qz2h, qz2i, qz2j, qz2k, qz2l, qz2m, qz2n, qz2o, qz2p, qz2q, qz2r, qz2s, qz2t, qz2u, qz2v, qz2w, qz2x, qz2y, qz2z, qz30, qz31, qz32, qz33, qz34, qz35, qz36, qz37, qz38, qz39, qz3a, qz3b, qz3c, qz3d, Bool.not_true, Bool.not_false, List.cons_append, List.nil_append, List.append_nil]
          exact fin ⟨4, (x :: r').take n, 0, p.1, p.2⟩ 0 n sC s' (by rw [hM]) BB' (fun _ => by rw [hr] at CB'; exact CB') q1 q3
        | false =>
          rw [hk, if_neg (by decide)] at hM
          have u1 : 1 < rlen s4.h tb := by rw [T4.len]; decide
          have eT := fun (s : St) (K : AV → St → Prop) => v_sl2 (st := s) (K := K) (l := x :: r') (n := n) hn .i64
          simp (disch := first | decide | assumption | omega) only [eT, Nat.zero_add, qz00, qz01, qz02, qz03, qz04, qz05, qz06, qz07, qz08, qz09, qz0a, qz0b, qz0c, qz0d, qz0e, qz0f, qz0g, qz0h, qz0i, qz0j, qz0k, qz0l, qz0m, qz0n, qz0o, qz0p, qz0q, qz0r, qz0s, qz0t, qz0u, qz0v, qz0w, qz0x, qz0y, qz0z, qz10, qz11, qz12, qz13, qz14, qz15, qz16, qz17, qz18, qz19, qz1a, qz1b, qz1c, qz1d, qz1e, qz1f, qz1g, qz1h, qz1i, qz1j, qz1k, qz1l, qz1m, qz1n, qz1o, qz1p, qz1q, qz1r, qz1s, qz1t, qz1u, qz1v, qz1w, qz1x, qz1y, qz1z, qz20, qz21, qz22, qz23, qz24, qz25, qz26, qz27, qz28, qz29, qz2a, qz2b, qz2c, qz2d, qz2e, qz2f, qz2g, qz2h, qz2i, qz2j, qz2k, qz2l, qz2m, qz2n, qz2o, qz2p, qz2q, qz2r, qz2s, qz2t, qz2u, qz2v, qz2w, qz2x, qz2y, qz2z, qz30, qz31, qz32, qz33, qz34, qz35, qz36, qz37, qz38, qz39, qz3a, qz3b, qz3c, qz3d, Bool.not_true, Bool.not_false, List.cons_append, List.nil_append, List.append_nil]
          refine o_st1 u1 ⟨rfl, rfl, rfl⟩ fun sA mA => ?_
          have TA := T4.put1 mA
          have BA := B4.new mA (by show st.nx ≤ tb; omega)
          have CA := C4.keep (by rw [mA.nx]; exact Nat.le_refl _) (mA.keep c (by omega))
          have RA := (rlen_same (mA.keep st.nx (by omega))).trans R4
          have sAfr : sA.fr = [] := BA.fr
          have nA := mA.nx
          have TAlt := TA.lt
          simp (disch := first | decide | assumption | omega) only [qz00, qz01, qz02, qz03, qz04, qz05, qz06, qz07, qz08, qz09, qz0a, qz0b, qz0c, qz0d, qz0e, qz0f, qz0g, qz0h, qz0i, qz0j, qz0k, qz0l, qz0m, qz0n, qz0o, qz0p, qz0q, qz0r, qz0s, qz0t, qz0u, qz0v, qz0w, qz0x, qz0y, qz0z, qz10, qz11, qz12, qz13, qz14, qz15, qz16, qz17, qz18, qz19, qz1a, qz1b, qz1c, qz1d, qz1e, qz1f, qz1g, qz1h, qz1i, qz1j, qz1k, qz1l, qz1m, qz1n, qz1o, qz1p, qz1q, qz1r, qz1s, qz1t, qz1u, qz1v, qz1w, qz1x, qz1y, qz1z, qz20, qz21, qz22, qz23, qz24, qz25, qz26, qz27, qz28, qz29, qz2a, qz2b, qz2c, qz2d, qz2e, qz2f, qz2g, qz2h, qz2i, qz2j, qz2k, qz2l, qz2m, qz2n, qz2o, qz2p, qz2q, qz2r, qz2s, qz2t, qz2u, qz2v, qz2w, qz2x, qz2y, qz2z, qz30, qz31, qz32, qz33, qz34, qz35, qz36, qz37, qz38, qz39, qz3a, qz3b, qz3c, qz3d, Bool.not_true, Bool.not_false, List.cons_append, List.nil_append, List.append_nil]
          refine skip_ok (fun a s => hb _ a s (by simp)) sA CA (n := n) (by omega) (by omega) hp1 hp2 _ fun sB BB CB => ?_
          have BB' := BA.trans BB.back
          have CB' := CB.back (s := sA)
          have TB := TA.keep (s' := Go.Ev.back sA sB) BB.nx (BB.keep tb TAlt (by omega))
          have RB := (rlen_same (BB.keep st.nx (by show st.nx < sA.nx; omega) (by omega)) : rlen (Go.Ev.back sA sB).h st.nx = _).trans RA
          have nB : sA.nx ≤ (Go.Ev.back sA sB).nx := BB.nx
          generalize Go.Ev.back sA sB = sC at BB' CB' TB RB nB
          simp (disch := first | decide | assumption | omega) only [TB.ld, qz00, qz01, qz02, qz03, qz04, qz05, qz06, qz07, qz08, qz09, qz0a, qz0b, qz0c, qz0d, qz0e, qz0f, qz0g, qz0h, qz0i, qz0j, qz0k, qz0l, qz0m, qz0n, qz0o, qz0p, qz0q, qz0r, qz0s, qz0t, qz0u, qz0v, qz0w, qz0x, qz0y, qz0z, qz10, qz11, qz12, qz13, qz14, qz15, qz16, qz17, qz18, qz19, qz1a, qz1b, qz1c, qz1d, qz1e, qz1f, qz1g, qz1h, qz1i, qz1j, qz1k, qz1l, qz1m, qz1n, qz1o, qz1p, qz1q, qz1r, qz1s, qz1t, qz1u, qz1v, qz1w, qz1x, qz1y, qz1z, qz20, qz21, qz22, qz23, qz24, qz25, qz26, qz27, qz28, qz29, qz2a, qz2b, qz2c, qz2d, qz2e, qz2f, qz2g, qz2h, qz2i, qz2j, qz2k, qz2l, qz2m, qz2n, qz2o, qz2p, qz2q, qz2r, qz2s, qz2t, qz2u, qz2v, qz2w, qz2x, qz2y, qz2z, qz30, qz31, qz32, qz33, qz34, qz35, qz36, qz37, qz38, qz39, qz3a, qz3b, qz3c, qz3d, Bool.not_true, Bool.not_false, List.cons_append, List.nil_append, List.append_nil]
          refine o_stT RB (by omega) fun s' q1 q2 q3 Q => ?_
          simp (disch := first | decide | assumption | omega) only [r_resA, Q.ld, qz00, qz01, qz02, qz03, qz04, qz05, qz06, qz07, qz08, qz09, qz0a, qz0b, qz0c, qz0d, qz0e, qz0f, qz0g, qz0h, qz0i, qz0j, qz0k, qz0l, qz0m, qz0n, qz0o, qz0p, qz0q, qz0r, qz0s, qz0t, qz0u, qz0v, qz0w, qz0x, qz0y, qz0z, qz10, qz11, qz12, qz13, qz14, qz15, qz16, qz17, qz18, qz19, qz1a, qz1b, qz1c, qz1d, qz1e, qz1f, qz1g, qz1h, qz1i, qz1j, qz1k, qz1l, qz1m, qz1n, qz1o, qz1p, qz1q, qz1r, qz1s, qz1t, qz1u, qz1v, qz1w, qz1x, qz1y, qz1z, qz20, qz21, qz22, qz23, qz24, qz25, qz26, qz27, qz28, qz29, qz2a, qz2b, qz2c, qz2d, qz2e, qz2f, qz2g, qz2h, qz2i, qz2j, qz2k, qz2l, qz2m, qz2n, qz2o, qz2p, qz2q, qz2r, qz2s, qz2t, qz2u, qz2v, qz2w, qz2x, qz2y, qz2z, qz30, qz31, qz32, qz33, qz34, qz35, qz36, qz37, qz38, qz39, qz3a, qz3b, qz3c, qz3d, Bool.not_true, Bool.not_false, List.cons_append, List.nil_append, List.append_nil]
          exact fin ⟨1, (x :: r').take n, 0, p.1, p.2⟩ 0 n sC s' (by rw [hM]) BB' (fun _ => by rw [hr] at CB'; exact CB') q1 q3
    | false =>
      simp (disch := first | decide | assumption | omega) only [List.getD_cons_zero, qz00, qz01, qz02, qz03, qz04, qz05, qz06, qz07, qz08, qz09, qz0a, qz0b, qz0c, qz0d, qz0e, qz0f, qz0g, qz0h, qz0i, qz0j, qz0k, qz0l, qz0m, qz0n, qz0o, qz0p, qz0q, qz0r, qz0s, qz0t, qz0u, qz0v, qz0w, qz0x, qz0y, qz0z, qz10, qz11, qz12, qz13, qz14, qz15, qz16, qz17, qz18, qz19, qz1a, qz1b, qz1c, qz1d, qz1e, qz1f, qz1g, qz1h, qz1i, qz1j, qz1k, qz1l, qz1m, qz1n, qz1o, qz1p, qz1q, qz1r, qz1s, qz1t, qz1u, qz1v, qz1w, qz1x, qz1y, qz1z, qz20, qz21, qz22, qz23, qz24, qz25, qz26, qz27, qz28, qz29, qz2a, qz2b, qz2c, qz2d, qz2e, qz2f, qz2g, qz2h, qz2i, qz2j, qz2k, qz2l, qz2m, qz2n, qz2o, qz2p, qz2q, qz2r, qz2s, qz2t, qz2u, qz2v, qz2w, qz2x, qz2y, qz2z, qz30, qz31, qz32, qz33, qz34, qz35, qz36, qz37, qz38, qz39, qz3a, qz3b, qz3c, qz3d, Bool.not_true, Bool.not_false, List.cons_append, List.nil_append, List.append_nil]
      refine digit_ok (fun a s => hb _ a s (by simp)) x s3 _ ?_
      cases hD : isDigit x with
      | true =>
        simp (disch := first | decide | assumption | omega) only [qz00, qz01, qz02, qz03, qz04, qz05, qz06, qz07, qz08, qz09, qz0a, qz0b, qz0c, qz0d, qz0e, qz0f, qz0g, qz0h, qz0i, qz0j, qz0k, qz0l, qz0m, qz0n, qz0o, qz0p, qz0q, qz0r, qz0s, qz0t, qz0u, qz0v, qz0w, qz0x, qz0y, qz0z, qz10, qz11, qz12, qz13, qz14, qz15, qz16, qz17, qz18, qz19, qz1a, qz1b, qz1c, qz1d, qz1e, qz1f, qz1g, qz1h, qz1i, qz1j, qz1k, qz1l, qz1m, qz1n, qz1o, qz1p, qz1q, qz1r, qz1s, qz1t, qz1u, qz1v, qz1w, qz1x, qz1y, qz1z, qz20, qz21, qz22, qz23, qz24, qz25, qz26, qz27, qz28, qz29, qz2a, qz2b, qz2c, qz2d, qz2e, qz2f, qz2g, qz2h, qz2i, qz2j, qz2k, qz2l, qz2m, qz2n, qz2o, qz2p, qz2q, qz2r, qz2s, qz2t, qz2u, qz2v, qz2w, qz2x, qz2y, qz2z, qz30, qz31, qz32, qz33, qz34, qz35, qz36, qz37, qz38, qz39, qz3a, qz3b, qz3c, qz3d, Bool.not_true, Bool.not_false, List.cons_append, List.nil_append, List.append_nil]
        refine run_ok (fun a s => hb _ a s (by simp)) _ (by omega) hr256 30 [] isDigit (fun c st K hc hK => digit_ok (fun a s => hb _ a s (by simp)) c st K hK) s3 _ ?_
        have hn := hlr isDigit (x :: r')
        have hM : nextM (x :: r') p = if 7 < lead isDigit (x :: r') ∨ 1000000 < valN ((x :: r').take (lead isDigit (x :: r'))) then (132, ⟨2, [], 0, p.1, p.2⟩, 0) else (0, ⟨2, (x :: r').take (lead isDigit (x :: r')), valN ((x :: r').take (lead isDigit (x :: r'))), p.1, p.2⟩, lead isDigit (x :: r')) := by
          show (if isLetter x = true then _ else if isDigit x = true then _ else _) = _
          rw [if_neg (by rw [hL]; decide), if_pos hD]
        have hdig : digits ((x :: r').take (lead isDigit (x :: r'))) := lead_digits hD
        generalize lead isDigit (x :: r') = n at hn hM hdig
        have htl : ((x :: r').take n).length = n := by rw [List.length_take]; omega
        have t0 : 0 < rlen s3.h tb := by rw [T.len]; decide
        simp (disch := first | decide | assumption | omega) only [qz00, qz01, qz02, qz03, qz04, qz05, qz06, qz07, qz08, qz09, qz0a, qz0b, qz0c, qz0d, qz0e, qz0f, qz0g, qz0h, qz0i, qz0j, qz0k, qz0l, qz0m, qz0n, qz0o, qz0p, qz0q, qz0r, qz0s, qz0t, qz0u, qz0v, qz0w, qz0x, qz0y, qz0z, qz10, qz11, qz12, qz13, qz14, qz15, qz16, qz17, qz18, qz19, qz1a, qz1b, qz1c, qz1d, qz1e, qz1f, qz1g, qz1h, qz1i, qz1j, qz1k, qz1l, qz1m, qz1n, qz1o, qz1p, qz1q, qz1r, qz1s, qz1t, qz1u, qz1v, qz1w, qz1x, qz1y, qz1z, qz20, qz21, qz22, qz23, qz24, qz25, qz26, qz27, qz28, qz29, qz2a, qz2b, qz2c, qz2d, qz2e, qz2f, qz2g, qz2h, qz2i, qz2j, qz2k, qz2l, qz2m, qz2n, qz2o, qz2p, qz2q, qz2r, qz2s, qz2t, qz2u, qz2v, qz2w, qz2x, qz2y, qz2z, qz30, qz31, qz32, qz33, qz34, qz35, qz36, qz37, qz38, qz39, qz3a, qz3b, qz3c, qz3d, Bool.not_true, Bool.not_false, List.cons_append, List.nil_append, List.append_nil]
        refine o_st1 t0 ⟨rfl, rfl, rfl⟩ fun s4 m4 => ?_
        have T4 := T.put0 (k := 2) m4
        have B4 := B3.new m4 (by show st.nx ≤ tb; omega)
        have C4 := C3.keep (by rw [m4.nx]; exact Nat.le_refl _) (m4.keep c (by omega))
        have R4 := (rlen_same (m4.keep st.nx (by omega))).trans R3
        have n4 := m4.nx
        have s4fr : s4.fr = [] := B4.fr
        have hPs := hP _ s4 hdig (by omega)
        rw [htl] at hPs
        have eT := fun (s : St) (K : AV → St → Prop) => v_sl2 (st := s) (K := K) (l := x :: r') (n := n) hn .i64
        by_cases h7 : 7 < n
        · have h7' : (7 : Int) < (n : Int) := by omega
          rw [if_pos (.inl h7)] at hM
          simp (disch := first | decide | assumption | omega) only [eT, qz00, qz01, qz02, qz03, qz04, qz05, qz06, qz07, qz08, qz09, qz0a, qz0b, qz0c, qz0d, qz0e, qz0f, qz0g, qz0h, qz0i, qz0j, qz0k, qz0l, qz0m, qz0n, qz0o, qz0p, qz0q, qz0r, qz0s, qz0t, qz0u, qz0v, qz0w, qz0x, qz0y, qz0z, qz10, qz11, qz12, qz13, qz14, qz15, qz16, qz17, qz18, qz19, qz1a, qz1b, qz1c, qz1d, qz1e, qz1f, qz1g, qz1h, qz1i, qz1j, qz1k, qz1l, qz1m, qz1n, qz1o, qz1p, qz1q, qz1r, qz1s, qz1t, qz1u, qz1v, qz1w, qz1x, qz1y, qz1z, qz20, qz21, qz22, qz23, qz24, qz25, qz26, qz27, qz28, qz29, qz2a, qz2b, qz2c, qz2d, qz2e, qz2f, qz2g, qz2h, qz2i, qz2j, qz2k, qz2l, qz2m, qz2n, qz2o, qz2p, qz2q, qz2r, qz2s, qz2t, qz2u, qz2v, qz2w, qz2x, qz2y, qz2z, qz30, qz31, qz32, qz33, qz34, qz35, qz36, qz37, qz38, qz39, qz3a, qz3b, qz3c, qz3d, Bool.not_true, Bool.not_false, List.cons_append, List.nil_append, List.append_nil]
          refine base_rule (hPs.2 h7) ?_
          simp (disch := first | decide | assumption | omega) only [qz00, qz01, qz02, qz03, qz04, qz05, qz06, qz07, qz08, qz09, qz0a, qz0b, qz0c, qz0d, qz0e, qz0f, qz0g, qz0h, qz0i, qz0j, qz0k, qz0l, qz0m, qz0n, qz0o, qz0p, qz0q, qz0r, qz0s, qz0t, qz0u, qz0v, qz0w, qz0x, qz0y, qz0z, qz10, qz11, qz12, qz13, qz14, qz15, qz16, qz17, qz18, qz19, qz1a, qz1b, qz1c, qz1d, qz1e, qz1f, qz1g, qz1h, qz1i, qz1j, qz1k, qz1l, qz1m, qz1n, qz1o, qz1p, qz1q, qz1r, qz1s, qz1t, qz1u, qz1v, qz1w, qz1x, qz1y, qz1z, qz20, qz21, qz22, qz23, qz24, qz25, qz26, qz27, qz28, qz29, qz2a, qz2b, qz2c, qz2d, qz2e, qz2f, qz2g, qz2h, qz2i, qz2j, qz2k, qz2l, qz2m, qz2n, qz2o, qz2p, qz2q, qz2r, qz2s, qz2t, qz2u, qz2v, qz2w, qz2x, qz2y, qz2z, qz30, qz31, qz32, qz33, qz34, qz35, qz36, qz37, qz38, qz39, qz3a, qz3b, qz3c, qz3d, Bool.not_true, Bool.not_false, List.cons_append, List.nil_append, List.append_nil]
          simp (disch := first | decide | assumption | omega) only [T4.ld, qz00, qz01, qz02, qz03, qz04, qz05, qz06, qz07, qz08, qz09, qz0a, qz0b, qz0c, qz0d, qz0e, qz0f, qz0g, qz0h, qz0i, qz0j, qz0k, qz0l, qz0m, qz0n, qz0o, qz0p, qz0q, qz0r, qz0s, qz0t, qz0u, qz0v, qz0w, qz0x, qz0y, qz0z, qz10, qz11, qz12, qz13, qz14, qz15, qz16, qz17, qz18, qz19, qz1a, qz1b, qz1c, qz1d, qz1e, qz1f, qz1g, qz1h, qz1i, qz1j, qz1k, qz1l, qz1m, qz1n, qz1o, qz1p, qz1q, qz1r, qz1s, qz1t, qz1u, qz1v, qz1w, qz1x, qz1y, qz1z, qz20, qz21, qz22, qz23, qz24, qz25, qz26, qz27, qz28, qz29, qz2a, qz2b, qz2c, qz2d, qz2e, qz2f, qz2g, qz2h, qz2i, qz2j, qz2k, qz2l, qz2m, qz2n, qz2o, qz2p, qz2q, qz2r, qz2s, qz2t, qz2u, qz2v, qz2w, qz2x, qz2y, qz2z, qz30, qz31, qz32, qz33, qz34, qz35, qz36, qz37, qz38, qz39, qz3a, qz3b, qz3c, qz3d, Bool.not_true, Bool.not_false, List.cons_append, List.nil_append, List.append_nil]
          refine o_stT R4 (by have := T4.lt; omega) fun s' q1 q2 q3 Q => ?_
          simp (disch := first | decide | assumption | omega) only [r_resA, Q.ld, qz00, qz01, qz02, qz03, qz04, qz05, qz06, qz07, qz08, qz09, qz0a, qz0b, qz0c, qz0d, qz0e, qz0f, qz0g, qz0h, qz0i, qz0j, qz0k, qz0l, qz0m, qz0n, qz0o, qz0p, qz0q, qz0r, qz0s, qz0t, qz0u, qz0v, qz0w, qz0x, qz0y, qz0z, qz10, qz11, qz12, qz13, qz14, qz15, qz16, qz17, qz18, qz19, qz1a, qz1b, qz1c, qz1d, qz1e, qz1f, qz1g, qz1h, qz1i, qz1j, qz1k, qz1l, qz1m, qz1n, qz1o, qz1p, qz1q, qz1r, qz1s, qz1t, qz1u, qz1v, qz1w, qz1x, qz1y, qz1z, qz20, qz21, qz22, qz23, qz24, qz25, qz26, qz27, qz28, qz29, qz2a, qz2b, qz2c, qz2d, qz2e, qz2f, qz2g, qz2h, qz2i, qz2j, qz2k, qz2l, qz2m, qz2n, qz2o, qz2p, qz2q, qz2r, qz2s, qz2t, qz2u, qz2v, qz2w, qz2x, qz2y, qz2z, qz30, qz31, qz32, qz33, qz34, qz35, qz36, qz37, qz38, qz39, qz3a, qz3b, qz3c, qz3d, Bool.not_true, Bool.not_false, List.cons_append, List.nil_append, List.append_nil]
          exact fin ⟨2, [], 0, p.1, p.2⟩ 132 0 s4 s' (by rw [hM]) B4 (fun h => absurd h (by decide)) q1 q3
        · have h7' : ¬ (7 : Int) < (n : Int) := by omega
          simp (disch := first | decide | assumption | omega) only [eT, qz00, qz01, qz02, qz03, qz04, qz05, qz06, qz07, qz08, qz09, qz0a, qz0b, qz0c, qz0d, qz0e, qz0f, qz0g, qz0h, qz0i, qz0j, qz0k, qz0l, qz0m, qz0n, qz0o, qz0p, qz0q, qz0r, qz0s, qz0t, qz0u, qz0v, qz0w, qz0x, qz0y, qz0z, qz10, qz11, qz12, qz13, qz14, qz15, qz16, qz17, qz18, qz19, qz1a, qz1b, qz1c, qz1d, qz1e, qz1f, qz1g, qz1h, qz1i, qz1j, qz1k, qz1l, qz1m, qz1n, qz1o, qz1p, qz1q, qz1r, qz1s, qz1t, qz1u, qz1v, qz1w, qz1x, qz1y, qz1z, qz20, qz21, qz22, qz23, qz24, qz25, qz26, qz27, qz28, qz29, qz2a, qz2b, qz2c, qz2d, qz2e, qz2f, qz2g, qz2h, qz2i, qz2j, qz2k, qz2l, qz2m, qz2n, qz2o, qz2p, qz2q, qz2r, qz2s, qz2t, qz2u, qz2v, qz2w, qz2x, qz2y, qz2z, qz30, qz31, qz32, qz33, qz34, qz35, qz36, qz37, qz38, qz39, qz3a, qz3b, qz3c, qz3d, Bool.not_true, Bool.not_false, List.cons_append, List.nil_append, List.append_nil]
          refine base_rule (hPs.1 (by omega)) ?_
          have hvl : valN ((x :: r').take n) ≤ 99999999 := valN_le htl (by omega) hdig.2
          generalize hv : valN ((x :: r').take n) = v at hM hPs hvl
          by_cases hbig : 1000000 < v
          · have hbig' : (1000000 : Int) < (v : Int) := by omega
            rw [if_pos (.inr hbig)] at hM
            simp (disch := first | decide | assumption | omega) only [neqNil, qz00, qz01, qz02, qz03, qz04, qz05, qz06, qz07, qz08, qz09, qz0a, qz0b, qz0c, qz0d, qz0e, qz0f, qz0g, qz0h, qz0i, qz0j, qz0k, qz0l, qz0m, qz0n, qz0o, qz0p, qz0q, qz0r, qz0s, qz0t, qz0u, qz0v, qz0w, qz0x, qz0y, qz0z, qz10, qz11, qz12, qz13, qz14, qz15, qz16, qz17, qz18, qz19, qz1a, qz1b, qz1c, qz1d, qz1e, qz1f, qz1g, qz1h, qz1i, qz1j, qz1k, qz1l, qz1m, qz1n, qz1o, qz1p, qz1q, qz1r, qz1s, qz1t, qz1u, qz1v, qz1w, qz1x, qz1y, qz1z, qz20, qz21, qz22, qz23, qz24, qz25, qz26, qz27, qz28, qz29, qz2a, qz2b, qz2c, qz2d, qz2e, qz2f, qz2g, qz2h, qz2i, qz2j, qz2k, qz2l, qz2m, qz2n, qz2o, qz2p, qz2q, qz2r, qz2s, qz2t, qz2u, qz2v, qz2w, qz2x, qz2y, qz2z, qz30, qz31, qz32, qz33, qz34, qz35, qz36, qz37, qz38, qz39, qz3a, qz3b, qz3c, qz3d, Bool.not_true, Bool.not_false, List.cons_append, List.nil_append, List.append_nil]
            simp (disch := first | decide | assumption | omega) only [T4.ld, qz00, qz01, qz02, qz03, qz04, qz05, qz06, qz07, qz08, qz09, qz0a, qz0b, qz0c, qz0d, qz0e, qz0f, qz0g, qz0h, qz0i, qz0j, qz0k, qz0l, qz0m, qz0n, qz0o, qz0p, qz0q, qz0r, qz0s, qz0t, qz0u, qz0v, qz0w, qz0x, qz0y, qz0z, qz10, qz11, qz12, qz13, qz14, qz15, qz16, qz17, qz18, qz19, qz1a, qz1b, qz1c, qz1d, qz1e, qz1f, qz1g, qz1h, qz1i, qz1j, qz1k, qz1l, qz1m, qz1n, qz1o, qz1p, qz1q, qz1r, qz1s, qz1t, qz1u, qz1v, qz1w, qz1x, qz1y, qz1z, qz20, qz21, qz22, qz23, qz24, qz25, qz26, qz27, qz28, qz29, qz2a, qz2b, qz2c, qz2d, qz2e, qz2f, qz2g, qz2h, qz2i, qz2j, qz2k, qz2l, qz2m, qz2n, qz2o, qz2p, qz2q, qz2r, qz2s, qz2t, qz2u, qz2v, qz2w, qz2x, qz2y, qz2z, qz30, qz31, qz32, qz33, qz34, qz35, qz36, qz37, qz38, qz39, qz3a, qz3b, qz3c, qz3d, Bool.not_true, Bool.not_false, List.cons_append, List.nil_append, List.append_nil]
            refine o_stT R4 (by have := T4.lt; omega) fun s' q1 q2 q3 Q => ?_
            simp (disch := first | decide | assumption | omega) only [r_resA, Q.ld, qz00, qz01, qz02, qz03, qz04, qz05, qz06, qz07, qz08, qz09, qz0a, qz0b, qz0c, qz0d, qz0e, qz0f, qz0g, qz0h, qz0i, qz0j, qz0k, qz0l, qz0m, qz0n, qz0o, qz0p, qz0q, qz0r, qz0s, qz0t, qz0u, qz0v, qz0w, qz0x, qz0y, qz0z, qz10, qz11, qz12, qz13, qz14, qz15, qz16, qz17, qz18, qz19, qz1a, qz1b, qz1c, qz1d, qz1e, qz1f, qz1g, qz1h, qz1i, qz1j, qz1k, qz1l, qz1m, qz1n, qz1o, qz1p, qz1q, qz1r, qz1s, qz1t, qz1u, qz1v, qz1w, qz1x, qz1y, qz1z, qz20, qz21, qz22, qz23, qz24, qz25, qz26, qz27, qz28, qz29, qz2a, qz2b, qz2c, qz2d, qz2e, qz2f, qz2g, qz2h, qz2i, qz2j, qz2k, qz2l, qz2m, qz2n, qz2o, qz2p, qz2q, qz2r, qz2s, qz2t, qz2u, qz2v, qz2w, qz2x, qz2y, qz2z, qz30, qz31, qz32, qz33, qz34, qz35, qz36, qz37, qz38, qz39, qz3a, qz3b, qz3c, qz3d, Bool.not_true, Bool.not_false, List.cons_append, List.nil_append, List.append_nil]
            exact fin ⟨2, [], 0, p.1, p.2⟩ 132 0 s4 s' (by rw [hM]) B4 (fun h => absurd h (by decide)) q1 q3
          · have hbig' : ¬ (1000000 : Int) < (v : Int) := by omega
            rw [if_neg (by omega)] at hM
            have t4 : 2 < rlen s4.h tb := by rw [T4.len]; decide
            simp (disch := first | decide | assumption | omega) only [neqNil, Nat.zero_add, qz00, qz01, qz02, qz03, qz04, qz05, qz06, qz07, qz08, qz09, qz0a, qz0b, qz0c, qz0d, qz0e, qz0f, qz0g, qz0h, qz0i, qz0j, qz0k, qz0l, qz0m, qz0n, qz0o, qz0p, qz0q, qz0r, qz0s, qz0t, qz0u, qz0v, qz0w, qz0x, qz0y, qz0z, qz10, qz11, qz12, qz13, qz14, qz15, qz16, qz17, qz18, qz19, qz1a, qz1b, qz1c, qz1d, qz1e, qz1f, qz1g, qz1h, qz1i, qz1j, qz1k, qz1l, qz1m, qz1n, qz1o, qz1p, qz1q, qz1r, qz1s, qz1t, qz1u, qz1v, qz1w, qz1x, qz1y, qz1z, qz20, qz21, qz22, qz23, qz24, qz25, qz26, qz27, qz28, qz29, qz2a, qz2b, qz2c, qz2d, qz2e, qz2f, qz2g, qz2h, qz2i, qz2j, qz2k, qz2l, qz2m, qz2n, qz2o, qz2p, qz2q, qz2r, qz2s, qz2t, qz2u, qz2v, qz2w, qz2x, qz2y, qz2z, qz30, qz31, qz32, qz33, qz34, qz35, qz36, qz37, qz38, qz39, qz3a, qz3b, qz3c, qz3d, Bool.not_true, Bool.not_false, List.cons_append, List.nil_append, List.append_nil]
            refine o_st1 t4 ⟨rfl, rfl, rfl⟩ fun s5 m5 => ?_
            have T5' := T4.put2 (k := v) m5
            have B5 := B4.new m5 (by show st.nx ≤ tb; omega)
            have C5 := C4.keep (by rw [m5.nx]; exact Nat.le_refl _) (m5.keep c (by omega))
            have R5 := (rlen_same (m5.keep st.nx (by omega))).trans R4
            have s5fr : s5.fr = [] := B5.fr
            have n5 := m5.nx
            have u1 : 1 < rlen s5.h tb := by rw [T5'.len]; decide
            have eT := fun (s : St) (K : AV → St → Prop) => v_sl2 (st := s) (K := K) (l := x :: r') (n := n) hn .i64
            simp (disch := first | decide | assumption | omega) only [eT, Nat.zero_add, qz00, qz01, qz02, qz03, qz04, qz05, qz06, qz07, qz08, qz09, qz0a, qz0b, qz0c, qz0d, qz0e, qz0f, qz0g, qz0h, qz0i, qz0j, qz0k, qz0l, qz0m, qz0n, qz0o, qz0p, qz0q, qz0r, qz0s, qz0t, qz0u, qz0v, qz0w, qz0x, qz0y, qz0z, qz10, qz11, qz12, qz13, qz14, qz15, qz16, qz17, qz18, qz19, qz1a, qz1b, qz1c, qz1d, qz1e, qz1f, qz1g, qz1h, qz1i, qz1j, qz1k, qz1l, qz1m, qz1n, qz1o, qz1p, qz1q, qz1r, qz1s, qz1t, qz1u, qz1v, qz1w, qz1x, qz1y, qz1z, qz20, qz21, qz22, qz23, qz24, qz25, qz26, qz27, qz28, qz29, qz2a, qz2b, qz2c, qz2d, qz2e, qz2f, qz2g, qz2h, qz2i, qz2j, qz2k, qz2l, qz2m, qz2n, qz2o, qz2p, qz2q, qz2r, qz2s, qz2t, qz2u, qz2v, qz2w, qz2x, qz2y, qz2z, qz30, qz31, qz32, qz33, qz34, qz35, qz36, qz37, qz38, qz39, qz3a, qz3b, qz3c, qz3d, Bool.not_true, Bool.not_false, List.cons_append, List.nil_append, List.append_nil]
            refine o_st1 u1 ⟨rfl, rfl, rfl⟩ fun sA mA => ?_
            have TA := T5'.put1 mA
            have BA := B5.new mA (by show st.nx ≤ tb; omega)
            have CA := C5.keep (by rw [mA.nx]; exact Nat.le_refl _) (mA.keep c (by omega))
            have RA := (rlen_same (mA.keep st.nx (by omega))).trans R5
            have sAfr : sA.fr = [] := BA.fr
            have nA := mA.nx
            have TAlt := TA.lt
            simp (disch := first | decide | assumption | omega) only [qz00, qz01, qz02, qz03, qz04, qz05, qz06, qz07, qz08, qz09, qz0a, qz0b, qz0c, qz0d, qz0e, qz0f, qz0g, qz0h, qz0i, qz0j, qz0k, qz0l, qz0m, qz0n, qz0o, qz0p, qz0q, qz0r, qz0s, qz0t, qz0u, qz0v, qz0w, qz0x, qz0y, qz0z, qz10, qz11, qz12, qz13, qz14, qz15, qz16, qz17, qz18, qz19, qz1a, qz1b, qz1c, qz1d, qz1e, qz1f, qz1g, qz1h, qz1i, qz1j, qz1k, qz1l, qz1m, qz1n, qz1o, qz1p, qz1q, qz1r, qz1s, qz1t, qz1u, qz1v, qz1w, qz1x, qz1y, qz1z, qz20, qz21, qz22, qz23, qz24, qz25, qz26, qz27, qz28, qz29, qz2a, qz2b, qz2c, qz2d, qz2e, qz2f, qz2g, qz2h, qz2i, qz2j, qz2k, qz2l, qz2m, qz2n, qz2o, qz2p, qz2q, qz2r, qz2s, qz2t, qz2u, qz2v, qz2w, qz2x, qz2y, qz2z, qz30, qz31, qz32, qz33, qz34, qz35, qz36, qz37, qz38, qz39, qz3a, qz3b, qz3c, qz3d, Bool.not_true, Bool.not_false, List.cons_append, List.nil_append, List.append_nil]
            refine skip_ok (fun a s => hb _ a s (by simp)) sA CA (n := n) (by omega) (by omega) hp1 hp2 _ fun sB BB CB => ?_
            have BB' := BA.trans BB.back
            have CB' := CB.back (s := sA)
            have TB := TA.keep (s' := Go.Ev.back sA sB) BB.nx (BB.keep tb TAlt (by omega))
            have RB := (rlen_same (BB.keep st.nx (by show st.nx < sA.nx; omega) (by omega)) : rlen (Go.Ev.back sA sB).h st.nx = _).trans RA
            have nB : sA.nx ≤ (Go.Ev.back sA sB).nx := BB.nx
            generalize Go.Ev.back sA sB = sC at BB' CB' TB RB nB
            simp (disch := first | decide | assumption | omega) only [TB.ld, qz00, qz01, qz02, qz03, qz04, qz05, qz06, qz07, qz08, qz09, qz0a, qz0b, qz0c, qz0d, qz0e, qz0f, qz0g, qz0h, qz0i, qz0j, qz0k, qz0l, qz0m, qz0n, qz0o, qz0p, qz0q, qz0r, qz0s, qz0t, qz0u, qz0v, qz0w, qz0x, qz0y, qz0z, qz10, qz11, qz12, qz13, qz14, qz15, qz16, qz17, qz18, qz19, qz1a, qz1b, qz1c, qz1d, qz1e, qz1f, qz1g, qz1h, qz1i, qz1j, qz1k, qz1l, qz1m, qz1n, qz1o, qz1p, qz1q, qz1r, qz1s, qz1t, qz1u, qz1v, qz1w, qz1x, qz1y, qz1z, qz20, qz21, qz22, qz23, qz24, qz25, qz26, qz27, qz28, qz29, qz2a, qz2b, qz2c, qz2d, qz2e, qz2f, qz2g, qz2h, qz2i, qz2j, qz2k, qz2l, qz2m, qz2n, qz2o, qz2p, qz2q, qz2r, qz2s, qz2t, qz2u, qz2v, qz2w, qz2x, qz2y, qz2z, qz30, qz31, qz32, qz33, qz34, qz35, qz36, qz37, qz38, qz39, qz3a, qz3b, qz3c, qz3d, Bool.not_true, Bool.not_false, List.cons_append, List.nil_append, List.append_nil]
            refine o_stT RB (by omega) fun s' q1 q2 q3 Q => ?_
            simp (disch := first | decide | assumption | omega) only [r_resA, Q.ld, qz00, qz01, qz02, qz03, qz04, qz05, qz06, qz07, qz08, qz09, qz0a, qz0b, qz0c, qz0d, qz0e, qz0f, qz0g, qz0h, qz0i, qz0j, qz0k, qz0l, qz0m, qz0n, qz0o, qz0p, qz0q, qz0r, qz0s, qz0t, qz0u, qz0v, qz0w, qz0x, qz0y, qz0z, qz10, qz11, qz12, qz13, qz14, qz15, qz16, qz17, qz18, qz19, qz1a, qz1b, qz1c, qz1d, qz1e, qz1f, qz1g, qz1h, qz1i, qz1j, qz1k, qz1l, qz1m, qz1n, qz1o, qz1p, qz1q, qz1r, qz1s, qz1t, qz1u, qz1v, qz1w, qz1x, qz1y, qz1z, qz20, qz21, qz22, qz23, qz24, qz25, qz26, qz27, qz28, qz29, qz2a, qz2b, qz2c, qz2d, qz2e, qz2f, qz2g, qz2h, qz2i, qz2j, qz2k, qz2l, qz2m, qz2n, qz2o, qz2p, qz2q, qz2r, qz2s, qz2t, qz2u, qz2v, qz2w, qz2x, qz2y, qz2z, qz30, qz31, qz32, qz33, qz34, qz35, qz36, qz37, qz38, qz39, qz3a, qz3b, qz3c, qz3d, Bool.not_true, Bool.not_false, List.cons_append, List.nil_append, List.append_nil]
            exact fin ⟨2, (x :: r').take n, v, p.1, p.2⟩ 0 n sC s' (by rw [hM]) BB' (fun _ => by rw [hr] at CB'; exact CB') q1 q3
      | false =>
        have hM : nextM (x :: r') p = if signN (x :: r') = 0 then (131, ⟨3, [], 0, p.1, p.2⟩, 0) else (0, ⟨3, (x :: r').take (signN (x :: r')), 0, p.1, p.2⟩, signN (x :: r')) := by
          show (if isLetter x = true then _ else if isDigit x = true then _ else _) = _
          rw [if_neg (by rw [hL]; decide), if_neg (by rw [hD]; decide)]
        simp (disch := first | decide | assumption | omega) only [qz00, qz01, qz02, qz03, qz04, qz05, qz06, qz07, qz08, qz09, qz0a, qz0b, qz0c, qz0d, qz0e, qz0f, qz0g, qz0h, qz0i, qz0j, qz0k, qz0l, qz0m, qz0n, qz0o, qz0p, qz0q, qz0r, qz0s, qz0t, qz0u, qz0v, qz0w, qz0x, qz0y, qz0z, qz10, qz11, qz12, qz13, qz14, qz15, qz16, qz17, qz18, qz19, qz1a, qz1b, qz1c, qz1d, qz1e, qz1f, qz1g, qz1h, qz1i, qz1j, qz1k, qz1l, qz1m, qz1n, qz1o, qz1p, qz1q, qz1r, qz1s, qz1t, qz1u, qz1v, qz1w, qz1x, qz1y, qz1z, qz20, qz21, qz22, qz23, qz24, qz25, qz26, qz27, qz28, qz29, qz2a, qz2b, qz2c, qz2d, qz2e, qz2f, qz2g, qz2h, qz2i, qz2j, qz2k, qz2l, qz2m, qz2n, qz2o, qz2p, qz2q, qz2r, qz2s, qz2t, qz2u, qz2v, qz2w, qz2x, qz2y, qz2z, qz30, qz31, qz32, qz33, qz34, qz35, qz36, qz37, qz38, qz39, qz3a, qz3b, qz3c, qz3d, Bool.not_true, Bool.not_false, List.cons_append, List.nil_append, List.append_nil]
        refine sign_ok (fun f a s hf => hb _ a s (by simp at hf ⊢; rcases hf with h | h | h | h | h <;> simp [h])) (x :: r') (by omega) s3 _ fun s3a e3a => ?_
        have ke := Kept.ext e3a
        have hn := signN_le (x :: r')
        have Ta := T.keep ke.nx (ke.keep tb T.lt)
        have Ba : But st.bare (Go.Ev.back s3 s3a) c := ⟨Nat.le_trans B3.nx ke.nx, ke.fr.trans B3.fr, fun y hy hc' => (ke.keep y (Nat.lt_of_lt_of_le hy B3.nx)).trans (B3.keep y hy hc')⟩
        have Ca := C3.keep ke.nx (ke.keep c C3.lt)
        have Ra := (rlen_same (ke.keep st.nx (by omega))).trans R3
        have na := ke.nx
        generalize Go.Ev.back s3 s3a = s3' at Ta Ba Ca Ra na
        generalize signN (x :: r') = n at hn hM
        have t0 : 0 < rlen s3'.h tb := by rw [Ta.len]; decide
        have sfr' : s3'.fr = [] := Ba.fr
        simp (disch := first | decide | assumption | omega) only [qz00, qz01, qz02, qz03, qz04, qz05, qz06, qz07, qz08, qz09, qz0a, qz0b, qz0c, qz0d, qz0e, qz0f, qz0g, qz0h, qz0i, qz0j, qz0k, qz0l, qz0m, qz0n, qz0o, qz0p, qz0q, qz0r, qz0s, qz0t, qz0u, qz0v, qz0w, qz0x, qz0y, qz0z, qz10, qz11, qz12, qz13, qz14, qz15, qz16, qz17, qz18, qz19, qz1a, qz1b, qz1c, qz1d, qz1e, qz1f, qz1g, qz1h, qz1i, qz1j, qz1k, qz1l, qz1m, qz1n, qz1o, qz1p, qz1q, qz1r, qz1s, qz1t, qz1u, qz1v, qz1w, qz1x, qz1y, qz1z, qz20, qz21, qz22, qz23, qz24, qz25, qz26, qz27, qz28, qz29, qz2a, qz2b, qz2c, qz2d, qz2e, qz2f, qz2g, qz2h, qz2i, qz2j, qz2k, qz2l, qz2m, qz2n, qz2o, qz2p, qz2q, qz2r, qz2s, qz2t, qz2u, qz2v, qz2w, qz2x, qz2y, qz2z, qz30, qz31, qz32, qz33, qz34, qz35, qz36, qz37, qz38, qz39, qz3a, qz3b, qz3c, qz3d, Bool.not_true, Bool.not_false, List.cons_append, List.nil_append, List.append_nil]
        refine o_st1 t0 ⟨rfl, rfl, rfl⟩ fun s4 m4 => ?_
        have T4 := Ta.put0 (k := 3) m4
        have B4 := Ba.new m4 (by show st.nx ≤ tb; omega)
        have C4 := Ca.keep (by rw [m4.nx]; exact Nat.le_refl _) (m4.keep c (by omega))
        have R4 := (rlen_same (m4.keep st.nx (by omega))).trans Ra
        have n4 := m4.nx
        have s4fr : s4.fr = [] := B4.fr
        by_cases h0 : n = 0
        · have h0' : (n : Int) = 0 := by omega
          rw [if_pos h0] at hM
          simp (disch := first | decide | assumption | omega) only [qz00, qz01, qz02, qz03, qz04, qz05, qz06, qz07, qz08, qz09, qz0a, qz0b, qz0c, qz0d, qz0e, qz0f, qz0g, qz0h, qz0i, qz0j, qz0k, qz0l, qz0m, qz0n, qz0o, qz0p, qz0q, qz0r, qz0s, qz0t, qz0u, qz0v, qz0w, qz0x, qz0y, qz0z, qz10, qz11, qz12, qz13, qz14, qz15, qz16, qz17, qz18, qz19, qz1a, qz1b, qz1c, qz1d, qz1e, qz1f, qz1g, qz1h, qz1i, qz1j, qz1k, qz1l, qz1m, qz1n, qz1o, qz1p, qz1q, qz1r, qz1s, qz1t, qz1u, qz1v, qz1w, qz1x, qz1y, qz1z, qz20, qz21, qz22, qz23, qz24, qz25, qz26, qz27, qz28, qz29, qz2a, qz2b, qz2c, qz2d, qz2e, qz2f, qz2g, qz2h, qz2i, qz2j, qz2k, qz2l, qz2m, qz2n, qz2o, qz2p, qz2q, qz2r, qz2s, qz2t, qz2u, qz2v, qz2w, qz2x, qz2y, qz2z, qz30, qz31, qz32, qz33, qz34, qz35, qz36, qz37, qz38, qz39, qz3a, qz3b, qz3c, qz3d, Bool.not_true, Bool.not_false, List.cons_append, List.nil_append, List.append_nil]
          simp (disch := first | decide | assumption | omega) only [T4.ld, qz00, qz01, qz02, qz03, qz04, qz05, qz06, qz07, qz08, qz09, qz0a, qz0b, qz0c, qz0d, qz0e, qz0f, qz0g, qz0h, qz0i, qz0j, qz0k, qz0l, qz0m, qz0n, qz0o, qz0p, qz0q, qz0r, qz0s, qz0t, qz0u, qz0v, qz0w, qz0x, qz0y, qz0z, qz10, qz11, qz12, qz13, qz14, qz15, qz16, qz17, qz18, qz19, qz1a, qz1b, qz1c, qz1d, qz1e, qz1f, qz1g, qz1h, qz1i, qz1j, qz1k, qz1l, qz1m, qz1n, qz1o, qz1p, qz1q, qz1r, qz1s, qz1t, qz1u, qz1v, qz1w, qz1x, qz1y, qz1z, qz20, qz21, qz22, qz23, qz24, qz25, qz26, qz27, qz28, qz29, qz2a, qz2b, qz2c, qz2d, qz2e, qz2f, qz2g, qz2h, qz2i, qz2j, qz2k, qz2l, qz2m, qz2n, qz2o, qz2p, qz2q, qz2r, qz2s, qz2t, qz2u, qz2v, qz2w, qz2x, qz2y, qz2z, qz30, qz31, qz32, qz33, qz34, qz35, qz36, qz37, qz38, qz39, qz3a, qz3b, qz3c, qz3d, Bool.not_true, Bool.not_false, List.cons_append, List.nil_append, List.append_nil]
          refine o_stT R4 (by have := T4.lt; omega) fun s' q1 q2 q3 Q => ?_
          simp (disch := first | decide | assumption | omega) only [r_resA, Q.ld, qz00, qz01, qz02, qz03, qz04, qz05, qz06, qz07, qz08, qz09, qz0a, qz0b, qz0c, qz0d, qz0e, qz0f, qz0g, qz0h, qz0i, qz0j, qz0k, qz0l, qz0m, qz0n, qz0o, qz0p, qz0q, qz0r, qz0s, qz0t, qz0u, qz0v, qz0w, qz0x, qz0y, qz0z, qz10, qz11, qz12, qz13, qz14, qz15, qz16, qz17, qz18, qz19, qz1a, qz1b, qz1c, qz1d, qz1e, qz1f, qz1g, qz1h, qz1i, qz1j, qz1k, qz1l, qz1m, qz1n, qz1o, qz1p, qz1q, qz1r, qz1s, qz1t, qz1u, qz1v, qz1w, qz1x, qz1y, qz1z, qz20, qz21, qz22, qz23, qz24, qz25, qz26, qz27, qz28, qz29, qz2a, qz2b, qz2c, qz2d, qz2e, qz2f, qz2g, qz2h, qz2i, qz2j, qz2k, qz2l, qz2m, qz2n, qz2o, qz2p, qz2q, qz2r, qz2s, qz2t, qz2u, qz2v, qz2w, qz2x, qz2y, qz2z, qz30, qz31, qz32, qz33, qz34, qz35, qz36, qz37, qz38, qz39, qz3a, qz3b, qz3c, qz3d, Bool.not_true, Bool.not_false, List.cons_append, List.nil_append, List.append_nil]
          exact fin ⟨3, [], 0, p.1, p.2⟩ 131 0 s4 s' (by rw [hM]) B4 (fun h => absurd h (by decide)) q1 q3
        · have h0' : (n : Int) ≠ 0 := by omega
          rw [if_neg h0] at hM
          simp (disch := first | decide | assumption | omega) only [qz00, qz01, qz02, qz03, qz04, qz05, qz06, qz07, qz08, qz09, qz0a, qz0b, qz0c, qz0d, qz0e, qz0f, qz0g, qz0h, qz0i, qz0j, qz0k, qz0l, qz0m, qz0n, qz0o, qz0p, qz0q, qz0r, qz0s, qz0t, qz0u, qz0v, qz0w, qz0x, qz0y, qz0z, qz10, qz11, qz12, qz13, qz14, qz15, qz16, qz17, qz18, qz19, qz1a, qz1b, qz1c, qz1d, qz1e, qz1f, qz1g, qz1h, qz1i, qz1j, qz1k, qz1l, qz1m, qz1n, qz1o, qz1p, qz1q, qz1r, qz1s, qz1t, qz1u, qz1v, qz1w, qz1x, qz1y, qz1z, qz20, qz21, qz22, qz23, qz24, qz25, qz26, qz27, qz28, qz29, qz2a, qz2b, qz2c, qz2d, qz2e, qz2f, qz2g, qz2h, qz2i, qz2j, qz2k, qz2l, qz2m, qz2n, qz2o, qz2p, qz2q, qz2r, qz2s, qz2t, qz2u, qz2v, qz2w, qz2x, qz2y, qz2z, qz30, qz31, qz32, qz33, qz34, qz35, qz36, qz37, qz38, qz39, qz3a, qz3b, qz3c, qz3d, Bool.not_true, Bool.not_false, List.cons_append, List.nil_append, List.append_nil]
          have u1 : 1 < rlen s4.h tb := by rw [T4.len]; decide
          have eT := fun (s : St) (K : AV → St → Prop) => v_sl2 (st := s) (K := K) (l := x :: r') (n := n) hn .i64
          simp (disch := first | decide | assumption | omega) only [eT, Nat.zero_add, qz00, qz01, qz02, qz03, qz04, qz05, qz06, qz07, qz08, qz09, qz0a, qz0b, qz0c, qz0d, qz0e, qz0f, qz0g, qz0h, qz0i, qz0j, qz0k, qz0l, qz0m, qz0n, qz0o, qz0p, qz0q, qz0r, qz0s, qz0t, qz0u, qz0v, qz0w, qz0x, qz0y, qz0z, qz10, qz11, qz12, qz13, qz14, qz15, qz16, qz17, qz18, qz19, qz1a, qz1b, qz1c, qz1d, qz1e, qz1f, qz1g, qz1h, qz1i, qz1j, qz1k, qz1l, qz1m, qz1n, qz1o, qz1p, qz1q, qz1r, qz1s, qz1t, qz1u, qz1v, qz1w, qz1x, qz1y, qz1z, qz20, qz21, qz22, qz23, qz24, qz25, qz26, qz27, qz28, qz29, qz2a, qz2b, qz2c, qz2d, qz2e, qz2f, qz2g, qz2h, qz2i, qz2j, qz2k, qz2l, qz2m, qz2n, qz2o, qz2p, qz2q, qz2r, qz2s, qz2t, qz2u, qz2v, qz2w, qz2x, qz2y, qz2z, qz30, qz31, qz32, qz33, qz34, qz35, qz36, qz37, qz38, qz39, qz3a, qz3b, qz3c, qz3d, Bool.not_true, Bool.not_false, List.cons_append, List.nil_append, List.append_nil]
          refine o_st1 u1 ⟨rfl, rfl, rfl⟩ fun sA mA => ?_
          have TA := T4.put1 mA
          have BA := B4.new mA (by show st.nx ≤ tb; omega)
          have CA := C4.keep (by rw [mA.nx]; exact Nat.le_refl _) (mA.keep c (by omega))
          have RA := (rlen_same (mA.keep st.nx (by omega))).trans R4
          have sAfr : sA.fr = [] := BA.fr
          have nA := mA.nx
          have TAlt := TA.lt
          simp (disch := first | decide | assumption | omega) only [qz00, qz01, qz02, qz03, qz04, qz05, qz06, qz07, qz08, qz09, qz0a, qz0b, qz0c, qz0d, qz0e, qz0f, qz0g, qz0h, qz0i, qz0j, qz0k, qz0l, qz0m, qz0n, qz0o, qz0p, qz0q, qz0r, qz0s, qz0t, qz0u, qz0v, qz0w, qz0x, qz0y, qz0z, qz10, qz11, qz12, qz13, qz14, qz15, qz16, qz17, qz18, qz19, qz1a, qz1b, qz1c, qz1d, qz1e, qz1f, qz1g, qz1h, qz1i, qz1j, qz1k, qz1l, qz1m, qz1n, qz1o, qz1p, qz1q, qz1r, qz1s, qz1t, qz1u, qz1v, qz1w, qz1x, qz1y, qz1z, qz20, qz21, qz22, qz23, qz24, qz25, qz26, qz27, qz28, qz29, qz2a, qz2b, qz2c, qz2d, qz2e, qz2f, qz2g, qz2h, qz2i, qz2j, qz2k, qz2l, qz2m, qz2n, qz2o, qz2p, qz2q, qz2r, qz2s, qz2t, qz2u, qz2v, qz2w, qz2x, qz2y, qz2z, qz30, qz31, qz32, qz33, qz34, qz35, qz36, qz37, qz38, qz39, qz3a, qz3b, qz3c, qz3d, Bool.not_true, Bool.not_false, List.cons_append, List.nil_append, List.append_nil]
          refine skip_ok (fun a s => hb _ a s (by simp)) sA CA (n := n) (by omega) (by omega) hp1 hp2 _ fun sB BB CB => ?_
          have BB' := BA.trans BB.back
          have CB' := CB.back (s := sA)
          have TB := TA.keep (s' := Go.Ev.back sA sB) BB.nx (BB.keep tb TAlt (by omega))
          have RB := (rlen_same (BB.keep st.nx (by show st.nx < sA.nx; omega) (by omega)) : rlen (Go.Ev.back sA sB).h st.nx = _).trans RA
          have nB : sA.nx ≤ (Go.Ev.back sA sB).nx := BB.nx
          generalize Go.Ev.back sA sB = sC at BB' CB' TB RB nB
          simp (disch := first | decide | assumption | omega) only [TB.ld, qz00, qz01, qz02, qz03, qz04, qz05, qz06, qz07, qz08, qz09, qz0a, qz0b, qz0c, qz0d, qz0e, qz0f, qz0g, qz0h, qz0i, qz0j, qz0k, qz0l, qz0m, qz0n, qz0o, qz0p, qz0q, qz0r, qz0s, qz0t, qz0u, qz0v, qz0w, qz0x, qz0y, qz0z, qz10, qz11, qz12, qz13, qz14, qz15, qz16, qz17, qz18, qz19, qz1a, qz1b, qz1c, qz1d, qz1e, qz1f, qz1g, qz1h, qz1i, qz1j, qz1k, qz1l, qz1m, qz1n, qz1o, qz1p, qz1q, qz1r, qz1s, qz1t, qz1u, qz1v, qz1w, qz1x, qz1y, qz1z, qz20, qz21, qz22, qz23, qz24, qz25, qz26, qz27, qz28, qz29, qz2a, qz2b, qz2c, qz2d, qz2e, qz2f, qz2g, qz2h, qz2i, qz2j, qz2k, qz2l, qz2m, qz2n, qz2o, qz2p, qz2q, qz2r, qz2s, qz2t, qz2u, qz2v, qz2w, qz2x, qz2y, qz2z, qz30, qz31, qz32, qz33, qz34, qz35, qz36, qz37, qz38, qz39, qz3a, qz3b, qz3c, qz3d, Bool.not_true, Bool.not_false, List.cons_append, List.nil_append, List.append_nil]
          refine o_stT RB (by omega) fun s' q1 q2 q3 Q => ?_
          simp (disch := first | decide | assumption | omega) only [r_resA, Q.ld, qz00, qz01, qz02, qz03, qz04, qz05, qz06, qz07, qz08, qz09, qz0a, qz0b, qz0c, qz0d, qz0e, qz0f, qz0g, qz0h, qz0i, qz0j, qz0k, qz0l, qz0m, qz0n, qz0o, qz0p, qz0q, qz0r, qz0s, qz0t, qz0u, qz0v, qz0w, qz0x, qz0y, qz0z, qz10, qz11, qz12, qz13, qz14, qz15, qz16, qz17, qz18, qz19, qz1a, qz1b, qz1c, qz1d, qz1e, qz1f, qz1g, qz1h, qz1i, qz1j, qz1k, qz1l, qz1m, qz1n, qz1o, qz1p, qz1q, qz1r, qz1s, qz1t, qz1u, qz1v, qz1w, qz1x, qz1y, qz1z, qz20, qz21, qz22, qz23, qz24, qz25, qz26, qz27, qz28, qz29, qz2a, qz2b, qz2c, qz2d, qz2e, qz2f, qz2g, qz2h, qz2i, qz2j, qz2k, qz2l, qz2m, qz2n, qz2o, qz2p, qz2q, qz2r, qz2s, qz2t, qz2u, qz2v, qz2w, qz2x, qz2y, qz2z, qz30, qz31, qz32, qz33, qz34, qz35, qz36, qz37, qz38, qz39, qz3a, qz3b, qz3c, qz3d, Bool.not_true, Bool.not_false, List.cons_append, List.nil_append, List.append_nil]
          exact fin ⟨3, (x :: r').take n, 0, p.1, p.2⟩ 0 n sC s' (by rw [hM]) BB' (fun _ => by rw [hr] at CB'; exact CB') q1 q3
end Go.Sy
end

section
set_option maxRecDepth 100000
namespace Go.Sy
open Go.Ev Go.Proofs
section
variable {P : Program} {base : CallF} {st : St} {K : AV → St → Prop} {e : En}
theorem i_buildS15 (z1 z2 z3 z4 z5 : AV) (x : A) : wK P base (.i (.buildS 1 5 [z1, z2, z3, z4, z5] [((0, 5), x)])) e st K = on1 e x fun v => onER (buildSV 1 5 [z1, z2, z3, z4, z5] [((0, 5), v)] st) K := k_1 rfl (fun _ => rfl) K
theorem o_buildST {z1 z2 z3 z4 z5 : AV} (t : Tk) (hk : ∀ st', Made st st' 5 (fun i => t.cells.getD i .bad) → K (.slice st.nx 0 1 1 5 true) st') : onER (buildSV 1 5 [z1, z2, z3, z4, z5] [((0, 5), .agg t.cells)] st) K := by
  have e2 : fillP (repeatC [z1, z2, z3, z4, z5] 1) [((0, 5), .agg t.cells)] = some t.cells := rfl
  have e3 : lall AV.cell t.cells = true := rfl
  have e4 : llen t.cells = 5 := rfl
  simp only [buildSV, e2, onSome, e3, e4, cond_true, force_eq, llen_eq, St.alloc_eq, onER]
  refine hk _ (made_row fun i hi => ?_)
  rw [rowCell_eq, get_e, Nat.mod_eq_of_lt hi]
  rfl
/-- one thing of k cells behind none -/
theorem o_appK0 {k bytes bv xc : Nat} {xx : Bool} (hk0 : 0 < k) (hby : bytes ≤ 140737488355328) (hv : rlen st.h bv = k)
    (hk : ∀ st', Made st st' k (fun i => rat st.h bv i) → K (.slice st.nx 0 1 1 k false) st') : onER (appV k bytes .nils (.slice bv 0 1 xc k xx) st) K := by
  obtain ⟨n, zl, z, cs, hg⟩ := isRow_pos (h := st.h) (b := bv) (by omega)
  rw [rlen_get hg] at hv
  have e0 : Nat.mul 1 k = k := Nat.one_mul k
  have e1 : Nat.ble (Nat.add 0 k) n = true := ble_t (by show 0 + k ≤ n; omega)
  have e3 : Nat.beq (llen (rowCells zl z cs k 0)) k = true := beq_t (by rw [llen_eq, rowCells_eq]; simp)
  have e4 : Nat.beq 1 0 = false := rfl
  have e5 : Nat.ble (Nat.mul 1 bytes) 140737488355328 = true := ble_t (by show 1 * bytes ≤ _; omega)
  have e6 : Nat.ble 1 9223372036854775807 = true := ble_t (by decide)
  simp only [appV, onLen, firstCells, hg, onRow, force_eq, e0, e1, cond_true, appendWith, e3, e4, cond_false, e5, e6, St.alloc_eq, onER]
  refine hk _ (made_row fun i hi => ?_)
  rw [rowCell_eq, get_e, rowCells_eq, Nat.mod_eq_of_lt hi, rat_get hg]
  simp [List.getD_eq_getElem?_getD, List.getElem?_map, hi]
/-- one thing of k cells behind a block that is full -/
theorem o_appK {k bytes b sl bv xc : Nat} {xx : Bool} (hk0 : 0 < k) (hb : k * sl = rlen st.h b) (hpos : 0 < sl) (hby : (sl + 1) * bytes ≤ 140737488355328) (h63 : sl + 1 ≤ 9223372036854775807) (hv : rlen st.h bv = k)
    (hk : ∀ st', Grown st st' b (k * (sl + 1)) (fun i => if i < k * sl then rat st.h b i else rat st.h bv (i - k * sl)) → K (.slice st.nx 0 (sl + 1) (sl + 1) k false) st') : onER (appV k bytes (.slice b 0 sl sl k false) (.slice bv 0 1 xc k xx) st) K := by
  have hp : 0 < k * sl := Nat.mul_pos hk0 hpos
  obtain ⟨n, zl, z, cs, hg⟩ := isRow_pos (h := st.h) (b := bv) (by omega)
  obtain ⟨n', zl', z', cs', hg'⟩ := isRow_pos (h := st.h) (b := b) (by omega)
  rw [rlen_get hg] at hv
  rw [rlen_get hg'] at hb
  have e0 : Nat.mul 1 k = k := Nat.one_mul k
  have e1 : Nat.ble (Nat.add 0 k) n = true := ble_t (by show 0 + k ≤ n; omega)
  have e3 : Nat.beq (llen (rowCells zl z cs k 0)) k = true := beq_t (by rw [llen_eq, rowCells_eq]; simp)
  have e4 : Nat.ble (Nat.add sl 1) sl = false := ble_f (Nat.lt_succ_self _)
  have e5 : Nat.ble (Nat.mul (Nat.add sl 1) bytes) 140737488355328 = true := ble_t hby
  have e6 : Nat.ble (Nat.add sl 1) 9223372036854775807 = true := ble_t h63
  have e7 : Nat.beq k k = true := beq_t rfl
  have e8 : Nat.beq 0 0 = true := rfl
  have e11 : Nat.mul sl k = k * sl := Nat.mul_comm _ _
  have e9 : Nat.beq (k * sl) n' = true := beq_t hb
  have e10 : Nat.mul (Nat.add sl 1) k = k * (sl + 1) := Nat.mul_comm _ _
  simp only [appV, onLen, firstCells, hg, onRow, force_eq, e0, e1, cond_true, appendWith, e3, hg', e4, cond_false, e5, e6, e7, e8, e11, e9, e10, St.put_eq, St.alloc_eq, onER]
  refine hk _ ⟨rfl, rfl, fun c h1 h2 => ?_, ?_, ?_, fun i hi => ?_⟩
  · show hget ((setF (bitsR st.nx)).run _ ((setF (bitsR b)).run _ st.h)) c = _
    rw [hget_set, if_neg h1, hget_set, if_neg h2]
  · exact ⟨_, _, _, _, by rw [hget_set, if_pos rfl]⟩
  · rw [rlen_row, if_pos rfl]
  · rw [rat_row, if_pos rfl, rat_get hg', rat_get hg, rowCell_setCells]
    have hl : (rowCells zl z cs k 0).length = k := by rw [rowCells_eq]; simp
    have hmul : k * (sl + 1) = k * sl + k := Nat.mul_succ k sl
    rw [hl, ← hb]
    by_cases h : i < k * sl
    · rw [if_pos h, if_neg (by omega)]
    · rw [if_neg h, if_pos (by omega), rowCells_eq, List.getD_eq_getElem?_getD, List.getElem?_map, List.getElem?_range (by omega)]
      show rowCell zl z cs (0 + (i - k * sl)) = _
      rw [Nat.zero_add]
end
/-- the cells of some words -/
def tcells (ts : List Tk) : List AV := (ts.map Tk.cells).flatten
theorem tcells_len : ∀ ts : List Tk, (tcells ts).length = 5 * ts.length
  | [] => rfl
  | t :: ts => by
    show (t.cells ++ tcells ts).length = 5 * (ts.length + 1)
    rw [List.length_append, tcells_len ts]
    show 5 + 5 * ts.length = _
    omega
theorem tcells_snoc (ts : List Tk) (t : Tk) : tcells (ts ++ [t]) = tcells ts ++ t.cells := by
  unfold tcells
  rw [List.map_append, List.flatten_append]
  simp
/-- some words in memory, in a block that they fill -/
structure Ts (s : St) (b : Nat) (ts : List Tk) : Prop where
  lt : b < s.nx
  len : rlen s.h b = 5 * ts.length
  cell : ∀ i, i < 5 * ts.length → rat s.h b i = (tcells ts).getD i .bad
theorem Ts.keep {s s' : St} {b : Nat} {ts : List Tk} (h : Ts s b ts) (hn : s.nx ≤ s'.nx) (k : hget s'.h b = hget s.h b) : Ts s' b ts :=
  ⟨Nat.lt_of_lt_of_le h.lt hn, (rlen_same k).trans h.len, fun i hi => (rat_same k i).trans (h.cell i hi)⟩
/-- a slice of words, or none -/
def tsV (b : Nat) (ts : List Tk) : AV := if ts = [] then .nils else .slice b 0 ts.length ts.length 5 false
theorem o_appT {st : St} {K : AV → St → Prop} {b bv xc : Nat} {xx : Bool} {ts : List Tk} {t : Tk} (hts : ts ≠ [] → Ts st b ts) (hlen : ts.length ≤ 1000000) (hv : rlen st.h bv = 5) (hvc : ∀ i, i < 5 → rat st.h bv i = t.cells.getD i .bad)
    (hk : ∀ st', st'.nx = st.nx + 1 → st'.fr = st.fr → (∀ c, c ≠ st.nx → (ts ≠ [] → c ≠ b) → hget st'.h c = hget st.h c) → Ts st' st.nx (ts ++ [t]) → K (tsV st.nx (ts ++ [t])) st') : onER (appV 5 48 (tsV b ts) (.slice bv 0 1 xc 5 xx) st) K := by
  have e2 : tsV st.nx (ts ++ [t]) = .slice st.nx 0 (ts.length + 1) (ts.length + 1) 5 false := by
    unfold tsV
    rw [if_neg (by simp), List.length_append]; rfl
  rw [e2] at hk
  by_cases h : ts = []
  · subst h
    refine o_appK0 (by decide) (by decide) hv fun s' m => ?_
    refine hk s' m.nx m.fr (fun c h1 _ => m.keep c h1) ⟨by rw [m.nx]; omega, m.len, fun i hi => ?_⟩
    have hi' : i < 5 := hi
    rw [m.cell i hi', hvc i hi']
    show t.cells.getD i .bad = (t.cells ++ []).getD i .bad
    rw [List.append_nil]
  · have T := hts h
    have hpos : 0 < ts.length := List.length_pos_iff.2 h
    have e1 : tsV b ts = .slice b 0 ts.length ts.length 5 false := by unfold tsV; rw [if_neg h]
    rw [e1]
    refine o_appK (by decide) T.len.symm hpos (by omega) (by omega) hv fun s' m => ?_
    refine hk s' m.nx m.fr (fun c h1 h2 => m.keep c h1 (h2 h)) ⟨by rw [m.nx]; omega, ?_, fun i hi => ?_⟩
    · rw [List.length_append]; exact m.len
    · rw [List.length_append] at hi
      have hi' : i < 5 * (ts.length + 1) := hi
      rw [m.cell i hi', tcells_snoc, List.getD_eq_getElem?_getD]
      have hl := tcells_len ts
      by_cases hlt : i < 5 * ts.length
      · rw [if_pos hlt, List.getElem?_append_left (by omega), ← List.getD_eq_getElem?_getD]
        exact T.cell i hlt
      · rw [if_neg hlt, List.getElem?_append_right (by omega), ← List.getD_eq_getElem?_getD, hl]
        exact hvc _ (by omega)
end Go.Sy
end

section
set_option maxRecDepth 100000
namespace Go.Sy
open Go.Ev Go.Proofs
variable {base : CallF}
theorem nextM_le {r : List Nat} {p : Nat × Nat} {e n : Nat} {t : Tk} (h : nextM r p = (e, t, n)) : n ≤ r.length := by
  cases r with
  | nil => simp [nextM] at h; omega
  | cons x r' =>
    unfold nextM at h
    simp only at h
    have h1 := lead_le isInner (x :: r')
    have h2 := lead_le isDigit (x :: r')
    have h3 := signN_le (x :: r')
    split at h
    · split at h <;> simp only [Prod.mk.injEq] at h <;> omega
    · split at h
      · split at h <;> simp only [Prod.mk.injEq] at h <;> omega
      · split at h <;> simp only [Prod.mk.injEq] at h <;> omega
theorem lead_pos {p : Nat → Bool} {x : Nat} {r : List Nat} (h : p x = true) : 0 < lead p (x :: r) := by
  simp only [lead, if_pos h]; omega
theorem nextM_kind {r : List Nat} {p : Nat × Nat} {t : Tk} {n : Nat} (h : nextM r p = (0, t, n)) : (t.kind = 5 ↔ n = 0) ∧ (n = 0 ↔ r = []) := by
  cases r with
  | nil => simp [nextM] at h; obtain ⟨h1, h2⟩ := h; subst h1 h2; simp
  | cons x r' =>
    unfold nextM at h
    simp only at h
    split at h
    · rename_i hL
      have hp := lead_pos (p := isInner) (r := r') (show isInner x = true by unfold isInner; rw [hL]; rfl)
      split at h
      · simp at h
      · simp only [Prod.mk.injEq] at h
        obtain ⟨_, h1, h2⟩ := h
        subst h1 h2
        refine ⟨?_, ?_⟩
        · show ((if _ then 4 else 1) = 5 ↔ _)
          split <;> constructor <;> intro h <;> omega
        · constructor
          · intro h; omega
          · intro h; simp at h
    · split at h
      · rename_i hD
        have hp := lead_pos (p := isDigit) (r := r') hD
        split at h
        · simp at h
        · simp only [Prod.mk.injEq] at h
          obtain ⟨_, h1, h2⟩ := h
          subst h1 h2
          refine ⟨?_, ?_⟩
          · show (2 = 5 ↔ _)
            constructor <;> intro h <;> omega
          · constructor
            · intro h; omega
            · intro h; simp at h
      · split at h
        · simp at h
        · rename_i hz
          simp only [Prod.mk.injEq] at h
          obtain ⟨_, h1, h2⟩ := h
          subst h1 h2
          refine ⟨?_, ?_⟩
          · show (3 = 5 ↔ _)
            constructor <;> intro h <;> omega
          · constructor
            · intro h; exact absurd h hz
            · intro h; simp at h
/-- a text's words, and a fault -/
def cutM (r : List Nat) (p : Nat × Nat) : List Tk × (Nat × Nat × Nat) :=
  match h : nextM (r.drop (gaps r)) (walkP p (r.take (gaps r))) with
  | (e, t, n) =>
    if e ≠ 0 then ([], (e, t.line, t.col))
    else if hn : n = 0 then ([t], (0, 0, 0))
    else
      let q := cutM ((r.drop (gaps r)).drop n) (walkP (walkP p (r.take (gaps r))) ((r.drop (gaps r)).take n))
      if q.2.1 ≠ 0 then ([], q.2) else (t :: q.1, q.2)
termination_by r.length
decreasing_by
  have h1 := nextM_le h
  have h2 := gaps_le r
  rw [List.length_drop] at h1
  rw [List.length_drop, List.length_drop]
  omega
theorem cutM_eq (r : List Nat) (p : Nat × Nat) {e n : Nat} {t : Tk} (h : nextM (r.drop (gaps r)) (walkP p (r.take (gaps r))) = (e, t, n)) : cutM r p = if e ≠ 0 then ([], (e, t.line, t.col)) else if n = 0 then ([t], (0, 0, 0)) else if (cutM ((r.drop (gaps r)).drop n) (walkP (walkP p (r.take (gaps r))) ((r.drop (gaps r)).take n))).2.1 ≠ 0 then ([], (cutM ((r.drop (gaps r)).drop n) (walkP (walkP p (r.take (gaps r))) ((r.drop (gaps r)).take n))).2) else (t :: (cutM ((r.drop (gaps r)).drop n) (walkP (walkP p (r.take (gaps r))) ((r.drop (gaps r)).take n))).1, (cutM ((r.drop (gaps r)).drop n) (walkP (walkP p (r.take (gaps r))) ((r.drop (gaps r)).take n))).2) := by
  rw [cutM]
  split
  rename_i e' t' n' h'
  rw [h] at h'
  simp only [Prod.mk.injEq] at h'
  obtain ⟨rfl, rfl, rfl⟩ := h'
  split
  · rfl
  · split <;> rfl
/-- some words ahead -/
def ahead (acc : List Tk) (q : List Tk × (Nat × Nat × Nat)) : List Tk × (Nat × Nat × Nat) := if q.2.1 ≠ 0 then ([], q.2) else (acc ++ q.1, q.2)
def cutT (l : List Nat) : List Tk × (Nat × Nat × Nat) := if 65536 < l.length then ([], (132, 1, 1)) else cutM l (1, 1)
end Go.Sy
end

section
set_option maxRecDepth 100000
namespace Go.Sy
open Go.Ev Go.Proofs
variable {base : CallF}
def fcells (f : Nat × Nat × Nat) : List AV := [.int .i64 (f.1 : Int), .int .i64 (f.2.1 : Int), .int .i64 (f.2.2 : Int)]
/-- a fault in memory -/
structure F3 (s : St) (b : Nat) (f : Nat × Nat × Nat) : Prop where
  len : rlen s.h b = 3
  c0 : rat s.h b 0 = .int .i64 (f.1 : Int)
  c1 : rat s.h b 1 = .int .i64 (f.2.1 : Int)
  c2 : rat s.h b 2 = .int .i64 (f.2.2 : Int)
theorem F3.ld {s : St} {b : Nat} {f : Nat × Nat × Nat} (h : F3 s b f) (K : AV → St → Prop) : onER (ldAV 3 (.ptr b 0) s) K = K (.agg (fcells f)) s := by
  rw [v_ldAn (by decide) (by rw [h.len]; decide)]
  have e : ((List.range 3).map fun i => rat s.h b (0 + i)) = [rat s.h b 0, rat s.h b 1, rat s.h b 2] := rfl
  rw [e, h.c0, h.c1, h.c2]
  rfl
theorem o_stF {s : St} {b : Nat} (f : Nat × Nat × Nat) {K : AV → St → Prop} (hl : rlen s.h b = 3) (hk : ∀ s', s'.nx = s.nx → s'.fr = s.fr → (∀ c, c ≠ b → hget s'.h c = hget s.h c) → F3 s' b f → K undefA s') : onER (stV 3 (.ptr b 0) (.agg (fcells f)) s) K :=
  o_stA 3 rfl (by decide) (by omega) rfl fun s' m1 m2 m3 m4 m5 => hk s' m1 m2 m3 ⟨m4.trans hl, (m5 0).trans (if_pos ⟨by decide, by decide⟩), (m5 1).trans (if_pos ⟨by decide, by decide⟩), (m5 2).trans (if_pos ⟨by decide, by decide⟩)⟩
theorem b_flt (a b c : Nat) (s : St) (K : AV → St → Prop) : onER (buildV [.int .i64 0, .int .i64 0, .int .i64 0] [((0, 1), .int .i64 (a : Int)), ((1, 1), .int .i64 (b : Int)), ((2, 1), .int .i64 (c : Int))] s) K = K (.agg (fcells (a, b, c))) s := by
  have : fillP [.int .i64 0, .int .i64 0, .int .i64 0] [((0, 1), .int .i64 (a : Int)), ((1, 1), .int .i64 (b : Int)), ((2, 1), .int .i64 (c : Int))] = some (fcells (a, b, c)) := rfl
  simp only [buildV, this, onSome, onER]
theorem b_flt1 (s : St) (K : AV → St → Prop) : onER (buildV [.int .i64 0, .int .i64 0, .int .i64 0] [((0, 1), .int .i64 132), ((1, 1), .int .i64 1), ((2, 1), .int .i64 1)] s) K = K (.agg (fcells (132, 1, 1))) s := b_flt 132 1 1 s K
theorem b_cut (l : List Nat) (s : St) (K : AV → St → Prop) : onER (buildV [.str [], .int .i64 0, .int .i64 0, .int .i64 0] [((0, 1), .str l), ((2, 1), .int .i64 1), ((3, 1), .int .i64 1)] s) K = K (.agg [.str l, .int .i64 0, .int .i64 1, .int .i64 1]) s := by
  have : fillP [.str [], .int .i64 0, .int .i64 0, .int .i64 0] [((0, 1), .str l), ((2, 1), .int .i64 1), ((3, 1), .int .i64 1)] = some [.str l, .int .i64 0, .int .i64 1, .int .i64 1] := rfl
  simp only [buildV, this, onSome, onER]
theorem ahead_nil (r : List Nat) (p : Nat × Nat) : ahead [] (cutM r p) = cutM r p := by
  unfold ahead
  generalize hx : nextM (r.drop (gaps r)) (walkP p (r.take (gaps r))) = x
  obtain ⟨e, t, n⟩ := x
  rw [cutM_eq r p hx]
  by_cases he : e ≠ 0
  · rw [if_pos he]; simp [he]
  · rw [if_neg he]
    by_cases hn : n = 0
    · rw [if_pos hn]; simp
    · rw [if_neg hn]
      generalize cutM _ _ = q
      by_cases hq : q.2.1 ≠ 0
      · rw [if_pos hq]; simp [hq]
      · rw [if_neg hq]
        show (if q.2.1 ≠ 0 then _ else _) = _
        rw [if_neg hq]; rfl
theorem ahead_err {acc : List Tk} {r : List Nat} {p : Nat × Nat} {e n : Nat} {t : Tk} (h : nextM (r.drop (gaps r)) (walkP p (r.take (gaps r))) = (e, t, n)) (he : e ≠ 0) : ahead acc (cutM r p) = ([], (e, t.line, t.col)) := by
  rw [cutM_eq r p h, if_pos he]
  unfold ahead
  rw [if_pos he]
theorem ahead_end {acc : List Tk} {r : List Nat} {p : Nat × Nat} {t : Tk} (h : nextM (r.drop (gaps r)) (walkP p (r.take (gaps r))) = (0, t, 0)) : ahead acc (cutM r p) = (acc ++ [t], (0, 0, 0)) := by
  rw [cutM_eq r p h, if_neg (by decide), if_pos rfl]
  rfl
theorem ahead_more {acc : List Tk} {r : List Nat} {p : Nat × Nat} {n : Nat} {t : Tk} (h : nextM (r.drop (gaps r)) (walkP p (r.take (gaps r))) = (0, t, n)) (hn : n ≠ 0) : ahead acc (cutM r p) = ahead (acc ++ [t]) (cutM ((r.drop (gaps r)).drop n) (walkP (walkP p (r.take (gaps r))) ((r.drop (gaps r)).take n))) := by
  rw [cutM_eq r p h, if_neg (by decide), if_neg hn]
  generalize cutM _ _ = q
  unfold ahead
  by_cases hq : q.2.1 ≠ 0
  · rw [if_pos hq, if_pos hq]; simp [hq]
  · rw [if_neg hq, if_neg hq]
    show _ = (if q.2.1 ≠ 0 then _ else _)
    rw [if_neg hq]
    simp
set_option maxHeartbeats 4000000 in
theorem Cut_ok (hb : ∀ f args st, f ∈ [8, 12, 16, 17, 23, 24, 25, 26, 27, 28, 29, 30, 32, 33, 36, 37] → base f args st = .no) (hP : PI base) {l : List Nat} (st : St) (hl : l.length ≤ 4611686018427387904) (h256 : ∀ x ∈ l, x < 256) (K : AV → St → Prop)
    (hK : ∀ b st', Ext st st' → ((cutT l).1 ≠ [] → Ts st' b (cutT l).1 ∧ st.nx ≤ b) → K (.tup [tsV b (cutT l).1, .agg (fcells (cutT l).2)]) st') : CW Tryd.prog base 8 [.str l] st K := by
  refine fn_rule l8 (hb _ _ _ (by simp)) ?_
  simp only [c8, entry, List.map_cons, List.map_nil, List.getD_cons_zero, List.getD_cons_succ]
  unfold b8
  simp (disch := first | decide | assumption | omega) only [qz00, qz01, qz02, qz03, qz04, qz05, qz06, qz07, qz08, qz09, qz0a, qz0b, qz0c, qz0d, qz0e, qz0f, qz0g, qz0h, qz0i, qz0j, qz0k, qz0l, qz0m, qz0n, qz0o, qz0p, qz0q, qz0r, qz0s, qz0t, qz0u, qz0v, qz0w, qz0x, qz0y, qz0z, qz10, qz11, qz12, qz13, qz14, qz15, qz16, qz17, qz18, qz19, qz1a, qz1b, qz1c, qz1d, qz1e, qz1f, qz1g, qz1h, qz1i, qz1j, qz1k, qz1l, qz1m, qz1n, qz1o, qz1p, qz1q, qz1r, qz1s, qz1t, qz1u, qz1v, qz1w, qz1x, qz1y, qz1z, qz20, qz21, qz22, qz23, qz24, qz25, qz26, qz27, qz28, qz29, qz2a, qz2b, qz2c, qz2d, qz2e, qz2f, qz2g, qz2h, qz2i, qz2j, qz2k, qz2l, qz2m, qz2n, qz2o, qz2p, qz2q, qz2r, qz2s, qz2t, qz2u, qz2v, qz2w, qz2x, qz2y, qz2z, qz30, qz31, qz32, qz33, qz34, qz35, qz36, qz37, qz38, qz39, qz3a, qz3b, qz3c, qz3d, Bool.not_true, Bool.not_false, List.cons_append, List.nil_append, List.append_nil]
  refine o_new fun s1 m1 => ?_
  have n1 : s1.nx = st.nx + 1 := m1.nx
  have k1 : Kept st.bare s1 := (Kept.refl _).made m1
  have F1 : rlen s1.h st.nx = 3 := m1.len
  have hst : st.bare.nx = st.nx := rfl
  rw [hst]
  by_cases h1 : 65536 < l.length
  · have h1' : (65536 : Int) < (l.length : Int) := by omega
    have e : cutT l = ([], (132, 1, 1)) := if_pos h1
    rw [e] at hK
    simp (disch := first | decide | assumption | omega) only [i_build3, b_flt1, qz00, qz01, qz02, qz03, qz04, qz05, qz06, qz07, qz08, qz09, qz0a, qz0b, qz0c, qz0d, qz0e, qz0f, qz0g, qz0h, qz0i, qz0j, qz0k, qz0l, qz0m, qz0n, qz0o, qz0p, qz0q, qz0r, qz0s, qz0t, qz0u, qz0v, qz0w, qz0x, qz0y, qz0z, qz10, qz11, qz12, qz13, qz14, qz15, qz16, qz17, qz18, qz19, qz1a, qz1b, qz1c, qz1d, qz1e, qz1f, qz1g, qz1h, qz1i, qz1j, qz1k, qz1l, qz1m, qz1n, qz1o, qz1p, qz1q, qz1r, qz1s, qz1t, qz1u, qz1v, qz1w, qz1x, qz1y, qz1z, qz20, qz21, qz22, qz23, qz24, qz25, qz26, qz27, qz28, qz29, qz2a, qz2b, qz2c, qz2d, qz2e, qz2f, qz2g, qz2h, qz2i, qz2j, qz2k, qz2l, qz2m, qz2n, qz2o, qz2p, qz2q, qz2r, qz2s, qz2t, qz2u, qz2v, qz2w, qz2x, qz2y, qz2z, qz30, qz31, qz32, qz33, qz34, qz35, qz36, qz37, qz38, qz39, qz3a, qz3b, qz3c, qz3d, Bool.not_true, Bool.not_false, List.cons_append, List.nil_append, List.append_nil]
    refine o_stF (132, 1, 1) F1 fun s2 w1 w2 w3 F => ?_
    simp (disch := first | decide | assumption | omega) only [r_resA, F.ld, qz00, qz01, qz02, qz03, qz04, qz05, qz06, qz07, qz08, qz09, qz0a, qz0b, qz0c, qz0d, qz0e, qz0f, qz0g, qz0h, qz0i, qz0j, qz0k, qz0l, qz0m, qz0n, qz0o, qz0p, qz0q, qz0r, qz0s, qz0t, qz0u, qz0v, qz0w, qz0x, qz0y, qz0z, qz10, qz11, qz12, qz13, qz14, qz15, qz16, qz17, qz18, qz19, qz1a, qz1b, qz1c, qz1d, qz1e, qz1f, qz1g, qz1h, qz1i, qz1j, qz1k, qz1l, qz1m, qz1n, qz1o, qz1p, qz1q, qz1r, qz1s, qz1t, qz1u, qz1v, qz1w, qz1x, qz1y, qz1z, qz20, qz21, qz22, qz23, qz24, qz25, qz26, qz27, qz28, qz29, qz2a, qz2b, qz2c, qz2d, qz2e, qz2f, qz2g, qz2h, qz2i, qz2j, qz2k, qz2l, qz2m, qz2n, qz2o, qz2p, qz2q, qz2r, qz2s, qz2t, qz2u, qz2v, qz2w, qz2x, qz2y, qz2z, qz30, qz31, qz32, qz33, qz34, qz35, qz36, qz37, qz38, qz39, qz3a, qz3b, qz3c, qz3d, Bool.not_true, Bool.not_false, List.cons_append, List.nil_append, List.append_nil]
    exact hK 0 s2.bare ⟨by show st.nx ≤ s2.nx; omega, rfl, fun x hx => (w3 x (by omega)).trans (k1.keep x hx)⟩ fun h => absurd rfl h
  · have h1' : ¬ (65536 : Int) < (l.length : Int) := by omega
    have e : cutT l = cutM l (1, 1) := if_neg h1
    rw [e] at hK
    simp (disch := first | decide | assumption | omega) only [i_build3, b_cut, qz00, qz01, qz02, qz03, qz04, qz05, qz06, qz07, qz08, qz09, qz0a, qz0b, qz0c, qz0d, qz0e, qz0f, qz0g, qz0h, qz0i, qz0j, qz0k, qz0l, qz0m, qz0n, qz0o, qz0p, qz0q, qz0r, qz0s, qz0t, qz0u, qz0v, qz0w, qz0x, qz0y, qz0z, qz10, qz11, qz12, qz13, qz14, qz15, qz16, qz17, qz18, qz19, qz1a, qz1b, qz1c, qz1d, qz1e, qz1f, qz1g, qz1h, qz1i, qz1j, qz1k, qz1l, qz1m, qz1n, qz1o, qz1p, qz1q, qz1r, qz1s, qz1t, qz1u, qz1v, qz1w, qz1x, qz1y, qz1z, qz20, qz21, qz22, qz23, qz24, qz25, qz26, qz27, qz28, qz29, qz2a, qz2b, qz2c, qz2d, qz2e, qz2f, qz2g, qz2h, qz2i, qz2j, qz2k, qz2l, qz2m, qz2n, qz2o, qz2p, qz2q, qz2r, qz2s, qz2t, qz2u, qz2v, qz2w, qz2x, qz2y, qz2z, qz30, qz31, qz32, qz33, qz34, qz35, qz36, qz37, qz38, qz39, qz3a, qz3b, qz3c, qz3d, Bool.not_true, Bool.not_false, List.cons_append, List.nil_append, List.append_nil]
    refine o_box rfl fun s2 m2 => ?_
    have n2 : s2.nx = s1.nx + 1 := m2.nx
    have k2 := k1.made m2
    have C2 : Ct s2 s1.nx l 0 (1, 1) := ⟨by omega, m2.len, m2.cell 0 (by show 0 < 4; decide), m2.cell 1 (by show 1 < 4; decide), m2.cell 2 (by show 2 < 4; decide), m2.cell 3 (by show 3 < 4; decide)⟩
    have F2 : rlen s2.h st.nx = 3 := (rlen_same (m2.keep st.nx (by omega))).trans F1
    generalize s1.nx = c at C2 n1 n2
    simp (disch := first | decide | assumption | omega) only [qz00, qz01, qz02, qz03, qz04, qz05, qz06, qz07, qz08, qz09, qz0a, qz0b, qz0c, qz0d, qz0e, qz0f, qz0g, qz0h, qz0i, qz0j, qz0k, qz0l, qz0m, qz0n, qz0o, qz0p, qz0q, qz0r, qz0s, qz0t, qz0u, qz0v, qz0w, qz0x, qz0y, qz0z, qz10, qz11, qz12, qz13, qz14, qz15, qz16, qz17, qz18, qz19, qz1a, qz1b, qz1c, qz1d, qz1e, qz1f, qz1g, qz1h, qz1i, qz1j, qz1k, qz1l, qz1m, qz1n, qz1o, qz1p, qz1q, qz1r, qz1s, qz1t, qz1u, qz1v, qz1w, qz1x, qz1y, qz1z, qz20, qz21, qz22, qz23, qz24, qz25, qz26, qz27, qz28, qz29, qz2a, qz2b, qz2c, qz2d, qz2e, qz2f, qz2g, qz2h, qz2i, qz2j, qz2k, qz2l, qz2m, qz2n, qz2o, qz2p, qz2q, qz2r, qz2s, qz2t, qz2u, qz2v, qz2w, qz2x, qz2y, qz2z, qz30, qz31, qz32, qz33, qz34, qz35, qz36, qz37, qz38, qz39, qz3a, qz3b, qz3c, qz3d, Bool.not_true, Bool.not_false, List.cons_append, List.nil_append, List.append_nil]
    refine wC_loopH (fun mm L s => ∃ (d b : Nat) (acc : List Tk) (p : Nat × Nat), d ≤ l.length ∧ mm = l.length - d ∧ acc.length ≤ d ∧ p.1 ≤ d + 1 ∧ 1 ≤ p.2 ∧ p.2 ≤ d + 1 ∧ Kept st.bare s ∧ c < s.nx ∧ Ct s c l d p ∧ rlen s.h st.nx = 3 ∧ (acc ≠ [] → Ts s b acc ∧ c < b) ∧ cutM l (1, 1) = ahead acc (cutM (l.drop d) p) ∧ Has L 3 (.ptr st.nx 0) ∧ Has L 4 (.ptr c 0) ∧ Has L 5 (tsV b acc)) ?_ l.length ?_
    · rintro mm L s ⟨d, b, acc, p, hd, rfl, hacc, hp1, hp2, hp3, ks, hcs, C, F, hT, hM, i3, i4, i5⟩
      unfold Hold
      have sfr : s.fr = [] := ks.fr
      simp (disch := first | decide | assumption | omega) only [r_onh i4, qz00, qz01, qz02, qz03, qz04, qz05, qz06, qz07, qz08, qz09, qz0a, qz0b, qz0c, qz0d, qz0e, qz0f, qz0g, qz0h, qz0i, qz0j, qz0k, qz0l, qz0m, qz0n, qz0o, qz0p, qz0q, qz0r, qz0s, qz0t, qz0u, qz0v, qz0w, qz0x, qz0y, qz0z, qz10, qz11, qz12, qz13, qz14, qz15, qz16, qz17, qz18, qz19, qz1a, qz1b, qz1c, qz1d, qz1e, qz1f, qz1g, qz1h, qz1i, qz1j, qz1k, qz1l, qz1m, qz1n, qz1o, qz1p, qz1q, qz1r, qz1s, qz1t, qz1u, qz1v, qz1w, qz1x, qz1y, qz1z, qz20, qz21, qz22, qz23, qz24, qz25, qz26, qz27, qz28, qz29, qz2a, qz2b, qz2c, qz2d, qz2e, qz2f, qz2g, qz2h, qz2i, qz2j, qz2k, qz2l, qz2m, qz2n, qz2o, qz2p, qz2q, qz2r, qz2s, qz2t, qz2u, qz2v, qz2w, qz2x, qz2y, qz2z, qz30, qz31, qz32, qz33, qz34, qz35, qz36, qz37, qz38, qz39, qz3a, qz3b, qz3c, qz3d, Bool.not_true, Bool.not_false, List.cons_append, List.nil_append, List.append_nil]
      refine blanks_ok (fun f a s hf => hb _ a s (by simp at hf ⊢; rcases hf with h | h | h | h | h | h | h <;> simp [h])) s C hd (by omega) h256 (by omega) ⟨hp2, by omega⟩ _ fun s3 B3 C3 => ?_
      have hg := gaps_le (l.drop d)
      have hdl : (l.drop d).length = l.length - d := List.length_drop
      have W := walkP_le ((l.drop d).take (gaps (l.drop d))) p hp2
      have hgl : ((l.drop d).take (gaps (l.drop d))).length = gaps (l.drop d) := by rw [List.length_take]; omega
      rw [hgl] at W
      have B3' := B3.back
      have C3' := C3.back (s := s)
      have hcb : st.nx ≤ c := by omega
      have hfc : st.nx ≠ c := by omega
      have k3 : Kept st.bare (Go.Ev.back s s3) := ⟨Nat.le_trans ks.nx B3'.nx, B3'.fr.trans ks.fr, fun x hx => (B3'.keep x (Nat.lt_of_lt_of_le hx ks.nx) (by have : x < st.nx := hx; omega)).trans (ks.keep x hx)⟩
      have hfs : st.nx < s.nx := by omega
      have F3' : rlen (Go.Ev.back s s3).h st.nx = 3 := (rlen_same (B3'.keep st.nx hfs hfc)).trans F
      have hT3 : acc ≠ [] → Ts (Go.Ev.back s s3) b acc ∧ c < b := fun h => ⟨(hT h).1.keep B3'.nx (B3'.keep b (hT h).1.lt (by have := (hT h).2; omega)), (hT h).2⟩
      have hc3 : c < (Go.Ev.back s s3).nx := Nat.lt_of_lt_of_le hcs B3'.nx
      generalize Go.Ev.back s s3 = u at k3 C3' F3' hT3 hc3
      have ufr : u.fr = [] := k3.fr
      have hd2 : (l.drop d).drop (gaps (l.drop d)) = l.drop (d + gaps (l.drop d)) := List.drop_drop
      generalize hgg : gaps (l.drop d) = g at *
      generalize hp' : walkP p ((l.drop d).take g) = p' at *
      simp (disch := first | decide | assumption | omega) only [r_onh i4, qz00, qz01, qz02, qz03, qz04, qz05, qz06, qz07, qz08, qz09, qz0a, qz0b, qz0c, qz0d, qz0e, qz0f, qz0g, qz0h, qz0i, qz0j, qz0k, qz0l, qz0m, qz0n, qz0o, qz0p, qz0q, qz0r, qz0s, qz0t, qz0u, qz0v, qz0w, qz0x, qz0y, qz0z, qz10, qz11, qz12, qz13, qz14, qz15, qz16, qz17, qz18, qz19, qz1a, qz1b, qz1c, qz1d, qz1e, qz1f, qz1g, qz1h, qz1i, qz1j, qz1k, qz1l, qz1m, qz1n, qz1o, qz1p, qz1q, qz1r, qz1s, qz1t, qz1u, qz1v, qz1w, qz1x, qz1y, qz1z, qz20, qz21, qz22, qz23, qz24, qz25, qz26, qz27, qz28, qz29, qz2a, qz2b, qz2c, qz2d, qz2e, qz2f, qz2g, qz2h, qz2i, qz2j, qz2k, qz2l, qz2m, qz2n, qz2o, qz2p, qz2q, qz2r, qz2s, qz2t, qz2u, qz2v, qz2w, qz2x, qz2y, qz2z, qz30, qz31, qz32, qz33, qz34, qz35, qz36, qz37, qz38, qz39, qz3a, qz3b, qz3c, qz3d, Bool.not_true, Bool.not_false, List.cons_append, List.nil_append, List.append_nil]
      refine next_ok (fun f a s hf => hb _ a s (by simp at hf ⊢; rcases hf with h | h | h | h | h | h | h | h | h | h | h | h <;> simp [h])) hP u C3' (by omega) (by omega) h256 (by omega) ⟨by omega, by omega⟩ _ fun e t n hN s4 B4 hC4 => ?_
      have hN' : nextM ((l.drop d).drop (gaps (l.drop d))) (walkP p ((l.drop d).take (gaps (l.drop d)))) = (e, t, n) := by rw [hgg, hd2, hp']; exact hN
      have B4' := B4.back
      have k4 : Kept st.bare (Go.Ev.back u s4) := ⟨Nat.le_trans k3.nx B4'.nx, B4'.fr.trans k3.fr, fun x hx => (B4'.keep x (Nat.lt_of_lt_of_le hx k3.nx) (by have : x < st.nx := hx; omega)).trans (k3.keep x hx)⟩
      have F4 : rlen (Go.Ev.back u s4).h st.nx = 3 := (rlen_same (B4'.keep st.nx (by omega) hfc)).trans F3'
      have hT4 : acc ≠ [] → Ts (Go.Ev.back u s4) b acc ∧ c < b := fun h => ⟨(hT3 h).1.keep B4'.nx (B4'.keep b (hT3 h).1.lt (by have := (hT3 h).2; omega)), (hT3 h).2⟩
      have hc4 : c < (Go.Ev.back u s4).nx := Nat.lt_of_lt_of_le hc3 B4'.nx
      have hC4' := fun h => (hC4 h).back (s := u)
      generalize Go.Ev.back u s4 = v at k4 F4 hT4 hc4 hC4'
      have vfr : v.fr = [] := k4.fr
      simp (disch := first | decide | assumption | omega) only [qz00, qz01, qz02, qz03, qz04, qz05, qz06, qz07, qz08, qz09, qz0a, qz0b, qz0c, qz0d, qz0e, qz0f, qz0g, qz0h, qz0i, qz0j, qz0k, qz0l, qz0m, qz0n, qz0o, qz0p, qz0q, qz0r, qz0s, qz0t, qz0u, qz0v, qz0w, qz0x, qz0y, qz0z, qz10, qz11, qz12, qz13, qz14, qz15, qz16, qz17, qz18, qz19, qz1a, qz1b, qz1c, qz1d, qz1e, qz1f, qz1g, qz1h, qz1i, qz1j, qz1k, qz1l, qz1m, qz1n, qz1o, qz1p, qz1q, qz1r, qz1s, qz1t, qz1u, qz1v, qz1w, qz1x, qz1y, qz1z, qz20, qz21, qz22, qz23, qz24, qz25, qz26, qz27, qz28, qz29, qz2a, qz2b, qz2c, qz2d, qz2e, qz2f, qz2g, qz2h, qz2i, qz2j, qz2k, qz2l, qz2m, qz2n, qz2o, qz2p, qz2q, qz2r, qz2s, qz2t, qz2u, qz2v, qz2w, qz2x, qz2y, qz2z, qz30, qz31, qz32, qz33, qz34, qz35, qz36, qz37, qz38, qz39, qz3a, qz3b, qz3c, qz3d, Bool.not_true, Bool.not_false, List.cons_append, List.nil_append, List.append_nil]
      refine o_new fun s5 m5 => ?_
      have n5 : s5.nx = v.nx + 1 := m5.nx
      have l5 : rlen s5.h v.nx = 5 := m5.len
      have k5 := k4.made m5
      simp (disch := first | decide | assumption | omega) only [qz00, qz01, qz02, qz03, qz04, qz05, qz06, qz07, qz08, qz09, qz0a, qz0b, qz0c, qz0d, qz0e, qz0f, qz0g, qz0h, qz0i, qz0j, qz0k, qz0l, qz0m, qz0n, qz0o, qz0p, qz0q, qz0r, qz0s, qz0t, qz0u, qz0v, qz0w, qz0x, qz0y, qz0z, qz10, qz11, qz12, qz13, qz14, qz15, qz16, qz17, qz18, qz19, qz1a, qz1b, qz1c, qz1d, qz1e, qz1f, qz1g, qz1h, qz1i, qz1j, qz1k, qz1l, qz1m, qz1n, qz1o, qz1p, qz1q, qz1r, qz1s, qz1t, qz1u, qz1v, qz1w, qz1x, qz1y, qz1z, qz20, qz21, qz22, qz23, qz24, qz25, qz26, qz27, qz28, qz29, qz2a, qz2b, qz2c, qz2d, qz2e, qz2f, qz2g, qz2h, qz2i, qz2j, qz2k, qz2l, qz2m, qz2n, qz2o, qz2p, qz2q, qz2r, qz2s, qz2t, qz2u, qz2v, qz2w, qz2x, qz2y, qz2z, qz30, qz31, qz32, qz33, qz34, qz35, qz36, qz37, qz38, qz39, qz3a, qz3b, qz3c, qz3d, Bool.not_true, Bool.not_false, List.cons_append, List.nil_append, List.append_nil]
      refine o_stT l5 (by omega) fun s6 w1 w2 w3 T => ?_
      have k6 : Kept st.bare s6 := ⟨by have := k5.nx; omega, w2.trans k5.fr, fun x hx => (w3 x (by have := k4.nx; have : x < st.bare.nx := hx; omega)).trans (k5.keep x hx)⟩
      have k46 : ∀ x, x ≠ v.nx → hget s6.h x = hget v.h x := fun x hx => (w3 x hx).trans (m5.keep x hx)
      have F6 : rlen s6.h st.nx = 3 := (rlen_same (k46 st.nx (by omega))).trans F4
      have hT6 : acc ≠ [] → Ts s6 b acc ∧ c < b := fun h => ⟨(hT4 h).1.keep (by omega) (k46 b (by have := (hT4 h).1.lt; omega)), (hT4 h).2⟩
      have s6fr : s6.fr = [] := k6.fr
      by_cases he : e = 0
      · have he' : (e : Int) = 0 := by omega
        subst he
        obtain ⟨hk1, hk2⟩ := nextM_kind hN
        have C6 := (hC4' rfl).keep (s' := s6) (by omega) (k46 c (by omega))
        have nle := nextM_le hN
        have hl2 : (l.drop (d + g)).length = l.length - (d + g) := List.length_drop
        have s6n : s6.nx = v.nx + 1 := by omega
        generalize v.nx = tb at T k46 s6n hc4
        simp (disch := first | decide | assumption | omega) only [T.ld, i_buildS15, r_onh i5, qz00, qz01, qz02, qz03, qz04, qz05, qz06, qz07, qz08, qz09, qz0a, qz0b, qz0c, qz0d, qz0e, qz0f, qz0g, qz0h, qz0i, qz0j, qz0k, qz0l, qz0m, qz0n, qz0o, qz0p, qz0q, qz0r, qz0s, qz0t, qz0u, qz0v, qz0w, qz0x, qz0y, qz0z, qz10, qz11, qz12, qz13, qz14, qz15, qz16, qz17, qz18, qz19, qz1a, qz1b, qz1c, qz1d, qz1e, qz1f, qz1g, qz1h, qz1i, qz1j, qz1k, qz1l, qz1m, qz1n, qz1o, qz1p, qz1q, qz1r, qz1s, qz1t, qz1u, qz1v, qz1w, qz1x, qz1y, qz1z, qz20, qz21, qz22, qz23, qz24, qz25, qz26, qz27, qz28, qz29, qz2a, qz2b, qz2c, qz2d, qz2e, qz2f, qz2g, qz2h, qz2i, qz2j, qz2k, qz2l, qz2m, qz2n, qz2o, qz2p, qz2q, qz2r, qz2s, qz2t, qz2u, qz2v, qz2w, qz2x, qz2y, qz2z, qz30, qz31, qz32, qz33, qz34, qz35, qz36, qz37, qz38, qz39, qz3a, qz3b, qz3c, qz3d, Bool.not_true, Bool.not_false, List.cons_append, List.nil_append, List.append_nil]
        refine o_buildST t fun s7 m7 => ?_
        have n7 := m7.nx
        have k7 := k6.made m7
        have T7 := T.keep (s' := s7) (by omega) (m7.keep tb (by omega))
        have F7 : rlen s7.h st.nx = 3 := (rlen_same (m7.keep st.nx (by omega))).trans F6
        have hT7 : acc ≠ [] → Ts s7 b acc ∧ c < b := fun h => ⟨(hT6 h).1.keep (by omega) (m7.keep b (by have := (hT6 h).1.lt; omega)), (hT6 h).2⟩
        have C7 := C6.keep (s' := s7) (by omega) (m7.keep c (by omega))
        simp (disch := first | decide | assumption | omega) only [qz00, qz01, qz02, qz03, qz04, qz05, qz06, qz07, qz08, qz09, qz0a, qz0b, qz0c, qz0d, qz0e, qz0f, qz0g, qz0h, qz0i, qz0j, qz0k, qz0l, qz0m, qz0n, qz0o, qz0p, qz0q, qz0r, qz0s, qz0t, qz0u, qz0v, qz0w, qz0x, qz0y, qz0z, qz10, qz11, qz12, qz13, qz14, qz15, qz16, qz17, qz18, qz19, qz1a, qz1b, qz1c, qz1d, qz1e, qz1f, qz1g, qz1h, qz1i, qz1j, qz1k, qz1l, qz1m, qz1n, qz1o, qz1p, qz1q, qz1r, qz1s, qz1t, qz1u, qz1v, qz1w, qz1x, qz1y, qz1z, qz20, qz21, qz22, qz23, qz24, qz25, qz26, qz27, qz28, qz29, qz2a, qz2b, qz2c, qz2d, qz2e, qz2f, qz2g, qz2h, qz2i, qz2j, qz2k, qz2l, qz2m, qz2n, qz2o, qz2p, qz2q, qz2r, qz2s, qz2t, qz2u, qz2v, qz2w, qz2x, qz2y, qz2z, qz30, qz31, qz32, qz33, qz34, qz35, qz36, qz37, qz38, qz39, qz3a, qz3b, qz3c, qz3d, Bool.not_true, Bool.not_false, List.cons_append, List.nil_append, List.append_nil]
        refine o_appT (t := t) (fun h => (hT7 h).1) (by omega) m7.len (fun i hi => m7.cell i hi) fun s8 q1 q2 q3 TT => ?_
        have T8 := T7.keep (s' := s8) (by omega) (q3 tb (by omega) (fun h => by have := (hT7 h).2; have := (hT4 h).1.lt; omega))
        have k8 : Kept st.bare s8 := ⟨by have := k7.nx; omega, q2.trans k7.fr, fun x hx => (q3 x (by have := k7.nx; have : x < st.bare.nx := hx; omega) (fun h => by have := (hT7 h).2; have : x < st.nx := hx; omega)).trans (k7.keep x hx)⟩
        have F8 : rlen s8.h st.nx = 3 := (rlen_same (q3 st.nx (by omega) (fun h => by have := (hT7 h).2; omega))).trans F7
        have C8 := C7.keep (s' := s8) (by omega) (q3 c (by omega) (fun h => by have := (hT7 h).2; omega))
        have s8fr : s8.fr = [] := k8.fr
        have t0 : 0 < rlen s8.h tb := by rw [T8.len]; decide
        have c0 := T8.c0
        have hcs7 : c < s7.nx := by omega
        generalize s7.nx = b' at TT q1 q3 hcs7
        by_cases hk : t.kind = 5
        · have hk' : (t.kind : Int) = 5 := by omega
          have hn0 := hk1.1 hk
          subst hn0
          have hE := ahead_end (acc := acc) hN'
          rw [hM, hE] at hK
          simp (disch := first | decide | assumption | omega) only [Nat.zero_add, c0, r_onh i3, qz00, qz01, qz02, qz03, qz04, qz05, qz06, qz07, qz08, qz09, qz0a, qz0b, qz0c, qz0d, qz0e, qz0f, qz0g, qz0h, qz0i, qz0j, qz0k, qz0l, qz0m, qz0n, qz0o, qz0p, qz0q, qz0r, qz0s, qz0t, qz0u, qz0v, qz0w, qz0x, qz0y, qz0z, qz10, qz11, qz12, qz13, qz14, qz15, qz16, qz17, qz18, qz19, qz1a, qz1b, qz1c, qz1d, qz1e, qz1f, qz1g, qz1h, qz1i, qz1j, qz1k, qz1l, qz1m, qz1n, qz1o, qz1p, qz1q, qz1r, qz1s, qz1t, qz1u, qz1v, qz1w, qz1x, qz1y, qz1z, qz20, qz21, qz22, qz23, qz24, qz25, qz26, qz27, qz28, qz29, qz2a, qz2b, qz2c, qz2d, qz2e, qz2f, qz2g, qz2h, qz2i, qz2j, qz2k, qz2l, qz2m, qz2n, qz2o, qz2p, qz2q, qz2r, qz2s, qz2t, qz2u, qz2v, qz2w, qz2x, qz2y, qz2z, qz30, qz31, qz32, qz33, qz34, qz35, qz36, qz37, qz38, qz39, qz3a, qz3b, qz3c, qz3d, Bool.not_true, Bool.not_false, List.cons_append, List.nil_append, List.append_nil]
          refine o_stF (0, 0, 0) F8 fun s9 z1 z2 z3 FF => ?_
          simp (disch := first | decide | assumption | omega) only [r_resA, r_onh i3, FF.ld, qz00, qz01, qz02, qz03, qz04, qz05, qz06, qz07, qz08, qz09, qz0a, qz0b, qz0c, qz0d, qz0e, qz0f, qz0g, qz0h, qz0i, qz0j, qz0k, qz0l, qz0m, qz0n, qz0o, qz0p, qz0q, qz0r, qz0s, qz0t, qz0u, qz0v, qz0w, qz0x, qz0y, qz0z, qz10, qz11, qz12, qz13, qz14, qz15, qz16, qz17, qz18, qz19, qz1a, qz1b, qz1c, qz1d, qz1e, qz1f, qz1g, qz1h, qz1i, qz1j, qz1k, qz1l, qz1m, qz1n, qz1o, qz1p, qz1q, qz1r, qz1s, qz1t, qz1u, qz1v, qz1w, qz1x, qz1y, qz1z, qz20, qz21, qz22, qz23, qz24, qz25, qz26, qz27, qz28, qz29, qz2a, qz2b, qz2c, qz2d, qz2e, qz2f, qz2g, qz2h, qz2i, qz2j, qz2k, qz2l, qz2m, qz2n, qz2o, qz2p, qz2q, qz2r, qz2s, qz2t, qz2u, qz2v, qz2w, qz2x, qz2y, qz2z, qz30, qz31, qz32, qz33, qz34, qz35, qz36, qz37, qz38, qz39, qz3a, qz3b, qz3c, qz3d, Bool.not_true, Bool.not_false, List.cons_append, List.nil_append, List.append_nil]
          refine hK b' s9.bare ⟨by show st.nx ≤ s9.nx; have : st.bare.nx ≤ s8.nx := k8.nx; omega, rfl, fun x hx => (z3 x (by omega)).trans (k8.keep x hx)⟩ fun _ => ?_
          have TT9 := TT.keep (s' := s9) (by omega) (z3 b' (by omega))
          exact ⟨⟨TT9.lt, TT9.len, TT9.cell⟩, by omega⟩
        · have hk' : (t.kind : Int) ≠ 5 := by omega
          have hn0 : n ≠ 0 := fun h => hk (hk1.2 h)
          have hE := ahead_more (acc := acc) hN' hn0
          have W2 := walkP_le ((l.drop (d + g)).take n) p' (by omega)
          have hnl : ((l.drop (d + g)).take n).length = n := by rw [List.length_take]; omega
          rw [hnl] at W2
          rw [hgg, hd2, hp', List.drop_drop] at hE
          simp (disch := first | decide | assumption | omega) only [Nat.zero_add, c0, qz00, qz01, qz02, qz03, qz04, qz05, qz06, qz07, qz08, qz09, qz0a, qz0b, qz0c, qz0d, qz0e, qz0f, qz0g, qz0h, qz0i, qz0j, qz0k, qz0l, qz0m, qz0n, qz0o, qz0p, qz0q, qz0r, qz0s, qz0t, qz0u, qz0v, qz0w, qz0x, qz0y, qz0z, qz10, qz11, qz12, qz13, qz14, qz15, qz16, qz17, qz18, qz19, qz1a, qz1b, qz1c, qz1d, qz1e, qz1f, qz1g, qz1h, qz1i, qz1j, qz1k, qz1l, qz1m, qz1n, qz1o, qz1p, qz1q, qz1r, qz1s, qz1t, qz1u, qz1v, qz1w, qz1x, qz1y, qz1z, qz20, qz21, qz22, qz23, qz24, qz25, qz26, qz27, qz28, qz29, qz2a, qz2b, qz2c, qz2d, qz2e, qz2f, qz2g, qz2h, qz2i, qz2j, qz2k, qz2l, qz2m, qz2n, qz2o, qz2p, qz2q, qz2r, qz2s, qz2t, qz2u, qz2v, qz2w, qz2x, qz2y, qz2z, qz30, qz31, qz32, qz33, qz34, qz35, qz36, qz37, qz38, qz39, qz3a, qz3b, qz3c, qz3d, Bool.not_true, Bool.not_false, List.cons_append, List.nil_append, List.append_nil]
          refine ⟨l.length - (d + g + n), by omega, d + g + n, b', acc ++ [t], walkP p' ((l.drop (d + g)).take n), by omega, rfl, ?_, by omega, by omega, by omega, k8, by omega, C8, F8, fun _ => ⟨TT, hcs7⟩, hM.trans hE, ?_⟩
          · rw [List.length_append]; show acc.length + 1 ≤ _; omega
          · simp (disch := decide) only [z0, z1, h_here, h_skip, i3, i4, true_and, and_true]
      · have he' : (e : Int) ≠ 0 := by omega
        have c3 := T.c3
        have c4 := T.c4
        have g3 : 3 < rlen s6.h v.nx := by rw [T.len]; decide
        have g4 : 4 < rlen s6.h v.nx := by rw [T.len]; decide
        have hE := ahead_err (acc := acc) hN' he
        rw [hM, hE] at hK
        simp (disch := first | decide | assumption | omega) only [Nat.zero_add, c3, c4, i_build3, b_flt, r_onh i3, qz00, qz01, qz02, qz03, qz04, qz05, qz06, qz07, qz08, qz09, qz0a, qz0b, qz0c, qz0d, qz0e, qz0f, qz0g, qz0h, qz0i, qz0j, qz0k, qz0l, qz0m, qz0n, qz0o, qz0p, qz0q, qz0r, qz0s, qz0t, qz0u, qz0v, qz0w, qz0x, qz0y, qz0z, qz10, qz11, qz12, qz13, qz14, qz15, qz16, qz17, qz18, qz19, qz1a, qz1b, qz1c, qz1d, qz1e, qz1f, qz1g, qz1h, qz1i, qz1j, qz1k, qz1l, qz1m, qz1n, qz1o, qz1p, qz1q, qz1r, qz1s, qz1t, qz1u, qz1v, qz1w, qz1x, qz1y, qz1z, qz20, qz21, qz22, qz23, qz24, qz25, qz26, qz27, qz28, qz29, qz2a, qz2b, qz2c, qz2d, qz2e, qz2f, qz2g, qz2h, qz2i, qz2j, qz2k, qz2l, qz2m, qz2n, qz2o, qz2p, qz2q, qz2r, qz2s, qz2t, qz2u, qz2v, qz2w, qz2x, qz2y, qz2z, qz30, qz31, qz32, qz33, qz34, qz35, qz36, qz37, qz38, qz39, qz3a, qz3b, qz3c, qz3d, Bool.not_true, Bool.not_false, List.cons_append, List.nil_append, List.append_nil]
        refine o_stF (e, t.line, t.col) F6 fun s7 z1 z2 z3 FF => ?_
        simp (disch := first | decide | assumption | omega) only [r_resA, r_onh i3, FF.ld, qz00, qz01, qz02, qz03, qz04, qz05, qz06, qz07, qz08, qz09, qz0a, qz0b, qz0c, qz0d, qz0e, qz0f, qz0g, qz0h, qz0i, qz0j, qz0k, qz0l, qz0m, qz0n, qz0o, qz0p, qz0q, qz0r, qz0s, qz0t, qz0u, qz0v, qz0w, qz0x, qz0y, qz0z, qz10, qz11, qz12, qz13, qz14, qz15, qz16, qz17, qz18, qz19, qz1a, qz1b, qz1c, qz1d, qz1e, qz1f, qz1g, qz1h, qz1i, qz1j, qz1k, qz1l, qz1m, qz1n, qz1o, qz1p, qz1q, qz1r, qz1s, qz1t, qz1u, qz1v, qz1w, qz1x, qz1y, qz1z, qz20, qz21, qz22, qz23, qz24, qz25, qz26, qz27, qz28, qz29, qz2a, qz2b, qz2c, qz2d, qz2e, qz2f, qz2g, qz2h, qz2i, qz2j, qz2k, qz2l, qz2m, qz2n, qz2o, qz2p, qz2q, qz2r, qz2s, qz2t, qz2u, qz2v, qz2w, qz2x, qz2y, qz2z, qz30, qz31, qz32, qz33, qz34, qz35, qz36, qz37, qz38, qz39, qz3a, qz3b, qz3c, qz3d, Bool.not_true, Bool.not_false, List.cons_append, List.nil_append, List.append_nil]
        exact hK 0 s7.bare ⟨by show st.nx ≤ s7.nx; have : st.bare.nx ≤ s6.nx := k6.nx; omega, rfl, fun x hx => (z3 x (by omega)).trans (k6.keep x hx)⟩ fun h => absurd rfl h
    · refine ⟨0, 0, [], (1, 1), by omega, rfl, by simp, by simp, by simp, by simp, k2, by omega, C2, F2, fun h => absurd rfl h, ?_, ?_⟩
      · rw [List.drop_zero, ahead_nil]
      · have e5 : tsV 0 [] = .nils := rfl
        rw [e5]
        simp (disch := decide) only [z0, z1, h_here, h_skip, true_and, and_true]
end Go.Sy
end

/-
  DERIVED: THE SHELF's CONTRACTS AT THIS DUMP, IN PLAIN WORDS (tools/lay-plain.mjs out of 'TrydShelf.lean', which tools/lay-shelf.mjs wrote): THE SAME DECLARATIONS UNDER THE SAME NAMES: 'import', 'namespace', 'open', 'def', 'theorem' AND NOTHING ELSE: no command of the shelf's: FOR A HAND-IN. Each laying: the table of numbers ('.._ren') and one theorem, a field a fact of the dump's own or the kernel's comparison; each contract: ONE APPLICATION.
-/
namespace Go.Proofs
open Go.Shelf
def Tryd.laysC174_ren : Go.Shelf.Ren := ⟨fun | 174 => 31 | 247 => 34 | 245 => 35 | 287 => 38 | 279 => 39 | 280 => 40 | 281 => 41 | 282 => 42 | 321 => 43 | 322 => 44 | 316 => 45 | 171 => 47 | 205 => 46 | 243 => 48 | 246 => 49 | 283 => 50 | 284 => 51 | 285 => 52 | 286 => 53 | 129 => 55 | 317 => 54 | 318 => 56 | 319 => 57 | 320 => 58 | 337 => 59 | 338 => 60 | n => n, fun | 9 => 9 | 3 => 3 | 2 => 2 | 75 => 49 | 85 => 50 | 4 => 4 | 167 => 56 | 5 => 5 | 53 => 57 | 175 => 58 | 46 => 60 | 168 => 61 | 37 => 28 | 0 => 0 | 210 => 67 | 21 => 21 | 127 => 70 | 145 => 73 | 143 => 71 | 171 => 75 | 173 => 78 | 212 => 82 | 51 => 83 | 20 => 20 | 213 => 84 | 232 => 88 | 233 => 89 | 80 => 90 | n => n, fun | 15 => 0 | 16 => 1 | 17 => 2 | 18 => 3 | 19 => 4 | n => n⟩
theorem Tryd.laysC174 : Go.Proofs.LaysC.n174 Tryd.prog Tryd.laysC174_ren := {
  mixed := by kernel_rfl
  f129 := Tryd.func55.trans (congrArg some (by kernel_rfl))
  f171 := Tryd.func47.trans (congrArg some (by kernel_rfl))
  f174 := Tryd.func31.trans (congrArg some (by kernel_rfl))
  f205 := Tryd.func46.trans (congrArg some (by kernel_rfl))
  f243 := Tryd.func48.trans (congrArg some (by kernel_rfl))
  f245 := Tryd.func35.trans (congrArg some (by kernel_rfl))
  f246 := Tryd.func49.trans (congrArg some (by kernel_rfl))
  f247 := Tryd.func34.trans (congrArg some (by kernel_rfl))
  f279 := Tryd.func39.trans (congrArg some (by kernel_rfl))
  f280 := Tryd.func40.trans (congrArg some (by kernel_rfl))
  f281 := Tryd.func41.trans (congrArg some (by kernel_rfl))
  f282 := Tryd.func42.trans (congrArg some (by kernel_rfl))
  f283 := Tryd.func50.trans (congrArg some (by kernel_rfl))
  f284 := Tryd.func51.trans (congrArg some (by kernel_rfl))
  f285 := Tryd.func52.trans (congrArg some (by kernel_rfl))
  f286 := Tryd.func53.trans (congrArg some (by kernel_rfl))
  f287 := Tryd.func38.trans (congrArg some (by kernel_rfl))
  f316 := Tryd.func45.trans (congrArg some (by kernel_rfl))
  f317 := Tryd.func54.trans (congrArg some (by kernel_rfl))
  f318 := Tryd.func56.trans (congrArg some (by kernel_rfl))
  f319 := Tryd.func57.trans (congrArg some (by kernel_rfl))
  f320 := Tryd.func58.trans (congrArg some (by kernel_rfl))
  f321 := Tryd.func43.trans (congrArg some (by kernel_rfl))
  f322 := Tryd.func44.trans (congrArg some (by kernel_rfl))
  f337 := Tryd.func59.trans (congrArg some (by kernel_rfl))
  f338 := Tryd.func60.trans (congrArg some (by kernel_rfl))
  t0 := Tryd.underlying0
  a0 := Tryd.isAgg0
  z0 := Tryd.sizeOf0
  v0 := Tryd.zeroValue0
  t2 := Tryd.underlying2
  a2 := Tryd.isAgg2
  z2 := Tryd.sizeOf2
  v2 := Tryd.zeroValue2
  t3 := Tryd.underlying3
  a3 := Tryd.isAgg3
  z3 := Tryd.sizeOf3
  v3 := Tryd.zeroValue3
  t4 := Tryd.underlying4
  a4 := Tryd.isAgg4
  z4 := Tryd.sizeOf4
  v4 := Tryd.zeroValue4
  t5 := Tryd.underlying5
  a5 := Tryd.isAgg5
  z5 := Tryd.sizeOf5
  v5 := Tryd.zeroValue5
  t9 := Tryd.underlying9
  a9 := Tryd.isAgg9
  z9 := Tryd.sizeOf9
  v9 := Tryd.zeroValue9
  t20 := Tryd.underlying20
  a20 := Tryd.isAgg20
  z20 := Tryd.sizeOf20
  v20 := Tryd.zeroValue20
  t21 := Tryd.underlying21
  a21 := Tryd.isAgg21
  z21 := Tryd.sizeOf21
  v21 := Tryd.zeroValue21
  t37 := Tryd.underlying28
  a37 := Tryd.isAgg28
  z37 := Tryd.sizeOf28
  v37 := Tryd.zeroValue28
  t46 := Tryd.underlying60
  a46 := Tryd.isAgg60
  z46 := Tryd.sizeOf60
  v46 := Tryd.zeroValue60
  t51 := Tryd.underlying83
  a51 := Tryd.isAgg83
  z51 := Tryd.sizeOf83
  v51 := Tryd.zeroValue83
  t53 := Tryd.underlying57
  a53 := Tryd.isAgg57
  z53 := Tryd.sizeOf57
  v53 := Tryd.zeroValue57
  t75 := Tryd.underlying49
  a75 := Tryd.isAgg49
  z75 := Tryd.sizeOf49
  v75 := Tryd.zeroValue49
  t85 := Tryd.underlying50
  a85 := Tryd.isAgg50
  z85 := Tryd.sizeOf50
  v85 := Tryd.zeroValue50
  t127 := Tryd.underlying70
  a127 := Tryd.isAgg70
  z127 := Tryd.sizeOf70
  v127 := Tryd.zeroValue70
  t143 := Tryd.underlying71
  a143 := Tryd.isAgg71
  z143 := Tryd.sizeOf71
  v143 := Tryd.zeroValue71
  t145 := Tryd.underlying73
  a145 := Tryd.isAgg73
  z145 := Tryd.sizeOf73
  v145 := Tryd.zeroValue73
  t167 := Tryd.underlying56
  a167 := Tryd.isAgg56
  z167 := Tryd.sizeOf56
  v167 := Tryd.zeroValue56
  t168 := Tryd.underlying61
  a168 := Tryd.isAgg61
  z168 := Tryd.sizeOf61
  v168 := Tryd.zeroValue61
  t171 := Tryd.underlying75
  a171 := Tryd.isAgg75
  z171 := Tryd.sizeOf75
  v171 := Tryd.zeroValue75
  t173 := Tryd.underlying78
  a173 := Tryd.isAgg78
  z173 := Tryd.sizeOf78
  v173 := Tryd.zeroValue78
  t175 := Tryd.underlying58
  a175 := Tryd.isAgg58
  z175 := Tryd.sizeOf58
  v175 := Tryd.zeroValue58
  t210 := Tryd.underlying67
  a210 := Tryd.isAgg67
  z210 := Tryd.sizeOf67
  v210 := Tryd.zeroValue67
  t212 := Tryd.underlying82
  a212 := Tryd.isAgg82
  z212 := Tryd.sizeOf82
  v212 := Tryd.zeroValue82
  t213 := Tryd.underlying84
  a213 := Tryd.isAgg84
  z213 := Tryd.sizeOf84
  t232 := Tryd.underlying88
  a232 := Tryd.isAgg88
  z232 := Tryd.sizeOf88
  v232 := Tryd.zeroValue88
  t233 := Tryd.underlying89
  a233 := Tryd.isAgg89
  z233 := Tryd.sizeOf89
  v233 := Tryd.zeroValue89
  g15 := by kernel_rfl
  g16 := by kernel_rfl
  g17 := by kernel_rfl
  g18 := by kernel_rfl
  g19 := by kernel_rfl
  t80 := Tryd.underlying90
  a80 := Tryd.isAgg90
  z80 := Tryd.sizeOf90
  v80 := Tryd.zeroValue90
  i0 := by kernel_rfl
  i2 := by kernel_rfl
  i3 := by kernel_rfl
  i4 := by kernel_rfl
  i5 := by kernel_rfl
  i9 := by kernel_rfl
  i20 := by kernel_rfl
  i21 := by kernel_rfl
  i37 := by kernel_rfl
  i46 := by kernel_rfl
  i51 := by kernel_rfl
  i53 := by kernel_rfl
  i75 := by kernel_rfl
  i80 := by kernel_rfl
  i85 := by kernel_rfl
  i127 := by kernel_rfl
  i143 := by kernel_rfl
  i145 := by kernel_rfl
  i167 := by kernel_rfl
  i168 := by kernel_rfl
  i171 := by kernel_rfl
  i173 := by kernel_rfl
  i175 := by kernel_rfl
  i210 := by kernel_rfl
  i212 := by kernel_rfl
  i232 := by kernel_rfl
  i233 := by kernel_rfl
  m15 := by kernel_rfl
  m16 := by kernel_rfl
  m17 := by kernel_rfl
  m18 := by kernel_rfl
  m19 := by kernel_rfl
  c0 := by kernel_rfl
  c2 := by kernel_rfl
  c3 := by kernel_rfl
  c4 := by kernel_rfl
  c5 := by kernel_rfl
  c9 := by kernel_rfl
  c20 := by kernel_rfl
  c21 := by kernel_rfl
  c37 := by kernel_rfl
  c46 := by kernel_rfl
  c51 := by kernel_rfl
  c53 := by kernel_rfl
  c75 := by kernel_rfl
  c80 := by kernel_rfl
  c85 := by kernel_rfl
  c127 := by kernel_rfl
  c143 := by kernel_rfl
  c145 := by kernel_rfl
  c167 := by kernel_rfl
  c168 := by kernel_rfl
  c171 := by kernel_rfl
  c173 := by kernel_rfl
  c175 := by kernel_rfl
  c210 := by kernel_rfl
  c212 := by kernel_rfl
  c213 := by kernel_rfl
  c232 := by kernel_rfl
  c233 := by kernel_rfl }
open Go.RowKit in
/-- strconv.ParseInt(s, 10, 64), AT EVERY STRING THAT SPELLS AN int64 ('Lib.parseIntB 64 s.data.toList = .ok v'): v, AND NO ERROR. (LAID: no walk: one application.) -/
theorem Tryd.strconv_ParseInt_10_at64_ok (s : ByteArray) (hmax : s.size ≤ 9223372036854775806) (v : Int) (h : Lib.parseIntB 64 s.data.toList = .ok v) (w : World) :
    Calls Tryd.prog 31 #[.string s, .int .i64 10, .int .i64 64] w fun e w' => e = .returned (.tuple #[.int .i64 v, .nilIface]) ∧ (w' = w ∨ ∃ t, w' = Lib.bytesWorld w 5 t) := Any.strconv_ParseInt_10_at64_ok Tryd.laysC174 s hmax v h w
open Go.RowKit in
/-- strconv.ParseInt(s, 10, 64), AT EVERY NUMERAL THAT NO int64 HOLDS: THE GREATEST OR THE LEAST int64, BY THE SIGN ('Lib.intSat 64'), AND AN ERROR THAT IS NOT nil: a *NumError in a new block N: {Func: "ParseInt", Num: s's bytes, Err: what the variable ErrRange holds}. Of what was there nothing has turned. (LAID: no walk: one application.) -/
theorem Tryd.strconv_ParseInt_10_at64_range (s : ByteArray) (hlim : s.size ≤ 281474976710656) (h : Lib.parseIntB 64 s.data.toList = .range) (ev : Value) (w : World) (hv : w.cell? ⟨1, 0, none⟩ = some ev) (hev : ev = .nilIface ∨ ∃ te pe, ev = .iface te pe) :
    Calls Tryd.prog 31 #[.string s, .int .i64 10, .int .i64 64] w fun e w' => ∃ N, e = .returned (.tuple #[.int .i64 (Lib.intSat 64 s.data.toList), .iface 61 (.pointer (some ⟨N, 0, none⟩))]) ∧ w.heap.size ≤ N ∧ w'.heap[N]? = some (.cells #[.string ⟨#[80, 97, 114, 115, 101, 73, 110, 116]⟩, .string s, ev] 67 (0, 0)) ∧ Below w.heap.size w w' := Any.strconv_ParseInt_10_at64_range Tryd.laysC174 s hlim h ev w hv hev
end Go.Proofs

section
set_option maxRecDepth 100000
namespace Go.Sy
open Go.Ev Go.Proofs
open Go.RowKit (Below)

theorem tryd_okP : okP Tryd.prog = true := by kernel_rfl
theorem tryd_mixed : Tryd.prog.follows .mixedOrders = true := by kernel_rfl
theorem runs9 : isTrue (evCall Tryd.prog 100000 200 9 [] st0) = true := by kernel_rfl

/-! ### what the library's ParseInt says of digits -/
def dig8 (l : List UInt8) : Prop := ∀ c ∈ l, 48 ≤ c.toNat ∧ c.toNat ≤ 57
theorem parseM_ok : ∀ (l : List UInt8) (acc : Nat), dig8 l → (acc + 1) * 10 ^ l.length ≤ 100000000 → Lib.parseUintM 18446744073709551615 acc l = .ok ((l.map UInt8.toNat).foldl (fun v c => 10 * v + (c - 48)) acc)
  | [], acc, _, _ => rfl
  | c :: r, acc, hd, h => by
    have hc := hd c (by simp)
    rw [List.length_cons, Nat.pow_succ] at h
    have hp : 1 ≤ 10 ^ r.length := Nat.one_le_pow _ _ (by decide)
    have hacc : (acc + 1) * 10 ≤ 100000000 := by
      have : (acc + 1) * 10 * 1 ≤ (acc + 1) * 10 * 10 ^ r.length := Nat.mul_le_mul_left _ hp
      have e : (acc + 1) * 10 * 10 ^ r.length = (acc + 1) * (10 ^ r.length * 10) := by rw [Nat.mul_assoc, Nat.mul_comm 10]
      omega
    unfold Lib.parseUintM
    rw [if_pos hc, if_neg (by omega), if_neg (by omega), parseM_ok r _ (fun d hd' => hd d (by simp [hd']))]
    · show _ = Lib.NumEnd.ok ((r.map UInt8.toNat).foldl _ (10 * acc + (c.toNat - 48)))
      rw [Nat.mul_comm acc 10]
    · refine Nat.le_trans ?_ h
      have e : (acc + 1) * (10 ^ r.length * 10) = ((acc + 1) * 10) * 10 ^ r.length := by rw [Nat.mul_comm (10 ^ r.length), Nat.mul_assoc]
      rw [e]
      exact Nat.mul_le_mul_right _ (by omega)
theorem parseM_digits : ∀ (l : List UInt8) (acc : Nat), dig8 l → (∃ u, Lib.parseUintM 18446744073709551615 acc l = .ok u) ∨ Lib.parseUintM 18446744073709551615 acc l = .range
  | [], acc, _ => .inl ⟨acc, rfl⟩
  | c :: r, acc, hd => by
    have hc := hd c (by simp)
    unfold Lib.parseUintM
    rw [if_pos hc]
    by_cases h1 : 1844674407370955162 ≤ acc
    · rw [if_pos h1]; exact .inr rfl
    · rw [if_neg h1]
      by_cases h2 : 18446744073709551615 < acc * 10 + (c.toNat - 48)
      · rw [if_pos h2]; exact .inr rfl
      · rw [if_neg h2]
        exact parseM_digits r _ fun d hd' => hd d (by simp [hd'])
theorem parseI_eq {l : List UInt8} (hne : l ≠ []) (hd : dig8 l) : Lib.parseIntB 64 l = Lib.signlessC (2 ^ 63) (Lib.parseUintM 18446744073709551615 0 l) := by
  obtain ⟨c, r, rfl⟩ := List.exists_cons_of_ne_nil hne
  have hc := hd c (by simp)
  rw [Lib.parseIntB_plain 64 c r (by omega) (by omega)]
  unfold Lib.parseUintB
  rw [if_neg (by simp)]
theorem parseI_ok {l : List UInt8} (hne : l ≠ []) (hd : dig8 l) (h7 : l.length ≤ 7) : Lib.parseIntB 64 l = .ok (valN (l.map UInt8.toNat) : Int) := by
  have hle : 10 ^ l.length ≤ 10 ^ 7 := Nat.pow_le_pow_right (by decide) h7
  have e7 : 10 ^ 7 = 10000000 := by decide
  rw [parseI_eq hne hd, parseM_ok l 0 hd (by omega)]
  have hv := valN_le (s := l.map UInt8.toNat) (n := l.length) (by simp) h7 (fun c hc => by
    obtain ⟨b, hb, rfl⟩ := List.mem_map.1 hc
    have := hd b hb
    unfold isDigit
    simp; omega)
  show Lib.signlessC _ (.ok (valN (l.map UInt8.toNat))) = _
  generalize valN (l.map UInt8.toNat) = v at hv
  unfold Lib.signlessC
  simp
  omega
end Go.Sy
end

section
set_option maxRecDepth 100000
namespace Go.Sy
open Go.Ev Go.Proofs
open Go.RowKit (Below)
theorem parseI_any {l : List UInt8} (hne : l ≠ []) (hd : dig8 l) : (∃ v, Lib.parseIntB 64 l = .ok v) ∨ Lib.parseIntB 64 l = .range := by
  rw [parseI_eq hne hd]
  rcases parseM_digits l 0 hd with ⟨u, h⟩ | h
  · rw [h]
    unfold Lib.signlessC
    by_cases hu : 2 ^ 63 ≤ u
    · right; simp only [if_pos hu]
    · left; exact ⟨u, by simp only [if_neg hu]⟩
  · rw [h]; exact .inr rfl
def digB (s : List Nat) : Bool := decide (s ≠ []) && s.all isDigit
theorem digB_iff (s : List Nat) : digB s = true ↔ digits s := by
  unfold digB digits
  simp
/-- wordAlive, told by its run; and what strconv.ParseInt says of digits -/
def baseW : CallF := fun f args st => match args with
  | [] => if f = 9 then .ok (.bool true) st else .no
  | [.str s, .int .i64 a, .int .i64 b] => if f = 31 ∧ a = 10 ∧ b = 64 ∧ digB s = true ∧ s.length ≤ 281474976710656 then (if s.length ≤ 7 then .ok (.tup [.int .i64 (valN s : Int), .nilif]) st else .ok (.tup [.bad, .bad]) st) else .no
  | _ => .no
theorem baseW_9 (st : St) : baseW 9 [] st = .ok (.bool true) st := rfl
theorem baseW_PI : PI baseW := fun s st hd hl => by
  have e : baseW 31 [.str s, .int .i64 10, .int .i64 64] st = if (31 = 31 ∧ (10 : Int) = 10 ∧ (64 : Int) = 64 ∧ digB s = true ∧ s.length ≤ 281474976710656) then (if s.length ≤ 7 then .ok (.tup [.int .i64 (valN s : Int), .nilif]) st else .ok (.tup [.bad, .bad]) st) else .no := rfl
  rw [e, if_pos ⟨rfl, rfl, rfl, (digB_iff s).2 hd, hl⟩]
  exact ⟨fun h => if_pos h, fun h => if_neg (by omega)⟩
/-- what the base does not answer -/
theorem baseW_cases (f : FuncId) (args : List AV) (st : St) : baseW f args st = .no ∨ (f = 9 ∧ args = []) ∨ (f = 31 ∧ ∃ s, args = [.str s, .int .i64 10, .int .i64 64] ∧ digits s ∧ s.length ≤ 281474976710656) := by
  unfold baseW
  split
  · by_cases h : f = 9
    · exact .inr (.inl ⟨h, rfl⟩)
    · exact .inl (if_neg h)
  · rename_i s a b
    by_cases h : f = 31 ∧ a = 10 ∧ b = 64 ∧ digB s = true ∧ s.length ≤ 281474976710656
    · obtain ⟨h1, rfl, rfl, h4, h5⟩ := h
      exact .inr (.inr ⟨h1, s, rfl, (digB_iff s).1 h4, h5⟩)
    · exact .inl (if_neg h)
  · exact .inl rfl
theorem baseW_no (f : FuncId) (args : List AV) (st : St) (h9 : f ≠ 9) (h31 : f ≠ 31) : baseW f args st = .no := by
  rcases baseW_cases f args st with h | ⟨h, _⟩ | ⟨h, _⟩
  · exact h
  · exact absurd h h9
  · exact absurd h h31
/-- a world that has but grown -/
theorem sim_below {ι : Inj} {st : St} {w w' : World} (hs : Sim ι st.h st.nx w) (b : Below w.heap.size w w') : Sim ι st.h st.nx w' ∧ Grew ι w ι w' := by
  have gr : Grew ι w ι w' := ⟨b.os, b.tape, b.output, b.size, fun k hk _ => b.block k hk, fun b B S e => .inl ⟨b, S, e⟩⟩
  exact ⟨⟨fun c B S e => by
    obtain ⟨o, x, h1, h2, h3⟩ := hs.obj c B S e
    exact ⟨o, x, h1, (b.block B (hs.lt e)).trans h2, h3⟩, hs.gone, hs.inj, hs.born, hs.glob.grew gr⟩, gr⟩
theorem baseW_ok : CallOK Tryd.prog baseW := by
  intro f args st ι w vs hs hv
  rcases baseW_cases f args st with h | ⟨rfl, rfl⟩ | ⟨rfl, s, rfl, hd, hl⟩
  · rw [h]; trivial
  · rw [baseW_9]
    have hvs : vs = #[] := by
      have : vs.toList = [] := by simpa [VRs] using hv
      simpa using this
    subst hvs
    have hb : Tryd.f9.body.isSome = true := by kernel_rfl
    obtain ⟨c, hc⟩ := Option.isSome_iff_exists.1 hb
    refine ⟨(okP_spec tryd_okP Tryd.func9 hc).2, Calls.mono (run_true tryd_okP (draw_ok tryd_mixed) runs9 w ⟨hs.glob.1, fun b S e => by cases e⟩) fun e w' ⟨he, hos, ht, ho, hsz, hk⟩ => ⟨_, he, ι, Le.refl ι, ?_, ?_, ?_, Cleanly.refl ι st⟩⟩
    · simp only [VR]
    · exact (sim_below hs ⟨hos, ht, ho, hsz, hk⟩).1
    · exact (sim_below hs ⟨hos, ht, ho, hsz, hk⟩).2
  · simp only [VRs, VR] at hv
    obtain ⟨v1, l1, e1, ⟨bs, rfl, hbs⟩, v2, l2, rfl, rfl, v3, l3, rfl, rfl, rfl⟩ := hv
    have hvs : vs = #[.string bs, .int .i64 10, .int .i64 64] := by
      cases vs; simpa using e1
    subst hvs
    have hlen : bs.data.toList.length = s.length := by rw [← hbs, List.length_map]
    have hsz : bs.size = s.length := by rw [← hlen, Array.length_toList]; rfl
    have hne : bs.data.toList ≠ [] := fun h => hd.1 (by rw [← hbs, h]; rfl)
    have hd8 : dig8 bs.data.toList := fun c hc => by
      have := hd.2 c.toNat (by rw [← hbs]; exact List.mem_map.2 ⟨c, hc, rfl⟩)
      unfold isDigit at this
      simp at this
      omega
    have hent : Ev.Enters Tryd.prog 31 := by
      have hb : Tryd.f31.body.isSome = true := by kernel_rfl
      obtain ⟨c, hc⟩ := Option.isSome_iff_exists.1 hb
      exact (okP_spec tryd_okP Tryd.func31 hc).2
    have okc : ∀ v, Lib.parseIntB 64 bs.data.toList = .ok v → Calls Tryd.prog 31 #[.string bs, .int .i64 10, .int .i64 64] w fun e w' => e = .returned (.tuple #[.int .i64 v, .nilIface]) ∧ Below w.heap.size w w' := fun v h =>
      (Tryd.strconv_ParseInt_10_at64_ok bs (by omega) v h w).mono fun e w' ⟨he, hw⟩ => ⟨he, by
        rcases hw with rfl | ⟨t, rfl⟩
        · exact ⟨rfl, rfl, rfl, Nat.le_refl _, fun _ _ => rfl⟩
        · exact Lib.bytesWorld_below w 5 t⟩
    have hP := baseW_PI s st hd hl
    by_cases h7 : s.length ≤ 7
    · rw [hP.1 h7]
      refine ⟨hent, (okc _ (parseI_ok hne hd8 (by omega))).mono fun e w' ⟨he, hb⟩ => ⟨_, he, ι, Le.refl ι, ?_, (sim_below hs hb).1, (sim_below hs hb).2, Cleanly.refl ι st⟩⟩
      rw [hbs]
      simp only [VR, VRs]
      exact ⟨_, rfl, _, _, rfl, rfl, _, _, rfl, rfl, rfl⟩
    · rw [hP.2 (by omega)]
      refine ⟨hent, ?_⟩
      have fin : ∀ (x y : Value) (w' : World), Below w.heap.size w w' → Done ι w st st (.tup [.bad, .bad]) (.tuple #[x, y]) w' := fun x y w' hb => by
        refine ⟨ι, Le.refl ι, ?_, (sim_below hs hb).1, (sim_below hs hb).2, Cleanly.refl ι st⟩
        simp only [VR, VRs]
        exact ⟨_, rfl, _, _, rfl, trivial, _, _, rfl, trivial, rfl⟩
      rcases parseI_any hne hd8 with ⟨v, h⟩ | h
      · exact (okc v h).mono fun e w' ⟨he, hb⟩ => ⟨_, he, fin _ _ w' hb⟩
      · obtain ⟨te, pe, hg⟩ := hs.glob.1
        exact (Tryd.strconv_ParseInt_10_at64_range bs (by omega) h _ w hg (.inr ⟨te, pe, rfl⟩)).mono fun e w' ⟨N, he, _, _, hb⟩ => ⟨_, he, fin _ _ w' hb⟩
end Go.Sy
end

section
set_option maxRecDepth 100000
namespace Go.Sy
open Go.Ev Go.Proofs
def b6 : Cmd := (.seq (.ops [⟨(some 2), true, none, (.i (.mv (.c (.bool false))))⟩]) (.seq (.seq (.ops [⟨(some 10), false, none, (.call (.c (.fn 9 [])) [])⟩, ⟨(some 11), true, none, (.i (.un .not (.t 10)))⟩]) (.cond (.t 11) (.seq (.ops [⟨(some 2), true, none, (.i (.mv (.c (.bool false))))⟩]) .ret) .skip)) (.seq (.seq (.ops [⟨(some 12), false, none, (.i (.mv (.t 0)))⟩, ⟨(some 13), false, none, (.i (.lenS (.t 12)))⟩, ⟨(some 14), true, none, (.i (.bin .gtr (.t 13) (.c (.int .i64 4000))))⟩]) (.cond (.t 14) (.seq (.ops [⟨(some 2), true, none, (.i (.mv (.c (.bool true))))⟩]) .ret) .skip)) (.seq (.ops [⟨(some 16), false, none, (.i (.mv (.t 0)))⟩, ⟨(some 17), false, none, (.call (.c (.fn 8 [])) [(.t 16)])⟩, ⟨(some 15), false, none, (.i (.mv (.t 17)))⟩, ⟨(some 18), false, none, (.i (.ext (.t 15) 0))⟩, ⟨(some 19), false, none, (.i (.ext (.t 15) 1))⟩, ⟨(some 4), true, none, (.i (.alloc [(.int .i64 0), (.int .i64 0), (.int .i64 0)]))⟩, ⟨(some 3), true, none, (.i (.mv (.t 18)))⟩, ⟨none, false, none, (.i (.st 3 (.t 4) (.t 19)))⟩]) (.seq (.seq (.ops [⟨(some 20), false, none, (.i (.ldA 3 (.t 4)))⟩, ⟨(some 21), false, none, (.i (.build [(.int .i64 0), (.int .i64 0), (.int .i64 0)] []))⟩, ⟨(some 22), true, none, (.i (.gen .neq 25 false (.t 20) (.t 21)))⟩]) (.cond (.t 22) (.seq (.ops [⟨(some 23), false, none, (.i (.mv (.t 3)))⟩, ⟨(some 24), false, none, (.i (.len (.t 23)))⟩, ⟨(some 25), false, none, (.i (.bin .eql (.t 24) (.c (.int .i64 0))))⟩, ⟨(some 26), false, none, (.i (.mv (.t 25)))⟩, ⟨(some 27), false, (some (26, true)), (.i (.fad 1 (.t 4)))⟩, ⟨(some 28), false, (some (26, true)), (.i (.ld1 (.t 27)))⟩, ⟨(some 29), false, (some (26, true)), (.i (.bin .geq (.t 28) (.c (.int .i64 1))))⟩, ⟨(some 30), false, none, (.i (.pick (.t 26) (.t 29) (.c (.bool false))))⟩, ⟨(some 31), false, none, (.i (.mv (.t 30)))⟩, ⟨(some 32), false, (some (31, true)), (.i (.fad 2 (.t 4)))⟩, ⟨(some 33), false, (some (31, true)), (.i (.ld1 (.t 32)))⟩, ⟨(some 34), false, (some (31, true)), (.i (.bin .geq (.t 33) (.c (.int .i64 1))))⟩, ⟨(some 35), false, none, (.i (.pick (.t 31) (.t 34) (.c (.bool false))))⟩, ⟨(some 36), false, none, (.i (.mv (.t 35)))⟩, ⟨(some 37), false, (some (36, true)), (.i (.fad 0 (.t 4)))⟩, ⟨(some 38), false, (some (36, true)), (.i (.ld1 (.t 37)))⟩, ⟨(some 39), false, (some (36, true)), (.i (.bin .eql (.t 38) (.c (.int .i64 131))))⟩, ⟨(some 40), false, (some (36, true)), (.i (.mv (.t 39)))⟩, ⟨(some 41), false, (some (40, false)), (.i (.fad 0 (.t 4)))⟩, ⟨(some 42), false, (some (40, false)), (.i (.ld1 (.t 41)))⟩, ⟨(some 43), false, (some (40, false)), (.i (.bin .eql (.t 42) (.c (.int .i64 132))))⟩, ⟨(some 44), false, (some (36, true)), (.i (.pick (.t 40) (.c (.bool true)) (.t 43)))⟩, ⟨(some 45), false, none, (.i (.pick (.t 36) (.t 44) (.c (.bool false))))⟩, ⟨(some 2), true, none, (.i (.mv (.t 45)))⟩]) .ret) .skip)) (.seq (.ops [⟨(some 5), true, none, (.i (.mv (.c (.int .i64 1))))⟩, ⟨(some 6), true, none, (.i (.mv (.c (.int .i64 1))))⟩, ⟨(some 7), true, none, (.i (.mv (.c (.int .i64 0))))⟩, ⟨(some 8), true, none, (.i (.mv (.c (.int .i64 0))))⟩]) (.seq (.block 0 (.loop (.seq (.seq (.ops [⟨(some 46), false, none, (.i (.mv (.t 7)))⟩, ⟨(some 47), false, none, (.i (.mv (.t 0)))⟩, ⟨(some 48), false, none, (.i (.lenS (.t 47)))⟩, ⟨(some 49), true, none, (.i (.bin .leq (.t 46) (.t 48)))⟩]) (.cond (.t 49) .skip (.exit 0))) (.block 1 (.seq (.seq (.ops [⟨(some 50), false, none, (.i (.mv (.t 8)))⟩, ⟨(some 51), false, none, (.i (.mv (.t 3)))⟩, ⟨(some 52), false, none, (.i (.len (.t 51)))⟩, ⟨(some 53), false, none, (.i (.bin .lss (.t 50) (.t 52)))⟩, ⟨(some 54), false, none, (.i (.mv (.t 53)))⟩, ⟨(some 55), false, (some (54, true)), (.i (.mv (.t 3)))⟩, ⟨(some 56), false, (some (54, true)), (.i (.mv (.t 8)))⟩, ⟨(some 57), false, (some (54, true)), (.i (.idxS 5 (.t 55) (.t 56)))⟩, ⟨(some 58), false, (some (54, true)), (.i (.fad 3 (.t 57)))⟩, ⟨(some 59), false, (some (54, true)), (.i (.ld1 (.t 58)))⟩, ⟨(some 60), false, (some (54, true)), (.i (.mv (.t 5)))⟩, ⟨(some 61), false, (some (54, true)), (.i (.bin .eql (.t 59) (.t 60)))⟩, ⟨(some 62), false, none, (.i (.pick (.t 54) (.t 61) (.c (.bool false))))⟩, ⟨(some 63), false, none, (.i (.mv (.t 62)))⟩, ⟨(some 64), false, (some (63, true)), (.i (.mv (.t 3)))⟩, ⟨(some 65), false, (some (63, true)), (.i (.mv (.t 8)))⟩, ⟨(some 66), false, (some (63, true)), (.i (.idxS 5 (.t 64) (.t 65)))⟩, ⟨(some 67), false, (some (63, true)), (.i (.fad 4 (.t 66)))⟩, ⟨(some 68), false, (some (63, true)), (.i (.ld1 (.t 67)))⟩, ⟨(some 69), false, (some (63, true)), (.i (.mv (.t 6)))⟩, ⟨(some 70), false, (some (63, true)), (.i (.bin .eql (.t 68) (.t 69)))⟩, ⟨(some 71), true, none, (.i (.pick (.t 63) (.t 70) (.c (.bool false))))⟩]) (.cond (.t 71) (.seq (.ops [⟨(some 72), false, none, (.i (.mv (.t 3)))⟩, ⟨(some 73), false, none, (.i (.mv (.t 8)))⟩, ⟨(some 74), false, none, (.i (.idxS 5 (.t 72) (.t 73)))⟩, ⟨(some 75), false, none, (.i (.fad 1 (.t 74)))⟩, ⟨(some 76), false, none, (.i (.ld1 (.t 75)))⟩, ⟨(some 77), false, none, (.i (.lenS (.t 76)))⟩, ⟨(some 9), true, none, (.i (.mv (.t 77)))⟩]) (.seq (.seq (.ops [⟨(some 78), false, none, (.i (.mv (.t 7)))⟩, ⟨(some 79), false, none, (.i (.mv (.t 9)))⟩, ⟨(some 80), false, none, (.i (.bin .add (.t 78) (.t 79)))⟩, ⟨(some 81), false, none, (.i (.mv (.t 0)))⟩, ⟨(some 82), false, none, (.i (.lenS (.t 81)))⟩, ⟨(some 83), false, none, (.i (.bin .gtr (.t 80) (.t 82)))⟩, ⟨(some 84), false, none, (.i (.mv (.t 83)))⟩, ⟨(some 85), false, (some (84, false)), (.i (.mv (.t 0)))⟩, ⟨(some 86), false, (some (84, false)), (.i (.mv (.t 7)))⟩, ⟨(some 87), false, (some (84, false)), (.i (.mv (.t 7)))⟩, ⟨(some 88), false, (some (84, false)), (.i (.mv (.t 9)))⟩, ⟨(some 89), false, (some (84, false)), (.i (.bin .add (.t 87) (.t 88)))⟩, ⟨(some 90), false, (some (84, false)), (.i (.slStr (.t 85) (some (.t 86)) (some (.t 89))))⟩, ⟨(some 91), false, (some (84, false)), (.i (.mv (.t 3)))⟩, ⟨(some 92), false, (some (84, false)), (.i (.mv (.t 8)))⟩, ⟨(some 93), false, (some (84, false)), (.i (.idxS 5 (.t 91) (.t 92)))⟩, ⟨(some 94), false, (some (84, false)), (.i (.fad 1 (.t 93)))⟩, ⟨(some 95), false, (some (84, false)), (.i (.ld1 (.t 94)))⟩, ⟨(some 96), false, (some (84, false)), (.i (.strb .neq (.t 90) (.t 95)))⟩, ⟨(some 97), false, none, (.i (.pick (.t 84) (.c (.bool true)) (.t 96)))⟩, ⟨(some 98), false, none, (.i (.mv (.t 97)))⟩, ⟨(some 99), false, (some (98, false)), (.i (.mv (.t 3)))⟩, ⟨(some 100), false, (some (98, false)), (.i (.mv (.t 8)))⟩, ⟨(some 101), false, (some (98, false)), (.i (.idxS 5 (.t 99) (.t 100)))⟩, ⟨(some 102), false, (some (98, false)), (.i (.fad 0 (.t 101)))⟩, ⟨(some 103), false, (some (98, false)), (.i (.ld1 (.t 102)))⟩, ⟨(some 104), false, (some (98, false)), (.i (.bin .eql (.t 103) (.c (.int .i64 5))))⟩, ⟨(some 105), false, (some (98, false)), (.i (.mv (.t 7)))⟩, ⟨(some 106), false, (some (98, false)), (.i (.mv (.t 0)))⟩, ⟨(some 107), false, (some (98, false)), (.i (.lenS (.t 106)))⟩, ⟨(some 108), false, (some (98, false)), (.i (.bin .eql (.t 105) (.t 107)))⟩, ⟨(some 109), false, (some (98, false)), (.i (.gen .neq 4 false (.t 104) (.t 108)))⟩, ⟨(some 110), false, none, (.i (.pick (.t 98) (.c (.bool true)) (.t 109)))⟩, ⟨(some 111), false, none, (.i (.mv (.t 110)))⟩, ⟨(some 112), false, (some (111, false)), (.i (.mv (.t 9)))⟩, ⟨(some 113), false, (some (111, false)), (.i (.bin .eql (.t 112) (.c (.int .i64 0))))⟩, ⟨(some 114), false, (some (111, false)), (.i (.mv (.t 113)))⟩, ⟨(some 115), false, (some (114, true)), (.i (.mv (.t 7)))⟩, ⟨(some 116), false, (some (114, true)), (.i (.mv (.t 0)))⟩, ⟨(some 117), false, (some (114, true)), (.i (.lenS (.t 116)))⟩, ⟨(some 118), false, (some (114, true)), (.i (.bin .lss (.t 115) (.t 117)))⟩, ⟨(some 119), false, (some (111, false)), (.i (.pick (.t 114) (.t 118) (.c (.bool false))))⟩, ⟨(some 120), true, none, (.i (.pick (.t 111) (.c (.bool true)) (.t 119)))⟩]) (.cond (.t 120) (.seq (.ops [⟨(some 2), true, none, (.i (.mv (.c (.bool false))))⟩]) .ret) .skip)) (.seq (.ops [⟨(some 121), false, none, (.i (.mv (.t 7)))⟩, ⟨(some 122), false, none, (.i (.mv (.t 9)))⟩, ⟨(some 123), false, none, (.i (.bi .max #[3, 3] [(.t 122), (.c (.int .i64 1))]))⟩, ⟨(some 124), false, none, (.i (.bin .add (.t 121) (.t 123)))⟩, ⟨(some 7), true, none, (.i (.mv (.t 124)))⟩]) (.seq (.ops [⟨(some 125), false, none, (.i (.mv (.t 6)))⟩, ⟨(some 126), false, none, (.i (.mv (.t 9)))⟩, ⟨(some 127), false, none, (.i (.bi .max #[3, 3] [(.t 126), (.c (.int .i64 1))]))⟩, ⟨(some 128), false, none, (.i (.bin .add (.t 125) (.t 127)))⟩, ⟨(some 6), true, none, (.i (.mv (.t 128)))⟩]) (.seq (.ops [⟨(some 129), false, none, (.i (.mv (.t 8)))⟩, ⟨(some 130), false, none, (.i (.bin .add (.t 129) (.c (.int .i64 1))))⟩, ⟨(some 8), true, none, (.i (.mv (.t 130)))⟩]) (.exit 1)))))) .skip)) (.seq (.seq (.ops [⟨(some 131), false, none, (.i (.mv (.t 7)))⟩, ⟨(some 132), false, none, (.i (.mv (.t 0)))⟩, ⟨(some 133), false, none, (.i (.lenS (.t 132)))⟩, ⟨(some 134), false, none, (.i (.bin .lss (.t 131) (.t 133)))⟩, ⟨(some 135), false, none, (.i (.mv (.t 134)))⟩, ⟨(some 136), false, (some (135, true)), (.i (.mv (.t 0)))⟩, ⟨(some 137), false, (some (135, true)), (.i (.mv (.t 7)))⟩, ⟨(some 138), false, (some (135, true)), (.i (.ixStr (.t 136) (.t 137)))⟩, ⟨(some 139), false, (some (135, true)), (.i (.bin .eql (.t 138) (.c (.int .u8 10))))⟩, ⟨(some 140), true, none, (.i (.pick (.t 135) (.t 139) (.c (.bool false))))⟩]) (.cond (.t 140) (.seq (.ops [⟨(some 141), false, none, (.i (.mv (.t 5)))⟩, ⟨(some 142), false, none, (.i (.bin .add (.t 141) (.c (.int .i64 1))))⟩, ⟨(some 5), true, none, (.i (.mv (.t 142)))⟩]) (.ops [⟨(some 6), true, none, (.i (.mv (.c (.int .i64 0))))⟩])) .skip)) (.seq (.ops [⟨(some 143), false, none, (.i (.mv (.t 7)))⟩, ⟨(some 144), false, none, (.i (.bin .add (.t 143) (.c (.int .i64 1))))⟩, ⟨(some 7), true, none, (.i (.mv (.t 144)))⟩]) (.ops [⟨(some 145), false, none, (.i (.mv (.t 6)))⟩, ⟨(some 146), false, none, (.i (.bin .add (.t 145) (.c (.int .i64 1))))⟩, ⟨(some 6), true, none, (.i (.mv (.t 146)))⟩])))))))) (.seq (.ops [⟨(some 147), false, none, (.i (.mv (.t 8)))⟩, ⟨(some 148), false, none, (.i (.mv (.t 3)))⟩, ⟨(some 149), false, none, (.i (.len (.t 148)))⟩, ⟨(some 150), false, none, (.i (.bin .eql (.t 147) (.t 149)))⟩, ⟨(some 2), true, none, (.i (.mv (.t 150)))⟩]) .ret))))))))
def c6 : FD := ⟨[0], b6, [(.t 2)]⟩
theorem l6 : lowF Tryd.prog 6 = some c6 := by kernel_rfl
end Go.Sy
end

section
set_option maxRecDepth 100000
namespace Go.Sy
open Go.Ev Go.Proofs
/-! ### where a text's words stand: no program in sight -/
/-- a place behind another -/
def lexL (p q : Nat × Nat) : Prop := p.1 < q.1 ∨ p.1 = q.1 ∧ p.2 < q.2
theorem lexL.trans {p q r : Nat × Nat} (h : lexL p q) (k : lexL q r) : lexL p r := by
  unfold lexL at *; omega
theorem lexL_step (p : Nat × Nat) (x : Nat) : lexL p (stepP p x) := by
  unfold lexL stepP
  split <;> simp
theorem lexL_walk (x : Nat) (l : List Nat) : ∀ p : Nat × Nat, lexL p (walkP p (x :: l)) := by
  induction l generalizing x with
  | nil => exact fun p => lexL_step p x
  | cons y l ih => exact fun p => (lexL_step p x).trans (ih y (stepP p x))
theorem walk_ne {l : List Nat} {a b : Nat} (h : a < b) (hb : b ≤ l.length) (p : Nat × Nat) : walkP p (l.take a) ≠ walkP p (l.take b) := by
  intro e
  have hd : l.take b = l.take a ++ (l.drop a).take (b - a) := by
    have := List.take_add (l := l) (i := a) (j := b - a)
    rw [show a + (b - a) = b by omega] at this
    exact this
  rw [hd, walkP_app] at e
  have hne : (l.drop a).take (b - a) ≠ [] := by
    intro h2
    have := congrArg List.length h2
    rw [List.length_take, List.length_drop] at this
    simp at this
    omega
  obtain ⟨x, r, hx⟩ := List.exists_cons_of_ne_nil hne
  rw [hx] at e
  have := lexL_walk x r (walkP p (l.take a))
  rw [← e] at this
  unfold lexL at this
  omega
theorem walk_step {l : List Nat} {a : Nat} (h : a < l.length) (p : Nat × Nat) : walkP p (l.take (a + 1)) = stepP (walkP p (l.take a)) (l.getD a 0) := by
  rw [take_succ_getD h, walkP_app]; rfl
theorem walk_flat : ∀ (l : List Nat) (p : Nat × Nat), (∀ c ∈ l, c ≠ 10) → walkP p l = (p.1, p.2 + l.length)
  | [], p, _ => rfl
  | x :: l, p, h => by
    show walkP (stepP p x) l = _
    have hx := h x (by simp)
    have e : stepP p x = (p.1, p.2 + 1) := by unfold stepP; rw [if_neg hx]
    rw [e, walk_flat l _ (fun c hc => h c (by simp [hc]))]
    simp only [List.length_cons]
    congr 1
    omega
theorem sign_flat {r : List Nat} : ∀ {xs : List (List Nat)}, (∀ x ∈ xs, ∀ c ∈ x, c ≠ 10) → ∀ c ∈ r.take (firstN r xs), c ≠ 10
  | [], _, c, hc => by simp [firstN] at hc
  | x :: xs, h, c, hc => by
    have e : firstN r (x :: xs) = if begins x r = true then x.length else firstN r xs := rfl
    rw [e] at hc
    by_cases hb : begins x r = true
    · rw [if_pos hb] at hc
      have hb' : r.take x.length = x := of_decide_eq_true hb
      rw [hb'] at hc
      exact h x (by simp) c hc
    · rw [if_neg hb] at hc
      exact sign_flat (fun y hy => h y (by simp [hy])) c hc
/-- a word that is one: its text stands there, and no line ends in it -/
theorem nextM_text {r : List Nat} {p : Nat × Nat} {t : Tk} {n : Nat} (h : nextM r p = (0, t, n)) : t.text = r.take n ∧ t.line = p.1 ∧ t.col = p.2 ∧ ∀ c ∈ r.take n, c ≠ 10 := by
  cases r with
  | nil => simp [nextM] at h; obtain ⟨h1, h2⟩ := h; subst h1 h2; simp
  | cons x r' =>
    unfold nextM at h
    simp only at h
    have h1 := lead_run isInner (x :: r')
    have h2 := lead_run isDigit (x :: r')
    have h3 : ∀ c ∈ (x :: r').take (signN (x :: r')), c ≠ 10 := sign_flat (by decide)
    split at h
    · split at h
      · simp at h
      · simp only [Prod.mk.injEq, true_and] at h
        obtain ⟨h4, h5⟩ := h
        subst h4 h5
        refine ⟨rfl, rfl, rfl, fun c hc e => ?_⟩
        have := h1 c hc
        rw [e] at this
        exact absurd this (by decide)
    · split at h
      · split at h
        · simp at h
        · simp only [Prod.mk.injEq, true_and] at h
          obtain ⟨h4, h5⟩ := h
          subst h4 h5
          refine ⟨rfl, rfl, rfl, fun c hc e => ?_⟩
          have := h2 c hc
          rw [e] at this
          exact absurd this (by decide)
      · split at h
        · simp at h
        · simp only [Prod.mk.injEq, true_and] at h
          obtain ⟨h4, h5⟩ := h
          subst h4 h5
          exact ⟨rfl, rfl, rfl, h3⟩
theorem nextM_err {r : List Nat} {p : Nat × Nat} {e n : Nat} {t : Tk} (h : nextM r p = (e, t, n)) : (e = 0 ∨ e = 131 ∨ e = 132) ∧ t.line = p.1 ∧ t.col = p.2 := by
  cases r with
  | nil => simp [nextM] at h; obtain ⟨h0, h1, h2⟩ := h; subst h0 h1; simp
  | cons x r' =>
    unfold nextM at h
    simp only at h
    split at h
    · split at h <;> simp only [Prod.mk.injEq] at h <;> obtain ⟨h0, h1, h2⟩ := h <;> subst h0 h1 <;> simp
    · split at h
      · split at h <;> simp only [Prod.mk.injEq] at h <;> obtain ⟨h0, h1, h2⟩ := h <;> subst h0 h1 <;> simp
      · split at h <;> simp only [Prod.mk.injEq] at h <;> obtain ⟨h0, h1, h2⟩ := h <;> subst h0 h1 <;> simp
end Go.Sy
end

section
set_option maxRecDepth 100000
namespace Go.Sy
open Go.Ev Go.Proofs
theorem walkP_ge : ∀ (l : List Nat) (p : Nat × Nat), p.1 ≤ (walkP p l).1
  | [], p => Nat.le_refl _
  | x :: l, p => by
    have h1 : p.1 ≤ (stepP p x).1 := by
      unfold stepP
      split <;> simp
    exact Nat.le_trans h1 (walkP_ge l _)
/-- a fault is at a place -/
theorem cutM_fault (k : Nat) : ∀ (r : List Nat) (p : Nat × Nat), r.length ≤ k → 1 ≤ p.1 → 1 ≤ p.2 → (cutM r p).2.1 ≠ 0 → (cutM r p).1 = [] ∧ ((cutM r p).2.1 = 131 ∨ (cutM r p).2.1 = 132) ∧ 1 ≤ (cutM r p).2.2.1 ∧ 1 ≤ (cutM r p).2.2.2 := by
  induction k with
  | zero =>
    intro r p hr h1 h2 hf
    have : r = [] := List.eq_nil_of_length_eq_zero (by omega)
    subst this
    have hg : gaps ([] : List Nat) = 0 := by
      have := gaps_le ([] : List Nat)
      simpa using this
    have hn : nextM (([] : List Nat).drop (gaps [])) (walkP p (([] : List Nat).take (gaps []))) = (0, ⟨5, [], 0, (walkP p (([] : List Nat).take (gaps []))).1, (walkP p (([] : List Nat).take (gaps []))).2⟩, 0) := by
      rw [hg]; rfl
    rw [cutM_eq _ _ hn] at hf
    simp at hf
  | succ k ih =>
    intro r p hr h1 h2 hf
    generalize hx : nextM (r.drop (gaps r)) (walkP p (r.take (gaps r))) = x
    obtain ⟨e, t, n⟩ := x
    obtain ⟨he, hl, hc⟩ := nextM_err hx
    have w1 := walkP_ge (r.take (gaps r)) p
    have w2 := (walkP_le (r.take (gaps r)) p h2).2.2
    rw [cutM_eq r p hx] at hf ⊢
    by_cases h0 : e ≠ 0
    · rw [if_pos h0] at hf ⊢
      refine ⟨rfl, ?_, ?_, ?_⟩
      · show e = 131 ∨ e = 132
        omega
      · show 1 ≤ t.line
        omega
      · show 1 ≤ t.col
        omega
    · rw [if_neg h0] at hf ⊢
      by_cases hn : n = 0
      · rw [if_pos hn] at hf; simp at hf
      · rw [if_neg hn] at hf ⊢
        have hle := nextM_le hx
        have hg := gaps_le r
        rw [List.length_drop] at hle
        have hlen : ((r.drop (gaps r)).drop n).length ≤ k := by rw [List.length_drop, List.length_drop]; omega
        have w3 := walkP_ge ((r.drop (gaps r)).take n) (walkP p (r.take (gaps r)))
        have w4 := (walkP_le ((r.drop (gaps r)).take n) (walkP p (r.take (gaps r))) w2).2.2
        have := ih _ (walkP (walkP p (r.take (gaps r))) ((r.drop (gaps r)).take n)) hlen (by omega) w4
        generalize cutM ((r.drop (gaps r)).drop n) (walkP (walkP p (r.take (gaps r))) ((r.drop (gaps r)).take n)) = q at *
        by_cases hq : q.2.1 ≠ 0
        · rw [if_pos hq]
          obtain ⟨i1, i2, i3, i4⟩ := this hq
          exact ⟨rfl, i2, i3, i4⟩
        · rw [if_neg hq] at hf
          exact absurd hf hq
/-- the words from a byte on -/
def seg (l : List Nat) (e : Nat) : List Tk × (Nat × Nat × Nat) := cutM (l.drop e) (walkP (1, 1) (l.take e))
def gapAt (l : List Nat) (e : Nat) : Nat := e + gaps (l.drop e)
theorem walk_add (l : List Nat) (a b : Nat) : walkP (walkP (1, 1) (l.take a)) ((l.drop a).take b) = walkP (1, 1) (l.take (a + b)) := by
  rw [← walkP_app, ← List.take_add]
theorem gapAt_le {l : List Nat} {e : Nat} (h : e ≤ l.length) : e ≤ gapAt l e ∧ gapAt l e ≤ l.length := by
  have := gaps_le (l.drop e)
  rw [List.length_drop] at this
  unfold gapAt
  omega
/-- one word more -/
theorem seg_step {l : List Nat} {e : Nat} (he : e ≤ l.length) (hf : (seg l e).2.1 = 0) : ∃ t rest, (seg l e).1 = t :: rest ∧ (t.line, t.col) = walkP (1, 1) (l.take (gapAt l e)) ∧ gapAt l e + t.text.length ≤ l.length ∧ t.text = (l.drop (gapAt l e)).take t.text.length ∧ (t.kind = 5 ↔ gapAt l e = l.length) ∧ (t.text.length = 0 ↔ gapAt l e = l.length) ∧
    (gapAt l e = l.length → rest = []) ∧ (gapAt l e < l.length → rest = (seg l (gapAt l e + t.text.length)).1 ∧ (seg l (gapAt l e + t.text.length)).2.1 = 0 ∧ walkP (1, 1) (l.take (gapAt l e + t.text.length)) = ((walkP (1, 1) (l.take (gapAt l e))).1, (walkP (1, 1) (l.take (gapAt l e))).2 + t.text.length)) := by
  have hg := gapAt_le he
  generalize hx : nextM ((l.drop e).drop (gaps (l.drop e))) (walkP (walkP (1, 1) (l.take e)) ((l.drop e).take (gaps (l.drop e)))) = x
  obtain ⟨e0, t, n⟩ := x
  have hx' := hx
  rw [List.drop_drop, walk_add] at hx'
  have hx2 : nextM (l.drop (gapAt l e)) (walkP (1, 1) (l.take (gapAt l e))) = (e0, t, n) := hx'
  have heq := cutM_eq _ _ hx
  simp only [List.drop_drop, walk_add] at heq
  have heq2 : seg l e = if e0 ≠ 0 then ([], (e0, t.line, t.col)) else if n = 0 then ([t], (0, 0, 0)) else if (seg l (gapAt l e + n)).2.1 ≠ 0 then ([], (seg l (gapAt l e + n)).2) else (t :: (seg l (gapAt l e + n)).1, (seg l (gapAt l e + n)).2) := heq
  by_cases h0 : e0 = 0
  · subst h0
    rw [if_neg (by decide)] at heq2
    obtain ⟨t1, t2, t3, t4⟩ := nextM_text hx2
    obtain ⟨k1, k2⟩ := nextM_kind hx2
    have hle := nextM_le hx2
    rw [List.length_drop] at hle
    have htl : t.text.length = n := by rw [t1, List.length_take, List.length_drop]; omega
    have hend : n = 0 ↔ gapAt l e = l.length := by
      rw [k2]
      constructor
      · intro h
        have := congrArg List.length h
        rw [List.length_drop] at this
        simp at this
        omega
      · intro h
        rw [h, List.drop_length]
    by_cases hn : n = 0
    · rw [if_pos hn] at heq2
      refine ⟨t, [], by rw [heq2], by rw [t2, t3], by omega, by rw [htl]; exact t1, by rw [k1, hend], by rw [htl, hend], fun _ => rfl, fun h => ?_⟩
      have := hend.1 hn
      omega
    · rw [if_neg hn] at heq2
      by_cases hq : (seg l (gapAt l e + n)).2.1 ≠ 0
      · rw [if_pos hq] at heq2
        rw [heq2] at hf
        exact absurd hf hq
      · rw [if_neg hq] at heq2
        refine ⟨t, _, by rw [heq2], by rw [t2, t3], by omega, by rw [htl]; exact t1, by rw [k1, hend], by rw [htl, hend], fun h => absurd (hend.2 h) hn, fun _ => ⟨by rw [htl], by rw [htl]; omega, ?_⟩⟩
        rw [htl, ← walk_add l (gapAt l e) n, walk_flat _ _ t4, List.length_take, List.length_drop]
        congr 2
        omega
  · rw [if_pos h0] at heq2
    rw [heq2] at hf
    exact absurd hf h0
theorem seg_0 (l : List Nat) : seg l 0 = cutM l (1, 1) := rfl
end Go.Sy
end

section
set_option maxRecDepth 100000
namespace Go.Sy
open Go.Ev Go.Proofs
section
variable {P : Program} {base : CallF} {st : St} {K : AV → St → Prop} {e : En}
noncomputable def biV (P : Program) (b : Builtin) (ts : Array TypeId) (v u : AV) (st : St) : ER := (builtinF P b ts [O v, O u]).run E0 st
theorem qz3e (b : Builtin) (ts : Array TypeId) (x y : A) : wK P base (.i (.bi b ts [x, y])) e st K = on1 e x fun v => on1 e y fun u => onER (biV P b ts v u st) K := k_2 rfl (fun _ => rfl) K
end
theorem eqI_nat (a b : Nat) : eqI (a : Int) (b : Int) = decide (a = b) := by
  show Nat.beq a b = _
  by_cases h : a = b
  · rw [beq_t h, decide_eq_true h]
  · rw [beq_f h, decide_eq_false h]
theorem eqFl (f g : Nat × Nat × Nat) : (eqF Tryd.prog 20 25).run (.agg (fcells f)) (.agg (fcells g)) = some (decide (f = g)) := by
  have h : (eqF Tryd.prog 20 25).run (.agg (fcells f)) (.agg (fcells g)) = cond (eqI (f.1 : Int) (g.1 : Int)) (cond (eqI (f.2.1 : Int) (g.2.1 : Int)) (cond (eqI (f.2.2 : Int) (g.2.2 : Int)) (some true) (some false)) (some false)) (some false) := by kernel_rfl
  rw [h, eqI_nat, eqI_nat, eqI_nat]
  obtain ⟨a, b, c⟩ := f
  obtain ⟨a', b', c'⟩ := g
  by_cases h1 : a = a' <;> by_cases h2 : b = b' <;> by_cases h3 : c = c' <;> simp [h1, h2, h3]
theorem neqFl (f : Nat × Nat × Nat) (st : St) (K : AV → St → Prop) : onER (genV Tryd.prog .neq 25 false (.agg (fcells f)) (.agg [.int .i64 0, .int .i64 0, .int .i64 0]) st) K = K (.bool (decide (f ≠ (0, 0, 0)))) st := by
  have h : genV Tryd.prog .neq 25 false (.agg (fcells f)) (.agg (fcells (0, 0, 0))) st = onSome ((eqF Tryd.prog 20 25).run (.agg (fcells f)) (.agg (fcells (0, 0, 0)))) fun b => .ok (.bool (cond b false true)) st := by kernel_rfl
  show onER (genV Tryd.prog .neq 25 false (.agg (fcells f)) (.agg (fcells (0, 0, 0))) st) K = _
  rw [h, eqFl]
  by_cases e : f = (0, 0, 0) <;> simp [e, onSome, onER]
theorem neqB (a b : Bool) (st : St) (K : AV → St → Prop) : onER (genV Tryd.prog .neq 4 false (.bool a) (.bool b) st) K = K (.bool (a != b)) st := by
  have : genV Tryd.prog .neq 4 false (.bool a) (.bool b) st = .ok (.bool (a != b)) st := by
    cases a <;> cases b <;> kernel_rfl
  rw [this]; rfl
theorem v_strneq (a : List Nat) (st : St) (K : AV → St → Prop) : onER (strV .neq (.str a) (.str a) st) K = K (.bool false) st := by
  simp [strV, strOp, onSome, onER, strEq_eq]
theorem v_max1 (a : Nat) (st : St) (K : AV → St → Prop) : onER (biV Tryd.prog .max #[3, 3] (.int .i64 (a : Int)) (.int .i64 1) st) K = K (.int .i64 ((max a 1 : Nat) : Int)) st := by
  have h : biV Tryd.prog .max #[3, 3] (.int .i64 (a : Int)) (.int .i64 1) st = onSome (max2 (.int .i64 (a : Int)) (.int .i64 1)) fun v => .ok v st := by kernel_rfl
  rw [h]
  have e : max2 (.int .i64 (a : Int)) (.int .i64 1) = some (.int .i64 ((max a 1 : Nat) : Int)) := by
    show cond (eqK .i64 .i64) (some (AV.int .i64 (cond (Nat.ble (Nat.succ a) 1) (1 : Int) (a : Int)))) none = _
    rw [eqK_self, cond_true]
    by_cases hb : a < 1
    · rw [ble_t hb, Nat.max_eq_right (by omega)]; rfl
    · rw [ble_f (by omega), Nat.max_eq_left (by omega)]; rfl
  rw [e]; rfl
theorem cutM_zero (k : Nat) : ∀ (r : List Nat) (p : Nat × Nat), r.length ≤ k → (cutM r p).2.1 = 0 → (cutM r p).2 = (0, 0, 0) := by
  induction k with
  | zero =>
    intro r p hr _
    have : r = [] := List.eq_nil_of_length_eq_zero (by omega)
    subst this
    have hg : gaps ([] : List Nat) = 0 := by
      have := gaps_le ([] : List Nat)
      simpa using this
    have hn : nextM (([] : List Nat).drop (gaps [])) (walkP p (([] : List Nat).take (gaps []))) = (0, ⟨5, [], 0, (walkP p (([] : List Nat).take (gaps []))).1, (walkP p (([] : List Nat).take (gaps []))).2⟩, 0) := by
      rw [hg]; rfl
    rw [cutM_eq _ _ hn]
    simp
  | succ k ih =>
    intro r p hr hf
    generalize hx : nextM (r.drop (gaps r)) (walkP p (r.take (gaps r))) = x
    obtain ⟨e, t, n⟩ := x
    rw [cutM_eq r p hx] at hf ⊢
    by_cases h0 : e ≠ 0
    · rw [if_pos h0] at hf
      exact absurd hf h0
    · rw [if_neg h0] at hf ⊢
      by_cases hn : n = 0
      · rw [if_pos hn]
      · rw [if_neg hn] at hf ⊢
        have hle := nextM_le hx
        have hg := gaps_le r
        rw [List.length_drop] at hle
        have hlen : ((r.drop (gaps r)).drop n).length ≤ k := by rw [List.length_drop, List.length_drop]; omega
        have := ih _ (walkP (walkP p (r.take (gaps r))) ((r.drop (gaps r)).take n)) hlen
        generalize cutM ((r.drop (gaps r)).drop n) (walkP (walkP p (r.take (gaps r))) ((r.drop (gaps r)).take n)) = q at *
        by_cases hq : q.2.1 ≠ 0
        · rw [if_pos hq] at hf
          exact absurd hf hq
        · rw [if_neg hq]
          exact this (by omega)
theorem cutM_len (k : Nat) : ∀ (r : List Nat) (p : Nat × Nat), r.length ≤ k → (cutM r p).1.length ≤ r.length + 1 := by
  induction k with
  | zero =>
    intro r p hr
    have : r = [] := List.eq_nil_of_length_eq_zero (by omega)
    subst this
    have hg : gaps ([] : List Nat) = 0 := by
      have := gaps_le ([] : List Nat)
      simpa using this
    have hn : nextM (([] : List Nat).drop (gaps [])) (walkP p (([] : List Nat).take (gaps []))) = (0, ⟨5, [], 0, (walkP p (([] : List Nat).take (gaps []))).1, (walkP p (([] : List Nat).take (gaps []))).2⟩, 0) := by
      rw [hg]; rfl
    rw [cutM_eq _ _ hn]
    simp
  | succ k ih =>
    intro r p hr
    generalize hx : nextM (r.drop (gaps r)) (walkP p (r.take (gaps r))) = x
    obtain ⟨e, t, n⟩ := x
    rw [cutM_eq r p hx]
    by_cases h0 : e ≠ 0
    · rw [if_pos h0]; simp
    · rw [if_neg h0]
      by_cases hn : n = 0
      · rw [if_pos hn]; simp
      · rw [if_neg hn]
        have hle := nextM_le hx
        have hg := gaps_le r
        rw [List.length_drop] at hle
        have hlen : ((r.drop (gaps r)).drop n).length ≤ k := by rw [List.length_drop, List.length_drop]; omega
        have := ih _ (walkP (walkP p (r.take (gaps r))) ((r.drop (gaps r)).take n)) hlen
        rw [List.length_drop, List.length_drop] at this
        generalize cutM ((r.drop (gaps r)).drop n) (walkP (walkP p (r.take (gaps r))) ((r.drop (gaps r)).take n)) = q at *
        by_cases hq : q.2.1 ≠ 0
        · rw [if_pos hq]; simp
        · rw [if_neg hq, List.length_cons]
          omega
theorem v_addNN {a b : Nat} (h2 : a + b ≤ 9223372036854775807) (st : St) (K : AV → St → Prop) : onER (binV .add (.int .i64 (a : Int)) (.int .i64 (b : Int)) st) K = K (.int .i64 ((a + b : Nat) : Int)) st := by
  rw [v_add (by omega) (by omega)]; rfl
theorem tcells_at : ∀ {ts : List Tk} {i j : Nat}, i < ts.length → j < 5 → (tcells ts).getD (5 * i + j) .bad = (ts.getD i ⟨0, [], 0, 0, 0⟩).cells.getD j .bad
  | [], i, j, h, _ => by simp at h
  | t :: ts, 0, j, h, hj => by
    show (t.cells ++ tcells ts).getD (5 * 0 + j) .bad = t.cells.getD j .bad
    rw [Nat.mul_zero, Nat.zero_add, List.getD_eq_getElem?_getD, List.getElem?_append_left (by show j < 5; exact hj), ← List.getD_eq_getElem?_getD]
  | t :: ts, i + 1, j, h, hj => by
    show (t.cells ++ tcells ts).getD (5 * (i + 1) + j) .bad = _
    have e : 5 * (i + 1) + j - t.cells.length = 5 * i + j := by show 5 * (i + 1) + j - 5 = _; omega
    rw [List.getD_eq_getElem?_getD, List.getElem?_append_right (by show 5 ≤ _; omega), e, ← List.getD_eq_getElem?_getD]
    exact tcells_at (by simpa using h) hj
end Go.Sy
end

section
set_option maxRecDepth 100000
namespace Go.Sy
open Go.Ev Go.Proofs
variable {base : CallF}
set_option maxHeartbeats 4000000 in
theorem places_ok (hb : ∀ f args st, f ≠ 9 → f ≠ 31 → base f args st = .no) (h9 : ∀ st, base 9 [] st = .ok (.bool true) st) (hP : PI base) {l : List Nat} (hl : l.length ≤ 9223372036854775807) (h256 : ∀ x ∈ l, x < 256) (st : St) : CW Tryd.prog base 6 [.str l] st fun v st' => v = .bool true ∧ Ext st st' := by
  refine fn_rule l6 (hb _ _ _ (by decide) (by decide)) ?_
  simp only [c6, entry, List.map_cons, List.map_nil, List.getD_cons_zero, List.getD_cons_succ]
  unfold b6
  simp (disch := first | decide | assumption | omega) only [qz00, qz01, qz02, qz03, qz04, qz05, qz06, qz07, qz08, qz09, qz0a, qz0b, qz0c, qz0d, qz0e, qz0f, qz0g, qz0h, qz0i, qz0j, qz0k, qz0l, qz0m, qz0n, qz0o, qz0p, qz0q, qz0r, qz0s, qz0t, qz0u, qz0v, qz0w, qz0x, qz0y, qz0z, qz10, qz11, qz12, qz13, qz14, qz15, qz16, qz17, qz18, qz19, qz1a, qz1b, qz1c, qz1d, qz1e, qz1f, qz1g, qz1h, qz1i, qz1j, qz1k, qz1l, qz1m, qz1n, qz1o, qz1p, qz1q, qz1r, qz1s, qz1t, qz1u, qz1v, qz1w, qz1x, qz1y, qz1z, qz20, qz21, qz22, qz23, qz24, qz25, qz26, qz27, qz28, qz29, qz2a, qz2b, qz2c, qz2d, qz2e, qz2f, qz2g, qz2h, qz2i, qz2j, qz2k, qz2l, qz2m, qz2n, qz2o, qz2p, qz2q, qz2r, qz2s, qz2t, qz2u, qz2v, qz2w, qz2x, qz2y, qz2z, qz30, qz31, qz32, qz33, qz34, qz35, qz36, qz37, qz38, qz39, qz3a, qz3b, qz3c, qz3d, Bool.not_true, Bool.not_false, List.cons_append, List.nil_append, List.append_nil]
  refine base_rule (h9 _) ?_
  by_cases h1 : 4000 < l.length
  · have h1' : (4000 : Int) < (l.length : Int) := by omega
    simp (disch := first | decide | assumption | omega) only [qz00, qz01, qz02, qz03, qz04, qz05, qz06, qz07, qz08, qz09, qz0a, qz0b, qz0c, qz0d, qz0e, qz0f, qz0g, qz0h, qz0i, qz0j, qz0k, qz0l, qz0m, qz0n, qz0o, qz0p, qz0q, qz0r, qz0s, qz0t, qz0u, qz0v, qz0w, qz0x, qz0y, qz0z, qz10, qz11, qz12, qz13, qz14, qz15, qz16, qz17, qz18, qz19, qz1a, qz1b, qz1c, qz1d, qz1e, qz1f, qz1g, qz1h, qz1i, qz1j, qz1k, qz1l, qz1m, qz1n, qz1o, qz1p, qz1q, qz1r, qz1s, qz1t, qz1u, qz1v, qz1w, qz1x, qz1y, qz1z, qz20, qz21, qz22, qz23, qz24, qz25, qz26, qz27, qz28, qz29, qz2a, qz2b, qz2c, qz2d, qz2e, qz2f, qz2g, qz2h, qz2i, qz2j, qz2k, qz2l, qz2m, qz2n, qz2o, qz2p, qz2q, qz2r, qz2s, qz2t, qz2u, qz2v, qz2w, qz2x, qz2y, qz2z, qz30, qz31, qz32, qz33, qz34, qz35, qz36, qz37, qz38, qz39, qz3a, qz3b, qz3c, qz3d, Bool.not_true, Bool.not_false, List.cons_append, List.nil_append, List.append_nil]
    exact ⟨trivial, Nat.le_refl _, rfl, fun _ _ => rfl⟩
  · have h1' : ¬ (4000 : Int) < (l.length : Int) := by omega
    simp (disch := first | decide | assumption | omega) only [qz00, qz01, qz02, qz03, qz04, qz05, qz06, qz07, qz08, qz09, qz0a, qz0b, qz0c, qz0d, qz0e, qz0f, qz0g, qz0h, qz0i, qz0j, qz0k, qz0l, qz0m, qz0n, qz0o, qz0p, qz0q, qz0r, qz0s, qz0t, qz0u, qz0v, qz0w, qz0x, qz0y, qz0z, qz10, qz11, qz12, qz13, qz14, qz15, qz16, qz17, qz18, qz19, qz1a, qz1b, qz1c, qz1d, qz1e, qz1f, qz1g, qz1h, qz1i, qz1j, qz1k, qz1l, qz1m, qz1n, qz1o, qz1p, qz1q, qz1r, qz1s, qz1t, qz1u, qz1v, qz1w, qz1x, qz1y, qz1z, qz20, qz21, qz22, qz23, qz24, qz25, qz26, qz27, qz28, qz29, qz2a, qz2b, qz2c, qz2d, qz2e, qz2f, qz2g, qz2h, qz2i, qz2j, qz2k, qz2l, qz2m, qz2n, qz2o, qz2p, qz2q, qz2r, qz2s, qz2t, qz2u, qz2v, qz2w, qz2x, qz2y, qz2z, qz30, qz31, qz32, qz33, qz34, qz35, qz36, qz37, qz38, qz39, qz3a, qz3b, qz3c, qz3d, Bool.not_true, Bool.not_false, List.cons_append, List.nil_append, List.append_nil]
    refine Cut_ok (fun f a s hf => hb _ a s (by intro h; subst h; simp at hf) (by intro h; subst h; simp at hf)) hP st.bare (by omega) h256 _ fun b s1 e1 hT => ?_
    have k1 := Kept.ext e1
    have hct : cutT l = seg l 0 := by unfold cutT; rw [if_neg (by omega), seg_0]
    rw [hct] at hT ⊢
    have hT' : (seg l 0).1 ≠ [] → Ts (Go.Ev.back st.bare s1) b (seg l 0).1 := fun h => ⟨(hT h).1.lt, (hT h).1.len, (hT h).1.cell⟩
    generalize Go.Ev.back st.bare s1 = u at k1 hT'
    have ufr : u.fr = [] := k1.fr
    simp (disch := first | decide | assumption | omega) only [qz00, qz01, qz02, qz03, qz04, qz05, qz06, qz07, qz08, qz09, qz0a, qz0b, qz0c, qz0d, qz0e, qz0f, qz0g, qz0h, qz0i, qz0j, qz0k, qz0l, qz0m, qz0n, qz0o, qz0p, qz0q, qz0r, qz0s, qz0t, qz0u, qz0v, qz0w, qz0x, qz0y, qz0z, qz10, qz11, qz12, qz13, qz14, qz15, qz16, qz17, qz18, qz19, qz1a, qz1b, qz1c, qz1d, qz1e, qz1f, qz1g, qz1h, qz1i, qz1j, qz1k, qz1l, qz1m, qz1n, qz1o, qz1p, qz1q, qz1r, qz1s, qz1t, qz1u, qz1v, qz1w, qz1x, qz1y, qz1z, qz20, qz21, qz22, qz23, qz24, qz25, qz26, qz27, qz28, qz29, qz2a, qz2b, qz2c, qz2d, qz2e, qz2f, qz2g, qz2h, qz2i, qz2j, qz2k, qz2l, qz2m, qz2n, qz2o, qz2p, qz2q, qz2r, qz2s, qz2t, qz2u, qz2v, qz2w, qz2x, qz2y, qz2z, qz30, qz31, qz32, qz33, qz34, qz35, qz36, qz37, qz38, qz39, qz3a, qz3b, qz3c, qz3d, Bool.not_true, Bool.not_false, List.cons_append, List.nil_append, List.append_nil]
    refine o_new fun s2 m2 => ?_
    have k2 := k1.made m2
    have n2 := m2.nx
    have l2 : rlen s2.h u.nx = 3 := m2.len
    simp (disch := first | decide | assumption | omega) only [qz00, qz01, qz02, qz03, qz04, qz05, qz06, qz07, qz08, qz09, qz0a, qz0b, qz0c, qz0d, qz0e, qz0f, qz0g, qz0h, qz0i, qz0j, qz0k, qz0l, qz0m, qz0n, qz0o, qz0p, qz0q, qz0r, qz0s, qz0t, qz0u, qz0v, qz0w, qz0x, qz0y, qz0z, qz10, qz11, qz12, qz13, qz14, qz15, qz16, qz17, qz18, qz19, qz1a, qz1b, qz1c, qz1d, qz1e, qz1f, qz1g, qz1h, qz1i, qz1j, qz1k, qz1l, qz1m, qz1n, qz1o, qz1p, qz1q, qz1r, qz1s, qz1t, qz1u, qz1v, qz1w, qz1x, qz1y, qz1z, qz20, qz21, qz22, qz23, qz24, qz25, qz26, qz27, qz28, qz29, qz2a, qz2b, qz2c, qz2d, qz2e, qz2f, qz2g, qz2h, qz2i, qz2j, qz2k, qz2l, qz2m, qz2n, qz2o, qz2p, qz2q, qz2r, qz2s, qz2t, qz2u, qz2v, qz2w, qz2x, qz2y, qz2z, qz30, qz31, qz32, qz33, qz34, qz35, qz36, qz37, qz38, qz39, qz3a, qz3b, qz3c, qz3d, Bool.not_true, Bool.not_false, List.cons_append, List.nil_append, List.append_nil]
    refine o_stF (seg l 0).2 l2 fun s3 w1 w2 w3 F => ?_
    have k3 : Kept st.bare s3 := ⟨by have := k2.nx; omega, w2.trans k2.fr, fun x hx => (w3 x (by have := k1.nx; have : x < st.bare.nx := hx; omega)).trans (k2.keep x hx)⟩
    have T3 : (seg l 0).1 ≠ [] → Ts s3 b (seg l 0).1 := fun h => (hT' h).keep (by omega) ((w3 b (by have := (hT' h).lt; omega)).trans (m2.keep b (by have := (hT' h).lt; omega)))
    have s3fr : s3.fr = [] := k3.fr
    have done : Ext st s3.bare := ⟨k3.nx, rfl, k3.keep⟩
    have hfault := cutM_fault l.length l (1, 1) (Nat.le_refl _) (by decide) (by decide)
    rw [← seg_0] at hfault
    generalize u.nx = fb at F l2
    have g0 : 0 < rlen s3.h fb := by rw [F.len]; decide
    have g1 : 1 < rlen s3.h fb := by rw [F.len]; decide
    have g2 : 2 < rlen s3.h fb := by rw [F.len]; decide
    have c0 := F.c0
    have c1 := F.c1
    have c2 := F.c2
    by_cases hf : (seg l 0).2 = (0, 0, 0)
    · have hd : decide ((seg l 0).2 ≠ (0, 0, 0)) = false := by simp [hf]
      have hz : (seg l 0).2.1 = 0 := by rw [hf]
      obtain ⟨t0, rest0, hs0, _⟩ := seg_step (Nat.zero_le l.length) hz
      have hne : (seg l 0).1 ≠ [] := by rw [hs0]; simp
      have TT := T3 hne
      have etv : tsV b (seg l 0).1 = .slice b 0 (seg l 0).1.length (seg l 0).1.length 5 false := by unfold tsV; rw [if_neg hne]
      have eN : ∀ (s : St) (K : AV → St → Prop), onER (genV Tryd.prog .neq 25 false (.agg (fcells (seg l 0).2)) (.agg [.int .i64 0, .int .i64 0, .int .i64 0]) s) K = K (.bool false) s := fun s K => by rw [neqFl, hd]
      rw [etv]
      simp (disch := first | decide | assumption | omega) only [F.ld, eN, qz00, qz01, qz02, qz03, qz04, qz05, qz06, qz07, qz08, qz09, qz0a, qz0b, qz0c, qz0d, qz0e, qz0f, qz0g, qz0h, qz0i, qz0j, qz0k, qz0l, qz0m, qz0n, qz0o, qz0p, qz0q, qz0r, qz0s, qz0t, qz0u, qz0v, qz0w, qz0x, qz0y, qz0z, qz10, qz11, qz12, qz13, qz14, qz15, qz16, qz17, qz18, qz19, qz1a, qz1b, qz1c, qz1d, qz1e, qz1f, qz1g, qz1h, qz1i, qz1j, qz1k, qz1l, qz1m, qz1n, qz1o, qz1p, qz1q, qz1r, qz1s, qz1t, qz1u, qz1v, qz1w, qz1x, qz1y, qz1z, qz20, qz21, qz22, qz23, qz24, qz25, qz26, qz27, qz28, qz29, qz2a, qz2b, qz2c, qz2d, qz2e, qz2f, qz2g, qz2h, qz2i, qz2j, qz2k, qz2l, qz2m, qz2n, qz2o, qz2p, qz2q, qz2r, qz2s, qz2t, qz2u, qz2v, qz2w, qz2x, qz2y, qz2z, qz30, qz31, qz32, qz33, qz34, qz35, qz36, qz37, qz38, qz39, qz3a, qz3b, qz3c, qz3d, Bool.not_true, Bool.not_false, List.cons_append, List.nil_append, List.append_nil]
      generalize hts : (seg l 0).1 = ts at TT hne hs0
      refine wC_loopH (fun mm L s => ∃ (pos nx ln cl : Nat), s = s3 ∧ mm = l.length + 1 - pos ∧ ((pos = l.length + 1 ∧ nx = ts.length) ∨ (pos ≤ l.length ∧ ∃ e, e ≤ pos ∧ pos ≤ gapAt l e ∧ ts.drop nx = (seg l e).1 ∧ (seg l e).2.1 = 0 ∧ (ln, cl) = walkP (1, 1) (l.take pos))) ∧ ln ≤ l.length + 1 ∧ cl ≤ l.length + 2 ∧ nx ≤ ts.length ∧ Has L 0 (.str l) ∧ Has L 3 (.slice b 0 ts.length ts.length 5 false) ∧ Has L 5 (.int .i64 (ln : Int)) ∧ Has L 6 (.int .i64 (cl : Int)) ∧ Has L 7 (.int .i64 (pos : Int)) ∧ Has L 8 (.int .i64 (nx : Int))) ?_ (l.length + 1) ?_
      · rintro mm L s ⟨pos, nx, ln, cl, rfl, rfl, hI, hln, hcl, hnx, i0, i3, i5, i6, i7, i8⟩
        unfold Hold
        have htl : ts.length ≤ 1000000 := by
          have := cutM_len l.length l (1, 1) (Nat.le_refl _)
          rw [← seg_0, hts] at this
          omega
        rcases hI with ⟨rfl, rfl⟩ | ⟨hpos, e, he1, he2, hd2, hz2, hp⟩
        · have q1 : ¬ ((l.length + 1 : Nat) : Int) ≤ (l.length : Int) := by omega
          have q2 : (l.length : Int) < ((l.length + 1 : Nat) : Int) := by omega
          simp (disch := first | decide | assumption | omega) only [r_onh i0, r_onh i3, r_onh i5, r_onh i6, r_onh i7, r_onh i8, qz00, qz01, qz02, qz03, qz04, qz05, qz06, qz07, qz08, qz09, qz0a, qz0b, qz0c, qz0d, qz0e, qz0f, qz0g, qz0h, qz0i, qz0j, qz0k, qz0l, qz0m, qz0n, qz0o, qz0p, qz0q, qz0r, qz0s, qz0t, qz0u, qz0v, qz0w, qz0x, qz0y, qz0z, qz10, qz11, qz12, qz13, qz14, qz15, qz16, qz17, qz18, qz19, qz1a, qz1b, qz1c, qz1d, qz1e, qz1f, qz1g, qz1h, qz1i, qz1j, qz1k, qz1l, qz1m, qz1n, qz1o, qz1p, qz1q, qz1r, qz1s, qz1t, qz1u, qz1v, qz1w, qz1x, qz1y, qz1z, qz20, qz21, qz22, qz23, qz24, qz25, qz26, qz27, qz28, qz29, qz2a, qz2b, qz2c, qz2d, qz2e, qz2f, qz2g, qz2h, qz2i, qz2j, qz2k, qz2l, qz2m, qz2n, qz2o, qz2p, qz2q, qz2r, qz2s, qz2t, qz2u, qz2v, qz2w, qz2x, qz2y, qz2z, qz30, qz31, qz32, qz33, qz34, qz35, qz36, qz37, qz38, qz39, qz3a, qz3b, qz3c, qz3d, Bool.not_true, Bool.not_false, List.cons_append, List.nil_append, List.append_nil]
          exact ⟨trivial, done⟩
        · have hpos' : (pos : Int) ≤ (l.length : Int) := by omega
          have wb := walkP_le (l.take pos) (1, 1) (by decide)
          rw [← hp, List.length_take, Nat.min_eq_left hpos] at wb
          have wb1 : ln ≤ 1 + pos := wb.1
          have wb2 : cl ≤ 1 + pos := wb.2.1
          obtain ⟨t, rest, s1', s2', s3', s4', s5', s6', s7', s8'⟩ := seg_step (show e ≤ l.length by omega) hz2
          rw [s1'] at hd2
          have hlt : nx < ts.length := by
            rcases Nat.lt_or_ge nx ts.length with h | h
            · exact h
            · rw [List.drop_of_length_le h] at hd2; simp at hd2
          have hget : ts.getD nx ⟨0, [], 0, 0, 0⟩ = t := by
            have := congrArg List.head? hd2
            rw [List.head?_drop] at this
            rw [List.getD_eq_getElem?_getD, this]; rfl
          have hrest : ts.drop (nx + 1) = rest := by
            have := congrArg List.tail hd2
            rw [List.tail_drop] at this
            exact this
          have cell : ∀ j, j < 5 → rat s.h b (5 * nx + j) = t.cells.getD j .bad := fun j hj => by
            rw [TT.cell _ (by omega), tcells_at hlt hj, hget]
          have hcl5 : 5 * nx + 4 < rlen s.h b := by rw [TT.len]; omega
          have v0 : rat s.h b (nx * 5) = .int .i64 (t.kind : Int) := by rw [show nx * 5 = 5 * nx + 0 by omega]; exact cell 0 (by decide)
          have v1 : rat s.h b (nx * 5 + 1) = .str t.text := by rw [show nx * 5 + 1 = 5 * nx + 1 by omega]; exact cell 1 (by decide)
          have v3 : rat s.h b (nx * 5 + 3) = .int .i64 (t.line : Int) := by rw [show nx * 5 + 3 = 5 * nx + 3 by omega]; exact cell 3 (by decide)
          have v4 : rat s.h b (nx * 5 + 4) = .int .i64 (t.col : Int) := by rw [show nx * 5 + 4 = 5 * nx + 4 by omega]; exact cell 4 (by decide)
          have b0 : nx * 5 < rlen s.h b := by omega
          have b1 : nx * 5 + 1 < rlen s.h b := by omega
          have b3 : nx * 5 + 3 < rlen s.h b := by omega
          have b4 : nx * 5 + 4 < rlen s.h b := by omega
          have hg := gapAt_le (show e ≤ l.length by omega)
          by_cases hat : pos = gapAt l e
          · rw [← hat] at s2' s3' s4' s5' s6' s7' s8'
            rw [← hp] at s2'
            obtain ⟨hL, hC⟩ := Prod.mk.inj s2'
            rw [hL] at v3
            rw [hC] at v4
            generalize hn : t.text.length = n at s3' s4' s6' s8'
            have a1 : ((pos + n : Nat) : Int) ≤ (l.length : Int) := by omega
            have eA := fun (s : St) (K : AV → St → Prop) => v_addNN (a := pos) (b := n) (by omega) s K
            have eS := fun (s : St) (K : AV → St → Prop) => v_sl3 (st := s) (K := K) (l := l) (a := pos) (n := pos + n) (by omega) s3' .i64 .i64
            have en : pos + n - pos = n := by omega
            have eT : (l.drop pos).take n = t.text := s4'.symm
            by_cases hend : pos = l.length
            · have hk : t.kind = 5 := s5'.2 hend
              have hn0 : n = 0 := s6'.2 hend
              subst hn0
              have k5 : (t.kind : Int) = 5 := by omega
              have e5 : (pos : Int) = (l.length : Int) := by omega
              have x1 : ((0 : Nat) : Int) = 0 := rfl
              have hr := s7' hend
              rw [hr] at hrest
              have hnx2 : nx + 1 = ts.length := by
                have := List.drop_eq_nil_iff.1 hrest
                omega
              have m1 : max 0 1 = 1 := rfl
              have eS0 : ∀ (s : St) (K : AV → St → Prop), onER (slStrV (.str l) (some (.int .i64 (pos : Int))) (some (.int .i64 (pos : Int))) s) K = K (.str t.text) s := fun s K => by
                rw [v_sl3 (Nat.le_refl pos) hpos, Nat.sub_self]
                rw [← eT]
              have eB := fun (s : St) (K : AV → St → Prop) => v_addNN (a := pos) (b := 1) (by omega) s K
              have eC := fun (s : St) (K : AV → St → Prop) => v_addNN (a := cl) (b := 1) (by omega) s K
              simp (disch := first | decide | assumption | omega) only [r_onh i0, r_onh i3, r_onh i5, r_onh i6, r_onh i7, r_onh i8, Nat.zero_add, Nat.add_zero, v0, v1, v3, v4, hn, eA, eS0, v_strneq, neqB, bne_self_eq_false, qz3e, v_max1, m1, eB, eC, v_addN, qz00, qz01, qz02, qz03, qz04, qz05, qz06, qz07, qz08, qz09, qz0a, qz0b, qz0c, qz0d, qz0e, qz0f, qz0g, qz0h, qz0i, qz0j, qz0k, qz0l, qz0m, qz0n, qz0o, qz0p, qz0q, qz0r, qz0s, qz0t, qz0u, qz0v, qz0w, qz0x, qz0y, qz0z, qz10, qz11, qz12, qz13, qz14, qz15, qz16, qz17, qz18, qz19, qz1a, qz1b, qz1c, qz1d, qz1e, qz1f, qz1g, qz1h, qz1i, qz1j, qz1k, qz1l, qz1m, qz1n, qz1o, qz1p, qz1q, qz1r, qz1s, qz1t, qz1u, qz1v, qz1w, qz1x, qz1y, qz1z, qz20, qz21, qz22, qz23, qz24, qz25, qz26, qz27, qz28, qz29, qz2a, qz2b, qz2c, qz2d, qz2e, qz2f, qz2g, qz2h, qz2i, qz2j, qz2k, qz2l, qz2m, qz2n, qz2o, qz2p, qz2q, qz2r, qz2s, qz2t, qz2u, qz2v, qz2w, qz2x, qz2y, qz2z, qz30, qz31, qz32, qz33, qz34, qz35, qz36, qz37, qz38, qz39, qz3a, qz3b, qz3c, qz3d, Bool.not_true, Bool.not_false, List.cons_append, List.nil_append, List.append_nil]
              refine ⟨l.length + 1 - (pos + 1), by omega, pos + 1, nx + 1, ln, cl + 1, by first | rfl | trivial, rfl, .inl ⟨by omega, hnx2⟩, by omega, by omega, by omega, ?_⟩
              simp (disch := decide) only [z0, z1, h_here, h_skip, i0, i3, i5, true_and, and_true]
            · have hk : t.kind ≠ 5 := fun h => hend (s5'.1 h)
              have hn0 : n ≠ 0 := fun h => hend (s6'.1 h)
              have k5 : (t.kind : Int) ≠ 5 := by omega
              have e5 : (pos : Int) ≠ (l.length : Int) := by omega
              have x1 : (n : Int) ≠ 0 := by omega
              have m1 : max n 1 = n := Nat.max_eq_left (by omega)
              have eC := fun (s : St) (K : AV → St → Prop) => v_addNN (a := cl) (b := n) (by omega) s K
              simp (disch := first | decide | assumption | omega) only [r_onh i0, r_onh i3, r_onh i5, r_onh i6, r_onh i7, r_onh i8, Nat.zero_add, Nat.add_zero, v0, v1, v3, v4, hn, eA, eS, en, eT, v_strneq, neqB, bne_self_eq_false, qz3e, v_max1, m1, eC, v_addN, qz00, qz01, qz02, qz03, qz04, qz05, qz06, qz07, qz08, qz09, qz0a, qz0b, qz0c, qz0d, qz0e, qz0f, qz0g, qz0h, qz0i, qz0j, qz0k, qz0l, qz0m, qz0n, qz0o, qz0p, qz0q, qz0r, qz0s, qz0t, qz0u, qz0v, qz0w, qz0x, qz0y, qz0z, qz10, qz11, qz12, qz13, qz14, qz15, qz16, qz17, qz18, qz19, qz1a, qz1b, qz1c, qz1d, qz1e, qz1f, qz1g, qz1h, qz1i, qz1j, qz1k, qz1l, qz1m, qz1n, qz1o, qz1p, qz1q, qz1r, qz1s, qz1t, qz1u, qz1v, qz1w, qz1x, qz1y, qz1z, qz20, qz21, qz22, qz23, qz24, qz25, qz26, qz27, qz28, qz29, qz2a, qz2b, qz2c, qz2d, qz2e, qz2f, qz2g, qz2h, qz2i, qz2j, qz2k, qz2l, qz2m, qz2n, qz2o, qz2p, qz2q, qz2r, qz2s, qz2t, qz2u, qz2v, qz2w, qz2x, qz2y, qz2z, qz30, qz31, qz32, qz33, qz34, qz35, qz36, qz37, qz38, qz39, qz3a, qz3b, qz3c, qz3d, Bool.not_true, Bool.not_false, List.cons_append, List.nil_append, List.append_nil]
              obtain ⟨z1, z2, z3⟩ := s8' (by omega)
              refine ⟨l.length + 1 - (pos + n), by omega, pos + n, nx + 1, ln, cl + n, by first | rfl | trivial, rfl, .inr ⟨by omega, pos + n, Nat.le_refl _, (gapAt_le (by omega)).1, hrest.trans z1, z2, by rw [z3, ← hp]⟩, by omega, by omega, by omega, ?_⟩
              simp (disch := decide) only [z0, z1, h_here, h_skip, i0, i3, i5, true_and, and_true]
          · have hlt2 : pos < gapAt l e := by omega
            have hlp : pos < l.length := by omega
            have hlp' : (pos : Int) < (l.length : Int) := by omega
            have hnep := walk_ne hlt2 hg.2 (1, 1)
            rw [← hp, ← s2'] at hnep
            have hw := walk_step hlp (1, 1)
            rw [← hp] at hw
            generalize hch : l.getD pos 0 = ch at hw
            have eX : ∀ (s : St) (K : AV → St → Prop), onER (ixStrV (.str l) (.int .i64 (pos : Int)) s) K = K (.int .u8 (ch : Int)) s := fun s K => by rw [qz37 hlp, hch]
            have eZ : ∀ (s : St) (K : AV → St → Prop), onER (binV .add (.int .i64 0) (.int .i64 1) s) K = K (.int .i64 ((1 : Nat) : Int)) s := fun s K => v_addN (a := 0) (by decide)
            by_cases hline : t.line = ln
            · have hcol : t.col ≠ cl := fun h => hnep (by rw [hline, h])
              have y1 : (t.line : Int) = (ln : Int) := by omega
              have y2 : (t.col : Int) ≠ (cl : Int) := by omega
              by_cases h10 : ch = 10
              · have y3 : (ch : Int) = 10 := by omega
                simp (disch := first | decide | assumption | omega) only [r_onh i0, r_onh i3, r_onh i5, r_onh i6, r_onh i7, r_onh i8, Nat.zero_add, v3, v4, eX, eZ, v_addN, qz00, qz01, qz02, qz03, qz04, qz05, qz06, qz07, qz08, qz09, qz0a, qz0b, qz0c, qz0d, qz0e, qz0f, qz0g, qz0h, qz0i, qz0j, qz0k, qz0l, qz0m, qz0n, qz0o, qz0p, qz0q, qz0r, qz0s, qz0t, qz0u, qz0v, qz0w, qz0x, qz0y, qz0z, qz10, qz11, qz12, qz13, qz14, qz15, qz16, qz17, qz18, qz19, qz1a, qz1b, qz1c, qz1d, qz1e, qz1f, qz1g, qz1h, qz1i, qz1j, qz1k, qz1l, qz1m, qz1n, qz1o, qz1p, qz1q, qz1r, qz1s, qz1t, qz1u, qz1v, qz1w, qz1x, qz1y, qz1z, qz20, qz21, qz22, qz23, qz24, qz25, qz26, qz27, qz28, qz29, qz2a, qz2b, qz2c, qz2d, qz2e, qz2f, qz2g, qz2h, qz2i, qz2j, qz2k, qz2l, qz2m, qz2n, qz2o, qz2p, qz2q, qz2r, qz2s, qz2t, qz2u, qz2v, qz2w, qz2x, qz2y, qz2z, qz30, qz31, qz32, qz33, qz34, qz35, qz36, qz37, qz38, qz39, qz3a, qz3b, qz3c, qz3d, Bool.not_true, Bool.not_false, List.cons_append, List.nil_append, List.append_nil]
                refine ⟨l.length + 1 - (pos + 1), by omega, pos + 1, nx, ln + 1, 1, by first | rfl | trivial, rfl, .inr ⟨by omega, e, by omega, by omega, hd2.trans s1'.symm, hz2, by rw [hw]; unfold stepP; rw [if_pos h10]⟩, by omega, by omega, by omega, ?_⟩
                simp (disch := decide) only [z0, z1, h_here, h_skip, i0, i3, i8, true_and, and_true]
              · have y3 : (ch : Int) ≠ 10 := by omega
                simp (disch := first | decide | assumption | omega) only [r_onh i0, r_onh i3, r_onh i5, r_onh i6, r_onh i7, r_onh i8, Nat.zero_add, v3, v4, eX, eZ, v_addN, qz00, qz01, qz02, qz03, qz04, qz05, qz06, qz07, qz08, qz09, qz0a, qz0b, qz0c, qz0d, qz0e, qz0f, qz0g, qz0h, qz0i, qz0j, qz0k, qz0l, qz0m, qz0n, qz0o, qz0p, qz0q, qz0r, qz0s, qz0t, qz0u, qz0v, qz0w, qz0x, qz0y, qz0z, qz10, qz11, qz12, qz13, qz14, qz15, qz16, qz17, qz18, qz19, qz1a, qz1b, qz1c, qz1d, qz1e, qz1f, qz1g, qz1h, qz1i, qz1j, qz1k, qz1l, qz1m, qz1n, qz1o, qz1p, qz1q, qz1r, qz1s, qz1t, qz1u, qz1v, qz1w, qz1x, qz1y, qz1z, qz20, qz21, qz22, qz23, qz24, qz25, qz26, qz27, qz28, qz29, qz2a, qz2b, qz2c, qz2d, qz2e, qz2f, qz2g, qz2h, qz2i, qz2j, qz2k, qz2l, qz2m, qz2n, qz2o, qz2p, qz2q, qz2r, qz2s, qz2t, qz2u, qz2v, qz2w, qz2x, qz2y, qz2z, qz30, qz31, qz32, qz33, qz34, qz35, qz36, qz37, qz38, qz39, qz3a, qz3b, qz3c, qz3d, Bool.not_true, Bool.not_false, List.cons_append, List.nil_append, List.append_nil]
                refine ⟨l.length + 1 - (pos + 1), by omega, pos + 1, nx, ln, cl + 1, by first | rfl | trivial, rfl, .inr ⟨by omega, e, by omega, by omega, hd2.trans s1'.symm, hz2, by rw [hw]; unfold stepP; rw [if_neg h10]⟩, by omega, by omega, by omega, ?_⟩
                simp (disch := decide) only [z0, z1, h_here, h_skip, i0, i3, i5, i8, true_and, and_true]
            · have y1 : (t.line : Int) ≠ (ln : Int) := by omega
              by_cases h10 : ch = 10
              · have y3 : (ch : Int) = 10 := by omega
                simp (disch := first | decide | assumption | omega) only [r_onh i0, r_onh i3, r_onh i5, r_onh i6, r_onh i7, r_onh i8, Nat.zero_add, v3, v4, eX, eZ, v_addN, qz00, qz01, qz02, qz03, qz04, qz05, qz06, qz07, qz08, qz09, qz0a, qz0b, qz0c, qz0d, qz0e, qz0f, qz0g, qz0h, qz0i, qz0j, qz0k, qz0l, qz0m, qz0n, qz0o, qz0p, qz0q, qz0r, qz0s, qz0t, qz0u, qz0v, qz0w, qz0x, qz0y, qz0z, qz10, qz11, qz12, qz13, qz14, qz15, qz16, qz17, qz18, qz19, qz1a, qz1b, qz1c, qz1d, qz1e, qz1f, qz1g, qz1h, qz1i, qz1j, qz1k, qz1l, qz1m, qz1n, qz1o, qz1p, qz1q, qz1r, qz1s, qz1t, qz1u, qz1v, qz1w, qz1x, qz1y, qz1z, qz20, qz21, qz22, qz23, qz24, qz25, qz26, qz27, qz28, qz29, qz2a, qz2b, qz2c, qz2d, qz2e, qz2f, qz2g, qz2h, qz2i, qz2j, qz2k, qz2l, qz2m, qz2n, qz2o, qz2p, qz2q, qz2r, qz2s, qz2t, qz2u, qz2v, qz2w, qz2x, qz2y, qz2z, qz30, qz31, qz32, qz33, qz34, qz35, qz36, qz37, qz38, qz39, qz3a, qz3b, qz3c, qz3d, Bool.not_true, Bool.not_false, List.cons_append, List.nil_append, List.append_nil]
                refine ⟨l.length + 1 - (pos + 1), by omega, pos + 1, nx, ln + 1, 1, by first | rfl | trivial, rfl, .inr ⟨by omega, e, by omega, by omega, hd2.trans s1'.symm, hz2, by rw [hw]; unfold stepP; rw [if_pos h10]⟩, by omega, by omega, by omega, ?_⟩
                simp (disch := decide) only [z0, z1, h_here, h_skip, i0, i3, i8, true_and, and_true]
              · have y3 : (ch : Int) ≠ 10 := by omega
                simp (disch := first | decide | assumption | omega) only [r_onh i0, r_onh i3, r_onh i5, r_onh i6, r_onh i7, r_onh i8, Nat.zero_add, v3, v4, eX, eZ, v_addN, qz00, qz01, qz02, qz03, qz04, qz05, qz06, qz07, qz08, qz09, qz0a, qz0b, qz0c, qz0d, qz0e, qz0f, qz0g, qz0h, qz0i, qz0j, qz0k, qz0l, qz0m, qz0n, qz0o, qz0p, qz0q, qz0r, qz0s, qz0t, qz0u, qz0v, qz0w, qz0x, qz0y, qz0z, qz10, qz11, qz12, qz13, qz14, qz15, qz16, qz17, qz18, qz19, qz1a, qz1b, qz1c, qz1d, qz1e, qz1f, qz1g, qz1h, qz1i, qz1j, qz1k, qz1l, qz1m, qz1n, qz1o, qz1p, qz1q, qz1r, qz1s, qz1t, qz1u, qz1v, qz1w, qz1x, qz1y, qz1z, qz20, qz21, qz22, qz23, qz24, qz25, qz26, qz27, qz28, qz29, qz2a, qz2b, qz2c, qz2d, qz2e, qz2f, qz2g, qz2h, qz2i, qz2j, qz2k, qz2l, qz2m, qz2n, qz2o, qz2p, qz2q, qz2r, qz2s, qz2t, qz2u, qz2v, qz2w, qz2x, qz2y, qz2z, qz30, qz31, qz32, qz33, qz34, qz35, qz36, qz37, qz38, qz39, qz3a, qz3b, qz3c, qz3d, Bool.not_true, Bool.not_false, List.cons_append, List.nil_append, List.append_nil]
                refine ⟨l.length + 1 - (pos + 1), by omega, pos + 1, nx, ln, cl + 1, by first | rfl | trivial, rfl, .inr ⟨by omega, e, by omega, by omega, hd2.trans s1'.symm, hz2, by rw [hw]; unfold stepP; rw [if_neg h10]⟩, by omega, by omega, by omega, ?_⟩
                simp (disch := decide) only [z0, z1, h_here, h_skip, i0, i3, i5, i8, true_and, and_true]
      · refine ⟨0, 0, 1, 1, rfl, by omega, .inr ⟨Nat.zero_le _, 0, Nat.le_refl _, (gapAt_le (Nat.zero_le _)).1, hts.symm, hz, rfl⟩, by omega, by omega, Nat.zero_le _, ?_⟩
        simp (disch := decide) only [z0, z1, h_here, h_skip, true_and, and_true]
    · have hd : decide ((seg l 0).2 ≠ (0, 0, 0)) = true := by simp [hf]
      have hne : (seg l 0).2.1 ≠ 0 := by
        intro h
        exact hf (cutM_zero l.length l (1, 1) (Nat.le_refl _) h)
      obtain ⟨i1, i2, i3, i4⟩ := hfault hne
      have etv : tsV b (seg l 0).1 = .nils := by rw [i1]; rfl
      have eN : ∀ (s : St) (K : AV → St → Prop), onER (genV Tryd.prog .neq 25 false (.agg (fcells (seg l 0).2)) (.agg [.int .i64 0, .int .i64 0, .int .i64 0]) s) K = K (.bool true) s := fun s K => by rw [neqFl, hd]
      rw [etv]
      have q1 : (1 : Int) ≤ ((seg l 0).2.2.1 : Int) := by omega
      have q2 : (1 : Int) ≤ ((seg l 0).2.2.2 : Int) := by omega
      rcases i2 with i2 | i2
      · have q3 : ((seg l 0).2.1 : Int) = 131 := by omega
        simp (disch := first | decide | assumption | omega) only [F.ld, eN, Nat.zero_add, c0, c1, c2, qz00, qz01, qz02, qz03, qz04, qz05, qz06, qz07, qz08, qz09, qz0a, qz0b, qz0c, qz0d, qz0e, qz0f, qz0g, qz0h, qz0i, qz0j, qz0k, qz0l, qz0m, qz0n, qz0o, qz0p, qz0q, qz0r, qz0s, qz0t, qz0u, qz0v, qz0w, qz0x, qz0y, qz0z, qz10, qz11, qz12, qz13, qz14, qz15, qz16, qz17, qz18, qz19, qz1a, qz1b, qz1c, qz1d, qz1e, qz1f, qz1g, qz1h, qz1i, qz1j, qz1k, qz1l, qz1m, qz1n, qz1o, qz1p, qz1q, qz1r, qz1s, qz1t, qz1u, qz1v, qz1w, qz1x, qz1y, qz1z, qz20, qz21, qz22, qz23, qz24, qz25, qz26, qz27, qz28, qz29, qz2a, qz2b, qz2c, qz2d, qz2e, qz2f, qz2g, qz2h, qz2i, qz2j, qz2k, qz2l, qz2m, qz2n, qz2o, qz2p, qz2q, qz2r, qz2s, qz2t, qz2u, qz2v, qz2w, qz2x, qz2y, qz2z, qz30, qz31, qz32, qz33, qz34, qz35, qz36, qz37, qz38, qz39, qz3a, qz3b, qz3c, qz3d, Bool.not_true, Bool.not_false, List.cons_append, List.nil_append, List.append_nil]
        exact ⟨trivial, done⟩
      · have q3 : ((seg l 0).2.1 : Int) = 132 := by omega
        have q4 : ((seg l 0).2.1 : Int) ≠ 131 := by omega
        simp (disch := first | decide | assumption | omega) only [F.ld, eN, Nat.zero_add, c0, c1, c2, qz00, qz01, qz02, qz03, qz04, qz05, qz06, qz07, qz08, qz09, qz0a, qz0b, qz0c, qz0d, qz0e, qz0f, qz0g, qz0h, qz0i, qz0j, qz0k, qz0l, qz0m, qz0n, qz0o, qz0p, qz0q, qz0r, qz0s, qz0t, qz0u, qz0v, qz0w, qz0x, qz0y, qz0z, qz10, qz11, qz12, qz13, qz14, qz15, qz16, qz17, qz18, qz19, qz1a, qz1b, qz1c, qz1d, qz1e, qz1f, qz1g, qz1h, qz1i, qz1j, qz1k, qz1l, qz1m, qz1n, qz1o, qz1p, qz1q, qz1r, qz1s, qz1t, qz1u, qz1v, qz1w, qz1x, qz1y, qz1z, qz20, qz21, qz22, qz23, qz24, qz25, qz26, qz27, qz28, qz29, qz2a, qz2b, qz2c, qz2d, qz2e, qz2f, qz2g, qz2h, qz2i, qz2j, qz2k, qz2l, qz2m, qz2n, qz2o, qz2p, qz2q, qz2r, qz2s, qz2t, qz2u, qz2v, qz2w, qz2x, qz2y, qz2z, qz30, qz31, qz32, qz33, qz34, qz35, qz36, qz37, qz38, qz39, qz3a, qz3b, qz3c, qz3d, Bool.not_true, Bool.not_false, List.cons_append, List.nil_append, List.append_nil]
        exact ⟨trivial, done⟩
end Go.Sy
end

section
set_option maxRecDepth 100000
namespace Go.Sy
open Go.Ev Go.Proofs
theorem bytes_lt (s : ByteArray) : ∀ c ∈ s.data.toList.map UInt8.toNat, c < 256 := by
  intro c hc
  obtain ⟨b, _, rfl⟩ := List.mem_map.1 hc
  exact b.toNat_lt
/-- what a call of the law does, at every string of a size that a string can have, where the library's error lies -/
theorem places_calls (s : ByteArray) (hl : s.size ≤ 9223372036854775807) (w : World) (hg : ∃ te pe, w.cell? ⟨1, 0, none⟩ = some (.iface te pe)) :
    Calls Tryd.prog 6 #[.string s] w fun e w' => e = .returned (.bool true) ∧ w'.os = w.os ∧ w'.tape = w.tape ∧ w'.output = w.output ∧ w.heap.size ≤ w'.heap.size ∧ ∀ k, k < w.heap.size → w'.heap[k]? = w.heap[k]? := by
  have hs : Sim (fun _ => .unborn) st0.h st0.nx w :=
    ⟨fun b B S e => (by cases e), fun b e => (by cases e), fun b b' B S S' e => (by cases e), fun b e => absurd rfl e, ⟨hg, fun b S e => by cases e⟩⟩
  have hll : (s.data.toList.map UInt8.toNat).length ≤ 9223372036854775807 := by
    rw [List.length_map, Array.length_toList]; exact hl
  have h := CW.calls tryd_okP (draw_ok tryd_mixed) baseW_ok
    (places_ok (base := baseW) (fun f args st h9 h31 => baseW_no f args st h9 h31) baseW_9 baseW_PI hll (bytes_lt s) st0) (ι := fun _ => .unborn) (w := w) (vs := #[.string s]) hs
    (by simp only [VRs]; exact ⟨_, _, rfl, by simp only [VR]; exact ⟨s, rfl, rfl⟩, rfl⟩)
  refine Calls.mono h fun e w' ⟨v, x, st', he, hK, ι', _, hv, _, hg, _⟩ => ?_
  rw [hK.1] at hv
  simp only [VR] at hv
  rw [hv] at he
  exact ⟨he, hg.os, hg.tape, hg.output, hg.size, fun k hk => hg.keep k hk (fun b S e => by cases e)⟩
end Go.Sy
end

section
set_option maxRecDepth 100000
namespace Go.Sy
open Go.Ev Go.Proofs
def b4 : Cmd := (.seq (.ops [⟨(some 2), true, none, (.i (.mv (.c (.bool false))))⟩]) (.seq (.seq (.ops [⟨(some 7), false, none, (.call (.c (.fn 9 [])) [])⟩, ⟨(some 8), true, none, (.i (.un .not (.t 7)))⟩]) (.cond (.t 8) (.seq (.ops [⟨(some 2), true, none, (.i (.mv (.c (.bool false))))⟩]) .ret) .skip)) (.seq (.seq (.ops [⟨(some 9), false, none, (.i (.mv (.t 0)))⟩, ⟨(some 10), false, none, (.i (.lenS (.t 9)))⟩, ⟨(some 11), true, none, (.i (.bin .gtr (.t 10) (.c (.int .i64 4000))))⟩]) (.cond (.t 11) (.seq (.ops [⟨(some 2), true, none, (.i (.mv (.c (.bool true))))⟩]) .ret) .skip)) (.seq (.ops [⟨(some 13), false, none, (.i (.mv (.t 0)))⟩, ⟨(some 14), false, none, (.call (.c (.fn 8 [])) [(.t 13)])⟩, ⟨(some 12), false, none, (.i (.mv (.t 14)))⟩, ⟨(some 15), false, none, (.i (.ext (.t 12) 0))⟩, ⟨(some 16), false, none, (.i (.ext (.t 12) 1))⟩, ⟨(some 4), true, none, (.i (.alloc [(.int .i64 0), (.int .i64 0), (.int .i64 0)]))⟩, ⟨(some 3), true, none, (.i (.mv (.t 15)))⟩, ⟨none, false, none, (.i (.st 3 (.t 4) (.t 16)))⟩]) (.seq (.ops [⟨(some 18), false, none, (.i (.mv (.t 0)))⟩, ⟨(some 19), false, none, (.call (.c (.fn 10 [])) [(.t 18)])⟩, ⟨(some 17), false, none, (.i (.mv (.t 19)))⟩, ⟨(some 20), false, none, (.i (.ext (.t 17) 0))⟩, ⟨(some 21), false, none, (.i (.ext (.t 17) 1))⟩, ⟨(some 6), true, none, (.i (.alloc [(.int .i64 0), (.int .i64 0), (.int .i64 0)]))⟩, ⟨(some 5), true, none, (.i (.mv (.t 20)))⟩, ⟨none, false, none, (.i (.st 3 (.t 6) (.t 21)))⟩]) (.seq (.ops [⟨(some 22), false, none, (.i (.mv (.t 3)))⟩, ⟨(some 23), false, none, (.i (.mv (.t 5)))⟩, ⟨(some 24), false, none, (.call (.c (.fn 11 [])) [(.t 22), (.t 23)])⟩, ⟨(some 25), false, none, (.i (.mv (.t 24)))⟩, ⟨(some 26), false, (some (25, true)), (.i (.ldA 3 (.t 4)))⟩, ⟨(some 27), false, (some (25, true)), (.i (.ldA 3 (.t 6)))⟩, ⟨(some 28), false, (some (25, true)), (.i (.gen .eql 25 false (.t 26) (.t 27)))⟩, ⟨(some 29), false, none, (.i (.pick (.t 25) (.t 28) (.c (.bool false))))⟩, ⟨(some 2), true, none, (.i (.mv (.t 29)))⟩]) .ret))))))
def c4 : FD := ⟨[0], b4, [(.t 2)]⟩
theorem l4 : lowF Tryd.prog 4 = some c4 := by kernel_rfl
def b10 : Cmd := (.seq (.ops [⟨(some 2), true, none, (.i (.mv (.c .nils)))⟩, ⟨(some 3), true, none, (.i (.alloc [(.int .i64 0), (.int .i64 0), (.int .i64 0)]))⟩]) (.seq (.seq (.ops [⟨(some 15), false, none, (.i (.mv (.t 0)))⟩, ⟨(some 16), false, none, (.i (.lenS (.t 15)))⟩, ⟨(some 17), true, none, (.i (.bin .gtr (.t 16) (.c (.int .i64 65536))))⟩]) (.cond (.t 17) (.seq (.ops [⟨(some 18), false, none, (.i (.build [(.int .i64 0), (.int .i64 0), (.int .i64 0)] [((0, 1), (.c (.int .i64 132))), ((1, 1), (.c (.int .i64 1))), ((2, 1), (.c (.int .i64 1)))]))⟩, ⟨(some 2), true, none, (.i (.mv (.c .nils)))⟩, ⟨none, false, none, (.i (.st 3 (.t 3) (.t 18)))⟩]) .ret) .skip)) (.seq (.ops [⟨(some 19), false, none, (.i (.buildS 0 5 [(.int .i64 0), (.str []), (.int .i64 0), (.int .i64 0), (.int .i64 0)] []))⟩, ⟨(some 4), true, none, (.i (.mv (.t 19)))⟩]) (.seq (.ops [⟨(some 5), true, none, (.i (.mv (.c (.int .i64 0))))⟩]) (.seq (.ops [⟨(some 6), true, none, (.i (.mv (.c (.bool false))))⟩]) (.seq (.block 0 (.loop (.seq (.seq (.ops [⟨(some 20), false, none, (.i (.mv (.t 5)))⟩, ⟨(some 21), false, none, (.i (.mv (.t 0)))⟩, ⟨(some 22), false, none, (.i (.lenS (.t 21)))⟩, ⟨(some 23), true, none, (.i (.bin .lss (.t 20) (.t 22)))⟩]) (.cond (.t 23) .skip (.exit 0))) (.block 1 (.seq (.ops [⟨(some 24), false, none, (.i (.mv (.t 0)))⟩, ⟨(some 25), false, none, (.i (.mv (.t 5)))⟩, ⟨(some 26), false, none, (.i (.ixStr (.t 24) (.t 25)))⟩, ⟨(some 7), true, none, (.i (.mv (.t 26)))⟩]) (.seq (.seq (.ops [⟨(some 27), false, none, (.i (.mv (.t 7)))⟩, ⟨(some 28), true, none, (.i (.bin .eql (.t 27) (.c (.int .u8 10))))⟩]) (.cond (.t 28) (.ops [⟨(some 6), true, none, (.i (.mv (.c (.bool false))))⟩]) .skip)) (.seq (.seq (.ops [⟨(some 29), false, none, (.i (.mv (.t 6)))⟩, ⟨(some 30), false, none, (.i (.un .not (.t 29)))⟩, ⟨(some 31), false, none, (.i (.mv (.t 30)))⟩, ⟨(some 32), false, (some (31, true)), (.i (.mv (.t 7)))⟩, ⟨(some 33), false, (some (31, true)), (.i (.bin .eql (.t 32) (.c (.int .u8 47))))⟩, ⟨(some 34), false, none, (.i (.pick (.t 31) (.t 33) (.c (.bool false))))⟩, ⟨(some 35), false, none, (.i (.mv (.t 34)))⟩, ⟨(some 36), false, (some (35, true)), (.i (.mv (.t 5)))⟩, ⟨(some 37), false, (some (35, true)), (.i (.bin .add (.t 36) (.c (.int .i64 1))))⟩, ⟨(some 38), false, (some (35, true)), (.i (.mv (.t 0)))⟩, ⟨(some 39), false, (some (35, true)), (.i (.lenS (.t 38)))⟩, ⟨(some 40), false, (some (35, true)), (.i (.bin .lss (.t 37) (.t 39)))⟩, ⟨(some 41), false, none, (.i (.pick (.t 35) (.t 40) (.c (.bool false))))⟩, ⟨(some 42), false, none, (.i (.mv (.t 41)))⟩, ⟨(some 43), false, (some (42, true)), (.i (.mv (.t 0)))⟩, ⟨(some 44), false, (some (42, true)), (.i (.mv (.t 5)))⟩, ⟨(some 45), false, (some (42, true)), (.i (.bin .add (.t 44) (.c (.int .i64 1))))⟩, ⟨(some 46), false, (some (42, true)), (.i (.ixStr (.t 43) (.t 45)))⟩, ⟨(some 47), false, (some (42, true)), (.i (.bin .eql (.t 46) (.c (.int .u8 47))))⟩, ⟨(some 48), true, none, (.i (.pick (.t 42) (.t 47) (.c (.bool false))))⟩]) (.cond (.t 48) (.ops [⟨(some 6), true, none, (.i (.mv (.c (.bool true))))⟩]) .skip)) (.seq (.seq (.ops [⟨(some 49), false, none, (.i (.mv (.t 6)))⟩, ⟨(some 50), false, none, (.i (.mv (.t 49)))⟩, ⟨(some 51), false, (some (50, false)), (.i (.mv (.t 7)))⟩, ⟨(some 52), false, (some (50, false)), (.i (.bin .eql (.t 51) (.c (.int .u8 32))))⟩, ⟨(some 53), false, none, (.i (.pick (.t 50) (.c (.bool true)) (.t 52)))⟩, ⟨(some 54), false, none, (.i (.mv (.t 53)))⟩, ⟨(some 55), false, (some (54, false)), (.i (.mv (.t 7)))⟩, ⟨(some 56), false, (some (54, false)), (.i (.bin .eql (.t 55) (.c (.int .u8 9))))⟩, ⟨(some 57), false, none, (.i (.pick (.t 54) (.c (.bool true)) (.t 56)))⟩, ⟨(some 58), false, none, (.i (.mv (.t 57)))⟩, ⟨(some 59), false, (some (58, false)), (.i (.mv (.t 7)))⟩, ⟨(some 60), false, (some (58, false)), (.i (.bin .eql (.t 59) (.c (.int .u8 10))))⟩, ⟨(some 61), true, none, (.i (.pick (.t 58) (.c (.bool true)) (.t 60)))⟩]) (.cond (.t 61) (.seq (.ops [⟨(some 62), false, none, (.i (.mv (.t 5)))⟩, ⟨(some 63), false, none, (.i (.bin .add (.t 62) (.c (.int .i64 1))))⟩, ⟨(some 5), true, none, (.i (.mv (.t 63)))⟩]) (.exit 1)) .skip)) (.seq (.ops [⟨(some 64), false, none, (.i (.mv (.t 0)))⟩, ⟨(some 65), false, none, (.i (.mv (.t 5)))⟩, ⟨(some 66), false, none, (.call (.c (.fn 18 [])) [(.t 64), (.t 65)])⟩, ⟨(some 8), true, none, (.i (.mv (.t 66)))⟩]) (.seq (.ops [⟨(some 68), false, none, (.i (.mv (.t 0)))⟩, ⟨(some 69), false, none, (.i (.mv (.t 5)))⟩, ⟨(some 70), false, none, (.call (.c (.fn 19 [])) [(.t 68), (.t 69)])⟩, ⟨(some 67), false, none, (.i (.mv (.t 70)))⟩, ⟨(some 71), false, none, (.i (.ext (.t 67) 0))⟩, ⟨(some 72), false, none, (.i (.ext (.t 67) 1))⟩, ⟨(some 9), true, none, (.i (.mv (.t 71)))⟩, ⟨(some 10), true, none, (.i (.mv (.t 72)))⟩]) (.seq (.seq (.ops [⟨(some 73), false, none, (.i (.mv (.t 8)))⟩, ⟨(some 74), true, none, (.i (.bin .eql (.t 73) (.c (.int .i64 0))))⟩]) (.cond (.t 74) (.seq (.ops [⟨(some 75), false, none, (.i (.mv (.t 9)))⟩, ⟨(some 76), false, none, (.i (.mv (.t 10)))⟩, ⟨(some 77), false, none, (.i (.build [(.int .i64 0), (.int .i64 0), (.int .i64 0)] [((0, 1), (.c (.int .i64 131))), ((1, 1), (.t 75)), ((2, 1), (.t 76))]))⟩, ⟨(some 2), true, none, (.i (.mv (.c .nils)))⟩, ⟨none, false, none, (.i (.st 3 (.t 3) (.t 77)))⟩]) .ret) .skip)) (.seq (.ops [⟨(some 78), false, none, (.i (.mv (.t 0)))⟩, ⟨(some 79), false, none, (.i (.mv (.t 5)))⟩, ⟨(some 80), false, none, (.i (.mv (.t 5)))⟩, ⟨(some 81), false, none, (.i (.mv (.t 8)))⟩, ⟨(some 82), false, none, (.i (.bin .add (.t 80) (.t 81)))⟩, ⟨(some 83), false, none, (.i (.slStr (.t 78) (some (.t 79)) (some (.t 82))))⟩, ⟨(some 84), false, none, (.i (.mv (.t 9)))⟩, ⟨(some 85), false, none, (.i (.mv (.t 10)))⟩, ⟨(some 86), false, none, (.i (.build [(.int .i64 0), (.str []), (.int .i64 0), (.int .i64 0), (.int .i64 0)] [((0, 1), (.c (.int .i64 3))), ((1, 1), (.t 83)), ((3, 1), (.t 84)), ((4, 1), (.t 85))]))⟩, ⟨(some 11), true, none, (.i (.alloc [(.int .i64 0), (.str []), (.int .i64 0), (.int .i64 0), (.int .i64 0)]))⟩, ⟨none, false, none, (.i (.st 5 (.t 11) (.t 86)))⟩]) (.seq (.seq (.ops [⟨(some 87), false, none, (.i (.mv (.t 7)))⟩, ⟨(some 88), true, none, (.call (.c (.fn 20 [])) [(.t 87)])⟩]) (.cond (.t 88) (.seq (.ops [⟨(some 89), false, none, (.i (.fad 0 (.t 11)))⟩, ⟨none, false, none, (.i (.st 1 (.t 89) (.c (.int .i64 1))))⟩]) (.seq (.seq (.ops [⟨(some 90), false, none, (.i (.fad 1 (.t 11)))⟩, ⟨(some 91), false, none, (.i (.ld1 (.t 90)))⟩, ⟨(some 92), true, none, (.call (.c (.fn 13 [])) [(.t 91)])⟩]) (.cond (.t 92) (.ops [⟨(some 93), false, none, (.i (.fad 0 (.t 11)))⟩, ⟨none, false, none, (.i (.st 1 (.t 93) (.c (.int .i64 4))))⟩]) .skip)) (.seq (.ops [⟨(some 94), false, none, (.i (.mv (.t 8)))⟩, ⟨(some 95), true, none, (.i (.bin .gtr (.t 94) (.c (.int .i64 32))))⟩]) (.cond (.t 95) (.seq (.ops [⟨(some 96), false, none, (.i (.mv (.t 9)))⟩, ⟨(some 97), false, none, (.i (.mv (.t 10)))⟩, ⟨(some 98), false, none, (.i (.build [(.int .i64 0), (.int .i64 0), (.int .i64 0)] [((0, 1), (.c (.int .i64 132))), ((1, 1), (.t 96)), ((2, 1), (.t 97))]))⟩, ⟨(some 2), true, none, (.i (.mv (.c .nils)))⟩, ⟨none, false, none, (.i (.st 3 (.t 3) (.t 98)))⟩]) .ret) .skip)))) .skip)) (.seq (.seq (.ops [⟨(some 99), false, none, (.i (.mv (.t 7)))⟩, ⟨(some 100), true, none, (.call (.c (.fn 21 [])) [(.t 99)])⟩]) (.cond (.t 100) (.seq (.ops [⟨(some 101), false, none, (.i (.fad 0 (.t 11)))⟩, ⟨none, false, none, (.i (.st 1 (.t 101) (.c (.int .i64 2))))⟩]) (.seq (.seq (.ops [⟨(some 12), true, none, (.i (.mv (.c (.int .i64 0))))⟩]) (.block 2 (.loop (.seq (.seq (.ops [⟨(some 102), false, none, (.i (.mv (.t 12)))⟩, ⟨(some 103), false, none, (.i (.mv (.t 8)))⟩, ⟨(some 104), false, none, (.i (.bin .lss (.t 102) (.t 103)))⟩, ⟨(some 105), false, none, (.i (.mv (.t 104)))⟩, ⟨(some 106), false, (some (105, true)), (.i (.mv (.t 12)))⟩, ⟨(some 107), false, (some (105, true)), (.i (.bin .lss (.t 106) (.c (.int .i64 8))))⟩, ⟨(some 108), true, none, (.i (.pick (.t 105) (.t 107) (.c (.bool false))))⟩]) (.cond (.t 108) .skip (.exit 2))) (.seq (.block 3 (.dops [⟨⟨(some 111), false, none, (.i (.fad 2 (.t 11)))⟩, none, 0, []⟩, ⟨⟨(some 112), false, none, (.i (.ld1 (.t 111)))⟩, (some (some (.t 111))), 2, []⟩, ⟨⟨(some 113), false, none, (.i (.bin .mul (.c (.int .i64 10)) (.t 112)))⟩, none, 0, []⟩, ⟨⟨(some 114), false, none, (.i (.fad 1 (.t 11)))⟩, none, 0, []⟩, ⟨⟨(some 115), false, none, (.i (.ld1 (.t 114)))⟩, (some (some (.t 114))), 9, []⟩, ⟨⟨(some 116), false, none, (.i (.mv (.t 12)))⟩, none, 0, []⟩, ⟨⟨(some 117), false, none, (.i (.ixStr (.t 115) (.t 116)))⟩, none, 0, []⟩, ⟨⟨(some 118), false, none, (.i (.bin .sub (.t 117) (.c (.int .u8 48))))⟩, none, 0, []⟩, ⟨⟨(some 119), false, none, (.i (.cvt .i64 (.t 118)))⟩, (some none), 0, [(6, 2)]⟩, ⟨⟨(some 120), false, none, (.i (.bin .add (.t 113) (.t 119)))⟩, none, 0, []⟩, ⟨⟨(some 121), false, none, (.i (.fad 2 (.t 11)))⟩, none, 0, []⟩, ⟨⟨none, false, none, (.i (.st 1 (.t 121) (.t 120)))⟩, (some none), 0, []⟩])) (.ops [⟨(some 109), false, none, (.i (.mv (.t 12)))⟩, ⟨(some 110), false, none, (.i (.bin .add (.t 109) (.c (.int .i64 1))))⟩, ⟨(some 12), true, none, (.i (.mv (.t 110)))⟩])))))) (.seq (.ops [⟨(some 122), false, none, (.i (.mv (.t 8)))⟩, ⟨(some 123), false, none, (.i (.bin .gtr (.t 122) (.c (.int .i64 7))))⟩, ⟨(some 124), false, none, (.i (.mv (.t 123)))⟩, ⟨(some 125), false, (some (124, false)), (.i (.fad 2 (.t 11)))⟩, ⟨(some 126), false, (some (124, false)), (.i (.ld1 (.t 125)))⟩, ⟨(some 127), false, (some (124, false)), (.i (.bin .gtr (.t 126) (.c (.int .i64 1000000))))⟩, ⟨(some 128), true, none, (.i (.pick (.t 124) (.c (.bool true)) (.t 127)))⟩]) (.cond (.t 128) (.seq (.ops [⟨(some 129), false, none, (.i (.mv (.t 9)))⟩, ⟨(some 130), false, none, (.i (.mv (.t 10)))⟩, ⟨(some 131), false, none, (.i (.build [(.int .i64 0), (.int .i64 0), (.int .i64 0)] [((0, 1), (.c (.int .i64 132))), ((1, 1), (.t 129)), ((2, 1), (.t 130))]))⟩, ⟨(some 2), true, none, (.i (.mv (.c .nils)))⟩, ⟨none, false, none, (.i (.st 3 (.t 3) (.t 131)))⟩]) .ret) .skip)))) .skip)) (.seq (.ops [⟨(some 132), false, none, (.i (.mv (.t 4)))⟩, ⟨(some 133), false, none, (.i (.ldA 5 (.t 11)))⟩, ⟨(some 134), false, none, (.i (.buildS 1 5 [(.int .i64 0), (.str []), (.int .i64 0), (.int .i64 0), (.int .i64 0)] [((0, 5), (.t 133))]))⟩, ⟨(some 135), false, none, (.i (.app 5 48 (.t 132) (.t 134)))⟩, ⟨(some 4), true, none, (.i (.mv (.t 135)))⟩]) (.ops [⟨(some 136), false, none, (.i (.mv (.t 5)))⟩, ⟨(some 137), false, none, (.i (.mv (.t 8)))⟩, ⟨(some 138), false, none, (.i (.bin .add (.t 136) (.t 137)))⟩, ⟨(some 5), true, none, (.i (.mv (.t 138)))⟩])))))))))))))))) (.seq (.ops [⟨(some 140), false, none, (.i (.mv (.t 0)))⟩, ⟨(some 141), false, none, (.i (.mv (.t 0)))⟩, ⟨(some 142), false, none, (.i (.lenS (.t 141)))⟩, ⟨(some 143), false, none, (.call (.c (.fn 19 [])) [(.t 140), (.t 142)])⟩, ⟨(some 139), false, none, (.i (.mv (.t 143)))⟩, ⟨(some 144), false, none, (.i (.ext (.t 139) 0))⟩, ⟨(some 145), false, none, (.i (.ext (.t 139) 1))⟩, ⟨(some 13), true, none, (.i (.mv (.t 144)))⟩, ⟨(some 14), true, none, (.i (.mv (.t 145)))⟩]) (.seq (.ops [⟨(some 146), false, none, (.i (.mv (.t 4)))⟩, ⟨(some 147), false, none, (.i (.mv (.t 13)))⟩, ⟨(some 148), false, none, (.i (.mv (.t 14)))⟩, ⟨(some 149), false, none, (.i (.build [(.int .i64 0), (.str []), (.int .i64 0), (.int .i64 0), (.int .i64 0)] [((0, 1), (.c (.int .i64 5))), ((3, 1), (.t 147)), ((4, 1), (.t 148))]))⟩, ⟨(some 150), false, none, (.i (.buildS 1 5 [(.int .i64 0), (.str []), (.int .i64 0), (.int .i64 0), (.int .i64 0)] [((0, 5), (.t 149))]))⟩, ⟨(some 151), false, none, (.i (.app 5 48 (.t 146) (.t 150)))⟩, ⟨(some 152), false, none, (.i (.build [(.int .i64 0), (.int .i64 0), (.int .i64 0)] []))⟩, ⟨(some 2), true, none, (.i (.mv (.t 151)))⟩, ⟨none, false, none, (.i (.st 3 (.t 3) (.t 152)))⟩]) .ret))))))))
def c10 : FD := ⟨[0], b10, [(.t 2), (.cA 3 3)]⟩
theorem l10 : lowF Tryd.prog 10 = some c10 := by kernel_rfl
def b11 : Cmd := (.seq (.ops [⟨(some 4), true, none, (.i (.mv (.c (.bool false))))⟩]) (.seq (.seq (.ops [⟨(some 6), false, none, (.i (.mv (.t 0)))⟩, ⟨(some 7), false, none, (.i (.len (.t 6)))⟩, ⟨(some 8), false, none, (.i (.mv (.t 1)))⟩, ⟨(some 9), false, none, (.i (.len (.t 8)))⟩, ⟨(some 10), true, none, (.i (.bin .neq (.t 7) (.t 9)))⟩]) (.cond (.t 10) (.seq (.ops [⟨(some 4), true, none, (.i (.mv (.c (.bool false))))⟩]) .ret) .skip)) (.seq (.seq (.ops [⟨(some 11), false, none, (.i (.mv (.t 0)))⟩, ⟨(some 12), true, none, (.i (.len (.t 11)))⟩, ⟨(some 13), true, none, (.i (.mv (.c (.int .i64 0))))⟩]) (.block 0 (.loop (.seq (.ops [⟨(some 14), true, none, (.i (.bin .lss (.t 13) (.t 12)))⟩]) (.seq (.cond (.t 14) .skip (.exit 0)) (.seq (.block 1 (.seq (.ops [⟨(some 15), false, none, (.i (.mv (.t 13)))⟩, ⟨(some 5), true, none, (.i (.mv (.t 15)))⟩]) (.seq (.ops [⟨(some 16), false, none, (.i (.mv (.t 0)))⟩, ⟨(some 17), false, none, (.i (.mv (.t 5)))⟩, ⟨(some 18), false, none, (.i (.idxS 5 (.t 16) (.t 17)))⟩, ⟨(some 19), false, none, (.i (.ldA 5 (.t 18)))⟩, ⟨(some 20), false, none, (.i (.mv (.t 1)))⟩, ⟨(some 21), false, none, (.i (.mv (.t 5)))⟩, ⟨(some 22), false, none, (.i (.idxS 5 (.t 20) (.t 21)))⟩, ⟨(some 23), false, none, (.i (.ldA 5 (.t 22)))⟩, ⟨(some 24), true, none, (.i (.gen .neq 33 false (.t 19) (.t 23)))⟩]) (.cond (.t 24) (.seq (.ops [⟨(some 4), true, none, (.i (.mv (.c (.bool false))))⟩]) .ret) .skip)))) (.ops [⟨(some 25), false, none, (.i (.bin .add (.t 13) (.c (.int .i64 1))))⟩, ⟨(some 13), true, none, (.i (.mv (.t 25)))⟩]))))))) (.seq (.ops [⟨(some 4), true, none, (.i (.mv (.c (.bool true))))⟩]) .ret))))
def c11 : FD := ⟨[0, 1], b11, [(.t 4)]⟩
theorem l11 : lowF Tryd.prog 11 = some c11 := by kernel_rfl
def b18 : Cmd := (.seq (.ops [⟨(some 4), true, none, (.i (.mv (.c (.int .i64 0))))⟩]) (.seq (.ops [⟨(some 5), true, none, (.i (.mv (.c (.int .i64 0))))⟩]) (.seq (.seq (.ops [⟨(some 7), false, none, (.i (.mv (.t 0)))⟩, ⟨(some 8), false, none, (.i (.mv (.t 1)))⟩, ⟨(some 9), false, none, (.i (.ixStr (.t 7) (.t 8)))⟩, ⟨(some 10), true, none, (.call (.c (.fn 20 [])) [(.t 9)])⟩]) (.cond (.t 10) (.seq (.block 0 (.loop (.seq (.seq (.ops [⟨(some 11), false, none, (.i (.mv (.t 1)))⟩, ⟨(some 12), false, none, (.i (.mv (.t 5)))⟩, ⟨(some 13), false, none, (.i (.bin .add (.t 11) (.t 12)))⟩, ⟨(some 14), false, none, (.i (.mv (.t 0)))⟩, ⟨(some 15), false, none, (.i (.lenS (.t 14)))⟩, ⟨(some 16), false, none, (.i (.bin .lss (.t 13) (.t 15)))⟩, ⟨(some 17), false, none, (.i (.mv (.t 16)))⟩, ⟨(some 18), false, (some (17, true)), (.i (.mv (.t 0)))⟩, ⟨(some 19), false, (some (17, true)), (.i (.mv (.t 1)))⟩, ⟨(some 20), false, (some (17, true)), (.i (.mv (.t 5)))⟩, ⟨(some 21), false, (some (17, true)), (.i (.bin .add (.t 19) (.t 20)))⟩, ⟨(some 22), false, (some (17, true)), (.i (.ixStr (.t 18) (.t 21)))⟩, ⟨(some 23), false, (some (17, true)), (.call (.c (.fn 20 [])) [(.t 22)])⟩, ⟨(some 24), false, (some (17, true)), (.i (.mv (.t 23)))⟩, ⟨(some 25), false, (some (24, false)), (.i (.mv (.t 0)))⟩, ⟨(some 26), false, (some (24, false)), (.i (.mv (.t 1)))⟩, ⟨(some 27), false, (some (24, false)), (.i (.mv (.t 5)))⟩, ⟨(some 28), false, (some (24, false)), (.i (.bin .add (.t 26) (.t 27)))⟩, ⟨(some 29), false, (some (24, false)), (.i (.ixStr (.t 25) (.t 28)))⟩, ⟨(some 30), false, (some (24, false)), (.call (.c (.fn 21 [])) [(.t 29)])⟩, ⟨(some 31), false, (some (17, true)), (.i (.pick (.t 24) (.c (.bool true)) (.t 30)))⟩, ⟨(some 32), false, (some (17, true)), (.i (.mv (.t 31)))⟩, ⟨(some 33), false, (some (32, false)), (.i (.mv (.t 0)))⟩, ⟨(some 34), false, (some (32, false)), (.i (.mv (.t 1)))⟩, ⟨(some 35), false, (some (32, false)), (.i (.mv (.t 5)))⟩, ⟨(some 36), false, (some (32, false)), (.i (.bin .add (.t 34) (.t 35)))⟩, ⟨(some 37), false, (some (32, false)), (.i (.ixStr (.t 33) (.t 36)))⟩, ⟨(some 38), false, (some (32, false)), (.i (.bin .eql (.t 37) (.c (.int .u8 95))))⟩, ⟨(some 39), false, (some (17, true)), (.i (.pick (.t 32) (.c (.bool true)) (.t 38)))⟩, ⟨(some 40), true, none, (.i (.pick (.t 17) (.t 39) (.c (.bool false))))⟩]) (.cond (.t 40) .skip (.exit 0))) (.block 1 (.ops [⟨(some 41), false, none, (.i (.mv (.t 5)))⟩, ⟨(some 42), false, none, (.i (.bin .add (.t 41) (.c (.int .i64 1))))⟩, ⟨(some 5), true, none, (.i (.mv (.t 42)))⟩]))))) (.seq (.ops [⟨(some 43), false, none, (.i (.mv (.t 5)))⟩, ⟨(some 4), true, none, (.i (.mv (.t 43)))⟩]) .ret)) .skip)) (.seq (.seq (.ops [⟨(some 44), false, none, (.i (.mv (.t 0)))⟩, ⟨(some 45), false, none, (.i (.mv (.t 1)))⟩, ⟨(some 46), false, none, (.i (.ixStr (.t 44) (.t 45)))⟩, ⟨(some 47), true, none, (.call (.c (.fn 21 [])) [(.t 46)])⟩]) (.cond (.t 47) (.seq (.block 2 (.loop (.seq (.seq (.ops [⟨(some 48), false, none, (.i (.mv (.t 1)))⟩, ⟨(some 49), false, none, (.i (.mv (.t 5)))⟩, ⟨(some 50), false, none, (.i (.bin .add (.t 48) (.t 49)))⟩, ⟨(some 51), false, none, (.i (.mv (.t 0)))⟩, ⟨(some 52), false, none, (.i (.lenS (.t 51)))⟩, ⟨(some 53), false, none, (.i (.bin .lss (.t 50) (.t 52)))⟩, ⟨(some 54), false, none, (.i (.mv (.t 53)))⟩, ⟨(some 55), false, (some (54, true)), (.i (.mv (.t 0)))⟩, ⟨(some 56), false, (some (54, true)), (.i (.mv (.t 1)))⟩, ⟨(some 57), false, (some (54, true)), (.i (.mv (.t 5)))⟩, ⟨(some 58), false, (some (54, true)), (.i (.bin .add (.t 56) (.t 57)))⟩, ⟨(some 59), false, (some (54, true)), (.i (.ixStr (.t 55) (.t 58)))⟩, ⟨(some 60), false, (some (54, true)), (.call (.c (.fn 21 [])) [(.t 59)])⟩, ⟨(some 61), true, none, (.i (.pick (.t 54) (.t 60) (.c (.bool false))))⟩]) (.cond (.t 61) .skip (.exit 2))) (.block 3 (.ops [⟨(some 62), false, none, (.i (.mv (.t 5)))⟩, ⟨(some 63), false, none, (.i (.bin .add (.t 62) (.c (.int .i64 1))))⟩, ⟨(some 5), true, none, (.i (.mv (.t 63)))⟩]))))) (.seq (.ops [⟨(some 64), false, none, (.i (.mv (.t 5)))⟩, ⟨(some 4), true, none, (.i (.mv (.t 64)))⟩]) .ret)) .skip)) (.seq (.seq (.ops [⟨(some 6), true, none, (.i (.mv (.c (.int .i64 1))))⟩]) (.block 4 (.loop (.seq (.seq (.ops [⟨(some 65), false, none, (.i (.mv (.t 6)))⟩, ⟨(some 66), false, none, (.i (.bin .leq (.t 65) (.c (.int .i64 3))))⟩, ⟨(some 67), false, none, (.i (.mv (.t 66)))⟩, ⟨(some 68), false, (some (67, true)), (.i (.mv (.t 1)))⟩, ⟨(some 69), false, (some (67, true)), (.i (.mv (.t 6)))⟩, ⟨(some 70), false, (some (67, true)), (.i (.bin .add (.t 68) (.t 69)))⟩, ⟨(some 71), false, (some (67, true)), (.i (.mv (.t 0)))⟩, ⟨(some 72), false, (some (67, true)), (.i (.lenS (.t 71)))⟩, ⟨(some 73), false, (some (67, true)), (.i (.bin .leq (.t 70) (.t 72)))⟩, ⟨(some 74), true, none, (.i (.pick (.t 67) (.t 73) (.c (.bool false))))⟩]) (.cond (.t 74) .skip (.exit 4))) (.seq (.block 5 (.seq (.ops [⟨(some 77), false, none, (.i (.mv (.t 0)))⟩, ⟨(some 78), false, none, (.i (.mv (.t 1)))⟩, ⟨(some 79), false, none, (.i (.mv (.t 1)))⟩, ⟨(some 80), false, none, (.i (.mv (.t 6)))⟩, ⟨(some 81), false, none, (.i (.bin .add (.t 79) (.t 80)))⟩, ⟨(some 82), false, none, (.i (.slStr (.t 77) (some (.t 78)) (some (.t 81))))⟩, ⟨(some 83), false, none, (.i (.buildS 23 1 [(.str [])] [((0, 1), (.c (.str [123]))), ((1, 1), (.c (.str [125]))), ((2, 1), (.c (.str [40]))), ((3, 1), (.c (.str [41]))), ((4, 1), (.c (.str [58]))), ((5, 1), (.c (.str [44]))), ((6, 1), (.c (.str [59]))), ((7, 1), (.c (.str [46, 46]))), ((8, 1), (.c (.str [58, 61]))), ((9, 1), (.c (.str [61]))), ((10, 1), (.c (.str [33, 61]))), ((11, 1), (.c (.str [60]))), ((12, 1), (.c (.str [60, 61]))), ((13, 1), (.c (.str [62]))), ((14, 1), (.c (.str [62, 61]))), ((15, 1), (.c (.str [43]))), ((16, 1), (.c (.str [45]))), ((17, 1), (.c (.str [42]))), ((18, 1), (.c (.str [33]))), ((19, 1), (.c (.str [38]))), ((20, 1), (.c (.str [124]))), ((21, 1), (.c (.str [45, 62]))), ((22, 1), (.c (.str [60, 45, 62])))]))⟩, ⟨(some 84), true, none, (.call (.c (.fn 22 [])) [(.t 82), (.t 83)])⟩]) (.cond (.t 84) (.ops [⟨(some 85), false, none, (.i (.mv (.t 6)))⟩, ⟨(some 5), true, none, (.i (.mv (.t 85)))⟩]) .skip))) (.ops [⟨(some 75), false, none, (.i (.mv (.t 6)))⟩, ⟨(some 76), false, none, (.i (.bin .add (.t 75) (.c (.int .i64 1))))⟩, ⟨(some 6), true, none, (.i (.mv (.t 76)))⟩])))))) (.seq (.ops [⟨(some 86), false, none, (.i (.mv (.t 5)))⟩, ⟨(some 4), true, none, (.i (.mv (.t 86)))⟩]) .ret))))))
def c18 : FD := ⟨[0, 1], b18, [(.t 4)]⟩
theorem l18 : lowF Tryd.prog 18 = some c18 := by kernel_rfl
def b19 : Cmd := (.seq (.ops [⟨(some 4), true, none, (.i (.mv (.c (.int .i64 0))))⟩, ⟨(some 5), true, none, (.i (.mv (.c (.int .i64 0))))⟩]) (.seq (.ops [⟨(some 6), true, none, (.i (.mv (.c (.int .i64 1))))⟩, ⟨(some 7), true, none, (.i (.mv (.c (.int .i64 1))))⟩]) (.seq (.seq (.ops [⟨(some 8), true, none, (.i (.mv (.c (.int .i64 0))))⟩]) (.block 0 (.loop (.seq (.seq (.ops [⟨(some 9), false, none, (.i (.mv (.t 8)))⟩, ⟨(some 10), false, none, (.i (.mv (.t 1)))⟩, ⟨(some 11), true, none, (.i (.bin .lss (.t 9) (.t 10)))⟩]) (.cond (.t 11) .skip (.exit 0))) (.seq (.block 1 (.seq (.ops [⟨(some 14), false, none, (.i (.mv (.t 7)))⟩, ⟨(some 15), false, none, (.i (.bin .add (.t 14) (.c (.int .i64 1))))⟩, ⟨(some 7), true, none, (.i (.mv (.t 15)))⟩]) (.seq (.ops [⟨(some 16), false, none, (.i (.mv (.t 0)))⟩, ⟨(some 17), false, none, (.i (.mv (.t 8)))⟩, ⟨(some 18), false, none, (.i (.ixStr (.t 16) (.t 17)))⟩, ⟨(some 19), true, none, (.i (.bin .eql (.t 18) (.c (.int .u8 10))))⟩]) (.cond (.t 19) (.seq (.ops [⟨(some 20), false, none, (.i (.mv (.t 6)))⟩, ⟨(some 21), false, none, (.i (.bin .add (.t 20) (.c (.int .i64 1))))⟩, ⟨(some 6), true, none, (.i (.mv (.t 21)))⟩]) (.ops [⟨(some 7), true, none, (.i (.mv (.c (.int .i64 1))))⟩])) .skip)))) (.ops [⟨(some 12), false, none, (.i (.mv (.t 8)))⟩, ⟨(some 13), false, none, (.i (.bin .add (.t 12) (.c (.int .i64 1))))⟩, ⟨(some 8), true, none, (.i (.mv (.t 13)))⟩])))))) (.seq (.ops [⟨(some 22), false, none, (.i (.mv (.t 6)))⟩, ⟨(some 23), false, none, (.i (.mv (.t 7)))⟩, ⟨(some 4), true, none, (.i (.mv (.t 22)))⟩, ⟨(some 5), true, none, (.i (.mv (.t 23)))⟩]) .ret))))
def c19 : FD := ⟨[0, 1], b19, [(.t 4), (.t 5)]⟩
theorem l19 : lowF Tryd.prog 19 = some c19 := by kernel_rfl
end Go.Sy
end

section
set_option maxRecDepth 100000
namespace Go.Sy
open Go.Ev Go.Proofs
variable {base : CallF}
/-- the document's place of a byte -/
theorem place_ok (hb : ∀ args st, base 19 args st = .no) {l : List Nat} {a : Nat} (ha : a ≤ l.length) (hl : l.length ≤ 4611686018427387904) (st : St) (K : AV → St → Prop)
    (hK : K (.tup [.int .i64 ((walkP (1, 1) (l.take a)).1 : Int), .int .i64 ((walkP (1, 1) (l.take a)).2 : Int)]) st.bare) : CW Tryd.prog base 19 [.str l, .int .i64 (a : Int)] st K := by
  refine fn_rule l19 (hb _ _) ?_
  simp only [c19, entry, List.map_cons, List.map_nil, List.getD_cons_zero, List.getD_cons_succ]
  unfold b19
  simp (disch := first | decide | assumption | omega) only [qz00, qz01, qz02, qz03, qz04, qz05, qz06, qz07, qz08, qz09, qz0a, qz0b, qz0c, qz0d, qz0e, qz0f, qz0g, qz0h, qz0i, qz0j, qz0k, qz0l, qz0m, qz0n, qz0o, qz0p, qz0q, qz0r, qz0s, qz0t, qz0u, qz0v, qz0w, qz0x, qz0y, qz0z, qz10, qz11, qz12, qz13, qz14, qz15, qz16, qz17, qz18, qz19, qz1a, qz1b, qz1c, qz1d, qz1e, qz1f, qz1g, qz1h, qz1i, qz1j, qz1k, qz1l, qz1m, qz1n, qz1o, qz1p, qz1q, qz1r, qz1s, qz1t, qz1u, qz1v, qz1w, qz1x, qz1y, qz1z, qz20, qz21, qz22, qz23, qz24, qz25, qz26, qz27, qz28, qz29, qz2a, qz2b, qz2c, qz2d, qz2e, qz2f, qz2g, qz2h, qz2i, qz2j, qz2k, qz2l, qz2m, qz2n, qz2o, qz2p, qz2q, qz2r, qz2s, qz2t, qz2u, qz2v, qz2w, qz2x, qz2y, qz2z, qz30, qz31, qz32, qz33, qz34, qz35, qz36, qz37, qz38, qz39, qz3a, qz3b, qz3c, qz3d, Bool.not_true, Bool.not_false, List.cons_append, List.nil_append, List.append_nil]
  refine wC_loopH (fun mm L s => ∃ (k ln cl : Nat), k ≤ a ∧ mm = a - k ∧ s = st.bare ∧ (ln, cl) = walkP (1, 1) (l.take k) ∧ Has L 0 (.str l) ∧ Has L 1 (.int .i64 (a : Int)) ∧ Has L 6 (.int .i64 (ln : Int)) ∧ Has L 7 (.int .i64 (cl : Int)) ∧ Has L 8 (.int .i64 (k : Int))) ?_ a ?_
  · rintro mm L s ⟨k, ln, cl, hk, rfl, rfl, hp, i0, i1, i6, i7, i8⟩
    unfold Hold
    have wb := walkP_le (l.take k) (1, 1) (by decide)
    rw [← hp, List.length_take, Nat.min_eq_left (by omega)] at wb
    have wb1 : ln ≤ 1 + k := wb.1
    have wb2 : cl ≤ 1 + k := wb.2.1
    by_cases hka : k < a
    · have hw := walk_step (show k < l.length by omega) (1, 1)
      rw [← hp] at hw
      have hkl : k < l.length := by omega
      generalize hch : l.getD k 0 = ch at hw
      have eX : ∀ (s : St) (K : AV → St → Prop), onER (ixStrV (.str l) (.int .i64 (k : Int)) s) K = K (.int .u8 (ch : Int)) s := fun s K => by rw [qz37 hkl, hch]
      by_cases h10 : ch = 10
      · have y3 : (ch : Int) = 10 := by omega
        have e1 : ((1 : Nat) : Int) = 1 := rfl
        simp (disch := first | decide | assumption | omega) only [r_onh i0, r_onh i1, r_onh i6, r_onh i7, r_onh i8, eX, v_addN, qz00, qz01, qz02, qz03, qz04, qz05, qz06, qz07, qz08, qz09, qz0a, qz0b, qz0c, qz0d, qz0e, qz0f, qz0g, qz0h, qz0i, qz0j, qz0k, qz0l, qz0m, qz0n, qz0o, qz0p, qz0q, qz0r, qz0s, qz0t, qz0u, qz0v, qz0w, qz0x, qz0y, qz0z, qz10, qz11, qz12, qz13, qz14, qz15, qz16, qz17, qz18, qz19, qz1a, qz1b, qz1c, qz1d, qz1e, qz1f, qz1g, qz1h, qz1i, qz1j, qz1k, qz1l, qz1m, qz1n, qz1o, qz1p, qz1q, qz1r, qz1s, qz1t, qz1u, qz1v, qz1w, qz1x, qz1y, qz1z, qz20, qz21, qz22, qz23, qz24, qz25, qz26, qz27, qz28, qz29, qz2a, qz2b, qz2c, qz2d, qz2e, qz2f, qz2g, qz2h, qz2i, qz2j, qz2k, qz2l, qz2m, qz2n, qz2o, qz2p, qz2q, qz2r, qz2s, qz2t, qz2u, qz2v, qz2w, qz2x, qz2y, qz2z, qz30, qz31, qz32, qz33, qz34, qz35, qz36, qz37, qz38, qz39, qz3a, qz3b, qz3c, qz3d, Bool.not_true, Bool.not_false, List.cons_append, List.nil_append, List.append_nil]
        refine ⟨a - (k + 1), by omega, k + 1, ln + 1, 1, by omega, rfl, by first | rfl | trivial, by rw [hw]; unfold stepP; rw [if_pos h10], ?_⟩
        simp (disch := decide) only [z0, z1, h_here, h_skip, i0, i1, true_and, and_true]
      · have y3 : (ch : Int) ≠ 10 := by omega
        simp (disch := first | decide | assumption | omega) only [r_onh i0, r_onh i1, r_onh i6, r_onh i7, r_onh i8, eX, v_addN, qz00, qz01, qz02, qz03, qz04, qz05, qz06, qz07, qz08, qz09, qz0a, qz0b, qz0c, qz0d, qz0e, qz0f, qz0g, qz0h, qz0i, qz0j, qz0k, qz0l, qz0m, qz0n, qz0o, qz0p, qz0q, qz0r, qz0s, qz0t, qz0u, qz0v, qz0w, qz0x, qz0y, qz0z, qz10, qz11, qz12, qz13, qz14, qz15, qz16, qz17, qz18, qz19, qz1a, qz1b, qz1c, qz1d, qz1e, qz1f, qz1g, qz1h, qz1i, qz1j, qz1k, qz1l, qz1m, qz1n, qz1o, qz1p, qz1q, qz1r, qz1s, qz1t, qz1u, qz1v, qz1w, qz1x, qz1y, qz1z, qz20, qz21, qz22, qz23, qz24, qz25, qz26, qz27, qz28, qz29, qz2a, qz2b, qz2c, qz2d, qz2e, qz2f, qz2g, qz2h, qz2i, qz2j, qz2k, qz2l, qz2m, qz2n, qz2o, qz2p, qz2q, qz2r, qz2s, qz2t, qz2u, qz2v, qz2w, qz2x, qz2y, qz2z, qz30, qz31, qz32, qz33, qz34, qz35, qz36, qz37, qz38, qz39, qz3a, qz3b, qz3c, qz3d, Bool.not_true, Bool.not_false, List.cons_append, List.nil_append, List.append_nil]
        refine ⟨a - (k + 1), by omega, k + 1, ln, cl + 1, by omega, rfl, by first | rfl | trivial, by rw [hw]; unfold stepP; rw [if_neg h10], ?_⟩
        simp (disch := decide) only [z0, z1, h_here, h_skip, i0, i1, i6, true_and, and_true]
    · have hka' : k = a := by omega
      subst hka'
      rw [← hp] at hK
      simp (disch := first | decide | assumption | omega) only [r_onh i0, r_onh i1, r_onh i6, r_onh i7, r_onh i8, qz00, qz01, qz02, qz03, qz04, qz05, qz06, qz07, qz08, qz09, qz0a, qz0b, qz0c, qz0d, qz0e, qz0f, qz0g, qz0h, qz0i, qz0j, qz0k, qz0l, qz0m, qz0n, qz0o, qz0p, qz0q, qz0r, qz0s, qz0t, qz0u, qz0v, qz0w, qz0x, qz0y, qz0z, qz10, qz11, qz12, qz13, qz14, qz15, qz16, qz17, qz18, qz19, qz1a, qz1b, qz1c, qz1d, qz1e, qz1f, qz1g, qz1h, qz1i, qz1j, qz1k, qz1l, qz1m, qz1n, qz1o, qz1p, qz1q, qz1r, qz1s, qz1t, qz1u, qz1v, qz1w, qz1x, qz1y, qz1z, qz20, qz21, qz22, qz23, qz24, qz25, qz26, qz27, qz28, qz29, qz2a, qz2b, qz2c, qz2d, qz2e, qz2f, qz2g, qz2h, qz2i, qz2j, qz2k, qz2l, qz2m, qz2n, qz2o, qz2p, qz2q, qz2r, qz2s, qz2t, qz2u, qz2v, qz2w, qz2x, qz2y, qz2z, qz30, qz31, qz32, qz33, qz34, qz35, qz36, qz37, qz38, qz39, qz3a, qz3b, qz3c, qz3d, Bool.not_true, Bool.not_false, List.cons_append, List.nil_append, List.append_nil]
      exact hK
  · refine ⟨0, 1, 1, by omega, rfl, by first | rfl | trivial, rfl, ?_⟩
    simp (disch := decide) only [z0, z1, h_here, h_skip, true_and, and_true]
theorem eqI_self (a : Int) : eqI a a = true := by cases a <;> simp [eqI]
theorem strEq_self (a : List Nat) : strEq a a = true := by rw [strEq_eq]; simp
theorem eqTk (t : Tk) : (eqF Tryd.prog 20 33).run (.agg t.cells) (.agg t.cells) = some true := by
  have h : (eqF Tryd.prog 20 33).run (.agg t.cells) (.agg t.cells) = cond (eqI (t.kind : Int) (t.kind : Int)) (cond (strEq t.text t.text) (cond (eqI (t.num : Int) (t.num : Int)) (cond (eqI (t.line : Int) (t.line : Int)) (cond (eqI (t.col : Int) (t.col : Int)) (some true) (some false)) (some false)) (some false)) (some false)) (some false) := by kernel_rfl
  rw [h, eqI_self, eqI_self, eqI_self, eqI_self, strEq_self]
  rfl
theorem neqTk (t : Tk) (st : St) (K : AV → St → Prop) : onER (genV Tryd.prog .neq 33 false (.agg t.cells) (.agg t.cells) st) K = K (.bool false) st := by
  have h : genV Tryd.prog .neq 33 false (.agg t.cells) (.agg t.cells) st = onSome ((eqF Tryd.prog 20 33).run (.agg t.cells) (.agg t.cells)) fun b => .ok (.bool (cond b false true)) st := by kernel_rfl
  rw [h, eqTk]
  rfl
theorem Ts.ld {s : St} {b i : Nat} {ts : List Tk} (h : Ts s b ts) (hi : i < ts.length) (K : AV → St → Prop) : onER (ldAV 5 (.ptr b (i * 5)) s) K = K (.agg (ts.getD i ⟨0, [], 0, 0, 0⟩).cells) s := by
  have hl := h.len
  rw [v_ldAn (by decide) (by omega)]
  have e : ((List.range 5).map fun j => rat s.h b (i * 5 + j)) = (ts.getD i ⟨0, [], 0, 0, 0⟩).cells := by
    have c : ∀ j, j < 5 → rat s.h b (i * 5 + j) = (ts.getD i ⟨0, [], 0, 0, 0⟩).cells.getD j .bad := fun j hj => by
      rw [show i * 5 + j = 5 * i + j by omega, h.cell _ (by omega), tcells_at hi hj]
    show [rat s.h b (i * 5 + 0), rat s.h b (i * 5 + 1), rat s.h b (i * 5 + 2), rat s.h b (i * 5 + 3), rat s.h b (i * 5 + 4)] = _
    rw [c 0 (by decide), c 1 (by decide), c 2 (by decide), c 3 (by decide), c 4 (by decide)]
    rfl
  rw [e]
theorem Same_ok (hb : ∀ args st, base 11 args st = .no) {b1 b2 : Nat} {ts : List Tk} (st : St) (h1 : ts ≠ [] → Ts st b1 ts) (h2 : ts ≠ [] → Ts st b2 ts) (hn : ts.length ≤ 1000000) (K : AV → St → Prop) (hK : K (.bool true) st.bare) : CW Tryd.prog base 11 [tsV b1 ts, tsV b2 ts] st K := by
  refine fn_rule l11 (hb _ _) ?_
  simp only [c11, entry, List.map_cons, List.map_nil, List.getD_cons_zero, List.getD_cons_succ]
  unfold b11
  have eL : ∀ (b : Nat) (s : St) (K : AV → St → Prop), onER (lenV (tsV b ts) s) K = K (.int .i64 (ts.length : Int)) s := fun b s K => by
    unfold tsV
    by_cases h : ts = []
    · rw [if_pos h, h]; rfl
    · rw [if_neg h]; rfl
  simp (disch := first | decide | assumption | omega) only [eL, qz00, qz01, qz02, qz03, qz04, qz05, qz06, qz07, qz08, qz09, qz0a, qz0b, qz0c, qz0d, qz0e, qz0f, qz0g, qz0h, qz0i, qz0j, qz0k, qz0l, qz0m, qz0n, qz0o, qz0p, qz0q, qz0r, qz0s, qz0t, qz0u, qz0v, qz0w, qz0x, qz0y, qz0z, qz10, qz11, qz12, qz13, qz14, qz15, qz16, qz17, qz18, qz19, qz1a, qz1b, qz1c, qz1d, qz1e, qz1f, qz1g, qz1h, qz1i, qz1j, qz1k, qz1l, qz1m, qz1n, qz1o, qz1p, qz1q, qz1r, qz1s, qz1t, qz1u, qz1v, qz1w, qz1x, qz1y, qz1z, qz20, qz21, qz22, qz23, qz24, qz25, qz26, qz27, qz28, qz29, qz2a, qz2b, qz2c, qz2d, qz2e, qz2f, qz2g, qz2h, qz2i, qz2j, qz2k, qz2l, qz2m, qz2n, qz2o, qz2p, qz2q, qz2r, qz2s, qz2t, qz2u, qz2v, qz2w, qz2x, qz2y, qz2z, qz30, qz31, qz32, qz33, qz34, qz35, qz36, qz37, qz38, qz39, qz3a, qz3b, qz3c, qz3d, Bool.not_true, Bool.not_false, List.cons_append, List.nil_append, List.append_nil]
  refine wC_loopH (fun mm L s => ∃ k : Nat, k ≤ ts.length ∧ mm = ts.length - k ∧ s = st.bare ∧ Has L 0 (tsV b1 ts) ∧ Has L 1 (tsV b2 ts) ∧ Has L 12 (.int .i64 (ts.length : Int)) ∧ Has L 13 (.int .i64 (k : Int))) ?_ ts.length ?_
  · rintro mm L s ⟨k, hk, rfl, rfl, i0, i1, i12, i13⟩
    unfold Hold
    by_cases hkn : k < ts.length
    · have hne : ts ≠ [] := fun h => by rw [h] at hkn; simp at hkn
      have e1 : ∀ b, tsV b ts = .slice b 0 ts.length ts.length 5 false := fun b => by unfold tsV; rw [if_neg hne]
      have T1 : Ts st.bare b1 ts := ⟨(h1 hne).lt, (h1 hne).len, (h1 hne).cell⟩
      have T2 : Ts st.bare b2 ts := ⟨(h2 hne).lt, (h2 hne).len, (h2 hne).cell⟩
      have l1 := T1.ld hkn
      have l2 := T2.ld hkn
      rw [e1] at i0 i1
      simp (disch := first | decide | assumption | omega) only [r_onh i0, r_onh i1, r_onh i12, r_onh i13, Nat.zero_add, l1, l2, neqTk, v_addN, qz00, qz01, qz02, qz03, qz04, qz05, qz06, qz07, qz08, qz09, qz0a, qz0b, qz0c, qz0d, qz0e, qz0f, qz0g, qz0h, qz0i, qz0j, qz0k, qz0l, qz0m, qz0n, qz0o, qz0p, qz0q, qz0r, qz0s, qz0t, qz0u, qz0v, qz0w, qz0x, qz0y, qz0z, qz10, qz11, qz12, qz13, qz14, qz15, qz16, qz17, qz18, qz19, qz1a, qz1b, qz1c, qz1d, qz1e, qz1f, qz1g, qz1h, qz1i, qz1j, qz1k, qz1l, qz1m, qz1n, qz1o, qz1p, qz1q, qz1r, qz1s, qz1t, qz1u, qz1v, qz1w, qz1x, qz1y, qz1z, qz20, qz21, qz22, qz23, qz24, qz25, qz26, qz27, qz28, qz29, qz2a, qz2b, qz2c, qz2d, qz2e, qz2f, qz2g, qz2h, qz2i, qz2j, qz2k, qz2l, qz2m, qz2n, qz2o, qz2p, qz2q, qz2r, qz2s, qz2t, qz2u, qz2v, qz2w, qz2x, qz2y, qz2z, qz30, qz31, qz32, qz33, qz34, qz35, qz36, qz37, qz38, qz39, qz3a, qz3b, qz3c, qz3d, Bool.not_true, Bool.not_false, List.cons_append, List.nil_append, List.append_nil]
      refine ⟨ts.length - (k + 1), by omega, k + 1, by omega, rfl, by first | rfl | trivial, ?_⟩
      rw [e1, e1]
      simp (disch := decide) only [z0, z1, h_here, h_skip, i0, i1, i12, true_and, and_true]
    · simp (disch := first | decide | assumption | omega) only [r_onh i0, r_onh i1, r_onh i12, r_onh i13, qz00, qz01, qz02, qz03, qz04, qz05, qz06, qz07, qz08, qz09, qz0a, qz0b, qz0c, qz0d, qz0e, qz0f, qz0g, qz0h, qz0i, qz0j, qz0k, qz0l, qz0m, qz0n, qz0o, qz0p, qz0q, qz0r, qz0s, qz0t, qz0u, qz0v, qz0w, qz0x, qz0y, qz0z, qz10, qz11, qz12, qz13, qz14, qz15, qz16, qz17, qz18, qz19, qz1a, qz1b, qz1c, qz1d, qz1e, qz1f, qz1g, qz1h, qz1i, qz1j, qz1k, qz1l, qz1m, qz1n, qz1o, qz1p, qz1q, qz1r, qz1s, qz1t, qz1u, qz1v, qz1w, qz1x, qz1y, qz1z, qz20, qz21, qz22, qz23, qz24, qz25, qz26, qz27, qz28, qz29, qz2a, qz2b, qz2c, qz2d, qz2e, qz2f, qz2g, qz2h, qz2i, qz2j, qz2k, qz2l, qz2m, qz2n, qz2o, qz2p, qz2q, qz2r, qz2s, qz2t, qz2u, qz2v, qz2w, qz2x, qz2y, qz2z, qz30, qz31, qz32, qz33, qz34, qz35, qz36, qz37, qz38, qz39, qz3a, qz3b, qz3c, qz3d, Bool.not_true, Bool.not_false, List.cons_append, List.nil_append, List.append_nil]
      exact hK
  · refine ⟨0, by omega, rfl, by first | rfl | trivial, ?_⟩
    simp (disch := decide) only [z0, z1, h_here, h_skip, true_and, and_true]
end Go.Sy
end

section
set_option maxRecDepth 100000
namespace Go.Sy
open Go.Ev Go.Proofs
variable {base : CallF}
def signsR : List (List Nat) := [[123], [125], [40], [41], [58], [44], [59], [46, 46], [58, 61], [61], [33, 61], [60], [60, 61], [62], [62, 61], [43], [45], [42], [33], [38], [124], [45, 62], [60, 45, 62]]
def psR : List ((Nat × Nat) × AV) := [((0, 1), (.str [123])), ((1, 1), (.str [125])), ((2, 1), (.str [40])), ((3, 1), (.str [41])), ((4, 1), (.str [58])), ((5, 1), (.str [44])), ((6, 1), (.str [59])), ((7, 1), (.str [46, 46])), ((8, 1), (.str [58, 61])), ((9, 1), (.str [61])), ((10, 1), (.str [33, 61])), ((11, 1), (.str [60])), ((12, 1), (.str [60, 61])), ((13, 1), (.str [62])), ((14, 1), (.str [62, 61])), ((15, 1), (.str [43])), ((16, 1), (.str [45])), ((17, 1), (.str [42])), ((18, 1), (.str [33])), ((19, 1), (.str [38])), ((20, 1), (.str [124])), ((21, 1), (.str [45, 62])), ((22, 1), (.str [60, 45, 62]))]
theorem fillR : fillP (repeatC [.str []] 23) psR = some (signsR.map .str) := by kernel_rfl
theorem cellR : lall AV.cell (signsR.map AV.str) = true := by kernel_rfl
theorem bR (e : En) (st : St) (K : AV → St → Prop) : wK Tryd.prog base (.i (.buildS 23 1 [(.str [])] [((0, 1), (.c (.str [123]))), ((1, 1), (.c (.str [125]))), ((2, 1), (.c (.str [40]))), ((3, 1), (.c (.str [41]))), ((4, 1), (.c (.str [58]))), ((5, 1), (.c (.str [44]))), ((6, 1), (.c (.str [59]))), ((7, 1), (.c (.str [46, 46]))), ((8, 1), (.c (.str [58, 61]))), ((9, 1), (.c (.str [61]))), ((10, 1), (.c (.str [33, 61]))), ((11, 1), (.c (.str [60]))), ((12, 1), (.c (.str [60, 61]))), ((13, 1), (.c (.str [62]))), ((14, 1), (.c (.str [62, 61]))), ((15, 1), (.c (.str [43]))), ((16, 1), (.c (.str [45]))), ((17, 1), (.c (.str [42]))), ((18, 1), (.c (.str [33]))), ((19, 1), (.c (.str [38]))), ((20, 1), (.c (.str [124]))), ((21, 1), (.c (.str [45, 62]))), ((22, 1), (.c (.str [60, 45, 62])))])) e st K = onER (buildSV 23 1 [.str []] psR st) K := by
  have h := i_buildSc (P := Tryd.prog) (base := base) (e := e) (st := st) (K := K) 23 1 [.str []] psR
  exact Eq.trans (show _ = wK Tryd.prog base (.i (.buildS 23 1 [.str []] (psR.map fun p => (p.1, .c p.2)))) e st K from rfl) h
theorem o_R {st : St} {K : AV → St → Prop} (hk : ∀ st', Made st st' 23 (fun i => (signsR.map AV.str).getD i .bad) → K (.slice st.nx 0 23 23 1 true) st') : onER (buildSV 23 1 [.str []] psR st) K := by
  have e4 : llen (signsR.map AV.str) = 23 := rfl
  simp only [buildSV, fillR, onSome, cellR, e4, cond_true, force_eq, llen_eq, St.alloc_eq, onER]
  refine hk _ (made_row fun i hi => ?_)
  rw [rowCell_eq, get_e, Nat.mod_eq_of_lt hi]
  rfl
theorem signsR_cells (i : Nat) (h : i < 23) : (signsR.map AV.str).getD i .bad = .str (signsR.getD i []) := by
  have h' : i < signsR.length := h
  simp [List.getD_eq_getElem?_getD, List.getElem?_map, List.getElem?_eq_getElem h']

/-! ### the longest sign is the first that fits -/
theorem firstN_len {r : List Nat} {m : Nat} : ∀ {xs : List (List Nat)} (ys : List (List Nat)), (∀ x ∈ xs, x.length = m) → firstN r (xs ++ ys) = if r.take m ∈ xs then m else firstN r ys
  | [], ys, _ => by simp
  | x :: xs, ys, h => by
    have hx := h x (by simp)
    have ih := firstN_len (r := r) (xs := xs) ys fun y hy => h y (by simp [hy])
    show (if begins x r = true then x.length else firstN r (xs ++ ys)) = _
    by_cases hb : begins x r = true
    · have hb' : r.take x.length = x := of_decide_eq_true hb
      rw [hx] at hb'
      rw [if_pos hb, if_pos (by rw [hb']; simp), hx]
    · rw [if_neg hb, ih]
      have hne : r.take m ≠ x := fun e => hb (decide_eq_true (by rw [hx]; exact e))
      by_cases hm : r.take m ∈ xs
      · rw [if_pos hm, if_pos (by simp [hm])]
      · rw [if_neg hm, if_neg (by simp [hm, hne])]
/-- the document's: the longest of one, two or three that is a sign -/
def refSign (r : List Nat) : Nat → Nat
  | 0 => 0
  | k + 1 => if k + 1 ≤ r.length ∧ r.take (k + 1) ∈ signsR then k + 1 else refSign r k
theorem mem_len {S : List (List Nat)} {x : List Nat} {k : Nat} (h : x.length = k) : x ∈ S ↔ x ∈ S.filter fun y => decide (y.length = k) := by
  rw [List.mem_filter]
  simp [h]
theorem refSign_eq (r : List Nat) : refSign r 3 = signN r := by
  have e : signN r = if r.take 3 ∈ signsL.take 1 then 3 else if r.take 2 ∈ (signsL.drop 1).take 6 then 2 else if r.take 1 ∈ signsL.drop 7 then 1 else 0 := by
    show firstN r (signsL.take 1 ++ ((signsL.drop 1).take 6 ++ (signsL.drop 7 ++ []))) = _
    rw [firstN_len (m := 3) _ (by decide), firstN_len (m := 2) _ (by decide), firstN_len (m := 1) _ (by decide)]
    rfl
  have h3 : ∀ x : List Nat, x ∈ (signsR.filter fun y => decide (y.length = 3)) ↔ x ∈ signsL.take 1 := by
    have e : (signsR.filter fun y => decide (y.length = 3)) = signsL.take 1 := by decide
    intro x; rw [e]
  have p2 : ∀ x ∈ (signsR.filter fun y => decide (y.length = 2)), x ∈ (signsL.drop 1).take 6 := by decide
  have q2 : ∀ x ∈ (signsL.drop 1).take 6, x ∈ (signsR.filter fun y => decide (y.length = 2)) := by decide
  have p1 : ∀ x ∈ (signsR.filter fun y => decide (y.length = 1)), x ∈ signsL.drop 7 := by decide
  have q1 : ∀ x ∈ signsL.drop 7, x ∈ (signsR.filter fun y => decide (y.length = 1)) := by decide
  have key : ∀ k (A : List (List Nat)), 0 < k → (∀ x, x ∈ (signsR.filter fun y => decide (y.length = k)) ↔ x ∈ A) → ((k ≤ r.length ∧ r.take k ∈ signsR) ↔ r.take k ∈ A) := fun k A hk hA => by
    by_cases hl : k ≤ r.length
    · have := mem_len (S := signsR) (x := r.take k) (k := k) (by rw [List.length_take]; omega)
      rw [← hA, ← this]
      exact ⟨fun h => h.2, fun h => ⟨hl, h⟩⟩
    · constructor
      · exact fun h => absurd h.1 hl
      · intro h
        have h2 := (hA _).2 h
        have := of_decide_eq_true (List.mem_filter.1 h2).2
        rw [List.length_take] at this
        omega
  have k3 := key 3 _ (by decide) h3
  have k2 := key 2 _ (by decide) fun x => ⟨p2 x, q2 x⟩
  have k1 := key 1 _ (by decide) fun x => ⟨p1 x, q1 x⟩
  rw [e]
  show (if 2 + 1 ≤ r.length ∧ r.take (2 + 1) ∈ signsR then 2 + 1 else if 1 + 1 ≤ r.length ∧ r.take (1 + 1) ∈ signsR then 1 + 1 else if 0 + 1 ≤ r.length ∧ r.take (0 + 1) ∈ signsR then 0 + 1 else 0) = _
  simp only [k3, k2, k1, show 2 + 1 = 3 from rfl, show 1 + 1 = 2 from rfl, show 0 + 1 = 1 from rfl]
end Go.Sy
end

section
set_option maxRecDepth 100000
namespace Go.Sy
open Go.Ev Go.Proofs
variable {base : CallF}
/-- how long the word is that begins -/
def wordN : List Nat → Nat
  | [] => 0
  | x :: r => if isLetter x = true then lead isInner (x :: r) else if isDigit x = true then lead isDigit (x :: r) else signN (x :: r)
set_option maxHeartbeats 4000000 in
theorem word_ok (hb : ∀ f args st, f ∈ [18, 20, 21, 22] → base f args st = .no) {l : List Nat} {a : Nat} (ha : a < l.length) (hl : l.length ≤ 4611686018427387904) (st : St) (K : AV → St → Prop)
    (hK : ∀ st', Ext st st' → K (.int .i64 (wordN (l.drop a) : Int)) st') : CW Tryd.prog base 18 [.str l, .int .i64 (a : Int)] st K := by
  refine fn_rule l18 (hb _ _ _ (by simp)) ?_
  simp only [c18, entry, List.map_cons, List.map_nil, List.getD_cons_zero, List.getD_cons_succ]
  unfold b18
  have hrl : (l.drop a).length = l.length - a := List.length_drop
  have hget : ∀ j, (l.drop a).getD j 0 = l.getD (a + j) 0 := fun j => by
    rw [List.getD_eq_getElem?_getD, List.getElem?_drop, ← List.getD_eq_getElem?_getD]
  have hw : wordN (l.drop a) = if isLetter (l.getD a 0) = true then lead isInner (l.drop a) else if isDigit (l.getD a 0) = true then lead isDigit (l.drop a) else signN (l.drop a) := by
    have h0 := hget 0
    cases hr : l.drop a with
    | nil => rw [hr] at hrl; simp at hrl; omega
    | cons x r =>
      rw [hr] at h0
      have h0' : x = l.getD a 0 := h0
      rw [← h0']
      rfl
  have eX : ∀ (k : Nat), k < l.length → ∀ (s : St) (K : AV → St → Prop), onER (ixStrV (.str l) (.int .i64 (k : Int)) s) K = K (.int .u8 ((l.getD k 0 : Nat) : Int)) s := fun k hk s K => qz37 hk .i64
  have eX0 := eX a ha
  have e0 : ((0 : Nat) : Int) = 0 := rfl
  simp (disch := first | decide | assumption | omega) only [eX0, qz00, qz01, qz02, qz03, qz04, qz05, qz06, qz07, qz08, qz09, qz0a, qz0b, qz0c, qz0d, qz0e, qz0f, qz0g, qz0h, qz0i, qz0j, qz0k, qz0l, qz0m, qz0n, qz0o, qz0p, qz0q, qz0r, qz0s, qz0t, qz0u, qz0v, qz0w, qz0x, qz0y, qz0z, qz10, qz11, qz12, qz13, qz14, qz15, qz16, qz17, qz18, qz19, qz1a, qz1b, qz1c, qz1d, qz1e, qz1f, qz1g, qz1h, qz1i, qz1j, qz1k, qz1l, qz1m, qz1n, qz1o, qz1p, qz1q, qz1r, qz1s, qz1t, qz1u, qz1v, qz1w, qz1x, qz1y, qz1z, qz20, qz21, qz22, qz23, qz24, qz25, qz26, qz27, qz28, qz29, qz2a, qz2b, qz2c, qz2d, qz2e, qz2f, qz2g, qz2h, qz2i, qz2j, qz2k, qz2l, qz2m, qz2n, qz2o, qz2p, qz2q, qz2r, qz2s, qz2t, qz2u, qz2v, qz2w, qz2x, qz2y, qz2z, qz30, qz31, qz32, qz33, qz34, qz35, qz36, qz37, qz38, qz39, qz3a, qz3b, qz3c, qz3d, Bool.not_true, Bool.not_false, List.cons_append, List.nil_append, List.append_nil]
  refine Letter_ok (fun a s => hb _ a s (by simp)) (l.getD a 0) st.bare _ ?_
  cases hL : isLetter (l.getD a 0) with
  | true =>
    rw [if_pos hL] at hw
    simp (disch := first | decide | assumption | omega) only [qz00, qz01, qz02, qz03, qz04, qz05, qz06, qz07, qz08, qz09, qz0a, qz0b, qz0c, qz0d, qz0e, qz0f, qz0g, qz0h, qz0i, qz0j, qz0k, qz0l, qz0m, qz0n, qz0o, qz0p, qz0q, qz0r, qz0s, qz0t, qz0u, qz0v, qz0w, qz0x, qz0y, qz0z, qz10, qz11, qz12, qz13, qz14, qz15, qz16, qz17, qz18, qz19, qz1a, qz1b, qz1c, qz1d, qz1e, qz1f, qz1g, qz1h, qz1i, qz1j, qz1k, qz1l, qz1m, qz1n, qz1o, qz1p, qz1q, qz1r, qz1s, qz1t, qz1u, qz1v, qz1w, qz1x, qz1y, qz1z, qz20, qz21, qz22, qz23, qz24, qz25, qz26, qz27, qz28, qz29, qz2a, qz2b, qz2c, qz2d, qz2e, qz2f, qz2g, qz2h, qz2i, qz2j, qz2k, qz2l, qz2m, qz2n, qz2o, qz2p, qz2q, qz2r, qz2s, qz2t, qz2u, qz2v, qz2w, qz2x, qz2y, qz2z, qz30, qz31, qz32, qz33, qz34, qz35, qz36, qz37, qz38, qz39, qz3a, qz3b, qz3c, qz3d, Bool.not_true, Bool.not_false, List.cons_append, List.nil_append, List.append_nil]
    refine wC_loopH (fun mm L s => ∃ k : Nat, a + k ≤ l.length ∧ mm = l.length - (a + k) ∧ s = st.bare ∧ (∀ j, j < k → isInner ((l.drop a).getD j 0) = true) ∧ Has L 0 (.str l) ∧ Has L 1 (.int .i64 (a : Int)) ∧ Has L 5 (.int .i64 (k : Int))) ?_ (l.length - a) ?_
    · rintro mm L s ⟨k, hk, rfl, rfl, hp, i0, i1, i5⟩
      unfold Hold
      have eA := fun (s : St) (K : AV → St → Prop) => v_addNN (a := a) (b := k) (by omega) s K
      by_cases hlt : a + k < l.length
      · have hlt' : ((a + k : Nat) : Int) < (l.length : Int) := by omega
        have eX1 := eX (a + k) hlt
        have hstep : ∀ (h : isInner (l.getD (a + k) 0) = true), ∀ j, j < k + 1 → isInner ((l.drop a).getD j 0) = true := fun h j hj => by
          by_cases hjk : j = k
          · rw [hjk, hget]; exact h
          · exact hp j (by omega)
        have hstop : isInner (l.getD (a + k) 0) = false → lead isInner (l.drop a) = k := fun h => lead_at (by omega) hp (.inr (by rw [hget]; exact h))
        generalize l.getD (a + k) 0 = ch at eX1 hstep hstop
        simp (disch := first | decide | assumption | omega) only [r_onh i0, r_onh i1, r_onh i5, eA, eX1, qz00, qz01, qz02, qz03, qz04, qz05, qz06, qz07, qz08, qz09, qz0a, qz0b, qz0c, qz0d, qz0e, qz0f, qz0g, qz0h, qz0i, qz0j, qz0k, qz0l, qz0m, qz0n, qz0o, qz0p, qz0q, qz0r, qz0s, qz0t, qz0u, qz0v, qz0w, qz0x, qz0y, qz0z, qz10, qz11, qz12, qz13, qz14, qz15, qz16, qz17, qz18, qz19, qz1a, qz1b, qz1c, qz1d, qz1e, qz1f, qz1g, qz1h, qz1i, qz1j, qz1k, qz1l, qz1m, qz1n, qz1o, qz1p, qz1q, qz1r, qz1s, qz1t, qz1u, qz1v, qz1w, qz1x, qz1y, qz1z, qz20, qz21, qz22, qz23, qz24, qz25, qz26, qz27, qz28, qz29, qz2a, qz2b, qz2c, qz2d, qz2e, qz2f, qz2g, qz2h, qz2i, qz2j, qz2k, qz2l, qz2m, qz2n, qz2o, qz2p, qz2q, qz2r, qz2s, qz2t, qz2u, qz2v, qz2w, qz2x, qz2y, qz2z, qz30, qz31, qz32, qz33, qz34, qz35, qz36, qz37, qz38, qz39, qz3a, qz3b, qz3c, qz3d, Bool.not_true, Bool.not_false, List.cons_append, List.nil_append, List.append_nil]
        refine Letter_ok (fun a s => hb _ a s (by simp)) ch st.bare _ ?_
        cases hc : isLetter ch with
        | true =>
          have hI : isInner ch = true := by unfold isInner; rw [hc]; rfl
          simp (disch := first | decide | assumption | omega) only [r_onh i5, v_addN, qz00, qz01, qz02, qz03, qz04, qz05, qz06, qz07, qz08, qz09, qz0a, qz0b, qz0c, qz0d, qz0e, qz0f, qz0g, qz0h, qz0i, qz0j, qz0k, qz0l, qz0m, qz0n, qz0o, qz0p, qz0q, qz0r, qz0s, qz0t, qz0u, qz0v, qz0w, qz0x, qz0y, qz0z, qz10, qz11, qz12, qz13, qz14, qz15, qz16, qz17, qz18, qz19, qz1a, qz1b, qz1c, qz1d, qz1e, qz1f, qz1g, qz1h, qz1i, qz1j, qz1k, qz1l, qz1m, qz1n, qz1o, qz1p, qz1q, qz1r, qz1s, qz1t, qz1u, qz1v, qz1w, qz1x, qz1y, qz1z, qz20, qz21, qz22, qz23, qz24, qz25, qz26, qz27, qz28, qz29, qz2a, qz2b, qz2c, qz2d, qz2e, qz2f, qz2g, qz2h, qz2i, qz2j, qz2k, qz2l, qz2m, qz2n, qz2o, qz2p, qz2q, qz2r, qz2s, qz2t, qz2u, qz2v, qz2w, qz2x, qz2y, qz2z, qz30, qz31, qz32, qz33, qz34, qz35, qz36, qz37, qz38, qz39, qz3a, qz3b, qz3c, qz3d, Bool.not_true, Bool.not_false, List.cons_append, List.nil_append, List.append_nil]
          refine ⟨l.length - (a + (k + 1)), by omega, k + 1, by omega, rfl, by first | rfl | trivial, hstep hI, ?_⟩
          simp (disch := decide) only [z0, z1, h_here, h_skip, i0, i1, true_and, and_true]
        | false =>
          simp (disch := first | decide | assumption | omega) only [r_onh i0, r_onh i1, r_onh i5, eA, eX1, qz00, qz01, qz02, qz03, qz04, qz05, qz06, qz07, qz08, qz09, qz0a, qz0b, qz0c, qz0d, qz0e, qz0f, qz0g, qz0h, qz0i, qz0j, qz0k, qz0l, qz0m, qz0n, qz0o, qz0p, qz0q, qz0r, qz0s, qz0t, qz0u, qz0v, qz0w, qz0x, qz0y, qz0z, qz10, qz11, qz12, qz13, qz14, qz15, qz16, qz17, qz18, qz19, qz1a, qz1b, qz1c, qz1d, qz1e, qz1f, qz1g, qz1h, qz1i, qz1j, qz1k, qz1l, qz1m, qz1n, qz1o, qz1p, qz1q, qz1r, qz1s, qz1t, qz1u, qz1v, qz1w, qz1x, qz1y, qz1z, qz20, qz21, qz22, qz23, qz24, qz25, qz26, qz27, qz28, qz29, qz2a, qz2b, qz2c, qz2d, qz2e, qz2f, qz2g, qz2h, qz2i, qz2j, qz2k, qz2l, qz2m, qz2n, qz2o, qz2p, qz2q, qz2r, qz2s, qz2t, qz2u, qz2v, qz2w, qz2x, qz2y, qz2z, qz30, qz31, qz32, qz33, qz34, qz35, qz36, qz37, qz38, qz39, qz3a, qz3b, qz3c, qz3d, Bool.not_true, Bool.not_false, List.cons_append, List.nil_append, List.append_nil]
          refine Digit_ok (fun a s => hb _ a s (by simp)) ch st.bare _ ?_
          cases hdg : isDigit ch with
          | true =>
            have hI : isInner ch = true := by unfold isInner; rw [hc, hdg]; rfl
            simp (disch := first | decide | assumption | omega) only [r_onh i5, v_addN, qz00, qz01, qz02, qz03, qz04, qz05, qz06, qz07, qz08, qz09, qz0a, qz0b, qz0c, qz0d, qz0e, qz0f, qz0g, qz0h, qz0i, qz0j, qz0k, qz0l, qz0m, qz0n, qz0o, qz0p, qz0q, qz0r, qz0s, qz0t, qz0u, qz0v, qz0w, qz0x, qz0y, qz0z, qz10, qz11, qz12, qz13, qz14, qz15, qz16, qz17, qz18, qz19, qz1a, qz1b, qz1c, qz1d, qz1e, qz1f, qz1g, qz1h, qz1i, qz1j, qz1k, qz1l, qz1m, qz1n, qz1o, qz1p, qz1q, qz1r, qz1s, qz1t, qz1u, qz1v, qz1w, qz1x, qz1y, qz1z, qz20, qz21, qz22, qz23, qz24, qz25, qz26, qz27, qz28, qz29, qz2a, qz2b, qz2c, qz2d, qz2e, qz2f, qz2g, qz2h, qz2i, qz2j, qz2k, qz2l, qz2m, qz2n, qz2o, qz2p, qz2q, qz2r, qz2s, qz2t, qz2u, qz2v, qz2w, qz2x, qz2y, qz2z, qz30, qz31, qz32, qz33, qz34, qz35, qz36, qz37, qz38, qz39, qz3a, qz3b, qz3c, qz3d, Bool.not_true, Bool.not_false, List.cons_append, List.nil_append, List.append_nil]
            refine ⟨l.length - (a + (k + 1)), by omega, k + 1, by omega, rfl, by first | rfl | trivial, hstep hI, ?_⟩
            simp (disch := decide) only [z0, z1, h_here, h_skip, i0, i1, true_and, and_true]
          | false =>
            by_cases h95 : ch = 95
            · have h95' : (ch : Int) = 95 := by omega
              have hI : isInner ch = true := by unfold isInner; rw [hc, hdg, h95]; rfl
              simp (disch := first | decide | assumption | omega) only [r_onh i0, r_onh i1, r_onh i5, eA, eX1, v_addN, qz00, qz01, qz02, qz03, qz04, qz05, qz06, qz07, qz08, qz09, qz0a, qz0b, qz0c, qz0d, qz0e, qz0f, qz0g, qz0h, qz0i, qz0j, qz0k, qz0l, qz0m, qz0n, qz0o, qz0p, qz0q, qz0r, qz0s, qz0t, qz0u, qz0v, qz0w, qz0x, qz0y, qz0z, qz10, qz11, qz12, qz13, qz14, qz15, qz16, qz17, qz18, qz19, qz1a, qz1b, qz1c, qz1d, qz1e, qz1f, qz1g, qz1h, qz1i, qz1j, qz1k, qz1l, qz1m, qz1n, qz1o, qz1p, qz1q, qz1r, qz1s, qz1t, qz1u, qz1v, qz1w, qz1x, qz1y, qz1z, qz20, qz21, qz22, qz23, qz24, qz25, qz26, qz27, qz28, qz29, qz2a, qz2b, qz2c, qz2d, qz2e, qz2f, qz2g, qz2h, qz2i, qz2j, qz2k, qz2l, qz2m, qz2n, qz2o, qz2p, qz2q, qz2r, qz2s, qz2t, qz2u, qz2v, qz2w, qz2x, qz2y, qz2z, qz30, qz31, qz32, qz33, qz34, qz35, qz36, qz37, qz38, qz39, qz3a, qz3b, qz3c, qz3d, Bool.not_true, Bool.not_false, List.cons_append, List.nil_append, List.append_nil]
              refine ⟨l.length - (a + (k + 1)), by omega, k + 1, by omega, rfl, by first | rfl | trivial, hstep hI, ?_⟩
              simp (disch := decide) only [z0, z1, h_here, h_skip, i0, i1, true_and, and_true]
            · have h95' : (ch : Int) ≠ 95 := by omega
              have hI : isInner ch = false := by unfold isInner; rw [hc, hdg]; simp [h95]
              rw [hw, hstop hI] at hK
              simp (disch := first | decide | assumption | omega) only [r_onh i0, r_onh i1, r_onh i5, eA, eX1, qz00, qz01, qz02, qz03, qz04, qz05, qz06, qz07, qz08, qz09, qz0a, qz0b, qz0c, qz0d, qz0e, qz0f, qz0g, qz0h, qz0i, qz0j, qz0k, qz0l, qz0m, qz0n, qz0o, qz0p, qz0q, qz0r, qz0s, qz0t, qz0u, qz0v, qz0w, qz0x, qz0y, qz0z, qz10, qz11, qz12, qz13, qz14, qz15, qz16, qz17, qz18, qz19, qz1a, qz1b, qz1c, qz1d, qz1e, qz1f, qz1g, qz1h, qz1i, qz1j, qz1k, qz1l, qz1m, qz1n, qz1o, qz1p, qz1q, qz1r, qz1s, qz1t, qz1u, qz1v, qz1w, qz1x, qz1y, qz1z, qz20, qz21, qz22, qz23, qz24, qz25, qz26, qz27, qz28, qz29, qz2a, qz2b, qz2c, qz2d, qz2e, qz2f, qz2g, qz2h, qz2i, qz2j, qz2k, qz2l, qz2m, qz2n, qz2o, qz2p, qz2q, qz2r, qz2s, qz2t, qz2u, qz2v, qz2w, qz2x, qz2y, qz2z, qz30, qz31, qz32, qz33, qz34, qz35, qz36, qz37, qz38, qz39, qz3a, qz3b, qz3c, qz3d, Bool.not_true, Bool.not_false, List.cons_append, List.nil_append, List.append_nil]
              exact hK st.bare ⟨Nat.le_refl _, rfl, fun _ _ => rfl⟩
      · have hlt' : ¬ ((a + k : Nat) : Int) < (l.length : Int) := by omega
        have hlead : lead isInner (l.drop a) = k := lead_at (by omega) hp (.inl (by omega))
        rw [hw, hlead] at hK
        simp (disch := first | decide | assumption | omega) only [r_onh i0, r_onh i1, r_onh i5, eA, qz00, qz01, qz02, qz03, qz04, qz05, qz06, qz07, qz08, qz09, qz0a, qz0b, qz0c, qz0d, qz0e, qz0f, qz0g, qz0h, qz0i, qz0j, qz0k, qz0l, qz0m, qz0n, qz0o, qz0p, qz0q, qz0r, qz0s, qz0t, qz0u, qz0v, qz0w, qz0x, qz0y, qz0z, qz10, qz11, qz12, qz13, qz14, qz15, qz16, qz17, qz18, qz19, qz1a, qz1b, qz1c, qz1d, qz1e, qz1f, qz1g, qz1h, qz1i, qz1j, qz1k, qz1l, qz1m, qz1n, qz1o, qz1p, qz1q, qz1r, qz1s, qz1t, qz1u, qz1v, qz1w, qz1x, qz1y, qz1z, qz20, qz21, qz22, qz23, qz24, qz25, qz26, qz27, qz28, qz29, qz2a, qz2b, qz2c, qz2d, qz2e, qz2f, qz2g, qz2h, qz2i, qz2j, qz2k, qz2l, qz2m, qz2n, qz2o, qz2p, qz2q, qz2r, qz2s, qz2t, qz2u, qz2v, qz2w, qz2x, qz2y, qz2z, qz30, qz31, qz32, qz33, qz34, qz35, qz36, qz37, qz38, qz39, qz3a, qz3b, qz3c, qz3d, Bool.not_true, Bool.not_false, List.cons_append, List.nil_append, List.append_nil]
        exact hK st.bare ⟨Nat.le_refl _, rfl, fun _ _ => rfl⟩
    · refine ⟨0, by omega, rfl, by first | rfl | trivial, fun j hj => absurd hj (Nat.not_lt_zero _), ?_⟩
      simp (disch := decide) only [z0, z1, h_here, h_skip, true_and, and_true]
  | false =>
    rw [if_neg (by rw [hL]; decide)] at hw
    simp (disch := first | decide | assumption | omega) only [eX0, qz00, qz01, qz02, qz03, qz04, qz05, qz06, qz07, qz08, qz09, qz0a, qz0b, qz0c, qz0d, qz0e, qz0f, qz0g, qz0h, qz0i, qz0j, qz0k, qz0l, qz0m, qz0n, qz0o, qz0p, qz0q, qz0r, qz0s, qz0t, qz0u, qz0v, qz0w, qz0x, qz0y, qz0z, qz10, qz11, qz12, qz13, qz14, qz15, qz16, qz17, qz18, qz19, qz1a, qz1b, qz1c, qz1d, qz1e, qz1f, qz1g, qz1h, qz1i, qz1j, qz1k, qz1l, qz1m, qz1n, qz1o, qz1p, qz1q, qz1r, qz1s, qz1t, qz1u, qz1v, qz1w, qz1x, qz1y, qz1z, qz20, qz21, qz22, qz23, qz24, qz25, qz26, qz27, qz28, qz29, qz2a, qz2b, qz2c, qz2d, qz2e, qz2f, qz2g, qz2h, qz2i, qz2j, qz2k, qz2l, qz2m, qz2n, qz2o, qz2p, qz2q, qz2r, qz2s, qz2t, qz2u, qz2v, qz2w, qz2x, qz2y, qz2z, qz30, qz31, qz32, qz33, qz34, qz35, qz36, qz37, qz38, qz39, qz3a, qz3b, qz3c, qz3d, Bool.not_true, Bool.not_false, List.cons_append, List.nil_append, List.append_nil]
    refine Digit_ok (fun a s => hb _ a s (by simp)) (l.getD a 0) st.bare _ ?_
    cases hD : isDigit (l.getD a 0) with
    | true =>
      rw [if_pos hD] at hw
      simp (disch := first | decide | assumption | omega) only [qz00, qz01, qz02, qz03, qz04, qz05, qz06, qz07, qz08, qz09, qz0a, qz0b, qz0c, qz0d, qz0e, qz0f, qz0g, qz0h, qz0i, qz0j, qz0k, qz0l, qz0m, qz0n, qz0o, qz0p, qz0q, qz0r, qz0s, qz0t, qz0u, qz0v, qz0w, qz0x, qz0y, qz0z, qz10, qz11, qz12, qz13, qz14, qz15, qz16, qz17, qz18, qz19, qz1a, qz1b, qz1c, qz1d, qz1e, qz1f, qz1g, qz1h, qz1i, qz1j, qz1k, qz1l, qz1m, qz1n, qz1o, qz1p, qz1q, qz1r, qz1s, qz1t, qz1u, qz1v, qz1w, qz1x, qz1y, qz1z, qz20, qz21, qz22, qz23, qz24, qz25, qz26, qz27, qz28, qz29, qz2a, qz2b, qz2c, qz2d, qz2e, qz2f, qz2g, qz2h, qz2i, qz2j, qz2k, qz2l, qz2m, qz2n, qz2o, qz2p, qz2q, qz2r, qz2s, qz2t, qz2u, qz2v, qz2w, qz2x, qz2y, qz2z, qz30, qz31, qz32, qz33, qz34, qz35, qz36, qz37, qz38, qz39, qz3a, qz3b, qz3c, qz3d, Bool.not_true, Bool.not_false, List.cons_append, List.nil_append, List.append_nil]
      refine wC_loopH (fun mm L s => ∃ k : Nat, a + k ≤ l.length ∧ mm = l.length - (a + k) ∧ s = st.bare ∧ (∀ j, j < k → isDigit ((l.drop a).getD j 0) = true) ∧ Has L 0 (.str l) ∧ Has L 1 (.int .i64 (a : Int)) ∧ Has L 5 (.int .i64 (k : Int))) ?_ (l.length - a) ?_
      · rintro mm L s ⟨k, hk, rfl, rfl, hp, i0, i1, i5⟩
        unfold Hold
        have eA := fun (s : St) (K : AV → St → Prop) => v_addNN (a := a) (b := k) (by omega) s K
        by_cases hlt : a + k < l.length
        · have hlt' : ((a + k : Nat) : Int) < (l.length : Int) := by omega
          have eX1 := eX (a + k) hlt
          have hstep : ∀ (h : isDigit (l.getD (a + k) 0) = true), ∀ j, j < k + 1 → isDigit ((l.drop a).getD j 0) = true := fun h j hj => by
            by_cases hjk : j = k
            · rw [hjk, hget]; exact h
            · exact hp j (by omega)
          have hstop : isDigit (l.getD (a + k) 0) = false → lead isDigit (l.drop a) = k := fun h => lead_at (by omega) hp (.inr (by rw [hget]; exact h))
          generalize l.getD (a + k) 0 = ch at eX1 hstep hstop
          simp (disch := first | decide | assumption | omega) only [r_onh i0, r_onh i1, r_onh i5, eA, eX1, qz00, qz01, qz02, qz03, qz04, qz05, qz06, qz07, qz08, qz09, qz0a, qz0b, qz0c, qz0d, qz0e, qz0f, qz0g, qz0h, qz0i, qz0j, qz0k, qz0l, qz0m, qz0n, qz0o, qz0p, qz0q, qz0r, qz0s, qz0t, qz0u, qz0v, qz0w, qz0x, qz0y, qz0z, qz10, qz11, qz12, qz13, qz14, qz15, qz16, qz17, qz18, qz19, qz1a, qz1b, qz1c, qz1d, qz1e, qz1f, qz1g, qz1h, qz1i, qz1j, qz1k, qz1l, qz1m, qz1n, qz1o, qz1p, qz1q, qz1r, qz1s, qz1t, qz1u, qz1v, qz1w, qz1x, qz1y, qz1z, qz20, qz21, qz22, qz23, qz24, qz25, qz26, qz27, qz28, qz29, qz2a, qz2b, qz2c, qz2d, qz2e, qz2f, qz2g, qz2h, qz2i, qz2j, qz2k, qz2l, qz2m, qz2n, qz2o, qz2p, qz2q, qz2r, qz2s, qz2t, qz2u, qz2v, qz2w, qz2x, qz2y, qz2z, qz30, qz31, qz32, qz33, qz34, qz35, qz36, qz37, qz38, qz39, qz3a, qz3b, qz3c, qz3d, Bool.not_true, Bool.not_false, List.cons_append, List.nil_append, List.append_nil]
          refine Digit_ok (fun a s => hb _ a s (by simp)) ch st.bare _ ?_
          cases hdg : isDigit ch with
          | true =>
            have hI := hdg
            simp (disch := first | decide | assumption | omega) only [r_onh i5, v_addN, qz00, qz01, qz02, qz03, qz04, qz05, qz06, qz07, qz08, qz09, qz0a, qz0b, qz0c, qz0d, qz0e, qz0f, qz0g, qz0h, qz0i, qz0j, qz0k, qz0l, qz0m, qz0n, qz0o, qz0p, qz0q, qz0r, qz0s, qz0t, qz0u, qz0v, qz0w, qz0x, qz0y, qz0z, qz10, qz11, qz12, qz13, qz14, qz15, qz16, qz17, qz18, qz19, qz1a, qz1b, qz1c, qz1d, qz1e, qz1f, qz1g, qz1h, qz1i, qz1j, qz1k, qz1l, qz1m, qz1n, qz1o, qz1p, qz1q, qz1r, qz1s, qz1t, qz1u, qz1v, qz1w, qz1x, qz1y, qz1z, qz20, qz21, qz22, qz23, qz24, qz25, qz26, qz27, qz28, qz29, qz2a, qz2b, qz2c, qz2d, qz2e, qz2f, qz2g, qz2h, qz2i, qz2j, qz2k, qz2l, qz2m, qz2n, qz2o, qz2p, qz2q, qz2r, qz2s, qz2t, qz2u, qz2v, qz2w, qz2x, qz2y, qz2z, qz30, qz31, qz32, qz33, qz34, qz35, qz36, qz37, qz38, qz39, qz3a, qz3b, qz3c, qz3d, Bool.not_true, Bool.not_false, List.cons_append, List.nil_append, List.append_nil]
            refine ⟨l.length - (a + (k + 1)), by omega, k + 1, by omega, rfl, by first | rfl | trivial, hstep hI, ?_⟩
            simp (disch := decide) only [z0, z1, h_here, h_skip, i0, i1, true_and, and_true]
          | false =>
            rw [hw, hstop hdg] at hK
            simp (disch := first | decide | assumption | omega) only [r_onh i0, r_onh i1, r_onh i5, eA, eX1, qz00, qz01, qz02, qz03, qz04, qz05, qz06, qz07, qz08, qz09, qz0a, qz0b, qz0c, qz0d, qz0e, qz0f, qz0g, qz0h, qz0i, qz0j, qz0k, qz0l, qz0m, qz0n, qz0o, qz0p, qz0q, qz0r, qz0s, qz0t, qz0u, qz0v, qz0w, qz0x, qz0y, qz0z, qz10, qz11, qz12, qz13, qz14, qz15, qz16, qz17, qz18, qz19, qz1a, qz1b, qz1c, qz1d, qz1e, qz1f, qz1g, qz1h, qz1i, qz1j, qz1k, qz1l, qz1m, qz1n, qz1o, qz1p, qz1q, qz1r, qz1s, qz1t, qz1u, qz1v, qz1w, qz1x, qz1y, qz1z, qz20, qz21, qz22, qz23, qz24, qz25, qz26, qz27, qz28, qz29, qz2a, qz2b, qz2c, qz2d, qz2e, qz2f, qz2g, qz2h, qz2i, qz2j, qz2k, qz2l, qz2m, qz2n, qz2o, qz2p, qz2q, qz2r, qz2s, qz2t, qz2u, qz2v, qz2w, qz2x, qz2y, qz2z, qz30, qz31, qz32, qz33, qz34, qz35, qz36, qz37, qz38, qz39, qz3a, qz3b, qz3c, qz3d, Bool.not_true, Bool.not_false, List.cons_append, List.nil_append, List.append_nil]
            exact hK st.bare ⟨Nat.le_refl _, rfl, fun _ _ => rfl⟩
        · have hlt' : ¬ ((a + k : Nat) : Int) < (l.length : Int) := by omega
          have hlead : lead isDigit (l.drop a) = k := lead_at (by omega) hp (.inl (by omega))
          rw [hw, hlead] at hK
          simp (disch := first | decide | assumption | omega) only [r_onh i0, r_onh i1, r_onh i5, eA, qz00, qz01, qz02, qz03, qz04, qz05, qz06, qz07, qz08, qz09, qz0a, qz0b, qz0c, qz0d, qz0e, qz0f, qz0g, qz0h, qz0i, qz0j, qz0k, qz0l, qz0m, qz0n, qz0o, qz0p, qz0q, qz0r, qz0s, qz0t, qz0u, qz0v, qz0w, qz0x, qz0y, qz0z, qz10, qz11, qz12, qz13, qz14, qz15, qz16, qz17, qz18, qz19, qz1a, qz1b, qz1c, qz1d, qz1e, qz1f, qz1g, qz1h, qz1i, qz1j, qz1k, qz1l, qz1m, qz1n, qz1o, qz1p, qz1q, qz1r, qz1s, qz1t, qz1u, qz1v, qz1w, qz1x, qz1y, qz1z, qz20, qz21, qz22, qz23, qz24, qz25, qz26, qz27, qz28, qz29, qz2a, qz2b, qz2c, qz2d, qz2e, qz2f, qz2g, qz2h, qz2i, qz2j, qz2k, qz2l, qz2m, qz2n, qz2o, qz2p, qz2q, qz2r, qz2s, qz2t, qz2u, qz2v, qz2w, qz2x, qz2y, qz2z, qz30, qz31, qz32, qz33, qz34, qz35, qz36, qz37, qz38, qz39, qz3a, qz3b, qz3c, qz3d, Bool.not_true, Bool.not_false, List.cons_append, List.nil_append, List.append_nil]
          exact hK st.bare ⟨Nat.le_refl _, rfl, fun _ _ => rfl⟩
      · refine ⟨0, by omega, rfl, by first | rfl | trivial, fun j hj => absurd hj (Nat.not_lt_zero _), ?_⟩
        simp (disch := decide) only [z0, z1, h_here, h_skip, true_and, and_true]
    | false =>
      rw [if_neg (by rw [hD]; decide)] at hw
      have e1 : ((1 : Nat) : Int) = 1 := rfl
      simp (disch := first | decide | assumption | omega) only [qz00, qz01, qz02, qz03, qz04, qz05, qz06, qz07, qz08, qz09, qz0a, qz0b, qz0c, qz0d, qz0e, qz0f, qz0g, qz0h, qz0i, qz0j, qz0k, qz0l, qz0m, qz0n, qz0o, qz0p, qz0q, qz0r, qz0s, qz0t, qz0u, qz0v, qz0w, qz0x, qz0y, qz0z, qz10, qz11, qz12, qz13, qz14, qz15, qz16, qz17, qz18, qz19, qz1a, qz1b, qz1c, qz1d, qz1e, qz1f, qz1g, qz1h, qz1i, qz1j, qz1k, qz1l, qz1m, qz1n, qz1o, qz1p, qz1q, qz1r, qz1s, qz1t, qz1u, qz1v, qz1w, qz1x, qz1y, qz1z, qz20, qz21, qz22, qz23, qz24, qz25, qz26, qz27, qz28, qz29, qz2a, qz2b, qz2c, qz2d, qz2e, qz2f, qz2g, qz2h, qz2i, qz2j, qz2k, qz2l, qz2m, qz2n, qz2o, qz2p, qz2q, qz2r, qz2s, qz2t, qz2u, qz2v, qz2w, qz2x, qz2y, qz2z, qz30, qz31, qz32, qz33, qz34, qz35, qz36, qz37, qz38, qz39, qz3a, qz3b, qz3c, qz3d, Bool.not_true, Bool.not_false, List.cons_append, List.nil_append, List.append_nil]
      refine wC_loopH (fun mm L s => ∃ k : Nat, k ≤ 3 ∧ mm = 3 - k ∧ Kept st.bare s ∧ Has L 0 (.str l) ∧ Has L 1 (.int .i64 (a : Int)) ∧ Has L 5 (.int .i64 (refSign (l.drop a) k : Int)) ∧ Has L 6 (.int .i64 ((k + 1 : Nat) : Int))) ?_ 3 ?_
      · rintro mm L s ⟨k, hk, rfl, ks, i0, i1, i5, i6⟩
        unfold Hold
        have sfr : s.fr = [] := ks.fr
        have eA := fun (s : St) (K : AV → St → Prop) => v_addNN (a := a) (b := k + 1) (by omega) s K
        have hfin : (3 ≤ k ∨ l.length < a + (k + 1)) → refSign (l.drop a) k = signN (l.drop a) := fun h => by
          rw [← refSign_eq]
          rcases h with h | h
          · rw [show k = 3 by omega]
          · have hs : ∀ j, k ≤ j → refSign (l.drop a) j = refSign (l.drop a) k := fun j hj => by
              induction j with
              | zero => rw [show k = 0 by omega]
              | succ j ih =>
                by_cases hjk : k = j + 1
                · rw [hjk]
                · show (if j + 1 ≤ (l.drop a).length ∧ _ then j + 1 else refSign (l.drop a) j) = _
                  rw [if_neg (fun h' => by have := h'.1; omega)]
                  exact ih (by omega)
            exact (hs 3 hk).symm
        by_cases h3 : k < 3
        · have h3' : ((k + 1 : Nat) : Int) ≤ 3 := by omega
          by_cases hlt : a + (k + 1) ≤ l.length
          · have hlt' : ((a + (k + 1) : Nat) : Int) ≤ (l.length : Int) := by omega
            have eS := fun (s : St) (K : AV → St → Prop) => v_sl3 (st := s) (K := K) (l := l) (a := a) (n := a + (k + 1)) (by omega) hlt .i64 .i64
            have en : a + (k + 1) - a = k + 1 := by omega
            simp (disch := first | decide | assumption | omega) only [r_onh i0, r_onh i1, r_onh i5, r_onh i6, eA, eS, en, bR, qz00, qz01, qz02, qz03, qz04, qz05, qz06, qz07, qz08, qz09, qz0a, qz0b, qz0c, qz0d, qz0e, qz0f, qz0g, qz0h, qz0i, qz0j, qz0k, qz0l, qz0m, qz0n, qz0o, qz0p, qz0q, qz0r, qz0s, qz0t, qz0u, qz0v, qz0w, qz0x, qz0y, qz0z, qz10, qz11, qz12, qz13, qz14, qz15, qz16, qz17, qz18, qz19, qz1a, qz1b, qz1c, qz1d, qz1e, qz1f, qz1g, qz1h, qz1i, qz1j, qz1k, qz1l, qz1m, qz1n, qz1o, qz1p, qz1q, qz1r, qz1s, qz1t, qz1u, qz1v, qz1w, qz1x, qz1y, qz1z, qz20, qz21, qz22, qz23, qz24, qz25, qz26, qz27, qz28, qz29, qz2a, qz2b, qz2c, qz2d, qz2e, qz2f, qz2g, qz2h, qz2i, qz2j, qz2k, qz2l, qz2m, qz2n, qz2o, qz2p, qz2q, qz2r, qz2s, qz2t, qz2u, qz2v, qz2w, qz2x, qz2y, qz2z, qz30, qz31, qz32, qz33, qz34, qz35, qz36, qz37, qz38, qz39, qz3a, qz3b, qz3c, qz3d, Bool.not_true, Bool.not_false, List.cons_append, List.nil_append, List.append_nil]
            refine o_R fun s2 m2 => ?_
            have n2 := m2.nx
            simp (disch := first | decide | assumption | omega) only [qz00, qz01, qz02, qz03, qz04, qz05, qz06, qz07, qz08, qz09, qz0a, qz0b, qz0c, qz0d, qz0e, qz0f, qz0g, qz0h, qz0i, qz0j, qz0k, qz0l, qz0m, qz0n, qz0o, qz0p, qz0q, qz0r, qz0s, qz0t, qz0u, qz0v, qz0w, qz0x, qz0y, qz0z, qz10, qz11, qz12, qz13, qz14, qz15, qz16, qz17, qz18, qz19, qz1a, qz1b, qz1c, qz1d, qz1e, qz1f, qz1g, qz1h, qz1i, qz1j, qz1k, qz1l, qz1m, qz1n, qz1o, qz1p, qz1q, qz1r, qz1s, qz1t, qz1u, qz1v, qz1w, qz1x, qz1y, qz1z, qz20, qz21, qz22, qz23, qz24, qz25, qz26, qz27, qz28, qz29, qz2a, qz2b, qz2c, qz2d, qz2e, qz2f, qz2g, qz2h, qz2i, qz2j, qz2k, qz2l, qz2m, qz2n, qz2o, qz2p, qz2q, qz2r, qz2s, qz2t, qz2u, qz2v, qz2w, qz2x, qz2y, qz2z, qz30, qz31, qz32, qz33, qz34, qz35, qz36, qz37, qz38, qz39, qz3a, qz3b, qz3c, qz3d, Bool.not_true, Bool.not_false, List.cons_append, List.nil_append, List.append_nil]
            refine one_ok (fun a s => hb _ a s (by simp)) ((l.drop a).take (k + 1)) signsR s.nx 0 23 true s2 (by decide) (by rw [m2.len]; decide) (fun i hi => by rw [Nat.zero_add, m2.cell i hi]; exact signsR_cells i hi) _ ?_
            have k2 := ks.made m2
            have hrs : refSign (l.drop a) (k + 1) = if k + 1 ≤ (l.drop a).length ∧ (l.drop a).take (k + 1) ∈ signsR then k + 1 else refSign (l.drop a) k := rfl
            by_cases hm : (l.drop a).take (k + 1) ∈ signsR
            · rw [decide_eq_true hm]
              rw [if_pos ⟨by omega, hm⟩] at hrs
              simp (disch := first | decide | assumption | omega) only [r_onh i6, v_addN, qz00, qz01, qz02, qz03, qz04, qz05, qz06, qz07, qz08, qz09, qz0a, qz0b, qz0c, qz0d, qz0e, qz0f, qz0g, qz0h, qz0i, qz0j, qz0k, qz0l, qz0m, qz0n, qz0o, qz0p, qz0q, qz0r, qz0s, qz0t, qz0u, qz0v, qz0w, qz0x, qz0y, qz0z, qz10, qz11, qz12, qz13, qz14, qz15, qz16, qz17, qz18, qz19, qz1a, qz1b, qz1c, qz1d, qz1e, qz1f, qz1g, qz1h, qz1i, qz1j, qz1k, qz1l, qz1m, qz1n, qz1o, qz1p, qz1q, qz1r, qz1s, qz1t, qz1u, qz1v, qz1w, qz1x, qz1y, qz1z, qz20, qz21, qz22, qz23, qz24, qz25, qz26, qz27, qz28, qz29, qz2a, qz2b, qz2c, qz2d, qz2e, qz2f, qz2g, qz2h, qz2i, qz2j, qz2k, qz2l, qz2m, qz2n, qz2o, qz2p, qz2q, qz2r, qz2s, qz2t, qz2u, qz2v, qz2w, qz2x, qz2y, qz2z, qz30, qz31, qz32, qz33, qz34, qz35, qz36, qz37, qz38, qz39, qz3a, qz3b, qz3c, qz3d, Bool.not_true, Bool.not_false, List.cons_append, List.nil_append, List.append_nil]
              refine ⟨3 - (k + 1), by omega, k + 1, by omega, rfl, k2, ?_⟩
              rw [hrs]
              simp (disch := decide) only [z0, z1, h_here, h_skip, i0, i1, true_and, and_true]
            · rw [decide_eq_false hm]
              rw [if_neg (fun h => hm h.2)] at hrs
              simp (disch := first | decide | assumption | omega) only [r_onh i6, v_addN, qz00, qz01, qz02, qz03, qz04, qz05, qz06, qz07, qz08, qz09, qz0a, qz0b, qz0c, qz0d, qz0e, qz0f, qz0g, qz0h, qz0i, qz0j, qz0k, qz0l, qz0m, qz0n, qz0o, qz0p, qz0q, qz0r, qz0s, qz0t, qz0u, qz0v, qz0w, qz0x, qz0y, qz0z, qz10, qz11, qz12, qz13, qz14, qz15, qz16, qz17, qz18, qz19, qz1a, qz1b, qz1c, qz1d, qz1e, qz1f, qz1g, qz1h, qz1i, qz1j, qz1k, qz1l, qz1m, qz1n, qz1o, qz1p, qz1q, qz1r, qz1s, qz1t, qz1u, qz1v, qz1w, qz1x, qz1y, qz1z, qz20, qz21, qz22, qz23, qz24, qz25, qz26, qz27, qz28, qz29, qz2a, qz2b, qz2c, qz2d, qz2e, qz2f, qz2g, qz2h, qz2i, qz2j, qz2k, qz2l, qz2m, qz2n, qz2o, qz2p, qz2q, qz2r, qz2s, qz2t, qz2u, qz2v, qz2w, qz2x, qz2y, qz2z, qz30, qz31, qz32, qz33, qz34, qz35, qz36, qz37, qz38, qz39, qz3a, qz3b, qz3c, qz3d, Bool.not_true, Bool.not_false, List.cons_append, List.nil_append, List.append_nil]
              refine ⟨3 - (k + 1), by omega, k + 1, by omega, rfl, k2, ?_⟩
              rw [hrs]
              simp (disch := decide) only [z0, z1, h_here, h_skip, i0, i1, i5, true_and, and_true]
          · have hlt' : ¬ ((a + (k + 1) : Nat) : Int) ≤ (l.length : Int) := by omega
            have hlt'' : (l.length : Int) < ((a + (k + 1) : Nat) : Int) := by omega
            rw [hw, ← hfin (.inr (by omega))] at hK
            simp (disch := first | decide | assumption | omega) only [r_onh i0, r_onh i1, r_onh i5, r_onh i6, eA, qz00, qz01, qz02, qz03, qz04, qz05, qz06, qz07, qz08, qz09, qz0a, qz0b, qz0c, qz0d, qz0e, qz0f, qz0g, qz0h, qz0i, qz0j, qz0k, qz0l, qz0m, qz0n, qz0o, qz0p, qz0q, qz0r, qz0s, qz0t, qz0u, qz0v, qz0w, qz0x, qz0y, qz0z, qz10, qz11, qz12, qz13, qz14, qz15, qz16, qz17, qz18, qz19, qz1a, qz1b, qz1c, qz1d, qz1e, qz1f, qz1g, qz1h, qz1i, qz1j, qz1k, qz1l, qz1m, qz1n, qz1o, qz1p, qz1q, qz1r, qz1s, qz1t, qz1u, qz1v, qz1w, qz1x, qz1y, qz1z, qz20, qz21, qz22, qz23, qz24, qz25, qz26, qz27, qz28, qz29, qz2a, qz2b, qz2c, qz2d, qz2e, qz2f, qz2g, qz2h, qz2i, qz2j, qz2k, qz2l, qz2m, qz2n, qz2o, qz2p, qz2q, qz2r, qz2s, qz2t, qz2u, qz2v, qz2w, qz2x, qz2y, qz2z, qz30, qz31, qz32, qz33, qz34, qz35, qz36, qz37, qz38, qz39, qz3a, qz3b, qz3c, qz3d, Bool.not_true, Bool.not_false, List.cons_append, List.nil_append, List.append_nil]
            exact hK s.bare ⟨ks.nx, rfl, ks.keep⟩
        · have h3' : ¬ ((k + 1 : Nat) : Int) ≤ 3 := by omega
          have h3'' : (3 : Int) < ((k + 1 : Nat) : Int) := by omega
          rw [hw, ← hfin (.inl (by omega))] at hK
          simp (disch := first | decide | assumption | omega) only [r_onh i0, r_onh i1, r_onh i5, r_onh i6, qz00, qz01, qz02, qz03, qz04, qz05, qz06, qz07, qz08, qz09, qz0a, qz0b, qz0c, qz0d, qz0e, qz0f, qz0g, qz0h, qz0i, qz0j, qz0k, qz0l, qz0m, qz0n, qz0o, qz0p, qz0q, qz0r, qz0s, qz0t, qz0u, qz0v, qz0w, qz0x, qz0y, qz0z, qz10, qz11, qz12, qz13, qz14, qz15, qz16, qz17, qz18, qz19, qz1a, qz1b, qz1c, qz1d, qz1e, qz1f, qz1g, qz1h, qz1i, qz1j, qz1k, qz1l, qz1m, qz1n, qz1o, qz1p, qz1q, qz1r, qz1s, qz1t, qz1u, qz1v, qz1w, qz1x, qz1y, qz1z, qz20, qz21, qz22, qz23, qz24, qz25, qz26, qz27, qz28, qz29, qz2a, qz2b, qz2c, qz2d, qz2e, qz2f, qz2g, qz2h, qz2i, qz2j, qz2k, qz2l, qz2m, qz2n, qz2o, qz2p, qz2q, qz2r, qz2s, qz2t, qz2u, qz2v, qz2w, qz2x, qz2y, qz2z, qz30, qz31, qz32, qz33, qz34, qz35, qz36, qz37, qz38, qz39, qz3a, qz3b, qz3c, qz3d, Bool.not_true, Bool.not_false, List.cons_append, List.nil_append, List.append_nil]
          exact hK s.bare ⟨ks.nx, rfl, ks.keep⟩
      · have er : refSign (l.drop a) 0 = 0 := rfl
        refine ⟨0, by omega, rfl, Kept.refl _, ?_⟩
        rw [er]
        simp (disch := decide) only [z0, z1, h_here, h_skip, true_and, and_true]
        exact Has.here _ _ _
end Go.Sy
end

section
set_option maxRecDepth 100000
namespace Go.Sy
open Go.Ev Go.Proofs Go.RowKit
section
variable {P : Program} {base : CallF} {st : St} {K : AV → St → Prop} {e : En}
theorem qz3k (l : List DStp) (L : Sl) (st : St) (Q : Out → Prop) : wC P base (.dops l) L st Q = wD P base l ⟨[], L⟩ [] st fun e st' => Q (.go e.g st') := nr rfl
theorem qz3l (e : En) (tb : List TE) (st : St) (K : En → St → Prop) : wD P base [] e tb st K = K e st := nr rfl
theorem qz3m (d : Option Nat) (kp : Bool) (k : IC) (te : Option (Option A)) (lt : TypeId) (prt : List (Nat × TypeId)) (l : List DStp) (e : En) (tb : List TE) (st : St) (K : En → St → Prop) :
    wD P base (⟨⟨d, kp, none, k⟩, te, lt, prt⟩ :: l) e tb st K = wK P base k e st fun v st' => held P lt (teW te e v st st') tb prt = true ∧ wD P base l (pushE d kp v e) (teW te e v st st' :: tb) st' K := nr rfl
theorem qz3o (e : En) (v : AV) (st st' : St) : teW none e v st st' = .none := nr rfl
theorem qz3p (e : En) (v : AV) (st st' : St) : teW (some none) e v st st' = .wr st.h st'.h := nr rfl
theorem qz3q (a : A) (e : En) (v : AV) (st st' : St) : teW (some (some a)) e v st st' = .rd (vl e a) v := nr rfl
theorem qz3r (x : Nat) (v : AV) (l g : Sl) : vl ⟨(x, v) :: l, g⟩ (.t x) = v := by simp [vl, En.look, look_cons, En.has, has_cons]
theorem qz3t (t : TypeId) (x : TE) (tb : List TE) : held P t x tb [] = true := nr rfl
theorem r_heldw6 (t u : TypeId) (a v : AV) (x1 x2 x3 x4 x5 x6 : TE) (h h' : T AO) (tb : List TE) : held P t (.wr h h') (x1 :: x2 :: x3 :: x4 :: x5 :: x6 :: .rd a v :: tb) [(6, u)] = cond (cond (sameAt P u a v h) (sameAt P u a v h') false) true false := nr rfl
theorem i_buildS05 (z1 z2 z3 z4 z5 : AV) : wK P base (.i (.buildS 0 5 [z1, z2, z3, z4, z5] [])) e st K = onER (buildSV 0 5 [z1, z2, z3, z4, z5] [] st) K := k_0 rfl (fun _ => rfl) K
theorem o_buildS05 {z : List AV} (hk : ∀ st', Made st st' 0 (fun _ => .bad) → K (.slice st.nx 0 0 0 5 true) st') : onER (buildSV 0 5 z [] st) K := by
  have h2 : fillP (repeatC z 0) [] = some [] := rfl
  have h3 : lall AV.cell [] = true := rfl
  simp only [buildSV, h2, onSome, h3, cond_true, force_eq, llen_eq, St.alloc_eq, onER]
  exact hk _ (made_row fun i hi => absurd hi (Nat.not_lt_zero _))
/-- one thing of k cells behind an empty slice -/
theorem o_appKe {k bytes b bv xc : Nat} {xx : Bool} (hk0 : 0 < k) (hb : IsRow st.h b) (hby : bytes ≤ 140737488355328) (hv : rlen st.h bv = k)
    (hk : ∀ st', Made st st' k (fun i => rat st.h bv i) → K (.slice st.nx 0 1 1 k false) st') : onER (appV k bytes (.slice b 0 0 0 k true) (.slice bv 0 1 xc k xx) st) K := by
  obtain ⟨n', zl', z', cs', hg'⟩ := hb
  obtain ⟨n, zl, z, cs, hg⟩ := isRow_pos (h := st.h) (b := bv) (by omega)
  rw [rlen_get hg] at hv
  have e0 : Nat.mul 1 k = k := Nat.one_mul k
  have e1 : Nat.ble (Nat.add 0 k) n = true := ble_t (by show 0 + k ≤ n; omega)
  have e3 : Nat.beq (llen (rowCells zl z cs k 0)) k = true := beq_t (by rw [llen_eq, rowCells_eq]; simp)
  have e4 : Nat.ble (Nat.add 0 1) 0 = false := rfl
  have e41 : Nat.add 0 1 = 1 := rfl
  have e42 : Nat.ble 1 0 = false := rfl
  have e5 : Nat.ble (Nat.mul 1 bytes) 140737488355328 = true := ble_t (by show 1 * bytes ≤ _; omega)
  have e6 : Nat.ble 1 9223372036854775807 = true := ble_t (by decide)
  have e70 : Nat.mul 0 k = 0 := Nat.zero_mul k
  have e71 : Nat.add 0 0 = 0 := rfl
  have e7 : Nat.ble 0 n' = true := ble_t (Nat.zero_le _)
  have e8 : lapp (rowCells zl' z' cs' 0 0) (rowCells zl z cs k 0) = rowCells zl z cs k 0 := by
    rw [lapp_eq]; rfl
  simp only [appV, onLen, firstCells, hg, onRow, force_eq, e0, e1, cond_true, appendWith, e3, hg', e41, e42, cond_false, e5, e6, e70, e71, e7, e8, St.alloc_eq, onER]
  refine hk _ (made_row fun i hi => ?_)
  rw [rowCell_eq, get_e, rowCells_eq, Nat.mod_eq_of_lt hi, rat_get hg]
  simp [List.getD_eq_getElem?_getD, List.getElem?_map, hi]
theorem v_mul10 {a : Nat} (h : a ≤ 922337203685477580) : onER (binV .mul (.int .i64 10) (.int .i64 (a : Int)) st) K = K (.int .i64 ((10 * a : Nat) : Int)) st := by
  rw [v_mul (by omega) (by omega)]
  have : 10 * (a : Int) = ((10 * a : Nat) : Int) := by omega
  rw [this]
theorem v_sub48 {c : Nat} (h : 48 ≤ c) (h2 : c < 256) : onER (binV .sub (.int .u8 (c : Int)) (.int .u8 48) st) K = K (.int .u8 ((c - 48 : Nat) : Int)) st := by
  have e : (c : Int) - 48 = ((c - 48 : Nat) : Int) := by omega
  refine b_val (show some (AV.int .u8 (wrapI .u8 ((c : Int) - 48))) = _ from ?_)
  rw [e, wrapI_eq]
  have : IntKind.u8.wrap ((c - 48 : Nat) : Int) = ((c - 48 : Nat) : Int) := by
    show ((c - 48 : Nat) : Int) % 256 = _
    omega
  rw [this]
end
/-- a slice of words that a literal began -/
def rsV (b : Nat) (ts : List Tk) : AV := if ts = [] then .slice b 0 0 0 5 true else .slice b 0 ts.length ts.length 5 false
structure Rs (s : St) (b : Nat) (ts : List Tk) : Prop where
  lt : b < s.nx
  row : IsRow s.h b
  ts : ts ≠ [] → Ts s b ts
theorem Rs.keep {s s' : St} {b : Nat} {ts : List Tk} (h : Rs s b ts) (hn : s.nx ≤ s'.nx) (k : hget s'.h b = hget s.h b) : Rs s' b ts :=
  ⟨Nat.lt_of_lt_of_le h.lt hn, isRow_same k h.row, fun e => (h.ts e).keep hn k⟩
theorem rsV_ts {b : Nat} {ts : List Tk} (h : ts ≠ []) : rsV b ts = tsV b ts := by unfold rsV tsV; rw [if_neg h, if_neg h]
theorem o_appR5 {st : St} {K : AV → St → Prop} {b bv xc : Nat} {xx : Bool} {ts : List Tk} {t : Tk} (hR : Rs st b ts) (hlen : ts.length ≤ 1000000) (hv : rlen st.h bv = 5) (hvc : ∀ i, i < 5 → rat st.h bv i = t.cells.getD i .bad)
    (hk : ∀ st', st'.nx = st.nx + 1 → st'.fr = st.fr → (∀ c, c ≠ st.nx → c ≠ b → hget st'.h c = hget st.h c) → Rs st' st.nx (ts ++ [t]) → Ts st' st.nx (ts ++ [t]) → K (rsV st.nx (ts ++ [t])) st') : onER (appV 5 48 (rsV b ts) (.slice bv 0 1 xc 5 xx) st) K := by
  have fin : ∀ st' : St, Ts st' st.nx (ts ++ [t]) → Rs st' st.nx (ts ++ [t]) := fun st' T => ⟨T.lt, isRow_pos (by rw [T.len, List.length_append]; show 0 < 5 * (ts.length + 1); omega), fun _ => T⟩
  by_cases h : ts = []
  · subst h
    refine o_appKe (by decide) hR.row (by decide) hv fun s' m => ?_
    have T : Ts s' st.nx ([] ++ [t]) := ⟨by rw [m.nx]; omega, m.len, fun i hi => by
      have hi' : i < 5 := hi
      rw [m.cell i hi', hvc i hi']
      show t.cells.getD i .bad = (t.cells ++ []).getD i .bad
      rw [List.append_nil]⟩
    exact hk s' m.nx m.fr (fun c h1 _ => m.keep c h1) (fin s' T) T
  · rw [rsV_ts h]
    have e : rsV st.nx (ts ++ [t]) = tsV st.nx (ts ++ [t]) := rsV_ts (by simp)
    rw [e] at hk
    exact o_appT (fun h => hR.ts h) hlen hv hvc fun s' q1 q2 q3 T => hk s' q1 q2 (fun c h1 h2 => q3 c h1 (fun _ => h2)) (fin s' T) T
theorem loadKd (b o n zl : Nat) (z : List AV) (cs : T AV) (h : T AO) (hg : hget h b = some (.row n zl z cs)) (ho : o < n) : (loadK Tryd.prog 2).run (.ptr b o) h = some (rowCell zl z cs o) := by
  have e1 : Go.Ev.isAgg Tryd.prog 2 = some false := by kernel_rfl
  have e2 : Go.Ev.sizeOf Tryd.prog 2 = some 1 := by kernel_rfl
  have e3 : Nat.ble (Nat.succ o) n = true := ble_t ho
  simp only [loadK, e1, e2, hg, e3, cond_true]
theorem sameD {b o : Nat} {h : T AO} {n : Int} (ho : o < rlen h b) (hv : rat h b o = .int .i64 n) : sameAt Tryd.prog 2 (.ptr b o) (.int .i64 n) h = true := by
  obtain ⟨n', zl, z, cs, hg⟩ := isRow_pos (h := h) (b := b) (by omega)
  rw [rlen_get hg] at ho
  rw [rat_get hg] at hv
  unfold sameAt
  rw [loadKd b o n' zl z cs h hg ho, hv]
  show eqAV (.int .i64 n) (.int .i64 n) = true
  simp [eqAV, eqCellS, eqCell, eqK_self, eqI_self]
end Go.Sy
end

section
set_option maxRecDepth 100000
namespace Go.Sy
open Go.Ev Go.Proofs
def x48 : Cmd := (.ops [⟨(some 29), false, none, (.i (.mv (.t 6)))⟩, ⟨(some 30), false, none, (.i (.un .not (.t 29)))⟩, ⟨(some 31), false, none, (.i (.mv (.t 30)))⟩, ⟨(some 32), false, (some (31, true)), (.i (.mv (.t 7)))⟩, ⟨(some 33), false, (some (31, true)), (.i (.bin .eql (.t 32) (.c (.int .u8 47))))⟩, ⟨(some 34), false, none, (.i (.pick (.t 31) (.t 33) (.c (.bool false))))⟩, ⟨(some 35), false, none, (.i (.mv (.t 34)))⟩, ⟨(some 36), false, (some (35, true)), (.i (.mv (.t 5)))⟩, ⟨(some 37), false, (some (35, true)), (.i (.bin .add (.t 36) (.c (.int .i64 1))))⟩, ⟨(some 38), false, (some (35, true)), (.i (.mv (.t 0)))⟩, ⟨(some 39), false, (some (35, true)), (.i (.lenS (.t 38)))⟩, ⟨(some 40), false, (some (35, true)), (.i (.bin .lss (.t 37) (.t 39)))⟩, ⟨(some 41), false, none, (.i (.pick (.t 35) (.t 40) (.c (.bool false))))⟩, ⟨(some 42), false, none, (.i (.mv (.t 41)))⟩, ⟨(some 43), false, (some (42, true)), (.i (.mv (.t 0)))⟩, ⟨(some 44), false, (some (42, true)), (.i (.mv (.t 5)))⟩, ⟨(some 45), false, (some (42, true)), (.i (.bin .add (.t 44) (.c (.int .i64 1))))⟩, ⟨(some 46), false, (some (42, true)), (.i (.ixStr (.t 43) (.t 45)))⟩, ⟨(some 47), false, (some (42, true)), (.i (.bin .eql (.t 46) (.c (.int .u8 47))))⟩, ⟨(some 48), true, none, (.i (.pick (.t 42) (.t 47) (.c (.bool false))))⟩])
def x61 : Cmd := (.ops [⟨(some 49), false, none, (.i (.mv (.t 6)))⟩, ⟨(some 50), false, none, (.i (.mv (.t 49)))⟩, ⟨(some 51), false, (some (50, false)), (.i (.mv (.t 7)))⟩, ⟨(some 52), false, (some (50, false)), (.i (.bin .eql (.t 51) (.c (.int .u8 32))))⟩, ⟨(some 53), false, none, (.i (.pick (.t 50) (.c (.bool true)) (.t 52)))⟩, ⟨(some 54), false, none, (.i (.mv (.t 53)))⟩, ⟨(some 55), false, (some (54, false)), (.i (.mv (.t 7)))⟩, ⟨(some 56), false, (some (54, false)), (.i (.bin .eql (.t 55) (.c (.int .u8 9))))⟩, ⟨(some 57), false, none, (.i (.pick (.t 54) (.c (.bool true)) (.t 56)))⟩, ⟨(some 58), false, none, (.i (.mv (.t 57)))⟩, ⟨(some 59), false, (some (58, false)), (.i (.mv (.t 7)))⟩, ⟨(some 60), false, (some (58, false)), (.i (.bin .eql (.t 59) (.c (.int .u8 10))))⟩, ⟨(some 61), true, none, (.i (.pick (.t 58) (.c (.bool true)) (.t 60)))⟩])
def xA : Cmd := (.seq (.ops [⟨(some 132), false, none, (.i (.mv (.t 4)))⟩, ⟨(some 133), false, none, (.i (.ldA 5 (.t 11)))⟩, ⟨(some 134), false, none, (.i (.buildS 1 5 [(.int .i64 0), (.str []), (.int .i64 0), (.int .i64 0), (.int .i64 0)] [((0, 5), (.t 133))]))⟩, ⟨(some 135), false, none, (.i (.app 5 48 (.t 132) (.t 134)))⟩, ⟨(some 4), true, none, (.i (.mv (.t 135)))⟩]) (.ops [⟨(some 136), false, none, (.i (.mv (.t 5)))⟩, ⟨(some 137), false, none, (.i (.mv (.t 8)))⟩, ⟨(some 138), false, none, (.i (.bin .add (.t 136) (.t 137)))⟩, ⟨(some 5), true, none, (.i (.mv (.t 138)))⟩]))
def xN : Cmd := (.seq (.ops [⟨(some 12), true, none, (.i (.mv (.c (.int .i64 0))))⟩]) (.block 2 (.loop (.seq (.seq (.ops [⟨(some 102), false, none, (.i (.mv (.t 12)))⟩, ⟨(some 103), false, none, (.i (.mv (.t 8)))⟩, ⟨(some 104), false, none, (.i (.bin .lss (.t 102) (.t 103)))⟩, ⟨(some 105), false, none, (.i (.mv (.t 104)))⟩, ⟨(some 106), false, (some (105, true)), (.i (.mv (.t 12)))⟩, ⟨(some 107), false, (some (105, true)), (.i (.bin .lss (.t 106) (.c (.int .i64 8))))⟩, ⟨(some 108), true, none, (.i (.pick (.t 105) (.t 107) (.c (.bool false))))⟩]) (.cond (.t 108) .skip (.exit 2))) (.seq (.block 3 (.dops [⟨⟨(some 111), false, none, (.i (.fad 2 (.t 11)))⟩, none, 0, []⟩, ⟨⟨(some 112), false, none, (.i (.ld1 (.t 111)))⟩, (some (some (.t 111))), 2, []⟩, ⟨⟨(some 113), false, none, (.i (.bin .mul (.c (.int .i64 10)) (.t 112)))⟩, none, 0, []⟩, ⟨⟨(some 114), false, none, (.i (.fad 1 (.t 11)))⟩, none, 0, []⟩, ⟨⟨(some 115), false, none, (.i (.ld1 (.t 114)))⟩, (some (some (.t 114))), 9, []⟩, ⟨⟨(some 116), false, none, (.i (.mv (.t 12)))⟩, none, 0, []⟩, ⟨⟨(some 117), false, none, (.i (.ixStr (.t 115) (.t 116)))⟩, none, 0, []⟩, ⟨⟨(some 118), false, none, (.i (.bin .sub (.t 117) (.c (.int .u8 48))))⟩, none, 0, []⟩, ⟨⟨(some 119), false, none, (.i (.cvt .i64 (.t 118)))⟩, (some none), 0, [(6, 2)]⟩, ⟨⟨(some 120), false, none, (.i (.bin .add (.t 113) (.t 119)))⟩, none, 0, []⟩, ⟨⟨(some 121), false, none, (.i (.fad 2 (.t 11)))⟩, none, 0, []⟩, ⟨⟨none, false, none, (.i (.st 1 (.t 121) (.t 120)))⟩, (some none), 0, []⟩])) (.ops [⟨(some 109), false, none, (.i (.mv (.t 12)))⟩, ⟨(some 110), false, none, (.i (.bin .add (.t 109) (.c (.int .i64 1))))⟩, ⟨(some 12), true, none, (.i (.mv (.t 110)))⟩]))))))
theorem b10_eq : b10 = (.seq (.ops [⟨(some 2), true, none, (.i (.mv (.c .nils)))⟩, ⟨(some 3), true, none, (.i (.alloc [(.int .i64 0), (.int .i64 0), (.int .i64 0)]))⟩]) (.seq (.seq (.ops [⟨(some 15), false, none, (.i (.mv (.t 0)))⟩, ⟨(some 16), false, none, (.i (.lenS (.t 15)))⟩, ⟨(some 17), true, none, (.i (.bin .gtr (.t 16) (.c (.int .i64 65536))))⟩]) (.cond (.t 17) (.seq (.ops [⟨(some 18), false, none, (.i (.build [(.int .i64 0), (.int .i64 0), (.int .i64 0)] [((0, 1), (.c (.int .i64 132))), ((1, 1), (.c (.int .i64 1))), ((2, 1), (.c (.int .i64 1)))]))⟩, ⟨(some 2), true, none, (.i (.mv (.c .nils)))⟩, ⟨none, false, none, (.i (.st 3 (.t 3) (.t 18)))⟩]) .ret) .skip)) (.seq (.ops [⟨(some 19), false, none, (.i (.buildS 0 5 [(.int .i64 0), (.str []), (.int .i64 0), (.int .i64 0), (.int .i64 0)] []))⟩, ⟨(some 4), true, none, (.i (.mv (.t 19)))⟩]) (.seq (.ops [⟨(some 5), true, none, (.i (.mv (.c (.int .i64 0))))⟩]) (.seq (.ops [⟨(some 6), true, none, (.i (.mv (.c (.bool false))))⟩]) (.seq (.block 0 (.loop (.seq (.seq (.ops [⟨(some 20), false, none, (.i (.mv (.t 5)))⟩, ⟨(some 21), false, none, (.i (.mv (.t 0)))⟩, ⟨(some 22), false, none, (.i (.lenS (.t 21)))⟩, ⟨(some 23), true, none, (.i (.bin .lss (.t 20) (.t 22)))⟩]) (.cond (.t 23) .skip (.exit 0))) (.block 1 (.seq (.ops [⟨(some 24), false, none, (.i (.mv (.t 0)))⟩, ⟨(some 25), false, none, (.i (.mv (.t 5)))⟩, ⟨(some 26), false, none, (.i (.ixStr (.t 24) (.t 25)))⟩, ⟨(some 7), true, none, (.i (.mv (.t 26)))⟩]) (.seq (.seq (.ops [⟨(some 27), false, none, (.i (.mv (.t 7)))⟩, ⟨(some 28), true, none, (.i (.bin .eql (.t 27) (.c (.int .u8 10))))⟩]) (.cond (.t 28) (.ops [⟨(some 6), true, none, (.i (.mv (.c (.bool false))))⟩]) .skip)) (.seq (.seq x48 (.cond (.t 48) (.ops [⟨(some 6), true, none, (.i (.mv (.c (.bool true))))⟩]) .skip)) (.seq (.seq x61 (.cond (.t 61) (.seq (.ops [⟨(some 62), false, none, (.i (.mv (.t 5)))⟩, ⟨(some 63), false, none, (.i (.bin .add (.t 62) (.c (.int .i64 1))))⟩, ⟨(some 5), true, none, (.i (.mv (.t 63)))⟩]) (.exit 1)) .skip)) (.seq (.ops [⟨(some 64), false, none, (.i (.mv (.t 0)))⟩, ⟨(some 65), false, none, (.i (.mv (.t 5)))⟩, ⟨(some 66), false, none, (.call (.c (.fn 18 [])) [(.t 64), (.t 65)])⟩, ⟨(some 8), true, none, (.i (.mv (.t 66)))⟩]) (.seq (.ops [⟨(some 68), false, none, (.i (.mv (.t 0)))⟩, ⟨(some 69), false, none, (.i (.mv (.t 5)))⟩, ⟨(some 70), false, none, (.call (.c (.fn 19 [])) [(.t 68), (.t 69)])⟩, ⟨(some 67), false, none, (.i (.mv (.t 70)))⟩, ⟨(some 71), false, none, (.i (.ext (.t 67) 0))⟩, ⟨(some 72), false, none, (.i (.ext (.t 67) 1))⟩, ⟨(some 9), true, none, (.i (.mv (.t 71)))⟩, ⟨(some 10), true, none, (.i (.mv (.t 72)))⟩]) (.seq (.seq (.ops [⟨(some 73), false, none, (.i (.mv (.t 8)))⟩, ⟨(some 74), true, none, (.i (.bin .eql (.t 73) (.c (.int .i64 0))))⟩]) (.cond (.t 74) (.seq (.ops [⟨(some 75), false, none, (.i (.mv (.t 9)))⟩, ⟨(some 76), false, none, (.i (.mv (.t 10)))⟩, ⟨(some 77), false, none, (.i (.build [(.int .i64 0), (.int .i64 0), (.int .i64 0)] [((0, 1), (.c (.int .i64 131))), ((1, 1), (.t 75)), ((2, 1), (.t 76))]))⟩, ⟨(some 2), true, none, (.i (.mv (.c .nils)))⟩, ⟨none, false, none, (.i (.st 3 (.t 3) (.t 77)))⟩]) .ret) .skip)) (.seq (.ops [⟨(some 78), false, none, (.i (.mv (.t 0)))⟩, ⟨(some 79), false, none, (.i (.mv (.t 5)))⟩, ⟨(some 80), false, none, (.i (.mv (.t 5)))⟩, ⟨(some 81), false, none, (.i (.mv (.t 8)))⟩, ⟨(some 82), false, none, (.i (.bin .add (.t 80) (.t 81)))⟩, ⟨(some 83), false, none, (.i (.slStr (.t 78) (some (.t 79)) (some (.t 82))))⟩, ⟨(some 84), false, none, (.i (.mv (.t 9)))⟩, ⟨(some 85), false, none, (.i (.mv (.t 10)))⟩, ⟨(some 86), false, none, (.i (.build [(.int .i64 0), (.str []), (.int .i64 0), (.int .i64 0), (.int .i64 0)] [((0, 1), (.c (.int .i64 3))), ((1, 1), (.t 83)), ((3, 1), (.t 84)), ((4, 1), (.t 85))]))⟩, ⟨(some 11), true, none, (.i (.alloc [(.int .i64 0), (.str []), (.int .i64 0), (.int .i64 0), (.int .i64 0)]))⟩, ⟨none, false, none, (.i (.st 5 (.t 11) (.t 86)))⟩]) (.seq (.seq (.ops [⟨(some 87), false, none, (.i (.mv (.t 7)))⟩, ⟨(some 88), true, none, (.call (.c (.fn 20 [])) [(.t 87)])⟩]) (.cond (.t 88) (.seq (.ops [⟨(some 89), false, none, (.i (.fad 0 (.t 11)))⟩, ⟨none, false, none, (.i (.st 1 (.t 89) (.c (.int .i64 1))))⟩]) (.seq (.seq (.ops [⟨(some 90), false, none, (.i (.fad 1 (.t 11)))⟩, ⟨(some 91), false, none, (.i (.ld1 (.t 90)))⟩, ⟨(some 92), true, none, (.call (.c (.fn 13 [])) [(.t 91)])⟩]) (.cond (.t 92) (.ops [⟨(some 93), false, none, (.i (.fad 0 (.t 11)))⟩, ⟨none, false, none, (.i (.st 1 (.t 93) (.c (.int .i64 4))))⟩]) .skip)) (.seq (.ops [⟨(some 94), false, none, (.i (.mv (.t 8)))⟩, ⟨(some 95), true, none, (.i (.bin .gtr (.t 94) (.c (.int .i64 32))))⟩]) (.cond (.t 95) (.seq (.ops [⟨(some 96), false, none, (.i (.mv (.t 9)))⟩, ⟨(some 97), false, none, (.i (.mv (.t 10)))⟩, ⟨(some 98), false, none, (.i (.build [(.int .i64 0), (.int .i64 0), (.int .i64 0)] [((0, 1), (.c (.int .i64 132))), ((1, 1), (.t 96)), ((2, 1), (.t 97))]))⟩, ⟨(some 2), true, none, (.i (.mv (.c .nils)))⟩, ⟨none, false, none, (.i (.st 3 (.t 3) (.t 98)))⟩]) .ret) .skip)))) .skip)) (.seq (.seq (.ops [⟨(some 99), false, none, (.i (.mv (.t 7)))⟩, ⟨(some 100), true, none, (.call (.c (.fn 21 [])) [(.t 99)])⟩]) (.cond (.t 100) (.seq (.ops [⟨(some 101), false, none, (.i (.fad 0 (.t 11)))⟩, ⟨none, false, none, (.i (.st 1 (.t 101) (.c (.int .i64 2))))⟩]) (.seq xN (.seq (.ops [⟨(some 122), false, none, (.i (.mv (.t 8)))⟩, ⟨(some 123), false, none, (.i (.bin .gtr (.t 122) (.c (.int .i64 7))))⟩, ⟨(some 124), false, none, (.i (.mv (.t 123)))⟩, ⟨(some 125), false, (some (124, false)), (.i (.fad 2 (.t 11)))⟩, ⟨(some 126), false, (some (124, false)), (.i (.ld1 (.t 125)))⟩, ⟨(some 127), false, (some (124, false)), (.i (.bin .gtr (.t 126) (.c (.int .i64 1000000))))⟩, ⟨(some 128), true, none, (.i (.pick (.t 124) (.c (.bool true)) (.t 127)))⟩]) (.cond (.t 128) (.seq (.ops [⟨(some 129), false, none, (.i (.mv (.t 9)))⟩, ⟨(some 130), false, none, (.i (.mv (.t 10)))⟩, ⟨(some 131), false, none, (.i (.build [(.int .i64 0), (.int .i64 0), (.int .i64 0)] [((0, 1), (.c (.int .i64 132))), ((1, 1), (.t 129)), ((2, 1), (.t 130))]))⟩, ⟨(some 2), true, none, (.i (.mv (.c .nils)))⟩, ⟨none, false, none, (.i (.st 3 (.t 3) (.t 131)))⟩]) .ret) .skip)))) .skip)) xA)))))))))))))) (.seq (.ops [⟨(some 140), false, none, (.i (.mv (.t 0)))⟩, ⟨(some 141), false, none, (.i (.mv (.t 0)))⟩, ⟨(some 142), false, none, (.i (.lenS (.t 141)))⟩, ⟨(some 143), false, none, (.call (.c (.fn 19 [])) [(.t 140), (.t 142)])⟩, ⟨(some 139), false, none, (.i (.mv (.t 143)))⟩, ⟨(some 144), false, none, (.i (.ext (.t 139) 0))⟩, ⟨(some 145), false, none, (.i (.ext (.t 139) 1))⟩, ⟨(some 13), true, none, (.i (.mv (.t 144)))⟩, ⟨(some 14), true, none, (.i (.mv (.t 145)))⟩]) (.seq (.ops [⟨(some 146), false, none, (.i (.mv (.t 4)))⟩, ⟨(some 147), false, none, (.i (.mv (.t 13)))⟩, ⟨(some 148), false, none, (.i (.mv (.t 14)))⟩, ⟨(some 149), false, none, (.i (.build [(.int .i64 0), (.str []), (.int .i64 0), (.int .i64 0), (.int .i64 0)] [((0, 1), (.c (.int .i64 5))), ((3, 1), (.t 147)), ((4, 1), (.t 148))]))⟩, ⟨(some 150), false, none, (.i (.buildS 1 5 [(.int .i64 0), (.str []), (.int .i64 0), (.int .i64 0), (.int .i64 0)] [((0, 5), (.t 149))]))⟩, ⟨(some 151), false, none, (.i (.app 5 48 (.t 146) (.t 150)))⟩, ⟨(some 152), false, none, (.i (.build [(.int .i64 0), (.int .i64 0), (.int .i64 0)] []))⟩, ⟨(some 2), true, none, (.i (.mv (.t 151)))⟩, ⟨none, false, none, (.i (.st 3 (.t 3) (.t 152)))⟩]) .ret)))))))) := rfl
end Go.Sy
end
