/-
  Contracts: the code lowered, what it does told by rules, and the contracts of the functions that the law reaches.
-/
import Derived.Test.YtbpohnnpklbmeaaDoorSyC
import Derived.Shelf.LaysC
import Derived.Shelf.Strconv.ParseIntPublic10
import Derived.Test.YtbpohnnpklbmeaaDoorProg
import Derived.KernelRfl
set_option linter.unusedVariables false
set_option linter.unusedSimpArgs false
section
set_option maxRecDepth 100000
namespace Go.Sy
open Go.Ev Go.Proofs
variable {base : CallF}
theorem b_tok (l c : Int) (s : St) (K : AV → St → Prop) : onER (buildV [.int .i64 0, .str [], .int .i64 0, .int .i64 0, .int .i64 0] [((0, 1), .int .i64 5), ((3, 1), .int .i64 l), ((4, 1), .int .i64 c)] s) K = K (.agg [.int .i64 5, .str [], .int .i64 0, .int .i64 l, .int .i64 c]) s := by
  have : fillP [.int .i64 0, .str [], .int .i64 0, .int .i64 0, .int .i64 0] [((0, 1), .int .i64 5), ((3, 1), .int .i64 l), ((4, 1), .int .i64 c)] = some [.int .i64 5, .str [], .int .i64 0, .int .i64 l, .int .i64 c] := rfl
  simp only [buildV, this, onSome, onER]
theorem Ct.bare {s : St} {c a : Nat} {l : List Nat} {p : Nat × Nat} (h : Ct s c l a p) : Ct s.bare c l a p := ⟨h.lt, h.len, h.c0, h.c1, h.c2, h.c3⟩
theorem But.new {a s s' : St} {c b o : Nat} {v : AV} (h : But a s c) (w : Wrote s s' b o v) (hb : a.nx ≤ b) : But a s' c := ⟨by rw [w.nx]; exact h.nx, w.fr.trans h.fr, fun x hx hc => (w.keep x (by omega)).trans (h.keep x hx hc)⟩
theorem lead_run (p : Nat → Bool) : ∀ l : List Nat, ∀ c ∈ l.take (lead p l), p c = true
  | [], c, h => by simp at h
  | y :: l, c, h => by
    simp only [lead] at h
    by_cases hy : p y = true
    · rw [if_pos hy, List.take_succ_cons] at h
      rcases List.mem_cons.1 h with h | h
      · rw [h]; exact hy
      · exact lead_run p l c h
    · rw [if_neg hy] at h; simp at h
theorem lead_digits {x : Nat} {r : List Nat} (h : isDigit x = true) : digits ((x :: r).take (lead isDigit (x :: r))) := by
  refine ⟨?_, lead_run isDigit _⟩
  have : lead isDigit (x :: r) = lead isDigit r + 1 := by simp only [lead, if_pos h]
  rw [this, List.take_succ_cons]
  simp
theorem valN_acc (s : List Nat) : ∀ v, (∀ c ∈ s, isDigit c = true) → s.foldl (fun v c => 10 * v + (c - 48)) v + 1 ≤ (v + 1) * 10 ^ s.length := by
  induction s with
  | nil => exact fun v _ => by simp
  | cons c s ih =>
    intro v h
    have hc := h c (by simp)
    have hc9 : c - 48 ≤ 9 := by
      unfold isDigit at hc
      simp at hc
      omega
    have := ih (10 * v + (c - 48)) fun d hd => h d (by simp [hd])
    refine Nat.le_trans this ?_
    rw [List.length_cons, Nat.pow_succ, ← Nat.mul_assoc, Nat.mul_right_comm]
    exact Nat.mul_le_mul_right _ (by omega)
theorem valN_le {s : List Nat} {n : Nat} (hn : s.length = n) (h7 : n ≤ 7) (h : ∀ c ∈ s, isDigit c = true) : valN s ≤ 99999999 := by
  have := valN_acc s 0 h
  have e : 10 ^ s.length ≤ 10 ^ 7 := Nat.pow_le_pow_right (by decide) (by omega)
  have e7 : 10 ^ 7 = 10000000 := by decide
  unfold valN
  omega
theorem firstN_le (r : List Nat) : ∀ xs, firstN r xs ≤ r.length
  | [] => Nat.zero_le _
  | y :: xs => by
    show (if begins y r = true then y.length else firstN r xs) ≤ r.length
    by_cases h : begins y r = true
    · rw [if_pos h]
      rcases Nat.lt_or_ge r.length y.length with h2 | h2
      · rw [begins_len h2] at h; exact absurd h (by decide)
      · exact h2
    · rw [if_neg h]; exact firstN_le r xs
theorem signN_le (r : List Nat) : signN r ≤ r.length := firstN_le r _
theorem neqNil (s : St) (K : AV → St → Prop) : onER (genV Tryd.prog .neq 94 true .nilif .nilif s) K = K (.bool false) s := by
  have : genV Tryd.prog .neq 94 true .nilif .nilif s = .ok (.bool false) s := by kernel_rfl
  rw [this]; rfl
set_option maxHeartbeats 4000000 in
theorem next_ok (hb : ∀ f args st, f ∈ [44, 26, 42, 37, 43, 39, 41, 45, 47, 58, 61, 62] → base f args st = .no) (hP : PI base) {c a : Nat} {l : List Nat} {p : Nat × Nat} (st : St) (hC : Ct st c l a p) (ha : a ≤ l.length) (hl : l.length ≤ 536870912) (h256 : ∀ x ∈ l, x < 256) (hp1 : p.1 ≤ 1073741824) (hp2 : 1 ≤ p.2 ∧ p.2 ≤ 1073741824) (K : AV → St → Prop)
    (hK : ∀ e t n, nextM (l.drop a) p = (e, t, n) → ∀ st', But st.bare st' c → (e = 0 → Ct st' c l (a + n) (walkP p ((l.drop a).take n))) → K (.tup [.agg t.cells, .int .i64 (e : Int)]) st') : CW Tryd.prog base 26 [.ptr c 0] st K := by
  refine fn_rule l26 (hb _ _ _ (by simp)) ?_
  simp only [c26, entry, List.map_cons, List.map_nil, List.getD_cons_zero, List.getD_cons_succ]
  unfold b26
  simp (disch := first | decide | assumption | omega) only [rRa, rRb, rRc, Bool.not_true, Bool.not_false, List.cons_append, List.nil_append, List.append_nil]
  refine o_new fun s1 m1 => ?_
  have n1 : s1.nx = st.nx + 1 := m1.nx
  have kc1 : hget s1.h c = hget st.h c := m1.keep c (by have := hC.lt; show c ≠ st.nx; omega)
  have C1 : Ct s1 c l a p := hC.keep (by omega) kc1
  have T1 : rlen s1.h st.nx = 5 := m1.len
  have k1 : Kept st.bare s1 := (Kept.refl _).made m1
  have g0 : 0 < rlen s1.h c := by rw [C1.len]; decide
  have g1 : 1 < rlen s1.h c := by rw [C1.len]; decide
  have g2 : 2 < rlen s1.h c := by rw [C1.len]; decide
  have g3 : 3 < rlen s1.h c := by rw [C1.len]; decide
  have eS := fun (s : St) (K : AV → St → Prop) => v_sl1 (st := s) (K := K) ha .i64
  have hst : st.bare.nx = st.nx := rfl
  rw [hst]
  simp (disch := first | decide | assumption | omega) only [C1.c0, C1.c1, C1.c2, C1.c3, eS, Nat.zero_add, i_build3, b_tok, rRa, rRb, rRc, Bool.not_true, Bool.not_false, List.cons_append, List.nil_append, List.append_nil]
  refine o_new fun s2 m2 => ?_
  have n2 : s2.nx = s1.nx + 1 := m2.nx
  have k2 := k1.made m2
  have l2 : rlen s2.h s1.nx = 5 := m2.len
  simp (disch := first | decide | assumption | omega) only [rRa, rRb, rRc, Bool.not_true, Bool.not_false, List.cons_append, List.nil_append, List.append_nil]
  refine o_stT (t := ⟨5, [], 0, p.1, p.2⟩) l2 (by omega) fun s3 w1 w2 w3 T => ?_
  have k3 : Kept st.bare s3 := ⟨by have := k2.nx; omega, w2.trans k2.fr, fun x hx => (w3 x (by have : x < st.nx := hx; omega)).trans (k2.keep x hx)⟩
  have C3 : Ct s3 c l a p := C1.keep (by omega) ((w3 c (by have := hC.lt; omega)).trans (m2.keep c (by have := hC.lt; omega)))
  have R3 : rlen s3.h st.nx = 5 := (rlen_same ((w3 st.nx (by omega)).trans (m2.keep st.nx (by omega)))).trans T1
  have hlt := hC.lt
  have hrl : (l.drop a).length = l.length - a := List.length_drop
  have hr256 : ∀ x ∈ l.drop a, x < 256 := fun x hx => h256 x (List.mem_of_mem_drop hx)
  generalize s1.nx = tb at T l2 n1 n2 w3
  have htb : st.nx < tb ∨ st.nx > tb := by omega
  have B3 : But st.bare s3 c := ⟨k3.nx, k3.fr, fun x hx _ => k3.keep x hx⟩
  have sfr : s3.fr = [] := B3.fr
  have fin : ∀ (t : Tk) (e n : Nat) (s s' : St), nextM (l.drop a) p = (e, t, n) → But st.bare s c → (e = 0 → Ct s c l (a + n) (walkP p ((l.drop a).take n))) → s'.nx = s.nx → (∀ x, x ≠ st.nx → hget s'.h x = hget s.h x) → K (.tup [.agg t.cells, .int .i64 (e : Int)]) s'.bare := fun t e n s s' hn B hc q1 q3 =>
    hK e t n hn s'.bare ⟨by show st.bare.nx ≤ s'.nx; rw [q1]; exact B.nx, rfl, fun x hx hc' => (q3 x (by have : x < st.nx := hx; omega)).trans (B.keep x hx hc')⟩ fun he => ((hc he).keep (s' := s') (by omega) (q3 c (by omega))).bare
  generalize hr : l.drop a = r at *
  simp (disch := first | decide | assumption | omega) only [rRa, rRb, rRc, Bool.not_true, Bool.not_false, List.cons_append, List.nil_append, List.append_nil]
  cases r with
  | nil =>
    simp (disch := first | decide | assumption | omega) only [T.ld, rRa, rRb, rRc, Bool.not_true, Bool.not_false, List.cons_append, List.nil_append, List.append_nil]
    refine o_stT R3 (by omega) fun s' q1 q2 q3 Q => ?_
    simp (disch := first | decide | assumption | omega) only [r_resA, Q.ld, rRa, rRb, rRc, Bool.not_true, Bool.not_false, List.cons_append, List.nil_append, List.append_nil]
    exact fin ⟨5, [], 0, p.1, p.2⟩ 0 0 s3 s' rfl B3 (fun _ => C3) q1 q3
  | cons x r' =>
    have e0 : 0 < (x :: r').length := by simp
    have hx256 : x < 256 := hr256 x (by simp)
    have hne : (x :: r') ≠ [] := by simp
    have hlr := lead_le
    simp (disch := first | decide | assumption | omega) only [List.getD_cons_zero, rRa, rRb, rRc, Bool.not_true, Bool.not_false, List.cons_append, List.nil_append, List.append_nil]
    refine letter_ok (fun a s => hb _ a s (by simp)) x s3 _ ?_
    cases hL : isLetter x with
    | true =>
      simp (disch := first | decide | assumption | omega) only [rRa, rRb, rRc, Bool.not_true, Bool.not_false, List.cons_append, List.nil_append, List.append_nil]
      refine run_ok (fun a s => hb _ a s (by simp)) _ (by omega) hr256 43 [] isInner (fun c st K hc hK => inner_ok (fun f a s hf => hb _ a s (by rcases hf with rfl | rfl | rfl <;> simp)) c st K hK) s3 _ ?_
      have hn := hlr isInner (x :: r')
      have hM : nextM (x :: r') p = if 32 < lead isInner (x :: r') then (132, ⟨1, [], 0, p.1, p.2⟩, 0) else (0, ⟨if kept ((x :: r').take (lead isInner (x :: r'))) = true then 4 else 1, (x :: r').take (lead isInner (x :: r')), 0, p.1, p.2⟩, lead isInner (x :: r')) := by
        show (if isLetter x = true then _ else _) = _
        rw [if_pos hL]
      generalize lead isInner (x :: r') = n at hn hM
      have t0 : 0 < rlen s3.h tb := by rw [T.len]; decide
      simp (disch := first | decide | assumption | omega) only [rRa, rRb, rRc, Bool.not_true, Bool.not_false, List.cons_append, List.nil_append, List.append_nil]
      refine o_st1 t0 ⟨rfl, rfl, rfl⟩ fun s4 m4 => ?_
      have T4 := T.put0 (k := 1) m4
      have B4 := B3.new m4 (by show st.nx ≤ tb; omega)
      have C4 := C3.keep (by rw [m4.nx]; exact Nat.le_refl _) (m4.keep c (by omega))
      have R4 := (rlen_same (m4.keep st.nx (by omega))).trans R3
      have n4 := m4.nx
      have s4fr : s4.fr = [] := B4.fr
      by_cases h32 : 32 < n
      · have h32' : (32 : Int) < (n : Int) := by omega
        rw [if_pos h32] at hM
        simp (disch := first | decide | assumption | omega) only [T4.ld, rRa, rRb, rRc, Bool.not_true, Bool.not_false, List.cons_append, List.nil_append, List.append_nil]
        refine o_stT R4 (by have := T4.lt; omega) fun s' q1 q2 q3 Q => ?_
        simp (disch := first | decide | assumption | omega) only [r_resA, Q.ld, rRa, rRb, rRc, Bool.not_true, Bool.not_false, List.cons_append, List.nil_append, List.append_nil]
        exact fin ⟨1, [], 0, p.1, p.2⟩ 132 0 s4 s' (by rw [hM]) B4 (fun h => absurd h (by decide)) q1 q3
      · have h32' : ¬ (32 : Int) < (n : Int) := by omega
        rw [if_neg h32] at hM
        have eT := fun (s : St) (K : AV → St → Prop) => v_sl2 (st := s) (K := K) (l := x :: r') (n := n) hn .i64
        simp (disch := first | decide | assumption | omega) only [eT, rRa, rRb, rRc, Bool.not_true, Bool.not_false, List.cons_append, List.nil_append, List.append_nil]
        refine Kept_ok (fun a s => hb _ a s (by simp)) _ s4 _ ?_
        cases hk : kept ((x :: r').take n) with
        | true =>
          rw [hk, if_pos rfl] at hM
          have t4 : 0 < rlen s4.h tb := by rw [T4.len]; decide
          simp (disch := first | decide | assumption | omega) only [rRa, rRb, rRc, Bool.not_true, Bool.not_false, List.cons_append, List.nil_append, List.append_nil]
          refine o_st1 t4 ⟨rfl, rfl, rfl⟩ fun s5 m5 => ?_
          have T5' := T4.put0 (k := 4) m5
          have B5 := B4.new m5 (by show st.nx ≤ tb; omega)
          have C5 := C4.keep (by rw [m5.nx]; exact Nat.le_refl _) (m5.keep c (by omega))
          have R5 := (rlen_same (m5.keep st.nx (by omega))).trans R4
          have s5fr : s5.fr = [] := B5.fr
          have n5 := m5.nx
          have u1 : 1 < rlen s5.h tb := by rw [T5'.len]; decide
          have eT := fun (s : St) (K : AV → St → Prop) => v_sl2 (st := s) (K := K) (l := x :: r') (n := n) hn .i64
          simp (disch := first | decide | assumption | omega) only [eT, Nat.zero_add, rRa, rRb, rRc, Bool.not_true, Bool.not_false, List.cons_append, List.nil_append, List.append_nil]
          refine o_st1 u1 ⟨rfl, rfl, rfl⟩ fun sA mA => ?_
          have TA := T5'.put1 mA
          have BA := B5.new mA (by show st.nx ≤ tb; omega)
          have CA := C5.keep (by rw [mA.nx]; exact Nat.le_refl _) (mA.keep c (by omega))
          have RA := (rlen_same (mA.keep st.nx (by omega))).trans R5
          have sAfr : sA.fr = [] := BA.fr
          have nA := mA.nx
          have TAlt := TA.lt
          simp (disch := first | decide | assumption | omega) only [rRa, rRb, rRc, Bool.not_true, Bool.not_false, List.cons_append, List.nil_append, List.append_nil]
          refine skip_ok (fun a s => hb _ a s (by simp)) sA CA (n := n) (by omega) (by omega) hp1 hp2 _ fun sB BB CB => ?_
          have BB' := BA.trans BB.back
          have CB' := CB.back (s := sA)
          have TB := TA.keep (s' := Go.Ev.back sA sB) BB.nx (BB.keep tb TAlt (by omega))
          have RB := (rlen_same (BB.keep st.nx (by show st.nx < sA.nx; omega) (by omega)) : rlen (Go.Ev.back sA sB).h st.nx = _).trans RA
          have nB : sA.nx ≤ (Go.Ev.back sA sB).nx := BB.nx
          generalize Go.Ev.back sA sB = sC at BB' CB' TB RB nB
          simp (disch := first | decide | assumption | omega) only [TB.ld, rRa, rRb, rRc, Bool.not_true, Bool.not_false, List.cons_append, List.nil_append, List.append_nil]
          refine o_stT RB (by omega) fun s' q1 q2 q3 Q => ?_
          simp (disch := first | decide | assumption | omega) only [r_resA, Q.ld, rRa, rRb, rRc, Bool.not_true, Bool.not_false, List.cons_append, List.nil_append, List.append_nil]
          exact fin ⟨4, (x :: r').take n, 0, p.1, p.2⟩ 0 n sC s' (by rw [hM]) BB' (fun _ => by rw [hr] at CB'; exact CB') q1 q3
        | false =>
          rw [hk, if_neg (by decide)] at hM
          have u1 : 1 < rlen s4.h tb := by rw [T4.len]; decide
          have eT := fun (s : St) (K : AV → St → Prop) => v_sl2 (st := s) (K := K) (l := x :: r') (n := n) hn .i64
          simp (disch := first | decide | assumption | omega) only [eT, Nat.zero_add, rRa, rRb, rRc, Bool.not_true, Bool.not_false, List.cons_append, List.nil_append, List.append_nil]
          refine o_st1 u1 ⟨rfl, rfl, rfl⟩ fun sA mA => ?_
          have TA := T4.put1 mA
          have BA := B4.new mA (by show st.nx ≤ tb; omega)
          have CA := C4.keep (by rw [mA.nx]; exact Nat.le_refl _) (mA.keep c (by omega))
          have RA := (rlen_same (mA.keep st.nx (by omega))).trans R4
          have sAfr : sA.fr = [] := BA.fr
          have nA := mA.nx
          have TAlt := TA.lt
          simp (disch := first | decide | assumption | omega) only [rRa, rRb, rRc, Bool.not_true, Bool.not_false, List.cons_append, List.nil_append, List.append_nil]
          refine skip_ok (fun a s => hb _ a s (by simp)) sA CA (n := n) (by omega) (by omega) hp1 hp2 _ fun sB BB CB => ?_
          have BB' := BA.trans BB.back
          have CB' := CB.back (s := sA)
          have TB := TA.keep (s' := Go.Ev.back sA sB) BB.nx (BB.keep tb TAlt (by omega))
          have RB := (rlen_same (BB.keep st.nx (by show st.nx < sA.nx; omega) (by omega)) : rlen (Go.Ev.back sA sB).h st.nx = _).trans RA
          have nB : sA.nx ≤ (Go.Ev.back sA sB).nx := BB.nx
          generalize Go.Ev.back sA sB = sC at BB' CB' TB RB nB
          simp (disch := first | decide | assumption | omega) only [TB.ld, rRa, rRb, rRc, Bool.not_true, Bool.not_false, List.cons_append, List.nil_append, List.append_nil]
          refine o_stT RB (by omega) fun s' q1 q2 q3 Q => ?_
          simp (disch := first | decide | assumption | omega) only [r_resA, Q.ld, rRa, rRb, rRc, Bool.not_true, Bool.not_false, List.cons_append, List.nil_append, List.append_nil]
          exact fin ⟨1, (x :: r').take n, 0, p.1, p.2⟩ 0 n sC s' (by rw [hM]) BB' (fun _ => by rw [hr] at CB'; exact CB') q1 q3
    | false =>
      simp (disch := first | decide | assumption | omega) only [List.getD_cons_zero, rRa, rRb, rRc, Bool.not_true, Bool.not_false, List.cons_append, List.nil_append, List.append_nil]
      refine digit_ok (fun a s => hb _ a s (by simp)) x s3 _ ?_
      cases hD : isDigit x with
      | true =>
        simp (disch := first | decide | assumption | omega) only [rRa, rRb, rRc, Bool.not_true, Bool.not_false, List.cons_append, List.nil_append, List.append_nil]
        refine run_ok (fun a s => hb _ a s (by simp)) _ (by omega) hr256 45 [] isDigit (fun c st K hc hK => digit_ok (fun a s => hb _ a s (by simp)) c st K hK) s3 _ ?_
        have hn := hlr isDigit (x :: r')
        have hM : nextM (x :: r') p = if 7 < lead isDigit (x :: r') ∨ 1000000 < valN ((x :: r').take (lead isDigit (x :: r'))) then (132, ⟨2, [], 0, p.1, p.2⟩, 0) else (0, ⟨2, (x :: r').take (lead isDigit (x :: r')), valN ((x :: r').take (lead isDigit (x :: r'))), p.1, p.2⟩, lead isDigit (x :: r')) := by
          show (if isLetter x = true then _ else if isDigit x = true then _ else _) = _
          rw [if_neg (by rw [hL]; decide), if_pos hD]
        have hdig : digits ((x :: r').take (lead isDigit (x :: r'))) := lead_digits hD
        generalize lead isDigit (x :: r') = n at hn hM hdig
        have htl : ((x :: r').take n).length = n := by rw [List.length_take]; omega
        have t0 : 0 < rlen s3.h tb := by rw [T.len]; decide
        simp (disch := first | decide | assumption | omega) only [rRa, rRb, rRc, Bool.not_true, Bool.not_false, List.cons_append, List.nil_append, List.append_nil]
        refine o_st1 t0 ⟨rfl, rfl, rfl⟩ fun s4 m4 => ?_
        have T4 := T.put0 (k := 2) m4
        have B4 := B3.new m4 (by show st.nx ≤ tb; omega)
        have C4 := C3.keep (by rw [m4.nx]; exact Nat.le_refl _) (m4.keep c (by omega))
        have R4 := (rlen_same (m4.keep st.nx (by omega))).trans R3
        have n4 := m4.nx
        have s4fr : s4.fr = [] := B4.fr
        have hPs := hP _ s4 hdig (by omega)
        rw [htl] at hPs
        have eT := fun (s : St) (K : AV → St → Prop) => v_sl2 (st := s) (K := K) (l := x :: r') (n := n) hn .i64
        by_cases h7 : 7 < n
        · have h7' : (7 : Int) < (n : Int) := by omega
          rw [if_pos (.inl h7)] at hM
          simp (disch := first | decide | assumption | omega) only [eT, rRa, rRb, rRc, Bool.not_true, Bool.not_false, List.cons_append, List.nil_append, List.append_nil]
          refine base_rule (hPs.2 h7) ?_
          simp (disch := first | decide | assumption | omega) only [rRa, rRb, rRc, Bool.not_true, Bool.not_false, List.cons_append, List.nil_append, List.append_nil]
          simp (disch := first | decide | assumption | omega) only [T4.ld, rRa, rRb, rRc, Bool.not_true, Bool.not_false, List.cons_append, List.nil_append, List.append_nil]
          refine o_stT R4 (by have := T4.lt; omega) fun s' q1 q2 q3 Q => ?_
          simp (disch := first | decide | assumption | omega) only [r_resA, Q.ld, rRa, rRb, rRc, Bool.not_true, Bool.not_false, List.cons_append, List.nil_append, List.append_nil]
          exact fin ⟨2, [], 0, p.1, p.2⟩ 132 0 s4 s' (by rw [hM]) B4 (fun h => absurd h (by decide)) q1 q3
        · have h7' : ¬ (7 : Int) < (n : Int) := by omega
          simp (disch := first | decide | assumption | omega) only [eT, rRa, rRb, rRc, Bool.not_true, Bool.not_false, List.cons_append, List.nil_append, List.append_nil]
          refine base_rule (hPs.1 (by omega)) ?_
          have hvl : valN ((x :: r').take n) ≤ 99999999 := valN_le htl (by omega) hdig.2
          generalize hv : valN ((x :: r').take n) = v at hM hPs hvl
          by_cases hbig : 1000000 < v
          · have hbig' : (1000000 : Int) < (v : Int) := by omega
            rw [if_pos (.inr hbig)] at hM
            simp (disch := first | decide | assumption | omega) only [neqNil, rRa, rRb, rRc, Bool.not_true, Bool.not_false, List.cons_append, List.nil_append, List.append_nil]
            simp (disch := first | decide | assumption | omega) only [T4.ld, rRa, rRb, rRc, Bool.not_true, Bool.not_false, List.cons_append, List.nil_append, List.append_nil]
            refine o_stT R4 (by have := T4.lt; omega) fun s' q1 q2 q3 Q => ?_
            simp (disch := first | decide | assumption | omega) only [r_resA, Q.ld, rRa, rRb, rRc, Bool.not_true, Bool.not_false, List.cons_append, List.nil_append, List.append_nil]
            exact fin ⟨2, [], 0, p.1, p.2⟩ 132 0 s4 s' (by rw [hM]) B4 (fun h => absurd h (by decide)) q1 q3
          · have hbig' : ¬ (1000000 : Int) < (v : Int) := by omega
            rw [if_neg (by omega)] at hM
            have t4 : 2 < rlen s4.h tb := by rw [T4.len]; decide
            simp (disch := first | decide | assumption | omega) only [neqNil, Nat.zero_add, rRa, rRb, rRc, Bool.not_true, Bool.not_false, List.cons_append, List.nil_append, List.append_nil]
            refine o_st1 t4 ⟨rfl, rfl, rfl⟩ fun s5 m5 => ?_
            have T5' := T4.put2 (k := v) m5
            have B5 := B4.new m5 (by show st.nx ≤ tb; omega)
            have C5 := C4.keep (by rw [m5.nx]; exact Nat.le_refl _) (m5.keep c (by omega))
            have R5 := (rlen_same (m5.keep st.nx (by omega))).trans R4
            have s5fr : s5.fr = [] := B5.fr
            have n5 := m5.nx
            have u1 : 1 < rlen s5.h tb := by rw [T5'.len]; decide
            have eT := fun (s : St) (K : AV → St → Prop) => v_sl2 (st := s) (K := K) (l := x :: r') (n := n) hn .i64
            simp (disch := first | decide | assumption | omega) only [eT, Nat.zero_add, rRa, rRb, rRc, Bool.not_true, Bool.not_false, List.cons_append, List.nil_append, List.append_nil]
            refine o_st1 u1 ⟨rfl, rfl, rfl⟩ fun sA mA => ?_
            have TA := T5'.put1 mA
            have BA := B5.new mA (by show st.nx ≤ tb; omega)
            have CA := C5.keep (by rw [mA.nx]; exact Nat.le_refl _) (mA.keep c (by omega))
            have RA := (rlen_same (mA.keep st.nx (by omega))).trans R5
            have sAfr : sA.fr = [] := BA.fr
            have nA := mA.nx
            have TAlt := TA.lt
            simp (disch := first | decide | assumption | omega) only [rRa, rRb, rRc, Bool.not_true, Bool.not_false, List.cons_append, List.nil_append, List.append_nil]
            refine skip_ok (fun a s => hb _ a s (by simp)) sA CA (n := n) (by omega) (by omega) hp1 hp2 _ fun sB BB CB => ?_
            have BB' := BA.trans BB.back
            have CB' := CB.back (s := sA)
            have TB := TA.keep (s' := Go.Ev.back sA sB) BB.nx (BB.keep tb TAlt (by omega))
            have RB := (rlen_same (BB.keep st.nx (by show st.nx < sA.nx; omega) (by omega)) : rlen (Go.Ev.back sA sB).h st.nx = _).trans RA
            have nB : sA.nx ≤ (Go.Ev.back sA sB).nx := BB.nx
            generalize Go.Ev.back sA sB = sC at BB' CB' TB RB nB
            simp (disch := first | decide | assumption | omega) only [TB.ld, rRa, rRb, rRc, Bool.not_true, Bool.not_false, List.cons_append, List.nil_append, List.append_nil]
            refine o_stT RB (by omega) fun s' q1 q2 q3 Q => ?_
            simp (disch := first | decide | assumption | omega) only [r_resA, Q.ld, rRa, rRb, rRc, Bool.not_true, Bool.not_false, List.cons_append, List.nil_append, List.append_nil]
            exact fin ⟨2, (x :: r').take n, v, p.1, p.2⟩ 0 n sC s' (by rw [hM]) BB' (fun _ => by rw [hr] at CB'; exact CB') q1 q3
      | false =>
        have hM : nextM (x :: r') p = if signN (x :: r') = 0 then (131, ⟨3, [], 0, p.1, p.2⟩, 0) else (0, ⟨3, (x :: r').take (signN (x :: r')), 0, p.1, p.2⟩, signN (x :: r')) := by
          show (if isLetter x = true then _ else if isDigit x = true then _ else _) = _
          rw [if_neg (by rw [hL]; decide), if_neg (by rw [hD]; decide)]
        simp (disch := first | decide | assumption | omega) only [rRa, rRb, rRc, Bool.not_true, Bool.not_false, List.cons_append, List.nil_append, List.append_nil]
        refine sign_ok (fun f a s hf => hb _ a s (by simp at hf ⊢; rcases hf with h | h | h | h | h <;> simp [h])) (x :: r') (by omega) s3 _ fun s3a e3a => ?_
        have ke := Kept.ext e3a
        have hn := signN_le (x :: r')
        have Ta := T.keep ke.nx (ke.keep tb T.lt)
        have Ba : But st.bare (Go.Ev.back s3 s3a) c := ⟨Nat.le_trans B3.nx ke.nx, ke.fr.trans B3.fr, fun y hy hc' => (ke.keep y (Nat.lt_of_lt_of_le hy B3.nx)).trans (B3.keep y hy hc')⟩
        have Ca := C3.keep ke.nx (ke.keep c C3.lt)
        have Ra := (rlen_same (ke.keep st.nx (by omega))).trans R3
        have na := ke.nx
        generalize Go.Ev.back s3 s3a = s3' at Ta Ba Ca Ra na
        generalize signN (x :: r') = n at hn hM
        have t0 : 0 < rlen s3'.h tb := by rw [Ta.len]; decide
        have sfr' : s3'.fr = [] := Ba.fr
        simp (disch := first | decide | assumption | omega) only [rRa, rRb, rRc, Bool.not_true, Bool.not_false, List.cons_append, List.nil_append, List.append_nil]
        refine o_st1 t0 ⟨rfl, rfl, rfl⟩ fun s4 m4 => ?_
        have T4 := Ta.put0 (k := 3) m4
        have B4 := Ba.new m4 (by show st.nx ≤ tb; omega)
        have C4 := Ca.keep (by rw [m4.nx]; exact Nat.le_refl _) (m4.keep c (by omega))
        have R4 := (rlen_same (m4.keep st.nx (by omega))).trans Ra
        have n4 := m4.nx
        have s4fr : s4.fr = [] := B4.fr
        by_cases h0 : n = 0
        · have h0' : (n : Int) = 0 := by omega
          rw [if_pos h0] at hM
          simp (disch := first | decide | assumption | omega) only [rRa, rRb, rRc, Bool.not_true, Bool.not_false, List.cons_append, List.nil_append, List.append_nil]
          simp (disch := first | decide | assumption | omega) only [T4.ld, rRa, rRb, rRc, Bool.not_true, Bool.not_false, List.cons_append, List.nil_append, List.append_nil]
          refine o_stT R4 (by have := T4.lt; omega) fun s' q1 q2 q3 Q => ?_
          simp (disch := first | decide | assumption | omega) only [r_resA, Q.ld, rRa, rRb, rRc, Bool.not_true, Bool.not_false, List.cons_append, List.nil_append, List.append_nil]
          exact fin ⟨3, [], 0, p.1, p.2⟩ 131 0 s4 s' (by rw [hM]) B4 (fun h => absurd h (by decide)) q1 q3
        · have h0' : (n : Int) ≠ 0 := by omega
          rw [if_neg h0] at hM
          simp (disch := first | decide | assumption | omega) only [rRa, rRb, rRc, Bool.not_true, Bool.not_false, List.cons_append, List.nil_append, List.append_nil]
          have u1 : 1 < rlen s4.h tb := by rw [T4.len]; decide
          have eT := fun (s : St) (K : AV → St → Prop) => v_sl2 (st := s) (K := K) (l := x :: r') (n := n) hn .i64
          simp (disch := first | decide | assumption | omega) only [eT, Nat.zero_add, rRa, rRb, rRc, Bool.not_true, Bool.not_false, List.cons_append, List.nil_append, List.append_nil]
          refine o_st1 u1 ⟨rfl, rfl, rfl⟩ fun sA mA => ?_
          have TA := T4.put1 mA
          have BA := B4.new mA (by show st.nx ≤ tb; omega)
          have CA := C4.keep (by rw [mA.nx]; exact Nat.le_refl _) (mA.keep c (by omega))
          have RA := (rlen_same (mA.keep st.nx (by omega))).trans R4
          have sAfr : sA.fr = [] := BA.fr
          have nA := mA.nx
          have TAlt := TA.lt
          simp (disch := first | decide | assumption | omega) only [rRa, rRb, rRc, Bool.not_true, Bool.not_false, List.cons_append, List.nil_append, List.append_nil]
          refine skip_ok (fun a s => hb _ a s (by simp)) sA CA (n := n) (by omega) (by omega) hp1 hp2 _ fun sB BB CB => ?_
          have BB' := BA.trans BB.back
          have CB' := CB.back (s := sA)
          have TB := TA.keep (s' := Go.Ev.back sA sB) BB.nx (BB.keep tb TAlt (by omega))
          have RB := (rlen_same (BB.keep st.nx (by show st.nx < sA.nx; omega) (by omega)) : rlen (Go.Ev.back sA sB).h st.nx = _).trans RA
          have nB : sA.nx ≤ (Go.Ev.back sA sB).nx := BB.nx
          generalize Go.Ev.back sA sB = sC at BB' CB' TB RB nB
          simp (disch := first | decide | assumption | omega) only [TB.ld, rRa, rRb, rRc, Bool.not_true, Bool.not_false, List.cons_append, List.nil_append, List.append_nil]
          refine o_stT RB (by omega) fun s' q1 q2 q3 Q => ?_
          simp (disch := first | decide | assumption | omega) only [r_resA, Q.ld, rRa, rRb, rRc, Bool.not_true, Bool.not_false, List.cons_append, List.nil_append, List.append_nil]
          exact fin ⟨3, (x :: r').take n, 0, p.1, p.2⟩ 0 n sC s' (by rw [hM]) BB' (fun _ => by rw [hr] at CB'; exact CB') q1 q3
end Go.Sy
end

section
set_option maxRecDepth 100000
namespace Go.Sy
open Go.Ev Go.Proofs
section
variable {P : Program} {base : CallF} {st : St} {K : AV → St → Prop} {e : En}
theorem i_buildS15 (z1 z2 z3 z4 z5 : AV) (x : A) : wK P base (.i (.buildS 1 5 [z1, z2, z3, z4, z5] [((0, 5), x)])) e st K = on1 e x fun v => onER (buildSV 1 5 [z1, z2, z3, z4, z5] [((0, 5), v)] st) K := k_1 rfl (fun _ => rfl) K
theorem o_buildST {z1 z2 z3 z4 z5 : AV} (t : Tk) (hk : ∀ st', Made st st' 5 (fun i => t.cells.getD i .bad) → K (.slice st.nx 0 1 1 5 true) st') : onER (buildSV 1 5 [z1, z2, z3, z4, z5] [((0, 5), .agg t.cells)] st) K := by
  have e2 : fillP (repeatC [z1, z2, z3, z4, z5] 1) [((0, 5), .agg t.cells)] = some t.cells := rfl
  have e3 : lall AV.cell t.cells = true := rfl
  have e4 : llen t.cells = 5 := rfl
  simp only [buildSV, e2, onSome, e3, e4, cond_true, force_eq, llen_eq, St.alloc_eq, onER]
  refine hk _ (made_row fun i hi => ?_)
  rw [rowCell_eq, get_e, Nat.mod_eq_of_lt hi]
  rfl
/-- one thing of k cells behind none -/
theorem o_appK0 {k bytes bv xc : Nat} {xx : Bool} (hk0 : 0 < k) (hby : bytes ≤ 140737488355328) (hv : rlen st.h bv = k)
    (hk : ∀ st', Made st st' k (fun i => rat st.h bv i) → K (.slice st.nx 0 1 1 k false) st') : onER (appV k bytes .nils (.slice bv 0 1 xc k xx) st) K := by
  obtain ⟨n, zl, z, cs, hg⟩ := isRow_pos (h := st.h) (b := bv) (by omega)
  rw [rlen_get hg] at hv
  have e0 : Nat.mul 1 k = k := Nat.one_mul k
  have e1 : Nat.ble (Nat.add 0 k) n = true := ble_t (by show 0 + k ≤ n; omega)
  have e3 : Nat.beq (llen (rowCells zl z cs k 0)) k = true := beq_t (by rw [llen_eq, rowCells_eq]; simp)
  have e4 : Nat.beq 1 0 = false := rfl
  have e5 : Nat.ble (Nat.mul 1 bytes) 140737488355328 = true := ble_t (by show 1 * bytes ≤ _; omega)
  have e6 : Nat.ble 1 9223372036854775807 = true := ble_t (by decide)
  simp only [appV, onLen, firstCells, hg, onRow, force_eq, e0, e1, cond_true, appendWith, e3, e4, cond_false, e5, e6, St.alloc_eq, onER]
  refine hk _ (made_row fun i hi => ?_)
  rw [rowCell_eq, get_e, rowCells_eq, Nat.mod_eq_of_lt hi, rat_get hg]
  simp [List.getD_eq_getElem?_getD, List.getElem?_map, hi]
/-- one thing of k cells behind a block that is full -/
theorem o_appK {k bytes b sl bv xc : Nat} {xx : Bool} (hk0 : 0 < k) (hb : k * sl = rlen st.h b) (hpos : 0 < sl) (hby : (sl + 1) * bytes ≤ 140737488355328) (h63 : sl + 1 ≤ 9223372036854775807) (hv : rlen st.h bv = k)
    (hk : ∀ st', Grown st st' b (k * (sl + 1)) (fun i => if i < k * sl then rat st.h b i else rat st.h bv (i - k * sl)) → K (.slice st.nx 0 (sl + 1) (sl + 1) k false) st') : onER (appV k bytes (.slice b 0 sl sl k false) (.slice bv 0 1 xc k xx) st) K := by
  have hp : 0 < k * sl := Nat.mul_pos hk0 hpos
  obtain ⟨n, zl, z, cs, hg⟩ := isRow_pos (h := st.h) (b := bv) (by omega)
  obtain ⟨n', zl', z', cs', hg'⟩ := isRow_pos (h := st.h) (b := b) (by omega)
  rw [rlen_get hg] at hv
  rw [rlen_get hg'] at hb
  have e0 : Nat.mul 1 k = k := Nat.one_mul k
  have e1 : Nat.ble (Nat.add 0 k) n = true := ble_t (by show 0 + k ≤ n; omega)
  have e3 : Nat.beq (llen (rowCells zl z cs k 0)) k = true := beq_t (by rw [llen_eq, rowCells_eq]; simp)
  have e4 : Nat.ble (Nat.add sl 1) sl = false := ble_f (Nat.lt_succ_self _)
  have e5 : Nat.ble (Nat.mul (Nat.add sl 1) bytes) 140737488355328 = true := ble_t hby
  have e6 : Nat.ble (Nat.add sl 1) 9223372036854775807 = true := ble_t h63
  have e7 : Nat.beq k k = true := beq_t rfl
  have e8 : Nat.beq 0 0 = true := rfl
  have e11 : Nat.mul sl k = k * sl := Nat.mul_comm _ _
  have e9 : Nat.beq (k * sl) n' = true := beq_t hb
  have e10 : Nat.mul (Nat.add sl 1) k = k * (sl + 1) := Nat.mul_comm _ _
  simp only [appV, onLen, firstCells, hg, onRow, force_eq, e0, e1, cond_true, appendWith, e3, hg', e4, cond_false, e5, e6, e7, e8, e11, e9, e10, St.put_eq, St.alloc_eq, onER]
  refine hk _ ⟨rfl, rfl, fun c h1 h2 => ?_, ?_, ?_, fun i hi => ?_⟩
  · show hget ((setF (bitsR st.nx)).run _ ((setF (bitsR b)).run _ st.h)) c = _
    rw [hget_set, if_neg h1, hget_set, if_neg h2]
  · exact ⟨_, _, _, _, by rw [hget_set, if_pos rfl]⟩
  · rw [rlen_row, if_pos rfl]
  · rw [rat_row, if_pos rfl, rat_get hg', rat_get hg, rowCell_setCells]
    have hl : (rowCells zl z cs k 0).length = k := by rw [rowCells_eq]; simp
    have hmul : k * (sl + 1) = k * sl + k := Nat.mul_succ k sl
    rw [hl, ← hb]
    by_cases h : i < k * sl
    · rw [if_pos h, if_neg (by omega)]
    · rw [if_neg h, if_pos (by omega), rowCells_eq, List.getD_eq_getElem?_getD, List.getElem?_map, List.getElem?_range (by omega)]
      show rowCell zl z cs (0 + (i - k * sl)) = _
      rw [Nat.zero_add]
end
/-- the cells of some words -/
def tcells (ts : List Tk) : List AV := (ts.map Tk.cells).flatten
theorem tcells_len : ∀ ts : List Tk, (tcells ts).length = 5 * ts.length
  | [] => rfl
  | t :: ts => by
    show (t.cells ++ tcells ts).length = 5 * (ts.length + 1)
    rw [List.length_append, tcells_len ts]
    show 5 + 5 * ts.length = _
    omega
theorem tcells_snoc (ts : List Tk) (t : Tk) : tcells (ts ++ [t]) = tcells ts ++ t.cells := by
  unfold tcells
  rw [List.map_append, List.flatten_append]
  simp
/-- some words in memory, in a block that they fill -/
structure Ts (s : St) (b : Nat) (ts : List Tk) : Prop where
  lt : b < s.nx
  len : rlen s.h b = 5 * ts.length
  cell : ∀ i, i < 5 * ts.length → rat s.h b i = (tcells ts).getD i .bad
theorem Ts.keep {s s' : St} {b : Nat} {ts : List Tk} (h : Ts s b ts) (hn : s.nx ≤ s'.nx) (k : hget s'.h b = hget s.h b) : Ts s' b ts :=
  ⟨Nat.lt_of_lt_of_le h.lt hn, (rlen_same k).trans h.len, fun i hi => (rat_same k i).trans (h.cell i hi)⟩
/-- a slice of words, or none -/
def tsV (b : Nat) (ts : List Tk) : AV := if ts = [] then .nils else .slice b 0 ts.length ts.length 5 false
theorem o_appT {st : St} {K : AV → St → Prop} {b bv xc : Nat} {xx : Bool} {ts : List Tk} {t : Tk} (hts : ts ≠ [] → Ts st b ts) (hlen : ts.length ≤ 1000000) (hv : rlen st.h bv = 5) (hvc : ∀ i, i < 5 → rat st.h bv i = t.cells.getD i .bad)
    (hk : ∀ st', st'.nx = st.nx + 1 → st'.fr = st.fr → (∀ c, c ≠ st.nx → (ts ≠ [] → c ≠ b) → hget st'.h c = hget st.h c) → Ts st' st.nx (ts ++ [t]) → K (tsV st.nx (ts ++ [t])) st') : onER (appV 5 48 (tsV b ts) (.slice bv 0 1 xc 5 xx) st) K := by
  have e2 : tsV st.nx (ts ++ [t]) = .slice st.nx 0 (ts.length + 1) (ts.length + 1) 5 false := by
    unfold tsV
    rw [if_neg (by simp), List.length_append]; rfl
  rw [e2] at hk
  by_cases h : ts = []
  · subst h
    refine o_appK0 (by decide) (by decide) hv fun s' m => ?_
    refine hk s' m.nx m.fr (fun c h1 _ => m.keep c h1) ⟨by rw [m.nx]; omega, m.len, fun i hi => ?_⟩
    have hi' : i < 5 := hi
    rw [m.cell i hi', hvc i hi']
    show t.cells.getD i .bad = (t.cells ++ []).getD i .bad
    rw [List.append_nil]
  · have T := hts h
    have hpos : 0 < ts.length := List.length_pos_iff.2 h
    have e1 : tsV b ts = .slice b 0 ts.length ts.length 5 false := by unfold tsV; rw [if_neg h]
    rw [e1]
    refine o_appK (by decide) T.len.symm hpos (by omega) (by omega) hv fun s' m => ?_
    refine hk s' m.nx m.fr (fun c h1 h2 => m.keep c h1 (h2 h)) ⟨by rw [m.nx]; omega, ?_, fun i hi => ?_⟩
    · rw [List.length_append]; exact m.len
    · rw [List.length_append] at hi
      have hi' : i < 5 * (ts.length + 1) := hi
      rw [m.cell i hi', tcells_snoc, List.getD_eq_getElem?_getD]
      have hl := tcells_len ts
      by_cases hlt : i < 5 * ts.length
      · rw [if_pos hlt, List.getElem?_append_left (by omega), ← List.getD_eq_getElem?_getD]
        exact T.cell i hlt
      · rw [if_neg hlt, List.getElem?_append_right (by omega), ← List.getD_eq_getElem?_getD, hl]
        exact hvc _ (by omega)
end Go.Sy
end

section
set_option maxRecDepth 100000
namespace Go.Sy
open Go.Ev Go.Proofs
variable {base : CallF}
theorem nextM_le {r : List Nat} {p : Nat × Nat} {e n : Nat} {t : Tk} (h : nextM r p = (e, t, n)) : n ≤ r.length := by
  cases r with
  | nil => simp [nextM] at h; omega
  | cons x r' =>
    unfold nextM at h
    simp only at h
    have h1 := lead_le isInner (x :: r')
    have h2 := lead_le isDigit (x :: r')
    have h3 := signN_le (x :: r')
    split at h
    · split at h <;> simp only [Prod.mk.injEq] at h <;> omega
    · split at h
      · split at h <;> simp only [Prod.mk.injEq] at h <;> omega
      · split at h <;> simp only [Prod.mk.injEq] at h <;> omega
theorem lead_pos {p : Nat → Bool} {x : Nat} {r : List Nat} (h : p x = true) : 0 < lead p (x :: r) := by
  simp only [lead, if_pos h]; omega
theorem nextM_kind {r : List Nat} {p : Nat × Nat} {t : Tk} {n : Nat} (h : nextM r p = (0, t, n)) : (t.kind = 5 ↔ n = 0) ∧ (n = 0 ↔ r = []) := by
  cases r with
  | nil => simp [nextM] at h; obtain ⟨h1, h2⟩ := h; subst h1 h2; simp
  | cons x r' =>
    unfold nextM at h
    simp only at h
    split at h
    · rename_i hL
      have hp := lead_pos (p := isInner) (r := r') (show isInner x = true by unfold isInner; rw [hL]; rfl)
      split at h
      · simp at h
      · simp only [Prod.mk.injEq] at h
        obtain ⟨_, h1, h2⟩ := h
        subst h1 h2
        refine ⟨?_, ?_⟩
        · show ((if _ then 4 else 1) = 5 ↔ _)
          split <;> constructor <;> intro h <;> omega
        · constructor
          · intro h; omega
          · intro h; simp at h
    · split at h
      · rename_i hD
        have hp := lead_pos (p := isDigit) (r := r') hD
        split at h
        · simp at h
        · simp only [Prod.mk.injEq] at h
          obtain ⟨_, h1, h2⟩ := h
          subst h1 h2
          refine ⟨?_, ?_⟩
          · show (2 = 5 ↔ _)
            constructor <;> intro h <;> omega
          · constructor
            · intro h; omega
            · intro h; simp at h
      · split at h
        · simp at h
        · rename_i hz
          simp only [Prod.mk.injEq] at h
          obtain ⟨_, h1, h2⟩ := h
          subst h1 h2
          refine ⟨?_, ?_⟩
          · show (3 = 5 ↔ _)
            constructor <;> intro h <;> omega
          · constructor
            · intro h; exact absurd h hz
            · intro h; simp at h
/-- a text's words, and a fault -/
def cutM (r : List Nat) (p : Nat × Nat) : List Tk × (Nat × Nat × Nat) :=
  match h : nextM (r.drop (gaps r)) (walkP p (r.take (gaps r))) with
  | (e, t, n) =>
    if e ≠ 0 then ([], (e, t.line, t.col))
    else if hn : n = 0 then ([t], (0, 0, 0))
    else
      let q := cutM ((r.drop (gaps r)).drop n) (walkP (walkP p (r.take (gaps r))) ((r.drop (gaps r)).take n))
      if q.2.1 ≠ 0 then ([], q.2) else (t :: q.1, q.2)
termination_by r.length
decreasing_by
  have h1 := nextM_le h
  have h2 := gaps_le r
  rw [List.length_drop] at h1
  rw [List.length_drop, List.length_drop]
  omega
theorem cutM_eq (r : List Nat) (p : Nat × Nat) {e n : Nat} {t : Tk} (h : nextM (r.drop (gaps r)) (walkP p (r.take (gaps r))) = (e, t, n)) : cutM r p = if e ≠ 0 then ([], (e, t.line, t.col)) else if n = 0 then ([t], (0, 0, 0)) else if (cutM ((r.drop (gaps r)).drop n) (walkP (walkP p (r.take (gaps r))) ((r.drop (gaps r)).take n))).2.1 ≠ 0 then ([], (cutM ((r.drop (gaps r)).drop n) (walkP (walkP p (r.take (gaps r))) ((r.drop (gaps r)).take n))).2) else (t :: (cutM ((r.drop (gaps r)).drop n) (walkP (walkP p (r.take (gaps r))) ((r.drop (gaps r)).take n))).1, (cutM ((r.drop (gaps r)).drop n) (walkP (walkP p (r.take (gaps r))) ((r.drop (gaps r)).take n))).2) := by
  rw [cutM]
  split
  rename_i e' t' n' h'
  rw [h] at h'
  simp only [Prod.mk.injEq] at h'
  obtain ⟨rfl, rfl, rfl⟩ := h'
  split
  · rfl
  · split <;> rfl
/-- some words ahead -/
def ahead (acc : List Tk) (q : List Tk × (Nat × Nat × Nat)) : List Tk × (Nat × Nat × Nat) := if q.2.1 ≠ 0 then ([], q.2) else (acc ++ q.1, q.2)
def cutT (l : List Nat) : List Tk × (Nat × Nat × Nat) := if 65536 < l.length then ([], (132, 1, 1)) else cutM l (1, 1)
end Go.Sy
end

section
set_option maxRecDepth 100000
namespace Go.Sy
open Go.Ev Go.Proofs
variable {base : CallF}
def fcells (f : Nat × Nat × Nat) : List AV := [.int .i64 (f.1 : Int), .int .i64 (f.2.1 : Int), .int .i64 (f.2.2 : Int)]
/-- a fault in memory -/
structure F3 (s : St) (b : Nat) (f : Nat × Nat × Nat) : Prop where
  len : rlen s.h b = 3
  c0 : rat s.h b 0 = .int .i64 (f.1 : Int)
  c1 : rat s.h b 1 = .int .i64 (f.2.1 : Int)
  c2 : rat s.h b 2 = .int .i64 (f.2.2 : Int)
theorem F3.ld {s : St} {b : Nat} {f : Nat × Nat × Nat} (h : F3 s b f) (K : AV → St → Prop) : onER (ldAV 3 (.ptr b 0) s) K = K (.agg (fcells f)) s := by
  rw [v_ldAn (by decide) (by rw [h.len]; decide)]
  have e : ((List.range 3).map fun i => rat s.h b (0 + i)) = [rat s.h b 0, rat s.h b 1, rat s.h b 2] := rfl
  rw [e, h.c0, h.c1, h.c2]
  rfl
theorem o_stF {s : St} {b : Nat} (f : Nat × Nat × Nat) {K : AV → St → Prop} (hl : rlen s.h b = 3) (hk : ∀ s', s'.nx = s.nx → s'.fr = s.fr → (∀ c, c ≠ b → hget s'.h c = hget s.h c) → F3 s' b f → K undefA s') : onER (stV 3 (.ptr b 0) (.agg (fcells f)) s) K :=
  o_stA 3 rfl (by decide) (by omega) rfl fun s' m1 m2 m3 m4 m5 => hk s' m1 m2 m3 ⟨m4.trans hl, (m5 0).trans (if_pos ⟨by decide, by decide⟩), (m5 1).trans (if_pos ⟨by decide, by decide⟩), (m5 2).trans (if_pos ⟨by decide, by decide⟩)⟩
theorem b_flt (a b c : Nat) (s : St) (K : AV → St → Prop) : onER (buildV [.int .i64 0, .int .i64 0, .int .i64 0] [((0, 1), .int .i64 (a : Int)), ((1, 1), .int .i64 (b : Int)), ((2, 1), .int .i64 (c : Int))] s) K = K (.agg (fcells (a, b, c))) s := by
  have : fillP [.int .i64 0, .int .i64 0, .int .i64 0] [((0, 1), .int .i64 (a : Int)), ((1, 1), .int .i64 (b : Int)), ((2, 1), .int .i64 (c : Int))] = some (fcells (a, b, c)) := rfl
  simp only [buildV, this, onSome, onER]
theorem b_flt1 (s : St) (K : AV → St → Prop) : onER (buildV [.int .i64 0, .int .i64 0, .int .i64 0] [((0, 1), .int .i64 132), ((1, 1), .int .i64 1), ((2, 1), .int .i64 1)] s) K = K (.agg (fcells (132, 1, 1))) s := b_flt 132 1 1 s K
theorem b_cut (l : List Nat) (s : St) (K : AV → St → Prop) : onER (buildV [.str [], .int .i64 0, .int .i64 0, .int .i64 0] [((0, 1), .str l), ((2, 1), .int .i64 1), ((3, 1), .int .i64 1)] s) K = K (.agg [.str l, .int .i64 0, .int .i64 1, .int .i64 1]) s := by
  have : fillP [.str [], .int .i64 0, .int .i64 0, .int .i64 0] [((0, 1), .str l), ((2, 1), .int .i64 1), ((3, 1), .int .i64 1)] = some [.str l, .int .i64 0, .int .i64 1, .int .i64 1] := rfl
  simp only [buildV, this, onSome, onER]
theorem ahead_nil (r : List Nat) (p : Nat × Nat) : ahead [] (cutM r p) = cutM r p := by
  unfold ahead
  generalize hx : nextM (r.drop (gaps r)) (walkP p (r.take (gaps r))) = x
  obtain ⟨e, t, n⟩ := x
  rw [cutM_eq r p hx]
  by_cases he : e ≠ 0
  · rw [if_pos he]; simp [he]
  · rw [if_neg he]
    by_cases hn : n = 0
    · rw [if_pos hn]; simp
    · rw [if_neg hn]
      generalize cutM _ _ = q
      by_cases hq : q.2.1 ≠ 0
      · rw [if_pos hq]; simp [hq]
      · rw [if_neg hq]
        show (if q.2.1 ≠ 0 then _ else _) = _
        rw [if_neg hq]; rfl
theorem ahead_err {acc : List Tk} {r : List Nat} {p : Nat × Nat} {e n : Nat} {t : Tk} (h : nextM (r.drop (gaps r)) (walkP p (r.take (gaps r))) = (e, t, n)) (he : e ≠ 0) : ahead acc (cutM r p) = ([], (e, t.line, t.col)) := by
  rw [cutM_eq r p h, if_pos he]
  unfold ahead
  rw [if_pos he]
theorem ahead_end {acc : List Tk} {r : List Nat} {p : Nat × Nat} {t : Tk} (h : nextM (r.drop (gaps r)) (walkP p (r.take (gaps r))) = (0, t, 0)) : ahead acc (cutM r p) = (acc ++ [t], (0, 0, 0)) := by
  rw [cutM_eq r p h, if_neg (by decide), if_pos rfl]
  rfl
theorem ahead_more {acc : List Tk} {r : List Nat} {p : Nat × Nat} {n : Nat} {t : Tk} (h : nextM (r.drop (gaps r)) (walkP p (r.take (gaps r))) = (0, t, n)) (hn : n ≠ 0) : ahead acc (cutM r p) = ahead (acc ++ [t]) (cutM ((r.drop (gaps r)).drop n) (walkP (walkP p (r.take (gaps r))) ((r.drop (gaps r)).take n))) := by
  rw [cutM_eq r p h, if_neg (by decide), if_neg hn]
  generalize cutM _ _ = q
  unfold ahead
  by_cases hq : q.2.1 ≠ 0
  · rw [if_pos hq, if_pos hq]; simp [hq]
  · rw [if_neg hq, if_neg hq]
    show _ = (if q.2.1 ≠ 0 then _ else _)
    rw [if_neg hq]
    simp
set_option maxHeartbeats 4000000 in
theorem Cut_ok (hb : ∀ f args st, f ∈ [12, 44, 25, 26, 42, 37, 43, 38, 39, 40, 41, 45, 47, 58, 61, 62] → base f args st = .no) (hP : PI base) {l : List Nat} (st : St) (hl : l.length ≤ 4611686018427387904) (h256 : ∀ x ∈ l, x < 256) (K : AV → St → Prop)
    (hK : ∀ b st', Ext st st' → ((cutT l).1 ≠ [] → Ts st' b (cutT l).1 ∧ st.nx ≤ b) → K (.tup [tsV b (cutT l).1, .agg (fcells (cutT l).2)]) st') : CW Tryd.prog base 12 [.str l] st K := by
  refine fn_rule l12 (hb _ _ _ (by simp)) ?_
  simp only [c12, entry, List.map_cons, List.map_nil, List.getD_cons_zero, List.getD_cons_succ]
  unfold b12
  simp (disch := first | decide | assumption | omega) only [rRa, rRb, rRc, Bool.not_true, Bool.not_false, List.cons_append, List.nil_append, List.append_nil]
  refine o_new fun s1 m1 => ?_
  have n1 : s1.nx = st.nx + 1 := m1.nx
  have k1 : Kept st.bare s1 := (Kept.refl _).made m1
  have F1 : rlen s1.h st.nx = 3 := m1.len
  have hst : st.bare.nx = st.nx := rfl
  rw [hst]
  by_cases h1 : 65536 < l.length
  · have h1' : (65536 : Int) < (l.length : Int) := by omega
    have e : cutT l = ([], (132, 1, 1)) := if_pos h1
    rw [e] at hK
    simp (disch := first | decide | assumption | omega) only [i_build3, b_flt1, rRa, rRb, rRc, Bool.not_true, Bool.not_false, List.cons_append, List.nil_append, List.append_nil]
    refine o_stF (132, 1, 1) F1 fun s2 w1 w2 w3 F => ?_
    simp (disch := first | decide | assumption | omega) only [r_resA, F.ld, rRa, rRb, rRc, Bool.not_true, Bool.not_false, List.cons_append, List.nil_append, List.append_nil]
    exact hK 0 s2.bare ⟨by show st.nx ≤ s2.nx; omega, rfl, fun x hx => (w3 x (by omega)).trans (k1.keep x hx)⟩ fun h => absurd rfl h
  · have h1' : ¬ (65536 : Int) < (l.length : Int) := by omega
    have e : cutT l = cutM l (1, 1) := if_neg h1
    rw [e] at hK
    simp (disch := first | decide | assumption | omega) only [i_build3, b_cut, rRa, rRb, rRc, Bool.not_true, Bool.not_false, List.cons_append, List.nil_append, List.append_nil]
    refine o_box rfl fun s2 m2 => ?_
    have n2 : s2.nx = s1.nx + 1 := m2.nx
    have k2 := k1.made m2
    have C2 : Ct s2 s1.nx l 0 (1, 1) := ⟨by omega, m2.len, m2.cell 0 (by show 0 < 4; decide), m2.cell 1 (by show 1 < 4; decide), m2.cell 2 (by show 2 < 4; decide), m2.cell 3 (by show 3 < 4; decide)⟩
    have F2 : rlen s2.h st.nx = 3 := (rlen_same (m2.keep st.nx (by omega))).trans F1
    generalize s1.nx = c at C2 n1 n2
    simp (disch := first | decide | assumption | omega) only [rRa, rRb, rRc, Bool.not_true, Bool.not_false, List.cons_append, List.nil_append, List.append_nil]
    refine wC_loopH (fun mm L s => ∃ (d b : Nat) (acc : List Tk) (p : Nat × Nat), d ≤ l.length ∧ mm = l.length - d ∧ acc.length ≤ d ∧ p.1 ≤ d + 1 ∧ 1 ≤ p.2 ∧ p.2 ≤ d + 1 ∧ Kept st.bare s ∧ c < s.nx ∧ Ct s c l d p ∧ rlen s.h st.nx = 3 ∧ (acc ≠ [] → Ts s b acc ∧ c < b) ∧ cutM l (1, 1) = ahead acc (cutM (l.drop d) p) ∧ Has L 3 (.ptr st.nx 0) ∧ Has L 4 (.ptr c 0) ∧ Has L 5 (tsV b acc)) ?_ l.length ?_
    · rintro mm L s ⟨d, b, acc, p, hd, rfl, hacc, hp1, hp2, hp3, ks, hcs, C, F, hT, hM, i3, i4, i5⟩
      unfold Hold
      have sfr : s.fr = [] := ks.fr
      simp (disch := first | decide | assumption | omega) only [r_onh i4, rRa, rRb, rRc, Bool.not_true, Bool.not_false, List.cons_append, List.nil_append, List.append_nil]
      refine blanks_ok (fun f a s hf => hb _ a s (by simp at hf ⊢; rcases hf with h | h | h | h | h | h | h <;> simp [h])) s C hd (by omega) h256 (by omega) ⟨hp2, by omega⟩ _ fun s3 B3 C3 => ?_
      have hg := gaps_le (l.drop d)
      have hdl : (l.drop d).length = l.length - d := List.length_drop
      have W := walkP_le ((l.drop d).take (gaps (l.drop d))) p hp2
      have hgl : ((l.drop d).take (gaps (l.drop d))).length = gaps (l.drop d) := by rw [List.length_take]; omega
      rw [hgl] at W
      have B3' := B3.back
      have C3' := C3.back (s := s)
      have hcb : st.nx ≤ c := by omega
      have hfc : st.nx ≠ c := by omega
      have k3 : Kept st.bare (Go.Ev.back s s3) := ⟨Nat.le_trans ks.nx B3'.nx, B3'.fr.trans ks.fr, fun x hx => (B3'.keep x (Nat.lt_of_lt_of_le hx ks.nx) (by have : x < st.nx := hx; omega)).trans (ks.keep x hx)⟩
      have hfs : st.nx < s.nx := by omega
      have F3' : rlen (Go.Ev.back s s3).h st.nx = 3 := (rlen_same (B3'.keep st.nx hfs hfc)).trans F
      have hT3 : acc ≠ [] → Ts (Go.Ev.back s s3) b acc ∧ c < b := fun h => ⟨(hT h).1.keep B3'.nx (B3'.keep b (hT h).1.lt (by have := (hT h).2; omega)), (hT h).2⟩
      have hc3 : c < (Go.Ev.back s s3).nx := Nat.lt_of_lt_of_le hcs B3'.nx
      generalize Go.Ev.back s s3 = u at k3 C3' F3' hT3 hc3
      have ufr : u.fr = [] := k3.fr
      have hd2 : (l.drop d).drop (gaps (l.drop d)) = l.drop (d + gaps (l.drop d)) := List.drop_drop
      generalize hgg : gaps (l.drop d) = g at *
      generalize hp' : walkP p ((l.drop d).take g) = p' at *
      simp (disch := first | decide | assumption | omega) only [r_onh i4, rRa, rRb, rRc, Bool.not_true, Bool.not_false, List.cons_append, List.nil_append, List.append_nil]
      refine next_ok (fun f a s hf => hb _ a s (by simp at hf ⊢; rcases hf with h | h | h | h | h | h | h | h | h | h | h | h <;> simp [h])) hP u C3' (by omega) (by omega) h256 (by omega) ⟨by omega, by omega⟩ _ fun e t n hN s4 B4 hC4 => ?_
      have hN' : nextM ((l.drop d).drop (gaps (l.drop d))) (walkP p ((l.drop d).take (gaps (l.drop d)))) = (e, t, n) := by rw [hgg, hd2, hp']; exact hN
      have B4' := B4.back
      have k4 : Kept st.bare (Go.Ev.back u s4) := ⟨Nat.le_trans k3.nx B4'.nx, B4'.fr.trans k3.fr, fun x hx => (B4'.keep x (Nat.lt_of_lt_of_le hx k3.nx) (by have : x < st.nx := hx; omega)).trans (k3.keep x hx)⟩
      have F4 : rlen (Go.Ev.back u s4).h st.nx = 3 := (rlen_same (B4'.keep st.nx (by omega) hfc)).trans F3'
      have hT4 : acc ≠ [] → Ts (Go.Ev.back u s4) b acc ∧ c < b := fun h => ⟨(hT3 h).1.keep B4'.nx (B4'.keep b (hT3 h).1.lt (by have := (hT3 h).2; omega)), (hT3 h).2⟩
      have hc4 : c < (Go.Ev.back u s4).nx := Nat.lt_of_lt_of_le hc3 B4'.nx
      have hC4' := fun h => (hC4 h).back (s := u)
      generalize Go.Ev.back u s4 = v at k4 F4 hT4 hc4 hC4'
      have vfr : v.fr = [] := k4.fr
      simp (disch := first | decide | assumption | omega) only [rRa, rRb, rRc, Bool.not_true, Bool.not_false, List.cons_append, List.nil_append, List.append_nil]
      refine o_new fun s5 m5 => ?_
      have n5 : s5.nx = v.nx + 1 := m5.nx
      have l5 : rlen s5.h v.nx = 5 := m5.len
      have k5 := k4.made m5
      simp (disch := first | decide | assumption | omega) only [rRa, rRb, rRc, Bool.not_true, Bool.not_false, List.cons_append, List.nil_append, List.append_nil]
      refine o_stT l5 (by omega) fun s6 w1 w2 w3 T => ?_
      have k6 : Kept st.bare s6 := ⟨by have := k5.nx; omega, w2.trans k5.fr, fun x hx => (w3 x (by have := k4.nx; have : x < st.bare.nx := hx; omega)).trans (k5.keep x hx)⟩
      have k46 : ∀ x, x ≠ v.nx → hget s6.h x = hget v.h x := fun x hx => (w3 x hx).trans (m5.keep x hx)
      have F6 : rlen s6.h st.nx = 3 := (rlen_same (k46 st.nx (by omega))).trans F4
      have hT6 : acc ≠ [] → Ts s6 b acc ∧ c < b := fun h => ⟨(hT4 h).1.keep (by omega) (k46 b (by have := (hT4 h).1.lt; omega)), (hT4 h).2⟩
      have s6fr : s6.fr = [] := k6.fr
      by_cases he : e = 0
      · have he' : (e : Int) = 0 := by omega
        subst he
        obtain ⟨hk1, hk2⟩ := nextM_kind hN
        have C6 := (hC4' rfl).keep (s' := s6) (by omega) (k46 c (by omega))
        have nle := nextM_le hN
        have hl2 : (l.drop (d + g)).length = l.length - (d + g) := List.length_drop
        have s6n : s6.nx = v.nx + 1 := by omega
        generalize v.nx = tb at T k46 s6n hc4
        simp (disch := first | decide | assumption | omega) only [T.ld, i_buildS15, r_onh i5, rRa, rRb, rRc, Bool.not_true, Bool.not_false, List.cons_append, List.nil_append, List.append_nil]
        refine o_buildST t fun s7 m7 => ?_
        have n7 := m7.nx
        have k7 := k6.made m7
        have T7 := T.keep (s' := s7) (by omega) (m7.keep tb (by omega))
        have F7 : rlen s7.h st.nx = 3 := (rlen_same (m7.keep st.nx (by omega))).trans F6
        have hT7 : acc ≠ [] → Ts s7 b acc ∧ c < b := fun h => ⟨(hT6 h).1.keep (by omega) (m7.keep b (by have := (hT6 h).1.lt; omega)), (hT6 h).2⟩
        have C7 := C6.keep (s' := s7) (by omega) (m7.keep c (by omega))
        simp (disch := first | decide | assumption | omega) only [rRa, rRb, rRc, Bool.not_true, Bool.not_false, List.cons_append, List.nil_append, List.append_nil]
        refine o_appT (t := t) (fun h => (hT7 h).1) (by omega) m7.len (fun i hi => m7.cell i hi) fun s8 q1 q2 q3 TT => ?_
        have T8 := T7.keep (s' := s8) (by omega) (q3 tb (by omega) (fun h => by have := (hT7 h).2; have := (hT4 h).1.lt; omega))
        have k8 : Kept st.bare s8 := ⟨by have := k7.nx; omega, q2.trans k7.fr, fun x hx => (q3 x (by have := k7.nx; have : x < st.bare.nx := hx; omega) (fun h => by have := (hT7 h).2; have : x < st.nx := hx; omega)).trans (k7.keep x hx)⟩
        have F8 : rlen s8.h st.nx = 3 := (rlen_same (q3 st.nx (by omega) (fun h => by have := (hT7 h).2; omega))).trans F7
        have C8 := C7.keep (s' := s8) (by omega) (q3 c (by omega) (fun h => by have := (hT7 h).2; omega))
        have s8fr : s8.fr = [] := k8.fr
        have t0 : 0 < rlen s8.h tb := by rw [T8.len]; decide
        have c0 := T8.c0
        have hcs7 : c < s7.nx := by omega
        generalize s7.nx = b' at TT q1 q3 hcs7
        by_cases hk : t.kind = 5
        · have hk' : (t.kind : Int) = 5 := by omega
          have hn0 := hk1.1 hk
          subst hn0
          have hE := ahead_end (acc := acc) hN'
          rw [hM, hE] at hK
          simp (disch := first | decide | assumption | omega) only [Nat.zero_add, c0, r_onh i3, rRa, rRb, rRc, Bool.not_true, Bool.not_false, List.cons_append, List.nil_append, List.append_nil]
          refine o_stF (0, 0, 0) F8 fun s9 z1 z2 z3 FF => ?_
          simp (disch := first | decide | assumption | omega) only [r_resA, r_onh i3, FF.ld, rRa, rRb, rRc, Bool.not_true, Bool.not_false, List.cons_append, List.nil_append, List.append_nil]
          refine hK b' s9.bare ⟨by show st.nx ≤ s9.nx; have : st.bare.nx ≤ s8.nx := k8.nx; omega, rfl, fun x hx => (z3 x (by omega)).trans (k8.keep x hx)⟩ fun _ => ?_
          have TT9 := TT.keep (s' := s9) (by omega) (z3 b' (by omega))
          exact ⟨⟨TT9.lt, TT9.len, TT9.cell⟩, by omega⟩
        · have hk' : (t.kind : Int) ≠ 5 := by omega
          have hn0 : n ≠ 0 := fun h => hk (hk1.2 h)
          have hE := ahead_more (acc := acc) hN' hn0
          have W2 := walkP_le ((l.drop (d + g)).take n) p' (by omega)
          have hnl : ((l.drop (d + g)).take n).length = n := by rw [List.length_take]; omega
          rw [hnl] at W2
          rw [hgg, hd2, hp', List.drop_drop] at hE
          simp (disch := first | decide | assumption | omega) only [Nat.zero_add, c0, rRa, rRb, rRc, Bool.not_true, Bool.not_false, List.cons_append, List.nil_append, List.append_nil]
          refine ⟨l.length - (d + g + n), by omega, d + g + n, b', acc ++ [t], walkP p' ((l.drop (d + g)).take n), by omega, rfl, ?_, by omega, by omega, by omega, k8, by omega, C8, F8, fun _ => ⟨TT, hcs7⟩, hM.trans hE, ?_⟩
          · rw [List.length_append]; show acc.length + 1 ≤ _; omega
          · simp (disch := decide) only [z0, z1, h_here, h_skip, i3, i4, true_and, and_true]
      · have he' : (e : Int) ≠ 0 := by omega
        have c3 := T.c3
        have c4 := T.c4
        have g3 : 3 < rlen s6.h v.nx := by rw [T.len]; decide
        have g4 : 4 < rlen s6.h v.nx := by rw [T.len]; decide
        have hE := ahead_err (acc := acc) hN' he
        rw [hM, hE] at hK
        simp (disch := first | decide | assumption | omega) only [Nat.zero_add, c3, c4, i_build3, b_flt, r_onh i3, rRa, rRb, rRc, Bool.not_true, Bool.not_false, List.cons_append, List.nil_append, List.append_nil]
        refine o_stF (e, t.line, t.col) F6 fun s7 z1 z2 z3 FF => ?_
        simp (disch := first | decide | assumption | omega) only [r_resA, r_onh i3, FF.ld, rRa, rRb, rRc, Bool.not_true, Bool.not_false, List.cons_append, List.nil_append, List.append_nil]
        exact hK 0 s7.bare ⟨by show st.nx ≤ s7.nx; have : st.bare.nx ≤ s6.nx := k6.nx; omega, rfl, fun x hx => (z3 x (by omega)).trans (k6.keep x hx)⟩ fun h => absurd rfl h
    · refine ⟨0, 0, [], (1, 1), by omega, rfl, by simp, by simp, by simp, by simp, k2, by omega, C2, F2, fun h => absurd rfl h, ?_, ?_⟩
      · rw [List.drop_zero, ahead_nil]
      · have e5 : tsV 0 [] = .nils := rfl
        rw [e5]
        simp (disch := decide) only [z0, z1, h_here, h_skip, true_and, and_true]
end Go.Sy
end

/-
  DERIVED: THE SHELF's CONTRACTS AT THIS DUMP, IN PLAIN WORDS (tools/lay-plain.mjs out of 'TrydShelf.lean', which tools/lay-shelf.mjs wrote): THE SAME DECLARATIONS UNDER THE SAME NAMES: 'import', 'namespace', 'open', 'def', 'theorem' AND NOTHING ELSE: no command of the shelf's: FOR A HAND-IN. Each laying: the table of numbers ('.._ren') and one theorem, a field a fact of the dump's own or the kernel's comparison; each contract: ONE APPLICATION.
-/
namespace Go.Proofs
open Go.Shelf
def Tryd.laysC174_ren : Go.Shelf.Ren := ⟨fun | 174 => 46 | 247 => 59 | 245 => 60 | 287 => 74 | 279 => 75 | 280 => 76 | 281 => 77 | 282 => 78 | 321 => 83 | 322 => 84 | 316 => 85 | 171 => 87 | 205 => 86 | 243 => 88 | 246 => 89 | 283 => 90 | 284 => 91 | 285 => 92 | 286 => 93 | 129 => 95 | 317 => 94 | 318 => 96 | 319 => 97 | 320 => 98 | 337 => 99 | 338 => 100 | n => n, fun | 9 => 9 | 3 => 3 | 2 => 2 | 75 => 94 | 85 => 95 | 4 => 4 | 167 => 112 | 5 => 5 | 53 => 113 | 175 => 114 | 46 => 116 | 168 => 117 | 37 => 106 | 0 => 0 | 210 => 127 | 21 => 21 | 127 => 129 | 145 => 132 | 143 => 130 | 171 => 134 | 173 => 137 | 212 => 140 | 51 => 141 | 20 => 20 | 213 => 142 | 232 => 146 | 233 => 147 | 80 => 148 | n => n, fun | 15 => 0 | 16 => 1 | 17 => 2 | 18 => 3 | 19 => 4 | n => n⟩
theorem Tryd.laysC174 : Go.Proofs.LaysC.n174 Tryd.prog Tryd.laysC174_ren := {
  mixed := by kernel_rfl
  f129 := Tryd.func95.trans (congrArg some (by kernel_rfl))
  f171 := Tryd.func87.trans (congrArg some (by kernel_rfl))
  f174 := Tryd.func46.trans (congrArg some (by kernel_rfl))
  f205 := Tryd.func86.trans (congrArg some (by kernel_rfl))
  f243 := Tryd.func88.trans (congrArg some (by kernel_rfl))
  f245 := Tryd.func60.trans (congrArg some (by kernel_rfl))
  f246 := Tryd.func89.trans (congrArg some (by kernel_rfl))
  f247 := Tryd.func59.trans (congrArg some (by kernel_rfl))
  f279 := Tryd.func75.trans (congrArg some (by kernel_rfl))
  f280 := Tryd.func76.trans (congrArg some (by kernel_rfl))
  f281 := Tryd.func77.trans (congrArg some (by kernel_rfl))
  f282 := Tryd.func78.trans (congrArg some (by kernel_rfl))
  f283 := Tryd.func90.trans (congrArg some (by kernel_rfl))
  f284 := Tryd.func91.trans (congrArg some (by kernel_rfl))
  f285 := Tryd.func92.trans (congrArg some (by kernel_rfl))
  f286 := Tryd.func93.trans (congrArg some (by kernel_rfl))
  f287 := Tryd.func74.trans (congrArg some (by kernel_rfl))
  f316 := Tryd.func85.trans (congrArg some (by kernel_rfl))
  f317 := Tryd.func94.trans (congrArg some (by kernel_rfl))
  f318 := Tryd.func96.trans (congrArg some (by kernel_rfl))
  f319 := Tryd.func97.trans (congrArg some (by kernel_rfl))
  f320 := Tryd.func98.trans (congrArg some (by kernel_rfl))
  f321 := Tryd.func83.trans (congrArg some (by kernel_rfl))
  f322 := Tryd.func84.trans (congrArg some (by kernel_rfl))
  f337 := Tryd.func99.trans (congrArg some (by kernel_rfl))
  f338 := Tryd.func100.trans (congrArg some (by kernel_rfl))
  t0 := Tryd.underlying0
  a0 := Tryd.isAgg0
  z0 := Tryd.sizeOf0
  v0 := Tryd.zeroValue0
  t2 := Tryd.underlying2
  a2 := Tryd.isAgg2
  z2 := Tryd.sizeOf2
  v2 := Tryd.zeroValue2
  t3 := Tryd.underlying3
  a3 := Tryd.isAgg3
  z3 := Tryd.sizeOf3
  v3 := Tryd.zeroValue3
  t4 := Tryd.underlying4
  a4 := Tryd.isAgg4
  z4 := Tryd.sizeOf4
  v4 := Tryd.zeroValue4
  t5 := Tryd.underlying5
  a5 := Tryd.isAgg5
  z5 := Tryd.sizeOf5
  v5 := Tryd.zeroValue5
  t9 := Tryd.underlying9
  a9 := Tryd.isAgg9
  z9 := Tryd.sizeOf9
  v9 := Tryd.zeroValue9
  t20 := Tryd.underlying20
  a20 := Tryd.isAgg20
  z20 := Tryd.sizeOf20
  v20 := Tryd.zeroValue20
  t21 := Tryd.underlying21
  a21 := Tryd.isAgg21
  z21 := Tryd.sizeOf21
  v21 := Tryd.zeroValue21
  t37 := Tryd.underlying106
  a37 := Tryd.isAgg106
  z37 := Tryd.sizeOf106
  v37 := Tryd.zeroValue106
  t46 := Tryd.underlying116
  a46 := Tryd.isAgg116
  z46 := Tryd.sizeOf116
  v46 := Tryd.zeroValue116
  t51 := Tryd.underlying141
  a51 := Tryd.isAgg141
  z51 := Tryd.sizeOf141
  v51 := Tryd.zeroValue141
  t53 := Tryd.underlying113
  a53 := Tryd.isAgg113
  z53 := Tryd.sizeOf113
  v53 := Tryd.zeroValue113
  t75 := Tryd.underlying94
  a75 := Tryd.isAgg94
  z75 := Tryd.sizeOf94
  v75 := Tryd.zeroValue94
  t85 := Tryd.underlying95
  a85 := Tryd.isAgg95
  z85 := Tryd.sizeOf95
  v85 := Tryd.zeroValue95
  t127 := Tryd.underlying129
  a127 := Tryd.isAgg129
  z127 := Tryd.sizeOf129
  v127 := Tryd.zeroValue129
  t143 := Tryd.underlying130
  a143 := Tryd.isAgg130
  z143 := Tryd.sizeOf130
  v143 := Tryd.zeroValue130
  t145 := Tryd.underlying132
  a145 := Tryd.isAgg132
  z145 := Tryd.sizeOf132
  v145 := Tryd.zeroValue132
  t167 := Tryd.underlying112
  a167 := Tryd.isAgg112
  z167 := Tryd.sizeOf112
  v167 := Tryd.zeroValue112
  t168 := Tryd.underlying117
  a168 := Tryd.isAgg117
  z168 := Tryd.sizeOf117
  v168 := Tryd.zeroValue117
  t171 := Tryd.underlying134
  a171 := Tryd.isAgg134
  z171 := Tryd.sizeOf134
  v171 := Tryd.zeroValue134
  t173 := Tryd.underlying137
  a173 := Tryd.isAgg137
  z173 := Tryd.sizeOf137
  v173 := Tryd.zeroValue137
  t175 := Tryd.underlying114
  a175 := Tryd.isAgg114
  z175 := Tryd.sizeOf114
  v175 := Tryd.zeroValue114
  t210 := Tryd.underlying127
  a210 := Tryd.isAgg127
  z210 := Tryd.sizeOf127
  v210 := Tryd.zeroValue127
  t212 := Tryd.underlying140
  a212 := Tryd.isAgg140
  z212 := Tryd.sizeOf140
  v212 := Tryd.zeroValue140
  t213 := Tryd.underlying142
  a213 := Tryd.isAgg142
  z213 := Tryd.sizeOf142
  t232 := Tryd.underlying146
  a232 := Tryd.isAgg146
  z232 := Tryd.sizeOf146
  v232 := Tryd.zeroValue146
  t233 := Tryd.underlying147
  a233 := Tryd.isAgg147
  z233 := Tryd.sizeOf147
  v233 := Tryd.zeroValue147
  g15 := by kernel_rfl
  g16 := by kernel_rfl
  g17 := by kernel_rfl
  g18 := by kernel_rfl
  g19 := by kernel_rfl
  t80 := Tryd.underlying148
  a80 := Tryd.isAgg148
  z80 := Tryd.sizeOf148
  v80 := Tryd.zeroValue148
  i0 := by kernel_rfl
  i2 := by kernel_rfl
  i3 := by kernel_rfl
  i4 := by kernel_rfl
  i5 := by kernel_rfl
  i9 := by kernel_rfl
  i20 := by kernel_rfl
  i21 := by kernel_rfl
  i37 := by kernel_rfl
  i46 := by kernel_rfl
  i51 := by kernel_rfl
  i53 := by kernel_rfl
  i75 := by kernel_rfl
  i80 := by kernel_rfl
  i85 := by kernel_rfl
  i127 := by kernel_rfl
  i143 := by kernel_rfl
  i145 := by kernel_rfl
  i167 := by kernel_rfl
  i168 := by kernel_rfl
  i171 := by kernel_rfl
  i173 := by kernel_rfl
  i175 := by kernel_rfl
  i210 := by kernel_rfl
  i212 := by kernel_rfl
  i232 := by kernel_rfl
  i233 := by kernel_rfl
  m15 := by kernel_rfl
  m16 := by kernel_rfl
  m17 := by kernel_rfl
  m18 := by kernel_rfl
  m19 := by kernel_rfl
  c0 := by kernel_rfl
  c2 := by kernel_rfl
  c3 := by kernel_rfl
  c4 := by kernel_rfl
  c5 := by kernel_rfl
  c9 := by kernel_rfl
  c20 := by kernel_rfl
  c21 := by kernel_rfl
  c37 := by kernel_rfl
  c46 := by kernel_rfl
  c51 := by kernel_rfl
  c53 := by kernel_rfl
  c75 := by kernel_rfl
  c80 := by kernel_rfl
  c85 := by kernel_rfl
  c127 := by kernel_rfl
  c143 := by kernel_rfl
  c145 := by kernel_rfl
  c167 := by kernel_rfl
  c168 := by kernel_rfl
  c171 := by kernel_rfl
  c173 := by kernel_rfl
  c175 := by kernel_rfl
  c210 := by kernel_rfl
  c212 := by kernel_rfl
  c213 := by kernel_rfl
  c232 := by kernel_rfl
  c233 := by kernel_rfl }
open Go.RowKit in
/-- strconv.ParseInt(s, 10, 64), AT EVERY STRING THAT SPELLS AN int64 ('Lib.parseIntB 64 s.data.toList = .ok v'): v, AND NO ERROR. (LAID: no walk: one application.) -/
theorem Tryd.strconv_ParseInt_10_at64_ok (s : ByteArray) (hmax : s.size ≤ 9223372036854775806) (v : Int) (h : Lib.parseIntB 64 s.data.toList = .ok v) (w : World) :
    Calls Tryd.prog 46 #[.string s, .int .i64 10, .int .i64 64] w fun e w' => e = .returned (.tuple #[.int .i64 v, .nilIface]) ∧ (w' = w ∨ ∃ t, w' = Lib.bytesWorld w 5 t) := Any.strconv_ParseInt_10_at64_ok Tryd.laysC174 s hmax v h w
open Go.RowKit in
/-- strconv.ParseInt(s, 10, 64), AT EVERY NUMERAL THAT NO int64 HOLDS: THE GREATEST OR THE LEAST int64, BY THE SIGN ('Lib.intSat 64'), AND AN ERROR THAT IS NOT nil: a *NumError in a new block N: {Func: "ParseInt", Num: s's bytes, Err: what the variable ErrRange holds}. Of what was there nothing has turned. (LAID: no walk: one application.) -/
theorem Tryd.strconv_ParseInt_10_at64_range (s : ByteArray) (hlim : s.size ≤ 281474976710656) (h : Lib.parseIntB 64 s.data.toList = .range) (ev : Value) (w : World) (hv : w.cell? ⟨1, 0, none⟩ = some ev) (hev : ev = .nilIface ∨ ∃ te pe, ev = .iface te pe) :
    Calls Tryd.prog 46 #[.string s, .int .i64 10, .int .i64 64] w fun e w' => ∃ N, e = .returned (.tuple #[.int .i64 (Lib.intSat 64 s.data.toList), .iface 117 (.pointer (some ⟨N, 0, none⟩))]) ∧ w.heap.size ≤ N ∧ w'.heap[N]? = some (.cells #[.string ⟨#[80, 97, 114, 115, 101, 73, 110, 116]⟩, .string s, ev] 127 (0, 0)) ∧ Below w.heap.size w w' := Any.strconv_ParseInt_10_at64_range Tryd.laysC174 s hlim h ev w hv hev
end Go.Proofs

section
set_option maxRecDepth 100000
namespace Go.Sy
open Go.Ev Go.Proofs
open Go.RowKit (Below)

theorem tryd_okP : okP Tryd.prog = true := by kernel_rfl
theorem tryd_mixed : Tryd.prog.follows .mixedOrders = true := by kernel_rfl
theorem runs5 : isTrue (evCall Tryd.prog 100000 200 5 [] st0) = true := by kernel_rfl

/-! ### what the library's ParseInt says of digits -/
def dig8 (l : List UInt8) : Prop := ∀ c ∈ l, 48 ≤ c.toNat ∧ c.toNat ≤ 57
theorem parseM_ok : ∀ (l : List UInt8) (acc : Nat), dig8 l → (acc + 1) * 10 ^ l.length ≤ 100000000 → Lib.parseUintM 18446744073709551615 acc l = .ok ((l.map UInt8.toNat).foldl (fun v c => 10 * v + (c - 48)) acc)
  | [], acc, _, _ => rfl
  | c :: r, acc, hd, h => by
    have hc := hd c (by simp)
    rw [List.length_cons, Nat.pow_succ] at h
    have hp : 1 ≤ 10 ^ r.length := Nat.one_le_pow _ _ (by decide)
    have hacc : (acc + 1) * 10 ≤ 100000000 := by
      have : (acc + 1) * 10 * 1 ≤ (acc + 1) * 10 * 10 ^ r.length := Nat.mul_le_mul_left _ hp
      have e : (acc + 1) * 10 * 10 ^ r.length = (acc + 1) * (10 ^ r.length * 10) := by rw [Nat.mul_assoc, Nat.mul_comm 10]
      omega
    unfold Lib.parseUintM
    rw [if_pos hc, if_neg (by omega), if_neg (by omega), parseM_ok r _ (fun d hd' => hd d (by simp [hd']))]
    · show _ = Lib.NumEnd.ok ((r.map UInt8.toNat).foldl _ (10 * acc + (c.toNat - 48)))
      rw [Nat.mul_comm acc 10]
    · refine Nat.le_trans ?_ h
      have e : (acc + 1) * (10 ^ r.length * 10) = ((acc + 1) * 10) * 10 ^ r.length := by rw [Nat.mul_comm (10 ^ r.length), Nat.mul_assoc]
      rw [e]
      exact Nat.mul_le_mul_right _ (by omega)
theorem parseM_digits : ∀ (l : List UInt8) (acc : Nat), dig8 l → (∃ u, Lib.parseUintM 18446744073709551615 acc l = .ok u) ∨ Lib.parseUintM 18446744073709551615 acc l = .range
  | [], acc, _ => .inl ⟨acc, rfl⟩
  | c :: r, acc, hd => by
    have hc := hd c (by simp)
    unfold Lib.parseUintM
    rw [if_pos hc]
    by_cases h1 : 1844674407370955162 ≤ acc
    · rw [if_pos h1]; exact .inr rfl
    · rw [if_neg h1]
      by_cases h2 : 18446744073709551615 < acc * 10 + (c.toNat - 48)
      · rw [if_pos h2]; exact .inr rfl
      · rw [if_neg h2]
        exact parseM_digits r _ fun d hd' => hd d (by simp [hd'])
theorem parseI_eq {l : List UInt8} (hne : l ≠ []) (hd : dig8 l) : Lib.parseIntB 64 l = Lib.signlessC (2 ^ 63) (Lib.parseUintM 18446744073709551615 0 l) := by
  obtain ⟨c, r, rfl⟩ := List.exists_cons_of_ne_nil hne
  have hc := hd c (by simp)
  rw [Lib.parseIntB_plain 64 c r (by omega) (by omega)]
  unfold Lib.parseUintB
  rw [if_neg (by simp)]
theorem parseI_ok {l : List UInt8} (hne : l ≠ []) (hd : dig8 l) (h7 : l.length ≤ 7) : Lib.parseIntB 64 l = .ok (valN (l.map UInt8.toNat) : Int) := by
  have hle : 10 ^ l.length ≤ 10 ^ 7 := Nat.pow_le_pow_right (by decide) h7
  have e7 : 10 ^ 7 = 10000000 := by decide
  rw [parseI_eq hne hd, parseM_ok l 0 hd (by omega)]
  have hv := valN_le (s := l.map UInt8.toNat) (n := l.length) (by simp) h7 (fun c hc => by
    obtain ⟨b, hb, rfl⟩ := List.mem_map.1 hc
    have := hd b hb
    unfold isDigit
    simp; omega)
  show Lib.signlessC _ (.ok (valN (l.map UInt8.toNat))) = _
  generalize valN (l.map UInt8.toNat) = v at hv
  unfold Lib.signlessC
  simp
  omega
end Go.Sy
end

section
set_option maxRecDepth 100000
namespace Go.Sy
open Go.Ev Go.Proofs
open Go.RowKit (Below)
theorem parseI_any {l : List UInt8} (hne : l ≠ []) (hd : dig8 l) : (∃ v, Lib.parseIntB 64 l = .ok v) ∨ Lib.parseIntB 64 l = .range := by
  rw [parseI_eq hne hd]
  rcases parseM_digits l 0 hd with ⟨u, h⟩ | h
  · rw [h]
    unfold Lib.signlessC
    by_cases hu : 2 ^ 63 ≤ u
    · right; simp only [if_pos hu]
    · left; exact ⟨u, by simp only [if_neg hu]⟩
  · rw [h]; exact .inr rfl
def digB (s : List Nat) : Bool := decide (s ≠ []) && s.all isDigit
theorem digB_iff (s : List Nat) : digB s = true ↔ digits s := by
  unfold digB digits
  simp
/-- wordAlive, told by its run; and what strconv.ParseInt says of digits -/
def baseW : CallF := fun f args st => match args with
  | [] => if f = 5 then .ok (.bool true) st else .no
  | [.str s, .int .i64 a, .int .i64 b] => if f = 46 ∧ a = 10 ∧ b = 64 ∧ digB s = true ∧ s.length ≤ 281474976710656 then (if s.length ≤ 7 then .ok (.tup [.int .i64 (valN s : Int), .nilif]) st else .ok (.tup [.bad, .bad]) st) else .no
  | _ => .no
theorem baseW_9 (st : St) : baseW 5 [] st = .ok (.bool true) st := rfl
theorem baseW_PI : PI baseW := fun s st hd hl => by
  have e : baseW 46 [.str s, .int .i64 10, .int .i64 64] st = if (46 = 46 ∧ (10 : Int) = 10 ∧ (64 : Int) = 64 ∧ digB s = true ∧ s.length ≤ 281474976710656) then (if s.length ≤ 7 then .ok (.tup [.int .i64 (valN s : Int), .nilif]) st else .ok (.tup [.bad, .bad]) st) else .no := rfl
  rw [e, if_pos ⟨rfl, rfl, rfl, (digB_iff s).2 hd, hl⟩]
  exact ⟨fun h => if_pos h, fun h => if_neg (by omega)⟩
/-- what the base does not answer -/
theorem baseW_cases (f : FuncId) (args : List AV) (st : St) : baseW f args st = .no ∨ (f = 5 ∧ args = []) ∨ (f = 46 ∧ ∃ s, args = [.str s, .int .i64 10, .int .i64 64] ∧ digits s ∧ s.length ≤ 281474976710656) := by
  unfold baseW
  split
  · by_cases h : f = 5
    · exact .inr (.inl ⟨h, rfl⟩)
    · exact .inl (if_neg h)
  · rename_i s a b
    by_cases h : f = 46 ∧ a = 10 ∧ b = 64 ∧ digB s = true ∧ s.length ≤ 281474976710656
    · obtain ⟨h1, rfl, rfl, h4, h5⟩ := h
      exact .inr (.inr ⟨h1, s, rfl, (digB_iff s).1 h4, h5⟩)
    · exact .inl (if_neg h)
  · exact .inl rfl
theorem baseW_no (f : FuncId) (args : List AV) (st : St) (h9 : f ≠ 5) (h31 : f ≠ 46) : baseW f args st = .no := by
  rcases baseW_cases f args st with h | ⟨h, _⟩ | ⟨h, _⟩
  · exact h
  · exact absurd h h9
  · exact absurd h h31
/-- a world that has but grown -/
theorem sim_below {ι : Inj} {st : St} {w w' : World} (hs : Sim ι st.h st.nx w) (b : Below w.heap.size w w') : Sim ι st.h st.nx w' ∧ Grew ι w ι w' := by
  have gr : Grew ι w ι w' := ⟨b.os, b.tape, b.output, b.size, fun k hk _ => b.block k hk, fun b B S e => .inl ⟨b, S, e⟩⟩
  exact ⟨⟨fun c B S e => by
    obtain ⟨o, x, h1, h2, h3⟩ := hs.obj c B S e
    exact ⟨o, x, h1, (b.block B (hs.lt e)).trans h2, h3⟩, hs.gone, hs.inj, hs.born, hs.glob.grew gr⟩, gr⟩
theorem baseW_ok : CallOK Tryd.prog baseW := by
  intro f args st ι w vs hs hv
  rcases baseW_cases f args st with h | ⟨rfl, rfl⟩ | ⟨rfl, s, rfl, hd, hl⟩
  · rw [h]; trivial
  · rw [baseW_9]
    have hvs : vs = #[] := by
      have : vs.toList = [] := by simpa [VRs] using hv
      simpa using this
    subst hvs
    have hb : Tryd.f5.body.isSome = true := by kernel_rfl
    obtain ⟨c, hc⟩ := Option.isSome_iff_exists.1 hb
    refine ⟨(okP_spec tryd_okP Tryd.func5 hc).2, Calls.mono (run_true tryd_okP (draw_ok tryd_mixed) runs5 w ⟨hs.glob.1, fun b S e => by cases e⟩) fun e w' ⟨he, hos, ht, ho, hsz, hk⟩ => ⟨_, he, ι, Le.refl ι, ?_, ?_, ?_, Cleanly.refl ι st⟩⟩
    · simp only [VR]
    · exact (sim_below hs ⟨hos, ht, ho, hsz, hk⟩).1
    · exact (sim_below hs ⟨hos, ht, ho, hsz, hk⟩).2
  · simp only [VRs, VR] at hv
    obtain ⟨v1, l1, e1, ⟨bs, rfl, hbs⟩, v2, l2, rfl, rfl, v3, l3, rfl, rfl, rfl⟩ := hv
    have hvs : vs = #[.string bs, .int .i64 10, .int .i64 64] := by
      cases vs; simpa using e1
    subst hvs
    have hlen : bs.data.toList.length = s.length := by rw [← hbs, List.length_map]
    have hsz : bs.size = s.length := by rw [← hlen, Array.length_toList]; rfl
    have hne : bs.data.toList ≠ [] := fun h => hd.1 (by rw [← hbs, h]; rfl)
    have hd8 : dig8 bs.data.toList := fun c hc => by
      have := hd.2 c.toNat (by rw [← hbs]; exact List.mem_map.2 ⟨c, hc, rfl⟩)
      unfold isDigit at this
      simp at this
      omega
    have hent : Ev.Enters Tryd.prog 46 := by
      have hb : Tryd.f46.body.isSome = true := by kernel_rfl
      obtain ⟨c, hc⟩ := Option.isSome_iff_exists.1 hb
      exact (okP_spec tryd_okP Tryd.func46 hc).2
    have okc : ∀ v, Lib.parseIntB 64 bs.data.toList = .ok v → Calls Tryd.prog 46 #[.string bs, .int .i64 10, .int .i64 64] w fun e w' => e = .returned (.tuple #[.int .i64 v, .nilIface]) ∧ Below w.heap.size w w' := fun v h =>
      (Tryd.strconv_ParseInt_10_at64_ok bs (by omega) v h w).mono fun e w' ⟨he, hw⟩ => ⟨he, by
        rcases hw with rfl | ⟨t, rfl⟩
        · exact ⟨rfl, rfl, rfl, Nat.le_refl _, fun _ _ => rfl⟩
        · exact Lib.bytesWorld_below w 5 t⟩
    have hP := baseW_PI s st hd hl
    by_cases h7 : s.length ≤ 7
    · rw [hP.1 h7]
      refine ⟨hent, (okc _ (parseI_ok hne hd8 (by omega))).mono fun e w' ⟨he, hb⟩ => ⟨_, he, ι, Le.refl ι, ?_, (sim_below hs hb).1, (sim_below hs hb).2, Cleanly.refl ι st⟩⟩
      rw [hbs]
      simp only [VR, VRs]
      exact ⟨_, rfl, _, _, rfl, rfl, _, _, rfl, rfl, rfl⟩
    · rw [hP.2 (by omega)]
      refine ⟨hent, ?_⟩
      have fin : ∀ (x y : Value) (w' : World), Below w.heap.size w w' → Done ι w st st (.tup [.bad, .bad]) (.tuple #[x, y]) w' := fun x y w' hb => by
        refine ⟨ι, Le.refl ι, ?_, (sim_below hs hb).1, (sim_below hs hb).2, Cleanly.refl ι st⟩
        simp only [VR, VRs]
        exact ⟨_, rfl, _, _, rfl, trivial, _, _, rfl, trivial, rfl⟩
      rcases parseI_any hne hd8 with ⟨v, h⟩ | h
      · exact (okc v h).mono fun e w' ⟨he, hb⟩ => ⟨_, he, fin _ _ w' hb⟩
      · obtain ⟨te, pe, hg⟩ := hs.glob.1
        exact (Tryd.strconv_ParseInt_10_at64_range bs (by omega) h _ w hg (.inr ⟨te, pe, rfl⟩)).mono fun e w' ⟨N, he, _, _, hb⟩ => ⟨_, he, fin _ _ w' hb⟩
end Go.Sy
end

section
set_option maxRecDepth 100000
namespace Go.Sy
open Go.Ev Go.Proofs
/-! ### where a text's words stand: no program in sight -/
/-- a place behind another -/
def lexL (p q : Nat × Nat) : Prop := p.1 < q.1 ∨ p.1 = q.1 ∧ p.2 < q.2
theorem lexL.trans {p q r : Nat × Nat} (h : lexL p q) (k : lexL q r) : lexL p r := by
  unfold lexL at *; omega
theorem lexL_step (p : Nat × Nat) (x : Nat) : lexL p (stepP p x) := by
  unfold lexL stepP
  split <;> simp
theorem lexL_walk (x : Nat) (l : List Nat) : ∀ p : Nat × Nat, lexL p (walkP p (x :: l)) := by
  induction l generalizing x with
  | nil => exact fun p => lexL_step p x
  | cons y l ih => exact fun p => (lexL_step p x).trans (ih y (stepP p x))
theorem walk_ne {l : List Nat} {a b : Nat} (h : a < b) (hb : b ≤ l.length) (p : Nat × Nat) : walkP p (l.take a) ≠ walkP p (l.take b) := by
  intro e
  have hd : l.take b = l.take a ++ (l.drop a).take (b - a) := by
    have := List.take_add (l := l) (i := a) (j := b - a)
    rw [show a + (b - a) = b by omega] at this
    exact this
  rw [hd, walkP_app] at e
  have hne : (l.drop a).take (b - a) ≠ [] := by
    intro h2
    have := congrArg List.length h2
    rw [List.length_take, List.length_drop] at this
    simp at this
    omega
  obtain ⟨x, r, hx⟩ := List.exists_cons_of_ne_nil hne
  rw [hx] at e
  have := lexL_walk x r (walkP p (l.take a))
  rw [← e] at this
  unfold lexL at this
  omega
theorem walk_step {l : List Nat} {a : Nat} (h : a < l.length) (p : Nat × Nat) : walkP p (l.take (a + 1)) = stepP (walkP p (l.take a)) (l.getD a 0) := by
  rw [take_succ_getD h, walkP_app]; rfl
theorem walk_flat : ∀ (l : List Nat) (p : Nat × Nat), (∀ c ∈ l, c ≠ 10) → walkP p l = (p.1, p.2 + l.length)
  | [], p, _ => rfl
  | x :: l, p, h => by
    show walkP (stepP p x) l = _
    have hx := h x (by simp)
    have e : stepP p x = (p.1, p.2 + 1) := by unfold stepP; rw [if_neg hx]
    rw [e, walk_flat l _ (fun c hc => h c (by simp [hc]))]
    simp only [List.length_cons]
    congr 1
    omega
theorem sign_flat {r : List Nat} : ∀ {xs : List (List Nat)}, (∀ x ∈ xs, ∀ c ∈ x, c ≠ 10) → ∀ c ∈ r.take (firstN r xs), c ≠ 10
  | [], _, c, hc => by simp [firstN] at hc
  | x :: xs, h, c, hc => by
    have e : firstN r (x :: xs) = if begins x r = true then x.length else firstN r xs := rfl
    rw [e] at hc
    by_cases hb : begins x r = true
    · rw [if_pos hb] at hc
      have hb' : r.take x.length = x := of_decide_eq_true hb
      rw [hb'] at hc
      exact h x (by simp) c hc
    · rw [if_neg hb] at hc
      exact sign_flat (fun y hy => h y (by simp [hy])) c hc
/-- a word that is one: its text stands there, and no line ends in it -/
theorem nextM_text {r : List Nat} {p : Nat × Nat} {t : Tk} {n : Nat} (h : nextM r p = (0, t, n)) : t.text = r.take n ∧ t.line = p.1 ∧ t.col = p.2 ∧ ∀ c ∈ r.take n, c ≠ 10 := by
  cases r with
  | nil => simp [nextM] at h; obtain ⟨h1, h2⟩ := h; subst h1 h2; simp
  | cons x r' =>
    unfold nextM at h
    simp only at h
    have h1 := lead_run isInner (x :: r')
    have h2 := lead_run isDigit (x :: r')
    have h3 : ∀ c ∈ (x :: r').take (signN (x :: r')), c ≠ 10 := sign_flat (by decide)
    split at h
    · split at h
      · simp at h
      · simp only [Prod.mk.injEq, true_and] at h
        obtain ⟨h4, h5⟩ := h
        subst h4 h5
        refine ⟨rfl, rfl, rfl, fun c hc e => ?_⟩
        have := h1 c hc
        rw [e] at this
        exact absurd this (by decide)
    · split at h
      · split at h
        · simp at h
        · simp only [Prod.mk.injEq, true_and] at h
          obtain ⟨h4, h5⟩ := h
          subst h4 h5
          refine ⟨rfl, rfl, rfl, fun c hc e => ?_⟩
          have := h2 c hc
          rw [e] at this
          exact absurd this (by decide)
      · split at h
        · simp at h
        · simp only [Prod.mk.injEq, true_and] at h
          obtain ⟨h4, h5⟩ := h
          subst h4 h5
          exact ⟨rfl, rfl, rfl, h3⟩
theorem nextM_err {r : List Nat} {p : Nat × Nat} {e n : Nat} {t : Tk} (h : nextM r p = (e, t, n)) : (e = 0 ∨ e = 131 ∨ e = 132) ∧ t.line = p.1 ∧ t.col = p.2 := by
  cases r with
  | nil => simp [nextM] at h; obtain ⟨h0, h1, h2⟩ := h; subst h0 h1; simp
  | cons x r' =>
    unfold nextM at h
    simp only at h
    split at h
    · split at h <;> simp only [Prod.mk.injEq] at h <;> obtain ⟨h0, h1, h2⟩ := h <;> subst h0 h1 <;> simp
    · split at h
      · split at h <;> simp only [Prod.mk.injEq] at h <;> obtain ⟨h0, h1, h2⟩ := h <;> subst h0 h1 <;> simp
      · split at h <;> simp only [Prod.mk.injEq] at h <;> obtain ⟨h0, h1, h2⟩ := h <;> subst h0 h1 <;> simp
end Go.Sy
end

section
set_option maxRecDepth 100000
namespace Go.Sy
open Go.Ev Go.Proofs
theorem walkP_ge : ∀ (l : List Nat) (p : Nat × Nat), p.1 ≤ (walkP p l).1
  | [], p => Nat.le_refl _
  | x :: l, p => by
    have h1 : p.1 ≤ (stepP p x).1 := by
      unfold stepP
      split <;> simp
    exact Nat.le_trans h1 (walkP_ge l _)
/-- a fault is at a place -/
theorem cutM_fault (k : Nat) : ∀ (r : List Nat) (p : Nat × Nat), r.length ≤ k → 1 ≤ p.1 → 1 ≤ p.2 → (cutM r p).2.1 ≠ 0 → (cutM r p).1 = [] ∧ ((cutM r p).2.1 = 131 ∨ (cutM r p).2.1 = 132) ∧ 1 ≤ (cutM r p).2.2.1 ∧ 1 ≤ (cutM r p).2.2.2 := by
  induction k with
  | zero =>
    intro r p hr h1 h2 hf
    have : r = [] := List.eq_nil_of_length_eq_zero (by omega)
    subst this
    have hg : gaps ([] : List Nat) = 0 := by
      have := gaps_le ([] : List Nat)
      simpa using this
    have hn : nextM (([] : List Nat).drop (gaps [])) (walkP p (([] : List Nat).take (gaps []))) = (0, ⟨5, [], 0, (walkP p (([] : List Nat).take (gaps []))).1, (walkP p (([] : List Nat).take (gaps []))).2⟩, 0) := by
      rw [hg]; rfl
    rw [cutM_eq _ _ hn] at hf
    simp at hf
  | succ k ih =>
    intro r p hr h1 h2 hf
    generalize hx : nextM (r.drop (gaps r)) (walkP p (r.take (gaps r))) = x
    obtain ⟨e, t, n⟩ := x
    obtain ⟨he, hl, hc⟩ := nextM_err hx
    have w1 := walkP_ge (r.take (gaps r)) p
    have w2 := (walkP_le (r.take (gaps r)) p h2).2.2
    rw [cutM_eq r p hx] at hf ⊢
    by_cases h0 : e ≠ 0
    · rw [if_pos h0] at hf ⊢
      refine ⟨rfl, ?_, ?_, ?_⟩
      · show e = 131 ∨ e = 132
        omega
      · show 1 ≤ t.line
        omega
      · show 1 ≤ t.col
        omega
    · rw [if_neg h0] at hf ⊢
      by_cases hn : n = 0
      · rw [if_pos hn] at hf; simp at hf
      · rw [if_neg hn] at hf ⊢
        have hle := nextM_le hx
        have hg := gaps_le r
        rw [List.length_drop] at hle
        have hlen : ((r.drop (gaps r)).drop n).length ≤ k := by rw [List.length_drop, List.length_drop]; omega
        have w3 := walkP_ge ((r.drop (gaps r)).take n) (walkP p (r.take (gaps r)))
        have w4 := (walkP_le ((r.drop (gaps r)).take n) (walkP p (r.take (gaps r))) w2).2.2
        have := ih _ (walkP (walkP p (r.take (gaps r))) ((r.drop (gaps r)).take n)) hlen (by omega) w4
        generalize cutM ((r.drop (gaps r)).drop n) (walkP (walkP p (r.take (gaps r))) ((r.drop (gaps r)).take n)) = q at *
        by_cases hq : q.2.1 ≠ 0
        · rw [if_pos hq]
          obtain ⟨i1, i2, i3, i4⟩ := this hq
          exact ⟨rfl, i2, i3, i4⟩
        · rw [if_neg hq] at hf
          exact absurd hf hq
/-- the words from a byte on -/
def seg (l : List Nat) (e : Nat) : List Tk × (Nat × Nat × Nat) := cutM (l.drop e) (walkP (1, 1) (l.take e))
def gapAt (l : List Nat) (e : Nat) : Nat := e + gaps (l.drop e)
theorem walk_add (l : List Nat) (a b : Nat) : walkP (walkP (1, 1) (l.take a)) ((l.drop a).take b) = walkP (1, 1) (l.take (a + b)) := by
  rw [← walkP_app, ← List.take_add]
theorem gapAt_le {l : List Nat} {e : Nat} (h : e ≤ l.length) : e ≤ gapAt l e ∧ gapAt l e ≤ l.length := by
  have := gaps_le (l.drop e)
  rw [List.length_drop] at this
  unfold gapAt
  omega
/-- one word more -/
theorem seg_step {l : List Nat} {e : Nat} (he : e ≤ l.length) (hf : (seg l e).2.1 = 0) : ∃ t rest, (seg l e).1 = t :: rest ∧ (t.line, t.col) = walkP (1, 1) (l.take (gapAt l e)) ∧ gapAt l e + t.text.length ≤ l.length ∧ t.text = (l.drop (gapAt l e)).take t.text.length ∧ (t.kind = 5 ↔ gapAt l e = l.length) ∧ (t.text.length = 0 ↔ gapAt l e = l.length) ∧
    (gapAt l e = l.length → rest = []) ∧ (gapAt l e < l.length → rest = (seg l (gapAt l e + t.text.length)).1 ∧ (seg l (gapAt l e + t.text.length)).2.1 = 0 ∧ walkP (1, 1) (l.take (gapAt l e + t.text.length)) = ((walkP (1, 1) (l.take (gapAt l e))).1, (walkP (1, 1) (l.take (gapAt l e))).2 + t.text.length)) := by
  have hg := gapAt_le he
  generalize hx : nextM ((l.drop e).drop (gaps (l.drop e))) (walkP (walkP (1, 1) (l.take e)) ((l.drop e).take (gaps (l.drop e)))) = x
  obtain ⟨e0, t, n⟩ := x
  have hx' := hx
  rw [List.drop_drop, walk_add] at hx'
  have hx2 : nextM (l.drop (gapAt l e)) (walkP (1, 1) (l.take (gapAt l e))) = (e0, t, n) := hx'
  have heq := cutM_eq _ _ hx
  simp only [List.drop_drop, walk_add] at heq
  have heq2 : seg l e = if e0 ≠ 0 then ([], (e0, t.line, t.col)) else if n = 0 then ([t], (0, 0, 0)) else if (seg l (gapAt l e + n)).2.1 ≠ 0 then ([], (seg l (gapAt l e + n)).2) else (t :: (seg l (gapAt l e + n)).1, (seg l (gapAt l e + n)).2) := heq
  by_cases h0 : e0 = 0
  · subst h0
    rw [if_neg (by decide)] at heq2
    obtain ⟨t1, t2, t3, t4⟩ := nextM_text hx2
    obtain ⟨k1, k2⟩ := nextM_kind hx2
    have hle := nextM_le hx2
    rw [List.length_drop] at hle
    have htl : t.text.length = n := by rw [t1, List.length_take, List.length_drop]; omega
    have hend : n = 0 ↔ gapAt l e = l.length := by
      rw [k2]
      constructor
      · intro h
        have := congrArg List.length h
        rw [List.length_drop] at this
        simp at this
        omega
      · intro h
        rw [h, List.drop_length]
    by_cases hn : n = 0
    · rw [if_pos hn] at heq2
      refine ⟨t, [], by rw [heq2], by rw [t2, t3], by omega, by rw [htl]; exact t1, by rw [k1, hend], by rw [htl, hend], fun _ => rfl, fun h => ?_⟩
      have := hend.1 hn
      omega
    · rw [if_neg hn] at heq2
      by_cases hq : (seg l (gapAt l e + n)).2.1 ≠ 0
      · rw [if_pos hq] at heq2
        rw [heq2] at hf
        exact absurd hf hq
      · rw [if_neg hq] at heq2
        refine ⟨t, _, by rw [heq2], by rw [t2, t3], by omega, by rw [htl]; exact t1, by rw [k1, hend], by rw [htl, hend], fun h => absurd (hend.2 h) hn, fun _ => ⟨by rw [htl], by rw [htl]; omega, ?_⟩⟩
        rw [htl, ← walk_add l (gapAt l e) n, walk_flat _ _ t4, List.length_take, List.length_drop]
        congr 2
        omega
  · rw [if_pos h0] at heq2
    rw [heq2] at hf
    exact absurd hf h0
theorem seg_0 (l : List Nat) : seg l 0 = cutM l (1, 1) := rfl
end Go.Sy
end

section
set_option maxRecDepth 100000
namespace Go.Sy
open Go.Ev Go.Proofs
section
variable {P : Program} {base : CallF} {st : St} {K : AV → St → Prop} {e : En}
noncomputable def biV (P : Program) (b : Builtin) (ts : Array TypeId) (v u : AV) (st : St) : ER := (builtinF P b ts [O v, O u]).run E0 st
theorem i_bi2 (b : Builtin) (ts : Array TypeId) (x y : A) : wK P base (.i (.bi b ts [x, y])) e st K = on1 e x fun v => on1 e y fun u => onER (biV P b ts v u st) K := k_2 rfl (fun _ => rfl) K
end
theorem eqI_nat (a b : Nat) : eqI (a : Int) (b : Int) = decide (a = b) := by
  show Nat.beq a b = _
  by_cases h : a = b
  · rw [beq_t h, decide_eq_true h]
  · rw [beq_f h, decide_eq_false h]
theorem eqFl (f g : Nat × Nat × Nat) : (eqF Tryd.prog 20 28).run (.agg (fcells f)) (.agg (fcells g)) = some (decide (f = g)) := by
  have h : (eqF Tryd.prog 20 28).run (.agg (fcells f)) (.agg (fcells g)) = cond (eqI (f.1 : Int) (g.1 : Int)) (cond (eqI (f.2.1 : Int) (g.2.1 : Int)) (cond (eqI (f.2.2 : Int) (g.2.2 : Int)) (some true) (some false)) (some false)) (some false) := by kernel_rfl
  rw [h, eqI_nat, eqI_nat, eqI_nat]
  obtain ⟨a, b, c⟩ := f
  obtain ⟨a', b', c'⟩ := g
  by_cases h1 : a = a' <;> by_cases h2 : b = b' <;> by_cases h3 : c = c' <;> simp [h1, h2, h3]
theorem neqFl (f : Nat × Nat × Nat) (st : St) (K : AV → St → Prop) : onER (genV Tryd.prog .neq 28 false (.agg (fcells f)) (.agg [.int .i64 0, .int .i64 0, .int .i64 0]) st) K = K (.bool (decide (f ≠ (0, 0, 0)))) st := by
  have h : genV Tryd.prog .neq 28 false (.agg (fcells f)) (.agg (fcells (0, 0, 0))) st = onSome ((eqF Tryd.prog 20 28).run (.agg (fcells f)) (.agg (fcells (0, 0, 0)))) fun b => .ok (.bool (cond b false true)) st := by kernel_rfl
  show onER (genV Tryd.prog .neq 28 false (.agg (fcells f)) (.agg (fcells (0, 0, 0))) st) K = _
  rw [h, eqFl]
  by_cases e : f = (0, 0, 0) <;> simp [e, onSome, onER]
theorem neqB (a b : Bool) (st : St) (K : AV → St → Prop) : onER (genV Tryd.prog .neq 4 false (.bool a) (.bool b) st) K = K (.bool (a != b)) st := by
  have : genV Tryd.prog .neq 4 false (.bool a) (.bool b) st = .ok (.bool (a != b)) st := by
    cases a <;> cases b <;> kernel_rfl
  rw [this]; rfl
theorem v_strneq (a : List Nat) (st : St) (K : AV → St → Prop) : onER (strV .neq (.str a) (.str a) st) K = K (.bool false) st := by
  simp [strV, strOp, onSome, onER, strEq_eq]
theorem v_max1 (a : Nat) (st : St) (K : AV → St → Prop) : onER (biV Tryd.prog .max #[3, 3] (.int .i64 (a : Int)) (.int .i64 1) st) K = K (.int .i64 ((max a 1 : Nat) : Int)) st := by
  have h : biV Tryd.prog .max #[3, 3] (.int .i64 (a : Int)) (.int .i64 1) st = onSome (max2 (.int .i64 (a : Int)) (.int .i64 1)) fun v => .ok v st := by kernel_rfl
  rw [h]
  have e : max2 (.int .i64 (a : Int)) (.int .i64 1) = some (.int .i64 ((max a 1 : Nat) : Int)) := by
    show cond (eqK .i64 .i64) (some (AV.int .i64 (cond (Nat.ble (Nat.succ a) 1) (1 : Int) (a : Int)))) none = _
    rw [eqK_self, cond_true]
    by_cases hb : a < 1
    · rw [ble_t hb, Nat.max_eq_right (by omega)]; rfl
    · rw [ble_f (by omega), Nat.max_eq_left (by omega)]; rfl
  rw [e]; rfl
theorem cutM_zero (k : Nat) : ∀ (r : List Nat) (p : Nat × Nat), r.length ≤ k → (cutM r p).2.1 = 0 → (cutM r p).2 = (0, 0, 0) := by
  induction k with
  | zero =>
    intro r p hr _
    have : r = [] := List.eq_nil_of_length_eq_zero (by omega)
    subst this
    have hg : gaps ([] : List Nat) = 0 := by
      have := gaps_le ([] : List Nat)
      simpa using this
    have hn : nextM (([] : List Nat).drop (gaps [])) (walkP p (([] : List Nat).take (gaps []))) = (0, ⟨5, [], 0, (walkP p (([] : List Nat).take (gaps []))).1, (walkP p (([] : List Nat).take (gaps []))).2⟩, 0) := by
      rw [hg]; rfl
    rw [cutM_eq _ _ hn]
    simp
  | succ k ih =>
    intro r p hr hf
    generalize hx : nextM (r.drop (gaps r)) (walkP p (r.take (gaps r))) = x
    obtain ⟨e, t, n⟩ := x
    rw [cutM_eq r p hx] at hf ⊢
    by_cases h0 : e ≠ 0
    · rw [if_pos h0] at hf
      exact absurd hf h0
    · rw [if_neg h0] at hf ⊢
      by_cases hn : n = 0
      · rw [if_pos hn]
      · rw [if_neg hn] at hf ⊢
        have hle := nextM_le hx
        have hg := gaps_le r
        rw [List.length_drop] at hle
        have hlen : ((r.drop (gaps r)).drop n).length ≤ k := by rw [List.length_drop, List.length_drop]; omega
        have := ih _ (walkP (walkP p (r.take (gaps r))) ((r.drop (gaps r)).take n)) hlen
        generalize cutM ((r.drop (gaps r)).drop n) (walkP (walkP p (r.take (gaps r))) ((r.drop (gaps r)).take n)) = q at *
        by_cases hq : q.2.1 ≠ 0
        · rw [if_pos hq] at hf
          exact absurd hf hq
        · rw [if_neg hq]
          exact this (by omega)
theorem cutM_len (k : Nat) : ∀ (r : List Nat) (p : Nat × Nat), r.length ≤ k → (cutM r p).1.length ≤ r.length + 1 := by
  induction k with
  | zero =>
    intro r p hr
    have : r = [] := List.eq_nil_of_length_eq_zero (by omega)
    subst this
    have hg : gaps ([] : List Nat) = 0 := by
      have := gaps_le ([] : List Nat)
      simpa using this
    have hn : nextM (([] : List Nat).drop (gaps [])) (walkP p (([] : List Nat).take (gaps []))) = (0, ⟨5, [], 0, (walkP p (([] : List Nat).take (gaps []))).1, (walkP p (([] : List Nat).take (gaps []))).2⟩, 0) := by
      rw [hg]; rfl
    rw [cutM_eq _ _ hn]
    simp
  | succ k ih =>
    intro r p hr
    generalize hx : nextM (r.drop (gaps r)) (walkP p (r.take (gaps r))) = x
    obtain ⟨e, t, n⟩ := x
    rw [cutM_eq r p hx]
    by_cases h0 : e ≠ 0
    · rw [if_pos h0]; simp
    · rw [if_neg h0]
      by_cases hn : n = 0
      · rw [if_pos hn]; simp
      · rw [if_neg hn]
        have hle := nextM_le hx
        have hg := gaps_le r
        rw [List.length_drop] at hle
        have hlen : ((r.drop (gaps r)).drop n).length ≤ k := by rw [List.length_drop, List.length_drop]; omega
        have := ih _ (walkP (walkP p (r.take (gaps r))) ((r.drop (gaps r)).take n)) hlen
        rw [List.length_drop, List.length_drop] at this
        generalize cutM ((r.drop (gaps r)).drop n) (walkP (walkP p (r.take (gaps r))) ((r.drop (gaps r)).take n)) = q at *
        by_cases hq : q.2.1 ≠ 0
        · rw [if_pos hq]; simp
        · rw [if_neg hq, List.length_cons]
          omega
theorem v_addNN {a b : Nat} (h2 : a + b ≤ 9223372036854775807) (st : St) (K : AV → St → Prop) : onER (binV .add (.int .i64 (a : Int)) (.int .i64 (b : Int)) st) K = K (.int .i64 ((a + b : Nat) : Int)) st := by
  rw [v_add (by omega) (by omega)]; rfl
theorem tcells_at : ∀ {ts : List Tk} {i j : Nat}, i < ts.length → j < 5 → (tcells ts).getD (5 * i + j) .bad = (ts.getD i ⟨0, [], 0, 0, 0⟩).cells.getD j .bad
  | [], i, j, h, _ => by simp at h
  | t :: ts, 0, j, h, hj => by
    show (t.cells ++ tcells ts).getD (5 * 0 + j) .bad = t.cells.getD j .bad
    rw [Nat.mul_zero, Nat.zero_add, List.getD_eq_getElem?_getD, List.getElem?_append_left (by show j < 5; exact hj), ← List.getD_eq_getElem?_getD]
  | t :: ts, i + 1, j, h, hj => by
    show (t.cells ++ tcells ts).getD (5 * (i + 1) + j) .bad = _
    have e : 5 * (i + 1) + j - t.cells.length = 5 * i + j := by show 5 * (i + 1) + j - 5 = _; omega
    rw [List.getD_eq_getElem?_getD, List.getElem?_append_right (by show 5 ≤ _; omega), e, ← List.getD_eq_getElem?_getD]
    exact tcells_at (by simpa using h) hj
end Go.Sy
end

namespace Go.Sy
open Go.Ev Go.RowKit
/-! ### memory as what was done to it -/
noncomputable def nw (s : St) (cs : List AV) : St := ⟨s.nx + 1, (setF (bitsR s.nx)).run (.row cs.length cs.length cs .e) s.h, s.dirty, s.fr⟩
noncomputable def putO (x : Option AO) (o : Nat) (vs : List AV) : AO := match x with | some (.row n zl z cs) => .row n zl z (setCells vs cs o) | _ => .row 0 1 [] (setCells vs .e o)
noncomputable def wr (s : St) (b o : Nat) (vs : List AV) : St := ⟨s.nx, (setF (bitsR b)).run (putO (hget s.h b) o vs) s.h, min s.dirty b, s.fr⟩
noncomputable def apO (x : Option AO) (vs : List AV) : AO := match x with | some (.row n zl z cs) => .row (n + vs.length) zl z (setCells vs cs n) | _ => .row vs.length 1 [] (setCells vs .e 0)
noncomputable def ap (s : St) (b : Nat) (vs : List AV) : St := ⟨s.nx + 1, (setF (bitsR s.nx)).run (apO (hget s.h b) vs) ((setF (bitsR b)).run .dead s.h), min s.dirty b, s.fr⟩
theorem nx_nw (s : St) (cs : List AV) : (nw s cs).nx = s.nx + 1 := nr rfl
theorem nx_wr (s : St) (b o : Nat) (vs : List AV) : (wr s b o vs).nx = s.nx := nr rfl
theorem nx_ap (s : St) (b : Nat) (vs : List AV) : (ap s b vs).nx = s.nx + 1 := nr rfl
theorem nx_bare (s : St) : s.bare.nx = s.nx := nr rfl
theorem h_bare (s : St) : s.bare.h = s.h := nr rfl
theorem fr_nw (s : St) (cs : List AV) : (nw s cs).fr = s.fr := nr rfl
theorem fr_wr (s : St) (b o : Nat) (vs : List AV) : (wr s b o vs).fr = s.fr := nr rfl
theorem fr_ap (s : St) (b : Nat) (vs : List AV) : (ap s b vs).fr = s.fr := nr rfl
theorem fr_bare (s : St) : s.bare.fr = [] := nr rfl
theorem get_nwO {s : St} {cs : List AV} {b : Nat} (h : b ≠ s.nx) : hget (nw s cs).h b = hget s.h b := by unfold nw; rw [hget_set, if_neg h]
theorem get_wrO {s : St} {b o : Nat} {vs : List AV} {c : Nat} (h : c ≠ b) : hget (wr s b o vs).h c = hget s.h c := by unfold wr; rw [hget_set, if_neg h]
theorem get_apO {s : St} {b : Nat} {vs : List AV} {c : Nat} (h : c ≠ s.nx) (h2 : c ≠ b) : hget (ap s b vs).h c = hget s.h c := by unfold ap; rw [hget_set, if_neg h, hget_set, if_neg h2]
theorem len_nw (s : St) (cs : List AV) : rlen (nw s cs).h s.nx = cs.length := by unfold nw; rw [rlen_row, if_pos rfl]
theorem len_nwO {s : St} {cs : List AV} {b : Nat} (h : b ≠ s.nx) : rlen (nw s cs).h b = rlen s.h b := rlen_same (get_nwO h)
theorem at_nw {s : St} {cs : List AV} {i : Nat} (h : i < cs.length) : rat (nw s cs).h s.nx i = cs.getD i .bad := by unfold nw; rw [rat_row, if_pos rfl, rowCell_eq, get_e, Nat.mod_eq_of_lt h]; rfl
theorem at_nwO {s : St} {cs : List AV} {b i : Nat} (h : b ≠ s.nx) : rat (nw s cs).h b i = rat s.h b i := rat_same (get_nwO h) i
theorem len_nwE {s : St} {cs : List AV} {b : Nat} (h : b = s.nx) : rlen (nw s cs).h b = cs.length := by rw [h, len_nw]
theorem at_nwE {s : St} {cs : List AV} {b i : Nat} (h : b = s.nx) (hi : i < cs.length) : rat (nw s cs).h b i = cs.getD i .bad := by rw [h, at_nw hi]
theorem len_wr (s : St) (b o : Nat) (vs : List AV) (c : Nat) : rlen (wr s b o vs).h c = rlen s.h c := by
  by_cases h : c = b
  · subst h
    unfold wr putO rlen
    rw [hget_set, if_pos rfl]
    cases hget s.h c with
    | none => rfl
    | some x => cases x <;> rfl
  · exact rlen_same (get_wrO h)
theorem at_wr' (s : St) (b o : Nat) (vs : List AV) (i : Nat) : rat (wr s b o vs).h b i = if o ≤ i ∧ i < o + vs.length then vs.getD (i - o) .bad else rat s.h b i := by
  unfold wr rat
  rw [hget_set, if_pos rfl]
  unfold putO
  cases hget s.h b with
  | none => simp only [rowCell_setCells]; congr 1; rw [rowCell_eq, get_e]; rfl
  | some x => cases x <;> simp only [rowCell_setCells] <;> (congr 1; rw [rowCell_eq, get_e]; rfl)
theorem at_wr {s : St} {b o : Nat} {vs : List AV} {i : Nat} (h1 : o ≤ i) (h2 : i < o + vs.length) : rat (wr s b o vs).h b i = vs.getD (i - o) .bad := by rw [at_wr', if_pos ⟨h1, h2⟩]
theorem at_wrB {s : St} {b o : Nat} {vs : List AV} {i : Nat} (h : i < o) : rat (wr s b o vs).h b i = rat s.h b i := by rw [at_wr', if_neg (by omega)]
theorem at_wrA {s : St} {b o : Nat} {vs : List AV} {i : Nat} (h : o + vs.length ≤ i) : rat (wr s b o vs).h b i = rat s.h b i := by rw [at_wr', if_neg (by omega)]
theorem at_wrO {s : St} {b o c : Nat} {vs : List AV} {i : Nat} (h : c ≠ b) : rat (wr s b o vs).h c i = rat s.h c i := rat_same (get_wrO h) i
theorem isRow_wr {s : St} {b o : Nat} {vs : List AV} {c : Nat} (h : IsRow s.h c) : IsRow (wr s b o vs).h c := by
  by_cases hc : c = b
  · subst hc
    unfold IsRow wr
    rw [hget_set, if_pos rfl]
    obtain ⟨n, zl, z, cs, e⟩ := h
    rw [e]
    exact ⟨_, _, _, _, rfl⟩
  · exact isRow_same (get_wrO hc) h
/-- the cells of a block -/
structure Cl (s : St) (b : Nat) (cs : List AV) : Prop where
  lt : b < s.nx
  row : IsRow s.h b
  len : rlen s.h b = cs.length
  cell : ∀ i, i < cs.length → rat s.h b i = cs.getD i .bad
theorem Cl.keep {s s' : St} {b : Nat} {cs : List AV} (h : Cl s b cs) (hn : s.nx ≤ s'.nx) (k : hget s'.h b = hget s.h b) : Cl s' b cs :=
  ⟨Nat.lt_of_lt_of_le h.lt hn, isRow_same k h.row, (rlen_same k).trans h.len, fun i hi => (rat_same k i).trans (h.cell i hi)⟩
theorem Cl.new (s : St) (cs : List AV) : Cl (nw s cs) s.nx cs :=
  ⟨Nat.lt_succ_self _, ⟨_, _, _, _, by unfold nw; rw [hget_set, if_pos rfl]⟩, len_nw s cs, fun i hi => at_nw hi⟩
theorem Cl.nw {s : St} {b : Nat} {cs : List AV} (h : Cl s b cs) (ds : List AV) : Cl (nw s ds) b cs := h.keep (Nat.le_succ _) (get_nwO (Nat.ne_of_lt h.lt))
theorem Cl.wrO {s : St} {b : Nat} {cs : List AV} (h : Cl s b cs) {c : Nat} (hc : b ≠ c) (o : Nat) (vs : List AV) : Cl (wr s c o vs) b cs := h.keep (Nat.le_refl _) (get_wrO hc)
def upd : List AV → Nat → List AV → List AV
  | [], _, _ => []
  | c :: cs, 0, [] => c :: cs
  | c :: cs, 0, v :: vs => v :: upd cs 0 vs
  | c :: cs, o + 1, vs => c :: upd cs o vs
theorem upd_len : ∀ (cs : List AV) (o : Nat) (vs : List AV), (upd cs o vs).length = cs.length
  | [], _, _ => rfl
  | c :: cs, 0, [] => rfl
  | c :: cs, 0, v :: vs => by show (upd cs 0 vs).length + 1 = _; rw [upd_len cs 0 vs]; rfl
  | c :: cs, o + 1, vs => by show (upd cs o vs).length + 1 = _; rw [upd_len cs o vs]; rfl
theorem upd_get : ∀ (cs : List AV) (o : Nat) (vs : List AV) (i : Nat), i < cs.length → (upd cs o vs).getD i .bad = if o ≤ i ∧ i < o + vs.length then vs.getD (i - o) .bad else cs.getD i .bad
  | [], _, _, _, h => by simp at h
  | c :: cs, 0, [], i, h => by rw [if_neg (by simp)]; rfl
  | c :: cs, 0, v :: vs, 0, h => by rw [if_pos (by simp)]; rfl
  | c :: cs, 0, v :: vs, i + 1, h => by
    show (upd cs 0 vs).getD i .bad = _
    rw [upd_get cs 0 vs i (by simpa using h)]
    by_cases hi : i < vs.length
    · rw [if_pos (by omega), if_pos (by simp; omega)]; rfl
    · rw [if_neg (by omega), if_neg (by simp; omega)]; rfl
  | c :: cs, o + 1, vs, 0, h => by rw [if_neg (by omega)]; rfl
  | c :: cs, o + 1, vs, i + 1, h => by
    show (upd cs o vs).getD i .bad = _
    rw [upd_get cs o vs i (by simpa using h)]
    by_cases hi : o ≤ i ∧ i < o + vs.length
    · rw [if_pos hi, if_pos (by omega), Nat.add_sub_add_right]
    · rw [if_neg hi, if_neg (by omega)]; rfl
theorem Cl.wr {s : St} {b : Nat} {cs : List AV} (h : Cl s b cs) (o : Nat) (vs : List AV) : Cl (wr s b o vs) b (upd cs o vs) :=
  ⟨h.lt, isRow_wr h.row, by rw [len_wr, h.len, upd_len], fun i hi => by
    rw [upd_len] at hi
    rw [at_wr', upd_get _ _ _ _ hi, h.cell i hi]⟩
theorem Cl.ap {s : St} {b : Nat} {cs : List AV} (h : Cl s b cs) (vs : List AV) : Cl (ap s b vs) s.nx (cs ++ vs) := by
  obtain ⟨n, zl, z, ks, e⟩ := h.row
  have hl := h.len
  rw [rlen_get e] at hl
  have eo : hget (Go.Sy.ap s b vs).h s.nx = some (.row (n + vs.length) zl z (setCells vs ks n)) := by unfold Go.Sy.ap; rw [hget_set, if_pos rfl, e]; rfl
  refine ⟨Nat.lt_succ_self _, ⟨_, _, _, _, eo⟩, by rw [rlen_get eo, List.length_append, hl], fun i hi => ?_⟩
  rw [rat_get eo, rowCell_setCells]
  rw [List.length_append] at hi
  by_cases hc : n ≤ i ∧ i < n + vs.length
  · rw [if_pos hc, List.getD_eq_getElem?_getD, List.getD_eq_getElem?_getD, List.getElem?_append_right (by omega), hl]
  · have hi' : i < cs.length := by omega
    rw [if_neg hc, ← rat_get e, h.cell i hi', List.getD_eq_getElem?_getD, List.getD_eq_getElem?_getD, List.getElem?_append_left hi']
theorem cells_agg (cs : List AV) : (AV.agg cs).cells = cs := nr rfl
theorem cells_int (k : IntKind) (n : Int) : (AV.int k n).cells = [.int k n] := nr rfl
theorem cells_str (l : List Nat) : (AV.str l).cells = [.str l] := nr rfl
theorem cells_bool (b : Bool) : (AV.bool b).cells = [.bool b] := nr rfl
theorem cells_slice (b o n c z : Nat) (x : Bool) : (AV.slice b o n c z x).cells = [.slice b o n c z x] := nr rfl
theorem cells_nils : AV.nils.cells = [.nils] := nr rfl
theorem cells_ptr (b o : Nat) : (AV.ptr b o).cells = [.ptr b o] := nr rfl
theorem cell_int (k : IntKind) (n : Int) : (AV.int k n).cell = true := nr rfl
theorem cell_str (l : List Nat) : (AV.str l).cell = true := nr rfl
theorem cell_bool (b : Bool) : (AV.bool b).cell = true := nr rfl
theorem cell_slice (b o n c z : Nat) (x : Bool) : (AV.slice b o n c z x).cell = true := nr rfl
theorem cell_nils : AV.nils.cell = true := nr rfl
theorem cell_ptr (b o : Nat) : (AV.ptr b o).cell = true := nr rfl
theorem lall_nil : lall AV.cell [] = true := nr rfl
theorem lall_int (k : IntKind) (n : Int) (l : List AV) : lall AV.cell (.int k n :: l) = lall AV.cell l := nr rfl
theorem lall_str (x : List Nat) (l : List AV) : lall AV.cell (.str x :: l) = lall AV.cell l := nr rfl
theorem lall_bool (x : Bool) (l : List AV) : lall AV.cell (.bool x :: l) = lall AV.cell l := nr rfl
theorem lall_slice (b o n c z : Nat) (x : Bool) (l : List AV) : lall AV.cell (.slice b o n c z x :: l) = lall AV.cell l := nr rfl
theorem lall_nils (l : List AV) : lall AV.cell (.nils :: l) = lall AV.cell l := nr rfl
theorem lall_ptr (b o : Nat) (l : List AV) : lall AV.cell (.ptr b o :: l) = lall AV.cell l := nr rfl
theorem lall_app (a b : List AV) (h : lall AV.cell a = true) : lall AV.cell (a ++ b) = lall AV.cell b := by
  induction a with
  | nil => rfl
  | cons c a ih =>
    have h' : cond c.cell (lall AV.cell a) false = true := h
    cases hc : c.cell with
    | false => rw [hc] at h'; cases h'
    | true =>
      rw [hc] at h'
      show cond c.cell (lall AV.cell (a ++ b)) false = _
      rw [hc]
      exact ih h'
/-! ### frames -/
theorem Kept.nw {a s : St} (k : Kept a s) (cs : List AV) : Kept a (nw s cs) := ⟨by rw [nx_nw]; have := k.nx; omega, k.fr, fun c hc => (get_nwO (by have := k.nx; omega)).trans (k.keep c hc)⟩
theorem Kept.wr {a s : St} (k : Kept a s) {b : Nat} (hb : a.nx ≤ b) (o : Nat) (vs : List AV) : Kept a (wr s b o vs) := ⟨k.nx, k.fr, fun c hc => (get_wrO (by omega)).trans (k.keep c hc)⟩
theorem Kept.ap {a s : St} (k : Kept a s) {b : Nat} (hb : a.nx ≤ b) (vs : List AV) : Kept a (ap s b vs) := ⟨by rw [nx_ap]; have := k.nx; omega, k.fr, fun c hc => (get_apO (by have := k.nx; omega) (by omega)).trans (k.keep c hc)⟩
theorem Kept.wrS {a s : St} {b o : Nat} {vs : List AV} (hb : a.nx ≤ b) (k : Kept a s) : Kept a (Go.Sy.wr s b o vs) := k.wr hb o vs
theorem Kept.apS {a s : St} {b : Nat} {vs : List AV} (hb : a.nx ≤ b) (k : Kept a s) : Kept a (Go.Sy.ap s b vs) := k.ap hb vs
theorem Cl.kept {a s : St} {b : Nat} {cs : List AV} (h : Cl a b cs) (k : Kept a s) : Cl s b cs := h.keep k.nx (k.keep b h.lt)
/-! ### steps -/
section
variable {P : Program} {base : CallF} {st : St} {K : AV → St → Prop} {e : En}
theorem a_new (cs : List AV) : onER (Ev.newRow st cs) K = K (.ptr st.nx 0) (nw st cs) := by
  simp only [Ev.newRow, force_eq, llen_eq, St.alloc_eq, onER]; rfl
theorem a_box {v : AV} (h : lall AV.cell v.cells = true) : onER (boxV v st) K = K (.ptr st.nx 0) (nw st v.cells) := by
  simp only [boxV, h, cond_true]; exact a_new _
theorem a_st {k b o : Nat} {v : AV} (hk : 0 < k) (hc : v.cells.length = k) (hl : lall AV.cell v.cells = true) (ho : o + k ≤ rlen st.h b) : onER (stV k (.ptr b o) v st) K = K undefA (wr st b o v.cells) := by
  obtain ⟨n, zl, z, cs, hg⟩ := isRow_pos (h := st.h) (b := b) (by omega)
  rw [rlen_get hg] at ho
  have e1 : Nat.beq (llen v.cells) k = true := beq_t (by rw [llen_eq]; exact hc)
  have e2 : Nat.ble (Nat.add o k) n = true := ble_t ho
  simp only [stV, onPtr, hg, onRow, e1, e2, hl, cond_true, St.put_eq, onER]
  unfold wr putO
  rw [hg]
noncomputable def rats (h : T AO) (b o : Nat) : Nat → List AV
  | 0 => []
  | k + 1 => rat h b o :: rats h b (o + 1) k
theorem rats_eq (h : T AO) (b : Nat) : ∀ (k o : Nat), rats h b o k = (List.range k).map fun i => rat h b (o + i)
  | 0, o => rfl
  | k + 1, o => by
    rw [List.range_succ_eq_map, List.map_cons, List.map_map]
    show rat h b o :: rats h b (o + 1) k = _
    rw [rats_eq h b k (o + 1)]
    congr 1
    refine List.map_congr_left fun i _ => ?_
    show rat h b (o + 1 + i) = rat h b (o + (i + 1))
    rw [Nat.add_assoc, Nat.add_comm 1 i]
theorem a_ldA {k b o : Nat} (hk : 0 < k) (h : o + k ≤ rlen st.h b) : onER (ldAV k (.ptr b o) st) K = K (.agg (rats st.h b o k)) st := by rw [rats_eq]; exact v_ldAn hk h
theorem rats0 (h : T AO) (b o : Nat) : rats h b o 0 = [] := nr rfl
theorem ratsS (h : T AO) (b o k : Nat) : rats h b o (k + 1) = rat h b o :: rats h b (o + 1) k := nr rfl
theorem Cl.ratsP {s : St} {b : Nat} {cs : List AV} (h : Cl s b cs) : ∀ k o, o + k ≤ cs.length → rats s.h b o k = (cs.drop o).take k
  | 0, o, _ => rfl
  | k + 1, o, hk => by
    show rat s.h b o :: Go.Sy.rats s.h b (o + 1) k = _
    rw [h.ratsP k (o + 1) (by omega), h.cell o (by omega), List.drop_eq_getElem_cons (show o < cs.length by omega), List.take_succ_cons, List.getD_eq_getElem?_getD, List.getElem?_eq_getElem (by omega)]
    rfl
theorem rats_same {h h' : T AO} {b : Nat} (e : hget h' b = hget h b) : ∀ k o, rats h' b o k = rats h b o k
  | 0, _ => rfl
  | k + 1, o => by rw [ratsS, ratsS, rat_same e, rats_same e k]
theorem rats_len (h : T AO) (b : Nat) : ∀ k o, (rats h b o k).length = k
  | 0, _ => rfl
  | k + 1, o => by rw [ratsS, List.length_cons, rats_len h b k]
theorem rats_ext {h : T AO} {b : Nat} : ∀ {k o : Nat} {cs : List AV}, cs.length = k → (∀ i, i < k → rat h b (o + i) = cs.getD i .bad) → rats h b o k = cs
  | 0, o, [], _, _ => rfl
  | k + 1, o, c :: cs, hl, h => by
    rw [ratsS, rats_ext (cs := cs) (by simpa using hl) (fun i hi => by
      have := h (i + 1) (by omega)
      rw [show o + 1 + i = o + (i + 1) by omega, this]; rfl)]
    have := h 0 (by omega)
    rw [Nat.add_zero] at this
    rw [this]; rfl
theorem rats_nw {s : St} {cs : List AV} {k : Nat} (h : cs.length = k) : rats (nw s cs).h s.nx 0 k = cs := rats_ext h fun i hi => by rw [Nat.zero_add]; exact at_nw (by omega)
theorem rats_nwE {s : St} {cs : List AV} {b k : Nat} (hb : b = s.nx) (h : cs.length = k) : rats (nw s cs).h b 0 k = cs := by rw [hb, rats_nw h]
theorem rats_nwO {s : St} {cs : List AV} {b o k : Nat} (h : b ≠ s.nx) : rats (nw s cs).h b o k = rats s.h b o k := rats_same (get_nwO h) _ _
theorem rats_wr {s : St} {b o k : Nat} {vs : List AV} (h : vs.length = k) : rats (wr s b o vs).h b o k = vs := rats_ext h fun i hi => by
  rw [at_wr (by omega) (by omega), Nat.add_sub_cancel_left]
theorem rats_wrO {s : St} {b c o o' k : Nat} {vs : List AV} (h : b ≠ c) : rats (wr s c o' vs).h b o k = rats s.h b o k := rats_same (get_wrO h) _ _
theorem rats_upd {s : St} {b o k : Nat} {vs : List AV} : rats (wr s b o vs).h b 0 k = upd (rats s.h b 0 k) o vs := by
  refine rats_ext (by rw [upd_len, rats_len]) fun i hi => ?_
  rw [Nat.zero_add, at_wr', upd_get _ _ _ _ (by rw [rats_len]; exact hi), rats_eq]
  congr 1
  simp [List.getD_eq_getElem?_getD, List.getElem?_map, hi]
theorem upd_nil (o : Nat) (vs : List AV) : upd [] o vs = [] := nr (by cases o <;> rfl)
theorem upd_00 (c : AV) (cs : List AV) : upd (c :: cs) 0 [] = c :: cs := nr rfl
theorem upd_0 (c : AV) (cs : List AV) (v : AV) (vs : List AV) : upd (c :: cs) 0 (v :: vs) = v :: upd cs 0 vs := nr rfl
theorem upd_S (c : AV) (cs : List AV) (o : Nat) (vs : List AV) : upd (c :: cs) (o + 1) vs = c :: upd cs o vs := nr rfl
theorem upd_e : ∀ (cs : List AV) , upd cs 0 [] = cs
  | [] => rfl
  | c :: cs => rfl
theorem Cl.of_rats {s : St} {b k : Nat} {cs : List AV} (h1 : b < s.nx) (h2 : rlen s.h b = k) (h3 : cs.length = k) (h4 : 0 < k) (h5 : Go.Sy.rats s.h b 0 k = cs) : Cl s b cs := by
  refine ⟨h1, isRow_pos (by omega), by omega, fun i hi => ?_⟩
  have := congrArg (fun l => l.getD i .bad) h5
  rw [rats_eq] at this
  have hi' : i < k := by omega
  simpa [List.getD_eq_getElem?_getD, List.getElem?_map, hi'] using this
theorem Cl.rats0 {s : St} {b k : Nat} {cs : List AV} (h : Cl s b cs) (hk : cs.length = k) : Go.Sy.rats s.h b 0 k = cs := rats_ext hk fun i hi => by rw [Nat.zero_add]; exact h.cell i (by omega)
theorem Cl.ldA {s : St} {b k o : Nat} {cs : List AV} (h : Cl s b cs) (hk : 0 < k) (ho : o + k ≤ cs.length) (K : AV → St → Prop) : onER (ldAV k (.ptr b o) s) K = K (.agg ((cs.drop o).take k)) s := by
  rw [a_ldA hk (by rw [h.len]; exact ho), h.ratsP k o ho]
theorem Cl.ld {s : St} {b o : Nat} {cs : List AV} (h : Cl s b cs) (ho : o < cs.length) (K : AV → St → Prop) : onER (ld1V (.ptr b o) s) K = K (cs.getD o .bad) s := by
  rw [v_ld1 (by rw [h.len]; exact ho), h.cell o ho]
end
/-! ### values built of parts -/
section
variable {P : Program} {base : CallF} {st : St} {K : AV → St → Prop} {e : En}
theorem upd_app : ∀ (z : List AV) (off : Nat) (vs : List AV), off + vs.length ≤ z.length → z.take off ++ (vs ++ z.drop (off + vs.length)) = upd z off vs
  | [], off, vs, h => by
    have hv : vs = [] := List.eq_nil_of_length_eq_zero (by have h' : off + vs.length ≤ 0 := h; omega)
    subst hv
    simp [upd]
  | c :: z, 0, [], _ => rfl
  | c :: z, 0, v :: vs, h => by
    show v :: (vs ++ (c :: z).drop (0 + (vs.length + 1))) = v :: upd z 0 vs
    rw [← upd_app z 0 vs (by simp at h ⊢; omega)]
    simp
  | c :: z, off + 1, vs, h => by
    show c :: z.take off ++ (vs ++ (c :: z).drop (off + 1 + vs.length)) = c :: upd z off vs
    rw [← upd_app z off vs (by simp at h; omega), show off + 1 + vs.length = (off + vs.length) + 1 by omega]
    rfl
theorem fill_cons {z : List AV} {off size : Nat} {v : AV} {ps : List ((Nat × Nat) × AV)} (h1 : v.plain = true) (h2 : v.cells.length = size) (h3 : off + size ≤ z.length) : fillP z (((off, size), v) :: ps) = fillP (upd z off v.cells) ps := by
  have e1 : Nat.beq (llen v.cells) size = true := beq_t (by rw [llen_eq]; exact h2)
  have e2 : Nat.ble (Nat.add off size) (llen z) = true := ble_t (by rw [llen_eq]; exact h3)
  have e3 : lapp (ltake z off) (lapp v.cells (ldrop z (Nat.add off size))) = upd z off v.cells := by
    rw [lapp_eq, lapp_eq, ltake_eq, ldrop_eq, ← upd_app z off v.cells (by omega), h2]; rfl
  show cond v.plain (cond (Nat.beq (llen v.cells) size) (cond (Nat.ble (Nat.add off size) (llen z)) (fillP (lapp (ltake z off) (lapp v.cells (ldrop z (Nat.add off size)))) ps) none) none) none = _
  rw [h1, e1, e2, e3]; rfl
theorem a_build0 (z : List AV) : onER (buildV z [] st) K = K (.agg z) st := nr rfl
theorem a_buildc {z : List AV} {off size : Nat} {v : AV} {ps : List ((Nat × Nat) × AV)} (h1 : v.plain = true) (h2 : v.cells.length = size) (h3 : off + size ≤ z.length) : onER (buildV z (((off, size), v) :: ps) st) K = onER (buildV (upd z off v.cells) ps st) K := by
  unfold buildV
  rw [fill_cons h1 h2 h3]
/-- a new block of parts -/
noncomputable def bSV (len s : Nat) (z : List AV) (ps : List ((Nat × Nat) × AV)) (st : St) : ER := onSome (fillP z ps) fun cells =>
      cond (lall AV.cell cells) (force (llen cells) fun n => st.alloc (.row n n cells .e) fun b st => .ok (.slice b 0 len len s true) st) .no
theorem a_bS (len s : Nat) (z : List AV) (ps : List ((Nat × Nat) × AV)) : onER (buildSV len s z ps st) K = onER (bSV len s (repeatC z len) ps st) K := nr rfl
theorem a_bS0 {len s : Nat} {z : List AV} (h : lall AV.cell z = true) : onER (bSV len s z [] st) K = K (.slice st.nx 0 len len s true) (nw st z) := by
  have e : fillP z [] = some z := rfl
  simp only [bSV, e, onSome, h, cond_true, force_eq, llen_eq, St.alloc_eq, onER]
  rfl
theorem a_bSc {len s : Nat} {z : List AV} {off size : Nat} {v : AV} {ps : List ((Nat × Nat) × AV)} (h1 : v.plain = true) (h2 : v.cells.length = size) (h3 : off + size ≤ z.length) : onER (bSV len s z (((off, size), v) :: ps) st) K = onER (bSV len s (upd z off v.cells) ps st) K := by
  unfold bSV
  rw [fill_cons h1 h2 h3]
theorem rep_0 (z : List AV) : repeatC z 0 = [] := nr rfl
theorem rep_S (z : List AV) (n : Nat) : repeatC z (n + 1) = z ++ repeatC z n := nr (by first | rfl | (unfold repeatC; simp [lapp_eq]))
def onPs (e : En) : List ((Nat × Nat) × A) → (F : List ((Nat × Nat) × AV) → Prop) → Res F
  | [], F => F []
  | (p, a) :: l, F => on1 e a fun v => onPs e l fun vs => F ((p, v) :: vs)
theorem onPs_eq (e : En) : ∀ (l : List ((Nat × Nat) × A)) (F : List ((Nat × Nat) × AV) → Prop), onPs e l F = ((l.map (·.2)).all (okA e) = true ∧ F (l.map fun p => (p.1, vl e p.2)))
  | [], F => by simp [onPs]
  | (p, a) :: l, F => by simp [onPs, onPs_eq e l, on1, and_assoc]
theorem i_buildP (z : List AV) (ps : List ((Nat × Nat) × A)) : wK P base (.i (.build z ps)) e st K = onPs e ps fun vs => onER (buildV z vs st) K := by
  rw [onPs_eq]; rfl
theorem i_buildSP (len s : Nat) (z : List AV) (ps : List ((Nat × Nat) × A)) : wK P base (.i (.buildS len s z ps)) e st K = onPs e ps fun vs => onER (buildSV len s z vs st) K := by
  rw [onPs_eq]; rfl
theorem i_fnA (f : FuncId) (l : List A) : wK P base (.i (.fn f l)) e st K = onAs e l fun vs => K (.fn f vs) st := by
  rw [onAs_eq]; rfl
theorem r_ps0 (F : List ((Nat × Nat) × AV) → Prop) : onPs e [] F = F [] := nr rfl
theorem r_ps1 (p : Nat × Nat) (a : A) (l : List ((Nat × Nat) × A)) (F : List ((Nat × Nat) × AV) → Prop) : onPs e ((p, a) :: l) F = on1 e a fun v => onPs e l fun vs => F ((p, v) :: vs) := nr rfl
theorem plain_int (k : IntKind) (n : Int) : (AV.int k n).plain = true := nr rfl
theorem plain_str (l : List Nat) : (AV.str l).plain = true := nr rfl
theorem plain_bool (b : Bool) : (AV.bool b).plain = true := nr rfl
theorem plain_slice (b o n c z : Nat) (x : Bool) : (AV.slice b o n c z x).plain = true := nr rfl
theorem plain_nils : AV.nils.plain = true := nr rfl
theorem plain_ptr (b o : Nat) : (AV.ptr b o).plain = true := nr rfl
theorem plain_agg (cs : List AV) : (AV.agg cs).plain = true := nr rfl
theorem v_iface (t : TypeId) (x : A) : wK P base (.i (.iface t x)) e st K = on1 e x fun v => K (.iface t v) st := k_1 (V := fun v st => .ok (.iface t v) st) rfl (fun _ => rfl) K
end
end Go.Sy

namespace Go.Sy
open Go.Ev Go.RowKit
/-! ### what is held together in a drawn region -/
/-- a cell that is the same as itself -/
def eqs : AV → Bool
  | .bool _ => true | .int _ _ => true | .str _ => true | .ptr _ _ => true | .nilp => true | .slice _ _ _ _ _ _ => true | .nils => true | .map _ => true | .nilm => true | .nilf => true | .nilif => true
  | _ => false
theorem eqI_refl (a : Int) : eqI a a = true := by cases a <;> simp [eqI]
theorem beq_refl (a : Nat) : Nat.beq a a = true := by rw [beqN]
theorem eqCellS_self {v : AV} (h : eqs v = true) : eqCellS v v = true := by
  cases v <;> first | (cases h; done) | rfl | skip
  case bool b => cases b <;> rfl
  case int k n => show cond (eqK k k) (eqI n n) false = true; rw [eqK_self, eqI_refl]; rfl
  case str s => show strEq s s = true; rw [strEq_eq]; simp
  case ptr b o => show cond (Nat.beq b b) (Nat.beq o o) false = true; rw [beq_refl, beq_refl]; rfl
  case slice b o n c z ex =>
    show cond (Nat.beq b b) (cond (Nat.beq o o) (cond (Nat.beq n n) (cond (Nat.beq c c) (cond (Nat.beq z z) (cond ex ex (cond ex false true)) false) false) false) false) false = true
    rw [beq_refl, beq_refl, beq_refl, beq_refl, beq_refl]
    cases ex <;> rfl
  case map r => show Nat.beq r r = true; exact beq_refl r
theorem eqCells_self : ∀ {l : List AV}, l.all eqs = true → eqCells l l = true
  | [], _ => rfl
  | v :: l, h => by
    simp only [List.all_cons, Bool.and_eq_true] at h
    show cond (eqCellS v v) (eqCells l l) false = true
    rw [eqCellS_self h.1, eqCells_self h.2]; rfl
theorem eqAV_self {v : AV} (h : eqs v = true) : eqAV v v = true := by
  cases v <;> first | (cases h; done) | exact eqCellS_self h
section
variable {P : Program}
theorem same_1 {t : TypeId} {b o : Nat} {v : AV} {h : T AO} (h1 : Go.Ev.isAgg P t = some false) (h2 : Go.Ev.sizeOf P t = some 1) (ho : o < rlen h b) (hv : rat h b o = v) (hc : eqs v = true) : sameAt P t (.ptr b o) v h = true := by
  obtain ⟨n, zl, z, cs, hg⟩ := isRow_pos (h := h) (b := b) (by omega)
  rw [rlen_get hg] at ho
  rw [rat_get hg] at hv
  have e3 : Nat.ble (Nat.succ o) n = true := ble_t ho
  have e : (loadK P t).run (.ptr b o) h = some v := by simp only [loadK, h1, h2, hg, e3, cond_true, hv]
  unfold sameAt
  rw [e]
  exact eqAV_self hc
theorem same_k {t : TypeId} {b o k : Nat} {cs : List AV} {h : T AO} (h1 : Go.Ev.isAgg P t = some true) (h2 : Go.Ev.sizeOf P t = some k) (hk : 0 < k) (ho : o + k ≤ rlen h b) (hv : rats h b o k = cs) (hc : cs.all eqs = true) : sameAt P t (.ptr b o) (.agg cs) h = true := by
  obtain ⟨n, zl, z, cs', hg⟩ := isRow_pos (h := h) (b := b) (by omega)
  rw [rlen_get hg] at ho
  have e3 : Nat.ble (Nat.add o k) n = true := ble_t ho
  have e : (loadK P t).run (.ptr b o) h = some (.agg cs) := by
    simp only [loadK, h1, h2, hg, e3, cond_true]
    rw [← hv, rats_eq, rowCells_eq]
    congr 2
    refine List.map_congr_left fun i _ => ?_
    rw [rat_get hg]
  unfold sameAt
  rw [e]
  exact eqCells_self hc
noncomputable def held1 (P : Program) (t u : TypeId) (x y : TE) : Bool :=
  match x, y with
  | .rd a v, .wr pre post => sameAt P t a v pre && sameAt P t a v post
  | .rd _ _, .rd _ _ => false
  | .wr pre post, .rd a v => sameAt P u a v pre && sameAt P u a v post
  | .wr _ _, .wr _ _ => false
  | _, _ => true
theorem h_0 (t : TypeId) (x : TE) (tb : List TE) : (held P t x tb [] = true) = True := by simp [held]
theorem h_1 (t : TypeId) (x : TE) (tb : List TE) (k : Nat) (u : TypeId) (l : List (Nat × TypeId)) : (held P t x tb ((k, u) :: l) = true) = (held1 P t u x (lget .none tb k) = true ∧ held P t x tb l = true) := by
  have e : held P t x tb ((k, u) :: l) = cond (held1 P t u x (lget .none tb k)) (held P t x tb l) false := by
    show cond _ _ false = cond _ _ false
    congr 1
    unfold held1
    cases x <;> cases lget TE.none tb k <;> first | rfl | (simp only [Bool.cond_eq_ite]; split <;> simp [*])
  rw [e]
  cases held1 P t u x (lget .none tb k) <;> simp
theorem h_rw (t u : TypeId) (a v : AV) (pre post : T AO) : (held1 P t u (.rd a v) (.wr pre post) = true) = (sameAt P t a v pre = true ∧ sameAt P t a v post = true) := by simp [held1]
theorem h_wr (t u : TypeId) (a v : AV) (pre post : T AO) : (held1 P t u (.wr pre post) (.rd a v) = true) = (sameAt P u a v pre = true ∧ sameAt P u a v post = true) := by simp [held1]
theorem h_n1 (t u : TypeId) (y : TE) : (held1 P t u .none y = true) = True := by simp [held1]
theorem h_n2 (t u : TypeId) (x : TE) : (held1 P t u x .none = true) = True := by cases x <;> simp [held1]
section
variable {base : CallF}
theorem r_dops (l : List DStp) (L : Sl) (st : St) (Q : Out → Prop) : wC P base (.dops l) L st Q = wD P base l ⟨[], L⟩ [] st fun e st' => Q (.go e.g st') := nr rfl
theorem r_dnil (e : En) (tb : List TE) (st : St) (K : En → St → Prop) : wD P base [] e tb st K = K e st := nr rfl
theorem r_dcons0 (d : Option Nat) (kp : Bool) (k : IC) (te : Option (Option A)) (lt : TypeId) (prt : List (Nat × TypeId)) (l : List DStp) (e : En) (tb : List TE) (st : St) (K : En → St → Prop) :
    wD P base (⟨⟨d, kp, none, k⟩, te, lt, prt⟩ :: l) e tb st K = wK P base k e st fun v st' => held P lt (teW te e v st st') tb prt = true ∧ wD P base l (pushE d kp v e) (teW te e v st st' :: tb) st' K := nr rfl
theorem r_dcons1 (d : Option Nat) (kp : Bool) (x : Nat) (want : Bool) (k : IC) (te : Option (Option A)) (lt : TypeId) (prt : List (Nat × TypeId)) (l : List DStp) (e : En) (tb : List TE) (st : St) (K : En → St → Prop) :
    wD P base (⟨⟨d, kp, some (x, want), k⟩, te, lt, prt⟩ :: l) e tb st K = on1 e (.t x) fun v => onG v want (wK P base k e st fun v st' => held P lt (teW te e v st st') tb prt = true ∧ wD P base l (pushE d kp v e) (teW te e v st st' :: tb) st' K) (wD P base l (pushE d kp undefA e) (.none :: tb) st K) := nr rfl
end
theorem lg_0 (d x : TE) (l : List TE) : lget d (x :: l) 0 = x := nr rfl
theorem lg_S (d x : TE) (l : List TE) (n : Nat) : lget d (x :: l) (n + 1) = lget d l n := nr rfl
theorem te_0 (e : En) (v : AV) (st st' : St) : teW none e v st st' = .none := nr rfl
theorem te_1 (e : En) (v : AV) (st st' : St) : teW (some none) e v st st' = .wr st.h st'.h := nr rfl
theorem te_2 (a : A) (e : En) (v : AV) (st st' : St) : teW (some (some a)) e v st st' = .rd (vl e a) v := nr rfl
theorem vl_c (e : En) (v : AV) : vl e (.c v) = v := nr rfl
theorem vl_l (x : Nat) (v : AV) (l g : Sl) : vl ⟨(x, v) :: l, g⟩ (.t x) = v := by simp [vl, En.look, look_cons, En.has, has_cons]
theorem vl_ls {k x : Nat} (h : k ≠ x) (v : AV) (l g : Sl) : vl ⟨(k, v) :: l, g⟩ (.t x) = vl ⟨l, g⟩ (.t x) := by simp [vl, En.look, look_cons, En.has, has_cons, h]
theorem vl_g (x : Nat) (v : AV) (g : Sl) : vl ⟨[], (x, v) :: g⟩ (.t x) = v := by simp [vl, En.look, look_cons, En.has, has_cons, has]
theorem vl_gs {k x : Nat} (h : k ≠ x) (v : AV) (g : Sl) : vl ⟨[], (k, v) :: g⟩ (.t x) = vl ⟨[], g⟩ (.t x) := by simp [vl, En.look, look_cons, En.has, has_cons, has, h]
theorem vl_h {L : Sl} {x : Nat} {v : AV} (h : Has L x v) : vl ⟨[], L⟩ (.t x) = v := by
  obtain ⟨h1, h2⟩ := h
  simp [vl, En.has, En.look, has, h2]
end
/-! ### slices of slices -/
section
variable {P : Program} {base : CallF} {st : St} {K : AV → St → Prop} {e : En}
noncomputable def slSV (sz : Nat) (v : AV) (lo hi : Option AV) (st : St) : ER := match v with
      | .nils => optA lo 0 fun l => optA hi 0 fun h => cond (Nat.beq l 0) (cond (Nat.beq h 0) (.ok .nils st) .no) .no
      | .slice b o len cap sz' ex => optA lo 0 fun l => optA hi len fun h =>
          cond (Nat.beq sz' sz) (cond (Nat.ble l h) (cond (Nat.ble h cap) (force (Nat.sub h l) fun k => force (Nat.add o (Nat.mul l sz)) fun o => force (Nat.sub cap l) fun c => .ok (.slice b o k c sz ex) st) .no) .no) .no
      | _ => .no
theorem i_slS1 (sz : Nat) (x lo : A) : wK P base (.i (.slS sz x (some lo) none)) e st K = on1 e x fun v => on1 e lo fun l => onER (slSV sz v (some l) none st) K := k_2 (V := fun v l st => slSV sz v (some l) none st) rfl (fun _ => rfl) K
theorem i_slS2 (sz : Nat) (x hi : A) : wK P base (.i (.slS sz x none (some hi))) e st K = on1 e x fun v => on1 e hi fun h => onER (slSV sz v none (some h) st) K := k_2 (V := fun v h st => slSV sz v none (some h) st) rfl (fun _ => rfl) K
theorem i_slS3 (sz : Nat) (x lo hi : A) : wK P base (.i (.slS sz x (some lo) (some hi))) e st K = on1 e x fun v => on1 e lo fun l => on1 e hi fun h => onER (slSV sz v (some l) (some h) st) K := k_3 (V := fun v l h st => slSV sz v (some l) (some h) st) rfl (fun _ => rfl) K
theorem a_slS1 {b o n c sz l : Nat} {x : Bool} {k : IntKind} (h1 : l ≤ n) (h2 : n ≤ c) : onER (slSV sz (.slice b o n c sz x) (some (.int k (l : Int))) none st) K = K (.slice b (o + l * sz) (n - l) (c - l) sz x) st := by
  have e1 : Nat.beq sz sz = true := beq_t rfl
  simp only [slSV, optA, onNat_n, e1, ble_t h1, ble_t h2, cond_true, force_eq, onER]; rfl
theorem a_slS2 {b o n c sz h : Nat} {x : Bool} {k : IntKind} (h2 : h ≤ c) : onER (slSV sz (.slice b o n c sz x) none (some (.int k (h : Int))) st) K = K (.slice b o h c sz x) st := by
  have e1 : Nat.beq sz sz = true := beq_t rfl
  simp only [slSV, optA, onNat_n, e1, ble_t (Nat.zero_le h), ble_t h2, cond_true, force_eq, onER]
  rw [show Nat.add o (Nat.mul 0 sz) = o by show o + 0 * sz = o; omega]; rfl
theorem a_slS3 {b o n c sz l h : Nat} {x : Bool} {k k' : IntKind} (h1 : l ≤ h) (h2 : h ≤ c) : onER (slSV sz (.slice b o n c sz x) (some (.int k (l : Int))) (some (.int k' (h : Int))) st) K = K (.slice b (o + l * sz) (h - l) (c - l) sz x) st := by
  have e1 : Nat.beq sz sz = true := beq_t rfl
  simp only [slSV, optA, onNat_n, e1, ble_t h1, ble_t h2, cond_true, force_eq, onER]; rfl
theorem a_slSo {b o n c sz : Nat} {x : Bool} {k : IntKind} (h1 : 1 ≤ n) (h2 : n ≤ c) : onER (slSV sz (.slice b o n c sz x) (some (.int k 1)) none st) K = K (.slice b (o + sz) (n - 1) (c - 1) sz x) st := by
  have := a_slS1 (st := st) (K := K) (b := b) (o := o) (c := c) (sz := sz) (x := x) (k := k) h1 h2
  rw [Nat.one_mul] at this
  exact this
theorem v_idxS0 {b o n c z : Nat} {x : Bool} (h : 0 < n) (s : Nat) (k : IntKind) : onER (idxSV s (.slice b o n c z x) (.int k 0) st) K = K (.ptr b o) st := by
  have := v_idxS (b := b) (o := o) (c := c) (z := z) (x := x) (i := 0) h s k (st := st) (K := K)
  rw [Nat.zero_mul, Nat.add_zero] at this
  exact this
end
end Go.Sy

namespace Go.Sy
open Go.Ev
theorem rRd : type_of% (And.intro (@v_dec2) (And.intro (@v_fad) (And.intro (@v_nilc) (And.intro (@v_ext0) (And.intro (@v_ext1) (And.intro (@v_quo2) (And.intro (@v_rem2) (And.intro (@v_cvt32) (And.intro (@v_cvt64) (And.intro (@i_mkS) (And.intro (@i_alloc) (And.intro (@i_mkM) (And.intro (@i_app) (And.intro (@v_dec) (And.intro (@v_dbl) (And.intro (@v_neg) (And.intro (@v_shl1) (And.intro (@v_shr) (And.intro (@r_skip) (And.intro (@r_ops) (And.intro (@r_seq) (And.intro (@r_block) (And.intro (@r_exit) (And.intro (@r_ret) (And.intro (@r_condo) (And.intro (@r_seqgo) (And.intro (@r_seqex) (And.intro (@r_seqrt) (And.intro (@r_blockgo) (And.intro (@r_blockrt) (And.intro (@r_blockex) (And.intro (@r_blockne) (And.intro (@r_condt) (And.intro (@r_condf) (And.intro (@r_nil) (And.intro (@r_cons0) (And.intro (@r_cons1) (And.intro (@r_gtt) (And.intro (@r_gtf) (@r_gft)))))))))))))))))))))))))))))))))))))))) := And.intro (@v_dec2) (And.intro (@v_fad) (And.intro (@v_nilc) (And.intro (@v_ext0) (And.intro (@v_ext1) (And.intro (@v_quo2) (And.intro (@v_rem2) (And.intro (@v_cvt32) (And.intro (@v_cvt64) (And.intro (@i_mkS) (And.intro (@i_alloc) (And.intro (@i_mkM) (And.intro (@i_app) (And.intro (@v_dec) (And.intro (@v_dbl) (And.intro (@v_neg) (And.intro (@v_shl1) (And.intro (@v_shr) (And.intro (@r_skip) (And.intro (@r_ops) (And.intro (@r_seq) (And.intro (@r_block) (And.intro (@r_exit) (And.intro (@r_ret) (And.intro (@r_condo) (And.intro (@r_seqgo) (And.intro (@r_seqex) (And.intro (@r_seqrt) (And.intro (@r_blockgo) (And.intro (@r_blockrt) (And.intro (@r_blockex) (And.intro (@r_blockne) (And.intro (@r_condt) (And.intro (@r_condf) (And.intro (@r_nil) (And.intro (@r_cons0) (And.intro (@r_cons1) (And.intro (@r_gtt) (And.intro (@r_gtf) (@r_gft)))))))))))))))))))))))))))))))))))))))
theorem rRe : type_of% (And.intro (@r_gff) (And.intro (@r_gu) (And.intro (@r_onc) (And.intro (@r_onl) (And.intro (@r_onls) (And.intro (@r_ong) (And.intro (@r_ongs) (And.intro (@r_push0) (And.intro (@r_push1) (And.intro (@r_push2) (And.intro (@r_as0) (And.intro (@r_as1) (And.intro (@r_endrt) (And.intro (@r_endgo) (And.intro (@r_res0) (And.intro (@r_res1) (And.intro (@r_one1) (And.intro (@r_one2) (And.intro (@r_one3) (And.intro (@i_mv) (And.intro (@i_pick) (And.intro (@i_box) (And.intro (@i_ld1) (And.intro (@i_ldA) (And.intro (@i_st) (And.intro (@i_nilc) (And.intro (@i_bin) (And.intro (@i_shf) (And.intro (@i_strb) (And.intro (@i_gen) (And.intro (@i_un) (And.intro (@i_cvt) (And.intro (@i_fad) (And.intro (@i_fld1) (And.intro (@i_fldA) (And.intro (@i_idxA) (And.intro (@i_idxS) (And.intro (@i_ixA1) (And.intro (@i_ixStr) (@i_ext)))))))))))))))))))))))))))))))))))))))) := And.intro (@r_gff) (And.intro (@r_gu) (And.intro (@r_onc) (And.intro (@r_onl) (And.intro (@r_onls) (And.intro (@r_ong) (And.intro (@r_ongs) (And.intro (@r_push0) (And.intro (@r_push1) (And.intro (@r_push2) (And.intro (@r_as0) (And.intro (@r_as1) (And.intro (@r_endrt) (And.intro (@r_endgo) (And.intro (@r_res0) (And.intro (@r_res1) (And.intro (@r_one1) (And.intro (@r_one2) (And.intro (@r_one3) (And.intro (@i_mv) (And.intro (@i_pick) (And.intro (@i_box) (And.intro (@i_ld1) (And.intro (@i_ldA) (And.intro (@i_st) (And.intro (@i_nilc) (And.intro (@i_bin) (And.intro (@i_shf) (And.intro (@i_strb) (And.intro (@i_gen) (And.intro (@i_un) (And.intro (@i_cvt) (And.intro (@i_fad) (And.intro (@i_fld1) (And.intro (@i_fldA) (And.intro (@i_idxA) (And.intro (@i_idxS) (And.intro (@i_ixA1) (And.intro (@i_ixStr) (@i_ext)))))))))))))))))))))))))))))))))))))))
theorem rRf : type_of% (And.intro (@i_len) (And.intro (@i_lenS) (And.intro (@i_slStr1) (And.intro (@i_slStr2) (And.intro (@i_slStr3) (And.intro (@i_call) (And.intro (@v_ok) (And.intro (@v_pickt) (And.intro (@v_pickf) (And.intro (@v_not) (And.intro (@v_lss_t) (And.intro (@v_lss_f) (And.intro (@v_gtr_t) (And.intro (@v_gtr_f) (And.intro (@v_leq_t) (And.intro (@v_leq_f) (And.intro (@v_geq_t) (And.intro (@v_geq_f) (And.intro (@v_eql_t) (And.intro (@v_eql_f) (And.intro (@v_neq_t) (And.intro (@v_neq_f) (And.intro (@v_streq_t) (And.intro (@v_streq_f) (And.intro (@v_lenS) (And.intro (@v_len) (And.intro (@v_len0) (And.intro (@v_ixStr) (And.intro (@v_ixStr0) (And.intro (@v_idxS) (And.intro (@v_ld1) (And.intro (@bare_bare) (And.intro (@back_self) (And.intro (@back_bare) (And.intro (@c_call0) (And.intro (@c_callc) (And.intro (@bk_back) (@bk_bare)))))))))))))))))))))))))))))))))))))) := And.intro (@i_len) (And.intro (@i_lenS) (And.intro (@i_slStr1) (And.intro (@i_slStr2) (And.intro (@i_slStr3) (And.intro (@i_call) (And.intro (@v_ok) (And.intro (@v_pickt) (And.intro (@v_pickf) (And.intro (@v_not) (And.intro (@v_lss_t) (And.intro (@v_lss_f) (And.intro (@v_gtr_t) (And.intro (@v_gtr_f) (And.intro (@v_leq_t) (And.intro (@v_leq_f) (And.intro (@v_geq_t) (And.intro (@v_geq_f) (And.intro (@v_eql_t) (And.intro (@v_eql_f) (And.intro (@v_neq_t) (And.intro (@v_neq_f) (And.intro (@v_streq_t) (And.intro (@v_streq_f) (And.intro (@v_lenS) (And.intro (@v_len) (And.intro (@v_len0) (And.intro (@v_ixStr) (And.intro (@v_ixStr0) (And.intro (@v_idxS) (And.intro (@v_ld1) (And.intro (@bare_bare) (And.intro (@back_self) (And.intro (@back_bare) (And.intro (@c_call0) (And.intro (@c_callc) (And.intro (@bk_back) (@bk_bare)))))))))))))))))))))))))))))))))))))
theorem rRm : type_of% (And.intro (@a_new) (And.intro (@a_box) (And.intro (@a_st) (And.intro (@a_ldA) (And.intro (@rats_nwE) (And.intro (@rats_nwO) (And.intro (@rats_wr) (And.intro (@rats_wrO) (And.intro (@upd_nil) (And.intro (@upd_00) (And.intro (@upd_0) (And.intro (@upd_S) (And.intro (@upd_e) (And.intro (@nx_nw) (And.intro (@nx_wr) (And.intro (@nx_ap) (And.intro (@nx_bare) (And.intro (@h_bare) (And.intro (@len_nwE) (And.intro (@len_nwO) (And.intro (@len_wr) (And.intro (@at_nwE) (And.intro (@at_nwO) (And.intro (@at_wr) (And.intro (@at_wrB) (And.intro (@at_wrA) (And.intro (@at_wrO) (And.intro (@cells_agg) (And.intro (@cells_int) (And.intro (@cells_str) (And.intro (@cells_bool) (And.intro (@cells_slice) (And.intro (@cells_nils) (And.intro (@cells_ptr) (And.intro (@a_build0) (And.intro (@a_buildc) (And.intro (@a_bS) (And.intro (@a_bS0) (And.intro (@a_bSc) (@rep_0)))))))))))))))))))))))))))))))))))))))) := And.intro (@a_new) (And.intro (@a_box) (And.intro (@a_st) (And.intro (@a_ldA) (And.intro (@rats_nwE) (And.intro (@rats_nwO) (And.intro (@rats_wr) (And.intro (@rats_wrO) (And.intro (@upd_nil) (And.intro (@upd_00) (And.intro (@upd_0) (And.intro (@upd_S) (And.intro (@upd_e) (And.intro (@nx_nw) (And.intro (@nx_wr) (And.intro (@nx_ap) (And.intro (@nx_bare) (And.intro (@h_bare) (And.intro (@len_nwE) (And.intro (@len_nwO) (And.intro (@len_wr) (And.intro (@at_nwE) (And.intro (@at_nwO) (And.intro (@at_wr) (And.intro (@at_wrB) (And.intro (@at_wrA) (And.intro (@at_wrO) (And.intro (@cells_agg) (And.intro (@cells_int) (And.intro (@cells_str) (And.intro (@cells_bool) (And.intro (@cells_slice) (And.intro (@cells_nils) (And.intro (@cells_ptr) (And.intro (@a_build0) (And.intro (@a_buildc) (And.intro (@a_bS) (And.intro (@a_bS0) (And.intro (@a_bSc) (@rep_0)))))))))))))))))))))))))))))))))))))))
theorem rRn : type_of% (And.intro (@rep_S) (And.intro (@i_buildP) (And.intro (@i_buildSP) (And.intro (@r_ps0) (And.intro (@r_ps1) (And.intro (@fr_nw) (And.intro (@fr_wr) (And.intro (@fr_ap) (And.intro (@fr_bare) (And.intro (@i_fnA) (And.intro (@i_slS1) (And.intro (@i_slS2) (And.intro (@i_slS3) (And.intro (@v_idxS0) (And.intro (@v_iface) (And.intro (@r_resA) (And.intro (@r_dops) (And.intro (@r_dnil) (And.intro (@r_dcons0) (And.intro (@r_dcons1) (And.intro (@h_0) (And.intro (@h_1) (And.intro (@h_rw) (And.intro (@h_wr) (And.intro (@h_n1) (And.intro (@h_n2) (And.intro (@lg_0) (And.intro (@lg_S) (And.intro (@te_0) (And.intro (@te_1) (And.intro (@te_2) (And.intro (@vl_c) (And.intro (@vl_l) (And.intro (@vl_ls) (And.intro (@vl_g) (And.intro (@vl_gs) (And.intro (@true_and) (And.intro (@and_true) (@and_self))))))))))))))))))))))))))))))))))))))) := And.intro (@rep_S) (And.intro (@i_buildP) (And.intro (@i_buildSP) (And.intro (@r_ps0) (And.intro (@r_ps1) (And.intro (@fr_nw) (And.intro (@fr_wr) (And.intro (@fr_ap) (And.intro (@fr_bare) (And.intro (@i_fnA) (And.intro (@i_slS1) (And.intro (@i_slS2) (And.intro (@i_slS3) (And.intro (@v_idxS0) (And.intro (@v_iface) (And.intro (@r_resA) (And.intro (@r_dops) (And.intro (@r_dnil) (And.intro (@r_dcons0) (And.intro (@r_dcons1) (And.intro (@h_0) (And.intro (@h_1) (And.intro (@h_rw) (And.intro (@h_wr) (And.intro (@h_n1) (And.intro (@h_n2) (And.intro (@lg_0) (And.intro (@lg_S) (And.intro (@te_0) (And.intro (@te_1) (And.intro (@te_2) (And.intro (@vl_c) (And.intro (@vl_l) (And.intro (@vl_ls) (And.intro (@vl_g) (And.intro (@vl_gs) (And.intro (@true_and) (And.intro (@and_true) (@and_self))))))))))))))))))))))))))))))))))))))
theorem rRx : type_of% (And.intro (@x_skip) (And.intro (@x_ops) (And.intro (@x_cops) (And.intro (@x_dops) (And.intro (@x_seq) (And.intro (@x_block) (And.intro (@x_exit) (And.intro (@x_ret) (And.intro (@x_cond) (And.intro (@x_nil) (And.intro (@x_cons0) (And.intro (@x_cons1) (And.intro (@x_cnil) (And.intro (@x_ccons0) (And.intro (@x_ccons1) (And.intro (@x_dnil) (And.intro (@x_dcons0) (And.intro (@x_dcons1) (And.intro (@x_flag0) (And.intro (@x_i) (And.intro (@x_call) (And.intro (@x_pan) (And.intro (@x_defer) (And.intro (@xb_call0) (And.intro (@xb_callc) (And.intro (@x_panv) (And.intro (@x_deferv) (And.intro (@x_leave0) (And.intro (@x_leaveP) (And.intro (@x_leave1) (And.intro (@x_endgo) (And.intro (@x_endrt) (@x_endp))))))))))))))))))))))))))))))))) := And.intro (@x_skip) (And.intro (@x_ops) (And.intro (@x_cops) (And.intro (@x_dops) (And.intro (@x_seq) (And.intro (@x_block) (And.intro (@x_exit) (And.intro (@x_ret) (And.intro (@x_cond) (And.intro (@x_nil) (And.intro (@x_cons0) (And.intro (@x_cons1) (And.intro (@x_cnil) (And.intro (@x_ccons0) (And.intro (@x_ccons1) (And.intro (@x_dnil) (And.intro (@x_dcons0) (And.intro (@x_dcons1) (And.intro (@x_flag0) (And.intro (@x_i) (And.intro (@x_call) (And.intro (@x_pan) (And.intro (@x_defer) (And.intro (@xb_call0) (And.intro (@xb_callc) (And.intro (@x_panv) (And.intro (@x_deferv) (And.intro (@x_leave0) (And.intro (@x_leaveP) (And.intro (@x_leave1) (And.intro (@x_endgo) (And.intro (@x_endrt) (@x_endp))))))))))))))))))))))))))))))))
theorem rRu : type_of% (And.intro (@nx_nw) (And.intro (@nx_wr) (And.intro (@nx_ap) (And.intro (@nx_bare) (And.intro (@h_bare) (And.intro (@len_nwE) (And.intro (@len_nwO) (And.intro (@len_wr) (And.intro (@cells_agg) (And.intro (@cells_int) (And.intro (@cells_str) (And.intro (@cells_bool) (And.intro (@cells_slice) (And.intro (@cells_nils) (And.intro (@cells_ptr) (And.intro (@lall_int) (And.intro (@lall_str) (And.intro (@lall_bool) (And.intro (@lall_slice) (And.intro (@lall_nils) (And.intro (@lall_ptr) (And.intro (@lall_nil) (And.intro (@plain_int) (And.intro (@plain_str) (And.intro (@plain_bool) (And.intro (@plain_slice) (And.intro (@plain_nils) (And.intro (@plain_ptr) (@plain_agg))))))))))))))))))))))))))))) := And.intro (@nx_nw) (And.intro (@nx_wr) (And.intro (@nx_ap) (And.intro (@nx_bare) (And.intro (@h_bare) (And.intro (@len_nwE) (And.intro (@len_nwO) (And.intro (@len_wr) (And.intro (@cells_agg) (And.intro (@cells_int) (And.intro (@cells_str) (And.intro (@cells_bool) (And.intro (@cells_slice) (And.intro (@cells_nils) (And.intro (@cells_ptr) (And.intro (@lall_int) (And.intro (@lall_str) (And.intro (@lall_bool) (And.intro (@lall_slice) (And.intro (@lall_nils) (And.intro (@lall_ptr) (And.intro (@lall_nil) (And.intro (@plain_int) (And.intro (@plain_str) (And.intro (@plain_bool) (And.intro (@plain_slice) (And.intro (@plain_nils) (And.intro (@plain_ptr) (@plain_agg))))))))))))))))))))))))))))
end Go.Sy

section
set_option maxRecDepth 100000
namespace Go.Sy
open Go.Ev Go.Proofs
def b15 : Cmd := (.seq (.ops [⟨(some 2), true, none, (.i (.alloc [(.int .i64 0), (.str []), (.int .i64 0), (.int .i64 0), (.int .i64 0)]))⟩]) (.seq (.ops [⟨(some 3), false, none, (.i (.mv (.t 0)))⟩, ⟨(some 4), false, none, (.i (.nilc (.t 3)))⟩, ⟨(some 5), false, none, (.i (.fad 0 (.t 4)))⟩, ⟨(some 6), false, none, (.i (.ld1 (.t 5)))⟩, ⟨(some 7), false, none, (.i (.mv (.t 0)))⟩, ⟨(some 8), false, none, (.i (.nilc (.t 7)))⟩, ⟨(some 9), false, none, (.i (.fad 1 (.t 8)))⟩, ⟨(some 10), false, none, (.i (.ld1 (.t 9)))⟩, ⟨(some 11), false, none, (.i (.idxS 5 (.t 6) (.t 10)))⟩, ⟨(some 12), false, none, (.i (.ldA 5 (.t 11)))⟩, ⟨none, false, none, (.i (.st 5 (.t 2) (.t 12)))⟩]) .ret))
def c15 : FD := ⟨[0], b15, [(.cA 2 5)]⟩
theorem l15 : lowF Tryd.prog 15 = some c15 := by kernel_rfl
def b32 : Cmd := (.seq (.ops [⟨(some 4), true, none, (.i (.alloc [(.int .i64 0), (.str []), (.int .i64 0), (.int .i64 0), (.int .i64 0)]))⟩, ⟨(some 5), true, none, (.i (.mv (.c (.bool false))))⟩]) (.seq (.ops [⟨(some 7), false, none, (.i (.mv (.t 0)))⟩, ⟨(some 8), false, none, (.call (.c (.fn 15 [])) [(.t 7)])⟩, ⟨(some 6), true, none, (.i (.alloc [(.int .i64 0), (.str []), (.int .i64 0), (.int .i64 0), (.int .i64 0)]))⟩, ⟨none, false, none, (.i (.st 5 (.t 6) (.t 8)))⟩]) (.seq (.seq (.ops [⟨(some 9), false, none, (.i (.ldA 5 (.t 6)))⟩, ⟨(some 10), false, none, (.i (.mv (.t 1)))⟩, ⟨(some 11), false, none, (.call (.c (.fn 53 [])) [(.t 9), (.t 10)])⟩, ⟨(some 12), true, none, (.i (.un .not (.t 11)))⟩]) (.cond (.t 12) (.seq (.ops [⟨(some 13), false, none, (.i (.ldA 5 (.t 6)))⟩, ⟨none, false, none, (.i (.st 5 (.t 4) (.t 13)))⟩, ⟨(some 5), true, none, (.i (.mv (.c (.bool false))))⟩]) .ret) .skip)) (.seq (.ops [⟨(some 14), false, none, (.i (.mv (.t 0)))⟩, ⟨(some 15), false, none, (.i (.nilc (.t 14)))⟩, ⟨(some 16), false, none, (.i (.fad 1 (.t 15)))⟩, ⟨(some 17), false, none, (.i (.ld1 (.t 16)))⟩, ⟨(some 18), false, none, (.i (.bin .add (.t 17) (.c (.int .i64 1))))⟩, ⟨(some 19), false, none, (.i (.nilc (.t 14)))⟩, ⟨(some 20), false, none, (.i (.fad 1 (.t 19)))⟩, ⟨none, false, none, (.i (.st 1 (.t 20) (.t 18)))⟩]) (.seq (.ops [⟨(some 21), false, none, (.i (.ldA 5 (.t 6)))⟩, ⟨none, false, none, (.i (.st 5 (.t 4) (.t 21)))⟩, ⟨(some 5), true, none, (.i (.mv (.c (.bool true))))⟩]) .ret)))))
def c32 : FD := ⟨[0, 1], b32, [(.cA 4 5), (.t 5)]⟩
theorem l32 : lowF Tryd.prog 32 = some c32 := by kernel_rfl
def b53 : Cmd := (.seq (.ops [⟨(some 2), true, none, (.i (.box (.t 0)))⟩, ⟨(some 4), true, none, (.i (.mv (.c (.bool false))))⟩]) (.seq (.ops [⟨(some 5), false, none, (.i (.fad 0 (.t 2)))⟩, ⟨(some 6), false, none, (.i (.ld1 (.t 5)))⟩, ⟨(some 7), false, none, (.i (.bin .eql (.t 6) (.c (.int .i64 3))))⟩, ⟨(some 8), false, none, (.i (.mv (.t 7)))⟩, ⟨(some 9), false, (some (8, false)), (.i (.fad 0 (.t 2)))⟩, ⟨(some 10), false, (some (8, false)), (.i (.ld1 (.t 9)))⟩, ⟨(some 11), false, (some (8, false)), (.i (.bin .eql (.t 10) (.c (.int .i64 4))))⟩, ⟨(some 12), false, none, (.i (.pick (.t 8) (.c (.bool true)) (.t 11)))⟩, ⟨(some 13), false, none, (.i (.mv (.t 12)))⟩, ⟨(some 14), false, (some (13, true)), (.i (.mv (.t 1)))⟩, ⟨(some 15), false, (some (13, true)), (.i (.fad 1 (.t 2)))⟩, ⟨(some 16), false, (some (13, true)), (.i (.ld1 (.t 15)))⟩, ⟨(some 17), false, (some (13, true)), (.call (.c (.fn 73 [])) [(.t 14), (.t 16)])⟩, ⟨(some 18), false, none, (.i (.pick (.t 13) (.t 17) (.c (.bool false))))⟩, ⟨(some 4), true, none, (.i (.mv (.t 18)))⟩]) .ret))
def c53 : FD := ⟨[0, 1], b53, [(.t 4)]⟩
theorem l53 : lowF Tryd.prog 53 = some c53 := by kernel_rfl
def b73 : Cmd := (.seq (.ops [⟨(some 4), true, none, (.i (.mv (.c (.bool false))))⟩]) (.seq (.ops [⟨(some 5), false, none, (.i (.mv (.t 0)))⟩, ⟨(some 6), false, none, (.i (.mv (.t 1)))⟩, ⟨(some 7), false, none, (.call (.c (.fn 82 [])) [(.t 5), (.t 6)])⟩, ⟨(some 8), false, none, (.i (.bin .geq (.t 7) (.c (.int .i64 0))))⟩, ⟨(some 4), true, none, (.i (.mv (.t 8)))⟩]) .ret))
def c73 : FD := ⟨[0, 1], b73, [(.t 4)]⟩
theorem l73 : lowF Tryd.prog 73 = some c73 := by kernel_rfl
def b82 : Cmd := (.seq (.ops [⟨(some 4), true, none, (.i (.mv (.c (.int .i64 0))))⟩]) (.seq (.seq (.ops [⟨(some 6), false, none, (.i (.mv (.t 0)))⟩, ⟨(some 7), true, none, (.i (.len (.t 6)))⟩, ⟨(some 8), true, none, (.i (.mv (.c (.int .i64 0))))⟩]) (.block 0 (.loop (.seq (.ops [⟨(some 9), true, none, (.i (.bin .lss (.t 8) (.t 7)))⟩]) (.seq (.cond (.t 9) .skip (.exit 0)) (.seq (.block 1 (.seq (.ops [⟨(some 10), false, none, (.i (.mv (.t 8)))⟩, ⟨(some 5), true, none, (.i (.mv (.t 10)))⟩]) (.seq (.ops [⟨(some 11), false, none, (.i (.mv (.t 1)))⟩, ⟨(some 12), false, none, (.i (.mv (.t 0)))⟩, ⟨(some 13), false, none, (.i (.mv (.t 5)))⟩, ⟨(some 14), false, none, (.i (.idxS 1 (.t 12) (.t 13)))⟩, ⟨(some 15), false, none, (.i (.ld1 (.t 14)))⟩, ⟨(some 16), true, none, (.i (.strb .eql (.t 11) (.t 15)))⟩]) (.cond (.t 16) (.seq (.ops [⟨(some 17), false, none, (.i (.mv (.t 5)))⟩, ⟨(some 4), true, none, (.i (.mv (.t 17)))⟩]) .ret) .skip)))) (.ops [⟨(some 18), false, none, (.i (.bin .add (.t 8) (.c (.int .i64 1))))⟩, ⟨(some 8), true, none, (.i (.mv (.t 18)))⟩]))))))) (.seq (.ops [⟨(some 4), true, none, (.i (.mv (.c (.int .i64 (-(0+1))))))⟩]) .ret)))
def c82 : FD := ⟨[0, 1], b82, [(.t 4)]⟩
theorem l82 : lowF Tryd.prog 82 = some c82 := by kernel_rfl
def b28 : Cmd := (.seq (.ops [⟨(some 0), true, none, (.i (.mv (.c .nils)))⟩]) (.seq (.ops [⟨(some 1), false, none, (.i (.buildS 1 1 [(.str [])] [((0, 1), (.c (.str [60, 45, 62])))]))⟩, ⟨(some 2), false, none, (.i (.build [.nils, (.int .i64 0)] [((0, 1), (.t 1)), ((1, 1), (.c (.int .i64 0)))]))⟩, ⟨(some 3), false, none, (.i (.buildS 1 1 [(.str [])] [((0, 1), (.c (.str [45, 62])))]))⟩, ⟨(some 4), false, none, (.i (.build [.nils, (.int .i64 0)] [((0, 1), (.t 3)), ((1, 1), (.c (.int .i64 1)))]))⟩, ⟨(some 5), false, none, (.i (.buildS 1 1 [(.str [])] [((0, 1), (.c (.str [124])))]))⟩, ⟨(some 6), false, none, (.i (.build [.nils, (.int .i64 0)] [((0, 1), (.t 5)), ((1, 1), (.c (.int .i64 0)))]))⟩, ⟨(some 7), false, none, (.i (.buildS 1 1 [(.str [])] [((0, 1), (.c (.str [38])))]))⟩, ⟨(some 8), false, none, (.i (.build [.nils, (.int .i64 0)] [((0, 1), (.t 7)), ((1, 1), (.c (.int .i64 0)))]))⟩, ⟨(some 9), false, none, (.i (.buildS 4 1 [(.str [])] [((0, 1), (.c (.str [85]))), ((1, 1), (.c (.str [82]))), ((2, 1), (.c (.str [83]))), ((3, 1), (.c (.str [84])))]))⟩, ⟨(some 10), false, none, (.i (.build [.nils, (.int .i64 0)] [((0, 1), (.t 9)), ((1, 1), (.c (.int .i64 1)))]))⟩, ⟨(some 11), false, none, (.i (.buildS 6 1 [(.str [])] [((0, 1), (.c (.str [61]))), ((1, 1), (.c (.str [33, 61]))), ((2, 1), (.c (.str [60]))), ((3, 1), (.c (.str [60, 61]))), ((4, 1), (.c (.str [62]))), ((5, 1), (.c (.str [62, 61])))]))⟩, ⟨(some 12), false, none, (.i (.build [.nils, (.int .i64 0)] [((0, 1), (.t 11)), ((1, 1), (.c (.int .i64 2)))]))⟩, ⟨(some 13), false, none, (.i (.buildS 2 1 [(.str [])] [((0, 1), (.c (.str [43]))), ((1, 1), (.c (.str [45])))]))⟩, ⟨(some 14), false, none, (.i (.build [.nils, (.int .i64 0)] [((0, 1), (.t 13)), ((1, 1), (.c (.int .i64 0)))]))⟩, ⟨(some 15), false, none, (.i (.buildS 1 1 [(.str [])] [((0, 1), (.c (.str [42])))]))⟩, ⟨(some 16), false, none, (.i (.build [.nils, (.int .i64 0)] [((0, 1), (.t 15)), ((1, 1), (.c (.int .i64 0)))]))⟩, ⟨(some 17), false, none, (.i (.buildS 8 2 [.nils, (.int .i64 0)] [((0, 2), (.t 2)), ((2, 2), (.t 4)), ((4, 2), (.t 6)), ((6, 2), (.t 8)), ((8, 2), (.t 10)), ((10, 2), (.t 12)), ((12, 2), (.t 14)), ((14, 2), (.t 16))]))⟩, ⟨(some 0), true, none, (.i (.mv (.t 17)))⟩]) .ret))
def c28 : FD := ⟨[], b28, [(.t 0)]⟩
theorem l28 : lowF Tryd.prog 28 = some c28 := by kernel_rfl
def b49 : Cmd := (.seq (.ops [⟨(some 3), true, none, (.i (.box (.t 0)))⟩, ⟨(some 4), true, none, (.i (.box (.t 1)))⟩, ⟨(some 5), true, none, (.i (.box (.t 2)))⟩, ⟨(some 6), true, none, (.i (.alloc [(.int .i64 0), (.int .i64 0), (.str []), .nils, (.int .i64 0), (.int .i64 0)]))⟩]) (.seq (.seq (.ops [⟨(some 7), true, none, (.i (.mv (.c (.int .i64 14))))⟩]) (.block 0 (.loop (.seq (.seq (.ops [⟨(some 8), false, none, (.i (.mv (.t 7)))⟩, ⟨(some 9), true, none, (.i (.bin .lss (.t 8) (.c (.int .i64 31))))⟩]) (.cond (.t 9) .skip (.exit 0))) (.seq (.block 1 (.seq (.dops [⟨⟨(some 12), false, none, (.i (.mv (.t 7)))⟩, none, 0, []⟩, ⟨⟨(some 13), false, none, (.call (.c (.fn 65 [])) [(.t 12)])⟩, (some none), 0, []⟩, ⟨⟨(some 14), false, none, (.i (.fad 1 (.t 3)))⟩, none, 0, []⟩, ⟨⟨(some 15), false, none, (.i (.ld1 (.t 14)))⟩, (some (some (.t 14))), 9, [(1, 0)]⟩, ⟨⟨(some 16), true, none, (.i (.strb .eql (.t 13) (.t 15)))⟩, none, 0, []⟩]) (.cond (.t 16) (.seq (.ops [⟨(some 17), false, none, (.i (.mv (.t 7)))⟩, ⟨(some 18), false, none, (.i (.ldA 6 (.t 4)))⟩, ⟨(some 19), false, none, (.i (.ldA 6 (.t 5)))⟩, ⟨(some 20), false, none, (.i (.buildS 2 6 [(.int .i64 0), (.int .i64 0), (.str []), .nils, (.int .i64 0), (.int .i64 0)] [((0, 6), (.t 18)), ((6, 6), (.t 19))]))⟩, ⟨(some 21), false, none, (.i (.fad 3 (.t 3)))⟩, ⟨(some 22), false, none, (.i (.ld1 (.t 21)))⟩, ⟨(some 23), false, none, (.i (.fad 4 (.t 3)))⟩, ⟨(some 24), false, none, (.i (.ld1 (.t 23)))⟩, ⟨(some 25), false, none, (.i (.build [(.int .i64 0), (.int .i64 0), (.str []), .nils, (.int .i64 0), (.int .i64 0)] [((0, 1), (.t 17)), ((3, 1), (.t 20)), ((4, 1), (.t 22)), ((5, 1), (.t 24))]))⟩, ⟨none, false, none, (.i (.st 6 (.t 6) (.t 25)))⟩]) .ret) .skip))) (.ops [⟨(some 10), false, none, (.i (.mv (.t 7)))⟩, ⟨(some 11), false, none, (.i (.bin .add (.t 10) (.c (.int .i64 1))))⟩, ⟨(some 7), true, none, (.i (.mv (.t 11)))⟩])))))) (.seq (.ops [⟨(some 26), false, none, (.i (.build [(.int .i64 0), (.int .i64 0), (.str []), .nils, (.int .i64 0), (.int .i64 0)] []))⟩, ⟨none, false, none, (.i (.st 6 (.t 6) (.t 26)))⟩]) .ret)))
def c49 : FD := ⟨[0, 1, 2], b49, [(.cA 6 6)]⟩
theorem l49 : lowF Tryd.prog 49 = some c49 := by kernel_rfl
def b65 : Cmd := (.seq (.ops [⟨(some 2), true, none, (.i (.mv (.c (.str []))))⟩]) (.seq (.ops [⟨(some 4), false, none, (.i (.build [(.str []), (.str []), (.str []), (.str []), (.str []), (.str []), (.str []), (.str []), (.str []), (.str []), (.str []), (.str []), (.str []), (.str []), (.str []), (.str []), (.str []), (.str []), (.str []), (.str []), (.str []), (.str []), (.str []), (.str []), (.str []), (.str [])] [((0, 1), (.c (.str [45]))), ((1, 1), (.c (.str [33]))), ((2, 1), (.c (.str [88]))), ((3, 1), (.c (.str [70]))), ((4, 1), (.c (.str [71]))), ((5, 1), (.c (.str [89]))), ((6, 1), (.c (.str [90]))), ((7, 1), (.c (.str [79]))), ((8, 1), (.c (.str [72]))), ((9, 1), (.c (.str [42]))), ((10, 1), (.c (.str [43]))), ((11, 1), (.c (.str [45]))), ((12, 1), (.c (.str [61]))), ((13, 1), (.c (.str [33, 61]))), ((14, 1), (.c (.str [60]))), ((15, 1), (.c (.str [60, 61]))), ((16, 1), (.c (.str [62]))), ((17, 1), (.c (.str [62, 61]))), ((18, 1), (.c (.str [85]))), ((19, 1), (.c (.str [82]))), ((20, 1), (.c (.str [83]))), ((21, 1), (.c (.str [84]))), ((22, 1), (.c (.str [38]))), ((23, 1), (.c (.str [124]))), ((24, 1), (.c (.str [45, 62]))), ((25, 1), (.c (.str [60, 45, 62])))]))⟩, ⟨(some 3), true, none, (.i (.alloc [(.str []), (.str []), (.str []), (.str []), (.str []), (.str []), (.str []), (.str []), (.str []), (.str []), (.str []), (.str []), (.str []), (.str []), (.str []), (.str []), (.str []), (.str []), (.str []), (.str []), (.str []), (.str []), (.str []), (.str []), (.str []), (.str [])]))⟩, ⟨none, false, none, (.i (.st 26 (.t 3) (.t 4)))⟩]) (.seq (.seq (.ops [⟨(some 5), false, none, (.i (.mv (.t 0)))⟩, ⟨(some 6), false, none, (.i (.bin .lss (.t 5) (.c (.int .i64 5))))⟩, ⟨(some 7), false, none, (.i (.mv (.t 6)))⟩, ⟨(some 8), false, (some (7, false)), (.i (.mv (.t 0)))⟩, ⟨(some 9), false, (some (7, false)), (.i (.bin .geq (.t 8) (.c (.int .i64 31))))⟩, ⟨(some 10), true, none, (.i (.pick (.t 7) (.c (.bool true)) (.t 9)))⟩]) (.cond (.t 10) (.seq (.ops [⟨(some 2), true, none, (.i (.mv (.c (.str []))))⟩]) .ret) .skip)) (.seq (.ops [⟨(some 11), false, none, (.i (.mv (.t 0)))⟩, ⟨(some 12), false, none, (.i (.bin .sub (.t 11) (.c (.int .i64 5))))⟩, ⟨(some 13), false, none, (.i (.idxA 26 1 (.t 3) (.t 12)))⟩, ⟨(some 14), false, none, (.i (.ld1 (.t 13)))⟩, ⟨(some 2), true, none, (.i (.mv (.t 14)))⟩]) .ret))))
def c65 : FD := ⟨[0], b65, [(.t 2)]⟩
theorem l65 : lowF Tryd.prog 65 = some c65 := by kernel_rfl
def b66 : Cmd := (.seq (.ops [⟨(some 2), true, none, (.i (.mv (.c (.int .i64 0))))⟩]) (.seq (.block 0 (.seq (.ops [⟨(some 4), false, none, (.i (.mv (.t 0)))⟩, ⟨(some 5), false, none, (.i (.bin .geq (.t 4) (.c (.int .i64 5))))⟩, ⟨(some 6), false, none, (.i (.mv (.t 5)))⟩, ⟨(some 7), false, (some (6, true)), (.i (.mv (.t 0)))⟩, ⟨(some 8), false, (some (6, true)), (.i (.bin .leq (.t 7) (.c (.int .i64 13))))⟩, ⟨(some 9), false, none, (.i (.pick (.t 6) (.t 8) (.c (.bool false))))⟩, ⟨(some 3), true, none, (.i (.mv (.t 9)))⟩]) (.cond (.t 3) (.seq (.ops [⟨(some 2), true, none, (.i (.mv (.c (.int .i64 1))))⟩]) .ret) (.seq (.ops [⟨(some 11), false, none, (.i (.mv (.t 0)))⟩, ⟨(some 12), false, none, (.i (.bin .geq (.t 11) (.c (.int .i64 14))))⟩, ⟨(some 13), false, none, (.i (.mv (.t 12)))⟩, ⟨(some 14), false, (some (13, true)), (.i (.mv (.t 0)))⟩, ⟨(some 15), false, (some (13, true)), (.i (.bin .lss (.t 14) (.c (.int .i64 31))))⟩, ⟨(some 16), false, none, (.i (.pick (.t 13) (.t 15) (.c (.bool false))))⟩, ⟨(some 10), true, none, (.i (.mv (.t 16)))⟩]) (.cond (.t 10) (.seq (.ops [⟨(some 2), true, none, (.i (.mv (.c (.int .i64 2))))⟩]) .ret) .skip))))) (.seq (.ops [⟨(some 2), true, none, (.i (.mv (.c (.int .i64 0))))⟩]) .ret)))
def c66 : FD := ⟨[0], b66, [(.t 2)]⟩
theorem l66 : lowF Tryd.prog 66 = some c66 := by kernel_rfl
def b67 : Cmd := (.seq (.ops [⟨(some 1), true, none, (.i (.box (.t 0)))⟩, ⟨(some 2), true, none, (.i (.mv (.c (.bool false))))⟩]) (.seq (.seq (.ops [⟨(some 3), false, none, (.i (.fad 0 (.t 1)))⟩, ⟨(some 4), true, none, (.i (.ld1 (.t 3)))⟩]) (.block 0 (.seq (.ops [⟨(some 6), false, none, (.i (.bin .eql (.t 4) (.c (.int .i64 1))))⟩, ⟨(some 5), true, none, (.i (.mv (.t 6)))⟩]) (.cond (.t 5) (.seq (.ops [⟨(some 7), false, none, (.i (.fad 1 (.t 1)))⟩, ⟨(some 8), false, none, (.i (.ld1 (.t 7)))⟩, ⟨(some 9), false, none, (.i (.bin .geq (.t 8) (.c (.int .i64 0))))⟩, ⟨(some 10), false, none, (.i (.mv (.t 9)))⟩, ⟨(some 11), false, (some (10, true)), (.i (.fad 1 (.t 1)))⟩, ⟨(some 12), false, (some (10, true)), (.i (.ld1 (.t 11)))⟩, ⟨(some 13), false, (some (10, true)), (.i (.bin .leq (.t 12) (.c (.int .i64 1000000))))⟩, ⟨(some 14), false, none, (.i (.pick (.t 10) (.t 13) (.c (.bool false))))⟩, ⟨(some 15), false, none, (.i (.mv (.t 14)))⟩, ⟨(some 16), false, (some (15, true)), (.i (.fad 2 (.t 1)))⟩, ⟨(some 17), false, (some (15, true)), (.i (.ld1 (.t 16)))⟩, ⟨(some 18), false, (some (15, true)), (.i (.strb .eql (.t 17) (.c (.str []))))⟩, ⟨(some 19), false, none, (.i (.pick (.t 15) (.t 18) (.c (.bool false))))⟩, ⟨(some 2), true, none, (.i (.mv (.t 19)))⟩]) .ret) (.seq (.ops [⟨(some 21), false, none, (.i (.bin .eql (.t 4) (.c (.int .i64 2))))⟩, ⟨(some 20), true, none, (.i (.mv (.t 21)))⟩]) (.cond (.t 20) (.seq (.ops [⟨(some 22), false, none, (.i (.fad 1 (.t 1)))⟩, ⟨(some 23), false, none, (.i (.ld1 (.t 22)))⟩, ⟨(some 24), false, none, (.i (.bin .eql (.t 23) (.c (.int .i64 0))))⟩, ⟨(some 25), false, none, (.i (.mv (.t 24)))⟩, ⟨(some 26), false, (some (25, false)), (.i (.fad 1 (.t 1)))⟩, ⟨(some 27), false, (some (25, false)), (.i (.ld1 (.t 26)))⟩, ⟨(some 28), false, (some (25, false)), (.i (.bin .eql (.t 27) (.c (.int .i64 1))))⟩, ⟨(some 29), false, none, (.i (.pick (.t 25) (.c (.bool true)) (.t 28)))⟩, ⟨(some 30), false, none, (.i (.mv (.t 29)))⟩, ⟨(some 31), false, (some (30, true)), (.i (.fad 2 (.t 1)))⟩, ⟨(some 32), false, (some (30, true)), (.i (.ld1 (.t 31)))⟩, ⟨(some 33), false, (some (30, true)), (.i (.strb .eql (.t 32) (.c (.str []))))⟩, ⟨(some 34), false, none, (.i (.pick (.t 30) (.t 33) (.c (.bool false))))⟩, ⟨(some 2), true, none, (.i (.mv (.t 34)))⟩]) .ret) (.seq (.ops [⟨(some 36), false, none, (.i (.bin .eql (.t 4) (.c (.int .i64 3))))⟩, ⟨(some 35), true, none, (.i (.mv (.t 36)))⟩]) (.cond (.t 35) (.seq (.ops [⟨(some 37), false, none, (.i (.fad 1 (.t 1)))⟩, ⟨(some 38), false, none, (.i (.ld1 (.t 37)))⟩, ⟨(some 39), false, none, (.i (.bin .eql (.t 38) (.c (.int .i64 0))))⟩, ⟨(some 40), false, none, (.i (.mv (.t 39)))⟩, ⟨(some 41), false, (some (40, true)), (.i (.fad 2 (.t 1)))⟩, ⟨(some 42), false, (some (40, true)), (.i (.ld1 (.t 41)))⟩, ⟨(some 43), false, (some (40, true)), (.call (.c (.fn 79 [])) [(.t 42)])⟩, ⟨(some 44), false, none, (.i (.pick (.t 40) (.t 43) (.c (.bool false))))⟩, ⟨(some 2), true, none, (.i (.mv (.t 44)))⟩]) .ret) (.seq (.ops [⟨(some 46), false, none, (.i (.bin .eql (.t 4) (.c (.int .i64 4))))⟩, ⟨(some 45), true, none, (.i (.mv (.t 46)))⟩]) (.cond (.t 45) (.seq (.ops [⟨(some 47), false, none, (.i (.fad 2 (.t 1)))⟩, ⟨(some 48), false, none, (.i (.ld1 (.t 47)))⟩, ⟨(some 49), false, none, (.i (.strb .eql (.t 48) (.c (.str []))))⟩, ⟨(some 2), true, none, (.i (.mv (.t 49)))⟩]) .ret) .skip)))))))))) (.seq (.ops [⟨(some 50), false, none, (.i (.fad 1 (.t 1)))⟩, ⟨(some 51), false, none, (.i (.ld1 (.t 50)))⟩, ⟨(some 52), false, none, (.i (.bin .eql (.t 51) (.c (.int .i64 0))))⟩, ⟨(some 53), false, none, (.i (.mv (.t 52)))⟩, ⟨(some 54), false, (some (53, true)), (.i (.fad 2 (.t 1)))⟩, ⟨(some 55), false, (some (53, true)), (.i (.ld1 (.t 54)))⟩, ⟨(some 56), false, (some (53, true)), (.i (.strb .eql (.t 55) (.c (.str []))))⟩, ⟨(some 57), false, none, (.i (.pick (.t 53) (.t 56) (.c (.bool false))))⟩, ⟨(some 2), true, none, (.i (.mv (.t 57)))⟩]) .ret)))
def c67 : FD := ⟨[0], b67, [(.t 2)]⟩
theorem l67 : lowF Tryd.prog 67 = some c67 := by kernel_rfl
def b50 : Cmd := (.seq (.ops [⟨(some 2), true, none, (.i (.box (.t 0)))⟩, ⟨(some 3), true, none, (.i (.box (.t 1)))⟩, ⟨(some 4), true, none, (.i (.mv (.c (.bool false))))⟩]) (.seq (.seq (.dops [⟨⟨(some 5), false, none, (.i (.fad 0 (.t 2)))⟩, none, 0, []⟩, ⟨⟨(some 6), false, none, (.i (.ld1 (.t 5)))⟩, (some (some (.t 5))), 3, []⟩, ⟨⟨(some 7), false, none, (.i (.bin .lss (.t 6) (.c (.int .i64 1))))⟩, none, 0, []⟩, ⟨⟨(some 8), false, none, (.i (.mv (.t 7)))⟩, none, 0, []⟩, ⟨⟨(some 9), false, (some (8, false)), (.i (.fad 0 (.t 2)))⟩, none, 0, []⟩, ⟨⟨(some 10), false, (some (8, false)), (.i (.ld1 (.t 9)))⟩, (some (some (.t 9))), 3, []⟩, ⟨⟨(some 11), false, (some (8, false)), (.i (.bin .geq (.t 10) (.c (.int .i64 31))))⟩, none, 0, []⟩, ⟨⟨(some 12), false, none, (.i (.pick (.t 8) (.c (.bool true)) (.t 11)))⟩, none, 0, []⟩, ⟨⟨(some 13), false, none, (.i (.mv (.t 12)))⟩, none, 0, []⟩, ⟨⟨(some 14), false, (some (13, false)), (.i (.ld1 (.t 3)))⟩, (some (some (.t 3))), 3, []⟩, ⟨⟨(some 15), false, (some (13, false)), (.i (.bin .lss (.t 14) (.c (.int .i64 1))))⟩, none, 0, []⟩, ⟨⟨(some 16), false, none, (.i (.pick (.t 13) (.c (.bool true)) (.t 15)))⟩, none, 0, []⟩, ⟨⟨(some 17), false, none, (.i (.mv (.t 16)))⟩, none, 0, []⟩, ⟨⟨(some 18), false, (some (17, false)), (.i (.fad 3 (.t 2)))⟩, none, 0, []⟩, ⟨⟨(some 19), false, (some (17, false)), (.i (.ld1 (.t 18)))⟩, (some (some (.t 18))), 23, []⟩, ⟨⟨(some 20), false, (some (17, false)), (.i (.len (.t 19)))⟩, none, 0, []⟩, ⟨⟨(some 21), false, (some (17, false)), (.i (.fad 0 (.t 2)))⟩, none, 0, []⟩, ⟨⟨(some 22), false, (some (17, false)), (.i (.ld1 (.t 21)))⟩, (some (some (.t 21))), 3, []⟩, ⟨⟨(some 23), false, (some (17, false)), (.call (.c (.fn 66 [])) [(.t 22)])⟩, (some none), 0, [(3, 23)]⟩, ⟨⟨(some 24), false, (some (17, false)), (.i (.bin .neq (.t 20) (.t 23)))⟩, none, 0, []⟩, ⟨⟨(some 25), false, none, (.i (.pick (.t 17) (.c (.bool true)) (.t 24)))⟩, none, 0, []⟩, ⟨⟨(some 26), false, none, (.i (.mv (.t 25)))⟩, none, 0, []⟩, ⟨⟨(some 27), false, (some (26, false)), (.i (.ldA 6 (.t 2)))⟩, (some (some (.t 2))), 25, []⟩, ⟨⟨(some 28), false, (some (26, false)), (.call (.c (.fn 67 [])) [(.t 27)])⟩, (some none), 0, []⟩, ⟨⟨(some 29), false, (some (26, false)), (.i (.un .not (.t 28)))⟩, none, 0, []⟩, ⟨⟨(some 30), true, none, (.i (.pick (.t 26) (.c (.bool true)) (.t 29)))⟩, none, 0, []⟩]) (.cond (.t 30) (.seq (.ops [⟨(some 4), true, none, (.i (.mv (.c (.bool false))))⟩]) .ret) .skip)) (.seq (.ops [⟨(some 31), false, none, (.i (.fad 3 (.t 2)))⟩, ⟨(some 32), false, none, (.i (.ld1 (.t 31)))⟩, ⟨(some 33), false, none, (.i (.fn 69 [(.t 3)]))⟩, ⟨(some 34), false, none, (.call (.c (.fn 68 [])) [(.t 32), (.t 33)])⟩, ⟨(some 35), false, none, (.i (.un .not (.t 34)))⟩, ⟨(some 4), true, none, (.i (.mv (.t 35)))⟩]) .ret)))
def c50 : FD := ⟨[0, 1], b50, [(.t 4)]⟩
theorem l50 : lowF Tryd.prog 50 = some c50 := by kernel_rfl
def b69 : Cmd := (.seq (.ops [⟨(some 2), true, none, (.i (.box (.t 0)))⟩, ⟨(some 3), true, none, (.i (.mv (.c (.bool false))))⟩]) (.seq (.ops [⟨(some 4), false, none, (.i (.ldA 6 (.t 2)))⟩, ⟨(some 5), false, none, (.i (.ld1 (.t 1)))⟩, ⟨(some 6), false, none, (.i (.bin .sub (.t 5) (.c (.int .i64 1))))⟩, ⟨(some 7), false, none, (.call (.c (.fn 50 [])) [(.t 4), (.t 6)])⟩, ⟨(some 8), false, none, (.i (.un .not (.t 7)))⟩, ⟨(some 3), true, none, (.i (.mv (.t 8)))⟩]) .ret))
def c69 : FD := ⟨[0, 1], b69, [(.t 3)]⟩
theorem l69 : lowF Tryd.prog 69 = some c69 := by kernel_rfl
def b68 : Cmd := (.seq (.ops [⟨(some 4), true, none, (.i (.mv (.c (.bool false))))⟩]) (.seq (.ops [⟨(some 5), false, none, (.i (.mv (.t 0)))⟩, ⟨(some 6), false, none, (.i (.mv (.t 1)))⟩, ⟨(some 7), false, none, (.call (.c (.fn 80 [])) [(.t 5), (.t 6)])⟩, ⟨(some 8), false, none, (.i (.bin .geq (.t 7) (.c (.int .i64 0))))⟩, ⟨(some 4), true, none, (.i (.mv (.t 8)))⟩]) .ret))
def c68 : FD := ⟨[0, 1], b68, [(.t 4)]⟩
theorem l68 : lowF Tryd.prog 68 = some c68 := by kernel_rfl
def b80 : Cmd := (.seq (.ops [⟨(some 4), true, none, (.i (.mv (.c (.int .i64 0))))⟩]) (.seq (.seq (.ops [⟨(some 6), false, none, (.i (.mv (.t 0)))⟩, ⟨(some 7), true, none, (.i (.len (.t 6)))⟩, ⟨(some 8), true, none, (.i (.mv (.c (.int .i64 0))))⟩]) (.block 0 (.loop (.seq (.ops [⟨(some 9), true, none, (.i (.bin .lss (.t 8) (.t 7)))⟩]) (.seq (.cond (.t 9) .skip (.exit 0)) (.seq (.block 1 (.seq (.ops [⟨(some 10), false, none, (.i (.mv (.t 8)))⟩, ⟨(some 5), true, none, (.i (.mv (.t 10)))⟩]) (.seq (.ops [⟨(some 11), false, none, (.i (.mv (.t 1)))⟩, ⟨(some 12), false, none, (.i (.mv (.t 0)))⟩, ⟨(some 13), false, none, (.i (.mv (.t 5)))⟩, ⟨(some 14), false, none, (.i (.idxS 6 (.t 12) (.t 13)))⟩, ⟨(some 15), false, none, (.i (.ldA 6 (.t 14)))⟩, ⟨(some 16), true, none, (.call (.t 11) [(.t 15)])⟩]) (.cond (.t 16) (.seq (.ops [⟨(some 17), false, none, (.i (.mv (.t 5)))⟩, ⟨(some 4), true, none, (.i (.mv (.t 17)))⟩]) .ret) .skip)))) (.ops [⟨(some 18), false, none, (.i (.bin .add (.t 8) (.c (.int .i64 1))))⟩, ⟨(some 8), true, none, (.i (.mv (.t 18)))⟩]))))))) (.seq (.ops [⟨(some 4), true, none, (.i (.mv (.c (.int .i64 (-(0+1))))))⟩]) .ret)))
def c80 : FD := ⟨[0, 1], b80, [(.t 4)]⟩
theorem l80 : lowF Tryd.prog 80 = some c80 := by kernel_rfl
def b29 : Cmd := (.seq (.ops [⟨(some 1), true, none, (.i (.box (.t 0)))⟩, ⟨(some 2), true, none, (.i (.mv (.c (.bool false))))⟩]) (.seq (.ops [⟨(some 3), false, none, (.i (.ldA 6 (.t 1)))⟩, ⟨(some 4), false, none, (.call (.c (.fn 50 [])) [(.t 3), (.c (.int .i64 60))])⟩, ⟨(some 2), true, none, (.i (.mv (.t 4)))⟩]) .ret))
def c29 : FD := ⟨[0], b29, [(.t 2)]⟩
theorem l29 : lowF Tryd.prog 29 = some c29 := by kernel_rfl
end Go.Sy
end

section
set_option maxRecDepth 100000
namespace Go.Sy
open Go.Ev Go.Proofs
def z16 : XC := (.seq (.ops [⟨(some 1), true, none, (.i (.box (.t 0)))⟩]) (.ops [⟨(some 2), false, none, (.i (.fad 3 (.t 1)))⟩, ⟨(some 3), false, none, (.i (.ld1 (.t 2)))⟩, ⟨(some 4), false, none, (.i (.fad 4 (.t 1)))⟩, ⟨(some 5), false, none, (.i (.ld1 (.t 4)))⟩, ⟨(some 6), false, none, (.i (.build [(.int .i64 0), (.int .i64 0), (.int .i64 0)] [((0, 1), (.c (.int .i64 151))), ((1, 1), (.t 3)), ((2, 1), (.t 5))]))⟩, ⟨(some 7), false, none, (.i (.iface 28 (.t 6)))⟩, ⟨none, false, none, (.pan (.t 7))⟩]))
def y16 : XF := ⟨[0], z16, []⟩
theorem x16 : lowXF Tryd.prog 16 = some y16 := by kernel_rfl
def z55 : XC := (.seq (.ops [⟨(some 7), false, none, (.i (.mv (.t 0)))⟩, ⟨(some 8), false, none, (.i (.mv (.t 1)))⟩, ⟨(some 9), false, none, (.i (.buildS 1 1 [(.str [])] [((0, 1), (.t 8))]))⟩, ⟨(some 10), false, none, (.call (.c (.fn 32 [])) [(.t 7), (.t 9)])⟩, ⟨(some 6), false, none, (.i (.mv (.t 10)))⟩, ⟨(some 11), false, none, (.i (.ext (.t 6) 0))⟩, ⟨(some 12), false, none, (.i (.ext (.t 6) 1))⟩, ⟨(some 4), true, none, (.i (.alloc [(.int .i64 0), (.str []), (.int .i64 0), (.int .i64 0), (.int .i64 0)]))⟩, ⟨none, false, none, (.i (.st 5 (.t 4) (.t 11)))⟩, ⟨(some 5), true, none, (.i (.mv (.t 12)))⟩]) (.seq (.ops [⟨(some 13), false, none, (.i (.mv (.t 5)))⟩, ⟨(some 14), true, none, (.i (.un .not (.t 13)))⟩]) (.cond (.t 14) (.ops [⟨(some 15), false, none, (.i (.ldA 5 (.t 4)))⟩, ⟨(some 16), false, none, (.call (.c (.fn 16 [])) [(.t 15)])⟩]) .skip)))
def y55 : XF := ⟨[0, 1], z55, []⟩
theorem x55 : lowXF Tryd.prog 55 = some y55 := by kernel_rfl
def z54 : XC := (.seq (.ops [⟨(some 2), true, none, (.i (.alloc [(.int .i64 0), (.str []), (.int .i64 0), (.int .i64 0), (.int .i64 0)]))⟩]) (.seq (.ops [⟨(some 4), false, none, (.i (.mv (.t 0)))⟩, ⟨(some 5), false, none, (.call (.c (.fn 15 [])) [(.t 4)])⟩, ⟨(some 3), true, none, (.i (.alloc [(.int .i64 0), (.str []), (.int .i64 0), (.int .i64 0), (.int .i64 0)]))⟩, ⟨none, false, none, (.i (.st 5 (.t 3) (.t 5)))⟩]) (.seq (.seq (.ops [⟨(some 6), false, none, (.i (.fad 0 (.t 3)))⟩, ⟨(some 7), false, none, (.i (.ld1 (.t 6)))⟩, ⟨(some 8), true, none, (.i (.bin .neq (.t 7) (.c (.int .i64 1))))⟩]) (.cond (.t 8) (.ops [⟨(some 9), false, none, (.i (.ldA 5 (.t 3)))⟩, ⟨(some 10), false, none, (.call (.c (.fn 16 [])) [(.t 9)])⟩]) .skip)) (.seq (.ops [⟨(some 11), false, none, (.i (.mv (.t 0)))⟩, ⟨(some 12), false, none, (.i (.nilc (.t 11)))⟩, ⟨(some 13), false, none, (.i (.fad 1 (.t 12)))⟩, ⟨(some 14), false, none, (.i (.ld1 (.t 13)))⟩, ⟨(some 15), false, none, (.i (.bin .add (.t 14) (.c (.int .i64 1))))⟩, ⟨(some 16), false, none, (.i (.nilc (.t 11)))⟩, ⟨(some 17), false, none, (.i (.fad 1 (.t 16)))⟩, ⟨none, false, none, (.i (.st 1 (.t 17) (.t 15)))⟩]) (.seq (.ops [⟨(some 18), false, none, (.i (.ldA 5 (.t 3)))⟩, ⟨none, false, none, (.i (.st 5 (.t 2) (.t 18)))⟩]) .ret)))))
def y54 : XF := ⟨[0], z54, [(.cA 2 5)]⟩
theorem x54 : lowXF Tryd.prog 54 = some y54 := by kernel_rfl
def z64 : XC := (.seq (.ops [⟨(some 2), false, none, (.i (.mv (.t 0)))⟩, ⟨(some 3), false, none, (.i (.nilc (.t 2)))⟩, ⟨(some 4), false, none, (.i (.fad 2 (.t 3)))⟩, ⟨(some 5), false, none, (.i (.ld1 (.t 4)))⟩, ⟨(some 6), false, none, (.i (.bin .add (.t 5) (.c (.int .i64 1))))⟩, ⟨(some 7), false, none, (.i (.nilc (.t 2)))⟩, ⟨(some 8), false, none, (.i (.fad 2 (.t 7)))⟩, ⟨none, false, none, (.i (.st 1 (.t 8) (.t 6)))⟩]) (.seq (.ops [⟨(some 9), false, none, (.i (.mv (.t 0)))⟩, ⟨(some 10), false, none, (.i (.nilc (.t 9)))⟩, ⟨(some 11), false, none, (.i (.fad 2 (.t 10)))⟩, ⟨(some 12), false, none, (.i (.ld1 (.t 11)))⟩, ⟨(some 13), true, none, (.i (.bin .gtr (.t 12) (.c (.int .i64 60))))⟩]) (.cond (.t 13) (.ops [⟨(some 14), false, none, (.i (.mv (.t 0)))⟩, ⟨(some 15), false, none, (.call (.c (.fn 15 [])) [(.t 14)])⟩, ⟨(some 16), false, none, (.call (.c (.fn 16 [])) [(.t 15)])⟩]) .skip)))
def y64 : XF := ⟨[0], z64, []⟩
theorem x64 : lowXF Tryd.prog 64 = some y64 := by kernel_rfl
def z48 : XC := (.seq (.ops [⟨(some 2), true, none, (.i (.alloc [(.int .i64 0), (.int .i64 0), (.str []), .nils, (.int .i64 0), (.int .i64 0)]))⟩]) (.seq (.ops [⟨(some 8), false, none, (.i (.mv (.t 0)))⟩, ⟨(some 9), false, none, (.i (.buildS 9 1 [(.str [])] [((0, 1), (.c (.str [45]))), ((1, 1), (.c (.str [33]))), ((2, 1), (.c (.str [88]))), ((3, 1), (.c (.str [70]))), ((4, 1), (.c (.str [71]))), ((5, 1), (.c (.str [89]))), ((6, 1), (.c (.str [90]))), ((7, 1), (.c (.str [79]))), ((8, 1), (.c (.str [72])))]))⟩, ⟨(some 10), false, none, (.call (.c (.fn 32 [])) [(.t 8), (.t 9)])⟩, ⟨(some 7), false, none, (.i (.mv (.t 10)))⟩, ⟨(some 11), false, none, (.i (.ext (.t 7) 0))⟩, ⟨(some 12), false, none, (.i (.ext (.t 7) 1))⟩, ⟨(some 3), true, none, (.i (.alloc [(.int .i64 0), (.str []), (.int .i64 0), (.int .i64 0), (.int .i64 0)]))⟩, ⟨none, false, none, (.i (.st 5 (.t 3) (.t 11)))⟩, ⟨(some 4), true, none, (.i (.mv (.t 12)))⟩]) (.seq (.seq (.ops [⟨(some 13), false, none, (.i (.mv (.t 4)))⟩, ⟨(some 14), true, none, (.i (.un .not (.t 13)))⟩]) (.cond (.t 14) (.seq (.ops [⟨(some 15), false, none, (.i (.mv (.t 0)))⟩, ⟨(some 16), false, none, (.call (.c (.fn 63 [])) [(.t 15)])⟩, ⟨none, false, none, (.i (.st 6 (.t 2) (.t 16)))⟩]) .ret) .skip)) (.seq (.ops [⟨(some 17), false, none, (.i (.mv (.t 0)))⟩, ⟨(some 18), false, none, (.call (.c (.fn 64 [])) [(.t 17)])⟩]) (.seq (.ops [⟨(some 19), false, none, (.i (.mv (.t 0)))⟩, ⟨(some 20), false, none, (.call (.c (.fn 48 [])) [(.t 19)])⟩, ⟨(some 5), true, none, (.i (.alloc [(.int .i64 0), (.int .i64 0), (.str []), .nils, (.int .i64 0), (.int .i64 0)]))⟩, ⟨none, false, none, (.i (.st 6 (.t 5) (.t 20)))⟩]) (.seq (.ops [⟨(some 21), false, none, (.i (.mv (.t 0)))⟩, ⟨(some 22), false, none, (.i (.nilc (.t 21)))⟩, ⟨(some 23), false, none, (.i (.fad 2 (.t 22)))⟩, ⟨(some 24), false, none, (.i (.ld1 (.t 23)))⟩, ⟨(some 25), false, none, (.i (.bin .sub (.t 24) (.c (.int .i64 1))))⟩, ⟨(some 26), false, none, (.i (.nilc (.t 21)))⟩, ⟨(some 27), false, none, (.i (.fad 2 (.t 26)))⟩, ⟨none, false, none, (.i (.st 1 (.t 27) (.t 25)))⟩]) (.seq (.ops [⟨(some 6), true, none, (.i (.mv (.c (.int .i64 5))))⟩]) (.seq (.block 0 (.loop (.seq (.seq (.dops [(⟨⟨(some 28), false, none, (.i (.mv (.t 6)))⟩, none, 0, []⟩, none), (⟨⟨(some 29), false, none, (.call (.c (.fn 65 [])) [(.t 28)])⟩, (some none), 0, []⟩, (some [⟨⟨(some 29), false, none, (.i (.mv (.c (.tup []))))⟩, none, 0, []⟩, ⟨⟨(some 30), false, none, (.i (.fad 1 (.t 3)))⟩, none, 0, []⟩, ⟨⟨(some 31), false, none, (.i (.ld1 (.t 30)))⟩, (some (some (.t 30))), 9, [(1, 0)]⟩, ⟨⟨(some 32), true, none, (.i (.mv (.c (.tup []))))⟩, none, 0, []⟩])), (⟨⟨(some 30), false, none, (.i (.fad 1 (.t 3)))⟩, none, 0, []⟩, none), (⟨⟨(some 31), false, none, (.i (.ld1 (.t 30)))⟩, (some (some (.t 30))), 9, [(1, 0)]⟩, none), (⟨⟨(some 32), true, none, (.i (.strb .neq (.t 29) (.t 31)))⟩, none, 0, []⟩, none)]) (.cond (.t 32) .skip (.exit 0))) (.block 1 (.ops [⟨(some 33), false, none, (.i (.mv (.t 6)))⟩, ⟨(some 34), false, none, (.i (.bin .add (.t 33) (.c (.int .i64 1))))⟩, ⟨(some 6), true, none, (.i (.mv (.t 34)))⟩]))))) (.seq (.ops [⟨(some 35), false, none, (.i (.mv (.t 6)))⟩, ⟨(some 36), false, none, (.i (.ldA 6 (.t 5)))⟩, ⟨(some 37), false, none, (.i (.buildS 1 6 [(.int .i64 0), (.int .i64 0), (.str []), .nils, (.int .i64 0), (.int .i64 0)] [((0, 6), (.t 36))]))⟩, ⟨(some 38), false, none, (.i (.fad 3 (.t 3)))⟩, ⟨(some 39), false, none, (.i (.ld1 (.t 38)))⟩, ⟨(some 40), false, none, (.i (.fad 4 (.t 3)))⟩, ⟨(some 41), false, none, (.i (.ld1 (.t 40)))⟩, ⟨(some 42), false, none, (.i (.build [(.int .i64 0), (.int .i64 0), (.str []), .nils, (.int .i64 0), (.int .i64 0)] [((0, 1), (.t 35)), ((3, 1), (.t 37)), ((4, 1), (.t 39)), ((5, 1), (.t 41))]))⟩, ⟨none, false, none, (.i (.st 6 (.t 2) (.t 42)))⟩]) .ret)))))))))
def y48 : XF := ⟨[0], z48, [(.cA 2 6)]⟩
theorem x48 : lowXF Tryd.prog 48 = some y48 := by kernel_rfl
def z63 : XC := (.seq (.ops [⟨(some 2), true, none, (.i (.alloc [(.int .i64 0), (.int .i64 0), (.str []), .nils, (.int .i64 0), (.int .i64 0)]))⟩]) (.seq (.ops [⟨(some 5), false, none, (.i (.mv (.t 0)))⟩, ⟨(some 6), false, none, (.call (.c (.fn 15 [])) [(.t 5)])⟩, ⟨(some 3), true, none, (.i (.alloc [(.int .i64 0), (.str []), (.int .i64 0), (.int .i64 0), (.int .i64 0)]))⟩, ⟨none, false, none, (.i (.st 5 (.t 3) (.t 6)))⟩]) (.seq (.ops [⟨(some 7), false, none, (.i (.fad 3 (.t 3)))⟩, ⟨(some 8), false, none, (.i (.ld1 (.t 7)))⟩, ⟨(some 9), false, none, (.i (.fad 4 (.t 3)))⟩, ⟨(some 10), false, none, (.i (.ld1 (.t 9)))⟩, ⟨(some 11), false, none, (.i (.build [(.int .i64 0), (.int .i64 0), (.str []), .nils, (.int .i64 0), (.int .i64 0)] [((4, 1), (.t 8)), ((5, 1), (.t 10))]))⟩, ⟨(some 4), true, none, (.i (.alloc [(.int .i64 0), (.int .i64 0), (.str []), .nils, (.int .i64 0), (.int .i64 0)]))⟩, ⟨none, false, none, (.i (.st 6 (.t 4) (.t 11)))⟩]) (.seq (.block 0 (.seq (.ops [⟨(some 15), false, none, (.i (.fad 0 (.t 3)))⟩, ⟨(some 16), false, none, (.i (.ld1 (.t 15)))⟩, ⟨(some 17), false, none, (.i (.bin .eql (.t 16) (.c (.int .i64 2))))⟩, ⟨(some 14), true, none, (.i (.mv (.t 17)))⟩]) (.cond (.t 14) (.dops [(⟨⟨(some 18), false, none, (.i (.fad 2 (.t 3)))⟩, none, 0, []⟩, none), (⟨⟨(some 19), false, none, (.i (.ld1 (.t 18)))⟩, (some (some (.t 18))), 2, []⟩, none), (⟨⟨(some 20), false, none, (.i (.fad 0 (.t 4)))⟩, none, 0, []⟩, none), (⟨⟨none, false, none, (.i (.st 1 (.t 20) (.c (.int .i64 1))))⟩, (some none), 0, [(1, 2)]⟩, none), (⟨⟨(some 21), false, none, (.i (.fad 1 (.t 4)))⟩, none, 0, []⟩, none), (⟨⟨none, false, none, (.i (.st 1 (.t 21) (.t 19)))⟩, (some none), 0, []⟩, none)]) (.seq (.ops [⟨(some 23), false, none, (.i (.fad 0 (.t 3)))⟩, ⟨(some 24), false, none, (.i (.ld1 (.t 23)))⟩, ⟨(some 25), false, none, (.i (.bin .eql (.t 24) (.c (.int .i64 1))))⟩, ⟨(some 22), true, none, (.i (.mv (.t 25)))⟩]) (.cond (.t 22) (.dops [(⟨⟨(some 26), false, none, (.i (.fad 1 (.t 3)))⟩, none, 0, []⟩, none), (⟨⟨(some 27), false, none, (.i (.ld1 (.t 26)))⟩, (some (some (.t 26))), 9, []⟩, none), (⟨⟨(some 28), false, none, (.i (.fad 0 (.t 4)))⟩, none, 0, []⟩, none), (⟨⟨none, false, none, (.i (.st 1 (.t 28) (.c (.int .i64 3))))⟩, (some none), 0, [(1, 9)]⟩, none), (⟨⟨(some 29), false, none, (.i (.fad 2 (.t 4)))⟩, none, 0, []⟩, none), (⟨⟨none, false, none, (.i (.st 1 (.t 29) (.t 27)))⟩, (some none), 0, []⟩, none)]) (.seq (.ops [⟨(some 31), false, none, (.i (.ldA 5 (.t 3)))⟩, ⟨(some 32), false, none, (.i (.buildS 1 1 [(.str [])] [((0, 1), (.c (.str [116, 114, 117, 101])))]))⟩, ⟨(some 33), false, none, (.call (.c (.fn 53 [])) [(.t 31), (.t 32)])⟩, ⟨(some 30), true, none, (.i (.mv (.t 33)))⟩]) (.cond (.t 30) (.ops [⟨(some 34), false, none, (.i (.fad 0 (.t 4)))⟩, ⟨none, false, none, (.i (.st 1 (.t 34) (.c (.int .i64 2))))⟩, ⟨(some 35), false, none, (.i (.fad 1 (.t 4)))⟩, ⟨none, false, none, (.i (.st 1 (.t 35) (.c (.int .i64 1))))⟩]) (.seq (.ops [⟨(some 37), false, none, (.i (.ldA 5 (.t 3)))⟩, ⟨(some 38), false, none, (.i (.buildS 1 1 [(.str [])] [((0, 1), (.c (.str [102, 97, 108, 115, 101])))]))⟩, ⟨(some 39), false, none, (.call (.c (.fn 53 [])) [(.t 37), (.t 38)])⟩, ⟨(some 36), true, none, (.i (.mv (.t 39)))⟩]) (.cond (.t 36) (.ops [⟨(some 40), false, none, (.i (.fad 0 (.t 4)))⟩, ⟨none, false, none, (.i (.st 1 (.t 40) (.c (.int .i64 2))))⟩]) (.seq (.ops [⟨(some 42), false, none, (.i (.ldA 5 (.t 3)))⟩, ⟨(some 43), false, none, (.i (.buildS 1 1 [(.str [])] [((0, 1), (.c (.str [40])))]))⟩, ⟨(some 44), false, none, (.call (.c (.fn 53 [])) [(.t 42), (.t 43)])⟩, ⟨(some 41), true, none, (.i (.mv (.t 44)))⟩]) (.cond (.t 41) (.seq (.ops [⟨(some 45), false, none, (.i (.mv (.t 0)))⟩, ⟨(some 46), false, none, (.i (.nilc (.t 45)))⟩, ⟨(some 47), false, none, (.i (.fad 1 (.t 46)))⟩, ⟨(some 48), false, none, (.i (.ld1 (.t 47)))⟩, ⟨(some 49), false, none, (.i (.bin .add (.t 48) (.c (.int .i64 1))))⟩, ⟨(some 50), false, none, (.i (.nilc (.t 45)))⟩, ⟨(some 51), false, none, (.i (.fad 1 (.t 50)))⟩, ⟨none, false, none, (.i (.st 1 (.t 51) (.t 49)))⟩]) (.seq (.ops [⟨(some 52), false, none, (.i (.mv (.t 0)))⟩, ⟨(some 53), false, none, (.call (.c (.fn 64 [])) [(.t 52)])⟩]) (.seq (.ops [⟨(some 54), false, none, (.i (.mv (.t 0)))⟩, ⟨(some 55), false, none, (.call (.c (.fn 28 [])) [])⟩, ⟨(some 56), false, none, (.call (.c (.fn 27 [])) [(.t 54), (.t 55)])⟩, ⟨none, false, none, (.i (.st 6 (.t 4) (.t 56)))⟩]) (.seq (.ops [⟨(some 57), false, none, (.i (.mv (.t 0)))⟩, ⟨(some 58), false, none, (.i (.nilc (.t 57)))⟩, ⟨(some 59), false, none, (.i (.fad 2 (.t 58)))⟩, ⟨(some 60), false, none, (.i (.ld1 (.t 59)))⟩, ⟨(some 61), false, none, (.i (.bin .sub (.t 60) (.c (.int .i64 1))))⟩, ⟨(some 62), false, none, (.i (.nilc (.t 57)))⟩, ⟨(some 63), false, none, (.i (.fad 2 (.t 62)))⟩, ⟨none, false, none, (.i (.st 1 (.t 63) (.t 61)))⟩]) (.seq (.ops [⟨(some 64), false, none, (.i (.mv (.t 0)))⟩, ⟨(some 65), false, none, (.call (.c (.fn 55 [])) [(.t 64), (.c (.str [41]))])⟩]) (.seq (.ops [⟨(some 66), false, none, (.i (.ldA 6 (.t 4)))⟩, ⟨none, false, none, (.i (.st 6 (.t 2) (.t 66)))⟩]) .ret)))))) (.ops [⟨(some 12), false, none, (.i (.ldA 5 (.t 3)))⟩, ⟨(some 13), false, none, (.call (.c (.fn 16 [])) [(.t 12)])⟩])))))))))))) (.seq (.ops [⟨(some 67), false, none, (.i (.mv (.t 0)))⟩, ⟨(some 68), false, none, (.i (.nilc (.t 67)))⟩, ⟨(some 69), false, none, (.i (.fad 1 (.t 68)))⟩, ⟨(some 70), false, none, (.i (.ld1 (.t 69)))⟩, ⟨(some 71), false, none, (.i (.bin .add (.t 70) (.c (.int .i64 1))))⟩, ⟨(some 72), false, none, (.i (.nilc (.t 67)))⟩, ⟨(some 73), false, none, (.i (.fad 1 (.t 72)))⟩, ⟨none, false, none, (.i (.st 1 (.t 73) (.t 71)))⟩]) (.seq (.ops [⟨(some 74), false, none, (.i (.ldA 6 (.t 4)))⟩, ⟨none, false, none, (.i (.st 6 (.t 2) (.t 74)))⟩]) .ret))))))
def y63 : XF := ⟨[0], z63, [(.cA 2 6)]⟩
theorem x63 : lowXF Tryd.prog 63 = some y63 := by kernel_rfl
def z27 : XC := (.seq (.ops [⟨(some 4), true, none, (.i (.alloc [(.int .i64 0), (.int .i64 0), (.str []), .nils, (.int .i64 0), (.int .i64 0)]))⟩]) (.seq (.seq (.ops [⟨(some 8), false, none, (.i (.mv (.t 1)))⟩, ⟨(some 9), false, none, (.i (.len (.t 8)))⟩, ⟨(some 10), true, none, (.i (.bin .eql (.t 9) (.c (.int .i64 0))))⟩]) (.cond (.t 10) (.seq (.ops [⟨(some 11), false, none, (.i (.mv (.t 0)))⟩, ⟨(some 12), false, none, (.call (.c (.fn 48 [])) [(.t 11)])⟩, ⟨none, false, none, (.i (.st 6 (.t 4) (.t 12)))⟩]) .ret) .skip)) (.seq (.ops [⟨(some 13), false, none, (.i (.mv (.t 0)))⟩, ⟨(some 14), false, none, (.i (.mv (.t 1)))⟩, ⟨(some 15), false, none, (.i (.slS 2 (.t 14) (some (.c (.int .i64 1))) none))⟩, ⟨(some 16), false, none, (.call (.c (.fn 27 [])) [(.t 13), (.t 15)])⟩, ⟨(some 5), true, none, (.i (.alloc [(.int .i64 0), (.int .i64 0), (.str []), .nils, (.int .i64 0), (.int .i64 0)]))⟩, ⟨none, false, none, (.i (.st 6 (.t 5) (.t 16)))⟩]) (.block 0 (.loop (.block 1 (.seq (.ops [⟨(some 18), false, none, (.i (.mv (.t 0)))⟩, ⟨(some 19), false, none, (.i (.mv (.t 1)))⟩, ⟨(some 20), false, none, (.i (.idxS 2 (.t 19) (.c (.int .i64 0))))⟩, ⟨(some 21), false, none, (.i (.fad 0 (.t 20)))⟩, ⟨(some 22), false, none, (.i (.ld1 (.t 21)))⟩, ⟨(some 23), false, none, (.call (.c (.fn 32 [])) [(.t 18), (.t 22)])⟩, ⟨(some 17), false, none, (.i (.mv (.t 23)))⟩, ⟨(some 24), false, none, (.i (.ext (.t 17) 0))⟩, ⟨(some 25), false, none, (.i (.ext (.t 17) 1))⟩, ⟨(some 6), true, none, (.i (.alloc [(.int .i64 0), (.str []), (.int .i64 0), (.int .i64 0), (.int .i64 0)]))⟩, ⟨none, false, none, (.i (.st 5 (.t 6) (.t 24)))⟩, ⟨(some 7), true, none, (.i (.mv (.t 25)))⟩]) (.seq (.seq (.ops [⟨(some 26), false, none, (.i (.mv (.t 7)))⟩, ⟨(some 27), true, none, (.i (.un .not (.t 26)))⟩]) (.cond (.t 27) (.seq (.ops [⟨(some 28), false, none, (.i (.ldA 6 (.t 5)))⟩, ⟨none, false, none, (.i (.st 6 (.t 4) (.t 28)))⟩]) .ret) .skip)) (.seq (.seq (.ops [⟨(some 29), false, none, (.i (.mv (.t 1)))⟩, ⟨(some 30), false, none, (.i (.idxS 2 (.t 29) (.c (.int .i64 0))))⟩, ⟨(some 31), false, none, (.i (.fad 1 (.t 30)))⟩, ⟨(some 32), false, none, (.i (.ld1 (.t 31)))⟩, ⟨(some 33), true, none, (.i (.bin .eql (.t 32) (.c (.int .i64 1))))⟩]) (.cond (.t 33) (.seq (.dops [(⟨⟨(some 34), false, none, (.i (.ldA 5 (.t 6)))⟩, (some (some (.t 6))), 54, []⟩, none), (⟨⟨(some 35), false, none, (.i (.ldA 6 (.t 5)))⟩, (some (some (.t 5))), 25, []⟩, none), (⟨⟨(some 36), false, none, (.i (.mv (.t 0)))⟩, none, 0, []⟩, none), (⟨⟨(some 37), false, none, (.i (.mv (.t 1)))⟩, none, 0, []⟩, none), (⟨⟨(some 38), false, none, (.call (.c (.fn 27 [])) [(.t 36), (.t 37)])⟩, (some none), 0, [(2, 25), (3, 54)]⟩, (some [])), (⟨⟨(some 39), false, none, (.call (.c (.fn 49 [])) [(.t 34), (.t 35), (.t 38)])⟩, (some none), 0, []⟩, (some [])), (⟨⟨none, false, none, (.i (.st 6 (.t 4) (.t 39)))⟩, (some none), 0, []⟩, none)]) .ret) .skip)) (.seq (.dops [(⟨⟨(some 40), false, none, (.i (.ldA 5 (.t 6)))⟩, (some (some (.t 6))), 54, []⟩, none), (⟨⟨(some 41), false, none, (.i (.ldA 6 (.t 5)))⟩, (some (some (.t 5))), 25, []⟩, none), (⟨⟨(some 42), false, none, (.i (.mv (.t 0)))⟩, none, 0, []⟩, none), (⟨⟨(some 43), false, none, (.i (.mv (.t 1)))⟩, none, 0, []⟩, none), (⟨⟨(some 44), false, none, (.i (.slS 2 (.t 43) (some (.c (.int .i64 1))) none))⟩, none, 0, []⟩, none), (⟨⟨(some 45), false, none, (.call (.c (.fn 27 [])) [(.t 42), (.t 44)])⟩, (some none), 0, [(3, 25), (4, 54)]⟩, (some [])), (⟨⟨(some 46), false, none, (.call (.c (.fn 49 [])) [(.t 40), (.t 41), (.t 45)])⟩, (some none), 0, []⟩, (some [])), (⟨⟨none, false, none, (.i (.st 6 (.t 5) (.t 46)))⟩, (some none), 0, []⟩, none)]) (.seq (.ops [⟨(some 47), false, none, (.i (.mv (.t 1)))⟩, ⟨(some 48), false, none, (.i (.idxS 2 (.t 47) (.c (.int .i64 0))))⟩, ⟨(some 49), false, none, (.i (.fad 1 (.t 48)))⟩, ⟨(some 50), false, none, (.i (.ld1 (.t 49)))⟩, ⟨(some 51), true, none, (.i (.bin .eql (.t 50) (.c (.int .i64 2))))⟩]) (.cond (.t 51) (.seq (.ops [⟨(some 52), false, none, (.i (.ldA 6 (.t 5)))⟩, ⟨none, false, none, (.i (.st 6 (.t 4) (.t 52)))⟩]) .ret) .skip))))))))))))
def y27 : XF := ⟨[0, 1], z27, [(.cA 4 6)]⟩
theorem x27 : lowXF Tryd.prog 27 = some y27 := by kernel_rfl
def z14 : XC := (.seq (.ops [⟨(some 2), true, none, (.i (.alloc [(.int .i64 0), (.int .i64 0), (.str []), .nils, (.int .i64 0), (.int .i64 0)]))⟩]) (.seq (.ops [⟨(some 5), false, none, (.i (.mv (.t 0)))⟩, ⟨(some 6), false, none, (.call (.c (.fn 15 [])) [(.t 5)])⟩, ⟨(some 3), true, none, (.i (.alloc [(.int .i64 0), (.str []), (.int .i64 0), (.int .i64 0), (.int .i64 0)]))⟩, ⟨none, false, none, (.i (.st 5 (.t 3) (.t 6)))⟩]) (.seq (.ops [⟨(some 7), false, none, (.i (.mv (.t 0)))⟩, ⟨(some 8), false, none, (.call (.c (.fn 28 [])) [])⟩, ⟨(some 9), false, none, (.call (.c (.fn 27 [])) [(.t 7), (.t 8)])⟩, ⟨(some 4), true, none, (.i (.alloc [(.int .i64 0), (.int .i64 0), (.str []), .nils, (.int .i64 0), (.int .i64 0)]))⟩, ⟨none, false, none, (.i (.st 6 (.t 4) (.t 9)))⟩]) (.seq (.seq (.ops [⟨(some 10), false, none, (.i (.ldA 6 (.t 4)))⟩, ⟨(some 11), false, none, (.call (.c (.fn 29 [])) [(.t 10)])⟩, ⟨(some 12), true, none, (.i (.un .not (.t 11)))⟩]) (.cond (.t 12) (.ops [⟨(some 13), false, none, (.i (.ldA 5 (.t 3)))⟩, ⟨(some 14), false, none, (.call (.c (.fn 16 [])) [(.t 13)])⟩]) .skip)) (.seq (.ops [⟨(some 15), false, none, (.i (.ldA 6 (.t 4)))⟩, ⟨none, false, none, (.i (.st 6 (.t 2) (.t 15)))⟩]) .ret)))))
def y14 : XF := ⟨[0], z14, [(.cA 2 6)]⟩
theorem x14 : lowXF Tryd.prog 14 = some y14 := by kernel_rfl
end Go.Sy
end

section
set_option maxRecDepth 100000
namespace Go.Sy
open Go.Ev Go.Proofs
variable {base : CallF}
/-- the functions that the base may tell of -/
def notB (f : FuncId) : Bool := !(Nat.beq f 5) && !(Nat.beq f 46)
structure NB (base : CallF) : Prop where
  no : ∀ f args st, notB f = true → base f args st = .no
theorem NB.at (h : NB base) (f : FuncId) (hf : notB f = true) : ∀ args st, base f args st = .no := fun a s => h.no f a s hf
theorem NB.mem (h : NB base) {L : List FuncId} (hl : L.all notB = true) : ∀ f args st, f ∈ L → base f args st = .no := fun f a s hf => h.no f a s (List.all_eq_true.1 hl f hf)
/-! ### frames -/
theorem Kept.bck {a b c : St} (h : Kept a b) (k : Kept b c) : Kept a c := h.trans k
theorem Kept.ofE {a s : St} (e : Ext a s) : Kept a (Go.Ev.back a s) := ⟨e.nx, rfl, e.keep⟩
theorem But.nw {a s : St} {c : Nat} (k : But a s c) (cs : List AV) : But a (Go.Sy.nw s cs) c := ⟨by rw [nx_nw]; have := k.nx; omega, k.fr, fun x hx hc => (get_nwO (by have := k.nx; omega)).trans (k.keep x hx hc)⟩
theorem But.wr {a s : St} {c : Nat} (k : But a s c) {b : Nat} (hb : a.nx ≤ b) (o : Nat) (vs : List AV) : But a (Go.Sy.wr s b o vs) c := ⟨k.nx, k.fr, fun x hx hc => (get_wrO (by omega)).trans (k.keep x hx hc)⟩
theorem But.wrS {a s : St} {c b o : Nat} {vs : List AV} (hb : a.nx ≤ b) (k : But a s c) : But a (Go.Sy.wr s b o vs) c := k.wr hb o vs
theorem But.wrC {a s : St} {c : Nat} (k : But a s c) (o : Nat) (vs : List AV) : But a (Go.Sy.wr s c o vs) c := ⟨k.nx, k.fr, fun x hx hc => (get_wrO hc).trans (k.keep x hx hc)⟩
theorem But.of {a s : St} (c : Nat) (k : Kept a s) : But a s c := ⟨k.nx, k.fr, fun x hx _ => k.keep x hx⟩
theorem Cl.bare {s : St} {b : Nat} {cs : List AV} (h : Cl s b cs) : Cl s.bare b cs := ⟨h.lt, h.row, h.len, h.cell⟩
theorem Cl.bk {s : St} {b : Nat} {cs : List AV} (h : Cl s b cs) (a : St) : Cl (Go.Sy.bk a s) b cs := ⟨h.lt, h.row, h.len, h.cell⟩
theorem Cl.but {a s : St} {b c : Nat} {cs : List AV} (h : Cl a b cs) (k : But a s c) (hc : b ≠ c) : Cl s b cs := h.keep k.nx (k.keep b h.lt hc)
/-! ### strings in memory -/
structure SP (φ : Nat → Prop) (s : St) (v : AV) (S : List (List Nat)) : Prop where
  ex : ∃ b c x, v = .slice b 0 S.length c 1 x ∧ Cl s b (S.map .str) ∧ φ b
theorem SP.keep {φ : Nat → Prop} {a s : St} {v : AV} {S : List (List Nat)} (h : SP φ a v S) (hn : a.nx ≤ s.nx) (hk : ∀ b, b < a.nx → φ b → hget s.h b = hget a.h b) : SP φ s v S := by
  obtain ⟨b, c, x, h1, h2, h3⟩ := h.ex
  exact ⟨b, c, x, h1, h2.keep hn (hk b h2.lt h3), h3⟩
structure SS (s : St) (v : AV) (S : List (List Nat)) : Prop where
  ex : ∃ b c x, v = .slice b 0 S.length c 1 x ∧ Cl s b (S.map .str)
theorem SP.ss {φ : Nat → Prop} {s : St} {v : AV} {S : List (List Nat)} (h : SP φ s v S) : SS s v S := by
  obtain ⟨b, c, x, h1, h2, h3⟩ := h.ex
  exact ⟨b, c, x, h1, h2⟩
theorem SS.kept {a s : St} {v : AV} {S : List (List Nat)} (h : SS a v S) (k : Kept a s) : SS s v S := by
  obtain ⟨b, c, x, h1, h2⟩ := h.ex
  exact ⟨b, c, x, h1, h2.kept k⟩
theorem SS.bare {s : St} {v : AV} {S : List (List Nat)} (h : SS s v S) : SS s.bare v S := by
  obtain ⟨b, c, x, h1, h2⟩ := h.ex
  exact ⟨b, c, x, h1, ⟨h2.lt, h2.row, h2.len, h2.cell⟩⟩
theorem SS.new (s : St) (S : List (List Nat)) : SS (nw s (S.map .str)) (.slice s.nx 0 S.length S.length 1 true) S := ⟨⟨s.nx, S.length, true, rfl, Cl.new s _⟩⟩
theorem strs_at {S : List (List Nat)} {i : Nat} (h : i < S.length) : (S.map AV.str).getD i .bad = .str (S.getD i []) := by
  simp [List.getD_eq_getElem?_getD, List.getElem?_map, List.getElem?_eq_getElem h]
def idxS (x : List Nat) (S : List (List Nat)) : Int := if x ∈ S then (S.idxOf x : Nat) else -1
/-- slices.Index of strings -/
theorem index_ok (hb : NB base) {v : AV} {S : List (List Nat)} (hS : S.length ≤ 1000000) (x : List Nat) (st : St) (h : SS st v S) (K : AV → St → Prop)
    (hK : ∀ n : Int, (0 ≤ n ↔ x ∈ S) → K (.int .i64 n) st) : CB Tryd.prog base 82 [v, .str x] st K := by
  have hlen : (S.map AV.str).length = S.length := List.length_map ..
  refine fn_ruleB l82 (hb.at _ (by decide) _ _) ?_
  simp only [c82, entry, List.map_cons, List.map_nil, List.getD_cons_zero, List.getD_cons_succ]
  unfold b82
  have h := h.bare
  have hE : ∀ s, Kept st.bare s → Kept st (bk st s) := fun s k => ⟨k.nx, rfl, k.keep⟩
  have hB : ∀ s c, But st.bare s c → But st (bk st s) c := fun s c k => ⟨k.nx, rfl, k.keep⟩
  have hS0 : bk st st.bare = st := rfl
  have hnx0 : st.bare.nx = st.nx := rfl
  have hfr0 : st.bare.fr = [] := rfl
  generalize st.bare = s0 at *
  obtain ⟨b, c, xx, rfl, hC⟩ := h.ex
  simp (disch := first | decide | assumption | omega | (simp only [nx_nw, nx_wr, nx_ap, nx_bare]; first | done | omega) | (simp (disch := first | assumption | omega | (simp only [nx_nw, nx_wr, nx_ap, nx_bare]; first | done | omega)) only [rRu, List.length_cons, List.length_nil]; first | done | omega | decide)) only [Nat.reduceAdd, Nat.reduceSub, Nat.reduceMul, Nat.zero_add, a_new, a_box, a_st, a_ldA, rats_nwE, rats_nwO, rats_wr, rats_wrO, upd_nil, upd_00, upd_0, upd_S, upd_e, nx_nw, nx_wr, nx_ap, nx_bare, h_bare, len_nwE, len_nwO, len_wr, at_nwE, at_nwO, at_wr, at_wrB, at_wrA, at_wrO, cells_agg, cells_int, cells_str, cells_bool, cells_slice, cells_nils, cells_ptr, a_build0, a_buildc, a_bS, a_bS0, a_bSc, rep_0, rep_S, i_buildP, i_buildSP, r_ps0, r_ps1, i_fnA, i_slS1, i_slS2, i_slS3, v_idxS0, v_iface, r_resA, r_dops, r_dnil, r_dcons0, r_dcons1, h_0, h_1, h_rw, h_wr, h_n1, h_n2, lg_0, lg_S, te_0, te_1, te_2, vl_c, vl_l, vl_ls, vl_g, vl_gs, true_and, and_true, and_self, List.getD_cons_zero, List.getD_cons_succ, rRd, rRe, rRf, Bool.not_true, Bool.not_false, List.cons_append, List.nil_append, List.append_nil]
  refine wC_loopH (fun mm L s => ∃ k : Nat, k ≤ S.length ∧ mm = S.length - k ∧ s = s0 ∧ x ∉ S.take k ∧ Has L 0 (.slice b 0 S.length c 1 xx) ∧ Has L 1 (.str x) ∧ Has L 7 (.int .i64 (S.length : Int)) ∧ Has L 8 (.int .i64 (k : Int))) ?_ S.length ?_
  · rintro mm L s ⟨k, hk, rfl, rfl, hx, i0, i1, i7, i8⟩
    unfold Hold
    by_cases hkn : k < S.length
    · have lt : k < rlen s.h b := by rw [hC.len, hlen]; exact hkn
      have e1 : rat s.h b k = .str (S.getD k []) := by rw [hC.cell k (by rw [hlen]; exact hkn), strs_at hkn]
      have hm : S.getD k [] ∈ S := by rw [List.getD_eq_getElem?_getD, List.getElem?_eq_getElem hkn]; exact List.getElem_mem hkn
      by_cases he : x = S.getD k []
      · simp (disch := first | decide | assumption | omega | (simp only [nx_nw, nx_wr, nx_ap, nx_bare]; first | done | omega) | (simp (disch := first | assumption | omega | (simp only [nx_nw, nx_wr, nx_ap, nx_bare]; first | done | omega)) only [rRu, List.length_cons, List.length_nil]; first | done | omega | decide)) only [r_onh i0, r_onh i1, r_onh i7, r_onh i8, Nat.mul_one, Nat.zero_add, e1, Nat.reduceAdd, Nat.reduceSub, Nat.reduceMul, Nat.zero_add, a_new, a_box, a_st, a_ldA, rats_nwE, rats_nwO, rats_wr, rats_wrO, upd_nil, upd_00, upd_0, upd_S, upd_e, nx_nw, nx_wr, nx_ap, nx_bare, h_bare, len_nwE, len_nwO, len_wr, at_nwE, at_nwO, at_wr, at_wrB, at_wrA, at_wrO, cells_agg, cells_int, cells_str, cells_bool, cells_slice, cells_nils, cells_ptr, a_build0, a_buildc, a_bS, a_bS0, a_bSc, rep_0, rep_S, i_buildP, i_buildSP, r_ps0, r_ps1, i_fnA, i_slS1, i_slS2, i_slS3, v_idxS0, v_iface, r_resA, r_dops, r_dnil, r_dcons0, r_dcons1, h_0, h_1, h_rw, h_wr, h_n1, h_n2, lg_0, lg_S, te_0, te_1, te_2, vl_c, vl_l, vl_ls, vl_g, vl_gs, true_and, and_true, and_self, List.getD_cons_zero, List.getD_cons_succ, rRd, rRe, rRf, Bool.not_true, Bool.not_false, List.cons_append, List.nil_append, List.append_nil]
        rw [hS0]
        exact hK _ ⟨fun _ => by rw [he]; exact hm, fun _ => by omega⟩
      · simp (disch := first | decide | assumption | omega | (simp only [nx_nw, nx_wr, nx_ap, nx_bare]; first | done | omega) | (simp (disch := first | assumption | omega | (simp only [nx_nw, nx_wr, nx_ap, nx_bare]; first | done | omega)) only [rRu, List.length_cons, List.length_nil]; first | done | omega | decide)) only [r_onh i0, r_onh i1, r_onh i7, r_onh i8, Nat.mul_one, Nat.zero_add, e1, v_addN, Nat.reduceAdd, Nat.reduceSub, Nat.reduceMul, Nat.zero_add, a_new, a_box, a_st, a_ldA, rats_nwE, rats_nwO, rats_wr, rats_wrO, upd_nil, upd_00, upd_0, upd_S, upd_e, nx_nw, nx_wr, nx_ap, nx_bare, h_bare, len_nwE, len_nwO, len_wr, at_nwE, at_nwO, at_wr, at_wrB, at_wrA, at_wrO, cells_agg, cells_int, cells_str, cells_bool, cells_slice, cells_nils, cells_ptr, a_build0, a_buildc, a_bS, a_bS0, a_bSc, rep_0, rep_S, i_buildP, i_buildSP, r_ps0, r_ps1, i_fnA, i_slS1, i_slS2, i_slS3, v_idxS0, v_iface, r_resA, r_dops, r_dnil, r_dcons0, r_dcons1, h_0, h_1, h_rw, h_wr, h_n1, h_n2, lg_0, lg_S, te_0, te_1, te_2, vl_c, vl_l, vl_ls, vl_g, vl_gs, true_and, and_true, and_self, List.getD_cons_zero, List.getD_cons_succ, rRd, rRe, rRf, Bool.not_true, Bool.not_false, List.cons_append, List.nil_append, List.append_nil]
        refine ⟨S.length - (k + 1), by omega, k + 1, by omega, rfl, ?_, ?_⟩
        · rw [List.take_add_one, List.getElem?_eq_getElem hkn]
          intro h
          rcases List.mem_append.1 h with h | h
          · exact hx h
          · rw [List.getD_eq_getElem?_getD, List.getElem?_eq_getElem hkn] at he
            simp at h he
            exact he h
        · simp (disch := decide) only [z0, z1, h_here, h_skip, i0, i1, i7, true_and, and_true]
    · simp (disch := first | decide | assumption | omega | (simp only [nx_nw, nx_wr, nx_ap, nx_bare]; first | done | omega) | (simp (disch := first | assumption | omega | (simp only [nx_nw, nx_wr, nx_ap, nx_bare]; first | done | omega)) only [rRu, List.length_cons, List.length_nil]; first | done | omega | decide)) only [r_onh i0, r_onh i1, r_onh i7, r_onh i8, Nat.reduceAdd, Nat.reduceSub, Nat.reduceMul, Nat.zero_add, a_new, a_box, a_st, a_ldA, rats_nwE, rats_nwO, rats_wr, rats_wrO, upd_nil, upd_00, upd_0, upd_S, upd_e, nx_nw, nx_wr, nx_ap, nx_bare, h_bare, len_nwE, len_nwO, len_wr, at_nwE, at_nwO, at_wr, at_wrB, at_wrA, at_wrO, cells_agg, cells_int, cells_str, cells_bool, cells_slice, cells_nils, cells_ptr, a_build0, a_buildc, a_bS, a_bS0, a_bSc, rep_0, rep_S, i_buildP, i_buildSP, r_ps0, r_ps1, i_fnA, i_slS1, i_slS2, i_slS3, v_idxS0, v_iface, r_resA, r_dops, r_dnil, r_dcons0, r_dcons1, h_0, h_1, h_rw, h_wr, h_n1, h_n2, lg_0, lg_S, te_0, te_1, te_2, vl_c, vl_l, vl_ls, vl_g, vl_gs, true_and, and_true, and_self, List.getD_cons_zero, List.getD_cons_succ, rRd, rRe, rRf, Bool.not_true, Bool.not_false, List.cons_append, List.nil_append, List.append_nil]
      have : S.take k = S := List.take_of_length_le (by omega)
      rw [this] at hx
      rw [hS0]
      exact hK _ ⟨fun h => absurd h (by omega), fun h => absurd h hx⟩
  · refine ⟨0, by omega, rfl, by first | rfl | trivial, by simp, ?_⟩
    simp (disch := decide) only [z0, z1, h_here, h_skip, true_and, and_true]
theorem contains_ok (hb : NB base) {v : AV} {S : List (List Nat)} (hS : S.length ≤ 1000000) (x : List Nat) (st : St) (h : SS st v S) (K : AV → St → Prop)
    (hK : K (.bool (decide (x ∈ S))) st) : CB Tryd.prog base 73 [v, .str x] st K := by
  refine fn_ruleB l73 (hb.at _ (by decide) _ _) ?_
  simp only [c73, entry, List.map_cons, List.map_nil, List.getD_cons_zero, List.getD_cons_succ]
  unfold b73
  simp (disch := first | decide | assumption | omega | (simp only [nx_nw, nx_wr, nx_ap, nx_bare]; first | done | omega) | (simp (disch := first | assumption | omega | (simp only [nx_nw, nx_wr, nx_ap, nx_bare]; first | done | omega)) only [rRu, List.length_cons, List.length_nil]; first | done | omega | decide)) only [Nat.reduceAdd, Nat.reduceSub, Nat.reduceMul, Nat.zero_add, a_new, a_box, a_st, a_ldA, rats_nwE, rats_nwO, rats_wr, rats_wrO, upd_nil, upd_00, upd_0, upd_S, upd_e, nx_nw, nx_wr, nx_ap, nx_bare, h_bare, len_nwE, len_nwO, len_wr, at_nwE, at_nwO, at_wr, at_wrB, at_wrA, at_wrO, cells_agg, cells_int, cells_str, cells_bool, cells_slice, cells_nils, cells_ptr, a_build0, a_buildc, a_bS, a_bS0, a_bSc, rep_0, rep_S, i_buildP, i_buildSP, r_ps0, r_ps1, i_fnA, i_slS1, i_slS2, i_slS3, v_idxS0, v_iface, r_resA, r_dops, r_dnil, r_dcons0, r_dcons1, h_0, h_1, h_rw, h_wr, h_n1, h_n2, lg_0, lg_S, te_0, te_1, te_2, vl_c, vl_l, vl_ls, vl_g, vl_gs, true_and, and_true, and_self, List.getD_cons_zero, List.getD_cons_succ, rRd, rRe, rRf, Bool.not_true, Bool.not_false, List.cons_append, List.nil_append, List.append_nil]
  have h := h.bare
  have hE : ∀ s, Kept st.bare s → Kept st (bk st s) := fun s k => ⟨k.nx, rfl, k.keep⟩
  have hB : ∀ s c, But st.bare s c → But st (bk st s) c := fun s c k => ⟨k.nx, rfl, k.keep⟩
  have hS0 : bk st st.bare = st := rfl
  have hnx0 : st.bare.nx = st.nx := rfl
  have hfr0 : st.bare.fr = [] := rfl
  generalize st.bare = s0 at *
  refine index_ok hb hS x _ h _ fun n hn => ?_
  by_cases hx : x ∈ S
  · have h0 : (0 : Int) ≤ n := hn.2 hx
    rw [decide_eq_true hx] at hK
    simp (disch := first | decide | assumption | omega | (simp only [nx_nw, nx_wr, nx_ap, nx_bare]; first | done | omega) | (simp (disch := first | assumption | omega | (simp only [nx_nw, nx_wr, nx_ap, nx_bare]; first | done | omega)) only [rRu, List.length_cons, List.length_nil]; first | done | omega | decide)) only [Nat.reduceAdd, Nat.reduceSub, Nat.reduceMul, Nat.zero_add, a_new, a_box, a_st, a_ldA, rats_nwE, rats_nwO, rats_wr, rats_wrO, upd_nil, upd_00, upd_0, upd_S, upd_e, nx_nw, nx_wr, nx_ap, nx_bare, h_bare, len_nwE, len_nwO, len_wr, at_nwE, at_nwO, at_wr, at_wrB, at_wrA, at_wrO, cells_agg, cells_int, cells_str, cells_bool, cells_slice, cells_nils, cells_ptr, a_build0, a_buildc, a_bS, a_bS0, a_bSc, rep_0, rep_S, i_buildP, i_buildSP, r_ps0, r_ps1, i_fnA, i_slS1, i_slS2, i_slS3, v_idxS0, v_iface, r_resA, r_dops, r_dnil, r_dcons0, r_dcons1, h_0, h_1, h_rw, h_wr, h_n1, h_n2, lg_0, lg_S, te_0, te_1, te_2, vl_c, vl_l, vl_ls, vl_g, vl_gs, true_and, and_true, and_self, List.getD_cons_zero, List.getD_cons_succ, rRd, rRe, rRf, Bool.not_true, Bool.not_false, List.cons_append, List.nil_append, List.append_nil]
    rw [hS0]
    exact hK
  · have h0 : ¬ (0 : Int) ≤ n := fun h => hx (hn.1 h)
    have h1 : n < (0 : Int) := by omega
    rw [decide_eq_false hx] at hK
    simp (disch := first | decide | assumption | omega | (simp only [nx_nw, nx_wr, nx_ap, nx_bare]; first | done | omega) | (simp (disch := first | assumption | omega | (simp only [nx_nw, nx_wr, nx_ap, nx_bare]; first | done | omega)) only [rRu, List.length_cons, List.length_nil]; first | done | omega | decide)) only [Nat.reduceAdd, Nat.reduceSub, Nat.reduceMul, Nat.zero_add, a_new, a_box, a_st, a_ldA, rats_nwE, rats_nwO, rats_wr, rats_wrO, upd_nil, upd_00, upd_0, upd_S, upd_e, nx_nw, nx_wr, nx_ap, nx_bare, h_bare, len_nwE, len_nwO, len_wr, at_nwE, at_nwO, at_wr, at_wrB, at_wrA, at_wrO, cells_agg, cells_int, cells_str, cells_bool, cells_slice, cells_nils, cells_ptr, a_build0, a_buildc, a_bS, a_bS0, a_bSc, rep_0, rep_S, i_buildP, i_buildSP, r_ps0, r_ps1, i_fnA, i_slS1, i_slS2, i_slS3, v_idxS0, v_iface, r_resA, r_dops, r_dnil, r_dcons0, r_dcons1, h_0, h_1, h_rw, h_wr, h_n1, h_n2, lg_0, lg_S, te_0, te_1, te_2, vl_c, vl_l, vl_ls, vl_g, vl_gs, true_and, and_true, and_self, List.getD_cons_zero, List.getD_cons_succ, rRd, rRe, rRf, Bool.not_true, Bool.not_false, List.cons_append, List.nil_append, List.append_nil]
    rw [hS0]
    exact hK
def isM (t : Tk) (S : List (List Nat)) : Bool := decide (t.kind = 3 ∨ t.kind = 4) && decide (t.text ∈ S)
theorem cell_tk (t : Tk) : lall AV.cell t.cells = true := nr rfl
theorem tk_len (t : Tk) : t.cells.length = 5 := nr rfl
theorem tk_0 (t : Tk) : t.cells.getD 0 .bad = .int .i64 (t.kind : Int) := nr rfl
theorem tk_1 (t : Tk) : t.cells.getD 1 .bad = .str t.text := nr rfl
theorem tk_2 (t : Tk) : t.cells.getD 2 .bad = .int .i64 (t.num : Int) := nr rfl
theorem tk_3 (t : Tk) : t.cells.getD 3 .bad = .int .i64 (t.line : Int) := nr rfl
theorem tk_4 (t : Tk) : t.cells.getD 4 .bad = .int .i64 (t.col : Int) := nr rfl
theorem is_ok (hb : NB base) (t : Tk) {v : AV} {S : List (List Nat)} (hS : S.length ≤ 1000000) (st : St) (h : SS st v S) (K : AV → St → Prop)
    (hK : ∀ st', Kept st st' → K (.bool (isM t S)) st') : CB Tryd.prog base 53 [.agg t.cells, v] st K := by
  refine fn_ruleB l53 (hb.at _ (by decide) _ _) ?_
  simp only [c53, entry, List.map_cons, List.map_nil, List.getD_cons_zero, List.getD_cons_succ]
  unfold b53
  have h := h.bare
  have hE : ∀ s, Kept st.bare s → Kept st (bk st s) := fun s k => ⟨k.nx, rfl, k.keep⟩
  have hB : ∀ s c, But st.bare s c → But st (bk st s) c := fun s c k => ⟨k.nx, rfl, k.keep⟩
  have hS0 : bk st st.bare = st := rfl
  have hnx0 : st.bare.nx = st.nx := rfl
  have hfr0 : st.bare.fr = [] := rfl
  generalize st.bare = s0 at *
  have k1 : Kept s0 (nw s0 t.cells) := (Kept.refl _).nw _
  by_cases h3 : t.kind = 3
  · have h3' : (t.kind : Int) = 3 := by omega
    have eM : isM t S = decide (t.text ∈ S) := by simp [isM, h3]
    simp (disch := first | decide | assumption | omega | (simp only [nx_nw, nx_wr, nx_ap, nx_bare]; first | done | omega) | (simp (disch := first | assumption | omega | (simp only [nx_nw, nx_wr, nx_ap, nx_bare]; first | done | omega)) only [cell_tk, tk_len, rRu, List.length_cons, List.length_nil]; first | done | omega | decide)) only [tk_0, tk_1, cell_tk, tk_len, Nat.reduceAdd, Nat.reduceSub, Nat.reduceMul, Nat.zero_add, a_new, a_box, a_st, a_ldA, rats_nwE, rats_nwO, rats_wr, rats_wrO, upd_nil, upd_00, upd_0, upd_S, upd_e, nx_nw, nx_wr, nx_ap, nx_bare, h_bare, len_nwE, len_nwO, len_wr, at_nwE, at_nwO, at_wr, at_wrB, at_wrA, at_wrO, cells_agg, cells_int, cells_str, cells_bool, cells_slice, cells_nils, cells_ptr, a_build0, a_buildc, a_bS, a_bS0, a_bSc, rep_0, rep_S, i_buildP, i_buildSP, r_ps0, r_ps1, i_fnA, i_slS1, i_slS2, i_slS3, v_idxS0, v_iface, r_resA, r_dops, r_dnil, r_dcons0, r_dcons1, h_0, h_1, h_rw, h_wr, h_n1, h_n2, lg_0, lg_S, te_0, te_1, te_2, vl_c, vl_l, vl_ls, vl_g, vl_gs, true_and, and_true, and_self, List.getD_cons_zero, List.getD_cons_succ, rRd, rRe, rRf, Bool.not_true, Bool.not_false, List.cons_append, List.nil_append, List.append_nil]
    refine contains_ok hb hS _ _ (h.kept k1) _ ?_
    simp (disch := first | decide | assumption | omega | (simp only [nx_nw, nx_wr, nx_ap, nx_bare]; first | done | omega) | (simp (disch := first | assumption | omega | (simp only [nx_nw, nx_wr, nx_ap, nx_bare]; first | done | omega)) only [rRu, List.length_cons, List.length_nil]; first | done | omega | decide)) only [Nat.reduceAdd, Nat.reduceSub, Nat.reduceMul, Nat.zero_add, a_new, a_box, a_st, a_ldA, rats_nwE, rats_nwO, rats_wr, rats_wrO, upd_nil, upd_00, upd_0, upd_S, upd_e, nx_nw, nx_wr, nx_ap, nx_bare, h_bare, len_nwE, len_nwO, len_wr, at_nwE, at_nwO, at_wr, at_wrB, at_wrA, at_wrO, cells_agg, cells_int, cells_str, cells_bool, cells_slice, cells_nils, cells_ptr, a_build0, a_buildc, a_bS, a_bS0, a_bSc, rep_0, rep_S, i_buildP, i_buildSP, r_ps0, r_ps1, i_fnA, i_slS1, i_slS2, i_slS3, v_idxS0, v_iface, r_resA, r_dops, r_dnil, r_dcons0, r_dcons1, h_0, h_1, h_rw, h_wr, h_n1, h_n2, lg_0, lg_S, te_0, te_1, te_2, vl_c, vl_l, vl_ls, vl_g, vl_gs, true_and, and_true, and_self, List.getD_cons_zero, List.getD_cons_succ, rRd, rRe, rRf, Bool.not_true, Bool.not_false, List.cons_append, List.nil_append, List.append_nil]
    rw [← eM]
    exact hK _ (hE _ k1)
  · have h3' : (t.kind : Int) ≠ 3 := by omega
    by_cases h4 : t.kind = 4
    · have h4' : (t.kind : Int) = 4 := by omega
      have eM : isM t S = decide (t.text ∈ S) := by simp [isM, h4]
      simp (disch := first | decide | assumption | omega | (simp only [nx_nw, nx_wr, nx_ap, nx_bare]; first | done | omega) | (simp (disch := first | assumption | omega | (simp only [nx_nw, nx_wr, nx_ap, nx_bare]; first | done | omega)) only [cell_tk, tk_len, rRu, List.length_cons, List.length_nil]; first | done | omega | decide)) only [tk_0, tk_1, cell_tk, tk_len, Nat.reduceAdd, Nat.reduceSub, Nat.reduceMul, Nat.zero_add, a_new, a_box, a_st, a_ldA, rats_nwE, rats_nwO, rats_wr, rats_wrO, upd_nil, upd_00, upd_0, upd_S, upd_e, nx_nw, nx_wr, nx_ap, nx_bare, h_bare, len_nwE, len_nwO, len_wr, at_nwE, at_nwO, at_wr, at_wrB, at_wrA, at_wrO, cells_agg, cells_int, cells_str, cells_bool, cells_slice, cells_nils, cells_ptr, a_build0, a_buildc, a_bS, a_bS0, a_bSc, rep_0, rep_S, i_buildP, i_buildSP, r_ps0, r_ps1, i_fnA, i_slS1, i_slS2, i_slS3, v_idxS0, v_iface, r_resA, r_dops, r_dnil, r_dcons0, r_dcons1, h_0, h_1, h_rw, h_wr, h_n1, h_n2, lg_0, lg_S, te_0, te_1, te_2, vl_c, vl_l, vl_ls, vl_g, vl_gs, true_and, and_true, and_self, List.getD_cons_zero, List.getD_cons_succ, rRd, rRe, rRf, Bool.not_true, Bool.not_false, List.cons_append, List.nil_append, List.append_nil]
      refine contains_ok hb hS _ _ (h.kept k1) _ ?_
      simp (disch := first | decide | assumption | omega | (simp only [nx_nw, nx_wr, nx_ap, nx_bare]; first | done | omega) | (simp (disch := first | assumption | omega | (simp only [nx_nw, nx_wr, nx_ap, nx_bare]; first | done | omega)) only [rRu, List.length_cons, List.length_nil]; first | done | omega | decide)) only [Nat.reduceAdd, Nat.reduceSub, Nat.reduceMul, Nat.zero_add, a_new, a_box, a_st, a_ldA, rats_nwE, rats_nwO, rats_wr, rats_wrO, upd_nil, upd_00, upd_0, upd_S, upd_e, nx_nw, nx_wr, nx_ap, nx_bare, h_bare, len_nwE, len_nwO, len_wr, at_nwE, at_nwO, at_wr, at_wrB, at_wrA, at_wrO, cells_agg, cells_int, cells_str, cells_bool, cells_slice, cells_nils, cells_ptr, a_build0, a_buildc, a_bS, a_bS0, a_bSc, rep_0, rep_S, i_buildP, i_buildSP, r_ps0, r_ps1, i_fnA, i_slS1, i_slS2, i_slS3, v_idxS0, v_iface, r_resA, r_dops, r_dnil, r_dcons0, r_dcons1, h_0, h_1, h_rw, h_wr, h_n1, h_n2, lg_0, lg_S, te_0, te_1, te_2, vl_c, vl_l, vl_ls, vl_g, vl_gs, true_and, and_true, and_self, List.getD_cons_zero, List.getD_cons_succ, rRd, rRe, rRf, Bool.not_true, Bool.not_false, List.cons_append, List.nil_append, List.append_nil]
      rw [← eM]
      exact hK _ (hE _ k1)
    · have h4' : (t.kind : Int) ≠ 4 := by omega
      have eM : isM t S = false := by simp [isM, h3, h4]
      simp (disch := first | decide | assumption | omega | (simp only [nx_nw, nx_wr, nx_ap, nx_bare]; first | done | omega) | (simp (disch := first | assumption | omega | (simp only [nx_nw, nx_wr, nx_ap, nx_bare]; first | done | omega)) only [cell_tk, tk_len, rRu, List.length_cons, List.length_nil]; first | done | omega | decide)) only [tk_0, tk_1, cell_tk, tk_len, Nat.reduceAdd, Nat.reduceSub, Nat.reduceMul, Nat.zero_add, a_new, a_box, a_st, a_ldA, rats_nwE, rats_nwO, rats_wr, rats_wrO, upd_nil, upd_00, upd_0, upd_S, upd_e, nx_nw, nx_wr, nx_ap, nx_bare, h_bare, len_nwE, len_nwO, len_wr, at_nwE, at_nwO, at_wr, at_wrB, at_wrA, at_wrO, cells_agg, cells_int, cells_str, cells_bool, cells_slice, cells_nils, cells_ptr, a_build0, a_buildc, a_bS, a_bS0, a_bSc, rep_0, rep_S, i_buildP, i_buildSP, r_ps0, r_ps1, i_fnA, i_slS1, i_slS2, i_slS3, v_idxS0, v_iface, r_resA, r_dops, r_dnil, r_dcons0, r_dcons1, h_0, h_1, h_rw, h_wr, h_n1, h_n2, lg_0, lg_S, te_0, te_1, te_2, vl_c, vl_l, vl_ls, vl_g, vl_gs, true_and, and_true, and_self, List.getD_cons_zero, List.getD_cons_succ, rRd, rRe, rRf, Bool.not_true, Bool.not_false, List.cons_append, List.nil_append, List.append_nil]
      rw [eM] at hK
      exact hK _ (hE _ k1)
end Go.Sy
end

section
set_option maxRecDepth 100000
namespace Go.Sy
open Go.Ev Go.Proofs
variable {base : CallF}
def tk (ts : List Tk) (i : Nat) : Tk := ts.getD i ⟨0, [], 0, 0, 0⟩
theorem Ts.kept {a s : St} {b : Nat} {ts : List Tk} (h : Ts a b ts) (k : Kept a s) : Ts s b ts := h.keep k.nx (k.keep b h.lt)
theorem Ts.ld {s : St} {b i : Nat} {ts : List Tk} (h : Ts s b ts) (hi : i < ts.length) (K : AV → St → Prop) : onER (ldAV 5 (.ptr b (i * 5)) s) K = K (.agg (tk ts i).cells) s := by
  have hl := h.len
  rw [v_ldAn (by decide) (by omega)]
  have e : ((List.range 5).map fun j => rat s.h b (i * 5 + j)) = (tk ts i).cells := by
    have c : ∀ j, j < 5 → rat s.h b (i * 5 + j) = (tk ts i).cells.getD j .bad := fun j hj => by
      rw [show i * 5 + j = 5 * i + j by omega, h.cell _ (by omega), tcells_at hi hj]; rfl
    show [rat s.h b (i * 5 + 0), rat s.h b (i * 5 + 1), rat s.h b (i * 5 + 2), rat s.h b (i * 5 + 3), rat s.h b (i * 5 + 4)] = _
    rw [c 0 (by decide), c 1 (by decide), c 2 (by decide), c 3 (by decide), c 4 (by decide)]
    rfl
  rw [e]
theorem Ts.rats {s : St} {b i : Nat} {ts : List Tk} (h : Ts s b ts) (hi : i < ts.length) : Go.Sy.rats s.h b (i * 5) 5 = (tk ts i).cells := rats_ext rfl fun j hj => by
  rw [show i * 5 + j = 5 * i + j by omega, h.cell _ (by omega), tcells_at hi hj]; rfl
/-- a parser: its words, where it is, how deep -/
structure Pk (s : St) (p b : Nat) (ts : List Tk) (i d : Nat) : Prop where
  lt : p < s.nx
  len : rlen s.h p = 3
  c0 : rat s.h p 0 = .slice b 0 ts.length ts.length 5 false
  c1 : rat s.h p 1 = .int .i64 (i : Int)
  c2 : rat s.h p 2 = .int .i64 (d : Int)
  ne : b ≠ p
  ts : Ts s b ts
theorem Pk.keep {a s : St} {p b : Nat} {ts : List Tk} {i d : Nat} (h : Pk a p b ts i d) (hn : a.nx ≤ s.nx) (hk : ∀ x, x < a.nx → hget s.h x = hget a.h x) : Pk s p b ts i d :=
  have k := hk p h.lt
  ⟨Nat.lt_of_lt_of_le h.lt hn, (rlen_same k).trans h.len, (rat_same k 0).trans h.c0, (rat_same k 1).trans h.c1, (rat_same k 2).trans h.c2, h.ne, h.ts.keep hn (hk b h.ts.lt)⟩
theorem Pk.kept {a s : St} {p b : Nat} {ts : List Tk} {i d : Nat} (h : Pk a p b ts i d) (k : Kept a s) : Pk s p b ts i d := h.keep k.nx k.keep
theorem Pk.ext {a s : St} {p b : Nat} {ts : List Tk} {i d : Nat} (h : Pk a p b ts i d) (k : Ext a s) : Pk s p b ts i d := h.keep k.nx k.keep
theorem Pk.bare {a : St} {p b : Nat} {ts : List Tk} {i d : Nat} (h : Pk a p b ts i d) : Pk a.bare p b ts i d := ⟨h.lt, h.len, h.c0, h.c1, h.c2, h.ne, ⟨h.ts.lt, h.ts.len, h.ts.cell⟩⟩
theorem Pk.bk {s : St} {p b : Nat} {ts : List Tk} {i d : Nat} (h : Pk s p b ts i d) (a : St) : Pk (Go.Sy.bk a s) p b ts i d := ⟨h.lt, h.len, h.c0, h.c1, h.c2, h.ne, ⟨h.ts.lt, h.ts.len, h.ts.cell⟩⟩
theorem Pk.back {a s : St} {p b : Nat} {ts : List Tk} {i d : Nat} (h : Pk s p b ts i d) : Pk (Go.Ev.back a s) p b ts i d := ⟨h.lt, h.len, h.c0, h.c1, h.c2, h.ne, ⟨h.ts.lt, h.ts.len, h.ts.cell⟩⟩
theorem Pk.nw {a : St} {p b : Nat} {ts : List Tk} {i d : Nat} (h : Pk a p b ts i d) (cs : List AV) : Pk (nw a cs) p b ts i d := h.kept ((Kept.refl _).nw cs)
theorem Pk.wr {a : St} {p b : Nat} {ts : List Tk} {i d : Nat} (h : Pk a p b ts i d) {c : Nat} (h1 : c ≠ p) (h2 : c ≠ b) (o : Nat) (vs : List AV) : Pk (wr a c o vs) p b ts i d := by
  have k := get_wrO (s := a) (o := o) (vs := vs) (Ne.symm h1)
  exact ⟨h.lt, (rlen_same k).trans h.len, (rat_same k 0).trans h.c0, (rat_same k 1).trans h.c1, (rat_same k 2).trans h.c2, h.ne, h.ts.keep (Nat.le_refl _) (get_wrO (Ne.symm h2))⟩
theorem Pk.wrS {a : St} {p b : Nat} {ts : List Tk} {i d c o : Nat} {vs : List AV} (h1 : c ≠ p) (h2 : c ≠ b) (h : Pk a p b ts i d) : Pk (Go.Sy.wr a c o vs) p b ts i d := h.wr h1 h2 o vs
theorem Pk.put1 {a : St} {p b : Nat} {ts : List Tk} {i d : Nat} (h : Pk a p b ts i d) (j : Nat) : Pk (Go.Sy.wr a p 1 [.int .i64 (j : Int)]) p b ts j d :=
  ⟨h.lt, (len_wr _ _ _ _ _).trans h.len, (at_wrB (by decide)).trans h.c0, at_wr (Nat.le_refl _) (by simp), (at_wrA (by simp)).trans h.c2, h.ne, h.ts.keep (Nat.le_refl _) (get_wrO h.ne)⟩
theorem Pk.put2 {a : St} {p b : Nat} {ts : List Tk} {i d : Nat} (h : Pk a p b ts i d) (j : Nat) : Pk (Go.Sy.wr a p 2 [.int .i64 (j : Int)]) p b ts i j :=
  ⟨h.lt, (len_wr _ _ _ _ _).trans h.len, (at_wrB (by decide)).trans h.c0, (at_wrB (by decide)).trans h.c1, at_wr (Nat.le_refl _) (by simp), h.ne, h.ts.keep (Nat.le_refl _) (get_wrO h.ne)⟩
theorem now_ok (hb : NB base) {p b : Nat} {ts : List Tk} {i d : Nat} (st : St) (P : Pk st p b ts i d) (hi : i < ts.length) (K : AV → St → Prop)
    (hK : ∀ s1, Kept st s1 → K (.agg (tk ts i).cells) s1) : CB Tryd.prog base 15 [.ptr p 0] st K := by
  refine fn_ruleB l15 (hb.at _ (by decide) _ _) ?_
  simp only [c15, entry, List.map_cons, List.map_nil, List.getD_cons_zero, List.getD_cons_succ]
  unfold b15
  have P := P.bare
  have hE : ∀ s, Kept st.bare s → Kept st (bk st s) := fun s k => ⟨k.nx, rfl, k.keep⟩
  have hB : ∀ s c, But st.bare s c → But st (bk st s) c := fun s c k => ⟨k.nx, rfl, k.keep⟩
  have hS0 : bk st st.bare = st := rfl
  have hnx0 : st.bare.nx = st.nx := rfl
  have hfr0 : st.bare.fr = [] := rfl
  generalize st.bare = s0 at *
  have hp := P.lt
  have hbl := P.ts.lt
  have hlen := P.ts.len
  have hT := P.ts.rats hi
  simp (disch := first | decide | assumption | omega | (simp only [nx_nw, nx_wr, nx_ap, nx_bare]; first | done | omega) | (simp (disch := first | assumption | omega | (simp only [nx_nw, nx_wr, nx_ap, nx_bare]; first | done | omega)) only [P.len, hlen, cell_tk, tk_len, rRu, List.length_cons, List.length_nil]; first | done | omega | decide)) only [P.c0, P.c1, hT, P.len, hlen, cell_tk, tk_len, Nat.reduceAdd, Nat.reduceSub, Nat.reduceMul, Nat.zero_add, a_new, a_box, a_st, a_ldA, rats_nwE, rats_nwO, rats_wr, rats_wrO, upd_nil, upd_00, upd_0, upd_S, upd_e, nx_nw, nx_wr, nx_ap, nx_bare, h_bare, len_nwE, len_nwO, len_wr, at_nwE, at_nwO, at_wr, at_wrB, at_wrA, at_wrO, cells_agg, cells_int, cells_str, cells_bool, cells_slice, cells_nils, cells_ptr, a_build0, a_buildc, a_bS, a_bS0, a_bSc, rep_0, rep_S, i_buildP, i_buildSP, r_ps0, r_ps1, i_fnA, i_slS1, i_slS2, i_slS3, v_idxS0, v_iface, r_resA, r_dops, r_dnil, r_dcons0, r_dcons1, h_0, h_1, h_rw, h_wr, h_n1, h_n2, lg_0, lg_S, te_0, te_1, te_2, vl_c, vl_l, vl_ls, vl_g, vl_gs, true_and, and_true, and_self, List.getD_cons_zero, List.getD_cons_succ, rRd, rRe, rRf, Bool.not_true, Bool.not_false, List.cons_append, List.nil_append, List.append_nil]
  exact hK _ (hE _ (((Kept.refl _).nw _).wr (Nat.le_refl _) _ _))
theorem take_ok (hb : NB base) {p b : Nat} {ts : List Tk} {i d : Nat} (st : St) (P : Pk st p b ts i d) (hi : i < ts.length) (hi2 : i ≤ 1000000) {v : AV} {S : List (List Nat)} (hS : SS st v S) (hSl : S.length ≤ 1000000) (K : AV → St → Prop)
    (hT : isM (tk ts i) S = true → ∀ s1, But st s1 p → Pk s1 p b ts (i + 1) d → K (.tup [.agg (tk ts i).cells, .bool true]) s1)
    (hF : isM (tk ts i) S = false → ∀ s1, But st s1 p → Pk s1 p b ts i d → K (.tup [.agg (tk ts i).cells, .bool false]) s1) : CB Tryd.prog base 32 [.ptr p 0, v] st K := by
  refine fn_ruleB l32 (hb.at _ (by decide) _ _) ?_
  simp only [c32, entry, List.map_cons, List.map_nil, List.getD_cons_zero, List.getD_cons_succ]
  unfold b32
  have P := P.bare
  have hS := hS.bare
  have hE : ∀ s, Kept st.bare s → Kept st (bk st s) := fun s k => ⟨k.nx, rfl, k.keep⟩
  have hB : ∀ s c, But st.bare s c → But st (bk st s) c := fun s c k => ⟨k.nx, rfl, k.keep⟩
  have hS0 : bk st st.bare = st := rfl
  have hnx0 : st.bare.nx = st.nx := rfl
  have hfr0 : st.bare.fr = [] := rfl
  generalize st.bare = s0 at *
  have hp := P.lt
  have hbl := P.ts.lt
  generalize hz : [AV.int IntKind.i64 0, .str [], .int .i64 0, .int .i64 0, .int .i64 0] = z
  have hzl : z.length = 5 := by rw [← hz]; rfl
  simp (disch := first | decide | assumption | omega | (simp only [nx_nw, nx_wr, nx_ap, nx_bare]; first | done | omega) | (simp (disch := first | assumption | omega | (simp only [nx_nw, nx_wr, nx_ap, nx_bare]; first | done | omega)) only [rRu, List.length_cons, List.length_nil]; first | done | omega | decide)) only [Nat.reduceAdd, Nat.reduceSub, Nat.reduceMul, Nat.zero_add, a_new, a_box, a_st, a_ldA, rats_nwE, rats_nwO, rats_wr, rats_wrO, upd_nil, upd_00, upd_0, upd_S, upd_e, nx_nw, nx_wr, nx_ap, nx_bare, h_bare, len_nwE, len_nwO, len_wr, at_nwE, at_nwO, at_wr, at_wrB, at_wrA, at_wrO, cells_agg, cells_int, cells_str, cells_bool, cells_slice, cells_nils, cells_ptr, a_build0, a_buildc, a_bS, a_bS0, a_bSc, rep_0, rep_S, i_buildP, i_buildSP, r_ps0, r_ps1, i_fnA, i_slS1, i_slS2, i_slS3, v_idxS0, v_iface, r_resA, r_dops, r_dnil, r_dcons0, r_dcons1, h_0, h_1, h_rw, h_wr, h_n1, h_n2, lg_0, lg_S, te_0, te_1, te_2, vl_c, vl_l, vl_ls, vl_g, vl_gs, true_and, and_true, and_self, List.getD_cons_zero, List.getD_cons_succ, rRd, rRe, rRf, Bool.not_true, Bool.not_false, List.cons_append, List.nil_append, List.append_nil]
  have kA := (Kept.refl s0).nw z
  have CA := Cl.new s0 z
  have nA := nx_nw s0 z
  generalize hA : s0.nx = rb at *
  refine now_ok hb _ (P.kept kA) hi _ fun s1 k1 => ?_
  have k01 := kA.trans k1
  have P1 := P.kept k01
  have C1 := CA.kept k1
  have S1 := hS.kept k01
  have n1 := k1.nx
  generalize nw s0 z = u at *
  clear kA CA k1
  simp (disch := first | decide | assumption | omega | (simp only [nx_nw, nx_wr, nx_ap, nx_bare]; first | done | omega) | (simp (disch := first | assumption | omega | (simp only [nx_nw, nx_wr, nx_ap, nx_bare]; first | done | omega)) only [hzl, cell_tk, tk_len, rRu, List.length_cons, List.length_nil]; first | done | omega | decide)) only [hzl, cell_tk, tk_len, Nat.reduceAdd, Nat.reduceSub, Nat.reduceMul, Nat.zero_add, a_new, a_box, a_st, a_ldA, rats_nwE, rats_nwO, rats_wr, rats_wrO, upd_nil, upd_00, upd_0, upd_S, upd_e, nx_nw, nx_wr, nx_ap, nx_bare, h_bare, len_nwE, len_nwO, len_wr, at_nwE, at_nwO, at_wr, at_wrB, at_wrA, at_wrO, cells_agg, cells_int, cells_str, cells_bool, cells_slice, cells_nils, cells_ptr, a_build0, a_buildc, a_bS, a_bS0, a_bSc, rep_0, rep_S, i_buildP, i_buildSP, r_ps0, r_ps1, i_fnA, i_slS1, i_slS2, i_slS3, v_idxS0, v_iface, r_resA, r_dops, r_dnil, r_dcons0, r_dcons1, h_0, h_1, h_rw, h_wr, h_n1, h_n2, lg_0, lg_S, te_0, te_1, te_2, vl_c, vl_l, vl_ls, vl_g, vl_gs, true_and, and_true, and_self, List.getD_cons_zero, List.getD_cons_succ, rRd, rRe, rRf, Bool.not_true, Bool.not_false, List.cons_append, List.nil_append, List.append_nil]
  refine CB.gen fun u hu => ?_
  have k1u : Kept s1 u := by (first | rw [hu] | skip); repeat' (first | exact Kept.refl _ | assumption | refine Kept.nw ?_ _ | (refine Kept.wrS ?_ ?_; (first | omega | (simp only [nx_nw, nx_wr, nx_ap, nx_bare]; omega))) | (refine Kept.apS ?_ ?_; (first | omega | (simp only [nx_nw, nx_wr, nx_ap, nx_bare]; omega))))
  have C2 : Cl u s1.nx (tk ts i).cells := by ((first | rw [hu] | skip); refine Cl.of_rats (k := 5) ?_ ?_ ?_ (by decide) ?_ <;> first | (simp (disch := first | decide | assumption | omega | (simp only [nx_nw, nx_wr, nx_ap, nx_bare]; first | done | omega) | (simp (disch := first | assumption | omega | (simp only [nx_nw, nx_wr, nx_ap, nx_bare]; first | done | omega)) only [cell_tk, tk_len, rRu, List.length_cons, List.length_nil]; first | done | omega | decide)) only [cell_tk, tk_len, Nat.reduceAdd, Nat.reduceSub, Nat.reduceMul, Nat.zero_add, a_new, a_box, a_st, a_ldA, rats_nwE, rats_nwO, rats_wr, rats_wrO, upd_nil, upd_00, upd_0, upd_S, upd_e, nx_nw, nx_wr, nx_ap, nx_bare, h_bare, len_nwE, len_nwO, len_wr, at_nwE, at_nwO, at_wr, at_wrB, at_wrA, at_wrO, cells_agg, cells_int, cells_str, cells_bool, cells_slice, cells_nils, cells_ptr, a_build0, a_buildc, a_bS, a_bS0, a_bSc, rep_0, rep_S, i_buildP, i_buildSP, r_ps0, r_ps1, i_fnA, i_slS1, i_slS2, i_slS3, v_idxS0, v_iface, r_resA, r_dops, r_dnil, r_dcons0, r_dcons1, h_0, h_1, h_rw, h_wr, h_n1, h_n2, lg_0, lg_S, te_0, te_1, te_2, vl_c, vl_l, vl_ls, vl_g, vl_gs, true_and, and_true, and_self, List.getD_cons_zero, List.getD_cons_succ] <;> first | done | omega | rfl) | rfl)
  have P1 := P1.kept k1u
  have C1 := C1.kept k1u
  have S1 := S1.kept k1u
  have k02 := k01.trans k1u
  have hrt : rb ≠ s1.nx := by omega
  generalize s1.nx = tb at *
  clear hu k1u k01
  refine is_ok hb _ hSl _ S1 _ fun s3 k3 => ?_
  have k03 := k02.trans k3
  have P1 := P1.kept k3
  have C1 := C1.kept k3
  have C2 := C2.kept k3
  clear k3 k02
  have L1 := C1.lt
  have L2 := C2.lt
  have R2 := C2.rats0 (tk_len _)
  cases hm : isM (tk ts i) S with
  | false =>
    simp (disch := first | decide | assumption | omega | (simp only [nx_nw, nx_wr, nx_ap, nx_bare]; first | done | omega) | (simp (disch := first | assumption | omega | (simp only [nx_nw, nx_wr, nx_ap, nx_bare]; first | done | omega)) only [C1.len, C2.len, hzl, cell_tk, tk_len, rRu, List.length_cons, List.length_nil]; first | done | omega | decide)) only [R2, C1.len, C2.len, hzl, cell_tk, tk_len, Nat.reduceAdd, Nat.reduceSub, Nat.reduceMul, Nat.zero_add, a_new, a_box, a_st, a_ldA, rats_nwE, rats_nwO, rats_wr, rats_wrO, upd_nil, upd_00, upd_0, upd_S, upd_e, nx_nw, nx_wr, nx_ap, nx_bare, h_bare, len_nwE, len_nwO, len_wr, at_nwE, at_nwO, at_wr, at_wrB, at_wrA, at_wrO, cells_agg, cells_int, cells_str, cells_bool, cells_slice, cells_nils, cells_ptr, a_build0, a_buildc, a_bS, a_bS0, a_bSc, rep_0, rep_S, i_buildP, i_buildSP, r_ps0, r_ps1, i_fnA, i_slS1, i_slS2, i_slS3, v_idxS0, v_iface, r_resA, r_dops, r_dnil, r_dcons0, r_dcons1, h_0, h_1, h_rw, h_wr, h_n1, h_n2, lg_0, lg_S, te_0, te_1, te_2, vl_c, vl_l, vl_ls, vl_g, vl_gs, true_and, and_true, and_self, List.getD_cons_zero, List.getD_cons_succ, rRd, rRe, rRf, Bool.not_true, Bool.not_false, List.cons_append, List.nil_append, List.append_nil]
    exact hF hm _ (hB _ _ ((But.of p k03).wr (by omega) _ _)) ((P1.wr (by omega) (by omega) _ _).bk st)
  | true =>
    simp (disch := first | decide | assumption | omega | (simp only [nx_nw, nx_wr, nx_ap, nx_bare]; first | done | omega) | (simp (disch := first | assumption | omega | (simp only [nx_nw, nx_wr, nx_ap, nx_bare]; first | done | omega)) only [C1.len, C2.len, P1.len, hzl, cell_tk, tk_len, rRu, List.length_cons, List.length_nil]; first | done | omega | decide)) only [R2, P1.c1, v_addN, C1.len, C2.len, P1.len, hzl, cell_tk, tk_len, Nat.reduceAdd, Nat.reduceSub, Nat.reduceMul, Nat.zero_add, a_new, a_box, a_st, a_ldA, rats_nwE, rats_nwO, rats_wr, rats_wrO, upd_nil, upd_00, upd_0, upd_S, upd_e, nx_nw, nx_wr, nx_ap, nx_bare, h_bare, len_nwE, len_nwO, len_wr, at_nwE, at_nwO, at_wr, at_wrB, at_wrA, at_wrO, cells_agg, cells_int, cells_str, cells_bool, cells_slice, cells_nils, cells_ptr, a_build0, a_buildc, a_bS, a_bS0, a_bSc, rep_0, rep_S, i_buildP, i_buildSP, r_ps0, r_ps1, i_fnA, i_slS1, i_slS2, i_slS3, v_idxS0, v_iface, r_resA, r_dops, r_dnil, r_dcons0, r_dcons1, h_0, h_1, h_rw, h_wr, h_n1, h_n2, lg_0, lg_S, te_0, te_1, te_2, vl_c, vl_l, vl_ls, vl_g, vl_gs, true_and, and_true, and_self, List.getD_cons_zero, List.getD_cons_succ, rRd, rRe, rRf, Bool.not_true, Bool.not_false, List.cons_append, List.nil_append, List.append_nil]
    exact hT hm _ (hB _ _ (((But.of p k03).wrC _ _).wr (by omega) _ _)) (((P1.put1 (i + 1)).wr (by omega) (by omega) _ _).bk st)
/-- the fault of a word that can't stand there -/
def fltV (t : Tk) : AV := .iface 28 (.agg (fcells (151, t.line, t.col)))
theorem fail_ok (hb : NB base) (t : Tk) (st : St) (K Kp : AV → St → Prop) (hK : ∀ s1, Kept st s1 → Kp (fltV t) s1) : XB Tryd.prog base 16 [.agg t.cells] st K Kp := by
  refine fn_ruleXB x16 (by rfl) (hb.at _ (by decide) _ _) ?_
  simp only [y16, entry, List.map_cons, List.map_nil, List.getD_cons_zero, List.getD_cons_succ]
  unfold z16
  have hE : ∀ s, Kept st.bare s → Kept st (bk st s) := fun s k => ⟨k.nx, rfl, k.keep⟩
  have hB : ∀ s c, But st.bare s c → But st (bk st s) c := fun s c k => ⟨k.nx, rfl, k.keep⟩
  have hS0 : bk st st.bare = st := rfl
  have hnx0 : st.bare.nx = st.nx := rfl
  have hfr0 : st.bare.fr = [] := rfl
  generalize st.bare = s0 at *
  simp (disch := first | decide | assumption | omega | (simp only [nx_nw, nx_wr, nx_ap, nx_bare]; first | done | omega) | (simp (disch := first | assumption | omega | (simp only [nx_nw, nx_wr, nx_ap, nx_bare]; first | done | omega)) only [cell_tk, tk_len, rRu, List.length_cons, List.length_nil]; first | done | omega | decide)) only [tk_3, tk_4, cell_tk, tk_len, Nat.reduceAdd, Nat.reduceSub, Nat.reduceMul, Nat.zero_add, a_new, a_box, a_st, a_ldA, rats_nwE, rats_nwO, rats_wr, rats_wrO, upd_nil, upd_00, upd_0, upd_S, upd_e, nx_nw, nx_wr, nx_ap, nx_bare, h_bare, len_nwE, len_nwO, len_wr, at_nwE, at_nwO, at_wr, at_wrB, at_wrA, at_wrO, cells_agg, cells_int, cells_str, cells_bool, cells_slice, cells_nils, cells_ptr, a_build0, a_buildc, a_bS, a_bS0, a_bSc, rep_0, rep_S, i_buildP, i_buildSP, r_ps0, r_ps1, i_fnA, i_slS1, i_slS2, i_slS3, v_idxS0, v_iface, r_resA, r_dops, r_dnil, r_dcons0, r_dcons1, h_0, h_1, h_rw, h_wr, h_n1, h_n2, lg_0, lg_S, te_0, te_1, te_2, vl_c, vl_l, vl_ls, vl_g, vl_gs, true_and, and_true, and_self, List.getD_cons_zero, List.getD_cons_succ, rRx, rRd, rRe, rRf, Bool.not_true, Bool.not_false, List.cons_append, List.nil_append, List.append_nil]
  exact hK _ (hE _ ((Kept.refl _).nw _))
theorem must_ok (hb : NB base) {p b : Nat} {ts : List Tk} {i d : Nat} (st : St) (P : Pk st p b ts i d) (hi : i < ts.length) (hi2 : i ≤ 1000000) (x : List Nat) (K Kp : AV → St → Prop)
    (hT : isM (tk ts i) [x] = true → ∀ s1, But st s1 p → Pk s1 p b ts (i + 1) d → K (.tup []) s1)
    (hF : isM (tk ts i) [x] = false → ∀ s1, But st s1 p → Kp (fltV (tk ts i)) s1) : XB Tryd.prog base 55 [.ptr p 0, .str x] st K Kp := by
  refine fn_ruleXB x55 (by rfl) (hb.at _ (by decide) _ _) ?_
  simp only [y55, entry, List.map_cons, List.map_nil, List.getD_cons_zero, List.getD_cons_succ]
  unfold z55
  have P := P.bare
  have hE : ∀ s, Kept st.bare s → Kept st (bk st s) := fun s k => ⟨k.nx, rfl, k.keep⟩
  have hB : ∀ s c, But st.bare s c → But st (bk st s) c := fun s c k => ⟨k.nx, rfl, k.keep⟩
  have hS0 : bk st st.bare = st := rfl
  have hnx0 : st.bare.nx = st.nx := rfl
  have hfr0 : st.bare.fr = [] := rfl
  generalize st.bare = s0 at *
  simp (disch := first | decide | assumption | omega | (simp only [nx_nw, nx_wr, nx_ap, nx_bare]; first | done | omega) | (simp (disch := first | assumption | omega | (simp only [nx_nw, nx_wr, nx_ap, nx_bare]; first | done | omega)) only [rRu, List.length_cons, List.length_nil]; first | done | omega | decide)) only [Nat.reduceAdd, Nat.reduceSub, Nat.reduceMul, Nat.zero_add, a_new, a_box, a_st, a_ldA, rats_nwE, rats_nwO, rats_wr, rats_wrO, upd_nil, upd_00, upd_0, upd_S, upd_e, nx_nw, nx_wr, nx_ap, nx_bare, h_bare, len_nwE, len_nwO, len_wr, at_nwE, at_nwO, at_wr, at_wrB, at_wrA, at_wrO, cells_agg, cells_int, cells_str, cells_bool, cells_slice, cells_nils, cells_ptr, a_build0, a_buildc, a_bS, a_bS0, a_bSc, rep_0, rep_S, i_buildP, i_buildSP, r_ps0, r_ps1, i_fnA, i_slS1, i_slS2, i_slS3, v_idxS0, v_iface, r_resA, r_dops, r_dnil, r_dcons0, r_dcons1, h_0, h_1, h_rw, h_wr, h_n1, h_n2, lg_0, lg_S, te_0, te_1, te_2, vl_c, vl_l, vl_ls, vl_g, vl_gs, true_and, and_true, and_self, List.getD_cons_zero, List.getD_cons_succ, rRx, rRd, rRe, rRf, Bool.not_true, Bool.not_false, List.cons_append, List.nil_append, List.append_nil]
  have k1 := (Kept.refl s0).nw [.str x]
  have SSx : SS (nw s0 [.str x]) (.slice s0.nx 0 1 1 1 true) [x] := SS.new s0 [x]
  refine (take_ok hb _ (P.kept k1) hi hi2 SSx (by simp) _ (fun hm s1 B1 P1 => ?_) fun hm s1 B1 P1 => ?_).x
  · simp (disch := first | decide | assumption | omega | (simp only [nx_nw, nx_wr, nx_ap, nx_bare]; first | done | omega) | (simp (disch := first | assumption | omega | (simp only [nx_nw, nx_wr, nx_ap, nx_bare]; first | done | omega)) only [cell_tk, tk_len, rRu, List.length_cons, List.length_nil]; first | done | omega | decide)) only [cell_tk, tk_len, Nat.reduceAdd, Nat.reduceSub, Nat.reduceMul, Nat.zero_add, a_new, a_box, a_st, a_ldA, rats_nwE, rats_nwO, rats_wr, rats_wrO, upd_nil, upd_00, upd_0, upd_S, upd_e, nx_nw, nx_wr, nx_ap, nx_bare, h_bare, len_nwE, len_nwO, len_wr, at_nwE, at_nwO, at_wr, at_wrB, at_wrA, at_wrO, cells_agg, cells_int, cells_str, cells_bool, cells_slice, cells_nils, cells_ptr, a_build0, a_buildc, a_bS, a_bS0, a_bSc, rep_0, rep_S, i_buildP, i_buildSP, r_ps0, r_ps1, i_fnA, i_slS1, i_slS2, i_slS3, v_idxS0, v_iface, r_resA, r_dops, r_dnil, r_dcons0, r_dcons1, h_0, h_1, h_rw, h_wr, h_n1, h_n2, lg_0, lg_S, te_0, te_1, te_2, vl_c, vl_l, vl_ls, vl_g, vl_gs, true_and, and_true, and_self, List.getD_cons_zero, List.getD_cons_succ, rRx, rRd, rRe, rRf, Bool.not_true, Bool.not_false, List.cons_append, List.nil_append, List.append_nil]
    exact hT hm _ (hB _ _ ((((But.of p k1).trans B1).nw _).wr (by have := B1.nx; rw [nx_nw] at this; omega) _ _)) (((P1.nw _).wr (by have := P1.lt; omega) (by have := P1.ts.lt; omega) _ _).bk st)
  · simp (disch := first | decide | assumption | omega | (simp only [nx_nw, nx_wr, nx_ap, nx_bare]; first | done | omega) | (simp (disch := first | assumption | omega | (simp only [nx_nw, nx_wr, nx_ap, nx_bare]; first | done | omega)) only [cell_tk, tk_len, rRu, List.length_cons, List.length_nil]; first | done | omega | decide)) only [cell_tk, tk_len, Nat.reduceAdd, Nat.reduceSub, Nat.reduceMul, Nat.zero_add, a_new, a_box, a_st, a_ldA, rats_nwE, rats_nwO, rats_wr, rats_wrO, upd_nil, upd_00, upd_0, upd_S, upd_e, nx_nw, nx_wr, nx_ap, nx_bare, h_bare, len_nwE, len_nwO, len_wr, at_nwE, at_nwO, at_wr, at_wrB, at_wrA, at_wrO, cells_agg, cells_int, cells_str, cells_bool, cells_slice, cells_nils, cells_ptr, a_build0, a_buildc, a_bS, a_bS0, a_bSc, rep_0, rep_S, i_buildP, i_buildSP, r_ps0, r_ps1, i_fnA, i_slS1, i_slS2, i_slS3, v_idxS0, v_iface, r_resA, r_dops, r_dnil, r_dcons0, r_dcons1, h_0, h_1, h_rw, h_wr, h_n1, h_n2, lg_0, lg_S, te_0, te_1, te_2, vl_c, vl_l, vl_ls, vl_g, vl_gs, true_and, and_true, and_self, List.getD_cons_zero, List.getD_cons_succ, rRx, rRd, rRe, rRf, Bool.not_true, Bool.not_false, List.cons_append, List.nil_append, List.append_nil]
    refine XB.gen fun u hu => ?_
    have Bu : But s0 u p := by rw [hu]; exact (((But.of p k1).trans B1).nw _).wr (by have := B1.nx; rw [nx_nw] at this; omega) _ _
    refine fail_ok hb _ _ _ _ fun s2 k2 => ?_
    exact hF hm _ (hB _ _ (Bu.kept k2))
theorem name_ok (hb : NB base) {p b : Nat} {ts : List Tk} {i d : Nat} (st : St) (P : Pk st p b ts i d) (hi : i < ts.length) (hi2 : i ≤ 1000000) (K Kp : AV → St → Prop)
    (hT : (tk ts i).kind = 1 → ∀ s1, But st s1 p → Pk s1 p b ts (i + 1) d → K (.agg (tk ts i).cells) s1)
    (hF : (tk ts i).kind ≠ 1 → ∀ s1, But st s1 p → Kp (fltV (tk ts i)) s1) : XB Tryd.prog base 54 [.ptr p 0] st K Kp := by
  refine fn_ruleXB x54 (by rfl) (hb.at _ (by decide) _ _) ?_
  simp only [y54, entry, List.map_cons, List.map_nil, List.getD_cons_zero, List.getD_cons_succ]
  unfold z54
  have P := P.bare
  have hE : ∀ s, Kept st.bare s → Kept st (bk st s) := fun s k => ⟨k.nx, rfl, k.keep⟩
  have hB : ∀ s c, But st.bare s c → But st (bk st s) c := fun s c k => ⟨k.nx, rfl, k.keep⟩
  have hS0 : bk st st.bare = st := rfl
  have hnx0 : st.bare.nx = st.nx := rfl
  have hfr0 : st.bare.fr = [] := rfl
  generalize st.bare = s0 at *
  have hp := P.lt
  have hbl := P.ts.lt
  generalize hz : [AV.int IntKind.i64 0, .str [], .int .i64 0, .int .i64 0, .int .i64 0] = z
  have hzl : z.length = 5 := by rw [← hz]; rfl
  simp (disch := first | decide | assumption | omega | (simp only [nx_nw, nx_wr, nx_ap, nx_bare]; first | done | omega) | (simp (disch := first | assumption | omega | (simp only [nx_nw, nx_wr, nx_ap, nx_bare]; first | done | omega)) only [rRu, List.length_cons, List.length_nil]; first | done | omega | decide)) only [Nat.reduceAdd, Nat.reduceSub, Nat.reduceMul, Nat.zero_add, a_new, a_box, a_st, a_ldA, rats_nwE, rats_nwO, rats_wr, rats_wrO, upd_nil, upd_00, upd_0, upd_S, upd_e, nx_nw, nx_wr, nx_ap, nx_bare, h_bare, len_nwE, len_nwO, len_wr, at_nwE, at_nwO, at_wr, at_wrB, at_wrA, at_wrO, cells_agg, cells_int, cells_str, cells_bool, cells_slice, cells_nils, cells_ptr, a_build0, a_buildc, a_bS, a_bS0, a_bSc, rep_0, rep_S, i_buildP, i_buildSP, r_ps0, r_ps1, i_fnA, i_slS1, i_slS2, i_slS3, v_idxS0, v_iface, r_resA, r_dops, r_dnil, r_dcons0, r_dcons1, h_0, h_1, h_rw, h_wr, h_n1, h_n2, lg_0, lg_S, te_0, te_1, te_2, vl_c, vl_l, vl_ls, vl_g, vl_gs, true_and, and_true, and_self, List.getD_cons_zero, List.getD_cons_succ, rRx, rRd, rRe, rRf, Bool.not_true, Bool.not_false, List.cons_append, List.nil_append, List.append_nil]
  have kA := (Kept.refl s0).nw z
  have CA := Cl.new s0 z
  have nA := nx_nw s0 z
  generalize hA : s0.nx = rb at *
  refine (now_ok hb _ (P.kept kA) hi _ fun s1 k1 => ?_).x
  have k01 := kA.trans k1
  have P1 := P.kept k01
  have C1 := CA.kept k1
  have n1 := k1.nx
  have L1 := C1.lt
  have hp1 := P1.lt
  have hb1 := P1.ts.lt
  generalize nw s0 z = u at *
  clear kA CA k1
  by_cases hk : (tk ts i).kind = 1
  · have hk' : ((tk ts i).kind : Int) = 1 := by omega
    simp (disch := first | decide | assumption | omega | (simp only [nx_nw, nx_wr, nx_ap, nx_bare]; first | done | omega) | (simp (disch := first | assumption | omega | (simp only [nx_nw, nx_wr, nx_ap, nx_bare]; first | done | omega)) only [hzl, C1.len, P1.len, cell_tk, tk_len, rRu, List.length_cons, List.length_nil]; first | done | omega | decide)) only [tk_0, P1.c1, v_addN, hzl, C1.len, P1.len, cell_tk, tk_len, Nat.reduceAdd, Nat.reduceSub, Nat.reduceMul, Nat.zero_add, a_new, a_box, a_st, a_ldA, rats_nwE, rats_nwO, rats_wr, rats_wrO, upd_nil, upd_00, upd_0, upd_S, upd_e, nx_nw, nx_wr, nx_ap, nx_bare, h_bare, len_nwE, len_nwO, len_wr, at_nwE, at_nwO, at_wr, at_wrB, at_wrA, at_wrO, cells_agg, cells_int, cells_str, cells_bool, cells_slice, cells_nils, cells_ptr, a_build0, a_buildc, a_bS, a_bS0, a_bSc, rep_0, rep_S, i_buildP, i_buildSP, r_ps0, r_ps1, i_fnA, i_slS1, i_slS2, i_slS3, v_idxS0, v_iface, r_resA, r_dops, r_dnil, r_dcons0, r_dcons1, h_0, h_1, h_rw, h_wr, h_n1, h_n2, lg_0, lg_S, te_0, te_1, te_2, vl_c, vl_l, vl_ls, vl_g, vl_gs, true_and, and_true, and_self, List.getD_cons_zero, List.getD_cons_succ, rRx, rRd, rRe, rRf, Bool.not_true, Bool.not_false, List.cons_append, List.nil_append, List.append_nil]
    exact hT hk _ (hB _ _ (((((But.of p k01).nw _).wr (by omega) _ _).wrC _ _).wr (by omega) _ _)) (((((P1.nw _).wr (by omega) (by omega) _ _).put1 (i + 1)).wr (by omega) (by omega) _ _).bk st)
  · have hk' : ((tk ts i).kind : Int) ≠ 1 := by omega
    simp (disch := first | decide | assumption | omega | (simp only [nx_nw, nx_wr, nx_ap, nx_bare]; first | done | omega) | (simp (disch := first | assumption | omega | (simp only [nx_nw, nx_wr, nx_ap, nx_bare]; first | done | omega)) only [hzl, cell_tk, tk_len, rRu, List.length_cons, List.length_nil]; first | done | omega | decide)) only [tk_0, hzl, cell_tk, tk_len, Nat.reduceAdd, Nat.reduceSub, Nat.reduceMul, Nat.zero_add, a_new, a_box, a_st, a_ldA, rats_nwE, rats_nwO, rats_wr, rats_wrO, upd_nil, upd_00, upd_0, upd_S, upd_e, nx_nw, nx_wr, nx_ap, nx_bare, h_bare, len_nwE, len_nwO, len_wr, at_nwE, at_nwO, at_wr, at_wrB, at_wrA, at_wrO, cells_agg, cells_int, cells_str, cells_bool, cells_slice, cells_nils, cells_ptr, a_build0, a_buildc, a_bS, a_bS0, a_bSc, rep_0, rep_S, i_buildP, i_buildSP, r_ps0, r_ps1, i_fnA, i_slS1, i_slS2, i_slS3, v_idxS0, v_iface, r_resA, r_dops, r_dnil, r_dcons0, r_dcons1, h_0, h_1, h_rw, h_wr, h_n1, h_n2, lg_0, lg_S, te_0, te_1, te_2, vl_c, vl_l, vl_ls, vl_g, vl_gs, true_and, and_true, and_self, List.getD_cons_zero, List.getD_cons_succ, rRx, rRd, rRe, rRf, Bool.not_true, Bool.not_false, List.cons_append, List.nil_append, List.append_nil]
    refine XB.gen fun u hu => ?_
    have Bu : But s0 u p := by rw [hu]; exact ((But.of p k01).nw _).wr (by omega) _ _
    refine fail_ok hb _ _ _ _ fun s2 k2 => ?_
    exact hF hk _ (hB _ _ (Bu.kept k2))
theorem open_ok (hb : NB base) {p b : Nat} {ts : List Tk} {i d : Nat} (st : St) (P : Pk st p b ts i d) (hi : i < ts.length) (hd : d ≤ 1000000) (K Kp : AV → St → Prop)
    (hT : d + 1 ≤ 60 → ∀ s1, But st s1 p → Pk s1 p b ts i (d + 1) → K (.tup []) s1)
    (hF : 60 < d + 1 → ∀ s1, But st s1 p → Kp (fltV (tk ts i)) s1) : XB Tryd.prog base 64 [.ptr p 0] st K Kp := by
  refine fn_ruleXB x64 (by rfl) (hb.at _ (by decide) _ _) ?_
  simp only [y64, entry, List.map_cons, List.map_nil, List.getD_cons_zero, List.getD_cons_succ]
  unfold z64
  have P := P.bare
  have hE : ∀ s, Kept st.bare s → Kept st (bk st s) := fun s k => ⟨k.nx, rfl, k.keep⟩
  have hB : ∀ s c, But st.bare s c → But st (bk st s) c := fun s c k => ⟨k.nx, rfl, k.keep⟩
  have hS0 : bk st st.bare = st := rfl
  have hnx0 : st.bare.nx = st.nx := rfl
  have hfr0 : st.bare.fr = [] := rfl
  generalize st.bare = s0 at *
  have hp := P.lt
  have hbl := P.ts.lt
  by_cases h : 60 < d + 1
  · have h' : (60 : Int) < ((d + 1 : Nat) : Int) := by omega
    simp (disch := first | decide | assumption | omega | (simp only [nx_nw, nx_wr, nx_ap, nx_bare]; first | done | omega) | (simp (disch := first | assumption | omega | (simp only [nx_nw, nx_wr, nx_ap, nx_bare]; first | done | omega)) only [P.len, rRu, List.length_cons, List.length_nil]; first | done | omega | decide)) only [P.c2, v_addN, P.len, Nat.reduceAdd, Nat.reduceSub, Nat.reduceMul, Nat.zero_add, a_new, a_box, a_st, a_ldA, rats_nwE, rats_nwO, rats_wr, rats_wrO, upd_nil, upd_00, upd_0, upd_S, upd_e, nx_nw, nx_wr, nx_ap, nx_bare, h_bare, len_nwE, len_nwO, len_wr, at_nwE, at_nwO, at_wr, at_wrB, at_wrA, at_wrO, cells_agg, cells_int, cells_str, cells_bool, cells_slice, cells_nils, cells_ptr, a_build0, a_buildc, a_bS, a_bS0, a_bSc, rep_0, rep_S, i_buildP, i_buildSP, r_ps0, r_ps1, i_fnA, i_slS1, i_slS2, i_slS3, v_idxS0, v_iface, r_resA, r_dops, r_dnil, r_dcons0, r_dcons1, h_0, h_1, h_rw, h_wr, h_n1, h_n2, lg_0, lg_S, te_0, te_1, te_2, vl_c, vl_l, vl_ls, vl_g, vl_gs, true_and, and_true, and_self, List.getD_cons_zero, List.getD_cons_succ, rRx, rRd, rRe, rRf, Bool.not_true, Bool.not_false, List.cons_append, List.nil_append, List.append_nil]
    refine XB.gen fun u hu => ?_
    have Bu : But s0 u p := by rw [hu]; exact (But.refl _ _).wrC _ _
    have Pu : Pk u p b ts i (d + 1) := by rw [hu]; exact P.put2 (d + 1)
    refine (now_ok hb _ Pu hi _ fun s2 k2 => ?_).x
    simp (disch := first | decide | assumption | omega | (simp only [nx_nw, nx_wr, nx_ap, nx_bare]; first | done | omega) | (simp (disch := first | assumption | omega | (simp only [nx_nw, nx_wr, nx_ap, nx_bare]; first | done | omega)) only [rRu, List.length_cons, List.length_nil]; first | done | omega | decide)) only [Nat.reduceAdd, Nat.reduceSub, Nat.reduceMul, Nat.zero_add, a_new, a_box, a_st, a_ldA, rats_nwE, rats_nwO, rats_wr, rats_wrO, upd_nil, upd_00, upd_0, upd_S, upd_e, nx_nw, nx_wr, nx_ap, nx_bare, h_bare, len_nwE, len_nwO, len_wr, at_nwE, at_nwO, at_wr, at_wrB, at_wrA, at_wrO, cells_agg, cells_int, cells_str, cells_bool, cells_slice, cells_nils, cells_ptr, a_build0, a_buildc, a_bS, a_bS0, a_bSc, rep_0, rep_S, i_buildP, i_buildSP, r_ps0, r_ps1, i_fnA, i_slS1, i_slS2, i_slS3, v_idxS0, v_iface, r_resA, r_dops, r_dnil, r_dcons0, r_dcons1, h_0, h_1, h_rw, h_wr, h_n1, h_n2, lg_0, lg_S, te_0, te_1, te_2, vl_c, vl_l, vl_ls, vl_g, vl_gs, true_and, and_true, and_self, List.getD_cons_zero, List.getD_cons_succ, rRx, rRd, rRe, rRf, Bool.not_true, Bool.not_false, List.cons_append, List.nil_append, List.append_nil]
    refine fail_ok hb _ _ _ _ fun s3 k3 => ?_
    exact hF h _ (hB _ _ ((Bu.kept k2).kept k3))
  · have h' : ¬ (60 : Int) < ((d + 1 : Nat) : Int) := by omega
    simp (disch := first | decide | assumption | omega | (simp only [nx_nw, nx_wr, nx_ap, nx_bare]; first | done | omega) | (simp (disch := first | assumption | omega | (simp only [nx_nw, nx_wr, nx_ap, nx_bare]; first | done | omega)) only [P.len, rRu, List.length_cons, List.length_nil]; first | done | omega | decide)) only [P.c2, v_addN, P.len, Nat.reduceAdd, Nat.reduceSub, Nat.reduceMul, Nat.zero_add, a_new, a_box, a_st, a_ldA, rats_nwE, rats_nwO, rats_wr, rats_wrO, upd_nil, upd_00, upd_0, upd_S, upd_e, nx_nw, nx_wr, nx_ap, nx_bare, h_bare, len_nwE, len_nwO, len_wr, at_nwE, at_nwO, at_wr, at_wrB, at_wrA, at_wrO, cells_agg, cells_int, cells_str, cells_bool, cells_slice, cells_nils, cells_ptr, a_build0, a_buildc, a_bS, a_bS0, a_bSc, rep_0, rep_S, i_buildP, i_buildSP, r_ps0, r_ps1, i_fnA, i_slS1, i_slS2, i_slS3, v_idxS0, v_iface, r_resA, r_dops, r_dnil, r_dcons0, r_dcons1, h_0, h_1, h_rw, h_wr, h_n1, h_n2, lg_0, lg_S, te_0, te_1, te_2, vl_c, vl_l, vl_ls, vl_g, vl_gs, true_and, and_true, and_self, List.getD_cons_zero, List.getD_cons_succ, rRx, rRd, rRe, rRf, Bool.not_true, Bool.not_false, List.cons_append, List.nil_append, List.append_nil]
    exact hT (by omega) _ (hB _ _ ((But.refl _ _).wrC _ _)) ((P.put2 (d + 1)).bk st)
end Go.Sy
end

section
set_option maxRecDepth 100000
namespace Go.Sy
open Go.Ev Go.Proofs
/-! ### expressions -/
inductive Ex where
  | mk (op num : Int) (name : List Nat) (kids : List Ex) (line col : Int)
def Ex.op : Ex → Int | .mk o _ _ _ _ _ => o
def Ex.num : Ex → Int | .mk _ n _ _ _ _ => n
def Ex.name : Ex → List Nat | .mk _ _ n _ _ _ => n
def Ex.kids : Ex → List Ex | .mk _ _ _ k _ _ => k
def Ex.line : Ex → Int | .mk _ _ _ _ l _ => l
def Ex.col : Ex → Int | .mk _ _ _ _ _ c => c
def exC (op num : Int) (name : List Nat) (k : AV) (l c : Int) : List AV := [.int .i64 op, .int .i64 num, .str name, k, .int .i64 l, .int .i64 c]
/-- a slice of so many things of z cells, in a block -/
def slV (s : St) (k : AV) (n z : Nat) (F : Nat → Nat → Prop) : Prop := (k = .nils ∧ n = 0) ∨ ∃ b o cap ex, k = .slice b o n cap z ex ∧ b < s.nx ∧ o + z * n ≤ rlen s.h b ∧ F b o
mutual
/-- an expression in memory, all of it in blocks of a kind -/
def ExP (φ : Nat → Prop) (s : St) : List AV → Ex → Prop
  | cs, .mk op num name ks l c => ∃ k, cs = exC op num name k l c ∧ ((k = .nils ∧ ks = []) ∨ ∃ b o cap ex, k = .slice b o ks.length cap 6 ex ∧ b < s.nx ∧ o + 6 * ks.length ≤ rlen s.h b ∧ KsP φ s b o ks ∧ φ b)
def KsP (φ : Nat → Prop) (s : St) (b : Nat) : Nat → List Ex → Prop
  | _, [] => True
  | o, x :: xs => ExP φ s (rats s.h b o 6) x ∧ KsP φ s b (o + 6) xs
end
/-- of any kind -/
def Any (_ : Nat) : Prop := True
abbrev ExR := ExP Any
abbrev KsR := KsP Any
/-- from a block on nothing that stood there is changed -/
structure Fs (n : Nat) (a s : St) : Prop where
  nx : a.nx ≤ s.nx
  keep : ∀ b, n ≤ b → b < a.nx → hget s.h b = hget a.h b
theorem Fs.refl (n : Nat) (a : St) : Fs n a a := ⟨Nat.le_refl _, fun _ _ _ => rfl⟩
theorem Fs.nw {n : Nat} {a s : St} (k : Fs n a s) (cs : List AV) : Fs n a (nw s cs) := ⟨by rw [nx_nw]; have := k.nx; omega, fun b h1 h2 => (get_nwO (by have := k.nx; omega)).trans (k.keep b h1 h2)⟩
theorem Fs.wrS {n : Nat} {a s : St} {c o : Nat} {vs : List AV} (hc : c < n ∨ a.nx ≤ c) (k : Fs n a s) : Fs n a (Go.Sy.wr s c o vs) := ⟨k.nx, fun b h1 h2 => (get_wrO (by omega)).trans (k.keep b h1 h2)⟩
theorem Fs.of {n : Nat} {a s : St} (k : Kept a s) : Fs n a s := ⟨k.nx, fun b _ h => k.keep b h⟩
theorem Fs.ofB {n p : Nat} {a s : St} (k : But a s p) (h : p < n) : Fs n a s := ⟨k.nx, fun b h1 h2 => k.keep b h2 (by omega)⟩
theorem Fs.trans {n : Nat} {a b s : St} (h : Fs n a b) (k : Fs n b s) : Fs n a s := ⟨Nat.le_trans h.nx k.nx, fun x h1 h2 => (k.keep x h1 (Nat.lt_of_lt_of_le h2 h.nx)).trans (h.keep x h1 h2)⟩
mutual
theorem ExP.keep {φ ψ : Nat → Prop} {a s : St} (hw : ∀ b, b < a.nx → φ b → ψ b) (hn : a.nx ≤ s.nx) (hk : ∀ b, b < a.nx → φ b → hget s.h b = hget a.h b) : ∀ (cs : List AV) (x : Ex), ExP φ a cs x → ExP ψ s cs x
  | cs, .mk op num name ks l c, h => by
    obtain ⟨k, h1, h2⟩ := h
    refine ⟨k, h1, ?_⟩
    rcases h2 with h2 | ⟨b, o, cap, ex, e1, e2, e3, e4, e5⟩
    · exact .inl h2
    · exact .inr ⟨b, o, cap, ex, e1, Nat.lt_of_lt_of_le e2 hn, by rw [rlen_same (hk b e2 e5)]; exact e3, KsP.keep hw hn hk b e2 e5 o ks e4, hw b e2 e5⟩
theorem KsP.keep {φ ψ : Nat → Prop} {a s : St} (hw : ∀ b, b < a.nx → φ b → ψ b) (hn : a.nx ≤ s.nx) (hk : ∀ b, b < a.nx → φ b → hget s.h b = hget a.h b) (b : Nat) (hb : b < a.nx) (hφ : φ b) : ∀ (o : Nat) (xs : List Ex), KsP φ a b o xs → KsP ψ s b o xs
  | _, [], _ => trivial
  | o, x :: xs, h => ⟨by rw [rats_same (hk b hb hφ)]; exact ExP.keep hw hn hk _ x h.1, KsP.keep hw hn hk b hb hφ (o + 6) xs h.2⟩
end
section
variable {φ : Nat → Prop}
theorem ExP.any {s : St} {cs : List AV} {x : Ex} (h : ExP φ s cs x) : ExR s cs x := ExP.keep (fun _ _ _ => trivial) (Nat.le_refl _) (fun _ _ _ => rfl) cs x h
theorem ExP.move {a s : St} {cs : List AV} {x : Ex} (h : ExP φ a cs x) (hn : a.nx ≤ s.nx) (hk : ∀ b, b < a.nx → φ b → hget s.h b = hget a.h b) : ExP φ s cs x := ExP.keep (fun _ _ h => h) hn hk cs x h
theorem ExP.kept {a s : St} {cs : List AV} {x : Ex} (h : ExP φ a cs x) (k : Kept a s) : ExP φ s cs x := ExP.keep (fun _ _ h => h) k.nx (fun b hb _ => k.keep b hb) cs x h
theorem ExP.but {p : Nat} {a s : St} {cs : List AV} {x : Ex} (h : ExP (· ≠ p) a cs x) (k : But a s p) : ExP (· ≠ p) s cs x := ExP.keep (fun _ _ h => h) k.nx (fun b hb hp => k.keep b hb hp) cs x h
theorem ExP.weak {ψ : Nat → Prop} {s : St} {cs : List AV} {x : Ex} (h : ExP φ s cs x) (hw : ∀ b, b < s.nx → φ b → ψ b) : ExP ψ s cs x := ExP.keep hw (Nat.le_refl _) (fun _ _ _ => rfl) cs x h
theorem ExP.fs {n : Nat} {a s : St} {cs : List AV} {x : Ex} (h : ExP (n ≤ ·) a cs x) (k : Fs n a s) : ExP (n ≤ ·) s cs x := ExP.keep (fun _ _ h => h) k.nx (fun b hb hn => k.keep b hn hb) cs x h
theorem ExP.same {a s : St} {cs : List AV} {x : Ex} (h : ExP φ a cs x) (h1 : s.nx = a.nx) (h2 : s.h = a.h) : ExP φ s cs x := ExP.keep (fun _ _ h => h) (Nat.le_of_eq h1.symm) (fun b _ _ => by rw [h2]) cs x h
theorem ExP.bare {s : St} {cs : List AV} {x : Ex} (h : ExP φ s cs x) : ExP φ s.bare cs x := h.same rfl rfl
theorem ExP.bk {s : St} {cs : List AV} {x : Ex} (h : ExP φ s cs x) (a : St) : ExP φ (Go.Sy.bk a s) cs x := h.same rfl rfl
theorem ExP.len {s : St} : ∀ {cs : List AV} {x : Ex}, ExP φ s cs x → cs.length = 6
  | _, .mk _ _ _ _ _ _, ⟨_, h, _⟩ => by rw [h]; rfl
theorem ExP.lall {s : St} : ∀ {cs : List AV} {x : Ex}, ExP φ s cs x → lall AV.cell cs = true
  | _, .mk _ _ _ _ _ _, ⟨k, h, h2⟩ => by
    have hk : k.cell = true := by
      rcases h2 with ⟨h2, _⟩ | ⟨b, o, cap, ex, h2, _⟩ <;> (rw [h2]; rfl)
    rw [h]
    show cond k.cell _ false = true
    rw [hk]; rfl
theorem KsP.at {s : St} {b : Nat} : ∀ {o : Nat} {xs : List Ex} {i : Nat} (h : KsP φ s b o xs) (hi : i < xs.length), ExP φ s (rats s.h b (o + i * 6) 6) (xs[i]'hi)
  | o, x :: xs, 0, h, _ => by simpa using h.1
  | o, x :: xs, i + 1, h, hi => by
    have := KsP.at (o := o + 6) (xs := xs) (i := i) h.2 (by simpa using hi)
    rw [show o + 6 + i * 6 = o + (i + 1) * 6 by omega] at this
    exact this
theorem ExP.eqs {s : St} : ∀ {cs : List AV} {x : Ex}, ExP φ s cs x → cs.all eqs = true
  | _, .mk _ _ _ _ _ _, ⟨k, h, h2⟩ => by
    have hk : Go.Sy.eqs k = true := by
      rcases h2 with ⟨h2, _⟩ | ⟨b, o, cap, ex, h2, _⟩ <;> (rw [h2]; rfl)
    rw [h]
    show (true && (true && (true && (Go.Sy.eqs k && (true && (true && true)))))) = true
    rw [hk]; rfl
end
end Go.Sy
end

section
set_option maxRecDepth 100000
namespace Go.Sy
open Go.Ev Go.Proofs
variable {base : CallF}
def signs26 : List (List Nat) := [[45], [33], [88], [70], [71], [89], [90], [79], [72], [42], [43], [45], [61], [33, 61], [60], [60, 61], [62], [62, 61], [85], [82], [83], [84], [38], [124], [45, 62], [60, 45, 62]]
def sgn (op : Int) : List Nat := if 5 ≤ op ∧ op < 31 then signs26.getD (op - 5).toNat [] else []
theorem a_idxA {st : St} {K : AV → St → Prop} {n b o i : Nat} (h : i < n) (s : Nat) (k : IntKind) : onER (idxAV n s (.ptr b o) (.int k (i : Int)) st) K = K (.ptr b (o + i * s)) st := by
  have : Nat.ble (Nat.succ i) n = true := ble_t h
  simp only [idxAV, onPtr, onNat_n, this, cond_true, force_eq, onER]; rfl
theorem Sign_ok (hb : NB base) (op : Int) (st : St) (K : AV → St → Prop) (hK : ∀ s1, Kept st s1 → K (.str (sgn op)) s1) : CB Tryd.prog base 65 [.int .i64 op] st K := by
  refine fn_ruleB l65 (hb.at _ (by decide) _ _) ?_
  simp only [c65, entry, List.map_cons, List.map_nil, List.getD_cons_zero, List.getD_cons_succ]
  unfold b65
  have hE : ∀ s, Kept st.bare s → Kept st (bk st s) := fun s k => ⟨k.nx, rfl, k.keep⟩
  have hB : ∀ s c, But st.bare s c → But st (bk st s) c := fun s c k => ⟨k.nx, rfl, k.keep⟩
  have hS0 : bk st st.bare = st := rfl
  have hnx0 : st.bare.nx = st.nx := rfl
  have hfr0 : st.bare.fr = [] := rfl
  generalize st.bare = s0 at *
  by_cases h : 5 ≤ op ∧ op < 31
  · obtain ⟨j, rfl⟩ : ∃ j : Nat, op = 5 + (j : Int) := ⟨(op - 5).toNat, by omega⟩
    have hj : j < 26 := by omega
    have q1 : ¬ (5 + (j : Int)) < 5 := by omega
    have q2 : ¬ (31 : Int) ≤ 5 + (j : Int) := by omega
    have q3 : ∀ (s : St) (K : AV → St → Prop), onER (binV .sub (.int .i64 (5 + (j : Int))) (.int .i64 5) s) K = K (.int .i64 (j : Int)) s := fun s K => by
      rw [v_sub (by omega) (by omega), show 5 + (j : Int) - 5 = (j : Int) by omega]
    have e : sgn (5 + (j : Int)) = signs26.getD j [] := by
      unfold sgn
      rw [if_pos h, show (5 + (j : Int) - 5).toNat = j by omega]
    simp (disch := first | decide | assumption | omega | (simp only [nx_nw, nx_wr, nx_ap, nx_bare]; first | done | omega) | (simp (disch := first | assumption | omega | (simp only [nx_nw, nx_wr, nx_ap, nx_bare]; first | done | omega)) only [rRu, List.length_cons, List.length_nil]; first | done | omega | decide)) only [q3, a_idxA, Nat.mul_one, Nat.sub_zero, Nat.reduceAdd, Nat.reduceSub, Nat.reduceMul, Nat.zero_add, a_new, a_box, a_st, a_ldA, rats_nwE, rats_nwO, rats_wr, rats_wrO, upd_nil, upd_00, upd_0, upd_S, upd_e, nx_nw, nx_wr, nx_ap, nx_bare, h_bare, len_nwE, len_nwO, len_wr, at_nwE, at_nwO, at_wr, at_wrB, at_wrA, at_wrO, cells_agg, cells_int, cells_str, cells_bool, cells_slice, cells_nils, cells_ptr, a_build0, a_buildc, a_bS, a_bS0, a_bSc, rep_0, rep_S, i_buildP, i_buildSP, r_ps0, r_ps1, i_fnA, i_slS1, i_slS2, i_slS3, v_idxS0, v_iface, r_resA, r_dops, r_dnil, r_dcons0, r_dcons1, h_0, h_1, h_rw, h_wr, h_n1, h_n2, lg_0, lg_S, te_0, te_1, te_2, vl_c, vl_l, vl_ls, vl_g, vl_gs, true_and, and_true, and_self, List.getD_cons_zero, List.getD_cons_succ, rRd, rRe, rRf, Bool.not_true, Bool.not_false, List.cons_append, List.nil_append, List.append_nil]
    have e2 := strs_at (S := signs26) hj
    rw [← e] at e2
    have e3 : ∀ s1, Kept st s1 → K ((signs26.map AV.str).getD j .bad) s1 := fun s1 k => by rw [e2]; exact hK s1 k
    exact e3 _ (hE _ (((Kept.refl _).nw _).wr (Nat.le_refl _) _ _))
  · have e : sgn op = [] := if_neg h
    rw [e] at hK
    by_cases h1 : op < 5
    · simp (disch := first | decide | assumption | omega | (simp only [nx_nw, nx_wr, nx_ap, nx_bare]; first | done | omega) | (simp (disch := first | assumption | omega | (simp only [nx_nw, nx_wr, nx_ap, nx_bare]; first | done | omega)) only [rRu, List.length_cons, List.length_nil]; first | done | omega | decide)) only [Nat.reduceAdd, Nat.reduceSub, Nat.reduceMul, Nat.zero_add, a_new, a_box, a_st, a_ldA, rats_nwE, rats_nwO, rats_wr, rats_wrO, upd_nil, upd_00, upd_0, upd_S, upd_e, nx_nw, nx_wr, nx_ap, nx_bare, h_bare, len_nwE, len_nwO, len_wr, at_nwE, at_nwO, at_wr, at_wrB, at_wrA, at_wrO, cells_agg, cells_int, cells_str, cells_bool, cells_slice, cells_nils, cells_ptr, a_build0, a_buildc, a_bS, a_bS0, a_bSc, rep_0, rep_S, i_buildP, i_buildSP, r_ps0, r_ps1, i_fnA, i_slS1, i_slS2, i_slS3, v_idxS0, v_iface, r_resA, r_dops, r_dnil, r_dcons0, r_dcons1, h_0, h_1, h_rw, h_wr, h_n1, h_n2, lg_0, lg_S, te_0, te_1, te_2, vl_c, vl_l, vl_ls, vl_g, vl_gs, true_and, and_true, and_self, List.getD_cons_zero, List.getD_cons_succ, rRd, rRe, rRf, Bool.not_true, Bool.not_false, List.cons_append, List.nil_append, List.append_nil]
      exact hK _ (hE _ (((Kept.refl _).nw _).wr (Nat.le_refl _) _ _))
    · have h2 : (31 : Int) ≤ op := by omega
      simp (disch := first | decide | assumption | omega | (simp only [nx_nw, nx_wr, nx_ap, nx_bare]; first | done | omega) | (simp (disch := first | assumption | omega | (simp only [nx_nw, nx_wr, nx_ap, nx_bare]; first | done | omega)) only [rRu, List.length_cons, List.length_nil]; first | done | omega | decide)) only [Nat.reduceAdd, Nat.reduceSub, Nat.reduceMul, Nat.zero_add, a_new, a_box, a_st, a_ldA, rats_nwE, rats_nwO, rats_wr, rats_wrO, upd_nil, upd_00, upd_0, upd_S, upd_e, nx_nw, nx_wr, nx_ap, nx_bare, h_bare, len_nwE, len_nwO, len_wr, at_nwE, at_nwO, at_wr, at_wrB, at_wrA, at_wrO, cells_agg, cells_int, cells_str, cells_bool, cells_slice, cells_nils, cells_ptr, a_build0, a_buildc, a_bS, a_bS0, a_bSc, rep_0, rep_S, i_buildP, i_buildSP, r_ps0, r_ps1, i_fnA, i_slS1, i_slS2, i_slS3, v_idxS0, v_iface, r_resA, r_dops, r_dnil, r_dcons0, r_dcons1, h_0, h_1, h_rw, h_wr, h_n1, h_n2, lg_0, lg_S, te_0, te_1, te_2, vl_c, vl_l, vl_ls, vl_g, vl_gs, true_and, and_true, and_self, List.getD_cons_zero, List.getD_cons_succ, rRd, rRe, rRf, Bool.not_true, Bool.not_false, List.cons_append, List.nil_append, List.append_nil]
      exact hK _ (hE _ (((Kept.refl _).nw _).wr (Nat.le_refl _) _ _))
def kidsN (op : Int) : Nat := if 5 ≤ op ∧ op ≤ 13 then 1 else if 14 ≤ op ∧ op < 31 then 2 else 0
theorem kids_ok (hb : NB base) (op : Int) (st : St) (K : AV → St → Prop) (hK : K (.int .i64 (kidsN op : Int)) st) : CB Tryd.prog base 66 [.int .i64 op] st K := by
  refine fn_ruleB l66 (hb.at _ (by decide) _ _) ?_
  simp only [c66, entry, List.map_cons, List.map_nil, List.getD_cons_zero, List.getD_cons_succ]
  unfold b66
  have hE : ∀ s, Kept st.bare s → Kept st (bk st s) := fun s k => ⟨k.nx, rfl, k.keep⟩
  have hB : ∀ s c, But st.bare s c → But st (bk st s) c := fun s c k => ⟨k.nx, rfl, k.keep⟩
  have hS0 : bk st st.bare = st := rfl
  have hnx0 : st.bare.nx = st.nx := rfl
  have hfr0 : st.bare.fr = [] := rfl
  generalize st.bare = s0 at *
  by_cases h1 : (5 : Int) ≤ op
  · by_cases h2 : op ≤ 13
    · have e : (kidsN op : Int) = 1 := by simp [kidsN, h1, h2]
      rw [e, ← hS0] at hK
      simp (disch := first | decide | assumption | omega | (simp only [nx_nw, nx_wr, nx_ap, nx_bare]; first | done | omega) | (simp (disch := first | assumption | omega | (simp only [nx_nw, nx_wr, nx_ap, nx_bare]; first | done | omega)) only [rRu, List.length_cons, List.length_nil]; first | done | omega | decide)) only [Nat.reduceAdd, Nat.reduceSub, Nat.reduceMul, Nat.zero_add, a_new, a_box, a_st, a_ldA, rats_nwE, rats_nwO, rats_wr, rats_wrO, upd_nil, upd_00, upd_0, upd_S, upd_e, nx_nw, nx_wr, nx_ap, nx_bare, h_bare, len_nwE, len_nwO, len_wr, at_nwE, at_nwO, at_wr, at_wrB, at_wrA, at_wrO, cells_agg, cells_int, cells_str, cells_bool, cells_slice, cells_nils, cells_ptr, a_build0, a_buildc, a_bS, a_bS0, a_bSc, rep_0, rep_S, i_buildP, i_buildSP, r_ps0, r_ps1, i_fnA, i_slS1, i_slS2, i_slS3, v_idxS0, v_iface, r_resA, r_dops, r_dnil, r_dcons0, r_dcons1, h_0, h_1, h_rw, h_wr, h_n1, h_n2, lg_0, lg_S, te_0, te_1, te_2, vl_c, vl_l, vl_ls, vl_g, vl_gs, true_and, and_true, and_self, List.getD_cons_zero, List.getD_cons_succ, rRd, rRe, rRf, Bool.not_true, Bool.not_false, List.cons_append, List.nil_append, List.append_nil]
      exact hK
    · by_cases h3 : op < 31
      · have h4 : (14 : Int) ≤ op := by omega
        have e : (kidsN op : Int) = 2 := by simp [kidsN, h1, h2, h3, h4]
        rw [e, ← hS0] at hK
        simp (disch := first | decide | assumption | omega | (simp only [nx_nw, nx_wr, nx_ap, nx_bare]; first | done | omega) | (simp (disch := first | assumption | omega | (simp only [nx_nw, nx_wr, nx_ap, nx_bare]; first | done | omega)) only [rRu, List.length_cons, List.length_nil]; first | done | omega | decide)) only [Nat.reduceAdd, Nat.reduceSub, Nat.reduceMul, Nat.zero_add, a_new, a_box, a_st, a_ldA, rats_nwE, rats_nwO, rats_wr, rats_wrO, upd_nil, upd_00, upd_0, upd_S, upd_e, nx_nw, nx_wr, nx_ap, nx_bare, h_bare, len_nwE, len_nwO, len_wr, at_nwE, at_nwO, at_wr, at_wrB, at_wrA, at_wrO, cells_agg, cells_int, cells_str, cells_bool, cells_slice, cells_nils, cells_ptr, a_build0, a_buildc, a_bS, a_bS0, a_bSc, rep_0, rep_S, i_buildP, i_buildSP, r_ps0, r_ps1, i_fnA, i_slS1, i_slS2, i_slS3, v_idxS0, v_iface, r_resA, r_dops, r_dnil, r_dcons0, r_dcons1, h_0, h_1, h_rw, h_wr, h_n1, h_n2, lg_0, lg_S, te_0, te_1, te_2, vl_c, vl_l, vl_ls, vl_g, vl_gs, true_and, and_true, and_self, List.getD_cons_zero, List.getD_cons_succ, rRd, rRe, rRf, Bool.not_true, Bool.not_false, List.cons_append, List.nil_append, List.append_nil]
        exact hK
      · have h4 : (14 : Int) ≤ op := by omega
        have e : (kidsN op : Int) = 0 := by simp [kidsN, h1, h2, h3, h4]
        rw [e, ← hS0] at hK
        simp (disch := first | decide | assumption | omega | (simp only [nx_nw, nx_wr, nx_ap, nx_bare]; first | done | omega) | (simp (disch := first | assumption | omega | (simp only [nx_nw, nx_wr, nx_ap, nx_bare]; first | done | omega)) only [rRu, List.length_cons, List.length_nil]; first | done | omega | decide)) only [Nat.reduceAdd, Nat.reduceSub, Nat.reduceMul, Nat.zero_add, a_new, a_box, a_st, a_ldA, rats_nwE, rats_nwO, rats_wr, rats_wrO, upd_nil, upd_00, upd_0, upd_S, upd_e, nx_nw, nx_wr, nx_ap, nx_bare, h_bare, len_nwE, len_nwO, len_wr, at_nwE, at_nwO, at_wr, at_wrB, at_wrA, at_wrO, cells_agg, cells_int, cells_str, cells_bool, cells_slice, cells_nils, cells_ptr, a_build0, a_buildc, a_bS, a_bS0, a_bSc, rep_0, rep_S, i_buildP, i_buildSP, r_ps0, r_ps1, i_fnA, i_slS1, i_slS2, i_slS3, v_idxS0, v_iface, r_resA, r_dops, r_dnil, r_dcons0, r_dcons1, h_0, h_1, h_rw, h_wr, h_n1, h_n2, lg_0, lg_S, te_0, te_1, te_2, vl_c, vl_l, vl_ls, vl_g, vl_gs, true_and, and_true, and_self, List.getD_cons_zero, List.getD_cons_succ, rRd, rRe, rRf, Bool.not_true, Bool.not_false, List.cons_append, List.nil_append, List.append_nil]
        exact hK
  · have h4 : ¬ (14 : Int) ≤ op := by omega
    have e : (kidsN op : Int) = 0 := by simp [kidsN, h1, h4]
    rw [e, ← hS0] at hK
    simp (disch := first | decide | assumption | omega | (simp only [nx_nw, nx_wr, nx_ap, nx_bare]; first | done | omega) | (simp (disch := first | assumption | omega | (simp only [nx_nw, nx_wr, nx_ap, nx_bare]; first | done | omega)) only [rRu, List.length_cons, List.length_nil]; first | done | omega | decide)) only [Nat.reduceAdd, Nat.reduceSub, Nat.reduceMul, Nat.zero_add, a_new, a_box, a_st, a_ldA, rats_nwE, rats_nwO, rats_wr, rats_wrO, upd_nil, upd_00, upd_0, upd_S, upd_e, nx_nw, nx_wr, nx_ap, nx_bare, h_bare, len_nwE, len_nwO, len_wr, at_nwE, at_nwO, at_wr, at_wrB, at_wrA, at_wrO, cells_agg, cells_int, cells_str, cells_bool, cells_slice, cells_nils, cells_ptr, a_build0, a_buildc, a_bS, a_bS0, a_bSc, rep_0, rep_S, i_buildP, i_buildSP, r_ps0, r_ps1, i_fnA, i_slS1, i_slS2, i_slS3, v_idxS0, v_iface, r_resA, r_dops, r_dnil, r_dcons0, r_dcons1, h_0, h_1, h_rw, h_wr, h_n1, h_n2, lg_0, lg_S, te_0, te_1, te_2, vl_c, vl_l, vl_ls, vl_g, vl_gs, true_and, and_true, and_self, List.getD_cons_zero, List.getD_cons_succ, rRd, rRe, rRf, Bool.not_true, Bool.not_false, List.cons_append, List.nil_append, List.append_nil]
    exact hK
noncomputable def leafB (x : Ex) : Bool :=
  if x.op = 1 then decide (0 ≤ x.num) && decide (x.num ≤ 1000000) && decide (x.name = [])
  else if x.op = 2 then (decide (x.num = 0) || decide (x.num = 1)) && decide (x.name = [])
  else if x.op = 3 then decide (x.num = 0) && nm x.name
  else if x.op = 4 then decide (x.name = [])
  else decide (x.num = 0) && decide (x.name = [])
/-- a text that Go can hold -/
structure Byt (l : List Nat) : Prop where
  len : l.length ≤ 9223372036854775807
  lt : ∀ c ∈ l, c < 256
theorem leaf_ok (hb : NB base) {op num : Int} {name : List Nat} {ks : List Ex} {k : AV} {l c : Int} (hn : Byt name) (hk : k.cell = true) (st : St) (K : AV → St → Prop) (hK : ∀ s1, Kept st s1 → K (.bool (leafB (.mk op num name ks l c))) s1) : CB Tryd.prog base 67 [.agg (exC op num name k l c)] st K := by
  refine fn_ruleB l67 (hb.at _ (by decide) _ _) ?_
  simp only [c67, entry, List.map_cons, List.map_nil, List.getD_cons_zero, List.getD_cons_succ]
  unfold b67
  have hE : ∀ s, Kept st.bare s → Kept st (bk st s) := fun s k => ⟨k.nx, rfl, k.keep⟩
  have hB : ∀ s c, But st.bare s c → But st (bk st s) c := fun s c k => ⟨k.nx, rfl, k.keep⟩
  have hS0 : bk st st.bare = st := rfl
  have hnx0 : st.bare.nx = st.nx := rfl
  have hfr0 : st.bare.fr = [] := rfl
  generalize st.bare = s0 at *
  have hl : lall AV.cell (exC op num name k l c) = true := by
    show cond k.cell _ false = true
    rw [hk]; rfl
  have hlen : (exC op num name k l c).length = 6 := rfl
  have g0 : (exC op num name k l c).getD 0 .bad = .int .i64 op := rfl
  have g1 : (exC op num name k l c).getD 1 .bad = .int .i64 num := rfl
  have g2 : (exC op num name k l c).getD 2 .bad = .str name := rfl
  generalize exC op num name k l c = cs at *
  have hE1 : Kept st (bk st (nw s0 cs)) := hE _ ((Kept.refl _).nw _)
  have eL := fun (h : op ≠ 1) (h2 : op ≠ 2) (h3 : op ≠ 3) (h4 : op ≠ 4) => show leafB (.mk op num name ks l c) = (decide (num = 0) && decide (name = [])) by
    show (if op = 1 then _ else if op = 2 then _ else if op = 3 then _ else if op = 4 then _ else _) = _
    rw [if_neg h, if_neg h2, if_neg h3, if_neg h4]; rfl
  by_cases h1 : op = 1
  · have e : leafB (.mk op num name ks l c) = (decide (0 ≤ num) && decide (num ≤ 1000000) && decide (name = [])) := if_pos h1
    rw [e] at hK
    by_cases q1 : (0 : Int) ≤ num <;> by_cases q2 : num ≤ 1000000 <;> by_cases q3 : name = [] <;> (try (exfalso; omega)) <;>
      (have := hK _ hE1
       simp only [q1, q2, q3, decide_true, decide_false, Bool.and_true, Bool.true_and, Bool.and_false, Bool.false_and, Bool.or_true, Bool.true_or, Bool.or_false, Bool.false_or, Bool.and_self, Bool.or_self, Bool.not_true, Bool.not_false, eq_self, not_true, not_false_eq_true, ne_eq] at this
       simp (disch := first | decide | assumption | omega | (simp only [nx_nw, nx_wr, nx_ap, nx_bare]; first | done | omega) | (simp (disch := first | assumption | omega | (simp only [nx_nw, nx_wr, nx_ap, nx_bare]; first | done | omega)) only [hl, hlen, rRu, List.length_cons, List.length_nil]; first | done | omega | decide)) only [g0, g1, g2, hl, hlen, Nat.reduceAdd, Nat.reduceSub, Nat.reduceMul, Nat.zero_add, a_new, a_box, a_st, a_ldA, rats_nwE, rats_nwO, rats_wr, rats_wrO, upd_nil, upd_00, upd_0, upd_S, upd_e, nx_nw, nx_wr, nx_ap, nx_bare, h_bare, len_nwE, len_nwO, len_wr, at_nwE, at_nwO, at_wr, at_wrB, at_wrA, at_wrO, cells_agg, cells_int, cells_str, cells_bool, cells_slice, cells_nils, cells_ptr, a_build0, a_buildc, a_bS, a_bS0, a_bSc, rep_0, rep_S, i_buildP, i_buildSP, r_ps0, r_ps1, i_fnA, i_slS1, i_slS2, i_slS3, v_idxS0, v_iface, r_resA, r_dops, r_dnil, r_dcons0, r_dcons1, h_0, h_1, h_rw, h_wr, h_n1, h_n2, lg_0, lg_S, te_0, te_1, te_2, vl_c, vl_l, vl_ls, vl_g, vl_gs, true_and, and_true, and_self, List.getD_cons_zero, List.getD_cons_succ, rRd, rRe, rRf, Bool.not_true, Bool.not_false, List.cons_append, List.nil_append, List.append_nil]
       exact this)
  by_cases h2 : op = 2
  · have e : leafB (.mk op num name ks l c) = ((decide (num = 0) || decide (num = 1)) && decide (name = [])) := by
      show (if op = 1 then _ else if op = 2 then _ else _) = _
      rw [if_neg h1, if_pos h2]; rfl
    rw [e] at hK
    by_cases q1 : num = 0 <;> by_cases q2 : num = 1 <;> by_cases q3 : name = [] <;> (try (exfalso; omega)) <;>
      (have := hK _ hE1
       simp only [q1, q2, q3, decide_true, decide_false, Bool.and_true, Bool.true_and, Bool.and_false, Bool.false_and, Bool.or_true, Bool.true_or, Bool.or_false, Bool.false_or, Bool.and_self, Bool.or_self, Bool.not_true, Bool.not_false, eq_self, not_true, not_false_eq_true, ne_eq] at this
       simp (disch := first | decide | assumption | omega | (simp only [nx_nw, nx_wr, nx_ap, nx_bare]; first | done | omega) | (simp (disch := first | assumption | omega | (simp only [nx_nw, nx_wr, nx_ap, nx_bare]; first | done | omega)) only [hl, hlen, rRu, List.length_cons, List.length_nil]; first | done | omega | decide)) only [g0, g1, g2, hl, hlen, Nat.reduceAdd, Nat.reduceSub, Nat.reduceMul, Nat.zero_add, a_new, a_box, a_st, a_ldA, rats_nwE, rats_nwO, rats_wr, rats_wrO, upd_nil, upd_00, upd_0, upd_S, upd_e, nx_nw, nx_wr, nx_ap, nx_bare, h_bare, len_nwE, len_nwO, len_wr, at_nwE, at_nwO, at_wr, at_wrB, at_wrA, at_wrO, cells_agg, cells_int, cells_str, cells_bool, cells_slice, cells_nils, cells_ptr, a_build0, a_buildc, a_bS, a_bS0, a_bSc, rep_0, rep_S, i_buildP, i_buildSP, r_ps0, r_ps1, i_fnA, i_slS1, i_slS2, i_slS3, v_idxS0, v_iface, r_resA, r_dops, r_dnil, r_dcons0, r_dcons1, h_0, h_1, h_rw, h_wr, h_n1, h_n2, lg_0, lg_S, te_0, te_1, te_2, vl_c, vl_l, vl_ls, vl_g, vl_gs, true_and, and_true, and_self, List.getD_cons_zero, List.getD_cons_succ, rRd, rRe, rRf, Bool.not_true, Bool.not_false, List.cons_append, List.nil_append, List.append_nil]
       exact this)
  by_cases h3 : op = 3
  · have e : leafB (.mk op num name ks l c) = (decide (num = 0) && nm name) := by
      show (if op = 1 then _ else if op = 2 then _ else if op = 3 then _ else _) = _
      rw [if_neg h1, if_neg h2, if_pos h3]; rfl
    rw [e] at hK
    by_cases q1 : num = 0
    · simp (disch := first | decide | assumption | omega | (simp only [nx_nw, nx_wr, nx_ap, nx_bare]; first | done | omega) | (simp (disch := first | assumption | omega | (simp only [nx_nw, nx_wr, nx_ap, nx_bare]; first | done | omega)) only [hl, hlen, rRu, List.length_cons, List.length_nil]; first | done | omega | decide)) only [g0, g1, g2, hl, hlen, Nat.reduceAdd, Nat.reduceSub, Nat.reduceMul, Nat.zero_add, a_new, a_box, a_st, a_ldA, rats_nwE, rats_nwO, rats_wr, rats_wrO, upd_nil, upd_00, upd_0, upd_S, upd_e, nx_nw, nx_wr, nx_ap, nx_bare, h_bare, len_nwE, len_nwO, len_wr, at_nwE, at_nwO, at_wr, at_wrB, at_wrA, at_wrO, cells_agg, cells_int, cells_str, cells_bool, cells_slice, cells_nils, cells_ptr, a_build0, a_buildc, a_bS, a_bS0, a_bSc, rep_0, rep_S, i_buildP, i_buildSP, r_ps0, r_ps1, i_fnA, i_slS1, i_slS2, i_slS3, v_idxS0, v_iface, r_resA, r_dops, r_dnil, r_dcons0, r_dcons1, h_0, h_1, h_rw, h_wr, h_n1, h_n2, lg_0, lg_S, te_0, te_1, te_2, vl_c, vl_l, vl_ls, vl_g, vl_gs, true_and, and_true, and_self, List.getD_cons_zero, List.getD_cons_succ, rRd, rRe, rRf, Bool.not_true, Bool.not_false, List.cons_append, List.nil_append, List.append_nil]
      refine CB.of (Name_ok (hb.mem (by decide)) name hn.len hn.lt _ _ ?_)
      have := hK _ hE1
      simp only [q1, decide_true, decide_false, Bool.and_true, Bool.true_and, Bool.and_false, Bool.false_and, Bool.or_true, Bool.true_or, Bool.or_false, Bool.false_or, Bool.and_self, Bool.or_self, Bool.not_true, Bool.not_false, eq_self, not_true, not_false_eq_true, ne_eq] at this
      simp (disch := first | decide | assumption | omega | (simp only [nx_nw, nx_wr, nx_ap, nx_bare]; first | done | omega) | (simp (disch := first | assumption | omega | (simp only [nx_nw, nx_wr, nx_ap, nx_bare]; first | done | omega)) only [rRu, List.length_cons, List.length_nil]; first | done | omega | decide)) only [Nat.reduceAdd, Nat.reduceSub, Nat.reduceMul, Nat.zero_add, a_new, a_box, a_st, a_ldA, rats_nwE, rats_nwO, rats_wr, rats_wrO, upd_nil, upd_00, upd_0, upd_S, upd_e, nx_nw, nx_wr, nx_ap, nx_bare, h_bare, len_nwE, len_nwO, len_wr, at_nwE, at_nwO, at_wr, at_wrB, at_wrA, at_wrO, cells_agg, cells_int, cells_str, cells_bool, cells_slice, cells_nils, cells_ptr, a_build0, a_buildc, a_bS, a_bS0, a_bSc, rep_0, rep_S, i_buildP, i_buildSP, r_ps0, r_ps1, i_fnA, i_slS1, i_slS2, i_slS3, v_idxS0, v_iface, r_resA, r_dops, r_dnil, r_dcons0, r_dcons1, h_0, h_1, h_rw, h_wr, h_n1, h_n2, lg_0, lg_S, te_0, te_1, te_2, vl_c, vl_l, vl_ls, vl_g, vl_gs, true_and, and_true, and_self, List.getD_cons_zero, List.getD_cons_succ, rRd, rRe, rRf, Bool.not_true, Bool.not_false, List.cons_append, List.nil_append, List.append_nil]
      exact this
    · have := hK _ hE1
      simp only [q1, decide_true, decide_false, Bool.and_true, Bool.true_and, Bool.and_false, Bool.false_and, Bool.or_true, Bool.true_or, Bool.or_false, Bool.false_or, Bool.and_self, Bool.or_self, Bool.not_true, Bool.not_false, eq_self, not_true, not_false_eq_true, ne_eq] at this
      simp (disch := first | decide | assumption | omega | (simp only [nx_nw, nx_wr, nx_ap, nx_bare]; first | done | omega) | (simp (disch := first | assumption | omega | (simp only [nx_nw, nx_wr, nx_ap, nx_bare]; first | done | omega)) only [hl, hlen, rRu, List.length_cons, List.length_nil]; first | done | omega | decide)) only [g0, g1, g2, hl, hlen, Nat.reduceAdd, Nat.reduceSub, Nat.reduceMul, Nat.zero_add, a_new, a_box, a_st, a_ldA, rats_nwE, rats_nwO, rats_wr, rats_wrO, upd_nil, upd_00, upd_0, upd_S, upd_e, nx_nw, nx_wr, nx_ap, nx_bare, h_bare, len_nwE, len_nwO, len_wr, at_nwE, at_nwO, at_wr, at_wrB, at_wrA, at_wrO, cells_agg, cells_int, cells_str, cells_bool, cells_slice, cells_nils, cells_ptr, a_build0, a_buildc, a_bS, a_bS0, a_bSc, rep_0, rep_S, i_buildP, i_buildSP, r_ps0, r_ps1, i_fnA, i_slS1, i_slS2, i_slS3, v_idxS0, v_iface, r_resA, r_dops, r_dnil, r_dcons0, r_dcons1, h_0, h_1, h_rw, h_wr, h_n1, h_n2, lg_0, lg_S, te_0, te_1, te_2, vl_c, vl_l, vl_ls, vl_g, vl_gs, true_and, and_true, and_self, List.getD_cons_zero, List.getD_cons_succ, rRd, rRe, rRf, Bool.not_true, Bool.not_false, List.cons_append, List.nil_append, List.append_nil]
      exact this
  by_cases h4 : op = 4
  · have e : leafB (.mk op num name ks l c) = decide (name = []) := by
      show (if op = 1 then _ else if op = 2 then _ else if op = 3 then _ else if op = 4 then _ else _) = _
      rw [if_neg h1, if_neg h2, if_neg h3, if_pos h4]; rfl
    rw [e] at hK
    by_cases q3 : name = [] <;> (try (exfalso; omega)) <;>
      (have := hK _ hE1
       simp only [q3, decide_true, decide_false, Bool.and_true, Bool.true_and, Bool.and_false, Bool.false_and, Bool.or_true, Bool.true_or, Bool.or_false, Bool.false_or, Bool.and_self, Bool.or_self, Bool.not_true, Bool.not_false, eq_self, not_true, not_false_eq_true, ne_eq] at this
       simp (disch := first | decide | assumption | omega | (simp only [nx_nw, nx_wr, nx_ap, nx_bare]; first | done | omega) | (simp (disch := first | assumption | omega | (simp only [nx_nw, nx_wr, nx_ap, nx_bare]; first | done | omega)) only [hl, hlen, rRu, List.length_cons, List.length_nil]; first | done | omega | decide)) only [g0, g1, g2, hl, hlen, Nat.reduceAdd, Nat.reduceSub, Nat.reduceMul, Nat.zero_add, a_new, a_box, a_st, a_ldA, rats_nwE, rats_nwO, rats_wr, rats_wrO, upd_nil, upd_00, upd_0, upd_S, upd_e, nx_nw, nx_wr, nx_ap, nx_bare, h_bare, len_nwE, len_nwO, len_wr, at_nwE, at_nwO, at_wr, at_wrB, at_wrA, at_wrO, cells_agg, cells_int, cells_str, cells_bool, cells_slice, cells_nils, cells_ptr, a_build0, a_buildc, a_bS, a_bS0, a_bSc, rep_0, rep_S, i_buildP, i_buildSP, r_ps0, r_ps1, i_fnA, i_slS1, i_slS2, i_slS3, v_idxS0, v_iface, r_resA, r_dops, r_dnil, r_dcons0, r_dcons1, h_0, h_1, h_rw, h_wr, h_n1, h_n2, lg_0, lg_S, te_0, te_1, te_2, vl_c, vl_l, vl_ls, vl_g, vl_gs, true_and, and_true, and_self, List.getD_cons_zero, List.getD_cons_succ, rRd, rRe, rRf, Bool.not_true, Bool.not_false, List.cons_append, List.nil_append, List.append_nil]
       exact this)
  have e := eL h1 h2 h3 h4
  rw [e] at hK
  by_cases q1 : num = 0 <;> by_cases q3 : name = [] <;> (try (exfalso; omega)) <;>
    (have := hK _ hE1
     simp only [q1, q3, decide_true, decide_false, Bool.and_true, Bool.true_and, Bool.and_false, Bool.false_and, Bool.or_true, Bool.true_or, Bool.or_false, Bool.false_or, Bool.and_self, Bool.or_self, Bool.not_true, Bool.not_false, eq_self, not_true, not_false_eq_true, ne_eq] at this
     simp (disch := first | decide | assumption | omega | (simp only [nx_nw, nx_wr, nx_ap, nx_bare]; first | done | omega) | (simp (disch := first | assumption | omega | (simp only [nx_nw, nx_wr, nx_ap, nx_bare]; first | done | omega)) only [hl, hlen, rRu, List.length_cons, List.length_nil]; first | done | omega | decide)) only [g0, g1, g2, hl, hlen, Nat.reduceAdd, Nat.reduceSub, Nat.reduceMul, Nat.zero_add, a_new, a_box, a_st, a_ldA, rats_nwE, rats_nwO, rats_wr, rats_wrO, upd_nil, upd_00, upd_0, upd_S, upd_e, nx_nw, nx_wr, nx_ap, nx_bare, h_bare, len_nwE, len_nwO, len_wr, at_nwE, at_nwO, at_wr, at_wrB, at_wrA, at_wrO, cells_agg, cells_int, cells_str, cells_bool, cells_slice, cells_nils, cells_ptr, a_build0, a_buildc, a_bS, a_bS0, a_bSc, rep_0, rep_S, i_buildP, i_buildSP, r_ps0, r_ps1, i_fnA, i_slS1, i_slS2, i_slS3, v_idxS0, v_iface, r_resA, r_dops, r_dnil, r_dcons0, r_dcons1, h_0, h_1, h_rw, h_wr, h_n1, h_n2, lg_0, lg_S, te_0, te_1, te_2, vl_c, vl_l, vl_ls, vl_g, vl_gs, true_and, and_true, and_self, List.getD_cons_zero, List.getD_cons_succ, rRd, rRe, rRf, Bool.not_true, Bool.not_false, List.cons_append, List.nil_append, List.append_nil]
     exact this)
end Go.Sy
end
