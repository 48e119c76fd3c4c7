/-
  Contracts: the code lowered, what it does told by rules, and the contracts of the functions that the law reaches.
-/
import Derived.Test.YtfdncjlamfhppaaSyD
import Derived.Test.YtfdncjlamfhppaaProg
import Derived.KernelRfl
set_option linter.unusedVariables false
set_option linter.unusedSimpArgs false
section
set_option maxRecDepth 100000
namespace Go.Sy
open Go.Ev Go.Proofs
variable {base : CallF}
theorem has_wide {G : Gr} {n : Nat} {a : Nat → Nat} (hn : 1 ≤ n) (h : ∀ i, i < n → G.has (a i)) (i : Nat) : G.has (wide n a i) := by
  unfold wide
  split
  · exact h i (by assumption)
  · exact h _ (by omega)
theorem Add_ok (hb : ∀ f args st, f ≠ 12 → base f args st = .no) {g p q m : Nat} {ex : Bool} {G : Gr} {b1 o1 n1 c1 b2 o2 n2 c2 : Nat} {x1 x2 : Bool} {a1 a2 : Nat → Nat} (st : Ev.St) (hG : GM st.h st.nx g p q m ex G) (hok : G.OK) (hN : G.parts.length + 18 * (max n1 n2 + 1) ≤ 1048576) (h1 : 1 ≤ n1) (h2 : 1 ≤ n2) (hw : max n1 n2 + 1 ≤ 32)
    (hR1 : Row st b1 o1 n1 a1) (hR2 : Row st b2 o2 n2 a2) (ha1 : ∀ i, i < n1 → G.has (a1 i)) (ha2 : ∀ i, i < n2 → G.has (a2 i)) (K : AV → Ev.St → Prop)
    (hK : ∀ bo xs p' ex' G' st', Aft g p q m G (18 * (max n1 n2 + 1)) st p' ex' G' st' → st.nx ≤ bo → Ed st' (Own g p' q m G') bo 0 (max n1 n2 + 1) xs → (∀ i, i < max n1 n2 + 1 → G'.has (xs i)) →
      (∀ inp, inp 0 = false → ∀ i, i < max n1 n2 + 1 → ev inp G'.parts (xs i) = sbit (fun i => ev inp G.parts (wide n1 a1 i)) (fun i => ev inp G.parts (wide n2 a2 i)) (ev inp G.parts 0) i) → K (.tup [.slice bo 0 (max n1 n2 + 1) (max n1 n2 + 1) 1 true, .int .i64 0]) st') :
    CW Try.prog base 19 [.ptr g 0, .slice b1 o1 n1 c1 1 x1, .slice b2 o2 n2 c2 1 x2] st K := by
  refine fn_rule l19 (hb _ _ _ (by decide)) ?_
  simp only [c19, entry, List.map_cons, List.map_nil, List.getD_cons_zero, List.getD_cons_succ]
  unfold b19
  have A0 : Aft g p q m G 0 st p ex G st.bare := Aft.kept hG hok (Kept.refl _)
  simp (disch := first | assumption | decide | omega) only [qz3e, qz3f, qz3g, qz3h, qz3i, qz3j, qz00, qz01, qz02, qz03, qz04, qz05, qz06, qz07, qz08, qz09, qz0a, qz0b, qz0c, qz0d, qz0e, qz0f, qz0g, qz0h, qz0i, qz0j, qz0k, qz0l, qz0m, qz0n, qz0o, qz0p, qz0q, qz0r, qz0s, qz0t, qz0u, qz0v, qz0w, qz0x, qz0y, qz0z, qz10, qz11, qz12, qz13, qz14, qz15, qz16, qz17, qz18, qz19, qz1a, qz1b, qz1c, qz1d, qz1e, qz1f, qz1g, qz1h, qz1i, qz1j, qz1k, qz1l, qz1m, qz1n, qz1o, qz1p, qz1q, qz1r, qz1s, qz1t, qz1u, qz1v, qz1w, qz1x, qz1y, qz1z, qz20, qz21, qz22, qz23, qz24, qz25, qz26, qz27, qz28, qz29, qz2a, qz2b, qz2c, qz2d, qz2e, qz2f, qz2g, qz2h, qz2i, qz2j, qz2k, qz2l, qz2m, qz2n, qz2o, qz2p, qz2q, qz2r, qz2s, qz2t, qz2u, qz2v, qz2w, qz2x, qz2y, qz2z, qz30, qz31, qz32, qz33, qz34, qz35, qz36, qz37, qz38, qz39, qz3a, qz3b, qz3c, qz3d, Bool.not_true, Bool.not_false, List.cons_append, List.nil_append, List.append_nil]
  refine same_ok (more := 1) (fun f a s hf => hb _ a s (by intro h; subst h; simp at hf)) st.bare hG (by omega) h1 h2 hw hR1 hR2 ha1 ha2 _ fun d1 d2 s1 e1 hd1 hd2 hdd R1 R2 => ?_
  have A1 := A0.ext e1
  have R1' : Row (back st.bare s1) d1 0 (max n1 n2 + 1) (wide n1 a1) := R1
  have R2' : Row (back st.bare s1) d2 0 (max n1 n2 + 1) (wide n2 a2) := R2
  generalize back st.bare s1 = t at A1 R1' R2'
  have hd1' : st.nx ≤ d1 := hd1
  have hd2' : st.nx ≤ d2 := hd2
  simp (disch := first | assumption | decide | omega) only [qz3e, qz3f, qz3g, qz3h, qz3i, qz3j, v_ext30, v_ext31, v_ext32, qz00, qz01, qz02, qz03, qz04, qz05, qz06, qz07, qz08, qz09, qz0a, qz0b, qz0c, qz0d, qz0e, qz0f, qz0g, qz0h, qz0i, qz0j, qz0k, qz0l, qz0m, qz0n, qz0o, qz0p, qz0q, qz0r, qz0s, qz0t, qz0u, qz0v, qz0w, qz0x, qz0y, qz0z, qz10, qz11, qz12, qz13, qz14, qz15, qz16, qz17, qz18, qz19, qz1a, qz1b, qz1c, qz1d, qz1e, qz1f, qz1g, qz1h, qz1i, qz1j, qz1k, qz1l, qz1m, qz1n, qz1o, qz1p, qz1q, qz1r, qz1s, qz1t, qz1u, qz1v, qz1w, qz1x, qz1y, qz1z, qz20, qz21, qz22, qz23, qz24, qz25, qz26, qz27, qz28, qz29, qz2a, qz2b, qz2c, qz2d, qz2e, qz2f, qz2g, qz2h, qz2i, qz2j, qz2k, qz2l, qz2m, qz2n, qz2o, qz2p, qz2q, qz2r, qz2s, qz2t, qz2u, qz2v, qz2w, qz2x, qz2y, qz2z, qz30, qz31, qz32, qz33, qz34, qz35, qz36, qz37, qz38, qz39, qz3a, qz3b, qz3c, qz3d, Bool.not_true, Bool.not_false, List.cons_append, List.nil_append, List.append_nil]
  refine sum_ok (c := 0) (fun f a s hf => hb _ a s (by intro h; subst h; simp at hf)) t A1.gm hok hw hN (R1'.ed fun h => by have := own_lt hG h; omega) (R2'.ed fun h => by have := own_lt hG h; omega) (fun i _ => has_wide h1 ha1 i) (fun i _ => has_wide h2 ha2 i) (by unfold Gr.has; have := hG.ppos; omega) _ fun bo xs p' ex' G' s2 B hbo E hx hev => ?_
  have A2 := A1.trans (B.back A1.fr)
  have E' : Ed (back t s2) (Own g p' q m G') bo 0 (max n1 n2 + 1) xs := ⟨E.lt, E.off, E.len, E.cell⟩
  generalize back t s2 = u at A2 E'
  simp (disch := first | assumption | decide | omega) only [qz3e, qz3f, qz3g, qz3h, qz3i, qz3j, qz00, qz01, qz02, qz03, qz04, qz05, qz06, qz07, qz08, qz09, qz0a, qz0b, qz0c, qz0d, qz0e, qz0f, qz0g, qz0h, qz0i, qz0j, qz0k, qz0l, qz0m, qz0n, qz0o, qz0p, qz0q, qz0r, qz0s, qz0t, qz0u, qz0v, qz0w, qz0x, qz0y, qz0z, qz10, qz11, qz12, qz13, qz14, qz15, qz16, qz17, qz18, qz19, qz1a, qz1b, qz1c, qz1d, qz1e, qz1f, qz1g, qz1h, qz1i, qz1j, qz1k, qz1l, qz1m, qz1n, qz1o, qz1p, qz1q, qz1r, qz1s, qz1t, qz1u, qz1v, qz1w, qz1x, qz1y, qz1z, qz20, qz21, qz22, qz23, qz24, qz25, qz26, qz27, qz28, qz29, qz2a, qz2b, qz2c, qz2d, qz2e, qz2f, qz2g, qz2h, qz2i, qz2j, qz2k, qz2l, qz2m, qz2n, qz2o, qz2p, qz2q, qz2r, qz2s, qz2t, qz2u, qz2v, qz2w, qz2x, qz2y, qz2z, qz30, qz31, qz32, qz33, qz34, qz35, qz36, qz37, qz38, qz39, qz3a, qz3b, qz3c, qz3d, Bool.not_true, Bool.not_false, List.cons_append, List.nil_append, List.append_nil]
  exact hK bo xs p' ex' G' u.bare (A2.more (by omega)).bare (Nat.le_trans A1.step.nx hbo) E'.bare hx hev
end Go.Sy
end

section
set_option maxRecDepth 100000
namespace Go.Sy
open Go.Ev Go.Proofs
variable {base : CallF}
theorem Sub_ok (hb : ∀ f args st, f ≠ 12 → base f args st = .no) {g p q m : Nat} {ex : Bool} {G : Gr} {b1 o1 n1 c1 b2 o2 n2 c2 : Nat} {x1 x2 : Bool} {a1 a2 : Nat → Nat} (st : Ev.St) (hG : GM st.h st.nx g p q m ex G) (hok : G.OK) (hN : G.parts.length + 18 * (max n1 n2 + 1) ≤ 1048576) (h1 : 1 ≤ n1) (h2 : 1 ≤ n2) (hw : max n1 n2 + 1 ≤ 32)
    (hR1 : Row st b1 o1 n1 a1) (hR2 : Row st b2 o2 n2 a2) (ha1 : ∀ i, i < n1 → G.has (a1 i)) (ha2 : ∀ i, i < n2 → G.has (a2 i)) (K : AV → Ev.St → Prop)
    (hK : ∀ bo xs p' ex' G' st', Aft g p q m G (18 * (max n1 n2 + 1)) st p' ex' G' st' → st.nx ≤ bo → Ed st' (Own g p' q m G') bo 0 (max n1 n2 + 1) xs → (∀ i, i < max n1 n2 + 1 → G'.has (xs i)) →
      (∀ inp, inp 0 = false → ∀ i, i < max n1 n2 + 1 → ev inp G'.parts (xs i) = sbit (fun i => ev inp G.parts (wide n1 a1 i)) (fun i => !ev inp G.parts (wide n2 a2 i)) (ev inp G.parts 1) i) → K (.tup [.slice bo 0 (max n1 n2 + 1) (max n1 n2 + 1) 1 true, .int .i64 0]) st') :
    CW Try.prog base 23 [.ptr g 0, .slice b1 o1 n1 c1 1 x1, .slice b2 o2 n2 c2 1 x2] st K := by
  refine fn_rule l23 (hb _ _ _ (by decide)) ?_
  simp only [c23, entry, List.map_cons, List.map_nil, List.getD_cons_zero, List.getD_cons_succ]
  unfold b23
  have A0 : Aft g p q m G 0 st p ex G st.bare := Aft.kept hG hok (Kept.refl _)
  simp (disch := first | assumption | decide | omega) only [qz3e, qz3f, qz3g, qz3h, qz3i, qz3j, qz00, qz01, qz02, qz03, qz04, qz05, qz06, qz07, qz08, qz09, qz0a, qz0b, qz0c, qz0d, qz0e, qz0f, qz0g, qz0h, qz0i, qz0j, qz0k, qz0l, qz0m, qz0n, qz0o, qz0p, qz0q, qz0r, qz0s, qz0t, qz0u, qz0v, qz0w, qz0x, qz0y, qz0z, qz10, qz11, qz12, qz13, qz14, qz15, qz16, qz17, qz18, qz19, qz1a, qz1b, qz1c, qz1d, qz1e, qz1f, qz1g, qz1h, qz1i, qz1j, qz1k, qz1l, qz1m, qz1n, qz1o, qz1p, qz1q, qz1r, qz1s, qz1t, qz1u, qz1v, qz1w, qz1x, qz1y, qz1z, qz20, qz21, qz22, qz23, qz24, qz25, qz26, qz27, qz28, qz29, qz2a, qz2b, qz2c, qz2d, qz2e, qz2f, qz2g, qz2h, qz2i, qz2j, qz2k, qz2l, qz2m, qz2n, qz2o, qz2p, qz2q, qz2r, qz2s, qz2t, qz2u, qz2v, qz2w, qz2x, qz2y, qz2z, qz30, qz31, qz32, qz33, qz34, qz35, qz36, qz37, qz38, qz39, qz3a, qz3b, qz3c, qz3d, Bool.not_true, Bool.not_false, List.cons_append, List.nil_append, List.append_nil]
  refine same_ok (more := 1) (fun f a s hf => hb _ a s (by intro h; subst h; simp at hf)) st.bare hG (by omega) h1 h2 hw hR1 hR2 ha1 ha2 _ fun d1 d2 s1 e1 hd1 hd2 hdd R1 R2 => ?_
  have A1 := A0.ext e1
  have R1' : Row (back st.bare s1) d1 0 (max n1 n2 + 1) (wide n1 a1) := R1
  have R2' : Row (back st.bare s1) d2 0 (max n1 n2 + 1) (wide n2 a2) := R2
  generalize back st.bare s1 = t at A1 R1' R2'
  have hd1' : st.nx ≤ d1 := hd1
  have hd2' : st.nx ≤ d2 := hd2
  simp (disch := first | assumption | decide | omega) only [qz3e, qz3f, qz3g, qz3h, qz3i, qz3j, v_ext30, v_ext31, v_ext32, qz00, qz01, qz02, qz03, qz04, qz05, qz06, qz07, qz08, qz09, qz0a, qz0b, qz0c, qz0d, qz0e, qz0f, qz0g, qz0h, qz0i, qz0j, qz0k, qz0l, qz0m, qz0n, qz0o, qz0p, qz0q, qz0r, qz0s, qz0t, qz0u, qz0v, qz0w, qz0x, qz0y, qz0z, qz10, qz11, qz12, qz13, qz14, qz15, qz16, qz17, qz18, qz19, qz1a, qz1b, qz1c, qz1d, qz1e, qz1f, qz1g, qz1h, qz1i, qz1j, qz1k, qz1l, qz1m, qz1n, qz1o, qz1p, qz1q, qz1r, qz1s, qz1t, qz1u, qz1v, qz1w, qz1x, qz1y, qz1z, qz20, qz21, qz22, qz23, qz24, qz25, qz26, qz27, qz28, qz29, qz2a, qz2b, qz2c, qz2d, qz2e, qz2f, qz2g, qz2h, qz2i, qz2j, qz2k, qz2l, qz2m, qz2n, qz2o, qz2p, qz2q, qz2r, qz2s, qz2t, qz2u, qz2v, qz2w, qz2x, qz2y, qz2z, qz30, qz31, qz32, qz33, qz34, qz35, qz36, qz37, qz38, qz39, qz3a, qz3b, qz3c, qz3d, Bool.not_true, Bool.not_false, List.cons_append, List.nil_append, List.append_nil]
  refine turned_ok (fun a s => hb _ a s (by decide)) hw t R2'.1 R2'.2.1 R2'.2.2 (fun i hi => by have := has_wide h2 ha2 i; unfold Gr.has at this; omega) _ fun d3 s2 e2 hd3 hd4 l3 v3 => ?_
  have A2 := A1.ext e2
  have R1'' : Row (back t s2) d1 0 (max n1 n2 + 1) (wide n1 a1) := Row.keep R1' e2.keep e2.nx
  have R3 : Row (back t s2) d3 0 (max n1 n2 + 1) (fun i => wide n2 a2 i ^^^ 1) := ⟨hd4, by show 0 + _ ≤ rlen s2.h d3; omega, fun i hi => by rw [Nat.zero_add]; exact v3 i hi⟩
  have hd3' : st.nx ≤ d3 := Nat.le_trans A1.step.nx hd3
  generalize back t s2 = u at A2 R1'' R3
  simp (disch := first | assumption | decide | omega) only [qz3e, qz3f, qz3g, qz3h, qz3i, qz3j, qz00, qz01, qz02, qz03, qz04, qz05, qz06, qz07, qz08, qz09, qz0a, qz0b, qz0c, qz0d, qz0e, qz0f, qz0g, qz0h, qz0i, qz0j, qz0k, qz0l, qz0m, qz0n, qz0o, qz0p, qz0q, qz0r, qz0s, qz0t, qz0u, qz0v, qz0w, qz0x, qz0y, qz0z, qz10, qz11, qz12, qz13, qz14, qz15, qz16, qz17, qz18, qz19, qz1a, qz1b, qz1c, qz1d, qz1e, qz1f, qz1g, qz1h, qz1i, qz1j, qz1k, qz1l, qz1m, qz1n, qz1o, qz1p, qz1q, qz1r, qz1s, qz1t, qz1u, qz1v, qz1w, qz1x, qz1y, qz1z, qz20, qz21, qz22, qz23, qz24, qz25, qz26, qz27, qz28, qz29, qz2a, qz2b, qz2c, qz2d, qz2e, qz2f, qz2g, qz2h, qz2i, qz2j, qz2k, qz2l, qz2m, qz2n, qz2o, qz2p, qz2q, qz2r, qz2s, qz2t, qz2u, qz2v, qz2w, qz2x, qz2y, qz2z, qz30, qz31, qz32, qz33, qz34, qz35, qz36, qz37, qz38, qz39, qz3a, qz3b, qz3c, qz3d, Bool.not_true, Bool.not_false, List.cons_append, List.nil_append, List.append_nil]
  refine sum_ok (c := 1) (fun f a s hf => hb _ a s (by intro h; subst h; simp at hf)) u A2.gm hok hw hN (R1''.ed fun h => by have := own_lt hG h; omega) (R3.ed fun h => by have := own_lt hG h; omega) (fun i _ => has_wide h1 ha1 i) (fun i _ => has_flip (has_wide h2 ha2 i)) (by unfold Gr.has; have := hG.ppos; omega) _ fun bo xs p' ex' G' s2 B hbo E hx hev => ?_
  have A3 := A2.trans (B.back A2.fr)
  have E' : Ed (back u s2) (Own g p' q m G') bo 0 (max n1 n2 + 1) xs := ⟨E.lt, E.off, E.len, E.cell⟩
  generalize back u s2 = v at A3 E'
  simp (disch := first | assumption | decide | omega) only [qz3e, qz3f, qz3g, qz3h, qz3i, qz3j, qz00, qz01, qz02, qz03, qz04, qz05, qz06, qz07, qz08, qz09, qz0a, qz0b, qz0c, qz0d, qz0e, qz0f, qz0g, qz0h, qz0i, qz0j, qz0k, qz0l, qz0m, qz0n, qz0o, qz0p, qz0q, qz0r, qz0s, qz0t, qz0u, qz0v, qz0w, qz0x, qz0y, qz0z, qz10, qz11, qz12, qz13, qz14, qz15, qz16, qz17, qz18, qz19, qz1a, qz1b, qz1c, qz1d, qz1e, qz1f, qz1g, qz1h, qz1i, qz1j, qz1k, qz1l, qz1m, qz1n, qz1o, qz1p, qz1q, qz1r, qz1s, qz1t, qz1u, qz1v, qz1w, qz1x, qz1y, qz1z, qz20, qz21, qz22, qz23, qz24, qz25, qz26, qz27, qz28, qz29, qz2a, qz2b, qz2c, qz2d, qz2e, qz2f, qz2g, qz2h, qz2i, qz2j, qz2k, qz2l, qz2m, qz2n, qz2o, qz2p, qz2q, qz2r, qz2s, qz2t, qz2u, qz2v, qz2w, qz2x, qz2y, qz2z, qz30, qz31, qz32, qz33, qz34, qz35, qz36, qz37, qz38, qz39, qz3a, qz3b, qz3c, qz3d, Bool.not_true, Bool.not_false, List.cons_append, List.nil_append, List.append_nil]
  refine hK bo xs p' ex' G' v.bare (A3.more (by omega)).bare (Nat.le_trans A2.step.nx hbo) E'.bare hx fun inp hi i hi' => ?_
  rw [hev inp hi i hi']
  simp only [ev_not]
end Go.Sy
end

section
set_option maxRecDepth 100000
namespace Go.Sy
open Go.Ev Go.Proofs
variable {base : CallF}
/-- nothing done -/
theorem Aft.self {g p q m : Nat} {ex' : Bool} {G G' : Gr} {k : Nat} {st s : Ev.St} {p' : Nat} (h : Aft g p q m G k st p' ex' G' s) (hok : G'.OK) : Aft g p' q m G' 0 s p' ex' G' s := Aft.kept h.gm hok ⟨Nat.le_refl _, h.fr, fun _ _ => rfl⟩
theorem Ed.wrote {s s' : Ev.St} {own : Nat → Prop} {b o n b2 o2 : Nat} {a : Nat → Nat} {v : AV} (h : Ed s own b o n a) (i : Wrote s s' b2 o2 v) (hb : b ≠ b2) : Ed s' own b o n a :=
  ⟨by rw [i.nx]; exact h.lt, h.off, by rw [rlen_same (i.keep b hb)]; exact h.len, fun j hj => (rat_same (i.keep b hb) _).trans (h.cell j hj)⟩
theorem Choose_ok (hb : ∀ f args st, f ≠ 12 → base f args st = .no) {g p q m c : Nat} {ex : Bool} {G : Gr} {b1 o1 n1 c1 b2 o2 n2 c2 : Nat} {x1 x2 : Bool} {a1 a2 : Nat → Nat} (st : Ev.St) (hG : GM st.h st.nx g p q m ex G) (hok : G.OK) (hN : G.parts.length + 6 * max n1 n2 ≤ 1048576) (h1 : 1 ≤ n1) (h2 : 1 ≤ n2) (hw : max n1 n2 ≤ 32) (hc : G.has c)
    (hR1 : Row st b1 o1 n1 a1) (hR2 : Row st b2 o2 n2 a2) (ha1 : ∀ i, i < n1 → G.has (a1 i)) (ha2 : ∀ i, i < n2 → G.has (a2 i)) (K : AV → Ev.St → Prop)
    (hK : ∀ bo xs p' ex' G' st', Aft g p q m G (6 * max n1 n2) st p' ex' G' st' → st.nx ≤ bo → Ed st' (Own g p' q m G') bo 0 (max n1 n2) xs → (∀ i, i < max n1 n2 → G'.has (xs i)) →
      (∀ inp, inp 0 = false → ∀ i, i < max n1 n2 → ev inp G'.parts (xs i) = if ev inp G.parts c = true then ev inp G.parts (wide n1 a1 i) else ev inp G.parts (wide n2 a2 i)) → K (.tup [.slice bo 0 (max n1 n2) (max n1 n2) 1 true, .int .i64 0]) st') :
    CW Try.prog base 30 [.ptr g 0, .int .u32 (c : Int), .slice b1 o1 n1 c1 1 x1, .slice b2 o2 n2 c2 1 x2] st K := by
  refine fn_rule l30 (hb _ _ _ (by decide)) ?_
  simp only [c30, entry, List.map_cons, List.map_nil, List.getD_cons_zero, List.getD_cons_succ]
  unfold b30
  have A0 : Aft g p q m G 0 st p ex G st.bare := Aft.kept hG hok (Kept.refl _)
  simp (disch := first | assumption | decide | omega) only [qz3e, qz3f, qz3g, qz3h, qz3i, qz3j, qz00, qz01, qz02, qz03, qz04, qz05, qz06, qz07, qz08, qz09, qz0a, qz0b, qz0c, qz0d, qz0e, qz0f, qz0g, qz0h, qz0i, qz0j, qz0k, qz0l, qz0m, qz0n, qz0o, qz0p, qz0q, qz0r, qz0s, qz0t, qz0u, qz0v, qz0w, qz0x, qz0y, qz0z, qz10, qz11, qz12, qz13, qz14, qz15, qz16, qz17, qz18, qz19, qz1a, qz1b, qz1c, qz1d, qz1e, qz1f, qz1g, qz1h, qz1i, qz1j, qz1k, qz1l, qz1m, qz1n, qz1o, qz1p, qz1q, qz1r, qz1s, qz1t, qz1u, qz1v, qz1w, qz1x, qz1y, qz1z, qz20, qz21, qz22, qz23, qz24, qz25, qz26, qz27, qz28, qz29, qz2a, qz2b, qz2c, qz2d, qz2e, qz2f, qz2g, qz2h, qz2i, qz2j, qz2k, qz2l, qz2m, qz2n, qz2o, qz2p, qz2q, qz2r, qz2s, qz2t, qz2u, qz2v, qz2w, qz2x, qz2y, qz2z, qz30, qz31, qz32, qz33, qz34, qz35, qz36, qz37, qz38, qz39, qz3a, qz3b, qz3c, qz3d, Bool.not_true, Bool.not_false, List.cons_append, List.nil_append, List.append_nil]
  refine same_ok (more := 0) (fun f a s hf => hb _ a s (by intro h; subst h; simp at hf)) st.bare hG (by omega) h1 h2 hw hR1 hR2 ha1 ha2 _ fun d1 d2 s1 e1 hd1 hd2 hdd R1 R2 => ?_
  have A1 := A0.ext e1
  have R1' : Row (back st.bare s1) d1 0 (max n1 n2) (wide n1 a1) := R1
  have R2' : Row (back st.bare s1) d2 0 (max n1 n2) (wide n2 a2) := R2
  generalize back st.bare s1 = t at A1 R1' R2'
  have hd1' : st.nx ≤ d1 := hd1
  have hd2' : st.nx ≤ d2 := hd2
  have h1w := has_wide h1 ha1
  have h2w := has_wide h2 ha2
  simp only [Nat.add_zero]
  generalize max n1 n2 = n at hN hw hK R1' R2'
  generalize wide n1 a1 = w1 at hK R1' h1w
  generalize wide n2 a2 = w2 at hK R2' h2w
  simp (disch := first | assumption | decide | omega) only [qz3e, qz3f, qz3g, qz3h, qz3i, qz3j, v_ext30, v_ext31, v_ext32, qz00, qz01, qz02, qz03, qz04, qz05, qz06, qz07, qz08, qz09, qz0a, qz0b, qz0c, qz0d, qz0e, qz0f, qz0g, qz0h, qz0i, qz0j, qz0k, qz0l, qz0m, qz0n, qz0o, qz0p, qz0q, qz0r, qz0s, qz0t, qz0u, qz0v, qz0w, qz0x, qz0y, qz0z, qz10, qz11, qz12, qz13, qz14, qz15, qz16, qz17, qz18, qz19, qz1a, qz1b, qz1c, qz1d, qz1e, qz1f, qz1g, qz1h, qz1i, qz1j, qz1k, qz1l, qz1m, qz1n, qz1o, qz1p, qz1q, qz1r, qz1s, qz1t, qz1u, qz1v, qz1w, qz1x, qz1y, qz1z, qz20, qz21, qz22, qz23, qz24, qz25, qz26, qz27, qz28, qz29, qz2a, qz2b, qz2c, qz2d, qz2e, qz2f, qz2g, qz2h, qz2i, qz2j, qz2k, qz2l, qz2m, qz2n, qz2o, qz2p, qz2q, qz2r, qz2s, qz2t, qz2u, qz2v, qz2w, qz2x, qz2y, qz2z, qz30, qz31, qz32, qz33, qz34, qz35, qz36, qz37, qz38, qz39, qz3a, qz3b, qz3c, qz3d, Bool.not_true, Bool.not_false, List.cons_append, List.nil_append, List.append_nil]
  refine o_mkS (l := n) (c := n) (by omega) (by omega) (by omega) fun s2 hs2 => ?_
  have A2 := A1.made hs2
  have n2 : s2.nx = t.nx + 1 := hs2.nx
  have l2 : rlen s2.h t.nx = n := hs2.len.trans (Nat.mul_one n)
  have k12 : Kept t s2 := (Kept.refl t).made hs2
  have hnx : st.nx ≤ t.nx := A1.step.nx
  have E1 : Ed s2 (Own g p q m G) d1 0 n w1 := (Row.keep R1' k12.keep k12.nx).ed fun h => by have := own_lt hG h; omega
  have E2 : Ed s2 (Own g p q m G) d2 0 n w2 := (Row.keep R2' k12.keep k12.nx).ed fun h => by have := own_lt hG h; omega
  have G2 := A2.gm
  simp (disch := first | assumption | decide | omega) only [qz3e, qz3f, qz3g, qz3h, qz3i, qz3j, qz00, qz01, qz02, qz03, qz04, qz05, qz06, qz07, qz08, qz09, qz0a, qz0b, qz0c, qz0d, qz0e, qz0f, qz0g, qz0h, qz0i, qz0j, qz0k, qz0l, qz0m, qz0n, qz0o, qz0p, qz0q, qz0r, qz0s, qz0t, qz0u, qz0v, qz0w, qz0x, qz0y, qz0z, qz10, qz11, qz12, qz13, qz14, qz15, qz16, qz17, qz18, qz19, qz1a, qz1b, qz1c, qz1d, qz1e, qz1f, qz1g, qz1h, qz1i, qz1j, qz1k, qz1l, qz1m, qz1n, qz1o, qz1p, qz1q, qz1r, qz1s, qz1t, qz1u, qz1v, qz1w, qz1x, qz1y, qz1z, qz20, qz21, qz22, qz23, qz24, qz25, qz26, qz27, qz28, qz29, qz2a, qz2b, qz2c, qz2d, qz2e, qz2f, qz2g, qz2h, qz2i, qz2j, qz2k, qz2l, qz2m, qz2n, qz2o, qz2p, qz2q, qz2r, qz2s, qz2t, qz2u, qz2v, qz2w, qz2x, qz2y, qz2z, qz30, qz31, qz32, qz33, qz34, qz35, qz36, qz37, qz38, qz39, qz3a, qz3b, qz3c, qz3d, Bool.not_true, Bool.not_false, List.cons_append, List.nil_append, List.append_nil]
  refine wC_loopH (fun mm L s => ∃ (k : Nat) (xs : Nat → Nat) (p' : Nat) (ex' : Bool) (G' : Gr), k ≤ n ∧ mm = n - k ∧ Aft g p q m G (6 * k) t p' ex' G' s ∧ ¬ Own g p' q m G' t.nx ∧ d1 ≠ t.nx ∧ d2 ≠ t.nx ∧ t.nx < s.nx ∧ Ed s (Own g p' q m G') d1 0 n w1 ∧ Ed s (Own g p' q m G') d2 0 n w2 ∧ rlen s.h t.nx = n ∧ (∀ j, j < k → rat s.h t.nx j = .int .u32 (xs j : Int) ∧ G'.has (xs j)) ∧
      (∀ inp, inp 0 = false → ∀ j, j < k → ev inp G'.parts (xs j) = if ev inp G.parts c = true then ev inp G.parts (w1 j) else ev inp G.parts (w2 j)) ∧
      Has L 0 (.ptr g 0) ∧ Has L 1 (.int .u32 (c : Int)) ∧ Has L 10 (.slice d1 0 n n 1 false) ∧ Has L 11 (.slice d2 0 n n 1 false) ∧ Has L 13 (.slice t.nx 0 n n 1 true) ∧ Has L 30 (.int .i64 (n : Int)) ∧ Has L 31 (.int .i64 (k : Int))) ?_ n ?_
  · rintro mm L s ⟨k, xs, p', ex', G', hk, rfl, A, hno, hne1, hne2, hlt, E1, E2, hl, hv, hev, i0, i1, i10, i11, i13, i30, i31⟩
    unfold Hold
    have hfr := A.fr
    by_cases hkn : k < n
    · have e1 : 0 + k * 1 < rlen s.h d1 := by have := E1.len; omega
      have e2 : rat s.h d1 (0 + k * 1) = .int .u32 (w1 k : Int) := by rw [Nat.mul_one]; exact E1.cell k hkn
      have e3 : 0 + k * 1 < rlen s.h d2 := by have := E2.len; omega
      have e4 : rat s.h d2 (0 + k * 1) = .int .u32 (w2 k : Int) := by rw [Nat.mul_one]; exact E2.cell k hkn
      have hlen := A.len
      simp (disch := first | assumption | decide | omega) only [qz3e, qz3f, qz3g, qz3h, qz3i, qz3j, r_onh i0, r_onh i1, r_onh i10, r_onh i11, r_onh i13, r_onh i30, r_onh i31, e2, e4, qz00, qz01, qz02, qz03, qz04, qz05, qz06, qz07, qz08, qz09, qz0a, qz0b, qz0c, qz0d, qz0e, qz0f, qz0g, qz0h, qz0i, qz0j, qz0k, qz0l, qz0m, qz0n, qz0o, qz0p, qz0q, qz0r, qz0s, qz0t, qz0u, qz0v, qz0w, qz0x, qz0y, qz0z, qz10, qz11, qz12, qz13, qz14, qz15, qz16, qz17, qz18, qz19, qz1a, qz1b, qz1c, qz1d, qz1e, qz1f, qz1g, qz1h, qz1i, qz1j, qz1k, qz1l, qz1m, qz1n, qz1o, qz1p, qz1q, qz1r, qz1s, qz1t, qz1u, qz1v, qz1w, qz1x, qz1y, qz1z, qz20, qz21, qz22, qz23, qz24, qz25, qz26, qz27, qz28, qz29, qz2a, qz2b, qz2c, qz2d, qz2e, qz2f, qz2g, qz2h, qz2i, qz2j, qz2k, qz2l, qz2m, qz2n, qz2o, qz2p, qz2q, qz2r, qz2s, qz2t, qz2u, qz2v, qz2w, qz2x, qz2y, qz2z, qz30, qz31, qz32, qz33, qz34, qz35, qz36, qz37, qz38, qz39, qz3a, qz3b, qz3c, qz3d, Bool.not_true, Bool.not_false, List.cons_append, List.nil_append, List.append_nil]
      refine If_ok (fun f a s hf => hb _ a s (by intro h; subst h; simp at hf)) s A.gm A.ok (by omega) (A.le.has hc) (A.le.has (h1w k)) (A.le.has (h2w k)) _ fun x p2 ex2 G2 s3 B hx hevx => ?_
      have B' := B.back A.fr
      have A2 := A.trans B'
      have hno2 : ¬ Own g p2 q m G2 t.nx := fun h => (B.step.own _ h).elim hno fun h' => by have : s.nx ≤ t.nx := h'; omega
      have hkeep : hget (back s s3).h t.nx = hget s.h t.nx := B.step.keep t.nx hlt hno
      have hlt2 : t.nx < (back s s3).nx := Nat.lt_of_lt_of_le hlt B.step.nx
      have E1b : Ed (back s s3) (Own g p2 q m G2) d1 0 n w1 := E1.bare.step B'.step
      have E2b : Ed (back s s3) (Own g p2 q m G2) d2 0 n w2 := E2.bare.step B'.step
      generalize back s s3 = u at A2 hkeep hlt2 B' E1b E2b
      simp (disch := first | assumption | decide | omega) only [qz3e, qz3f, qz3g, qz3h, qz3i, qz3j, v_ext30, v_ext31, v_ext32, r_onh i13, r_onh i31, qz00, qz01, qz02, qz03, qz04, qz05, qz06, qz07, qz08, qz09, qz0a, qz0b, qz0c, qz0d, qz0e, qz0f, qz0g, qz0h, qz0i, qz0j, qz0k, qz0l, qz0m, qz0n, qz0o, qz0p, qz0q, qz0r, qz0s, qz0t, qz0u, qz0v, qz0w, qz0x, qz0y, qz0z, qz10, qz11, qz12, qz13, qz14, qz15, qz16, qz17, qz18, qz19, qz1a, qz1b, qz1c, qz1d, qz1e, qz1f, qz1g, qz1h, qz1i, qz1j, qz1k, qz1l, qz1m, qz1n, qz1o, qz1p, qz1q, qz1r, qz1s, qz1t, qz1u, qz1v, qz1w, qz1x, qz1y, qz1z, qz20, qz21, qz22, qz23, qz24, qz25, qz26, qz27, qz28, qz29, qz2a, qz2b, qz2c, qz2d, qz2e, qz2f, qz2g, qz2h, qz2i, qz2j, qz2k, qz2l, qz2m, qz2n, qz2o, qz2p, qz2q, qz2r, qz2s, qz2t, qz2u, qz2v, qz2w, qz2x, qz2y, qz2z, qz30, qz31, qz32, qz33, qz34, qz35, qz36, qz37, qz38, qz39, qz3a, qz3b, qz3c, qz3d, Bool.not_true, Bool.not_false, List.cons_append, List.nil_append, List.append_nil]
      refine o_st1 (by show 0 + k * 1 < rlen u.h t.nx; rw [rlen_same hkeep]; omega) ⟨rfl, rfl, rfl⟩ fun s4 h4 => ?_
      have A3 := A2.wrote h4 hno2 (Nat.le_refl _)
      have n3 : s4.nx = u.nx := h4.nx
      simp (disch := first | assumption | decide | omega) only [qz3e, qz3f, qz3g, qz3h, qz3i, qz3j, r_onh i31, v_addN, qz00, qz01, qz02, qz03, qz04, qz05, qz06, qz07, qz08, qz09, qz0a, qz0b, qz0c, qz0d, qz0e, qz0f, qz0g, qz0h, qz0i, qz0j, qz0k, qz0l, qz0m, qz0n, qz0o, qz0p, qz0q, qz0r, qz0s, qz0t, qz0u, qz0v, qz0w, qz0x, qz0y, qz0z, qz10, qz11, qz12, qz13, qz14, qz15, qz16, qz17, qz18, qz19, qz1a, qz1b, qz1c, qz1d, qz1e, qz1f, qz1g, qz1h, qz1i, qz1j, qz1k, qz1l, qz1m, qz1n, qz1o, qz1p, qz1q, qz1r, qz1s, qz1t, qz1u, qz1v, qz1w, qz1x, qz1y, qz1z, qz20, qz21, qz22, qz23, qz24, qz25, qz26, qz27, qz28, qz29, qz2a, qz2b, qz2c, qz2d, qz2e, qz2f, qz2g, qz2h, qz2i, qz2j, qz2k, qz2l, qz2m, qz2n, qz2o, qz2p, qz2q, qz2r, qz2s, qz2t, qz2u, qz2v, qz2w, qz2x, qz2y, qz2z, qz30, qz31, qz32, qz33, qz34, qz35, qz36, qz37, qz38, qz39, qz3a, qz3b, qz3c, qz3d, Bool.not_true, Bool.not_false, List.cons_append, List.nil_append, List.append_nil]
      refine ⟨n - (k + 1), by omega, k + 1, fun j => if j = k then x else xs j, p2, ex2, G2, by omega, rfl, A3.more (by omega), hno2, hne1, hne2, by omega, E1b.wrote h4 hne1, E2b.wrote h4 hne2, h4.len.trans ((rlen_same hkeep).trans hl), fun j hj => ?_, fun inp hi j hj => ?_, ?_⟩
      · have e5 := h4.cell j
        by_cases hjk : j = k
        · rw [if_pos (by omega)] at e5
          simp only [if_pos hjk]
          exact ⟨e5, hx⟩
        · rw [if_neg (by omega)] at e5
          simp only [if_neg hjk]
          exact ⟨e5.trans ((rat_same hkeep j).trans (hv j (by omega)).1), B.le.has (hv j (by omega)).2⟩
      · by_cases hjk : j = k
        · simp only [if_pos hjk]
          rw [hevx inp hi, A.le.ev hc, A.le.ev (h1w k), A.le.ev (h2w k), hjk]
        · simp only [if_neg hjk]
          rw [B.le.ev (hv j (by omega)).2]
          exact hev inp hi j (by omega)
      · simp (disch := decide) only [z0, z1, h_here, h_skip, i0, i1, i10, i11, i13, i30, true_and, and_true]
    · have hkn' : k = n := by omega
      subst hkn'
      simp (disch := first | assumption | decide | omega) only [qz3e, qz3f, qz3g, qz3h, qz3i, qz3j, r_onh i0, r_onh i1, r_onh i10, r_onh i11, r_onh i13, r_onh i30, r_onh i31, qz00, qz01, qz02, qz03, qz04, qz05, qz06, qz07, qz08, qz09, qz0a, qz0b, qz0c, qz0d, qz0e, qz0f, qz0g, qz0h, qz0i, qz0j, qz0k, qz0l, qz0m, qz0n, qz0o, qz0p, qz0q, qz0r, qz0s, qz0t, qz0u, qz0v, qz0w, qz0x, qz0y, qz0z, qz10, qz11, qz12, qz13, qz14, qz15, qz16, qz17, qz18, qz19, qz1a, qz1b, qz1c, qz1d, qz1e, qz1f, qz1g, qz1h, qz1i, qz1j, qz1k, qz1l, qz1m, qz1n, qz1o, qz1p, qz1q, qz1r, qz1s, qz1t, qz1u, qz1v, qz1w, qz1x, qz1y, qz1z, qz20, qz21, qz22, qz23, qz24, qz25, qz26, qz27, qz28, qz29, qz2a, qz2b, qz2c, qz2d, qz2e, qz2f, qz2g, qz2h, qz2i, qz2j, qz2k, qz2l, qz2m, qz2n, qz2o, qz2p, qz2q, qz2r, qz2s, qz2t, qz2u, qz2v, qz2w, qz2x, qz2y, qz2z, qz30, qz31, qz32, qz33, qz34, qz35, qz36, qz37, qz38, qz39, qz3a, qz3b, qz3c, qz3d, Bool.not_true, Bool.not_false, List.cons_append, List.nil_append, List.append_nil]
      refine hK t.nx xs p' ex' G' s.bare ((A1.trans A).more (by omega)).bare hnx ⟨hlt, hno, by show 0 + k ≤ rlen s.h t.nx; omega, fun i hi => by rw [Nat.zero_add]; exact (hv i hi).1⟩ (fun i hi => (hv i hi).2) hev
  · have m1 := R1'.1
    have m2 := R2'.1
    refine ⟨0, fun _ => 0, p, ex, G, by omega, rfl, (A1.self hok).made hs2, fun h => by have := own_lt hG h; omega, by omega, by omega, by omega, E1, E2, l2, fun j hj => absurd hj (Nat.not_lt_zero _), fun inp _ j hj => absurd hj (Nat.not_lt_zero _), ?_⟩
    simp (disch := decide) only [z0, z1, h_here, h_skip, true_and, and_true]
end Go.Sy
end

section
set_option maxRecDepth 100000
namespace Go.Sy
open Go.Ev Go.Proofs
variable {base : CallF}
theorem Aft.off {g p q m : Nat} {ex' : Bool} {G G' : Gr} {k : Nat} {st s s' : Ev.St} {p' b : Nat} (h : Aft g p q m G k st p' ex' G' s) (i1 : s'.nx = s.nx) (i2 : s'.fr = s.fr) (i3 : ∀ c, c ≠ b → hget s'.h c = hget s.h c) (hb : ¬ Own g p' q m G' b) (hn : st.nx ≤ b) : Aft g p q m G k st p' ex' G' s' where
  fr := i2.trans h.fr
  step := ⟨by have := h.step.nx; rw [i1]; exact this, i2.trans h.fr, fun c hc ho => (i3 c (by have : c < st.nx := hc; omega)).trans (h.step.keep c hc ho), h.step.own⟩
  gm := by
    have := h.gm.own (h' := s'.h) fun c hc => i3 c (fun e => hb (e ▸ hc))
    rw [i1]; exact this
  ok := h.ok
  le := h.le
  len := h.len
  inp := h.inp
  one := h.one
theorem Ed.offw {s s' : Ev.St} {own : Nat → Prop} {b o n b2 : Nat} {a : Nat → Nat} (h : Ed s own b o n a) (i1 : s'.nx = s.nx) (i3 : ∀ c, c ≠ b2 → hget s'.h c = hget s.h c) (hb : b ≠ b2) : Ed s' own b o n a :=
  ⟨by rw [i1]; exact h.lt, h.off, by rw [rlen_same (i3 b hb)]; exact h.len, fun j hj => (rat_same (i3 b hb) _).trans (h.cell j hj)⟩
theorem Ed.made {s s' : Ev.St} {own : Nat → Prop} {b o n j : Nat} {f : Nat → AV} {a : Nat → Nat} (h : Ed s own b o n a) (i : Made s s' j f) : Ed s' own b o n a :=
  have e : b ≠ s.nx := by have := h.lt; omega
  ⟨by rw [i.nx]; have := h.lt; omega, h.off, by rw [rlen_same (i.keep b e)]; exact h.len, fun j hj => (rat_same (i.keep b e) _).trans (h.cell j hj)⟩
theorem conj_eq {f h : Nat → Bool} : ∀ {n : Nat}, (∀ i, i < n → f i = h i) → conj f n = conj h n
  | 0, _ => rfl
  | n + 1, e => by
    show (conj f n && f n) = (conj h n && h n)
    rw [conj_eq (n := n) fun i hi => e i (by omega), e n (by omega)]
theorem Equal_ok (hb : ∀ f args st, f ≠ 12 → base f args st = .no) {g p q m : Nat} {ex : Bool} {G : Gr} {b1 o1 n1 c1 b2 o2 n2 c2 : Nat} {x1 x2 : Bool} {a1 a2 : Nat → Nat} (st : Ev.St) (hG : GM st.h st.nx g p q m ex G) (hok : G.OK) (hN : G.parts.length + 7 * max n1 n2 ≤ 1048576) (h1 : 1 ≤ n1) (h2 : 1 ≤ n2) (hw : max n1 n2 ≤ 32)
    (hR1 : Row st b1 o1 n1 a1) (hR2 : Row st b2 o2 n2 a2) (ha1 : ∀ i, i < n1 → G.has (a1 i)) (ha2 : ∀ i, i < n2 → G.has (a2 i)) (K : AV → Ev.St → Prop)
    (hK : ∀ x p' ex' G' st', Aft g p q m G (7 * max n1 n2) st p' ex' G' st' → G'.has x →
      (∀ inp, inp 0 = false → ev inp G'.parts x = conj (fun i => ev inp G.parts (wide n1 a1 i) == ev inp G.parts (wide n2 a2 i)) (max n1 n2)) → K (.tup [.int .u32 (x : Int), .int .i64 0]) st') :
    CW Try.prog base 22 [.ptr g 0, .slice b1 o1 n1 c1 1 x1, .slice b2 o2 n2 c2 1 x2] st K := by
  refine fn_rule l22 (hb _ _ _ (by decide)) ?_
  simp only [c22, entry, List.map_cons, List.map_nil, List.getD_cons_zero, List.getD_cons_succ]
  unfold b22
  have A0 : Aft g p q m G 0 st p ex G st.bare := Aft.kept hG hok (Kept.refl _)
  simp (disch := first | assumption | decide | omega) only [qz3e, qz3f, qz3g, qz3h, qz3i, qz3j, qz00, qz01, qz02, qz03, qz04, qz05, qz06, qz07, qz08, qz09, qz0a, qz0b, qz0c, qz0d, qz0e, qz0f, qz0g, qz0h, qz0i, qz0j, qz0k, qz0l, qz0m, qz0n, qz0o, qz0p, qz0q, qz0r, qz0s, qz0t, qz0u, qz0v, qz0w, qz0x, qz0y, qz0z, qz10, qz11, qz12, qz13, qz14, qz15, qz16, qz17, qz18, qz19, qz1a, qz1b, qz1c, qz1d, qz1e, qz1f, qz1g, qz1h, qz1i, qz1j, qz1k, qz1l, qz1m, qz1n, qz1o, qz1p, qz1q, qz1r, qz1s, qz1t, qz1u, qz1v, qz1w, qz1x, qz1y, qz1z, qz20, qz21, qz22, qz23, qz24, qz25, qz26, qz27, qz28, qz29, qz2a, qz2b, qz2c, qz2d, qz2e, qz2f, qz2g, qz2h, qz2i, qz2j, qz2k, qz2l, qz2m, qz2n, qz2o, qz2p, qz2q, qz2r, qz2s, qz2t, qz2u, qz2v, qz2w, qz2x, qz2y, qz2z, qz30, qz31, qz32, qz33, qz34, qz35, qz36, qz37, qz38, qz39, qz3a, qz3b, qz3c, qz3d, Bool.not_true, Bool.not_false, List.cons_append, List.nil_append, List.append_nil]
  refine same_ok (more := 0) (fun f a s hf => hb _ a s (by intro h; subst h; simp at hf)) st.bare hG (by omega) h1 h2 hw hR1 hR2 ha1 ha2 _ fun d1 d2 s1 e1 hd1 hd2 hdd R1 R2 => ?_
  have A1 := A0.ext e1
  have R1' : Row (back st.bare s1) d1 0 (max n1 n2) (wide n1 a1) := R1
  have R2' : Row (back st.bare s1) d2 0 (max n1 n2) (wide n2 a2) := R2
  generalize back st.bare s1 = t at A1 R1' R2'
  have hd1' : st.nx ≤ d1 := hd1
  have hd2' : st.nx ≤ d2 := hd2
  have h1w := has_wide h1 ha1
  have h2w := has_wide h2 ha2
  have hn1 : 1 ≤ max n1 n2 := Nat.le_trans h1 (Nat.le_max_left _ _)
  simp only [Nat.add_zero]
  generalize max n1 n2 = n at hN hw hK R1' R2' hn1
  generalize wide n1 a1 = w1 at hK R1' h1w
  generalize wide n2 a2 = w2 at hK R2' h2w
  simp (disch := first | assumption | decide | omega) only [qz3e, qz3f, qz3g, qz3h, qz3i, qz3j, v_ext30, v_ext31, v_ext32, qz00, qz01, qz02, qz03, qz04, qz05, qz06, qz07, qz08, qz09, qz0a, qz0b, qz0c, qz0d, qz0e, qz0f, qz0g, qz0h, qz0i, qz0j, qz0k, qz0l, qz0m, qz0n, qz0o, qz0p, qz0q, qz0r, qz0s, qz0t, qz0u, qz0v, qz0w, qz0x, qz0y, qz0z, qz10, qz11, qz12, qz13, qz14, qz15, qz16, qz17, qz18, qz19, qz1a, qz1b, qz1c, qz1d, qz1e, qz1f, qz1g, qz1h, qz1i, qz1j, qz1k, qz1l, qz1m, qz1n, qz1o, qz1p, qz1q, qz1r, qz1s, qz1t, qz1u, qz1v, qz1w, qz1x, qz1y, qz1z, qz20, qz21, qz22, qz23, qz24, qz25, qz26, qz27, qz28, qz29, qz2a, qz2b, qz2c, qz2d, qz2e, qz2f, qz2g, qz2h, qz2i, qz2j, qz2k, qz2l, qz2m, qz2n, qz2o, qz2p, qz2q, qz2r, qz2s, qz2t, qz2u, qz2v, qz2w, qz2x, qz2y, qz2z, qz30, qz31, qz32, qz33, qz34, qz35, qz36, qz37, qz38, qz39, qz3a, qz3b, qz3c, qz3d, Bool.not_true, Bool.not_false, List.cons_append, List.nil_append, List.append_nil]
  refine o_mkS (l := 0) (c := n) (by omega) (by omega) (by omega) fun s2 hs2 => ?_
  have A2 := A1.made hs2
  have n2 : s2.nx = t.nx + 1 := hs2.nx
  have l2 : rlen s2.h t.nx = n := hs2.len.trans (Nat.mul_one n)
  have k12 : Kept t s2 := (Kept.refl t).made hs2
  have hnx : st.nx ≤ t.nx := A1.step.nx
  have E1 : Ed s2 (Own g p q m G) d1 0 n w1 := (Row.keep R1' k12.keep k12.nx).ed fun h => by have := own_lt hG h; omega
  have E2 : Ed s2 (Own g p q m G) d2 0 n w2 := (Row.keep R2' k12.keep k12.nx).ed fun h => by have := own_lt hG h; omega
  simp (disch := first | assumption | decide | omega) only [qz3e, qz3f, qz3g, qz3h, qz3i, qz3j, qz00, qz01, qz02, qz03, qz04, qz05, qz06, qz07, qz08, qz09, qz0a, qz0b, qz0c, qz0d, qz0e, qz0f, qz0g, qz0h, qz0i, qz0j, qz0k, qz0l, qz0m, qz0n, qz0o, qz0p, qz0q, qz0r, qz0s, qz0t, qz0u, qz0v, qz0w, qz0x, qz0y, qz0z, qz10, qz11, qz12, qz13, qz14, qz15, qz16, qz17, qz18, qz19, qz1a, qz1b, qz1c, qz1d, qz1e, qz1f, qz1g, qz1h, qz1i, qz1j, qz1k, qz1l, qz1m, qz1n, qz1o, qz1p, qz1q, qz1r, qz1s, qz1t, qz1u, qz1v, qz1w, qz1x, qz1y, qz1z, qz20, qz21, qz22, qz23, qz24, qz25, qz26, qz27, qz28, qz29, qz2a, qz2b, qz2c, qz2d, qz2e, qz2f, qz2g, qz2h, qz2i, qz2j, qz2k, qz2l, qz2m, qz2n, qz2o, qz2p, qz2q, qz2r, qz2s, qz2t, qz2u, qz2v, qz2w, qz2x, qz2y, qz2z, qz30, qz31, qz32, qz33, qz34, qz35, qz36, qz37, qz38, qz39, qz3a, qz3b, qz3c, qz3d, Bool.not_true, Bool.not_false, List.cons_append, List.nil_append, List.append_nil]
  refine wC_loopH (fun mm L s => ∃ (k : Nat) (xs : Nat → Nat) (p' : Nat) (ex' : Bool) (G' : Gr), k ≤ n ∧ mm = n - k ∧ Aft g p q m G (6 * k) t p' ex' G' s ∧ ¬ Own g p' q m G' t.nx ∧ d1 ≠ t.nx ∧ d2 ≠ t.nx ∧ t.nx < s.nx ∧ Ed s (Own g p' q m G') d1 0 n w1 ∧ Ed s (Own g p' q m G') d2 0 n w2 ∧ rlen s.h t.nx = n ∧ (∀ j, j < k → rat s.h t.nx j = .int .u32 (xs j : Int) ∧ G'.has (xs j)) ∧
      (∀ inp, inp 0 = false → ∀ j, j < k → ev inp G'.parts (xs j) = (ev inp G.parts (w1 j) == ev inp G.parts (w2 j))) ∧
      Has L 0 (.ptr g 0) ∧ Has L 8 (.slice d1 0 n n 1 false) ∧ Has L 9 (.slice d2 0 n n 1 false) ∧ Has L 11 (.slice t.nx 0 k n 1 true) ∧ Has L 30 (.int .i64 (n : Int)) ∧ Has L 31 (.int .i64 (k : Int))) ?_ n ?_
  · rintro mm L s ⟨k, xs, p', ex', G', hk, rfl, A, hno, hne1, hne2, hlt, E1, E2, hl, hv, hev, i0, i8, i9, i11, i30, i31⟩
    unfold Hold
    have hfr := A.fr
    by_cases hkn : k < n
    · have e1 : 0 + k * 1 < rlen s.h d1 := by have := E1.len; omega
      have e2 : rat s.h d1 (0 + k * 1) = .int .u32 (w1 k : Int) := by rw [Nat.mul_one]; exact E1.cell k hkn
      have e3 : 0 + k * 1 < rlen s.h d2 := by have := E2.len; omega
      have e4 : rat s.h d2 (0 + k * 1) = .int .u32 (w2 k : Int) := by rw [Nat.mul_one]; exact E2.cell k hkn
      have hlen := A.len
      simp (disch := first | assumption | decide | omega) only [qz3e, qz3f, qz3g, qz3h, qz3i, qz3j, r_onh i0, r_onh i8, r_onh i9, r_onh i11, r_onh i30, r_onh i31, e2, e4, qz00, qz01, qz02, qz03, qz04, qz05, qz06, qz07, qz08, qz09, qz0a, qz0b, qz0c, qz0d, qz0e, qz0f, qz0g, qz0h, qz0i, qz0j, qz0k, qz0l, qz0m, qz0n, qz0o, qz0p, qz0q, qz0r, qz0s, qz0t, qz0u, qz0v, qz0w, qz0x, qz0y, qz0z, qz10, qz11, qz12, qz13, qz14, qz15, qz16, qz17, qz18, qz19, qz1a, qz1b, qz1c, qz1d, qz1e, qz1f, qz1g, qz1h, qz1i, qz1j, qz1k, qz1l, qz1m, qz1n, qz1o, qz1p, qz1q, qz1r, qz1s, qz1t, qz1u, qz1v, qz1w, qz1x, qz1y, qz1z, qz20, qz21, qz22, qz23, qz24, qz25, qz26, qz27, qz28, qz29, qz2a, qz2b, qz2c, qz2d, qz2e, qz2f, qz2g, qz2h, qz2i, qz2j, qz2k, qz2l, qz2m, qz2n, qz2o, qz2p, qz2q, qz2r, qz2s, qz2t, qz2u, qz2v, qz2w, qz2x, qz2y, qz2z, qz30, qz31, qz32, qz33, qz34, qz35, qz36, qz37, qz38, qz39, qz3a, qz3b, qz3c, qz3d, Bool.not_true, Bool.not_false, List.cons_append, List.nil_append, List.append_nil]
      refine Same_ok (fun f a s hf => hb _ a s (by intro h; subst h; simp at hf)) s A.gm A.ok (by omega) (A.le.has (h1w k)) (A.le.has (h2w k)) _ fun x p2 ex2 G2 s3 B hx hevx => ?_
      have B' := B.back A.fr
      have A2 := A.trans B'
      have hno2 : ¬ Own g p2 q m G2 t.nx := fun h => (B.step.own _ h).elim hno fun h' => by have : s.nx ≤ t.nx := h'; omega
      have hkeep : hget (back s s3).h t.nx = hget s.h t.nx := B.step.keep t.nx hlt hno
      have hlt2 : t.nx < (back s s3).nx := Nat.lt_of_lt_of_le hlt B.step.nx
      have E1b : Ed (back s s3) (Own g p2 q m G2) d1 0 n w1 := E1.bare.step B'.step
      have E2b : Ed (back s s3) (Own g p2 q m G2) d2 0 n w2 := E2.bare.step B'.step
      generalize back s s3 = u at A2 hkeep hlt2 B' E1b E2b
      simp (disch := first | assumption | decide | omega) only [qz3e, qz3f, qz3g, qz3h, qz3i, qz3j, v_ext30, v_ext31, v_ext32, r_onh i11, r_onh i31, qz00, qz01, qz02, qz03, qz04, qz05, qz06, qz07, qz08, qz09, qz0a, qz0b, qz0c, qz0d, qz0e, qz0f, qz0g, qz0h, qz0i, qz0j, qz0k, qz0l, qz0m, qz0n, qz0o, qz0p, qz0q, qz0r, qz0s, qz0t, qz0u, qz0v, qz0w, qz0x, qz0y, qz0z, qz10, qz11, qz12, qz13, qz14, qz15, qz16, qz17, qz18, qz19, qz1a, qz1b, qz1c, qz1d, qz1e, qz1f, qz1g, qz1h, qz1i, qz1j, qz1k, qz1l, qz1m, qz1n, qz1o, qz1p, qz1q, qz1r, qz1s, qz1t, qz1u, qz1v, qz1w, qz1x, qz1y, qz1z, qz20, qz21, qz22, qz23, qz24, qz25, qz26, qz27, qz28, qz29, qz2a, qz2b, qz2c, qz2d, qz2e, qz2f, qz2g, qz2h, qz2i, qz2j, qz2k, qz2l, qz2m, qz2n, qz2o, qz2p, qz2q, qz2r, qz2s, qz2t, qz2u, qz2v, qz2w, qz2x, qz2y, qz2z, qz30, qz31, qz32, qz33, qz34, qz35, qz36, qz37, qz38, qz39, qz3a, qz3b, qz3c, qz3d, Bool.not_true, Bool.not_false, List.cons_append, List.nil_append, List.append_nil]
      refine o_buildS1 ⟨rfl, rfl, rfl⟩ fun s4 h4 => ?_
      have A3 := A2.made h4
      have E1c := E1b.made h4
      have E2c := E2b.made h4
      have n4 : s4.nx = u.nx + 1 := h4.nx
      have kt : hget s4.h t.nx = hget u.h t.nx := h4.keep _ (by omega)
      have kt' := kt.trans hkeep
      simp (disch := first | assumption | decide | omega) only [qz3e, qz3f, qz3g, qz3h, qz3i, qz3j, r_onh i11, r_onh i31, qz00, qz01, qz02, qz03, qz04, qz05, qz06, qz07, qz08, qz09, qz0a, qz0b, qz0c, qz0d, qz0e, qz0f, qz0g, qz0h, qz0i, qz0j, qz0k, qz0l, qz0m, qz0n, qz0o, qz0p, qz0q, qz0r, qz0s, qz0t, qz0u, qz0v, qz0w, qz0x, qz0y, qz0z, qz10, qz11, qz12, qz13, qz14, qz15, qz16, qz17, qz18, qz19, qz1a, qz1b, qz1c, qz1d, qz1e, qz1f, qz1g, qz1h, qz1i, qz1j, qz1k, qz1l, qz1m, qz1n, qz1o, qz1p, qz1q, qz1r, qz1s, qz1t, qz1u, qz1v, qz1w, qz1x, qz1y, qz1z, qz20, qz21, qz22, qz23, qz24, qz25, qz26, qz27, qz28, qz29, qz2a, qz2b, qz2c, qz2d, qz2e, qz2f, qz2g, qz2h, qz2i, qz2j, qz2k, qz2l, qz2m, qz2n, qz2o, qz2p, qz2q, qz2r, qz2s, qz2t, qz2u, qz2v, qz2w, qz2x, qz2y, qz2z, qz30, qz31, qz32, qz33, qz34, qz35, qz36, qz37, qz38, qz39, qz3a, qz3b, qz3c, qz3d, Bool.not_true, Bool.not_false, List.cons_append, List.nil_append, List.append_nil]
      refine o_appR (sl := k) (n := 1) (by rw [rlen_same kt']; omega) (by omega) (by omega) (by have := h4.len; omega) fun s5 m1 m2 m3 m4 m5 => ?_
      have A4 := A3.off m1 m2 m3 hno2 (Nat.le_refl _)
      simp (disch := first | assumption | decide | omega) only [qz3e, qz3f, qz3g, qz3h, qz3i, qz3j, r_onh i31, v_addN, qz00, qz01, qz02, qz03, qz04, qz05, qz06, qz07, qz08, qz09, qz0a, qz0b, qz0c, qz0d, qz0e, qz0f, qz0g, qz0h, qz0i, qz0j, qz0k, qz0l, qz0m, qz0n, qz0o, qz0p, qz0q, qz0r, qz0s, qz0t, qz0u, qz0v, qz0w, qz0x, qz0y, qz0z, qz10, qz11, qz12, qz13, qz14, qz15, qz16, qz17, qz18, qz19, qz1a, qz1b, qz1c, qz1d, qz1e, qz1f, qz1g, qz1h, qz1i, qz1j, qz1k, qz1l, qz1m, qz1n, qz1o, qz1p, qz1q, qz1r, qz1s, qz1t, qz1u, qz1v, qz1w, qz1x, qz1y, qz1z, qz20, qz21, qz22, qz23, qz24, qz25, qz26, qz27, qz28, qz29, qz2a, qz2b, qz2c, qz2d, qz2e, qz2f, qz2g, qz2h, qz2i, qz2j, qz2k, qz2l, qz2m, qz2n, qz2o, qz2p, qz2q, qz2r, qz2s, qz2t, qz2u, qz2v, qz2w, qz2x, qz2y, qz2z, qz30, qz31, qz32, qz33, qz34, qz35, qz36, qz37, qz38, qz39, qz3a, qz3b, qz3c, qz3d, Bool.not_true, Bool.not_false, List.cons_append, List.nil_append, List.append_nil]
      refine ⟨n - (k + 1), by omega, k + 1, fun j => if j = k then x else xs j, p2, ex2, G2, by omega, rfl, A4.more (by omega), hno2, hne1, hne2, by omega, E1c.offw m1 m3 hne1, E2c.offw m1 m3 hne2, m4.trans ((rlen_same kt').trans hl), fun j hj => ?_, fun inp hi j hj => ?_, ?_⟩
      · have e5 := m5 j
        by_cases hjk : j = k
        · rw [if_pos (by omega), hjk, Nat.sub_self, h4.cell 0 (by decide)] at e5
          simp only [if_pos hjk]
          rw [hjk]
          exact ⟨e5, hx⟩
        · rw [if_neg (by omega)] at e5
          simp only [if_neg hjk]
          exact ⟨e5.trans ((rat_same kt' j).trans (hv j (by omega)).1), B.le.has (hv j (by omega)).2⟩
      · by_cases hjk : j = k
        · simp only [if_pos hjk]
          rw [hevx inp hi, A.le.ev (h1w k), A.le.ev (h2w k), hjk]
        · simp only [if_neg hjk]
          rw [B.le.ev (hv j (by omega)).2]
          exact hev inp hi j (by omega)
      · simp (disch := decide) only [z0, z1, h_here, h_skip, i0, i8, i9, i30, true_and, and_true]
    · have hkn' : k = n := by omega
      subst hkn'
      have hlen := A.len
      simp (disch := first | assumption | decide | omega) only [qz3e, qz3f, qz3g, qz3h, qz3i, qz3j, r_onh i0, r_onh i8, r_onh i9, r_onh i11, r_onh i30, r_onh i31, qz00, qz01, qz02, qz03, qz04, qz05, qz06, qz07, qz08, qz09, qz0a, qz0b, qz0c, qz0d, qz0e, qz0f, qz0g, qz0h, qz0i, qz0j, qz0k, qz0l, qz0m, qz0n, qz0o, qz0p, qz0q, qz0r, qz0s, qz0t, qz0u, qz0v, qz0w, qz0x, qz0y, qz0z, qz10, qz11, qz12, qz13, qz14, qz15, qz16, qz17, qz18, qz19, qz1a, qz1b, qz1c, qz1d, qz1e, qz1f, qz1g, qz1h, qz1i, qz1j, qz1k, qz1l, qz1m, qz1n, qz1o, qz1p, qz1q, qz1r, qz1s, qz1t, qz1u, qz1v, qz1w, qz1x, qz1y, qz1z, qz20, qz21, qz22, qz23, qz24, qz25, qz26, qz27, qz28, qz29, qz2a, qz2b, qz2c, qz2d, qz2e, qz2f, qz2g, qz2h, qz2i, qz2j, qz2k, qz2l, qz2m, qz2n, qz2o, qz2p, qz2q, qz2r, qz2s, qz2t, qz2u, qz2v, qz2w, qz2x, qz2y, qz2z, qz30, qz31, qz32, qz33, qz34, qz35, qz36, qz37, qz38, qz39, qz3a, qz3b, qz3c, qz3d, Bool.not_true, Bool.not_false, List.cons_append, List.nil_append, List.append_nil]
      refine And_ok (fun f a s hf => hb _ a s (by intro h; subst h; simp at hf)) s A.gm A.ok (by omega) ⟨hlt, hno, by omega, fun i hi => by rw [Nat.zero_add]; exact (hv i hi).1⟩ (fun i hi => (hv i hi).2) _ fun x p2 ex2 G2 s3 B hx hevx => ?_
      have A5 := (A1.trans A).trans (B.back A.fr)
      generalize back s s3 = u at A5
      simp (disch := first | assumption | decide | omega) only [qz3e, qz3f, qz3g, qz3h, qz3i, qz3j, qz00, qz01, qz02, qz03, qz04, qz05, qz06, qz07, qz08, qz09, qz0a, qz0b, qz0c, qz0d, qz0e, qz0f, qz0g, qz0h, qz0i, qz0j, qz0k, qz0l, qz0m, qz0n, qz0o, qz0p, qz0q, qz0r, qz0s, qz0t, qz0u, qz0v, qz0w, qz0x, qz0y, qz0z, qz10, qz11, qz12, qz13, qz14, qz15, qz16, qz17, qz18, qz19, qz1a, qz1b, qz1c, qz1d, qz1e, qz1f, qz1g, qz1h, qz1i, qz1j, qz1k, qz1l, qz1m, qz1n, qz1o, qz1p, qz1q, qz1r, qz1s, qz1t, qz1u, qz1v, qz1w, qz1x, qz1y, qz1z, qz20, qz21, qz22, qz23, qz24, qz25, qz26, qz27, qz28, qz29, qz2a, qz2b, qz2c, qz2d, qz2e, qz2f, qz2g, qz2h, qz2i, qz2j, qz2k, qz2l, qz2m, qz2n, qz2o, qz2p, qz2q, qz2r, qz2s, qz2t, qz2u, qz2v, qz2w, qz2x, qz2y, qz2z, qz30, qz31, qz32, qz33, qz34, qz35, qz36, qz37, qz38, qz39, qz3a, qz3b, qz3c, qz3d, Bool.not_true, Bool.not_false, List.cons_append, List.nil_append, List.append_nil]
      refine hK x p2 ex2 G2 u.bare (A5.more (by omega)).bare hx fun inp hi => ?_
      rw [hevx inp hi]
      exact conj_eq fun i hik => hev inp hi i hik
  · have m1 := R1'.1
    have m2 := R2'.1
    refine ⟨0, fun _ => 0, p, ex, G, by omega, rfl, (A1.self hok).made hs2, fun h => by have := own_lt hG h; omega, by omega, by omega, by omega, E1, E2, l2, fun j hj => absurd hj (Nat.not_lt_zero _), fun inp _ j hj => absurd hj (Nat.not_lt_zero _), ?_⟩
    simp (disch := decide) only [z0, z1, h_here, h_skip, true_and, and_true]
end Go.Sy
end

section
set_option maxRecDepth 100000
namespace Go.Sy
open Go.Ev Go.Proofs
variable {base : CallF}
/-- from the lowest place on: is one below the other? -/
def ltb (A B : Nat → Bool) : Nat → Bool
  | 0 => false
  | k + 1 => if (A k == B k) = true then ltb A B k else B k
def swp {α : Type} (n : Nat) (u v : Nat → α) (i : Nat) : α := if i = n - 1 then v i else u i
theorem has_swp {G : Gr} {n : Nat} {u v : Nat → Nat} (hu : ∀ i, G.has (u i)) (hv : ∀ i, G.has (v i)) (i : Nat) : G.has (swp n u v i) := by
  unfold swp; split
  · exact hv i
  · exact hu i
theorem Ed.put {s s' : Ev.St} {own : Nat → Prop} {b n : Nat} {a c : Nat → Nat} (hn : 1 ≤ n) (h : Ed s own b 0 n a) (i : Wrote s s' b (0 + (n - 1) * 1) (.int .u32 (c (n - 1) : Int))) : Ed s' own b 0 n (swp n a c) :=
  ⟨by rw [i.nx]; exact h.lt, h.off, by rw [i.len]; exact h.len, fun j hj => by
    have := i.cell (0 + j)
    unfold swp
    by_cases e : j = n - 1
    · rw [if_pos (by omega)] at this
      rw [if_pos e, this, e]
    · rw [if_neg (by omega)] at this
      rw [if_neg e, this, h.cell j hj]⟩
theorem Less_ok (hb : ∀ f args st, f ≠ 12 → base f args st = .no) {g p q m : Nat} {ex : Bool} {G : Gr} {b1 o1 n1 c1 b2 o2 n2 c2 : Nat} {x1 x2 : Bool} {a1 a2 : Nat → Nat} (st : Ev.St) (hG : GM st.h st.nx g p q m ex G) (hok : G.OK) (hN : G.parts.length + 12 * max n1 n2 ≤ 1048576) (h1 : 1 ≤ n1) (h2 : 1 ≤ n2) (hw : max n1 n2 ≤ 32)
    (hR1 : Row st b1 o1 n1 a1) (hR2 : Row st b2 o2 n2 a2) (ha1 : ∀ i, i < n1 → G.has (a1 i)) (ha2 : ∀ i, i < n2 → G.has (a2 i)) (K : AV → Ev.St → Prop)
    (hK : ∀ x p' ex' G' st', Aft g p q m G (12 * max n1 n2) st p' ex' G' st' → G'.has x →
      (∀ inp, inp 0 = false → ev inp G'.parts x = ltb (fun i => ev inp G.parts (swp (max n1 n2) (wide n1 a1) (wide n2 a2) i)) (fun i => ev inp G.parts (swp (max n1 n2) (wide n2 a2) (wide n1 a1) i)) (max n1 n2)) → K (.tup [.int .u32 (x : Int), .int .i64 0]) st') :
    CW Try.prog base 21 [.ptr g 0, .slice b1 o1 n1 c1 1 x1, .slice b2 o2 n2 c2 1 x2] st K := by
  refine fn_rule l21 (hb _ _ _ (by decide)) ?_
  simp only [c21, entry, List.map_cons, List.map_nil, List.getD_cons_zero, List.getD_cons_succ]
  unfold b21
  have A0 : Aft g p q m G 0 st p ex G st.bare := Aft.kept hG hok (Kept.refl _)
  simp (disch := first | assumption | decide | omega) only [qz3e, qz3f, qz3g, qz3h, qz3i, qz3j, qz00, qz01, qz02, qz03, qz04, qz05, qz06, qz07, qz08, qz09, qz0a, qz0b, qz0c, qz0d, qz0e, qz0f, qz0g, qz0h, qz0i, qz0j, qz0k, qz0l, qz0m, qz0n, qz0o, qz0p, qz0q, qz0r, qz0s, qz0t, qz0u, qz0v, qz0w, qz0x, qz0y, qz0z, qz10, qz11, qz12, qz13, qz14, qz15, qz16, qz17, qz18, qz19, qz1a, qz1b, qz1c, qz1d, qz1e, qz1f, qz1g, qz1h, qz1i, qz1j, qz1k, qz1l, qz1m, qz1n, qz1o, qz1p, qz1q, qz1r, qz1s, qz1t, qz1u, qz1v, qz1w, qz1x, qz1y, qz1z, qz20, qz21, qz22, qz23, qz24, qz25, qz26, qz27, qz28, qz29, qz2a, qz2b, qz2c, qz2d, qz2e, qz2f, qz2g, qz2h, qz2i, qz2j, qz2k, qz2l, qz2m, qz2n, qz2o, qz2p, qz2q, qz2r, qz2s, qz2t, qz2u, qz2v, qz2w, qz2x, qz2y, qz2z, qz30, qz31, qz32, qz33, qz34, qz35, qz36, qz37, qz38, qz39, qz3a, qz3b, qz3c, qz3d, Bool.not_true, Bool.not_false, List.cons_append, List.nil_append, List.append_nil]
  refine same_ok (more := 0) (fun f a s hf => hb _ a s (by intro h; subst h; simp at hf)) st.bare hG (by omega) h1 h2 hw hR1 hR2 ha1 ha2 _ fun d1 d2 s1 e1 hd1 hd2 hdd R1 R2 => ?_
  have A1 := A0.ext e1
  have R1' : Row (back st.bare s1) d1 0 (max n1 n2) (wide n1 a1) := R1
  have R2' : Row (back st.bare s1) d2 0 (max n1 n2) (wide n2 a2) := R2
  generalize back st.bare s1 = t at A1 R1' R2'
  have hd1' : st.nx ≤ d1 := hd1
  have hd2' : st.nx ≤ d2 := hd2
  have h1w := has_wide h1 ha1
  have h2w := has_wide h2 ha2
  have hn1 : 1 ≤ max n1 n2 := Nat.le_trans h1 (Nat.le_max_left _ _)
  simp only [Nat.add_zero]
  generalize max n1 n2 = n at hN hw hK R1' R2' hn1
  generalize wide n1 a1 = w1 at hK R1' h1w
  generalize wide n2 a2 = w2 at hK R2' h2w
  have o1 : ¬ Own g p q m G d1 := fun h => by have := own_lt hG h; omega
  have o2 : ¬ Own g p q m G d2 := fun h => by have := own_lt hG h; omega
  have E1 : Ed t (Own g p q m G) d1 0 n w1 := R1'.ed o1
  have E2 : Ed t (Own g p q m G) d2 0 n w2 := R2'.ed o2
  have hl : n - 1 < n := by omega
  have f1 : 0 + (n - 1) * 1 < rlen t.h d1 := by have := E1.len; omega
  have f2 : rat t.h d1 (0 + (n - 1) * 1) = .int .u32 (w1 (n - 1) : Int) := by rw [Nat.mul_one]; exact E1.cell _ hl
  have f3 : 0 + (n - 1) * 1 < rlen t.h d2 := by have := E2.len; omega
  have f4 : rat t.h d2 (0 + (n - 1) * 1) = .int .u32 (w2 (n - 1) : Int) := by rw [Nat.mul_one]; exact E2.cell _ hl
  simp (disch := first | assumption | decide | omega) only [qz3e, qz3f, qz3g, qz3h, qz3i, qz3j, v_ext30, v_ext31, v_ext32, f2, f4, qz00, qz01, qz02, qz03, qz04, qz05, qz06, qz07, qz08, qz09, qz0a, qz0b, qz0c, qz0d, qz0e, qz0f, qz0g, qz0h, qz0i, qz0j, qz0k, qz0l, qz0m, qz0n, qz0o, qz0p, qz0q, qz0r, qz0s, qz0t, qz0u, qz0v, qz0w, qz0x, qz0y, qz0z, qz10, qz11, qz12, qz13, qz14, qz15, qz16, qz17, qz18, qz19, qz1a, qz1b, qz1c, qz1d, qz1e, qz1f, qz1g, qz1h, qz1i, qz1j, qz1k, qz1l, qz1m, qz1n, qz1o, qz1p, qz1q, qz1r, qz1s, qz1t, qz1u, qz1v, qz1w, qz1x, qz1y, qz1z, qz20, qz21, qz22, qz23, qz24, qz25, qz26, qz27, qz28, qz29, qz2a, qz2b, qz2c, qz2d, qz2e, qz2f, qz2g, qz2h, qz2i, qz2j, qz2k, qz2l, qz2m, qz2n, qz2o, qz2p, qz2q, qz2r, qz2s, qz2t, qz2u, qz2v, qz2w, qz2x, qz2y, qz2z, qz30, qz31, qz32, qz33, qz34, qz35, qz36, qz37, qz38, qz39, qz3a, qz3b, qz3c, qz3d, Bool.not_true, Bool.not_false, List.cons_append, List.nil_append, List.append_nil]
  refine o_st1 f1 ⟨rfl, rfl, rfl⟩ fun s2 hs2 => ?_
  have A2 := A1.wrote hs2 o1 hd1'
  have E1b := E1.put (c := w2) hn1 hs2
  have E2b := E2.wrote hs2 (Ne.symm hdd)
  simp (disch := first | assumption | decide | omega) only [qz3e, qz3f, qz3g, qz3h, qz3i, qz3j, qz00, qz01, qz02, qz03, qz04, qz05, qz06, qz07, qz08, qz09, qz0a, qz0b, qz0c, qz0d, qz0e, qz0f, qz0g, qz0h, qz0i, qz0j, qz0k, qz0l, qz0m, qz0n, qz0o, qz0p, qz0q, qz0r, qz0s, qz0t, qz0u, qz0v, qz0w, qz0x, qz0y, qz0z, qz10, qz11, qz12, qz13, qz14, qz15, qz16, qz17, qz18, qz19, qz1a, qz1b, qz1c, qz1d, qz1e, qz1f, qz1g, qz1h, qz1i, qz1j, qz1k, qz1l, qz1m, qz1n, qz1o, qz1p, qz1q, qz1r, qz1s, qz1t, qz1u, qz1v, qz1w, qz1x, qz1y, qz1z, qz20, qz21, qz22, qz23, qz24, qz25, qz26, qz27, qz28, qz29, qz2a, qz2b, qz2c, qz2d, qz2e, qz2f, qz2g, qz2h, qz2i, qz2j, qz2k, qz2l, qz2m, qz2n, qz2o, qz2p, qz2q, qz2r, qz2s, qz2t, qz2u, qz2v, qz2w, qz2x, qz2y, qz2z, qz30, qz31, qz32, qz33, qz34, qz35, qz36, qz37, qz38, qz39, qz3a, qz3b, qz3c, qz3d, Bool.not_true, Bool.not_false, List.cons_append, List.nil_append, List.append_nil]
  refine o_st1 (by have := E2b.len; omega) ⟨rfl, rfl, rfl⟩ fun s3 hs3 => ?_
  have A3 := A2.wrote hs3 o2 hd2'
  have E2c := E2b.put (c := w1) hn1 hs3
  have E1c := E1b.wrote hs3 hdd
  have hx1 := has_swp (n := n) h1w h2w
  have hx2 := has_swp (n := n) h2w h1w
  generalize swp n w1 w2 = u1 at hK E1c hx1
  generalize swp n w2 w1 = u2 at hK E2c hx2
  simp (disch := first | assumption | decide | omega) only [qz3e, qz3f, qz3g, qz3h, qz3i, qz3j, qz00, qz01, qz02, qz03, qz04, qz05, qz06, qz07, qz08, qz09, qz0a, qz0b, qz0c, qz0d, qz0e, qz0f, qz0g, qz0h, qz0i, qz0j, qz0k, qz0l, qz0m, qz0n, qz0o, qz0p, qz0q, qz0r, qz0s, qz0t, qz0u, qz0v, qz0w, qz0x, qz0y, qz0z, qz10, qz11, qz12, qz13, qz14, qz15, qz16, qz17, qz18, qz19, qz1a, qz1b, qz1c, qz1d, qz1e, qz1f, qz1g, qz1h, qz1i, qz1j, qz1k, qz1l, qz1m, qz1n, qz1o, qz1p, qz1q, qz1r, qz1s, qz1t, qz1u, qz1v, qz1w, qz1x, qz1y, qz1z, qz20, qz21, qz22, qz23, qz24, qz25, qz26, qz27, qz28, qz29, qz2a, qz2b, qz2c, qz2d, qz2e, qz2f, qz2g, qz2h, qz2i, qz2j, qz2k, qz2l, qz2m, qz2n, qz2o, qz2p, qz2q, qz2r, qz2s, qz2t, qz2u, qz2v, qz2w, qz2x, qz2y, qz2z, qz30, qz31, qz32, qz33, qz34, qz35, qz36, qz37, qz38, qz39, qz3a, qz3b, qz3c, qz3d, Bool.not_true, Bool.not_false, List.cons_append, List.nil_append, List.append_nil]
  refine wC_loopH (fun mm L s => ∃ (k out : Nat) (p' : Nat) (ex' : Bool) (G' : Gr), k ≤ n ∧ mm = n - k ∧ Aft g p q m G (12 * k) s3 p' ex' G' s ∧ Ed s (Own g p' q m G') d1 0 n u1 ∧ Ed s (Own g p' q m G') d2 0 n u2 ∧ G'.has out ∧
      (∀ inp, inp 0 = false → ev inp G'.parts out = ltb (fun i => ev inp G.parts (u1 i)) (fun i => ev inp G.parts (u2 i)) k) ∧
      Has L 0 (.ptr g 0) ∧ Has L 8 (.slice d1 0 n n 1 false) ∧ Has L 9 (.slice d2 0 n n 1 false) ∧ Has L 11 (.int .u32 (out : Int)) ∧ Has L 45 (.int .i64 (n : Int)) ∧ Has L 46 (.int .i64 (k : Int))) ?_ n ?_
  · rintro mm L s ⟨k, out, p', ex', G', hk, rfl, A, E1, E2, ho, hev, i0, i8, i9, i11, i45, i46⟩
    unfold Hold
    have hfr := A.fr
    by_cases hkn : k < n
    · have e1 : 0 + k * 1 < rlen s.h d1 := by have := E1.len; omega
      have e2 : rat s.h d1 (0 + k * 1) = .int .u32 (u1 k : Int) := by rw [Nat.mul_one]; exact E1.cell k hkn
      have e3 : 0 + k * 1 < rlen s.h d2 := by have := E2.len; omega
      have e4 : rat s.h d2 (0 + k * 1) = .int .u32 (u2 k : Int) := by rw [Nat.mul_one]; exact E2.cell k hkn
      have hlen := A.len
      simp (disch := first | assumption | decide | omega) only [qz3e, qz3f, qz3g, qz3h, qz3i, qz3j, r_onh i0, r_onh i8, r_onh i9, r_onh i11, r_onh i45, r_onh i46, e2, e4, qz00, qz01, qz02, qz03, qz04, qz05, qz06, qz07, qz08, qz09, qz0a, qz0b, qz0c, qz0d, qz0e, qz0f, qz0g, qz0h, qz0i, qz0j, qz0k, qz0l, qz0m, qz0n, qz0o, qz0p, qz0q, qz0r, qz0s, qz0t, qz0u, qz0v, qz0w, qz0x, qz0y, qz0z, qz10, qz11, qz12, qz13, qz14, qz15, qz16, qz17, qz18, qz19, qz1a, qz1b, qz1c, qz1d, qz1e, qz1f, qz1g, qz1h, qz1i, qz1j, qz1k, qz1l, qz1m, qz1n, qz1o, qz1p, qz1q, qz1r, qz1s, qz1t, qz1u, qz1v, qz1w, qz1x, qz1y, qz1z, qz20, qz21, qz22, qz23, qz24, qz25, qz26, qz27, qz28, qz29, qz2a, qz2b, qz2c, qz2d, qz2e, qz2f, qz2g, qz2h, qz2i, qz2j, qz2k, qz2l, qz2m, qz2n, qz2o, qz2p, qz2q, qz2r, qz2s, qz2t, qz2u, qz2v, qz2w, qz2x, qz2y, qz2z, qz30, qz31, qz32, qz33, qz34, qz35, qz36, qz37, qz38, qz39, qz3a, qz3b, qz3c, qz3d, Bool.not_true, Bool.not_false, List.cons_append, List.nil_append, List.append_nil]
      refine Same_ok (fun f a s hf => hb _ a s (by intro h; subst h; simp at hf)) s A.gm A.ok (by omega) (A.le.has (hx1 k)) (A.le.has (hx2 k)) _ fun x p2 ex2 G2 s4 B hx hevx => ?_
      have B' := B.back A.fr
      have A2 := A.trans B'
      have E1b : Ed (back s s4) (Own g p2 q m G2) d1 0 n u1 := E1.bare.step B'.step
      have E2b : Ed (back s s4) (Own g p2 q m G2) d2 0 n u2 := E2.bare.step B'.step
      generalize back s s4 = u at A2 B' E1b E2b
      have ufr := A2.fr
      have hlen2 := A2.len
      have e5 : 0 + k * 1 < rlen u.h d2 := by have := E2b.len; omega
      have e6 : rat u.h d2 (0 + k * 1) = .int .u32 (u2 k : Int) := by rw [Nat.mul_one]; exact E2b.cell k hkn
      simp (disch := first | assumption | decide | omega) only [qz3e, qz3f, qz3g, qz3h, qz3i, qz3j, r_onh i0, r_onh i8, r_onh i9, r_onh i11, r_onh i45, r_onh i46, e6, qz00, qz01, qz02, qz03, qz04, qz05, qz06, qz07, qz08, qz09, qz0a, qz0b, qz0c, qz0d, qz0e, qz0f, qz0g, qz0h, qz0i, qz0j, qz0k, qz0l, qz0m, qz0n, qz0o, qz0p, qz0q, qz0r, qz0s, qz0t, qz0u, qz0v, qz0w, qz0x, qz0y, qz0z, qz10, qz11, qz12, qz13, qz14, qz15, qz16, qz17, qz18, qz19, qz1a, qz1b, qz1c, qz1d, qz1e, qz1f, qz1g, qz1h, qz1i, qz1j, qz1k, qz1l, qz1m, qz1n, qz1o, qz1p, qz1q, qz1r, qz1s, qz1t, qz1u, qz1v, qz1w, qz1x, qz1y, qz1z, qz20, qz21, qz22, qz23, qz24, qz25, qz26, qz27, qz28, qz29, qz2a, qz2b, qz2c, qz2d, qz2e, qz2f, qz2g, qz2h, qz2i, qz2j, qz2k, qz2l, qz2m, qz2n, qz2o, qz2p, qz2q, qz2r, qz2s, qz2t, qz2u, qz2v, qz2w, qz2x, qz2y, qz2z, qz30, qz31, qz32, qz33, qz34, qz35, qz36, qz37, qz38, qz39, qz3a, qz3b, qz3c, qz3d, Bool.not_true, Bool.not_false, List.cons_append, List.nil_append, List.append_nil]
      refine If_ok (fun f a s hf => hb _ a s (by intro h; subst h; simp at hf)) u A2.gm A2.ok (by omega) hx (B.le.has ho) (A2.le.has (hx2 k)) _ fun y p3 ex3 G3 s5 C hy hevy => ?_
      have C' := C.back A2.fr
      have A3 := A2.trans C'
      have E1c : Ed (back u s5) (Own g p3 q m G3) d1 0 n u1 := E1b.bare.step C'.step
      have E2c : Ed (back u s5) (Own g p3 q m G3) d2 0 n u2 := E2b.bare.step C'.step
      generalize back u s5 = v at A3 C' E1c E2c
      simp (disch := first | assumption | decide | omega) only [qz3e, qz3f, qz3g, qz3h, qz3i, qz3j, r_onh i46, v_addN, qz00, qz01, qz02, qz03, qz04, qz05, qz06, qz07, qz08, qz09, qz0a, qz0b, qz0c, qz0d, qz0e, qz0f, qz0g, qz0h, qz0i, qz0j, qz0k, qz0l, qz0m, qz0n, qz0o, qz0p, qz0q, qz0r, qz0s, qz0t, qz0u, qz0v, qz0w, qz0x, qz0y, qz0z, qz10, qz11, qz12, qz13, qz14, qz15, qz16, qz17, qz18, qz19, qz1a, qz1b, qz1c, qz1d, qz1e, qz1f, qz1g, qz1h, qz1i, qz1j, qz1k, qz1l, qz1m, qz1n, qz1o, qz1p, qz1q, qz1r, qz1s, qz1t, qz1u, qz1v, qz1w, qz1x, qz1y, qz1z, qz20, qz21, qz22, qz23, qz24, qz25, qz26, qz27, qz28, qz29, qz2a, qz2b, qz2c, qz2d, qz2e, qz2f, qz2g, qz2h, qz2i, qz2j, qz2k, qz2l, qz2m, qz2n, qz2o, qz2p, qz2q, qz2r, qz2s, qz2t, qz2u, qz2v, qz2w, qz2x, qz2y, qz2z, qz30, qz31, qz32, qz33, qz34, qz35, qz36, qz37, qz38, qz39, qz3a, qz3b, qz3c, qz3d, Bool.not_true, Bool.not_false, List.cons_append, List.nil_append, List.append_nil]
      refine ⟨n - (k + 1), by omega, k + 1, y, p3, ex3, G3, by omega, rfl, A3.more (by omega), E1c, E2c, hy, fun inp hi => ?_, ?_⟩
      · rw [hevy inp hi, hevx inp hi, B.le.ev ho, A2.le.ev (hx2 k), A.le.ev (hx1 k), A.le.ev (hx2 k), hev inp hi]
        rfl
      · simp (disch := decide) only [z0, z1, h_here, h_skip, i0, i8, i9, i45, true_and, and_true]
    · have hkn' : k = n := by omega
      subst hkn'
      simp (disch := first | assumption | decide | omega) only [qz3e, qz3f, qz3g, qz3h, qz3i, qz3j, r_onh i0, r_onh i8, r_onh i9, r_onh i11, r_onh i45, r_onh i46, qz00, qz01, qz02, qz03, qz04, qz05, qz06, qz07, qz08, qz09, qz0a, qz0b, qz0c, qz0d, qz0e, qz0f, qz0g, qz0h, qz0i, qz0j, qz0k, qz0l, qz0m, qz0n, qz0o, qz0p, qz0q, qz0r, qz0s, qz0t, qz0u, qz0v, qz0w, qz0x, qz0y, qz0z, qz10, qz11, qz12, qz13, qz14, qz15, qz16, qz17, qz18, qz19, qz1a, qz1b, qz1c, qz1d, qz1e, qz1f, qz1g, qz1h, qz1i, qz1j, qz1k, qz1l, qz1m, qz1n, qz1o, qz1p, qz1q, qz1r, qz1s, qz1t, qz1u, qz1v, qz1w, qz1x, qz1y, qz1z, qz20, qz21, qz22, qz23, qz24, qz25, qz26, qz27, qz28, qz29, qz2a, qz2b, qz2c, qz2d, qz2e, qz2f, qz2g, qz2h, qz2i, qz2j, qz2k, qz2l, qz2m, qz2n, qz2o, qz2p, qz2q, qz2r, qz2s, qz2t, qz2u, qz2v, qz2w, qz2x, qz2y, qz2z, qz30, qz31, qz32, qz33, qz34, qz35, qz36, qz37, qz38, qz39, qz3a, qz3b, qz3c, qz3d, Bool.not_true, Bool.not_false, List.cons_append, List.nil_append, List.append_nil]
      exact hK out p' ex' G' s.bare ((A3.trans A).more (by omega)).bare ho hev
  · have e : ((0 : Nat) : Int) = 0 := rfl
    obtain ⟨l0, hl0⟩ := hok.first
    refine ⟨0, 0, p, ex, G, by omega, rfl, A3.self hok, E1c, E2c, by unfold Gr.has; have := hG.ppos; omega, fun inp hi => by rw [hl0]; exact ev_0 hi l0, ?_⟩
    simp (disch := decide) only [z0, z1, h_here, h_skip, true_and, and_true]
end Go.Sy
end

section
set_option maxRecDepth 100000
namespace Go.Sy
open Go.Ev Go.Proofs
variable {base : CallF}
/-- one row of a product -/
def rowB (A : Nat → Bool) (b : Bool) (i k : Nat) : Bool := if k < i then false else A (k - i) && b
/-- the rows up to one, together -/
def accT (A B : Nat → Bool) (n : Nat) : Nat → Nat → Bool
  | 0 => fun _ => false
  | i + 1 => if i = n - 1 then sbit (accT A B n i) (fun k => !rowB A (B i) i k) true else sbit (accT A B n i) (rowB A (B i) i) false
theorem cr_congr {A A' B B' : Nat → Bool} {c : Bool} : ∀ {i : Nat}, (∀ j, j < i → A j = A' j) → (∀ j, j < i → B j = B' j) → cr A B c i = cr A' B' c i
  | 0, _, _ => rfl
  | i + 1, h, k => by
    unfold cr
    rw [h i (by omega), k i (by omega), cr_congr (i := i) (fun j hj => h j (by omega)) fun j hj => k j (by omega)]
theorem sbit_congr {A A' B B' : Nat → Bool} {c : Bool} {i : Nat} (h : ∀ j, j ≤ i → A j = A' j) (k : ∀ j, j ≤ i → B j = B' j) : sbit A B c i = sbit A' B' c i := by
  unfold sbit
  rw [h i (Nat.le_refl i), k i (Nat.le_refl i), cr_congr (fun j hj => h j (by omega)) fun j hj => k j (by omega)]
theorem v_subN {a b : Nat} (h : b ≤ a) (h2 : a ≤ 9223372036854775807) (st : Ev.St) (K : AV → Ev.St → Prop) : onER (binV .sub (.int .i64 (a : Int)) (.int .i64 (b : Int)) st) K = K (.int .i64 ((a - b : Nat) : Int)) st := by
  rw [v_sub (by omega) (by omega)]
  have : (a : Int) - (b : Int) = ((a - b : Nat) : Int) := by omega
  rw [this]
theorem v_addNN {a b : Nat} (h2 : a + b ≤ 9223372036854775807) (st : Ev.St) (K : AV → Ev.St → Prop) : onER (binV .add (.int .i64 (a : Int)) (.int .i64 (b : Int)) st) K = K (.int .i64 ((a + b : Nat) : Int)) st := by
  rw [v_add (by omega) (by omega)]; rfl
end Go.Sy
end

section
set_option maxRecDepth 100000
namespace Go.Sy
open Go.Ev Go.Proofs
variable {base : CallF}
theorem Times_ok (hb : ∀ f args st, f ≠ 12 → base f args st = .no) {g p q m : Nat} {ex : Bool} {G : Gr} {b1 o1 n1 c1 b2 o2 n2 c2 : Nat} {x1 x2 : Bool} {a1 a2 : Nat → Nat} (st : Ev.St) (hG : GM st.h st.nx g p q m ex G) (hok : G.OK) (hN : G.parts.length + 20 * 32 * n2 ≤ 1048576) (h1 : 1 ≤ n1) (h2 : 1 ≤ n2) (hw : n1 + n2 ≤ 32)
    (hE1 : Ed st (Own g p q m G) b1 o1 n1 a1) (hE2 : Ed st (Own g p q m G) b2 o2 n2 a2) (ha1 : ∀ i, i < n1 → G.has (a1 i)) (ha2 : ∀ i, i < n2 → G.has (a2 i)) (K : AV → Ev.St → Prop)
    (hK : ∀ bo xs p' ex' G' st', Aft g p q m G (20 * 32 * n2) st p' ex' G' st' → Ed st' (Own g p' q m G') bo 0 (n1 + n2) xs → (∀ i, i < n1 + n2 → G'.has (xs i)) →
      (∀ inp, inp 0 = false → ∀ i, i < n1 + n2 → ev inp G'.parts (xs i) = accT (fun i => ev inp G.parts (wide n1 a1 i)) (fun i => ev inp G.parts (a2 i)) n2 n2 i) → K (.tup [.slice bo 0 (n1 + n2) (n1 + n2) 1 true, .int .i64 0]) st') :
    CW Try.prog base 27 [.ptr g 0, .slice b1 o1 n1 c1 1 x1, .slice b2 o2 n2 c2 1 x2] st K := by
  refine fn_rule l27 (hb _ _ _ (by decide)) ?_
  simp only [c27, entry, List.map_cons, List.map_nil, List.getD_cons_zero, List.getD_cons_succ]
  unfold b27
  have A0 : Aft g p q m G 0 st p ex G st.bare := Aft.kept hG hok (Kept.refl _)
  have eA := fun (s : Ev.St) (K : AV → Ev.St → Prop) => v_addNN (a := n1) (b := n2) (by omega) s K
  have e0 : ((n1 + n2 : Nat) : Int) ≤ 32 := by omega
  have e00 : 0 < n1 + n2 := by omega
  simp (disch := first | assumption | decide | omega) only [qz3e, qz3f, qz3g, qz3h, qz3i, qz3j, eA, i_buildS2, qz00, qz01, qz02, qz03, qz04, qz05, qz06, qz07, qz08, qz09, qz0a, qz0b, qz0c, qz0d, qz0e, qz0f, qz0g, qz0h, qz0i, qz0j, qz0k, qz0l, qz0m, qz0n, qz0o, qz0p, qz0q, qz0r, qz0s, qz0t, qz0u, qz0v, qz0w, qz0x, qz0y, qz0z, qz10, qz11, qz12, qz13, qz14, qz15, qz16, qz17, qz18, qz19, qz1a, qz1b, qz1c, qz1d, qz1e, qz1f, qz1g, qz1h, qz1i, qz1j, qz1k, qz1l, qz1m, qz1n, qz1o, qz1p, qz1q, qz1r, qz1s, qz1t, qz1u, qz1v, qz1w, qz1x, qz1y, qz1z, qz20, qz21, qz22, qz23, qz24, qz25, qz26, qz27, qz28, qz29, qz2a, qz2b, qz2c, qz2d, qz2e, qz2f, qz2g, qz2h, qz2i, qz2j, qz2k, qz2l, qz2m, qz2n, qz2o, qz2p, qz2q, qz2r, qz2s, qz2t, qz2u, qz2v, qz2w, qz2x, qz2y, qz2z, qz30, qz31, qz32, qz33, qz34, qz35, qz36, qz37, qz38, qz39, qz3a, qz3b, qz3c, qz3d, Bool.not_true, Bool.not_false, List.cons_append, List.nil_append, List.append_nil]
  refine o_buildS2 ⟨rfl, rfl, rfl⟩ ⟨rfl, rfl, rfl⟩ fun s1 m1 => ?_
  have A1 := A0.made m1
  obtain ⟨r0, r1, r2⟩ := rowOf2 m1
  have s1fr := A1.fr
  simp (disch := first | assumption | decide | omega) only [qz3e, qz3f, qz3g, qz3h, qz3i, qz3j, qz00, qz01, qz02, qz03, qz04, qz05, qz06, qz07, qz08, qz09, qz0a, qz0b, qz0c, qz0d, qz0e, qz0f, qz0g, qz0h, qz0i, qz0j, qz0k, qz0l, qz0m, qz0n, qz0o, qz0p, qz0q, qz0r, qz0s, qz0t, qz0u, qz0v, qz0w, qz0x, qz0y, qz0z, qz10, qz11, qz12, qz13, qz14, qz15, qz16, qz17, qz18, qz19, qz1a, qz1b, qz1c, qz1d, qz1e, qz1f, qz1g, qz1h, qz1i, qz1j, qz1k, qz1l, qz1m, qz1n, qz1o, qz1p, qz1q, qz1r, qz1s, qz1t, qz1u, qz1v, qz1w, qz1x, qz1y, qz1z, qz20, qz21, qz22, qz23, qz24, qz25, qz26, qz27, qz28, qz29, qz2a, qz2b, qz2c, qz2d, qz2e, qz2f, qz2g, qz2h, qz2i, qz2j, qz2k, qz2l, qz2m, qz2n, qz2o, qz2p, qz2q, qz2r, qz2s, qz2t, qz2u, qz2v, qz2w, qz2x, qz2y, qz2z, qz30, qz31, qz32, qz33, qz34, qz35, qz36, qz37, qz38, qz39, qz3a, qz3b, qz3c, qz3d, Bool.not_true, Bool.not_false, List.cons_append, List.nil_append, List.append_nil]
  refine right2_ok (fun f a s hf => hb _ a s (by intro h; subst h; simp at hf)) h1 (by omega) h2 (by omega) s1 r0 r1 r2 _ ?_
  simp (disch := first | assumption | decide | omega) only [qz3e, qz3f, qz3g, qz3h, qz3i, qz3j, i_buildS2, qz00, qz01, qz02, qz03, qz04, qz05, qz06, qz07, qz08, qz09, qz0a, qz0b, qz0c, qz0d, qz0e, qz0f, qz0g, qz0h, qz0i, qz0j, qz0k, qz0l, qz0m, qz0n, qz0o, qz0p, qz0q, qz0r, qz0s, qz0t, qz0u, qz0v, qz0w, qz0x, qz0y, qz0z, qz10, qz11, qz12, qz13, qz14, qz15, qz16, qz17, qz18, qz19, qz1a, qz1b, qz1c, qz1d, qz1e, qz1f, qz1g, qz1h, qz1i, qz1j, qz1k, qz1l, qz1m, qz1n, qz1o, qz1p, qz1q, qz1r, qz1s, qz1t, qz1u, qz1v, qz1w, qz1x, qz1y, qz1z, qz20, qz21, qz22, qz23, qz24, qz25, qz26, qz27, qz28, qz29, qz2a, qz2b, qz2c, qz2d, qz2e, qz2f, qz2g, qz2h, qz2i, qz2j, qz2k, qz2l, qz2m, qz2n, qz2o, qz2p, qz2q, qz2r, qz2s, qz2t, qz2u, qz2v, qz2w, qz2x, qz2y, qz2z, qz30, qz31, qz32, qz33, qz34, qz35, qz36, qz37, qz38, qz39, qz3a, qz3b, qz3c, qz3d, Bool.not_true, Bool.not_false, List.cons_append, List.nil_append, List.append_nil]
  refine o_buildS2 ⟨rfl, rfl, rfl⟩ ⟨rfl, rfl, rfl⟩ fun s2 m2 => ?_
  have A2 := A1.made m2
  obtain ⟨t0, t1, t2⟩ := rowOf2 m2
  have E1 := (hE1.bare.made m1).made m2
  have E2 := (hE2.bare.made m1).made m2
  have n2' := m2.nx
  simp (disch := first | assumption | decide | omega) only [qz3e, qz3f, qz3g, qz3h, qz3i, qz3j, qz00, qz01, qz02, qz03, qz04, qz05, qz06, qz07, qz08, qz09, qz0a, qz0b, qz0c, qz0d, qz0e, qz0f, qz0g, qz0h, qz0i, qz0j, qz0k, qz0l, qz0m, qz0n, qz0o, qz0p, qz0q, qz0r, qz0s, qz0t, qz0u, qz0v, qz0w, qz0x, qz0y, qz0z, qz10, qz11, qz12, qz13, qz14, qz15, qz16, qz17, qz18, qz19, qz1a, qz1b, qz1c, qz1d, qz1e, qz1f, qz1g, qz1h, qz1i, qz1j, qz1k, qz1l, qz1m, qz1n, qz1o, qz1p, qz1q, qz1r, qz1s, qz1t, qz1u, qz1v, qz1w, qz1x, qz1y, qz1z, qz20, qz21, qz22, qz23, qz24, qz25, qz26, qz27, qz28, qz29, qz2a, qz2b, qz2c, qz2d, qz2e, qz2f, qz2g, qz2h, qz2i, qz2j, qz2k, qz2l, qz2m, qz2n, qz2o, qz2p, qz2q, qz2r, qz2s, qz2t, qz2u, qz2v, qz2w, qz2x, qz2y, qz2z, qz30, qz31, qz32, qz33, qz34, qz35, qz36, qz37, qz38, qz39, qz3a, qz3b, qz3c, qz3d, Bool.not_true, Bool.not_false, List.cons_append, List.nil_append, List.append_nil]
  refine known_ok (fun f a s hf => hb _ a s (by intro h; subst h; simp at hf)) s2 A2.gm (by omega) (by omega) (by omega) (by omega) (by omega) t0 (by omega) t1 t2 E1.row E2.row ha1 ha2 _ fun s3 e3 => ?_
  have k3 : Kept s2 (back s2 s3) := ⟨e3.nx, rfl, e3.keep⟩
  have A3 := A2.ext e3
  have R1 : Row (back s2 s3) b1 o1 n1 a1 := Row.keep E1.row k3.keep k3.nx
  have R2 : Row (back s2 s3) b2 o2 n2 a2 := Row.keep E2.row k3.keep k3.nx
  generalize back s2 s3 = u at A3 R1 R2
  simp (disch := first | assumption | decide | omega) only [qz3e, qz3f, qz3g, qz3h, qz3i, qz3j, qz00, qz01, qz02, qz03, qz04, qz05, qz06, qz07, qz08, qz09, qz0a, qz0b, qz0c, qz0d, qz0e, qz0f, qz0g, qz0h, qz0i, qz0j, qz0k, qz0l, qz0m, qz0n, qz0o, qz0p, qz0q, qz0r, qz0s, qz0t, qz0u, qz0v, qz0w, qz0x, qz0y, qz0z, qz10, qz11, qz12, qz13, qz14, qz15, qz16, qz17, qz18, qz19, qz1a, qz1b, qz1c, qz1d, qz1e, qz1f, qz1g, qz1h, qz1i, qz1j, qz1k, qz1l, qz1m, qz1n, qz1o, qz1p, qz1q, qz1r, qz1s, qz1t, qz1u, qz1v, qz1w, qz1x, qz1y, qz1z, qz20, qz21, qz22, qz23, qz24, qz25, qz26, qz27, qz28, qz29, qz2a, qz2b, qz2c, qz2d, qz2e, qz2f, qz2g, qz2h, qz2i, qz2j, qz2k, qz2l, qz2m, qz2n, qz2o, qz2p, qz2q, qz2r, qz2s, qz2t, qz2u, qz2v, qz2w, qz2x, qz2y, qz2z, qz30, qz31, qz32, qz33, qz34, qz35, qz36, qz37, qz38, qz39, qz3a, qz3b, qz3c, qz3d, Bool.not_true, Bool.not_false, List.cons_append, List.nil_append, List.append_nil]
  refine WidenG_ok (fun f a s hf => hb _ a s (by intro h; subst h; simp at hf)) h1 (by omega) _ u (Row.wide R1) (wide_last h1 a1) _ (fun h => by omega) fun w hww _ _ d1 s4 e4 hd1 R4 => ?_
  have ew : w = n1 + n2 := by omega
  subst ew
  have A4 := A3.ext e4
  have k4 : Kept u (back u s4) := ⟨e4.nx, rfl, e4.keep⟩
  have R4' : Row (back u s4) d1 0 (n1 + n2) (wide n1 a1) := R4
  have R2 : Row (back u s4) b2 o2 n2 a2 := Row.keep R2 k4.keep k4.nx
  generalize back u s4 = v at A4 R4' R2
  have h1w := has_wide h1 ha1
  have hd1' : st.nx ≤ d1 := Nat.le_trans A3.step.nx hd1
  have D1 : Ed v (Own g p q m G) d1 0 (n1 + n2) (wide n1 a1) := R4'.ed fun h => by have := own_lt hG h; omega
  have D2 : Ed v (Own g p q m G) b2 o2 n2 a2 := R2.ed hE2.off
  generalize wide n1 a1 = w1 at hK D1 h1w
  generalize hwd : n1 + n2 = w at *
  simp (disch := first | assumption | decide | omega) only [qz3e, qz3f, qz3g, qz3h, qz3i, qz3j, qz00, qz01, qz02, qz03, qz04, qz05, qz06, qz07, qz08, qz09, qz0a, qz0b, qz0c, qz0d, qz0e, qz0f, qz0g, qz0h, qz0i, qz0j, qz0k, qz0l, qz0m, qz0n, qz0o, qz0p, qz0q, qz0r, qz0s, qz0t, qz0u, qz0v, qz0w, qz0x, qz0y, qz0z, qz10, qz11, qz12, qz13, qz14, qz15, qz16, qz17, qz18, qz19, qz1a, qz1b, qz1c, qz1d, qz1e, qz1f, qz1g, qz1h, qz1i, qz1j, qz1k, qz1l, qz1m, qz1n, qz1o, qz1p, qz1q, qz1r, qz1s, qz1t, qz1u, qz1v, qz1w, qz1x, qz1y, qz1z, qz20, qz21, qz22, qz23, qz24, qz25, qz26, qz27, qz28, qz29, qz2a, qz2b, qz2c, qz2d, qz2e, qz2f, qz2g, qz2h, qz2i, qz2j, qz2k, qz2l, qz2m, qz2n, qz2o, qz2p, qz2q, qz2r, qz2s, qz2t, qz2u, qz2v, qz2w, qz2x, qz2y, qz2z, qz30, qz31, qz32, qz33, qz34, qz35, qz36, qz37, qz38, qz39, qz3a, qz3b, qz3c, qz3d, Bool.not_true, Bool.not_false, List.cons_append, List.nil_append, List.append_nil]
  refine o_mkS (l := w) (c := w) (by omega) (by omega) (by omega) fun s5 m5 => ?_
  have A5 := A4.made m5
  have D1 := D1.made m5
  have D2 := D2.made m5
  have n5 := m5.nx
  have l5 : rlen s5.h v.nx = w := m5.len.trans (Nat.mul_one w)
  have O5 : Ed s5 (Own g p q m G) v.nx 0 w (fun _ => 0) := ⟨by omega, fun h => by have := own_lt A4.gm h; omega, by omega, fun i hi => by rw [Nat.zero_add]; exact (m5.cell i (by omega)).trans (by rw [Nat.mod_one]; rfl)⟩
  simp (disch := first | assumption | decide | omega) only [qz3e, qz3f, qz3g, qz3h, qz3i, qz3j, qz00, qz01, qz02, qz03, qz04, qz05, qz06, qz07, qz08, qz09, qz0a, qz0b, qz0c, qz0d, qz0e, qz0f, qz0g, qz0h, qz0i, qz0j, qz0k, qz0l, qz0m, qz0n, qz0o, qz0p, qz0q, qz0r, qz0s, qz0t, qz0u, qz0v, qz0w, qz0x, qz0y, qz0z, qz10, qz11, qz12, qz13, qz14, qz15, qz16, qz17, qz18, qz19, qz1a, qz1b, qz1c, qz1d, qz1e, qz1f, qz1g, qz1h, qz1i, qz1j, qz1k, qz1l, qz1m, qz1n, qz1o, qz1p, qz1q, qz1r, qz1s, qz1t, qz1u, qz1v, qz1w, qz1x, qz1y, qz1z, qz20, qz21, qz22, qz23, qz24, qz25, qz26, qz27, qz28, qz29, qz2a, qz2b, qz2c, qz2d, qz2e, qz2f, qz2g, qz2h, qz2i, qz2j, qz2k, qz2l, qz2m, qz2n, qz2o, qz2p, qz2q, qz2r, qz2s, qz2t, qz2u, qz2v, qz2w, qz2x, qz2y, qz2z, qz30, qz31, qz32, qz33, qz34, qz35, qz36, qz37, qz38, qz39, qz3a, qz3b, qz3c, qz3d, Bool.not_true, Bool.not_false, List.cons_append, List.nil_append, List.append_nil]
  refine wC_loopH (fun mm L s => ∃ (i o : Nat) (xs : Nat → Nat) (p' : Nat) (ex' : Bool) (G' : Gr), i ≤ n2 ∧ mm = n2 - i ∧ Aft g p q m G (20 * 32 * i) s5 p' ex' G' s ∧ Ed s (Own g p' q m G') d1 0 w w1 ∧ Ed s (Own g p' q m G') b2 o2 n2 a2 ∧ Ed s (Own g p' q m G') o 0 w xs ∧ (∀ j, j < w → G'.has (xs j)) ∧
      (∀ inp, inp 0 = false → ∀ j, j < w → ev inp G'.parts (xs j) = accT (fun i => ev inp G.parts (w1 i)) (fun i => ev inp G.parts (a2 i)) n2 i j) ∧
      Has L 0 (.ptr g 0) ∧ Has L 2 (.slice b2 o2 n2 c2 1 x2) ∧ Has L 8 (.int .i64 (w : Int)) ∧ Has L 10 (.slice d1 0 w w 1 false) ∧ Has L 12 (.slice o 0 w w 1 true) ∧ Has L 51 (.slice b2 o2 n2 c2 1 x2) ∧ Has L 52 (.int .i64 (n2 : Int)) ∧ Has L 53 (.int .i64 (i : Int))) ?_ n2 ?_
  · rintro mm L s ⟨i, o, xs, p', ex', G', hi, rfl, A, D1, D2, O, hx, hev, i0, i2, i8, i10, i12, i51, i52, i53⟩
    unfold Hold
    have hfr := A.fr
    by_cases hin : i < n2
    · have e1 : o2 + i * 1 < rlen s.h b2 := by have := D2.len; omega
      have e2 : rat s.h b2 (o2 + i * 1) = .int .u32 (a2 i : Int) := by rw [Nat.mul_one]; exact D2.cell i hin
      have hlen := A.len
      simp (disch := first | assumption | decide | omega) only [qz3e, qz3f, qz3g, qz3h, qz3i, qz3j, r_onh i0, r_onh i2, r_onh i8, r_onh i10, r_onh i12, r_onh i51, r_onh i52, r_onh i53, e2, qz00, qz01, qz02, qz03, qz04, qz05, qz06, qz07, qz08, qz09, qz0a, qz0b, qz0c, qz0d, qz0e, qz0f, qz0g, qz0h, qz0i, qz0j, qz0k, qz0l, qz0m, qz0n, qz0o, qz0p, qz0q, qz0r, qz0s, qz0t, qz0u, qz0v, qz0w, qz0x, qz0y, qz0z, qz10, qz11, qz12, qz13, qz14, qz15, qz16, qz17, qz18, qz19, qz1a, qz1b, qz1c, qz1d, qz1e, qz1f, qz1g, qz1h, qz1i, qz1j, qz1k, qz1l, qz1m, qz1n, qz1o, qz1p, qz1q, qz1r, qz1s, qz1t, qz1u, qz1v, qz1w, qz1x, qz1y, qz1z, qz20, qz21, qz22, qz23, qz24, qz25, qz26, qz27, qz28, qz29, qz2a, qz2b, qz2c, qz2d, qz2e, qz2f, qz2g, qz2h, qz2i, qz2j, qz2k, qz2l, qz2m, qz2n, qz2o, qz2p, qz2q, qz2r, qz2s, qz2t, qz2u, qz2v, qz2w, qz2x, qz2y, qz2z, qz30, qz31, qz32, qz33, qz34, qz35, qz36, qz37, qz38, qz39, qz3a, qz3b, qz3c, qz3d, Bool.not_true, Bool.not_false, List.cons_append, List.nil_append, List.append_nil]
      refine o_mkS (l := w) (c := w) (by omega) (by omega) (by omega) fun s6 m6 => ?_
      have B6 := (A.self A.ok).made m6
      have n6 := m6.nx
      have l6 : rlen s6.h s.nx = w := m6.len.trans (Nat.mul_one w)
      have F1 := D1.made m6
      have F2 := D2.made m6
      have FO := O.made m6
      have FR : Ed s6 (Own g p' q m G') s.nx 0 w (fun _ => 0) := ⟨by omega, fun h => by have := own_lt A.gm h; omega, by omega, fun i hi => by rw [Nat.zero_add]; exact (m6.cell i (by omega)).trans (by rw [Nat.mod_one]; rfl)⟩
      simp (disch := first | assumption | decide | omega) only [qz3e, qz3f, qz3g, qz3h, qz3i, qz3j, r_onh i0, r_onh i2, r_onh i8, r_onh i10, r_onh i12, r_onh i51, r_onh i52, r_onh i53, qz00, qz01, qz02, qz03, qz04, qz05, qz06, qz07, qz08, qz09, qz0a, qz0b, qz0c, qz0d, qz0e, qz0f, qz0g, qz0h, qz0i, qz0j, qz0k, qz0l, qz0m, qz0n, qz0o, qz0p, qz0q, qz0r, qz0s, qz0t, qz0u, qz0v, qz0w, qz0x, qz0y, qz0z, qz10, qz11, qz12, qz13, qz14, qz15, qz16, qz17, qz18, qz19, qz1a, qz1b, qz1c, qz1d, qz1e, qz1f, qz1g, qz1h, qz1i, qz1j, qz1k, qz1l, qz1m, qz1n, qz1o, qz1p, qz1q, qz1r, qz1s, qz1t, qz1u, qz1v, qz1w, qz1x, qz1y, qz1z, qz20, qz21, qz22, qz23, qz24, qz25, qz26, qz27, qz28, qz29, qz2a, qz2b, qz2c, qz2d, qz2e, qz2f, qz2g, qz2h, qz2i, qz2j, qz2k, qz2l, qz2m, qz2n, qz2o, qz2p, qz2q, qz2r, qz2s, qz2t, qz2u, qz2v, qz2w, qz2x, qz2y, qz2z, qz30, qz31, qz32, qz33, qz34, qz35, qz36, qz37, qz38, qz39, qz3a, qz3b, qz3c, qz3d, Bool.not_true, Bool.not_false, List.cons_append, List.nil_append, List.append_nil]
      refine wC_loopH (fun mm L s' => ∃ (k : Nat) (ys : Nat → Nat) (p2 : Nat) (ex2 : Bool) (G2 : Gr), i ≤ k ∧ k ≤ w ∧ mm = w - k ∧ Aft g p' q m G' (2 * (k - i)) s p2 ex2 G2 s' ∧ Ed s' (Own g p2 q m G2) d1 0 w w1 ∧ Ed s' (Own g p2 q m G2) b2 o2 n2 a2 ∧ Ed s' (Own g p2 q m G2) o 0 w xs ∧ Ed s' (Own g p2 q m G2) s.nx 0 w ys ∧ (∀ j, j < w → G2.has (ys j)) ∧
          (∀ inp, inp 0 = false → ∀ j, j < w → ev inp G2.parts (ys j) = if j < k then rowB (fun i => ev inp G.parts (w1 i)) (ev inp G.parts (a2 i)) i j else false) ∧
          Has L 0 (.ptr g 0) ∧ Has L 2 (.slice b2 o2 n2 c2 1 x2) ∧ Has L 8 (.int .i64 (w : Int)) ∧ Has L 10 (.slice d1 0 w w 1 false) ∧ Has L 12 (.slice o 0 w w 1 true) ∧ Has L 13 (.int .i64 (i : Int)) ∧ Has L 14 (.int .u32 (a2 i : Int)) ∧ Has L 15 (.slice s.nx 0 w w 1 true) ∧ Has L 16 (.int .i64 (k : Int)) ∧ Has L 51 (.slice b2 o2 n2 c2 1 x2) ∧ Has L 52 (.int .i64 (n2 : Int)) ∧ Has L 53 (.int .i64 (i : Int))) ?_ (w - i) ?_
      · rintro mm2 L2 s' ⟨k, ys, p2, ex2, G2, hk1, hk2, rfl, B, F1, F2, FO, FR, hy, hevy, j0, j2, j8, j10, j12, j13, j14, j15, j16, j51, j52, j53⟩
        unfold Hold
        have sfr := B.fr
        have hlen2 := B.len
        by_cases hkw : k < w
        · have e3 : 0 + (k - i) * 1 < rlen s'.h d1 := by have := F1.len; omega
          have e4 : rat s'.h d1 (0 + (k - i) * 1) = .int .u32 (w1 (k - i) : Int) := by rw [Nat.mul_one]; exact F1.cell (k - i) (by omega)
          have e5 : k - i < w := by omega
          have eS := fun (s : Ev.St) (K : AV → Ev.St → Prop) => v_subN (a := k) (b := i) hk1 (by omega) s K
          simp (disch := first | assumption | decide | omega) only [qz3e, qz3f, qz3g, qz3h, qz3i, qz3j, r_onh j0, r_onh j2, r_onh j8, r_onh j10, r_onh j12, r_onh j13, r_onh j14, r_onh j15, r_onh j16, r_onh j51, r_onh j52, r_onh j53, eS, e4, i_buildS2, qz00, qz01, qz02, qz03, qz04, qz05, qz06, qz07, qz08, qz09, qz0a, qz0b, qz0c, qz0d, qz0e, qz0f, qz0g, qz0h, qz0i, qz0j, qz0k, qz0l, qz0m, qz0n, qz0o, qz0p, qz0q, qz0r, qz0s, qz0t, qz0u, qz0v, qz0w, qz0x, qz0y, qz0z, qz10, qz11, qz12, qz13, qz14, qz15, qz16, qz17, qz18, qz19, qz1a, qz1b, qz1c, qz1d, qz1e, qz1f, qz1g, qz1h, qz1i, qz1j, qz1k, qz1l, qz1m, qz1n, qz1o, qz1p, qz1q, qz1r, qz1s, qz1t, qz1u, qz1v, qz1w, qz1x, qz1y, qz1z, qz20, qz21, qz22, qz23, qz24, qz25, qz26, qz27, qz28, qz29, qz2a, qz2b, qz2c, qz2d, qz2e, qz2f, qz2g, qz2h, qz2i, qz2j, qz2k, qz2l, qz2m, qz2n, qz2o, qz2p, qz2q, qz2r, qz2s, qz2t, qz2u, qz2v, qz2w, qz2x, qz2y, qz2z, qz30, qz31, qz32, qz33, qz34, qz35, qz36, qz37, qz38, qz39, qz3a, qz3b, qz3c, qz3d, Bool.not_true, Bool.not_false, List.cons_append, List.nil_append, List.append_nil]
          refine o_buildS2 ⟨rfl, rfl, rfl⟩ ⟨rfl, rfl, rfl⟩ fun s7 m7 => ?_
          have B7 := B.made m7
          have s7fr := B7.fr
          have W := ed2 m7 (fun c hc => own_lt B.gm hc)
          have F1 := F1.made m7
          have F2 := F2.made m7
          have FO := FO.made m7
          have FR := FR.made m7
          have le2 := A.le.trans B.le
          simp (disch := first | assumption | decide | omega) only [qz3e, qz3f, qz3g, qz3h, qz3i, qz3j, qz00, qz01, qz02, qz03, qz04, qz05, qz06, qz07, qz08, qz09, qz0a, qz0b, qz0c, qz0d, qz0e, qz0f, qz0g, qz0h, qz0i, qz0j, qz0k, qz0l, qz0m, qz0n, qz0o, qz0p, qz0q, qz0r, qz0s, qz0t, qz0u, qz0v, qz0w, qz0x, qz0y, qz0z, qz10, qz11, qz12, qz13, qz14, qz15, qz16, qz17, qz18, qz19, qz1a, qz1b, qz1c, qz1d, qz1e, qz1f, qz1g, qz1h, qz1i, qz1j, qz1k, qz1l, qz1m, qz1n, qz1o, qz1p, qz1q, qz1r, qz1s, qz1t, qz1u, qz1v, qz1w, qz1x, qz1y, qz1z, qz20, qz21, qz22, qz23, qz24, qz25, qz26, qz27, qz28, qz29, qz2a, qz2b, qz2c, qz2d, qz2e, qz2f, qz2g, qz2h, qz2i, qz2j, qz2k, qz2l, qz2m, qz2n, qz2o, qz2p, qz2q, qz2r, qz2s, qz2t, qz2u, qz2v, qz2w, qz2x, qz2y, qz2z, qz30, qz31, qz32, qz33, qz34, qz35, qz36, qz37, qz38, qz39, qz3a, qz3b, qz3c, qz3d, Bool.not_true, Bool.not_false, List.cons_append, List.nil_append, List.append_nil]
          refine And_ok (fun f a s hf => hb _ a s (by intro h; subst h; simp at hf)) s7 B7.gm B7.ok (by omega) W (fun j _ => has_two (le2.has (h1w (k - i))) (le2.has (ha2 i hin)) j) _ fun x p3 ex3 G3 s8 C hx3 hevx => ?_
          have C' := C.back B7.fr
          have B8 := B7.trans C'
          have F1 := F1.bare.step C'.step
          have F2 := F2.bare.step C'.step
          have FO := FO.bare.step C'.step
          have FR := FR.bare.step C'.step
          generalize back s7 s8 = u at B8 C' F1 F2 FO FR
          have ufr := B8.fr
          simp (disch := first | assumption | decide | omega) only [qz3e, qz3f, qz3g, qz3h, qz3i, qz3j, r_onh j0, r_onh j2, r_onh j8, r_onh j10, r_onh j12, r_onh j13, r_onh j14, r_onh j15, r_onh j16, r_onh j51, r_onh j52, r_onh j53, qz00, qz01, qz02, qz03, qz04, qz05, qz06, qz07, qz08, qz09, qz0a, qz0b, qz0c, qz0d, qz0e, qz0f, qz0g, qz0h, qz0i, qz0j, qz0k, qz0l, qz0m, qz0n, qz0o, qz0p, qz0q, qz0r, qz0s, qz0t, qz0u, qz0v, qz0w, qz0x, qz0y, qz0z, qz10, qz11, qz12, qz13, qz14, qz15, qz16, qz17, qz18, qz19, qz1a, qz1b, qz1c, qz1d, qz1e, qz1f, qz1g, qz1h, qz1i, qz1j, qz1k, qz1l, qz1m, qz1n, qz1o, qz1p, qz1q, qz1r, qz1s, qz1t, qz1u, qz1v, qz1w, qz1x, qz1y, qz1z, qz20, qz21, qz22, qz23, qz24, qz25, qz26, qz27, qz28, qz29, qz2a, qz2b, qz2c, qz2d, qz2e, qz2f, qz2g, qz2h, qz2i, qz2j, qz2k, qz2l, qz2m, qz2n, qz2o, qz2p, qz2q, qz2r, qz2s, qz2t, qz2u, qz2v, qz2w, qz2x, qz2y, qz2z, qz30, qz31, qz32, qz33, qz34, qz35, qz36, qz37, qz38, qz39, qz3a, qz3b, qz3c, qz3d, Bool.not_true, Bool.not_false, List.cons_append, List.nil_append, List.append_nil]
          refine o_st1 (by have := FR.len; omega) ⟨rfl, rfl, rfl⟩ fun s9 m9 => ?_
          have B9 := B8.wrote m9 FR.off (Nat.le_refl _)
          have hl1 : d1 ≠ s.nx := by have := D1.lt; omega
          have hl2 : b2 ≠ s.nx := by have := D2.lt; omega
          have hl3 : o ≠ s.nx := by have := O.lt; omega
          simp (disch := first | assumption | decide | omega) only [qz3e, qz3f, qz3g, qz3h, qz3i, qz3j, r_onh j16, v_addN, qz00, qz01, qz02, qz03, qz04, qz05, qz06, qz07, qz08, qz09, qz0a, qz0b, qz0c, qz0d, qz0e, qz0f, qz0g, qz0h, qz0i, qz0j, qz0k, qz0l, qz0m, qz0n, qz0o, qz0p, qz0q, qz0r, qz0s, qz0t, qz0u, qz0v, qz0w, qz0x, qz0y, qz0z, qz10, qz11, qz12, qz13, qz14, qz15, qz16, qz17, qz18, qz19, qz1a, qz1b, qz1c, qz1d, qz1e, qz1f, qz1g, qz1h, qz1i, qz1j, qz1k, qz1l, qz1m, qz1n, qz1o, qz1p, qz1q, qz1r, qz1s, qz1t, qz1u, qz1v, qz1w, qz1x, qz1y, qz1z, qz20, qz21, qz22, qz23, qz24, qz25, qz26, qz27, qz28, qz29, qz2a, qz2b, qz2c, qz2d, qz2e, qz2f, qz2g, qz2h, qz2i, qz2j, qz2k, qz2l, qz2m, qz2n, qz2o, qz2p, qz2q, qz2r, qz2s, qz2t, qz2u, qz2v, qz2w, qz2x, qz2y, qz2z, qz30, qz31, qz32, qz33, qz34, qz35, qz36, qz37, qz38, qz39, qz3a, qz3b, qz3c, qz3d, Bool.not_true, Bool.not_false, List.cons_append, List.nil_append, List.append_nil]
          refine ⟨w - (k + 1), by omega, k + 1, fun j => if j = k then x else ys j, p3, ex3, G3, by omega, by omega, rfl, B9.more (by omega), F1.wrote m9 hl1, F2.wrote m9 hl2, FO.wrote m9 hl3, ⟨by have := FR.lt; rw [m9.nx]; exact this, FR.off, by have := FR.len; rw [m9.len]; exact this, fun j hj => ?_⟩, fun j hj => ?_, fun inp hi' j hj => ?_, ?_⟩
          · have e6 := m9.cell (0 + j)
            by_cases hjk : j = k
            · rw [if_pos (by omega)] at e6
              simp only [if_pos hjk]
              exact e6
            · rw [if_neg (by omega)] at e6
              simp only [if_neg hjk]
              exact e6.trans (FR.cell j hj)
          · by_cases hjk : j = k
            · simp only [if_pos hjk]; exact hx3
            · simp only [if_neg hjk]; exact C.le.has (hy j hj)
          · by_cases hjk : j = k
            · simp only [if_pos hjk]
              rw [if_pos (by omega), hevx inp hi']
              show ((true && ev inp G2.parts (w1 (k - i))) && ev inp G2.parts (a2 i)) = _
              rw [Bool.true_and, le2.ev (h1w (k - i)), le2.ev (ha2 i hin)]
              unfold rowB
              rw [if_neg (by omega), hjk]
            · simp only [if_neg hjk]
              rw [C.le.ev (hy j hj), hevy inp hi' j hj]
              by_cases h : j < k
              · rw [if_pos h, if_pos (by omega)]
              · rw [if_neg h, if_neg (by omega)]
          · simp (disch := decide) only [z0, z1, h_here, h_skip, j0, j2, j8, j10, j12, j13, j14, j15, j51, j52, j53, true_and, and_true]
        · have hkw' : k = w := by omega
          subst hkw'
          have AB := A.trans B
          have le2 := A.le.trans B.le
          by_cases hlast : i = n2 - 1
          · have e6 : (i : Int) = ((n2 - 1 : Nat) : Int) := by omega
            simp (disch := first | assumption | decide | omega) only [qz3e, qz3f, qz3g, qz3h, qz3i, qz3j, r_onh j0, r_onh j2, r_onh j8, r_onh j10, r_onh j12, r_onh j13, r_onh j14, r_onh j15, r_onh j16, r_onh j51, r_onh j52, r_onh j53, qz00, qz01, qz02, qz03, qz04, qz05, qz06, qz07, qz08, qz09, qz0a, qz0b, qz0c, qz0d, qz0e, qz0f, qz0g, qz0h, qz0i, qz0j, qz0k, qz0l, qz0m, qz0n, qz0o, qz0p, qz0q, qz0r, qz0s, qz0t, qz0u, qz0v, qz0w, qz0x, qz0y, qz0z, qz10, qz11, qz12, qz13, qz14, qz15, qz16, qz17, qz18, qz19, qz1a, qz1b, qz1c, qz1d, qz1e, qz1f, qz1g, qz1h, qz1i, qz1j, qz1k, qz1l, qz1m, qz1n, qz1o, qz1p, qz1q, qz1r, qz1s, qz1t, qz1u, qz1v, qz1w, qz1x, qz1y, qz1z, qz20, qz21, qz22, qz23, qz24, qz25, qz26, qz27, qz28, qz29, qz2a, qz2b, qz2c, qz2d, qz2e, qz2f, qz2g, qz2h, qz2i, qz2j, qz2k, qz2l, qz2m, qz2n, qz2o, qz2p, qz2q, qz2r, qz2s, qz2t, qz2u, qz2v, qz2w, qz2x, qz2y, qz2z, qz30, qz31, qz32, qz33, qz34, qz35, qz36, qz37, qz38, qz39, qz3a, qz3b, qz3c, qz3d, Bool.not_true, Bool.not_false, List.cons_append, List.nil_append, List.append_nil]
            refine turned_ok (fun a s => hb _ a s (by decide)) hw s' FR.lt FR.len FR.cell (fun j hj => by have := hy j hj; unfold Gr.has at this; omega) _ fun d3 s7 e7 hd3 hd4 l3 v3 => ?_
            have B7 := B.ext e7
            have A7 := AB.ext e7
            have kk : Kept s' (back s' s7) := ⟨e7.nx, rfl, e7.keep⟩
            have nOwn : ¬ Own g p2 q m G2 d3 := fun h => by have := own_lt B.gm h; omega
            have R3 : Ed (back s' s7) (Own g p2 q m G2) d3 0 k (fun i => ys i ^^^ 1) := ⟨hd4, nOwn, by show 0 + k ≤ rlen s7.h d3; omega, fun j hj => by rw [Nat.zero_add]; exact v3 j hj⟩
            have F1 := (Row.keep F1.row kk.keep kk.nx).ed F1.off
            have F2 := (Row.keep F2.row kk.keep kk.nx).ed F2.off
            have FO := (Row.keep FO.row kk.keep kk.nx).ed FO.off
            generalize back s' s7 = s' at B7 A7 R3 F1 F2 FO
            have sfr := B7.fr
            simp (disch := first | assumption | decide | omega) only [qz3e, qz3f, qz3g, qz3h, qz3i, qz3j, r_onh j0, r_onh j2, r_onh j8, r_onh j10, r_onh j12, r_onh j13, r_onh j14, r_onh j15, r_onh j16, r_onh j51, r_onh j52, r_onh j53, qz00, qz01, qz02, qz03, qz04, qz05, qz06, qz07, qz08, qz09, qz0a, qz0b, qz0c, qz0d, qz0e, qz0f, qz0g, qz0h, qz0i, qz0j, qz0k, qz0l, qz0m, qz0n, qz0o, qz0p, qz0q, qz0r, qz0s, qz0t, qz0u, qz0v, qz0w, qz0x, qz0y, qz0z, qz10, qz11, qz12, qz13, qz14, qz15, qz16, qz17, qz18, qz19, qz1a, qz1b, qz1c, qz1d, qz1e, qz1f, qz1g, qz1h, qz1i, qz1j, qz1k, qz1l, qz1m, qz1n, qz1o, qz1p, qz1q, qz1r, qz1s, qz1t, qz1u, qz1v, qz1w, qz1x, qz1y, qz1z, qz20, qz21, qz22, qz23, qz24, qz25, qz26, qz27, qz28, qz29, qz2a, qz2b, qz2c, qz2d, qz2e, qz2f, qz2g, qz2h, qz2i, qz2j, qz2k, qz2l, qz2m, qz2n, qz2o, qz2p, qz2q, qz2r, qz2s, qz2t, qz2u, qz2v, qz2w, qz2x, qz2y, qz2z, qz30, qz31, qz32, qz33, qz34, qz35, qz36, qz37, qz38, qz39, qz3a, qz3b, qz3c, qz3d, Bool.not_true, Bool.not_false, List.cons_append, List.nil_append, List.append_nil]
            refine sum_ok (c := 1) (fun f a s hf => hb _ a s (by intro h; subst h; simp at hf)) s' B7.gm B.ok hw (by omega) FO R3 (fun j hj => B.le.has (hx j hj)) (fun j hj => has_flip (hy j hj)) (by show 1 / 2 < _; have := B.gm.ppos; omega) _ fun bo zs p3 ex3 G3 s8 C hbo E hz hevz => ?_
            have C' := C.back B7.fr
            have AC := A7.trans C'
            have F1 := F1.bare.step C'.step
            have F2 := F2.bare.step C'.step
            have FZ : Ed (back s' s8) (Own g p3 q m G3) bo 0 k zs := ⟨E.lt, E.off, E.len, E.cell⟩
            generalize back s' s8 = u at AC F1 F2 FZ
            simp (disch := first | assumption | decide | omega) only [qz3e, qz3f, qz3g, qz3h, qz3i, qz3j, r_onh j0, r_onh j2, r_onh j8, r_onh j10, r_onh j12, r_onh j13, r_onh j14, r_onh j15, r_onh j16, r_onh j51, r_onh j52, r_onh j53, v_addN, qz00, qz01, qz02, qz03, qz04, qz05, qz06, qz07, qz08, qz09, qz0a, qz0b, qz0c, qz0d, qz0e, qz0f, qz0g, qz0h, qz0i, qz0j, qz0k, qz0l, qz0m, qz0n, qz0o, qz0p, qz0q, qz0r, qz0s, qz0t, qz0u, qz0v, qz0w, qz0x, qz0y, qz0z, qz10, qz11, qz12, qz13, qz14, qz15, qz16, qz17, qz18, qz19, qz1a, qz1b, qz1c, qz1d, qz1e, qz1f, qz1g, qz1h, qz1i, qz1j, qz1k, qz1l, qz1m, qz1n, qz1o, qz1p, qz1q, qz1r, qz1s, qz1t, qz1u, qz1v, qz1w, qz1x, qz1y, qz1z, qz20, qz21, qz22, qz23, qz24, qz25, qz26, qz27, qz28, qz29, qz2a, qz2b, qz2c, qz2d, qz2e, qz2f, qz2g, qz2h, qz2i, qz2j, qz2k, qz2l, qz2m, qz2n, qz2o, qz2p, qz2q, qz2r, qz2s, qz2t, qz2u, qz2v, qz2w, qz2x, qz2y, qz2z, qz30, qz31, qz32, qz33, qz34, qz35, qz36, qz37, qz38, qz39, qz3a, qz3b, qz3c, qz3d, Bool.not_true, Bool.not_false, List.cons_append, List.nil_append, List.append_nil]
            refine ⟨n2 - (i + 1), by omega, i + 1, bo, zs, p3, ex3, G3, by omega, rfl, AC.more (by omega), F1, F2, FZ, hz, fun inp hi' j hj => ?_, ?_⟩
            · rw [hevz inp hi' j hj]
              show _ = accT _ _ n2 (i + 1) j
              unfold accT
              rw [if_pos hlast]
              obtain ⟨l0, hl0⟩ := B.ok.first
              rw [show ev inp G2.parts 1 = true by rw [hl0]; exact ev_1 hi' l0]
              exact sbit_congr (fun t ht => by rw [B.le.ev (hx t (by omega))]; exact hev inp hi' t (by omega)) fun t ht => by
                show ev inp G2.parts (ys t ^^^ 1) = _
                rw [ev_not, hevy inp hi' t (by omega), if_pos (by omega)]
            · simp (disch := decide) only [z0, z1, h_here, h_skip, j0, j2, j8, j10, j51, j52, true_and, and_true]
          · have e6 : (i : Int) ≠ ((n2 - 1 : Nat) : Int) := by omega
            simp (disch := first | assumption | decide | omega) only [qz3e, qz3f, qz3g, qz3h, qz3i, qz3j, r_onh j0, r_onh j2, r_onh j8, r_onh j10, r_onh j12, r_onh j13, r_onh j14, r_onh j15, r_onh j16, r_onh j51, r_onh j52, r_onh j53, qz00, qz01, qz02, qz03, qz04, qz05, qz06, qz07, qz08, qz09, qz0a, qz0b, qz0c, qz0d, qz0e, qz0f, qz0g, qz0h, qz0i, qz0j, qz0k, qz0l, qz0m, qz0n, qz0o, qz0p, qz0q, qz0r, qz0s, qz0t, qz0u, qz0v, qz0w, qz0x, qz0y, qz0z, qz10, qz11, qz12, qz13, qz14, qz15, qz16, qz17, qz18, qz19, qz1a, qz1b, qz1c, qz1d, qz1e, qz1f, qz1g, qz1h, qz1i, qz1j, qz1k, qz1l, qz1m, qz1n, qz1o, qz1p, qz1q, qz1r, qz1s, qz1t, qz1u, qz1v, qz1w, qz1x, qz1y, qz1z, qz20, qz21, qz22, qz23, qz24, qz25, qz26, qz27, qz28, qz29, qz2a, qz2b, qz2c, qz2d, qz2e, qz2f, qz2g, qz2h, qz2i, qz2j, qz2k, qz2l, qz2m, qz2n, qz2o, qz2p, qz2q, qz2r, qz2s, qz2t, qz2u, qz2v, qz2w, qz2x, qz2y, qz2z, qz30, qz31, qz32, qz33, qz34, qz35, qz36, qz37, qz38, qz39, qz3a, qz3b, qz3c, qz3d, Bool.not_true, Bool.not_false, List.cons_append, List.nil_append, List.append_nil]
            have e7 : ((0 : Nat) : Int) = 0 := rfl
            refine sum_ok (c := 0) (fun f a s hf => hb _ a s (by intro h; subst h; simp at hf)) s' B.gm B.ok hw (by omega) FO FR (fun j hj => B.le.has (hx j hj)) hy (by show 0 / 2 < _; have := B.gm.ppos; omega) _ fun bo zs p3 ex3 G3 s8 C hbo E hz hevz => ?_
            have C' := C.back B.fr
            have AC := AB.trans C'
            have F1 := F1.bare.step C'.step
            have F2 := F2.bare.step C'.step
            have FZ : Ed (back s' s8) (Own g p3 q m G3) bo 0 k zs := ⟨E.lt, E.off, E.len, E.cell⟩
            generalize back s' s8 = u at AC F1 F2 FZ
            simp (disch := first | assumption | decide | omega) only [qz3e, qz3f, qz3g, qz3h, qz3i, qz3j, r_onh j0, r_onh j2, r_onh j8, r_onh j10, r_onh j12, r_onh j13, r_onh j14, r_onh j15, r_onh j16, r_onh j51, r_onh j52, r_onh j53, v_addN, qz00, qz01, qz02, qz03, qz04, qz05, qz06, qz07, qz08, qz09, qz0a, qz0b, qz0c, qz0d, qz0e, qz0f, qz0g, qz0h, qz0i, qz0j, qz0k, qz0l, qz0m, qz0n, qz0o, qz0p, qz0q, qz0r, qz0s, qz0t, qz0u, qz0v, qz0w, qz0x, qz0y, qz0z, qz10, qz11, qz12, qz13, qz14, qz15, qz16, qz17, qz18, qz19, qz1a, qz1b, qz1c, qz1d, qz1e, qz1f, qz1g, qz1h, qz1i, qz1j, qz1k, qz1l, qz1m, qz1n, qz1o, qz1p, qz1q, qz1r, qz1s, qz1t, qz1u, qz1v, qz1w, qz1x, qz1y, qz1z, qz20, qz21, qz22, qz23, qz24, qz25, qz26, qz27, qz28, qz29, qz2a, qz2b, qz2c, qz2d, qz2e, qz2f, qz2g, qz2h, qz2i, qz2j, qz2k, qz2l, qz2m, qz2n, qz2o, qz2p, qz2q, qz2r, qz2s, qz2t, qz2u, qz2v, qz2w, qz2x, qz2y, qz2z, qz30, qz31, qz32, qz33, qz34, qz35, qz36, qz37, qz38, qz39, qz3a, qz3b, qz3c, qz3d, Bool.not_true, Bool.not_false, List.cons_append, List.nil_append, List.append_nil]
            refine ⟨n2 - (i + 1), by omega, i + 1, bo, zs, p3, ex3, G3, by omega, rfl, AC.more (by omega), F1, F2, FZ, hz, fun inp hi' j hj => ?_, ?_⟩
            · rw [hevz inp hi' j hj]
              show _ = accT _ _ n2 (i + 1) j
              unfold accT
              rw [if_neg hlast]
              obtain ⟨l0, hl0⟩ := B.ok.first
              rw [show ev inp G2.parts 0 = false by rw [hl0]; exact ev_0 hi' l0]
              exact sbit_congr (fun t ht => by rw [B.le.ev (hx t (by omega))]; exact hev inp hi' t (by omega)) fun t ht => by rw [hevy inp hi' t (by omega), if_pos (by omega)]
            · simp (disch := decide) only [z0, z1, h_here, h_skip, j0, j2, j8, j10, j51, j52, true_and, and_true]
      · refine ⟨i, fun _ => 0, p', ex', G', by omega, by omega, rfl, B6.more (by omega), F1, F2, FO, FR, fun j hj => by show 0 / 2 < _; have := A.gm.ppos; omega, fun inp hi' j hj => ?_, ?_⟩
        · obtain ⟨l0, hl0⟩ := A.ok.first
          have e9 : ev inp G'.parts 0 = false := by rw [hl0]; exact ev_0 hi' l0
          show ev inp G'.parts 0 = _
          rw [e9]
          unfold rowB
          by_cases h : j < i
          · rw [if_pos h, if_pos h]
          · rw [if_neg h]
        · simp (disch := decide) only [z0, z1, h_here, h_skip, i0, i2, i8, i10, i12, i51, i52, i53, true_and, and_true]
    · have hkn' : i = n2 := by omega
      subst hkn'
      simp (disch := first | assumption | decide | omega) only [qz3e, qz3f, qz3g, qz3h, qz3i, qz3j, r_onh i0, r_onh i2, r_onh i8, r_onh i10, r_onh i12, r_onh i51, r_onh i52, r_onh i53, qz00, qz01, qz02, qz03, qz04, qz05, qz06, qz07, qz08, qz09, qz0a, qz0b, qz0c, qz0d, qz0e, qz0f, qz0g, qz0h, qz0i, qz0j, qz0k, qz0l, qz0m, qz0n, qz0o, qz0p, qz0q, qz0r, qz0s, qz0t, qz0u, qz0v, qz0w, qz0x, qz0y, qz0z, qz10, qz11, qz12, qz13, qz14, qz15, qz16, qz17, qz18, qz19, qz1a, qz1b, qz1c, qz1d, qz1e, qz1f, qz1g, qz1h, qz1i, qz1j, qz1k, qz1l, qz1m, qz1n, qz1o, qz1p, qz1q, qz1r, qz1s, qz1t, qz1u, qz1v, qz1w, qz1x, qz1y, qz1z, qz20, qz21, qz22, qz23, qz24, qz25, qz26, qz27, qz28, qz29, qz2a, qz2b, qz2c, qz2d, qz2e, qz2f, qz2g, qz2h, qz2i, qz2j, qz2k, qz2l, qz2m, qz2n, qz2o, qz2p, qz2q, qz2r, qz2s, qz2t, qz2u, qz2v, qz2w, qz2x, qz2y, qz2z, qz30, qz31, qz32, qz33, qz34, qz35, qz36, qz37, qz38, qz39, qz3a, qz3b, qz3c, qz3d, Bool.not_true, Bool.not_false, List.cons_append, List.nil_append, List.append_nil]
      exact hK o xs p' ex' G' s.bare ((A5.trans A).more (by omega)).bare O.bare hx hev
  · obtain ⟨l0, hl0⟩ := hok.first
    refine ⟨0, v.nx, fun _ => 0, p, ex, G, by omega, rfl, (A5.self hok).more (by omega), D1, D2, O5, fun j hj => by show 0 / 2 < _; have := hG.ppos; omega, fun inp hi j hj => by rw [hl0]; exact ev_0 hi l0, ?_⟩
    simp (disch := decide) only [z0, z1, h_here, h_skip, true_and, and_true]
end Go.Sy
end

section
set_option maxRecDepth 100000
namespace Go.Sy
open Go.Ev Go.Proofs
variable {base : CallF}

section
variable {P : Program}
theorem qz3n (d : Option Nat) (kp : Bool) (x : Nat) (want : Bool) (k : IC) (te : Option (Option A)) (lt : TypeId) (prt : List (Nat × TypeId)) (l : List DStp) (e : En) (tb : List TE) (st : Ev.St) (K : En → Ev.St → Prop) :
    wD P base (⟨⟨d, kp, some (x, want), k⟩, te, lt, prt⟩ :: l) e tb st K = on1 e (.t x) fun v => onG v want (wK P base k e st fun v st' => held P lt (teW te e v st st') tb prt = true ∧ wD P base l (pushE d kp v e) (teW te e v st st' :: tb) st' K) (wD P base l (pushE d kp undefA e) (.none :: tb) st K) := nr rfl
theorem qz3s {k x : Nat} (h : k ≠ x) (v : AV) (l g : Sl) : vl ⟨(k, v) :: l, g⟩ (.t x) = vl ⟨l, g⟩ (.t x) := by
  simp [vl, En.look, En.has, has_cons, look_cons, h]
theorem r_vlg (x : Nat) (v : AV) (g : Sl) : vl ⟨[], (x, v) :: g⟩ (.t x) = v := by simp [vl, En.look, has, look_cons]
theorem r_vlgs {k x : Nat} (h : k ≠ x) (v : AV) (g : Sl) : vl ⟨[], (k, v) :: g⟩ (.t x) = vl ⟨[], g⟩ (.t x) := by simp [vl, En.look, has, look_cons, h]
theorem r_vlh {L : Sl} {x : Nat} {v : AV} (h : Has L x v) : vl ⟨[], L⟩ (.t x) = v := by
  obtain ⟨h1, h2⟩ := h
  simp [vl, En.look, has, h2]
theorem r_heldw4 (t u : TypeId) (a v : AV) (x y z w : TE) (h h' : T AO) (tb : List TE) : held P t (.wr h h') (x :: y :: z :: w :: .rd a v :: tb) [(4, u)] = cond (cond (sameAt P u a v h) (sameAt P u a v h') false) true false := nr rfl
theorem r_heldw9 (t u : TypeId) (a v : AV) (x y z w x2 y2 z2 w2 k2 : TE) (h h' : T AO) (tb : List TE) : held P t (.wr h h') (x :: y :: z :: w :: x2 :: y2 :: z2 :: w2 :: k2 :: .rd a v :: tb) [(9, u)] = cond (cond (sameAt P u a v h) (sameAt P u a v h') false) true false := nr rfl
end
theorem loadK50 (b o n zl : Nat) (z : List AV) (cs : T AV) (h : T AO) (hg : hget h b = some (.row n zl z cs)) (ho : o < n) : (loadK Try.prog 50).run (.ptr b o) h = some (rowCell zl z cs o) := by
  have e1 : Go.Ev.isAgg Try.prog 50 = some false := by kernel_rfl
  have e2 : Go.Ev.sizeOf Try.prog 50 = some 1 := by kernel_rfl
  have e3 : Nat.ble (Nat.succ o) n = true := ble_t ho
  simp only [loadK, e1, e2, hg, e3, cond_true]
theorem same50 {b o : Nat} {h : T AO} {b' o' n' c' s' : Nat} {x : Bool} (ho : o < rlen h b) (hv : rat h b o = .slice b' o' n' c' s' x) : sameAt Try.prog 50 (.ptr b o) (.slice b' o' n' c' s' x) h = true := by
  obtain ⟨n2, zl, z, cs, hg⟩ := isRow_pos (h := h) (b := b) (by omega)
  rw [rlen_get hg] at ho
  rw [rat_get hg] at hv
  unfold sameAt
  rw [loadK50 b o n2 zl z cs h hg ho, hv]
  show eqAV (.slice b' o' n' c' s' x) (.slice b' o' n' c' s' x) = true
  have e : ∀ a : Nat, Nat.beq a a = true := fun a => beq_t rfl
  cases x <;> simp [eqAV, eqCellS, eqCell, e]
theorem neq81 (p q : Nat × Nat) (st : Ev.St) (K : AV → Ev.St → Prop) : onER (genV Try.prog .neq 81 false (.agg [.int .u32 (p.1 : Int), .int .u32 (p.2 : Int)]) (.agg [.int .u32 (q.1 : Int), .int .u32 (q.2 : Int)]) st) K = K (.bool (decide (p ≠ q))) st := by
  have h : genV Try.prog .neq 81 false (encP p) (encP q) st = onSome ((eqF Try.prog 20 81).run (encP p) (encP q)) fun b => .ok (.bool (cond b false true)) st := by kernel_rfl
  show onER (genV Try.prog .neq 81 false (encP p) (encP q) st) K = _
  rw [h, eqP]
  by_cases e : p = q <;> simp [e, onSome, onER]

/-- what each gate says: a row of bools in a box -/
structure AllB (s : Ev.St) (ba bx N : Nat) (z : Nat → Bool) : Prop where
  lt : ba < s.nx
  lt2 : bx < s.nx
  ne : ba ≠ bx
  len : rlen s.h ba = N
  cell : ∀ i, i < N → rat s.h ba i = .bool (z i)
  blen : rlen s.h bx = 1
  box : rat s.h bx 0 = .slice ba 0 N N 1 true
theorem AllB.keep {s s' : Ev.St} {ba bx N : Nat} {z : Nat → Bool} (h : AllB s ba bx N z) (hn : s.nx ≤ s'.nx) (h1 : hget s'.h ba = hget s.h ba) (h2 : hget s'.h bx = hget s.h bx) : AllB s' ba bx N z :=
  ⟨Nat.lt_of_lt_of_le h.lt hn, Nat.lt_of_lt_of_le h.lt2 hn, h.ne, (rlen_same h1).trans h.len, fun i hi => (rat_same h1 i).trans (h.cell i hi), (rlen_same h2).trans h.blen, (rat_same h2 0).trans h.box⟩
theorem AllB.kept {s s' : Ev.St} {ba bx N : Nat} {z : Nat → Bool} (h : AllB s ba bx N z) (k : Kept s s') : AllB s' ba bx N z := h.keep k.nx (k.keep _ h.lt) (k.keep _ h.lt2)
theorem AllB.put {s s' : Ev.St} {ba bx N i : Nat} {v : Bool} {z : Nat → Bool} (h : AllB s ba bx N z) (w : Wrote s s' ba (0 + i * 1) (.bool v)) : AllB s' ba bx N (fun j => if j = i then v else z j) :=
  ⟨by rw [w.nx]; exact h.lt, by rw [w.nx]; exact h.lt2, h.ne, by rw [w.len]; exact h.len, fun j hj => by
    have := w.cell j
    by_cases e : j = i
    · rw [if_pos (by omega)] at this
      simp only [if_pos e]; exact this
    · rw [if_neg (by omega)] at this
      simp only [if_neg e]; exact this.trans (h.cell j hj), (rlen_same (w.keep bx (Ne.symm h.ne))).trans h.blen, (rat_same (w.keep bx (Ne.symm h.ne)) 0).trans h.box⟩
theorem AllB.eq {s : Ev.St} {ba bx N : Nat} {z y : Nat → Bool} (h : AllB s ba bx N z) (e : ∀ i, i < N → z i = y i) : AllB s ba bx N y := ⟨h.lt, h.lt2, h.ne, h.len, fun i hi => by rw [← e i hi]; exact h.cell i hi, h.blen, h.box⟩

theorem saysG_ok (hb : ∀ args st, base 42 args st = .no) {a bx ba N : Nat} {z : Nat → Bool} (ha : a / 2 < N) (hN : N ≤ 1048576) (st : Ev.St) (hA : AllB st ba bx N z) (K : AV → Ev.St → Prop) (hK : K (.bool (z (a / 2) != (a % 2 == 1))) st.bare) : CW Try.prog base 42 [.int .u32 (a : Int), .ptr bx 0] st K := by
  refine fn_rule l42 (hb _ _) ?_
  simp only [c42, entry, List.map_cons, List.map_nil, List.getD_cons_zero, List.getD_cons_succ]
  unfold b42
  have e0 : a ≤ 4294967295 := by omega
  have e2 : 0 < rlen st.bare.h bx := by show 0 < rlen st.h bx; rw [hA.blen]; decide
  have e3 : rat st.bare.h bx 0 = .slice ba 0 N N 1 true := hA.box
  have e4 : 0 + a / 2 * 1 < rlen st.bare.h ba := by show _ < rlen st.h ba; rw [hA.len]; omega
  have e5 : rat st.bare.h ba (0 + a / 2 * 1) = .bool (z (a / 2)) := by
    have : 0 + a / 2 * 1 = a / 2 := by omega
    rw [this]; exact hA.cell _ ha
  by_cases h1 : a % 2 = 1
  · have e6 : ((a % 2 : Nat) : Int) = 1 := by omega
    rw [h1] at hK
    simp (disch := first | assumption | decide | omega) only [e3, e5, genNeq4, qz00, qz01, qz02, qz03, qz04, qz05, qz06, qz07, qz08, qz09, qz0a, qz0b, qz0c, qz0d, qz0e, qz0f, qz0g, qz0h, qz0i, qz0j, qz0k, qz0l, qz0m, qz0n, qz0o, qz0p, qz0q, qz0r, qz0s, qz0t, qz0u, qz0v, qz0w, qz0x, qz0y, qz0z, qz10, qz11, qz12, qz13, qz14, qz15, qz16, qz17, qz18, qz19, qz1a, qz1b, qz1c, qz1d, qz1e, qz1f, qz1g, qz1h, qz1i, qz1j, qz1k, qz1l, qz1m, qz1n, qz1o, qz1p, qz1q, qz1r, qz1s, qz1t, qz1u, qz1v, qz1w, qz1x, qz1y, qz1z, qz20, qz21, qz22, qz23, qz24, qz25, qz26, qz27, qz28, qz29, qz2a, qz2b, qz2c, qz2d, qz2e, qz2f, qz2g, qz2h, qz2i, qz2j, qz2k, qz2l, qz2m, qz2n, qz2o, qz2p, qz2q, qz2r, qz2s, qz2t, qz2u, qz2v, qz2w, qz2x, qz2y, qz2z, qz30, qz31, qz32, qz33, qz34, qz35, qz36, qz37, qz38, qz39, qz3a, qz3b, qz3c, qz3d, Bool.not_true, Bool.not_false, List.cons_append, List.nil_append, List.append_nil]
    exact hK
  · have e6 : ((a % 2 : Nat) : Int) ≠ 1 := by omega
    have e7 : (a % 2 == 1) = false := by simp [h1]
    rw [e7] at hK
    simp (disch := first | assumption | decide | omega) only [e3, e5, genNeq4, qz00, qz01, qz02, qz03, qz04, qz05, qz06, qz07, qz08, qz09, qz0a, qz0b, qz0c, qz0d, qz0e, qz0f, qz0g, qz0h, qz0i, qz0j, qz0k, qz0l, qz0m, qz0n, qz0o, qz0p, qz0q, qz0r, qz0s, qz0t, qz0u, qz0v, qz0w, qz0x, qz0y, qz0z, qz10, qz11, qz12, qz13, qz14, qz15, qz16, qz17, qz18, qz19, qz1a, qz1b, qz1c, qz1d, qz1e, qz1f, qz1g, qz1h, qz1i, qz1j, qz1k, qz1l, qz1m, qz1n, qz1o, qz1p, qz1q, qz1r, qz1s, qz1t, qz1u, qz1v, qz1w, qz1x, qz1y, qz1z, qz20, qz21, qz22, qz23, qz24, qz25, qz26, qz27, qz28, qz29, qz2a, qz2b, qz2c, qz2d, qz2e, qz2f, qz2g, qz2h, qz2i, qz2j, qz2k, qz2l, qz2m, qz2n, qz2o, qz2p, qz2q, qz2r, qz2s, qz2t, qz2u, qz2v, qz2w, qz2x, qz2y, qz2z, qz30, qz31, qz32, qz33, qz34, qz35, qz36, qz37, qz38, qz39, qz3a, qz3b, qz3c, qz3d, Bool.not_true, Bool.not_false, List.cons_append, List.nil_append, List.append_nil]
    exact hK

/-- what the inputs are, where the first so many are given -/
def inpR (l : List Nat) (nv : Nat) (f : Nat → Bool) : Nat → Nat → Bool
  | 0, _ => false
  | k + 1, x => if x = l.getD k 0 / 2 then (if k < nv then f k else false) else inpR l nv f k x
theorem vals_pre (inp : Nat → Bool) (l : List (Nat × Nat)) (k : Nat) : ∃ more, vals inp l = vals inp (l.take k) ++ more := by
  have : l = l.take k ++ l.drop k := (List.take_append_drop k l).symm
  unfold vals
  conv => enter [1, m, 1]; rw [this]
  rw [valsFrom_app]
  exact valsFrom_pre inp _ _
theorem vals_at {inp : Nat → Bool} {l : List (Nat × Nat)} {k : Nat} (hk : k < l.length) : (vals inp l).getD k false = nodeV inp (vals inp (l.take k)) (l.getD k (0, 0)) := by
  obtain ⟨more, e⟩ := vals_pre inp l (k + 1)
  have e2 : l.take (k + 1) = l.take k ++ [l.getD k (0, 0)] := by
    rw [List.take_add_one, List.getElem?_eq_getElem hk, List.getD_eq_getElem?_getD, List.getElem?_eq_getElem hk]; rfl
  rw [e2, vals_snoc] at e
  have lk : (vals inp (l.take k)).length = k := by rw [vals_len, List.length_take]; omega
  rw [e, List.getD_eq_getElem?_getD, List.append_assoc, List.getElem?_append_right (by omega), lk, Nat.sub_self]
  rfl
theorem says_take {inp : Nat → Bool} {l : List (Nat × Nat)} {k a : Nat} (hk : k ≤ l.length) (ha : a / 2 < k) : says (vals inp (l.take k)) a = ev inp l a := by
  obtain ⟨more, e⟩ := vals_pre inp l k
  unfold ev
  rw [e]
  exact (says_app (by rw [vals_len, List.length_take]; omega)).symm
theorem vals_in {inp : Nat → Bool} {l : List (Nat × Nat)} {k : Nat} (hk : k < l.length) (hp : l.getD k (0, 0) = (0, 0)) : (vals inp l).getD k false = inp k := by
  rw [vals_at hk, hp]
  unfold nodeV
  rw [if_pos rfl, vals_len, List.length_take, Nat.min_eq_left (by omega)]
theorem vals_and {inp : Nat → Bool} {l : List (Nat × Nat)} {k : Nat} (hk : k < l.length) (hp : l.getD k (0, 0) ≠ (0, 0)) (h1 : (l.getD k (0, 0)).1 / 2 < k) (h2 : (l.getD k (0, 0)).2 / 2 < k) : (vals inp l).getD k false = (ev inp l (l.getD k (0, 0)).1 && ev inp l (l.getD k (0, 0)).2) := by
  rw [vals_at hk]
  unfold nodeV
  rw [if_neg hp, says_take (by omega) h1, says_take (by omega) h2]
end Go.Sy
end

section
set_option maxRecDepth 100000
namespace Go.Sy
open Go.Ev Go.Proofs
variable {base : CallF}
/-- some bools, or none -/
def Vl (st : Ev.St) (V : AV) (nv : Nat) (f : Nat → Bool) : Prop :=
  (V = .nils ∧ nv = 0) ∨ ∃ b o c x, V = .slice b o nv c 1 x ∧ b < st.nx ∧ o + nv ≤ rlen st.h b ∧ ∀ i, i < nv → rat st.h b (o + i) = .bool (f i)
theorem Vl.keep {s s' : Ev.St} {V : AV} {nv : Nat} {f : Nat → Bool} (h : Vl s V nv f) (hk : ∀ c, c < s.nx → hget s'.h c = hget s.h c) (hn : s.nx ≤ s'.nx) : Vl s' V nv f := by
  rcases h with h | ⟨b, o, c, x, h1, h2, h3, h4⟩
  · exact .inl h
  · exact .inr ⟨b, o, c, x, h1, Nat.lt_of_lt_of_le h2 hn, by rw [rlen_same (hk b h2)]; exact h3, fun i hi => (rat_same (hk b h2) _).trans (h4 i hi)⟩
def zz (inp : Nat → Bool) (l : List (Nat × Nat)) (k x : Nat) : Bool := if x < k then (vals inp l).getD x false else inp x

theorem EvalG_ok (hb : ∀ f args st, f ∈ [25, 41, 42, 54, 55, 63] → base f args st = .no) {b o n c g p q m nv : Nat} {V : AV} {x ex : Bool} {G : Gr} {a : Nat → Nat} {f : Nat → Bool} (hn : n ≤ 32) (hnv : nv ≤ 1048576) (st : Ev.St) (hG : GM st.h st.nx g p q m ex G) (hok : G.OK) (hI : G.inputs.length ≤ 1048576) (hV : Vl st V nv f) (hR : Row st b o n a) (ha : ∀ i, i < n → G.has (a i))
    (K : AV → Ev.St → Prop) (hK : ∀ bo st', Ext st st' → st.nx ≤ bo → bo < st'.nx → rlen st'.h bo = n → (∀ i, i < n → rat st'.h bo i = .bool (ev (inpR G.inputs nv f G.inputs.length) G.parts (a i))) → K (.tup [.slice bo 0 n n 1 true, .int .i64 0]) st') : CW Try.prog base 25 [.ptr g 0, V, .slice b o n c 1 x] st K := by
  refine fn_rule l25 (hb _ _ _ (by simp)) ?_
  simp only [c25, entry, List.map_cons, List.map_nil, List.getD_cons_zero, List.getD_cons_succ]
  unfold b25
  have hN := hok.most
  have hpos := hG.ppos
  simp (disch := first | assumption | decide | omega) only [qz3e, qz3f, qz3g, qz3h, qz3i, qz3j, qz00, qz01, qz02, qz03, qz04, qz05, qz06, qz07, qz08, qz09, qz0a, qz0b, qz0c, qz0d, qz0e, qz0f, qz0g, qz0h, qz0i, qz0j, qz0k, qz0l, qz0m, qz0n, qz0o, qz0p, qz0q, qz0r, qz0s, qz0t, qz0u, qz0v, qz0w, qz0x, qz0y, qz0z, qz10, qz11, qz12, qz13, qz14, qz15, qz16, qz17, qz18, qz19, qz1a, qz1b, qz1c, qz1d, qz1e, qz1f, qz1g, qz1h, qz1i, qz1j, qz1k, qz1l, qz1m, qz1n, qz1o, qz1p, qz1q, qz1r, qz1s, qz1t, qz1u, qz1v, qz1w, qz1x, qz1y, qz1z, qz20, qz21, qz22, qz23, qz24, qz25, qz26, qz27, qz28, qz29, qz2a, qz2b, qz2c, qz2d, qz2e, qz2f, qz2g, qz2h, qz2i, qz2j, qz2k, qz2l, qz2m, qz2n, qz2o, qz2p, qz2q, qz2r, qz2s, qz2t, qz2u, qz2v, qz2w, qz2x, qz2y, qz2z, qz30, qz31, qz32, qz33, qz34, qz35, qz36, qz37, qz38, qz39, qz3a, qz3b, qz3c, qz3d, Bool.not_true, Bool.not_false, List.cons_append, List.nil_append, List.append_nil]
  refine thereG_ok (own := fun _ => False) (fun f a s hf => hb _ a s (by simp at hf ⊢; rcases hf with h | h | h | h <;> simp [h])) (by omega) st.bare hG hN (Row.ed hR id).bare ha _ fun s1 e1 => ?_
  have k1 : Kept st.bare (back st.bare s1) := ⟨e1.nx, rfl, e1.keep⟩
  generalize back st.bare s1 = t at k1
  have G1 : GM t.h t.nx g p q m ex G := hG.keep k1.keep k1.nx
  have R1 : Row t b o n a := Row.keep hR k1.keep k1.nx
  have V1 : Vl t V nv f := Vl.keep hV k1.keep k1.nx
  have e2 : 0 < rlen t.h g := by rw [G1.glen]; decide
  have e3 := G1.g0
  generalize hNN : G.parts.length = N at hN e3
  simp (disch := first | assumption | decide | omega) only [qz3e, qz3f, qz3g, qz3h, qz3i, qz3j, e3, Nat.add_zero, qz00, qz01, qz02, qz03, qz04, qz05, qz06, qz07, qz08, qz09, qz0a, qz0b, qz0c, qz0d, qz0e, qz0f, qz0g, qz0h, qz0i, qz0j, qz0k, qz0l, qz0m, qz0n, qz0o, qz0p, qz0q, qz0r, qz0s, qz0t, qz0u, qz0v, qz0w, qz0x, qz0y, qz0z, qz10, qz11, qz12, qz13, qz14, qz15, qz16, qz17, qz18, qz19, qz1a, qz1b, qz1c, qz1d, qz1e, qz1f, qz1g, qz1h, qz1i, qz1j, qz1k, qz1l, qz1m, qz1n, qz1o, qz1p, qz1q, qz1r, qz1s, qz1t, qz1u, qz1v, qz1w, qz1x, qz1y, qz1z, qz20, qz21, qz22, qz23, qz24, qz25, qz26, qz27, qz28, qz29, qz2a, qz2b, qz2c, qz2d, qz2e, qz2f, qz2g, qz2h, qz2i, qz2j, qz2k, qz2l, qz2m, qz2n, qz2o, qz2p, qz2q, qz2r, qz2s, qz2t, qz2u, qz2v, qz2w, qz2x, qz2y, qz2z, qz30, qz31, qz32, qz33, qz34, qz35, qz36, qz37, qz38, qz39, qz3a, qz3b, qz3c, qz3d, Bool.not_true, Bool.not_false, List.cons_append, List.nil_append, List.append_nil]
  refine o_mkS (l := N) (c := N) (by omega) (by omega) (by omega) fun s2 h2 => ?_
  simp (disch := first | assumption | decide | omega) only [qz3e, qz3f, qz3g, qz3h, qz3i, qz3j, qz00, qz01, qz02, qz03, qz04, qz05, qz06, qz07, qz08, qz09, qz0a, qz0b, qz0c, qz0d, qz0e, qz0f, qz0g, qz0h, qz0i, qz0j, qz0k, qz0l, qz0m, qz0n, qz0o, qz0p, qz0q, qz0r, qz0s, qz0t, qz0u, qz0v, qz0w, qz0x, qz0y, qz0z, qz10, qz11, qz12, qz13, qz14, qz15, qz16, qz17, qz18, qz19, qz1a, qz1b, qz1c, qz1d, qz1e, qz1f, qz1g, qz1h, qz1i, qz1j, qz1k, qz1l, qz1m, qz1n, qz1o, qz1p, qz1q, qz1r, qz1s, qz1t, qz1u, qz1v, qz1w, qz1x, qz1y, qz1z, qz20, qz21, qz22, qz23, qz24, qz25, qz26, qz27, qz28, qz29, qz2a, qz2b, qz2c, qz2d, qz2e, qz2f, qz2g, qz2h, qz2i, qz2j, qz2k, qz2l, qz2m, qz2n, qz2o, qz2p, qz2q, qz2r, qz2s, qz2t, qz2u, qz2v, qz2w, qz2x, qz2y, qz2z, qz30, qz31, qz32, qz33, qz34, qz35, qz36, qz37, qz38, qz39, qz3a, qz3b, qz3c, qz3d, Bool.not_true, Bool.not_false, List.cons_append, List.nil_append, List.append_nil]
  refine o_new fun s3 h3 => ?_
  simp (disch := first | assumption | decide | omega) only [qz3e, qz3f, qz3g, qz3h, qz3i, qz3j, qz00, qz01, qz02, qz03, qz04, qz05, qz06, qz07, qz08, qz09, qz0a, qz0b, qz0c, qz0d, qz0e, qz0f, qz0g, qz0h, qz0i, qz0j, qz0k, qz0l, qz0m, qz0n, qz0o, qz0p, qz0q, qz0r, qz0s, qz0t, qz0u, qz0v, qz0w, qz0x, qz0y, qz0z, qz10, qz11, qz12, qz13, qz14, qz15, qz16, qz17, qz18, qz19, qz1a, qz1b, qz1c, qz1d, qz1e, qz1f, qz1g, qz1h, qz1i, qz1j, qz1k, qz1l, qz1m, qz1n, qz1o, qz1p, qz1q, qz1r, qz1s, qz1t, qz1u, qz1v, qz1w, qz1x, qz1y, qz1z, qz20, qz21, qz22, qz23, qz24, qz25, qz26, qz27, qz28, qz29, qz2a, qz2b, qz2c, qz2d, qz2e, qz2f, qz2g, qz2h, qz2i, qz2j, qz2k, qz2l, qz2m, qz2n, qz2o, qz2p, qz2q, qz2r, qz2s, qz2t, qz2u, qz2v, qz2w, qz2x, qz2y, qz2z, qz30, qz31, qz32, qz33, qz34, qz35, qz36, qz37, qz38, qz39, qz3a, qz3b, qz3c, qz3d, Bool.not_true, Bool.not_false, List.cons_append, List.nil_append, List.append_nil]
  have l3 : rlen s3.h s2.nx = 1 := h3.len
  refine o_st1 (by rw [l3]; decide) ⟨rfl, rfl, rfl⟩ fun s4 h4 => ?_
  have n2 : s2.nx = t.nx + 1 := h2.nx
  have n3 : s3.nx = s2.nx + 1 := h3.nx
  have n4 : s4.nx = s3.nx := h4.nx
  have k4 : Kept t s4 := ((Kept.made (Kept.refl t) h2).made h3).wrote h4 (by omega)
  have kb : hget s4.h t.nx = hget s2.h t.nx := (h4.keep _ (by omega)).trans (h3.keep _ (by omega))
  have A4 : AllB s4 t.nx s2.nx N (inpR G.inputs nv f 0) := ⟨by omega, by omega, by omega, (rlen_same kb).trans (h2.len.trans (Nat.mul_one N)), fun i hi => (rat_same kb i).trans ((h2.cell i (by omega)).trans (by rw [Nat.mod_one]; rfl)), h4.len.trans l3, by rw [h4.cell, if_pos rfl]⟩
  have G4 : GM s4.h s4.nx g p q m ex G := G1.keep k4.keep k4.nx
  have e4 : 0 + 1 < rlen s4.h g := by rw [G4.glen]; decide
  have e5 := G4.g1
  generalize hQ : (if G.inputs = [] then AV.nils else AV.slice q 0 G.inputs.length G.inputs.length 1 false) = Q at e5
  have hQl : ∀ (s : Ev.St) (K : AV → Ev.St → Prop), onER (lenV Q s) K = K (.int .i64 (G.inputs.length : Int)) s := fun s K => by
    subst hQ
    by_cases h : G.inputs = []
    · rw [if_pos h, h]; rfl
    · rw [if_neg h]; rfl
  simp (disch := first | assumption | decide | omega) only [qz3e, qz3f, qz3g, qz3h, qz3i, qz3j, e5, hQl, qz00, qz01, qz02, qz03, qz04, qz05, qz06, qz07, qz08, qz09, qz0a, qz0b, qz0c, qz0d, qz0e, qz0f, qz0g, qz0h, qz0i, qz0j, qz0k, qz0l, qz0m, qz0n, qz0o, qz0p, qz0q, qz0r, qz0s, qz0t, qz0u, qz0v, qz0w, qz0x, qz0y, qz0z, qz10, qz11, qz12, qz13, qz14, qz15, qz16, qz17, qz18, qz19, qz1a, qz1b, qz1c, qz1d, qz1e, qz1f, qz1g, qz1h, qz1i, qz1j, qz1k, qz1l, qz1m, qz1n, qz1o, qz1p, qz1q, qz1r, qz1s, qz1t, qz1u, qz1v, qz1w, qz1x, qz1y, qz1z, qz20, qz21, qz22, qz23, qz24, qz25, qz26, qz27, qz28, qz29, qz2a, qz2b, qz2c, qz2d, qz2e, qz2f, qz2g, qz2h, qz2i, qz2j, qz2k, qz2l, qz2m, qz2n, qz2o, qz2p, qz2q, qz2r, qz2s, qz2t, qz2u, qz2v, qz2w, qz2x, qz2y, qz2z, qz30, qz31, qz32, qz33, qz34, qz35, qz36, qz37, qz38, qz39, qz3a, qz3b, qz3c, qz3d, Bool.not_true, Bool.not_false, List.cons_append, List.nil_append, List.append_nil]
  refine wC_loopH (fun mm L s => ∃ k : Nat, k ≤ G.inputs.length ∧ mm = G.inputs.length - k ∧ Kept t s ∧ AllB s t.nx s2.nx N (inpR G.inputs nv f k) ∧ Has L 0 (.ptr g 0) ∧ Has L 1 V ∧ Has L 2 (.slice b o n c 1 x) ∧ Has L 8 (.ptr s2.nx 0) ∧ Has L 30 Q ∧ Has L 31 (.int .i64 (G.inputs.length : Int)) ∧ Has L 32 (.int .i64 (k : Int))) ?_ G.inputs.length ?_
  · rintro mm L s ⟨k, hk, rfl, ks, A, h0, h1', h2', h8, h30, h31, h32⟩
    unfold Hold
    have Gs : GM s.h s.nx g p q m ex G := G1.keep ks.keep ks.nx
    have eb1 : 0 < rlen s.h s2.nx := by rw [A.blen]; decide
    have eb2 := A.box
    by_cases hkn : k < G.inputs.length
    · have hne : G.inputs ≠ [] := fun h => by rw [h] at hkn; simp at hkn
      have eQ : Q = .slice q 0 G.inputs.length G.inputs.length 1 false := by rw [← hQ, if_neg hne]
      rw [eQ] at h30
      have ea : 0 + k * 1 < rlen s.h q := by have := Gs.qlen hne; omega
      have eb : rat s.h q (0 + k * 1) = .int .u32 (G.inputs.getD k 0 : Int) := by
        rw [Nat.mul_one, Nat.zero_add]; exact Gs.qat k hkn
      have hmem : G.inputs.getD k 0 ∈ G.inputs := by
        rw [List.getD_eq_getElem?_getD, List.getElem?_eq_getElem hkn]; exact List.getElem_mem hkn
      obtain ⟨i1, i2, i3, i4⟩ := hok.ins _ hmem
      generalize hy : G.inputs.getD k 0 = y at eb i1 i2 i3 i4
      have ey : y ≤ 4294967295 := by omega
      have ey2 : y / 2 < N := by omega
      have ez : 0 + y / 2 * 1 < rlen s.h t.nx := by rw [A.len]; omega
      have done : ∀ (v : Bool) (s' : Ev.St), (v = if k < nv then f k else false) → Wrote s s' t.nx (0 + y / 2 * 1) (.bool v) → AllB s' t.nx s2.nx N (inpR G.inputs nv f (k + 1)) ∧ Kept t s' := fun v s' hv w =>
        ⟨(A.put w).eq fun j hj => by
          show (if j = y / 2 then v else inpR G.inputs nv f k j) = inpR G.inputs nv f (k + 1) j
          conv => enter [2]; unfold inpR
          rw [hy, hv], ks.wrote w (Nat.le_refl _)⟩
      rcases (V1.keep ks.keep ks.nx : Vl s V nv f) with ⟨rfl, rfl⟩ | ⟨bv, ov, cv, xv, rfl, v1, v2, v3⟩
      · have ek : ¬ ((k : Int) < 0) := by omega
        have ek2 : (0 : Int) ≤ k := by omega
        simp (disch := first | assumption | decide | omega) only [qz3e, qz3f, qz3g, qz3h, qz3i, qz3j, r_onh h0, r_onh h1', r_onh h2', r_onh h8, r_onh h30, r_onh h31, r_onh h32, eb, eb2, qz00, qz01, qz02, qz03, qz04, qz05, qz06, qz07, qz08, qz09, qz0a, qz0b, qz0c, qz0d, qz0e, qz0f, qz0g, qz0h, qz0i, qz0j, qz0k, qz0l, qz0m, qz0n, qz0o, qz0p, qz0q, qz0r, qz0s, qz0t, qz0u, qz0v, qz0w, qz0x, qz0y, qz0z, qz10, qz11, qz12, qz13, qz14, qz15, qz16, qz17, qz18, qz19, qz1a, qz1b, qz1c, qz1d, qz1e, qz1f, qz1g, qz1h, qz1i, qz1j, qz1k, qz1l, qz1m, qz1n, qz1o, qz1p, qz1q, qz1r, qz1s, qz1t, qz1u, qz1v, qz1w, qz1x, qz1y, qz1z, qz20, qz21, qz22, qz23, qz24, qz25, qz26, qz27, qz28, qz29, qz2a, qz2b, qz2c, qz2d, qz2e, qz2f, qz2g, qz2h, qz2i, qz2j, qz2k, qz2l, qz2m, qz2n, qz2o, qz2p, qz2q, qz2r, qz2s, qz2t, qz2u, qz2v, qz2w, qz2x, qz2y, qz2z, qz30, qz31, qz32, qz33, qz34, qz35, qz36, qz37, qz38, qz39, qz3a, qz3b, qz3c, qz3d, Bool.not_true, Bool.not_false, List.cons_append, List.nil_append, List.append_nil]
        refine o_st1 ez ⟨rfl, rfl, rfl⟩ fun s5 h5 => ?_
        obtain ⟨A5, k5⟩ := done false s5 (by rw [if_neg (by omega)]) h5
        simp (disch := first | assumption | decide | omega) only [qz3e, qz3f, qz3g, qz3h, qz3i, qz3j, r_onh h32, v_addN, qz00, qz01, qz02, qz03, qz04, qz05, qz06, qz07, qz08, qz09, qz0a, qz0b, qz0c, qz0d, qz0e, qz0f, qz0g, qz0h, qz0i, qz0j, qz0k, qz0l, qz0m, qz0n, qz0o, qz0p, qz0q, qz0r, qz0s, qz0t, qz0u, qz0v, qz0w, qz0x, qz0y, qz0z, qz10, qz11, qz12, qz13, qz14, qz15, qz16, qz17, qz18, qz19, qz1a, qz1b, qz1c, qz1d, qz1e, qz1f, qz1g, qz1h, qz1i, qz1j, qz1k, qz1l, qz1m, qz1n, qz1o, qz1p, qz1q, qz1r, qz1s, qz1t, qz1u, qz1v, qz1w, qz1x, qz1y, qz1z, qz20, qz21, qz22, qz23, qz24, qz25, qz26, qz27, qz28, qz29, qz2a, qz2b, qz2c, qz2d, qz2e, qz2f, qz2g, qz2h, qz2i, qz2j, qz2k, qz2l, qz2m, qz2n, qz2o, qz2p, qz2q, qz2r, qz2s, qz2t, qz2u, qz2v, qz2w, qz2x, qz2y, qz2z, qz30, qz31, qz32, qz33, qz34, qz35, qz36, qz37, qz38, qz39, qz3a, qz3b, qz3c, qz3d, Bool.not_true, Bool.not_false, List.cons_append, List.nil_append, List.append_nil]
        refine ⟨G.inputs.length - (k + 1), by omega, k + 1, by omega, rfl, k5, A5, ?_⟩
        rw [eQ]
        simp (disch := decide) only [z0, z1, h_here, h_skip, h0, h1', h2', h8, h30, h31, true_and, and_true]
      · by_cases hkv : k < nv
        · have ec : ov + k * 1 < rlen s.h bv := by omega
          have ed : rat s.h bv (ov + k * 1) = .bool (f k) := by rw [Nat.mul_one]; exact v3 k hkv
          simp (disch := first | assumption | decide | omega) only [qz3e, qz3f, qz3g, qz3h, qz3i, qz3j, r_onh h0, r_onh h1', r_onh h2', r_onh h8, r_onh h30, r_onh h31, r_onh h32, eb, eb2, ed, qz00, qz01, qz02, qz03, qz04, qz05, qz06, qz07, qz08, qz09, qz0a, qz0b, qz0c, qz0d, qz0e, qz0f, qz0g, qz0h, qz0i, qz0j, qz0k, qz0l, qz0m, qz0n, qz0o, qz0p, qz0q, qz0r, qz0s, qz0t, qz0u, qz0v, qz0w, qz0x, qz0y, qz0z, qz10, qz11, qz12, qz13, qz14, qz15, qz16, qz17, qz18, qz19, qz1a, qz1b, qz1c, qz1d, qz1e, qz1f, qz1g, qz1h, qz1i, qz1j, qz1k, qz1l, qz1m, qz1n, qz1o, qz1p, qz1q, qz1r, qz1s, qz1t, qz1u, qz1v, qz1w, qz1x, qz1y, qz1z, qz20, qz21, qz22, qz23, qz24, qz25, qz26, qz27, qz28, qz29, qz2a, qz2b, qz2c, qz2d, qz2e, qz2f, qz2g, qz2h, qz2i, qz2j, qz2k, qz2l, qz2m, qz2n, qz2o, qz2p, qz2q, qz2r, qz2s, qz2t, qz2u, qz2v, qz2w, qz2x, qz2y, qz2z, qz30, qz31, qz32, qz33, qz34, qz35, qz36, qz37, qz38, qz39, qz3a, qz3b, qz3c, qz3d, Bool.not_true, Bool.not_false, List.cons_append, List.nil_append, List.append_nil]
          refine o_st1 ez ⟨rfl, rfl, rfl⟩ fun s5 h5 => ?_
          obtain ⟨A5, k5⟩ := done (f k) s5 (by rw [if_pos hkv]) h5
          simp (disch := first | assumption | decide | omega) only [qz3e, qz3f, qz3g, qz3h, qz3i, qz3j, r_onh h32, v_addN, qz00, qz01, qz02, qz03, qz04, qz05, qz06, qz07, qz08, qz09, qz0a, qz0b, qz0c, qz0d, qz0e, qz0f, qz0g, qz0h, qz0i, qz0j, qz0k, qz0l, qz0m, qz0n, qz0o, qz0p, qz0q, qz0r, qz0s, qz0t, qz0u, qz0v, qz0w, qz0x, qz0y, qz0z, qz10, qz11, qz12, qz13, qz14, qz15, qz16, qz17, qz18, qz19, qz1a, qz1b, qz1c, qz1d, qz1e, qz1f, qz1g, qz1h, qz1i, qz1j, qz1k, qz1l, qz1m, qz1n, qz1o, qz1p, qz1q, qz1r, qz1s, qz1t, qz1u, qz1v, qz1w, qz1x, qz1y, qz1z, qz20, qz21, qz22, qz23, qz24, qz25, qz26, qz27, qz28, qz29, qz2a, qz2b, qz2c, qz2d, qz2e, qz2f, qz2g, qz2h, qz2i, qz2j, qz2k, qz2l, qz2m, qz2n, qz2o, qz2p, qz2q, qz2r, qz2s, qz2t, qz2u, qz2v, qz2w, qz2x, qz2y, qz2z, qz30, qz31, qz32, qz33, qz34, qz35, qz36, qz37, qz38, qz39, qz3a, qz3b, qz3c, qz3d, Bool.not_true, Bool.not_false, List.cons_append, List.nil_append, List.append_nil]
          refine ⟨G.inputs.length - (k + 1), by omega, k + 1, by omega, rfl, k5, A5, ?_⟩
          rw [eQ]
          simp (disch := decide) only [z0, z1, h_here, h_skip, h0, h1', h2', h8, h30, h31, true_and, and_true]
        · simp (disch := first | assumption | decide | omega) only [qz3e, qz3f, qz3g, qz3h, qz3i, qz3j, r_onh h0, r_onh h1', r_onh h2', r_onh h8, r_onh h30, r_onh h31, r_onh h32, eb, eb2, qz00, qz01, qz02, qz03, qz04, qz05, qz06, qz07, qz08, qz09, qz0a, qz0b, qz0c, qz0d, qz0e, qz0f, qz0g, qz0h, qz0i, qz0j, qz0k, qz0l, qz0m, qz0n, qz0o, qz0p, qz0q, qz0r, qz0s, qz0t, qz0u, qz0v, qz0w, qz0x, qz0y, qz0z, qz10, qz11, qz12, qz13, qz14, qz15, qz16, qz17, qz18, qz19, qz1a, qz1b, qz1c, qz1d, qz1e, qz1f, qz1g, qz1h, qz1i, qz1j, qz1k, qz1l, qz1m, qz1n, qz1o, qz1p, qz1q, qz1r, qz1s, qz1t, qz1u, qz1v, qz1w, qz1x, qz1y, qz1z, qz20, qz21, qz22, qz23, qz24, qz25, qz26, qz27, qz28, qz29, qz2a, qz2b, qz2c, qz2d, qz2e, qz2f, qz2g, qz2h, qz2i, qz2j, qz2k, qz2l, qz2m, qz2n, qz2o, qz2p, qz2q, qz2r, qz2s, qz2t, qz2u, qz2v, qz2w, qz2x, qz2y, qz2z, qz30, qz31, qz32, qz33, qz34, qz35, qz36, qz37, qz38, qz39, qz3a, qz3b, qz3c, qz3d, Bool.not_true, Bool.not_false, List.cons_append, List.nil_append, List.append_nil]
          refine o_st1 ez ⟨rfl, rfl, rfl⟩ fun s5 h5 => ?_
          obtain ⟨A5, k5⟩ := done false s5 (by rw [if_neg hkv]) h5
          simp (disch := first | assumption | decide | omega) only [qz3e, qz3f, qz3g, qz3h, qz3i, qz3j, r_onh h32, v_addN, qz00, qz01, qz02, qz03, qz04, qz05, qz06, qz07, qz08, qz09, qz0a, qz0b, qz0c, qz0d, qz0e, qz0f, qz0g, qz0h, qz0i, qz0j, qz0k, qz0l, qz0m, qz0n, qz0o, qz0p, qz0q, qz0r, qz0s, qz0t, qz0u, qz0v, qz0w, qz0x, qz0y, qz0z, qz10, qz11, qz12, qz13, qz14, qz15, qz16, qz17, qz18, qz19, qz1a, qz1b, qz1c, qz1d, qz1e, qz1f, qz1g, qz1h, qz1i, qz1j, qz1k, qz1l, qz1m, qz1n, qz1o, qz1p, qz1q, qz1r, qz1s, qz1t, qz1u, qz1v, qz1w, qz1x, qz1y, qz1z, qz20, qz21, qz22, qz23, qz24, qz25, qz26, qz27, qz28, qz29, qz2a, qz2b, qz2c, qz2d, qz2e, qz2f, qz2g, qz2h, qz2i, qz2j, qz2k, qz2l, qz2m, qz2n, qz2o, qz2p, qz2q, qz2r, qz2s, qz2t, qz2u, qz2v, qz2w, qz2x, qz2y, qz2z, qz30, qz31, qz32, qz33, qz34, qz35, qz36, qz37, qz38, qz39, qz3a, qz3b, qz3c, qz3d, Bool.not_true, Bool.not_false, List.cons_append, List.nil_append, List.append_nil]
          refine ⟨G.inputs.length - (k + 1), by omega, k + 1, by omega, rfl, k5, A5, ?_⟩
          rw [eQ]
          simp (disch := decide) only [z0, z1, h_here, h_skip, h0, h1', h2', h8, h30, h31, true_and, and_true]
    · have hk' : k = G.inputs.length := by omega
      subst hk'
      have e7 : 0 < rlen s.h g := by rw [Gs.glen]; decide
      have e8 := Gs.g0
      rw [hNN] at e8
      simp (disch := first | assumption | decide | omega) only [qz3e, qz3f, qz3g, qz3h, qz3i, qz3j, r_onh h0, r_onh h1', r_onh h2', r_onh h8, r_onh h30, r_onh h31, r_onh h32, e8, Nat.add_zero, qz00, qz01, qz02, qz03, qz04, qz05, qz06, qz07, qz08, qz09, qz0a, qz0b, qz0c, qz0d, qz0e, qz0f, qz0g, qz0h, qz0i, qz0j, qz0k, qz0l, qz0m, qz0n, qz0o, qz0p, qz0q, qz0r, qz0s, qz0t, qz0u, qz0v, qz0w, qz0x, qz0y, qz0z, qz10, qz11, qz12, qz13, qz14, qz15, qz16, qz17, qz18, qz19, qz1a, qz1b, qz1c, qz1d, qz1e, qz1f, qz1g, qz1h, qz1i, qz1j, qz1k, qz1l, qz1m, qz1n, qz1o, qz1p, qz1q, qz1r, qz1s, qz1t, qz1u, qz1v, qz1w, qz1x, qz1y, qz1z, qz20, qz21, qz22, qz23, qz24, qz25, qz26, qz27, qz28, qz29, qz2a, qz2b, qz2c, qz2d, qz2e, qz2f, qz2g, qz2h, qz2i, qz2j, qz2k, qz2l, qz2m, qz2n, qz2o, qz2p, qz2q, qz2r, qz2s, qz2t, qz2u, qz2v, qz2w, qz2x, qz2y, qz2z, qz30, qz31, qz32, qz33, qz34, qz35, qz36, qz37, qz38, qz39, qz3a, qz3b, qz3c, qz3d, Bool.not_true, Bool.not_false, List.cons_append, List.nil_append, List.append_nil]
      generalize hin : inpR G.inputs nv f G.inputs.length = inp at A hK
      refine wC_loopH (fun mm L s' => ∃ k : Nat, k ≤ N ∧ mm = N - k ∧ Kept t s' ∧ AllB s' t.nx s2.nx N (zz inp G.parts k) ∧ Has L 2 (.slice b o n c 1 x) ∧ Has L 8 (.ptr s2.nx 0) ∧ Has L 11 (.fn 42 [.ptr s2.nx 0]) ∧ Has L 56 (.slice p 0 N N 2 ex) ∧ Has L 57 (.int .i64 (N : Int)) ∧ Has L 58 (.int .i64 (k : Int))) ?_ N ?_
      · rintro mm L2 s' ⟨k, hk, rfl, ks, A, i2, i8, i11, i56, i57, i58⟩
        unfold Hold
        have Gs : GM s'.h s'.nx g p q m ex G := G1.keep ks.keep ks.nx
        by_cases hkN : k < N
        · have ea : 0 + k * 2 + 2 ≤ rlen s'.h p := by have := Gs.plen; omega
          obtain ⟨eb, ec⟩ := Gs.pat k (by omega)
          have eb' : rat s'.h p (0 + k * 2) = .int .u32 ((G.parts.getD k (0, 0)).1 : Int) := by rw [show 0 + k * 2 = 2 * k by omega]; exact eb
          have ec' : rat s'.h p (0 + k * 2 + 1) = .int .u32 ((G.parts.getD k (0, 0)).2 : Int) := by rw [show 0 + k * 2 + 1 = 2 * k + 1 by omega]; exact ec
          have hdown := hok.down k (by omega)
          have hzin := vals_in (inp := inp) (l := G.parts) (k := k) (by omega)
          have hzand := vals_and (inp := inp) (l := G.parts) (k := k) (by omega)
          generalize G.parts.getD k (0, 0) = pr at eb' ec' hdown hzin hzand
          have ed : onER (ldAV 2 (.ptr p (0 + k * 2)) s') = fun K => K (.agg [.int .u32 (pr.1 : Int), .int .u32 (pr.2 : Int)]) s' := by
            funext K; rw [v_ldA2 ea, eb', ec']
          simp (disch := first | assumption | decide | omega) only [qz3e, qz3f, qz3g, qz3h, qz3i, qz3j, r_onh i2, r_onh i8, r_onh i11, r_onh i56, r_onh i57, r_onh i58, ed, qz00, qz01, qz02, qz03, qz04, qz05, qz06, qz07, qz08, qz09, qz0a, qz0b, qz0c, qz0d, qz0e, qz0f, qz0g, qz0h, qz0i, qz0j, qz0k, qz0l, qz0m, qz0n, qz0o, qz0p, qz0q, qz0r, qz0s, qz0t, qz0u, qz0v, qz0w, qz0x, qz0y, qz0z, qz10, qz11, qz12, qz13, qz14, qz15, qz16, qz17, qz18, qz19, qz1a, qz1b, qz1c, qz1d, qz1e, qz1f, qz1g, qz1h, qz1i, qz1j, qz1k, qz1l, qz1m, qz1n, qz1o, qz1p, qz1q, qz1r, qz1s, qz1t, qz1u, qz1v, qz1w, qz1x, qz1y, qz1z, qz20, qz21, qz22, qz23, qz24, qz25, qz26, qz27, qz28, qz29, qz2a, qz2b, qz2c, qz2d, qz2e, qz2f, qz2g, qz2h, qz2i, qz2j, qz2k, qz2l, qz2m, qz2n, qz2o, qz2p, qz2q, qz2r, qz2s, qz2t, qz2u, qz2v, qz2w, qz2x, qz2y, qz2z, qz30, qz31, qz32, qz33, qz34, qz35, qz36, qz37, qz38, qz39, qz3a, qz3b, qz3c, qz3d, Bool.not_true, Bool.not_false, List.cons_append, List.nil_append, List.append_nil]
          refine o_new fun s5 h5 => ?_
          simp (disch := first | assumption | decide | omega) only [qz3e, qz3f, qz3g, qz3h, qz3i, qz3j, qz00, qz01, qz02, qz03, qz04, qz05, qz06, qz07, qz08, qz09, qz0a, qz0b, qz0c, qz0d, qz0e, qz0f, qz0g, qz0h, qz0i, qz0j, qz0k, qz0l, qz0m, qz0n, qz0o, qz0p, qz0q, qz0r, qz0s, qz0t, qz0u, qz0v, qz0w, qz0x, qz0y, qz0z, qz10, qz11, qz12, qz13, qz14, qz15, qz16, qz17, qz18, qz19, qz1a, qz1b, qz1c, qz1d, qz1e, qz1f, qz1g, qz1h, qz1i, qz1j, qz1k, qz1l, qz1m, qz1n, qz1o, qz1p, qz1q, qz1r, qz1s, qz1t, qz1u, qz1v, qz1w, qz1x, qz1y, qz1z, qz20, qz21, qz22, qz23, qz24, qz25, qz26, qz27, qz28, qz29, qz2a, qz2b, qz2c, qz2d, qz2e, qz2f, qz2g, qz2h, qz2i, qz2j, qz2k, qz2l, qz2m, qz2n, qz2o, qz2p, qz2q, qz2r, qz2s, qz2t, qz2u, qz2v, qz2w, qz2x, qz2y, qz2z, qz30, qz31, qz32, qz33, qz34, qz35, qz36, qz37, qz38, qz39, qz3a, qz3b, qz3c, qz3d, Bool.not_true, Bool.not_false, List.cons_append, List.nil_append, List.append_nil]
          have l5 : rlen s5.h s'.nx = 2 := h5.len
          refine o_st2 (by rw [l5]; decide) rfl rfl fun s6 n6 f6 k6 r6 a6 c6 => ?_
          have ef : onER (ldAV 2 (.ptr s'.nx 0) s6) = fun K => K (.agg [.int .u32 (pr.1 : Int), .int .u32 (pr.2 : Int)]) s6 := by
            funext K; rw [v_ldA2 (by rw [r6, l5]; decide), a6, c6]
          have n5 := h5.nx
          have k56 : Kept s' s6 := ⟨by omega, f6.trans h5.fr, fun c hc => (k6 c (by omega)).trans (h5.keep c (by omega))⟩
          have ks6 := ks.trans k56
          have A6 := A.kept k56
          have ksn := ks.nx
          have lt6 : s'.nx < s6.nx := by omega
          have r6' : rlen s6.h s'.nx = 2 := r6.trans l5
          have en : ∀ K : AV → Ev.St → Prop, onER (genV Try.prog .neq 81 false (.agg [.int .u32 (pr.1 : Int), .int .u32 (pr.2 : Int)]) (.agg [.int .u32 0, .int .u32 0]) s6) K = K (.bool (decide (pr ≠ (0, 0)))) s6 := fun K => neq81 pr (0, 0) s6 K
          by_cases hz : pr = (0, 0)
          · have en' : decide (pr ≠ (0, 0)) = false := by simp [hz]
            rw [en'] at en
            simp (disch := first | assumption | decide | omega) only [qz3e, qz3f, qz3g, qz3h, qz3i, qz3j, r_onh i58, ef, en, v_addN, qz00, qz01, qz02, qz03, qz04, qz05, qz06, qz07, qz08, qz09, qz0a, qz0b, qz0c, qz0d, qz0e, qz0f, qz0g, qz0h, qz0i, qz0j, qz0k, qz0l, qz0m, qz0n, qz0o, qz0p, qz0q, qz0r, qz0s, qz0t, qz0u, qz0v, qz0w, qz0x, qz0y, qz0z, qz10, qz11, qz12, qz13, qz14, qz15, qz16, qz17, qz18, qz19, qz1a, qz1b, qz1c, qz1d, qz1e, qz1f, qz1g, qz1h, qz1i, qz1j, qz1k, qz1l, qz1m, qz1n, qz1o, qz1p, qz1q, qz1r, qz1s, qz1t, qz1u, qz1v, qz1w, qz1x, qz1y, qz1z, qz20, qz21, qz22, qz23, qz24, qz25, qz26, qz27, qz28, qz29, qz2a, qz2b, qz2c, qz2d, qz2e, qz2f, qz2g, qz2h, qz2i, qz2j, qz2k, qz2l, qz2m, qz2n, qz2o, qz2p, qz2q, qz2r, qz2s, qz2t, qz2u, qz2v, qz2w, qz2x, qz2y, qz2z, qz30, qz31, qz32, qz33, qz34, qz35, qz36, qz37, qz38, qz39, qz3a, qz3b, qz3c, qz3d, Bool.not_true, Bool.not_false, List.cons_append, List.nil_append, List.append_nil]
            refine ⟨N - (k + 1), by omega, k + 1, by omega, rfl, ks6, A6.eq fun j hj => ?_, ?_⟩
            · unfold zz
              by_cases hjk : j = k
              · rw [if_neg (by omega), if_pos (by omega), hjk]; exact (hzin hz).symm
              · by_cases hjk2 : j < k
                · rw [if_pos hjk2, if_pos (by omega)]
                · rw [if_neg hjk2, if_neg (by omega)]
            · simp (disch := decide) only [z0, z1, h_here, h_skip, i2, i8, i11, i56, i57, true_and, and_true]
          · have en' : decide (pr ≠ (0, 0)) = true := by simp [hz]
            rw [en'] at en
            obtain ⟨d1, d2⟩ := hdown hz
            have A6 : AllB s6 t.nx s2.nx N (zz inp G.parts k) := A6
            have eb1 : 0 < rlen s6.h s2.nx := by rw [A6.blen]; decide
            have eb2 := A6.box
            have eq1 := same50 (b := s2.nx) (o := 0) eb1 eb2
            have ep1 : 0 < rlen s6.h s'.nx := by omega
            have ep2 : 1 < rlen s6.h s'.nx := by omega
            simp (disch := first | assumption | decide | omega) only [qz3e, qz3f, qz3g, qz3h, qz3i, qz3j, r_onh i8, r_onh i11, r_onh i58, ef, en, qz3k, qz3l, qz3m, qz3n, qz3o, qz3p, qz3q, qz3r, qz3s, r_vlg, r_vlgs, r_vlh i8, qz3t, qz3w, qz3x, eb2, a6, true_and, qz00, qz01, qz02, qz03, qz04, qz05, qz06, qz07, qz08, qz09, qz0a, qz0b, qz0c, qz0d, qz0e, qz0f, qz0g, qz0h, qz0i, qz0j, qz0k, qz0l, qz0m, qz0n, qz0o, qz0p, qz0q, qz0r, qz0s, qz0t, qz0u, qz0v, qz0w, qz0x, qz0y, qz0z, qz10, qz11, qz12, qz13, qz14, qz15, qz16, qz17, qz18, qz19, qz1a, qz1b, qz1c, qz1d, qz1e, qz1f, qz1g, qz1h, qz1i, qz1j, qz1k, qz1l, qz1m, qz1n, qz1o, qz1p, qz1q, qz1r, qz1s, qz1t, qz1u, qz1v, qz1w, qz1x, qz1y, qz1z, qz20, qz21, qz22, qz23, qz24, qz25, qz26, qz27, qz28, qz29, qz2a, qz2b, qz2c, qz2d, qz2e, qz2f, qz2g, qz2h, qz2i, qz2j, qz2k, qz2l, qz2m, qz2n, qz2o, qz2p, qz2q, qz2r, qz2s, qz2t, qz2u, qz2v, qz2w, qz2x, qz2y, qz2z, qz30, qz31, qz32, qz33, qz34, qz35, qz36, qz37, qz38, qz39, qz3a, qz3b, qz3c, qz3d, Bool.not_true, Bool.not_false, List.cons_append, List.nil_append, List.append_nil]
            have hs : ∀ y, y / 2 < k → (zz inp G.parts k (y / 2) != (y % 2 == 1)) = ev inp G.parts y := fun y hy => by unfold zz; rw [if_pos hy]; rfl
            refine saysG_ok (fun a s => hb _ a s (by simp)) (by omega) hN s6 A6 _ ?_
            rw [hs _ d1]
            have fin : ∀ (s7 : Ev.St), Wrote s6 s7 t.nx (0 + k * 1) (.bool (ev inp G.parts pr.1 && ev inp G.parts pr.2)) → AllB s7 t.nx s2.nx N (zz inp G.parts (k + 1)) ∧ Kept t s7 := fun s7 w =>
              ⟨(A6.put w).eq fun j hj => by
                unfold zz
                by_cases hjk : j = k
                · rw [if_pos hjk, if_pos (by omega), hjk]; exact (hzand hz d1 d2).symm
                · rw [if_neg hjk]
                  by_cases hjk2 : j < k
                  · rw [if_pos hjk2, if_pos (by omega)]
                  · rw [if_neg hjk2, if_neg (by omega)], ks6.wrote w (Nat.le_refl _)⟩
            have ew : 0 + k * 1 < rlen s6.h t.nx := by rw [A6.len]; omega
            cases hu1 : ev inp G.parts pr.1 with
            | false =>
              rw [hu1] at fin
              simp (disch := first | assumption | decide | omega) only [qz3e, qz3f, qz3g, qz3h, qz3i, qz3j, r_onh i58, qz3k, qz3l, qz3m, qz3n, qz3o, qz3p, qz3q, qz3r, qz3s, r_vlg, r_vlgs, qz3t, r_heldw4, r_heldw9, qz3w, qz3x, true_and, cond_true, eq1, qz00, qz01, qz02, qz03, qz04, qz05, qz06, qz07, qz08, qz09, qz0a, qz0b, qz0c, qz0d, qz0e, qz0f, qz0g, qz0h, qz0i, qz0j, qz0k, qz0l, qz0m, qz0n, qz0o, qz0p, qz0q, qz0r, qz0s, qz0t, qz0u, qz0v, qz0w, qz0x, qz0y, qz0z, qz10, qz11, qz12, qz13, qz14, qz15, qz16, qz17, qz18, qz19, qz1a, qz1b, qz1c, qz1d, qz1e, qz1f, qz1g, qz1h, qz1i, qz1j, qz1k, qz1l, qz1m, qz1n, qz1o, qz1p, qz1q, qz1r, qz1s, qz1t, qz1u, qz1v, qz1w, qz1x, qz1y, qz1z, qz20, qz21, qz22, qz23, qz24, qz25, qz26, qz27, qz28, qz29, qz2a, qz2b, qz2c, qz2d, qz2e, qz2f, qz2g, qz2h, qz2i, qz2j, qz2k, qz2l, qz2m, qz2n, qz2o, qz2p, qz2q, qz2r, qz2s, qz2t, qz2u, qz2v, qz2w, qz2x, qz2y, qz2z, qz30, qz31, qz32, qz33, qz34, qz35, qz36, qz37, qz38, qz39, qz3a, qz3b, qz3c, qz3d, Bool.not_true, Bool.not_false, List.cons_append, List.nil_append, List.append_nil]
              refine o_st1 ew ⟨rfl, rfl, rfl⟩ fun s7 h7 => ?_
              obtain ⟨A7, k7⟩ := fin s7 h7
              simp (disch := first | assumption | decide | omega) only [qz3e, qz3f, qz3g, qz3h, qz3i, qz3j, r_onh i58, qz3k, qz3l, qz3m, qz3n, qz3o, qz3p, qz3q, qz3r, qz3s, r_vlg, r_vlgs, qz3t, r_heldw4, r_heldw9, qz3w, qz3x, true_and, cond_true, v_addN, qz00, qz01, qz02, qz03, qz04, qz05, qz06, qz07, qz08, qz09, qz0a, qz0b, qz0c, qz0d, qz0e, qz0f, qz0g, qz0h, qz0i, qz0j, qz0k, qz0l, qz0m, qz0n, qz0o, qz0p, qz0q, qz0r, qz0s, qz0t, qz0u, qz0v, qz0w, qz0x, qz0y, qz0z, qz10, qz11, qz12, qz13, qz14, qz15, qz16, qz17, qz18, qz19, qz1a, qz1b, qz1c, qz1d, qz1e, qz1f, qz1g, qz1h, qz1i, qz1j, qz1k, qz1l, qz1m, qz1n, qz1o, qz1p, qz1q, qz1r, qz1s, qz1t, qz1u, qz1v, qz1w, qz1x, qz1y, qz1z, qz20, qz21, qz22, qz23, qz24, qz25, qz26, qz27, qz28, qz29, qz2a, qz2b, qz2c, qz2d, qz2e, qz2f, qz2g, qz2h, qz2i, qz2j, qz2k, qz2l, qz2m, qz2n, qz2o, qz2p, qz2q, qz2r, qz2s, qz2t, qz2u, qz2v, qz2w, qz2x, qz2y, qz2z, qz30, qz31, qz32, qz33, qz34, qz35, qz36, qz37, qz38, qz39, qz3a, qz3b, qz3c, qz3d, Bool.not_true, Bool.not_false, List.cons_append, List.nil_append, List.append_nil]
              refine ⟨N - (k + 1), by omega, k + 1, by omega, rfl, k7, A7, ?_⟩
              simp (disch := decide) only [z0, z1, h_here, h_skip, i2, i8, i11, i56, i57, true_and, and_true]
            | true =>
              rw [hu1] at fin
              simp (disch := first | assumption | decide | omega) only [qz3e, qz3f, qz3g, qz3h, qz3i, qz3j, r_onh i11, r_onh i58, qz3k, qz3l, qz3m, qz3n, qz3o, qz3p, qz3q, qz3r, qz3s, r_vlg, r_vlgs, qz3t, r_heldw4, r_heldw9, qz3w, qz3x, true_and, cond_true, eq1, c6, qz00, qz01, qz02, qz03, qz04, qz05, qz06, qz07, qz08, qz09, qz0a, qz0b, qz0c, qz0d, qz0e, qz0f, qz0g, qz0h, qz0i, qz0j, qz0k, qz0l, qz0m, qz0n, qz0o, qz0p, qz0q, qz0r, qz0s, qz0t, qz0u, qz0v, qz0w, qz0x, qz0y, qz0z, qz10, qz11, qz12, qz13, qz14, qz15, qz16, qz17, qz18, qz19, qz1a, qz1b, qz1c, qz1d, qz1e, qz1f, qz1g, qz1h, qz1i, qz1j, qz1k, qz1l, qz1m, qz1n, qz1o, qz1p, qz1q, qz1r, qz1s, qz1t, qz1u, qz1v, qz1w, qz1x, qz1y, qz1z, qz20, qz21, qz22, qz23, qz24, qz25, qz26, qz27, qz28, qz29, qz2a, qz2b, qz2c, qz2d, qz2e, qz2f, qz2g, qz2h, qz2i, qz2j, qz2k, qz2l, qz2m, qz2n, qz2o, qz2p, qz2q, qz2r, qz2s, qz2t, qz2u, qz2v, qz2w, qz2x, qz2y, qz2z, qz30, qz31, qz32, qz33, qz34, qz35, qz36, qz37, qz38, qz39, qz3a, qz3b, qz3c, qz3d, Bool.not_true, Bool.not_false, List.cons_append, List.nil_append, List.append_nil]
              refine saysG_ok (fun a s => hb _ a s (by simp)) (by omega) hN s6 A6 _ ?_
              rw [hs _ d2]
              generalize ev inp G.parts pr.2 = u2 at fin
              simp (disch := first | assumption | decide | omega) only [qz3e, qz3f, qz3g, qz3h, qz3i, qz3j, r_onh i58, qz3k, qz3l, qz3m, qz3n, qz3o, qz3p, qz3q, qz3r, qz3s, r_vlg, r_vlgs, qz3t, r_heldw4, r_heldw9, qz3w, qz3x, true_and, cond_true, eq1, qz00, qz01, qz02, qz03, qz04, qz05, qz06, qz07, qz08, qz09, qz0a, qz0b, qz0c, qz0d, qz0e, qz0f, qz0g, qz0h, qz0i, qz0j, qz0k, qz0l, qz0m, qz0n, qz0o, qz0p, qz0q, qz0r, qz0s, qz0t, qz0u, qz0v, qz0w, qz0x, qz0y, qz0z, qz10, qz11, qz12, qz13, qz14, qz15, qz16, qz17, qz18, qz19, qz1a, qz1b, qz1c, qz1d, qz1e, qz1f, qz1g, qz1h, qz1i, qz1j, qz1k, qz1l, qz1m, qz1n, qz1o, qz1p, qz1q, qz1r, qz1s, qz1t, qz1u, qz1v, qz1w, qz1x, qz1y, qz1z, qz20, qz21, qz22, qz23, qz24, qz25, qz26, qz27, qz28, qz29, qz2a, qz2b, qz2c, qz2d, qz2e, qz2f, qz2g, qz2h, qz2i, qz2j, qz2k, qz2l, qz2m, qz2n, qz2o, qz2p, qz2q, qz2r, qz2s, qz2t, qz2u, qz2v, qz2w, qz2x, qz2y, qz2z, qz30, qz31, qz32, qz33, qz34, qz35, qz36, qz37, qz38, qz39, qz3a, qz3b, qz3c, qz3d, Bool.not_true, Bool.not_false, List.cons_append, List.nil_append, List.append_nil]
              refine o_st1 ew ⟨rfl, rfl, rfl⟩ fun s7 h7 => ?_
              obtain ⟨A7, k7⟩ := fin s7 h7
              simp (disch := first | assumption | decide | omega) only [qz3e, qz3f, qz3g, qz3h, qz3i, qz3j, r_onh i58, qz3k, qz3l, qz3m, qz3n, qz3o, qz3p, qz3q, qz3r, qz3s, r_vlg, r_vlgs, qz3t, r_heldw4, r_heldw9, qz3w, qz3x, true_and, cond_true, v_addN, qz00, qz01, qz02, qz03, qz04, qz05, qz06, qz07, qz08, qz09, qz0a, qz0b, qz0c, qz0d, qz0e, qz0f, qz0g, qz0h, qz0i, qz0j, qz0k, qz0l, qz0m, qz0n, qz0o, qz0p, qz0q, qz0r, qz0s, qz0t, qz0u, qz0v, qz0w, qz0x, qz0y, qz0z, qz10, qz11, qz12, qz13, qz14, qz15, qz16, qz17, qz18, qz19, qz1a, qz1b, qz1c, qz1d, qz1e, qz1f, qz1g, qz1h, qz1i, qz1j, qz1k, qz1l, qz1m, qz1n, qz1o, qz1p, qz1q, qz1r, qz1s, qz1t, qz1u, qz1v, qz1w, qz1x, qz1y, qz1z, qz20, qz21, qz22, qz23, qz24, qz25, qz26, qz27, qz28, qz29, qz2a, qz2b, qz2c, qz2d, qz2e, qz2f, qz2g, qz2h, qz2i, qz2j, qz2k, qz2l, qz2m, qz2n, qz2o, qz2p, qz2q, qz2r, qz2s, qz2t, qz2u, qz2v, qz2w, qz2x, qz2y, qz2z, qz30, qz31, qz32, qz33, qz34, qz35, qz36, qz37, qz38, qz39, qz3a, qz3b, qz3c, qz3d, Bool.not_true, Bool.not_false, List.cons_append, List.nil_append, List.append_nil]
              refine ⟨N - (k + 1), by omega, k + 1, by omega, rfl, k7, A7, ?_⟩
              simp (disch := decide) only [z0, z1, h_here, h_skip, i2, i8, i11, i56, i57, true_and, and_true]
        · have hk' : k = N := by omega
          subst hk'
          simp (disch := first | assumption | decide | omega) only [qz3e, qz3f, qz3g, qz3h, qz3i, qz3j, r_onh i2, r_onh i8, r_onh i11, r_onh i56, r_onh i57, r_onh i58, qz00, qz01, qz02, qz03, qz04, qz05, qz06, qz07, qz08, qz09, qz0a, qz0b, qz0c, qz0d, qz0e, qz0f, qz0g, qz0h, qz0i, qz0j, qz0k, qz0l, qz0m, qz0n, qz0o, qz0p, qz0q, qz0r, qz0s, qz0t, qz0u, qz0v, qz0w, qz0x, qz0y, qz0z, qz10, qz11, qz12, qz13, qz14, qz15, qz16, qz17, qz18, qz19, qz1a, qz1b, qz1c, qz1d, qz1e, qz1f, qz1g, qz1h, qz1i, qz1j, qz1k, qz1l, qz1m, qz1n, qz1o, qz1p, qz1q, qz1r, qz1s, qz1t, qz1u, qz1v, qz1w, qz1x, qz1y, qz1z, qz20, qz21, qz22, qz23, qz24, qz25, qz26, qz27, qz28, qz29, qz2a, qz2b, qz2c, qz2d, qz2e, qz2f, qz2g, qz2h, qz2i, qz2j, qz2k, qz2l, qz2m, qz2n, qz2o, qz2p, qz2q, qz2r, qz2s, qz2t, qz2u, qz2v, qz2w, qz2x, qz2y, qz2z, qz30, qz31, qz32, qz33, qz34, qz35, qz36, qz37, qz38, qz39, qz3a, qz3b, qz3c, qz3d, Bool.not_true, Bool.not_false, List.cons_append, List.nil_append, List.append_nil]
          refine o_mkS (l := 0) (c := n) (by omega) (by omega) (by omega) fun s6 h6 => ?_
          have n6 : s6.nx = s'.nx + 1 := h6.nx
          have l6 : rlen s6.h s'.nx = n := h6.len.trans (Nat.mul_one n)
          have k6 : Kept s' s6 := (Kept.refl s').made h6
          simp (disch := first | assumption | decide | omega) only [qz3e, qz3f, qz3g, qz3h, qz3i, qz3j, r_onh i2, r_onh i11, qz00, qz01, qz02, qz03, qz04, qz05, qz06, qz07, qz08, qz09, qz0a, qz0b, qz0c, qz0d, qz0e, qz0f, qz0g, qz0h, qz0i, qz0j, qz0k, qz0l, qz0m, qz0n, qz0o, qz0p, qz0q, qz0r, qz0s, qz0t, qz0u, qz0v, qz0w, qz0x, qz0y, qz0z, qz10, qz11, qz12, qz13, qz14, qz15, qz16, qz17, qz18, qz19, qz1a, qz1b, qz1c, qz1d, qz1e, qz1f, qz1g, qz1h, qz1i, qz1j, qz1k, qz1l, qz1m, qz1n, qz1o, qz1p, qz1q, qz1r, qz1s, qz1t, qz1u, qz1v, qz1w, qz1x, qz1y, qz1z, qz20, qz21, qz22, qz23, qz24, qz25, qz26, qz27, qz28, qz29, qz2a, qz2b, qz2c, qz2d, qz2e, qz2f, qz2g, qz2h, qz2i, qz2j, qz2k, qz2l, qz2m, qz2n, qz2o, qz2p, qz2q, qz2r, qz2s, qz2t, qz2u, qz2v, qz2w, qz2x, qz2y, qz2z, qz30, qz31, qz32, qz33, qz34, qz35, qz36, qz37, qz38, qz39, qz3a, qz3b, qz3c, qz3d, Bool.not_true, Bool.not_false, List.cons_append, List.nil_append, List.append_nil]
          refine wC_loopH (fun mm L s7 => ∃ j : Nat, j ≤ n ∧ mm = n - j ∧ Kept s' s7 ∧ s'.nx < s7.nx ∧ rlen s7.h s'.nx = n ∧ (∀ i, i < j → rat s7.h s'.nx i = .bool (ev inp G.parts (a i))) ∧ Has L 11 (.fn 42 [.ptr s2.nx 0]) ∧ Has L 14 (.slice s'.nx 0 j n 1 true) ∧ Has L 83 (.slice b o n c 1 x) ∧ Has L 84 (.int .i64 (n : Int)) ∧ Has L 85 (.int .i64 (j : Int))) ?_ n ?_
          · rintro mm L s7 ⟨j, hj, rfl, k7, n7, l7, a7, j11, j14, j83, j84, j85⟩
            unfold Hold
            have kk : Kept t s7 := ks.trans k7
            by_cases hjn : j < n
            · have b7 : Row s7 b o n a := R1.keep kk.keep kk.nx
              have e9 : o + j * 1 < rlen s7.h b := by have := b7.2.1; omega
              have e10 : rat s7.h b (o + j * 1) = .int .u32 (a j : Int) := by rw [Nat.mul_one]; exact b7.2.2 j hjn
              have haj : a j / 2 < k := by have : a j / 2 < G.parts.length := ha j hjn; omega
              simp (disch := first | assumption | decide | omega) only [qz3e, qz3f, qz3g, qz3h, qz3i, qz3j, r_onh j11, r_onh j14, r_onh j83, r_onh j84, r_onh j85, e10, qz00, qz01, qz02, qz03, qz04, qz05, qz06, qz07, qz08, qz09, qz0a, qz0b, qz0c, qz0d, qz0e, qz0f, qz0g, qz0h, qz0i, qz0j, qz0k, qz0l, qz0m, qz0n, qz0o, qz0p, qz0q, qz0r, qz0s, qz0t, qz0u, qz0v, qz0w, qz0x, qz0y, qz0z, qz10, qz11, qz12, qz13, qz14, qz15, qz16, qz17, qz18, qz19, qz1a, qz1b, qz1c, qz1d, qz1e, qz1f, qz1g, qz1h, qz1i, qz1j, qz1k, qz1l, qz1m, qz1n, qz1o, qz1p, qz1q, qz1r, qz1s, qz1t, qz1u, qz1v, qz1w, qz1x, qz1y, qz1z, qz20, qz21, qz22, qz23, qz24, qz25, qz26, qz27, qz28, qz29, qz2a, qz2b, qz2c, qz2d, qz2e, qz2f, qz2g, qz2h, qz2i, qz2j, qz2k, qz2l, qz2m, qz2n, qz2o, qz2p, qz2q, qz2r, qz2s, qz2t, qz2u, qz2v, qz2w, qz2x, qz2y, qz2z, qz30, qz31, qz32, qz33, qz34, qz35, qz36, qz37, qz38, qz39, qz3a, qz3b, qz3c, qz3d, Bool.not_true, Bool.not_false, List.cons_append, List.nil_append, List.append_nil]
              refine saysG_ok (fun a s => hb _ a s (by simp)) haj hN s7 (A.kept k7) _ ?_
              have hs : (zz inp G.parts k (a j / 2) != (a j % 2 == 1)) = ev inp G.parts (a j) := by unfold zz; rw [if_pos haj]; rfl
              rw [hs]
              simp (disch := first | assumption | decide | omega) only [qz3e, qz3f, qz3g, qz3h, qz3i, qz3j, qz00, qz01, qz02, qz03, qz04, qz05, qz06, qz07, qz08, qz09, qz0a, qz0b, qz0c, qz0d, qz0e, qz0f, qz0g, qz0h, qz0i, qz0j, qz0k, qz0l, qz0m, qz0n, qz0o, qz0p, qz0q, qz0r, qz0s, qz0t, qz0u, qz0v, qz0w, qz0x, qz0y, qz0z, qz10, qz11, qz12, qz13, qz14, qz15, qz16, qz17, qz18, qz19, qz1a, qz1b, qz1c, qz1d, qz1e, qz1f, qz1g, qz1h, qz1i, qz1j, qz1k, qz1l, qz1m, qz1n, qz1o, qz1p, qz1q, qz1r, qz1s, qz1t, qz1u, qz1v, qz1w, qz1x, qz1y, qz1z, qz20, qz21, qz22, qz23, qz24, qz25, qz26, qz27, qz28, qz29, qz2a, qz2b, qz2c, qz2d, qz2e, qz2f, qz2g, qz2h, qz2i, qz2j, qz2k, qz2l, qz2m, qz2n, qz2o, qz2p, qz2q, qz2r, qz2s, qz2t, qz2u, qz2v, qz2w, qz2x, qz2y, qz2z, qz30, qz31, qz32, qz33, qz34, qz35, qz36, qz37, qz38, qz39, qz3a, qz3b, qz3c, qz3d, Bool.not_true, Bool.not_false, List.cons_append, List.nil_append, List.append_nil]
              refine o_buildS1 ⟨rfl, rfl, rfl⟩ fun s8 h8 => ?_
              simp (disch := first | assumption | decide | omega) only [qz3e, qz3f, qz3g, qz3h, qz3i, qz3j, qz00, qz01, qz02, qz03, qz04, qz05, qz06, qz07, qz08, qz09, qz0a, qz0b, qz0c, qz0d, qz0e, qz0f, qz0g, qz0h, qz0i, qz0j, qz0k, qz0l, qz0m, qz0n, qz0o, qz0p, qz0q, qz0r, qz0s, qz0t, qz0u, qz0v, qz0w, qz0x, qz0y, qz0z, qz10, qz11, qz12, qz13, qz14, qz15, qz16, qz17, qz18, qz19, qz1a, qz1b, qz1c, qz1d, qz1e, qz1f, qz1g, qz1h, qz1i, qz1j, qz1k, qz1l, qz1m, qz1n, qz1o, qz1p, qz1q, qz1r, qz1s, qz1t, qz1u, qz1v, qz1w, qz1x, qz1y, qz1z, qz20, qz21, qz22, qz23, qz24, qz25, qz26, qz27, qz28, qz29, qz2a, qz2b, qz2c, qz2d, qz2e, qz2f, qz2g, qz2h, qz2i, qz2j, qz2k, qz2l, qz2m, qz2n, qz2o, qz2p, qz2q, qz2r, qz2s, qz2t, qz2u, qz2v, qz2w, qz2x, qz2y, qz2z, qz30, qz31, qz32, qz33, qz34, qz35, qz36, qz37, qz38, qz39, qz3a, qz3b, qz3c, qz3d, Bool.not_true, Bool.not_false, List.cons_append, List.nil_append, List.append_nil]
              have hs8 : hget s8.h s'.nx = hget s7.h s'.nx := h8.keep _ (by omega)
              refine o_app1 (by rw [rlen_same hs8, l7]; omega) (by omega) h8.len (h8.cell 0 (by decide)) fun s9 h9 => ?_
              simp (disch := first | assumption | decide | omega) only [qz3e, qz3f, qz3g, qz3h, qz3i, qz3j, r_onh j85, v_addN, qz00, qz01, qz02, qz03, qz04, qz05, qz06, qz07, qz08, qz09, qz0a, qz0b, qz0c, qz0d, qz0e, qz0f, qz0g, qz0h, qz0i, qz0j, qz0k, qz0l, qz0m, qz0n, qz0o, qz0p, qz0q, qz0r, qz0s, qz0t, qz0u, qz0v, qz0w, qz0x, qz0y, qz0z, qz10, qz11, qz12, qz13, qz14, qz15, qz16, qz17, qz18, qz19, qz1a, qz1b, qz1c, qz1d, qz1e, qz1f, qz1g, qz1h, qz1i, qz1j, qz1k, qz1l, qz1m, qz1n, qz1o, qz1p, qz1q, qz1r, qz1s, qz1t, qz1u, qz1v, qz1w, qz1x, qz1y, qz1z, qz20, qz21, qz22, qz23, qz24, qz25, qz26, qz27, qz28, qz29, qz2a, qz2b, qz2c, qz2d, qz2e, qz2f, qz2g, qz2h, qz2i, qz2j, qz2k, qz2l, qz2m, qz2n, qz2o, qz2p, qz2q, qz2r, qz2s, qz2t, qz2u, qz2v, qz2w, qz2x, qz2y, qz2z, qz30, qz31, qz32, qz33, qz34, qz35, qz36, qz37, qz38, qz39, qz3a, qz3b, qz3c, qz3d, Bool.not_true, Bool.not_false, List.cons_append, List.nil_append, List.append_nil]
              have n8 : s8.nx = s7.nx + 1 := h8.nx
              have n9 : s9.nx = s8.nx := h9.nx
              refine ⟨n - (j + 1), by omega, j + 1, by omega, rfl, (k7.made h8).wrote h9 (Nat.le_refl _), by omega, (h9.len.trans (rlen_same hs8)).trans l7, fun i hi => ?_, ?_⟩
              · rw [h9.cell]
                by_cases hjk : i = j
                · rw [if_pos (by omega), hjk]
                · rw [if_neg (by omega), rat_same hs8]; exact a7 i (by omega)
              · simp (disch := decide) only [z0, z1, h_here, h_skip, j11, j83, j84, true_and, and_true]
            · have hkn' : j = n := by omega
              subst hkn'
              simp (disch := first | assumption | decide | omega) only [qz3e, qz3f, qz3g, qz3h, qz3i, qz3j, r_onh j11, r_onh j14, r_onh j83, r_onh j84, r_onh j85, qz00, qz01, qz02, qz03, qz04, qz05, qz06, qz07, qz08, qz09, qz0a, qz0b, qz0c, qz0d, qz0e, qz0f, qz0g, qz0h, qz0i, qz0j, qz0k, qz0l, qz0m, qz0n, qz0o, qz0p, qz0q, qz0r, qz0s, qz0t, qz0u, qz0v, qz0w, qz0x, qz0y, qz0z, qz10, qz11, qz12, qz13, qz14, qz15, qz16, qz17, qz18, qz19, qz1a, qz1b, qz1c, qz1d, qz1e, qz1f, qz1g, qz1h, qz1i, qz1j, qz1k, qz1l, qz1m, qz1n, qz1o, qz1p, qz1q, qz1r, qz1s, qz1t, qz1u, qz1v, qz1w, qz1x, qz1y, qz1z, qz20, qz21, qz22, qz23, qz24, qz25, qz26, qz27, qz28, qz29, qz2a, qz2b, qz2c, qz2d, qz2e, qz2f, qz2g, qz2h, qz2i, qz2j, qz2k, qz2l, qz2m, qz2n, qz2o, qz2p, qz2q, qz2r, qz2s, qz2t, qz2u, qz2v, qz2w, qz2x, qz2y, qz2z, qz30, qz31, qz32, qz33, qz34, qz35, qz36, qz37, qz38, qz39, qz3a, qz3b, qz3c, qz3d, Bool.not_true, Bool.not_false, List.cons_append, List.nil_append, List.append_nil]
              have kt : Kept st.bare s7 := k1.trans kk
              exact hK s'.nx s7.bare ⟨kt.nx, rfl, kt.keep⟩ (Nat.le_trans k1.nx ks.nx) n7 l7 a7
          · refine ⟨0, by omega, rfl, k6, by omega, l6, fun j hj => absurd hj (Nat.not_lt_zero _), ?_⟩
            simp (disch := decide) only [z0, z1, h_here, h_skip, i11, true_and]
      · refine ⟨0, by omega, rfl, ks, A.eq fun i _ => by unfold zz; rw [if_neg (by omega)], ?_⟩
        simp (disch := decide) only [z0, z1, h_here, h_skip, h2', h8, true_and, and_true]
  · refine ⟨0, by omega, rfl, k4, A4, ?_⟩
    simp (disch := decide) only [z0, z1, h_here, h_skip, true_and, and_true]
end Go.Sy
end

section
set_option maxRecDepth 100000
namespace Go.Sy
open Go.Ev Go.Proofs

/-! ### which number some bits are: no program in sight -/
def b2 (b : Bool) : Int := if b = true then 1 else 0
/-- as a number that is not below 0 -/
def unum (A : Nat → Bool) : Nat → Int
  | 0 => 0
  | n + 1 => unum A n + b2 (A n) * 2 ^ n
/-- where the last one counts below 0 -/
def num (A : Nat → Bool) (n : Nat) : Int := unum A n - b2 (A (n - 1)) * 2 ^ n
theorem b2_cases (b : Bool) : b2 b = 0 ∨ b2 b = 1 := by cases b <;> simp [b2]
theorem pow_pos2 (n : Nat) : (0 : Int) < 2 ^ n := Int.pow_pos (by decide)
theorem pow_succ2 (n : Nat) : (2 : Int) ^ (n + 1) = 2 * 2 ^ n := by rw [Int.pow_succ, Int.mul_comm]
theorem unum_bd (A : Nat → Bool) : ∀ n, 0 ≤ unum A n ∧ unum A n < 2 ^ n
  | 0 => by simp [unum]
  | n + 1 => by
    have h := unum_bd A n
    rw [pow_succ2]
    show 0 ≤ unum A n + b2 (A n) * 2 ^ n ∧ unum A n + b2 (A n) * 2 ^ n < 2 * 2 ^ n
    generalize (2 : Int) ^ n = q at h
    rcases b2_cases (A n) with e | e <;> rw [e] <;> omega
theorem num_top (A : Nat → Bool) (n : Nat) : num A (n + 1) = unum A n - b2 (A n) * 2 ^ n := by
  unfold num
  rw [pow_succ2]
  show unum A n + b2 (A n) * 2 ^ n - b2 (A n) * (2 * 2 ^ n) = _
  generalize (2 : Int) ^ n = q
  rcases b2_cases (A n) with e | e <;> rw [e] <;> omega
theorem num_bd (A : Nat → Bool) {n : Nat} (hn : 1 ≤ n) : -(2 ^ (n - 1) : Int) ≤ num A n ∧ num A n < 2 ^ (n - 1) := by
  obtain ⟨k, rfl⟩ : ∃ k, n = k + 1 := ⟨n - 1, by omega⟩
  rw [num_top, Nat.add_sub_cancel]
  have h := unum_bd A k
  generalize (2 : Int) ^ k = q at h
  rcases b2_cases (A k) with e | e <;> rw [e] <;> omega
theorem unum_congr {A B : Nat → Bool} : ∀ {n : Nat}, (∀ i, i < n → A i = B i) → unum A n = unum B n
  | 0, _ => rfl
  | n + 1, h => by
    show unum A n + b2 (A n) * 2 ^ n = unum B n + b2 (B n) * 2 ^ n
    rw [unum_congr (n := n) fun i hi => h i (by omega), h n (by omega)]
theorem num_congr {A B : Nat → Bool} {n : Nat} (hn : 1 ≤ n) (h : ∀ i, i < n → A i = B i) : num A n = num B n := by
  unfold num
  rw [unum_congr h, h (n - 1) (by omega)]
theorem num_more {A : Nat → Bool} {n : Nat} (hn : 1 ≤ n) (h : ∀ i, n ≤ i → A i = A (n - 1)) : ∀ m, n ≤ m → num A m = num A n := by
  intro m hm
  obtain ⟨d, rfl⟩ : ∃ d, m = n + d := ⟨m - n, by omega⟩
  induction d with
  | zero => rfl
  | succ d ih =>
    have e := ih (by omega)
    rw [← e]
    show num A (n + d + 1) = _
    rw [num_top]
    unfold num
    have h1 : A (n + d) = A (n - 1) := h _ (by omega)
    have h2 : A (n + d - 1) = A (n - 1) := by
      by_cases hd : d = 0
      · rw [hd]; rfl
      · exact h _ (by omega)
    rw [h1, h2]
/-- two numbers of so many bits that are the same but for what is cut off -/
theorem num_uniq {n : Nat} {x y k : Int} (hx : -(2 ^ n : Int) ≤ x ∧ x < 2 ^ n) (hy : -(2 ^ n : Int) ≤ y ∧ y < 2 ^ n) (h : x = y + k * 2 ^ (n + 1)) : x = y := by
  rw [pow_succ2] at h
  have hq := pow_pos2 n
  generalize (2 : Int) ^ n = q at *
  have : k = 0 := by
    rcases Int.lt_trichotomy k 0 with hk | hk | hk
    · have : k * (2 * q) ≤ (-1) * (2 * q) := Int.mul_le_mul_of_nonneg_right (by omega) (by omega)
      omega
    · exact hk
    · have : 1 * (2 * q) ≤ k * (2 * q) := Int.mul_le_mul_of_nonneg_right (by omega) (by omega)
      omega
  rw [this] at h
  omega

theorem sum_bit (a b c : Bool) : b2 ((a == b) == c) + 2 * b2 (if (a == b) = true then a else c) = b2 a + b2 b + b2 c := by
  cases a <;> cases b <;> cases c <;> rfl
theorem sbit_unum (A B : Nat → Bool) (c : Bool) : ∀ n, unum (sbit A B c) n + b2 (cr A B c n) * 2 ^ n = unum A n + unum B n + b2 c
  | 0 => by simp [unum, cr]
  | n + 1 => by
    have ih := sbit_unum A B c n
    have e := sum_bit (A n) (B n) (cr A B c n)
    rw [pow_succ2]
    show unum (sbit A B c) n + b2 ((A n == B n) == cr A B c n) * 2 ^ n + b2 (if (A n == B n) = true then A n else cr A B c n) * (2 * 2 ^ n) = unum A n + b2 (A n) * 2 ^ n + (unum B n + b2 (B n) * 2 ^ n) + b2 c
    generalize b2 ((A n == B n) == cr A B c n) = s at *
    generalize b2 (if (A n == B n) = true then A n else cr A B c n) = t at *
    generalize b2 (A n) = a at *
    generalize b2 (B n) = b at *
    generalize b2 (cr A B c n) = d at *
    generalize (2 : Int) ^ n = q at *
    have e2 : (s + 2 * t) * q = (a + b + d) * q := by rw [e]
    rw [Int.add_mul, Int.mul_assoc, Int.add_mul, Int.add_mul] at e2
    rw [Int.mul_left_comm t 2 q]
    omega
theorem num_unum (A : Nat → Bool) (n : Nat) : num A n = unum A n + (-b2 (A (n - 1))) * 2 ^ n := by
  unfold num; rw [Int.neg_mul]; omega
/-- both together, if there is room -/
theorem sbit_num {A B : Nat → Bool} {c : Bool} {n : Nat} (h : -(2 ^ n : Int) ≤ num A (n + 1) + num B (n + 1) + b2 c ∧ num A (n + 1) + num B (n + 1) + b2 c < 2 ^ n) : num (sbit A B c) (n + 1) = num A (n + 1) + num B (n + 1) + b2 c := by
  have e := sbit_unum A B c (n + 1)
  have e1 := num_unum A (n + 1)
  have e2 := num_unum B (n + 1)
  have e3 := num_unum (sbit A B c) (n + 1)
  have hb := num_bd (sbit A B c) (n := n + 1) (by omega)
  rw [Nat.add_sub_cancel] at hb
  refine num_uniq (n := n) (k := -b2 (sbit A B c (n + 1 - 1)) - b2 (cr A B c (n + 1)) + b2 (A (n + 1 - 1)) + b2 (B (n + 1 - 1))) hb h ?_
  generalize b2 (sbit A B c (n + 1 - 1)) = s at *
  generalize b2 (cr A B c (n + 1)) = t at *
  generalize b2 (A (n + 1 - 1)) = a at *
  generalize b2 (B (n + 1 - 1)) = b at *
  generalize (2 : Int) ^ (n + 1) = q at *
  rw [Int.add_mul, Int.add_mul, Int.sub_mul, Int.neg_mul]
  rw [Int.neg_mul] at e1 e2 e3
  omega
theorem b2_not (b : Bool) : b2 (!b) = 1 - b2 b := by cases b <;> rfl
theorem unum_not (A : Nat → Bool) : ∀ n, unum (fun i => !A i) n = 2 ^ n - 1 - unum A n
  | 0 => by simp [unum]
  | n + 1 => by
    have ih := unum_not A n
    show unum (fun i => !A i) n + b2 (!A n) * 2 ^ n = 2 ^ (n + 1) - 1 - (unum A n + b2 (A n) * 2 ^ n)
    rw [ih, pow_succ2, b2_not, Int.sub_mul]
    omega
theorem num_not (A : Nat → Bool) (n : Nat) : num (fun i => !A i) n = -1 - num A n := by
  unfold num
  rw [unum_not, b2_not, Int.sub_mul]
  omega

/-- without a sign: from the lowest place on -/
theorem ltb_unum (A B : Nat → Bool) : ∀ n, ltb A B n = decide (unum A n < unum B n)
  | 0 => by simp [ltb, unum]
  | n + 1 => by
    have ih := ltb_unum A B n
    have ha := unum_bd A n
    have hb := unum_bd B n
    show (if (A n == B n) = true then ltb A B n else B n) = decide (unum A n + b2 (A n) * 2 ^ n < unum B n + b2 (B n) * 2 ^ n)
    rw [ih]
    generalize (2 : Int) ^ n = q at *
    cases A n <;> cases B n <;> simp [b2] <;> omega
theorem unum_swp (n : Nat) (A B : Nat → Bool) : unum (swp (n + 1) A B) (n + 1) = unum A n + b2 (B n) * 2 ^ n := by
  show unum (swp (n + 1) A B) n + b2 (swp (n + 1) A B n) * 2 ^ n = _
  have e1 : unum (swp (n + 1) A B) n = unum A n := unum_congr fun i hi => by unfold swp; rw [if_neg (by omega)]
  have e2 : swp (n + 1) A B n = B n := by unfold swp; rw [if_pos (by omega)]
  rw [e1, e2]
theorem ltb_num {A B : Nat → Bool} {n : Nat} (hn : 1 ≤ n) : ltb (swp n A B) (swp n B A) n = decide (num A n < num B n) := by
  obtain ⟨k, rfl⟩ : ∃ k, n = k + 1 := ⟨n - 1, by omega⟩
  rw [ltb_unum, unum_swp, unum_swp, num_top, num_top]
  generalize b2 (A k) * 2 ^ k = a
  generalize b2 (B k) * 2 ^ k = b
  by_cases h : unum A k + b < unum B k + a
  · rw [decide_eq_true h, decide_eq_true (by omega)]
  · rw [decide_eq_false h, decide_eq_false (by omega)]
theorem conj_unum (A B : Nat → Bool) : ∀ n, conj (fun i => A i == B i) n = decide (unum A n = unum B n)
  | 0 => by simp [conj, unum]
  | n + 1 => by
    have ih := conj_unum A B n
    have ha := unum_bd A n
    have hb := unum_bd B n
    show (conj (fun i => A i == B i) n && (A n == B n)) = decide (unum A n + b2 (A n) * 2 ^ n = unum B n + b2 (B n) * 2 ^ n)
    rw [ih]
    generalize (2 : Int) ^ n = q at *
    cases A n <;> cases B n <;> simp [b2] <;> omega
theorem conj_num {A B : Nat → Bool} {n : Nat} (hn : 1 ≤ n) : conj (fun i => A i == B i) n = decide (num A n = num B n) := by
  obtain ⟨k, rfl⟩ : ∃ k, n = k + 1 := ⟨n - 1, by omega⟩
  have e := conj_unum A B k
  show (conj (fun i => A i == B i) k && (A k == B k)) = _
  rw [e, num_top, num_top]
  have ha := unum_bd A k
  have hb := unum_bd B k
  generalize (2 : Int) ^ k = q at *
  cases A k <;> cases B k <;> simp [b2] <;> omega
end Go.Sy
end

section
set_option maxRecDepth 100000
namespace Go.Sy
open Go.Ev Go.Proofs

theorem b2_and (a b : Bool) : b2 (a && b) = b2 a * b2 b := by cases a <;> cases b <;> rfl
theorem unum_row0 (A : Nat → Bool) (b : Bool) (i : Nat) : ∀ k, k ≤ i → unum (rowB A b i) k = 0
  | 0, _ => rfl
  | k + 1, h => by
    show unum (rowB A b i) k + b2 (rowB A b i k) * 2 ^ k = 0
    rw [unum_row0 A b i k (by omega)]
    have : rowB A b i k = false := by unfold rowB; rw [if_pos (by omega)]
    rw [this]
    show (0 : Int) + 0 * 2 ^ k = 0
    omega
theorem unum_row (A : Nat → Bool) (b : Bool) (i : Nat) : ∀ d, unum (rowB A b i) (i + d) = b2 b * (2 ^ i * unum A d)
  | 0 => by
    rw [unum_row0 A b i (i + 0) (by omega)]
    show (0 : Int) = b2 b * (2 ^ i * 0)
    rw [Int.mul_zero, Int.mul_zero]
  | d + 1 => by
    have ih := unum_row A b i d
    show unum (rowB A b i) (i + d) + b2 (rowB A b i (i + d)) * 2 ^ (i + d) = b2 b * (2 ^ i * (unum A d + b2 (A d) * 2 ^ d))
    have e : rowB A b i (i + d) = (A d && b) := by unfold rowB; rw [if_neg (by omega), Nat.add_sub_cancel_left]
    rw [ih, e, b2_and, Int.pow_add, Int.mul_add, Int.mul_add]
    congr 1
    generalize b2 (A d) = x
    generalize b2 b = y
    generalize (2 : Int) ^ i = p
    generalize (2 : Int) ^ d = q
    rw [Int.mul_comm x y, Int.mul_assoc, ← Int.mul_assoc x p q, Int.mul_comm x p, Int.mul_assoc p x q]
/-- a row is the number at its place, but for what is cut off -/
theorem row_mod {A : Nat → Bool} {n w i : Nat} (b : Bool) (hn : 1 ≤ n) (hA : ∀ i, n ≤ i → A i = A (n - 1)) (hw : n + i ≤ w) : ∃ k, unum (rowB A b i) w = b2 b * (2 ^ i * num A n) + k * 2 ^ w := by
  obtain ⟨d, rfl⟩ : ∃ d, w = i + d := ⟨w - i, by omega⟩
  rw [unum_row]
  have e := num_more hn hA d (by omega)
  have e2 := num_unum A d
  rw [e] at e2
  refine ⟨b2 b * b2 (A (d - 1)), ?_⟩
  have e3 : unum A d = num A n + b2 (A (d - 1)) * 2 ^ d := by rw [Int.neg_mul] at e2; omega
  rw [e3, Int.mul_add, Int.mul_add, Int.pow_add]
  congr 1
  generalize b2 (A (d - 1)) = x
  generalize b2 b = y
  generalize (2 : Int) ^ i = p
  generalize (2 : Int) ^ d = q
  rw [Int.mul_assoc y x, ← Int.mul_assoc p x q, Int.mul_comm p x, Int.mul_assoc x p q]
theorem acc_mod {A B : Nat → Bool} {n1 n2 w : Nat} (h1 : 1 ≤ n1) (hA : ∀ i, n1 ≤ i → A i = A (n1 - 1)) (hw : n1 + n2 ≤ w) : ∀ i, i < n2 → ∃ k, unum (accT A B n2 i) w = num A n1 * unum B i + k * 2 ^ w
  | 0, _ => ⟨0, by
    have : ∀ k, unum (accT A B n2 0) k = 0 := fun k => by
      induction k with
      | zero => rfl
      | succ k ih =>
        show unum (accT A B n2 0) k + 0 * 2 ^ k = 0
        rw [ih]; omega
    rw [this]
    show (0 : Int) = num A n1 * 0 + 0 * 2 ^ w
    omega⟩
  | i + 1, h => by
    obtain ⟨k, ih⟩ := acc_mod (B := B) h1 hA hw i (by omega)
    obtain ⟨j, hr⟩ := row_mod (B i) h1 hA (show n1 + i ≤ w by omega)
    have e := sbit_unum (accT A B n2 i) (rowB A (B i) i) false w
    have e0 : accT A B n2 (i + 1) = sbit (accT A B n2 i) (rowB A (B i) i) false := by
      show (if i = n2 - 1 then _ else _) = _
      rw [if_neg (by omega)]
    rw [e0]
    refine ⟨k + j - b2 (cr (accT A B n2 i) (rowB A (B i) i) false w), ?_⟩
    rw [ih, hr] at e
    generalize b2 (cr (accT A B n2 i) (rowB A (B i) i) false w) = c at *
    show _ = num A n1 * (unum B i + b2 (B i) * 2 ^ i) + _
    rw [Int.sub_mul, Int.add_mul, Int.mul_add]
    have e1 : num A n1 * (b2 (B i) * 2 ^ i) = b2 (B i) * (2 ^ i * num A n1) := by rw [Int.mul_comm, Int.mul_assoc]
    rw [e1]
    have e2 : b2 false = 0 := rfl
    rw [e2] at e
    omega
theorem acc_last {A B : Nat → Bool} {n1 n2 w : Nat} (h1 : 1 ≤ n1) (h2 : 1 ≤ n2) (hA : ∀ i, n1 ≤ i → A i = A (n1 - 1)) (hw : n1 + n2 ≤ w) : ∃ k, unum (accT A B n2 n2) w = num A n1 * num B n2 + k * 2 ^ w := by
  obtain ⟨i, rfl⟩ : ∃ i, n2 = i + 1 := ⟨n2 - 1, by omega⟩
  obtain ⟨k, ih⟩ := acc_mod (B := B) h1 hA hw i (by omega)
  obtain ⟨j, hr⟩ := row_mod (B i) h1 hA (show n1 + i ≤ w by omega)
  have e := sbit_unum (accT A B (i + 1) i) (fun k => !rowB A (B i) i k) true w
  have e0 : accT A B (i + 1) (i + 1) = sbit (accT A B (i + 1) i) (fun k => !rowB A (B i) i k) true := by
    show (if i = i + 1 - 1 then _ else _) = _
    rw [if_pos (by omega)]
  rw [e0]
  rw [unum_not, ih, hr] at e
  refine ⟨k - j + 1 - b2 (cr (accT A B (i + 1) i) (fun k => !rowB A (B i) i k) true w), ?_⟩
  generalize b2 (cr (accT A B (i + 1) i) (fun k => !rowB A (B i) i k) true w) = c at *
  rw [num_top, Int.sub_mul, Int.add_mul, Int.sub_mul, Int.mul_sub]
  have e1 : num A n1 * (b2 (B i) * 2 ^ i) = b2 (B i) * (2 ^ i * num A n1) := by rw [Int.mul_comm, Int.mul_assoc]
  rw [e1]
  have e2 : b2 true = 1 := rfl
  rw [e2] at e
  omega
theorem prod_bd {x y p r : Int} (hp : 0 < p) (hr : 0 < r) (hx : -p ≤ x ∧ x < p) (hy : -r ≤ y ∧ y < r) : -(2 * (p * r)) ≤ x * y ∧ x * y < 2 * (p * r) := by
  have a1 : 0 ≤ (p - x) * (r + y) := Int.mul_nonneg (by omega) (by omega)
  have a2 : 0 ≤ (p + x) * (r - y) := Int.mul_nonneg (by omega) (by omega)
  have a3 : 0 ≤ (p - x) * (r - y) := Int.mul_nonneg (by omega) (by omega)
  have a4 : 0 ≤ (p + x) * (r + y) := Int.mul_nonneg (by omega) (by omega)
  have a5 : 0 < p * r := Int.mul_pos hp hr
  rw [Int.sub_mul, Int.mul_add, Int.mul_add] at a1
  rw [Int.add_mul, Int.mul_sub, Int.mul_sub] at a2
  rw [Int.sub_mul, Int.mul_sub, Int.mul_sub] at a3
  rw [Int.add_mul, Int.mul_add, Int.mul_add] at a4
  omega
theorem times_num {A B : Nat → Bool} {n1 n2 : Nat} (h1 : 1 ≤ n1) (h2 : 1 ≤ n2) (hA : ∀ i, n1 ≤ i → A i = A (n1 - 1)) : num (accT A B n2 n2) (n1 + n2) = num A n1 * num B n2 := by
  obtain ⟨k, e⟩ := acc_last (B := B) h1 h2 hA (Nat.le_refl _)
  have b1 := num_bd A h1
  have b2' := num_bd B h2
  have b3 := num_bd (accT A B n2 n2) (n := n1 + n2) (by omega)
  have e3 := num_unum (accT A B n2 n2) (n1 + n2)
  have hpw : (2 : Int) ^ (n1 + n2 - 1) = 2 * (2 ^ (n1 - 1) * 2 ^ (n2 - 1)) := by
    rw [← Int.pow_add, ← pow_succ2]
    congr 1
    omega
  have b4 := prod_bd (pow_pos2 (n1 - 1)) (pow_pos2 (n2 - 1)) b1 b2'
  rw [← hpw] at b4
  refine num_uniq (n := n1 + n2 - 1) (k := k - b2 (accT A B n2 n2 (n1 + n2 - 1))) b3 b4 ?_
  rw [show n1 + n2 - 1 + 1 = n1 + n2 by omega, Int.sub_mul]
  rw [Int.neg_mul] at e3
  omega
end Go.Sy
end

section
set_option maxRecDepth 100000
namespace Go.Sy
open Go.Ev Go.Proofs
variable {base : CallF}

/-! ### numbers in memory, and what is made of them -/
/-- a number's bits in memory: what it is, where the inputs are so -/
def Vc (st : Ev.St) (own : Nat → Prop) (G : Gr) (b n : Nat) (F : (Nat → Bool) → Int) : Prop :=
  ∃ a, 1 ≤ n ∧ Ed st own b 0 n a ∧ (∀ i, i < n → G.has (a i)) ∧ ∀ inp, inp 0 = false → num (fun i => ev inp G.parts (a i)) n = F inp
/-- an edge: what it says -/
def Eg (G : Gr) (x : Nat) (F : (Nat → Bool) → Bool) : Prop := G.has x ∧ ∀ inp, inp 0 = false → ev inp G.parts x = F inp
theorem Eg.le {G G' : Gr} {x : Nat} {F : (Nat → Bool) → Bool} (h : Eg G x F) (k : G.Le G') : Eg G' x F := ⟨k.has h.1, fun inp hi => (k.ev h.1 inp).trans (h.2 inp hi)⟩
theorem Vc.step {st st' : Ev.St} {own own' : Nat → Prop} {G G' : Gr} {b n : Nat} {F : (Nat → Bool) → Int} (h : Vc st own G b n F) (S : Step own own' st.bare st') (k : G.Le G') : Vc st' own' G' b n F := by
  obtain ⟨a, h1, h2, h3, h4⟩ := h
  refine ⟨a, h1, h2.bare.step S, fun i hi => k.has (h3 i hi), fun inp hi => ?_⟩
  rw [← h4 inp hi]
  exact num_congr h1 fun i hi' => k.ev (h3 i hi') inp
theorem Vc.aft {st st' : Ev.St} {g p q m j p' : Nat} {ex' : Bool} {G G' : Gr} {b n : Nat} {F : (Nat → Bool) → Int} (h : Vc st (Own g p q m G) G b n F) (A : Aft g p q m G j st p' ex' G' st') : Vc st' (Own g p' q m G') G' b n F := h.step A.step A.le
theorem Eg.aft {st st' : Ev.St} {g p q m j p' : Nat} {ex' : Bool} {G G' : Gr} {x : Nat} {F : (Nat → Bool) → Bool} (h : Eg G x F) (A : Aft g p q m G j st p' ex' G' st') : Eg G' x F := h.le A.le
theorem Vc.ext {st st' : Ev.St} {own : Nat → Prop} {G : Gr} {b n : Nat} {F : (Nat → Bool) → Int} (h : Vc st own G b n F) (e : Kept st st') : Vc st' own G b n F := by
  obtain ⟨a, h1, h2, h3, h4⟩ := h
  exact ⟨a, h1, (Row.keep h2.row e.keep e.nx).ed h2.off, h3, h4⟩
theorem Vc.eq {st : Ev.St} {own : Nat → Prop} {G : Gr} {b n : Nat} {F H : (Nat → Bool) → Int} (h : Vc st own G b n F) (e : ∀ inp, inp 0 = false → F inp = H inp) : Vc st own G b n H := by
  obtain ⟨a, h1, h2, h3, h4⟩ := h
  exact ⟨a, h1, h2, h3, fun inp hi => (h4 inp hi).trans (e inp hi)⟩
theorem wide_num {G : Gr} {a : Nat → Nat} {n : Nat} (hn : 1 ≤ n) (inp : Nat → Bool) (m : Nat) (hm : n ≤ m) : num (fun i => ev inp G.parts (wide n a i)) m = num (fun i => ev inp G.parts (a i)) n := by
  have e := wide_last hn a
  rw [num_more (A := fun i => ev inp G.parts (wide n a i)) hn (fun i hi => by show ev inp G.parts (wide n a i) = ev inp G.parts (wide n a (n - 1)); rw [e i hi]) m hm]
  refine num_congr hn fun i hi => ?_
  show ev inp G.parts (wide n a i) = _
  unfold wide
  rw [if_pos hi]
theorem G_0 {G : Gr} (hok : G.OK) {inp : Nat → Bool} (hi : inp 0 = false) : ev inp G.parts 0 = false := by
  obtain ⟨l0, hl0⟩ := hok.first
  rw [hl0]; exact ev_0 hi l0
theorem G_1 {G : Gr} (hok : G.OK) {inp : Nat → Bool} (hi : inp 0 = false) : ev inp G.parts 1 = true := by
  obtain ⟨l0, hl0⟩ := hok.first
  rw [hl0]; exact ev_1 hi l0
theorem pow_mono2 {a b : Nat} (h : a ≤ b) : (2 : Int) ^ a ≤ 2 ^ b := by
  have := Nat.pow_le_pow_right (n := 2) (by decide) h
  rw [← pow_cast, ← pow_cast]
  omega
theorem num_in {A : Nat → Bool} {n m : Nat} (hn : 1 ≤ n) (hm : n ≤ m) : -(2 ^ m : Int) ≤ 2 * num A n ∧ 2 * num A n ≤ 2 ^ m - 2 := by
  have h := num_bd A hn
  have h2 := pow_mono2 hm
  have h3 : (2 : Int) ^ n = 2 * 2 ^ (n - 1) := by rw [← pow_succ2]; congr 1; omega
  omega

theorem Add_num (hb : ∀ f args st, f ≠ 12 → base f args st = .no) {g p q m : Nat} {ex : Bool} {G : Gr} {b1 n1 c1 b2 n2 c2 : Nat} {x1 x2 : Bool} {F1 F2 : (Nat → Bool) → Int} (st : Ev.St) (hG : GM st.h st.nx g p q m ex G) (hok : G.OK) (hN : G.parts.length + 20480 ≤ 1048576) (hw : max n1 n2 + 1 ≤ 32)
    (V1 : Vc st (Own g p q m G) G b1 n1 F1) (V2 : Vc st (Own g p q m G) G b2 n2 F2) (K : AV → Ev.St → Prop)
    (hK : ∀ bo p' ex' G' st', Aft g p q m G 20480 st p' ex' G' st' → Vc st' (Own g p' q m G') G' bo (max n1 n2 + 1) (fun inp => F1 inp + F2 inp) → K (.tup [.slice bo 0 (max n1 n2 + 1) (max n1 n2 + 1) 1 true, .int .i64 0]) st') :
    CW Try.prog base 19 [.ptr g 0, .slice b1 0 n1 c1 1 x1, .slice b2 0 n2 c2 1 x2] st K := by
  obtain ⟨a1, h1, E1, A1, D1⟩ := V1
  obtain ⟨a2, h2, E2, A2, D2⟩ := V2
  refine Add_ok hb st hG hok (by omega) h1 h2 hw E1.row E2.row A1 A2 K fun bo xs p' ex' G' st' B _ E hx hev => ?_
  refine hK bo p' ex' G' st' (B.more (by omega)) ⟨xs, by omega, E, hx, fun inp hi => ?_⟩
  have q1 : n1 ≤ max n1 n2 := Nat.le_max_left _ _
  have q2 : n2 ≤ max n1 n2 := Nat.le_max_right _ _
  have e1 := wide_num (G := G) (a := a1) h1 inp (max n1 n2 + 1) (by omega)
  have e2 := wide_num (G := G) (a := a2) h2 inp (max n1 n2 + 1) (by omega)
  rw [D1 inp hi] at e1
  rw [D2 inp hi] at e2
  have i1 := num_in (A := fun i => ev inp G.parts (a1 i)) h1 q1
  have i2 := num_in (A := fun i => ev inp G.parts (a2 i)) h2 q2
  rw [D1 inp hi] at i1
  rw [D2 inp hi] at i2
  have e0 : Go.Sy.b2 (ev inp G.parts 0) = 0 := by rw [G_0 hok hi]; rfl
  have hs := sbit_num (A := fun i => ev inp G.parts (wide n1 a1 i)) (B := fun i => ev inp G.parts (wide n2 a2 i)) (c := ev inp G.parts 0) (n := max n1 n2) (by rw [e1, e2, e0]; omega)
  rw [e1, e2, e0] at hs
  rw [num_congr (by omega) (hev inp hi), hs, Int.add_zero]
theorem Sub_num (hb : ∀ f args st, f ≠ 12 → base f args st = .no) {g p q m : Nat} {ex : Bool} {G : Gr} {b1 n1 c1 b2 n2 c2 : Nat} {x1 x2 : Bool} {F1 F2 : (Nat → Bool) → Int} (st : Ev.St) (hG : GM st.h st.nx g p q m ex G) (hok : G.OK) (hN : G.parts.length + 20480 ≤ 1048576) (hw : max n1 n2 + 1 ≤ 32)
    (V1 : Vc st (Own g p q m G) G b1 n1 F1) (V2 : Vc st (Own g p q m G) G b2 n2 F2) (K : AV → Ev.St → Prop)
    (hK : ∀ bo p' ex' G' st', Aft g p q m G 20480 st p' ex' G' st' → Vc st' (Own g p' q m G') G' bo (max n1 n2 + 1) (fun inp => F1 inp - F2 inp) → K (.tup [.slice bo 0 (max n1 n2 + 1) (max n1 n2 + 1) 1 true, .int .i64 0]) st') :
    CW Try.prog base 23 [.ptr g 0, .slice b1 0 n1 c1 1 x1, .slice b2 0 n2 c2 1 x2] st K := by
  obtain ⟨a1, h1, E1, A1, D1⟩ := V1
  obtain ⟨a2, h2, E2, A2, D2⟩ := V2
  refine Sub_ok hb st hG hok (by omega) h1 h2 hw E1.row E2.row A1 A2 K fun bo xs p' ex' G' st' B _ E hx hev => ?_
  refine hK bo p' ex' G' st' (B.more (by omega)) ⟨xs, by omega, E, hx, fun inp hi => ?_⟩
  have q1 : n1 ≤ max n1 n2 := Nat.le_max_left _ _
  have q2 : n2 ≤ max n1 n2 := Nat.le_max_right _ _
  have e1 := wide_num (G := G) (a := a1) h1 inp (max n1 n2 + 1) (by omega)
  have e2 := wide_num (G := G) (a := a2) h2 inp (max n1 n2 + 1) (by omega)
  rw [D1 inp hi] at e1
  rw [D2 inp hi] at e2
  have i1 := num_in (A := fun i => ev inp G.parts (a1 i)) h1 q1
  have i2 := num_in (A := fun i => ev inp G.parts (a2 i)) h2 q2
  rw [D1 inp hi] at i1
  rw [D2 inp hi] at i2
  have e0 : Go.Sy.b2 (ev inp G.parts 1) = 1 := by rw [G_1 hok hi]; rfl
  have en := num_not (fun i => ev inp G.parts (wide n2 a2 i)) (max n1 n2 + 1)
  rw [e2] at en
  have hs := sbit_num (A := fun i => ev inp G.parts (wide n1 a1 i)) (B := fun i => !ev inp G.parts (wide n2 a2 i)) (c := ev inp G.parts 1) (n := max n1 n2) (by rw [e1, en, e0]; omega)
  rw [e1, en, e0] at hs
  rw [num_congr (by omega) (hev inp hi), hs]
  show _ = F1 inp - F2 inp
  omega
theorem Times_num (hb : ∀ f args st, f ≠ 12 → base f args st = .no) {g p q m : Nat} {ex : Bool} {G : Gr} {b1 n1 c1 b2 n2 c2 : Nat} {x1 x2 : Bool} {F1 F2 : (Nat → Bool) → Int} (st : Ev.St) (hG : GM st.h st.nx g p q m ex G) (hok : G.OK) (hN : G.parts.length + 20480 ≤ 1048576) (hw : n1 + n2 ≤ 32)
    (V1 : Vc st (Own g p q m G) G b1 n1 F1) (V2 : Vc st (Own g p q m G) G b2 n2 F2) (K : AV → Ev.St → Prop)
    (hK : ∀ bo p' ex' G' st', Aft g p q m G 20480 st p' ex' G' st' → Vc st' (Own g p' q m G') G' bo (n1 + n2) (fun inp => F1 inp * F2 inp) → K (.tup [.slice bo 0 (n1 + n2) (n1 + n2) 1 true, .int .i64 0]) st') :
    CW Try.prog base 27 [.ptr g 0, .slice b1 0 n1 c1 1 x1, .slice b2 0 n2 c2 1 x2] st K := by
  obtain ⟨a1, h1, E1, A1, D1⟩ := V1
  obtain ⟨a2, h2, E2, A2, D2⟩ := V2
  refine Times_ok hb st hG hok (by omega) h1 h2 hw E1 E2 A1 A2 K fun bo xs p' ex' G' st' B E hx hev => ?_
  refine hK bo p' ex' G' st' (B.more (by omega)) ⟨xs, by omega, E, hx, fun inp hi => ?_⟩
  have e := wide_last h1 a1
  rw [num_congr (by omega) (hev inp hi), times_num (A := fun i => ev inp G.parts (wide n1 a1 i)) (B := fun i => ev inp G.parts (a2 i)) h1 h2 (fun i hi => by show ev inp G.parts (wide n1 a1 i) = ev inp G.parts (wide n1 a1 (n1 - 1)); rw [e i hi]), wide_num (G := G) h1 inp n1 (Nat.le_refl _), D1 inp hi, D2 inp hi]
theorem Less_num (hb : ∀ f args st, f ≠ 12 → base f args st = .no) {g p q m : Nat} {ex : Bool} {G : Gr} {b1 n1 c1 b2 n2 c2 : Nat} {x1 x2 : Bool} {F1 F2 : (Nat → Bool) → Int} (st : Ev.St) (hG : GM st.h st.nx g p q m ex G) (hok : G.OK) (hN : G.parts.length + 20480 ≤ 1048576) (hw : max n1 n2 ≤ 32)
    (V1 : Vc st (Own g p q m G) G b1 n1 F1) (V2 : Vc st (Own g p q m G) G b2 n2 F2) (K : AV → Ev.St → Prop)
    (hK : ∀ x p' ex' G' st', Aft g p q m G 20480 st p' ex' G' st' → Eg G' x (fun inp => decide (F1 inp < F2 inp)) → K (.tup [.int .u32 (x : Int), .int .i64 0]) st') :
    CW Try.prog base 21 [.ptr g 0, .slice b1 0 n1 c1 1 x1, .slice b2 0 n2 c2 1 x2] st K := by
  obtain ⟨a1, h1, E1, A1, D1⟩ := V1
  obtain ⟨a2, h2, E2, A2, D2⟩ := V2
  refine Less_ok hb st hG hok (by omega) h1 h2 hw E1.row E2.row A1 A2 K fun x p' ex' G' st' B hx hev => ?_
  refine hK x p' ex' G' st' (B.more (by omega)) ⟨hx, fun inp hi => ?_⟩
  have q1 : n1 ≤ max n1 n2 := Nat.le_max_left _ _
  have q2 : n2 ≤ max n1 n2 := Nat.le_max_right _ _
  have hl := ltb_num (A := fun i => ev inp G.parts (wide n1 a1 i)) (B := fun i => ev inp G.parts (wide n2 a2 i)) (n := max n1 n2) (by omega)
  rw [wide_num h1 inp _ q1, wide_num h2 inp _ q2, D1 inp hi, D2 inp hi] at hl
  refine Eq.trans ?_ hl
  rw [hev inp hi]
  have e : ∀ u v : Nat → Nat, (fun i => ev inp G.parts (swp (max n1 n2) u v i)) = swp (max n1 n2) (fun i => ev inp G.parts (u i)) (fun i => ev inp G.parts (v i)) := fun u v => by
    funext i; unfold swp; split <;> rfl
  rw [e, e]
theorem Equal_num (hb : ∀ f args st, f ≠ 12 → base f args st = .no) {g p q m : Nat} {ex : Bool} {G : Gr} {b1 n1 c1 b2 n2 c2 : Nat} {x1 x2 : Bool} {F1 F2 : (Nat → Bool) → Int} (st : Ev.St) (hG : GM st.h st.nx g p q m ex G) (hok : G.OK) (hN : G.parts.length + 20480 ≤ 1048576) (hw : max n1 n2 ≤ 32)
    (V1 : Vc st (Own g p q m G) G b1 n1 F1) (V2 : Vc st (Own g p q m G) G b2 n2 F2) (K : AV → Ev.St → Prop)
    (hK : ∀ x p' ex' G' st', Aft g p q m G 20480 st p' ex' G' st' → Eg G' x (fun inp => decide (F1 inp = F2 inp)) → K (.tup [.int .u32 (x : Int), .int .i64 0]) st') :
    CW Try.prog base 22 [.ptr g 0, .slice b1 0 n1 c1 1 x1, .slice b2 0 n2 c2 1 x2] st K := by
  obtain ⟨a1, h1, E1, A1, D1⟩ := V1
  obtain ⟨a2, h2, E2, A2, D2⟩ := V2
  refine Equal_ok hb st hG hok (by omega) h1 h2 hw E1.row E2.row A1 A2 K fun x p' ex' G' st' B hx hev => ?_
  refine hK x p' ex' G' st' (B.more (by omega)) ⟨hx, fun inp hi => ?_⟩
  have q1 : n1 ≤ max n1 n2 := Nat.le_max_left _ _
  have q2 : n2 ≤ max n1 n2 := Nat.le_max_right _ _
  have hl := conj_num (A := fun i => ev inp G.parts (wide n1 a1 i)) (B := fun i => ev inp G.parts (wide n2 a2 i)) (n := max n1 n2) (by omega)
  rw [wide_num h1 inp _ q1, wide_num h2 inp _ q2, D1 inp hi, D2 inp hi] at hl
  exact (hev inp hi).trans hl
theorem Choose_num (hb : ∀ f args st, f ≠ 12 → base f args st = .no) {g p q m c : Nat} {ex : Bool} {G : Gr} {b1 n1 c1 b2 n2 c2 : Nat} {x1 x2 : Bool} {F1 F2 : (Nat → Bool) → Int} {F : (Nat → Bool) → Bool} (st : Ev.St) (hG : GM st.h st.nx g p q m ex G) (hok : G.OK) (hN : G.parts.length + 20480 ≤ 1048576) (hw : max n1 n2 ≤ 32)
    (hc : Eg G c F) (V1 : Vc st (Own g p q m G) G b1 n1 F1) (V2 : Vc st (Own g p q m G) G b2 n2 F2) (K : AV → Ev.St → Prop)
    (hK : ∀ bo p' ex' G' st', Aft g p q m G 20480 st p' ex' G' st' → Vc st' (Own g p' q m G') G' bo (max n1 n2) (fun inp => if F inp = true then F1 inp else F2 inp) → K (.tup [.slice bo 0 (max n1 n2) (max n1 n2) 1 true, .int .i64 0]) st') :
    CW Try.prog base 30 [.ptr g 0, .int .u32 (c : Int), .slice b1 0 n1 c1 1 x1, .slice b2 0 n2 c2 1 x2] st K := by
  obtain ⟨a1, h1, E1, A1, D1⟩ := V1
  obtain ⟨a2, h2, E2, A2, D2⟩ := V2
  refine Choose_ok hb st hG hok (by omega) h1 h2 hw hc.1 E1.row E2.row A1 A2 K fun bo xs p' ex' G' st' B _ E hx hev => ?_
  have q1 : n1 ≤ max n1 n2 := Nat.le_max_left _ _
  have q2 : n2 ≤ max n1 n2 := Nat.le_max_right _ _
  refine hK bo p' ex' G' st' (B.more (by omega)) ⟨xs, by omega, E, hx, fun inp hi => ?_⟩
  rw [num_congr (by omega) (hev inp hi), hc.2 inp hi]
  by_cases h : F inp = true
  · simp only [if_pos h]
    rw [wide_num h1 inp _ q1, D1 inp hi]
  · simp only [if_neg h]
    rw [wide_num h2 inp _ q2, D2 inp hi]
end Go.Sy
end

section
set_option maxRecDepth 100000
namespace Go.Sy
open Go.Ev Go.Proofs
variable {base : CallF}
theorem inpR_0 {G : Gr} (hok : G.OK) (nv : Nat) (f : Nat → Bool) : ∀ k, k ≤ G.inputs.length → inpR G.inputs nv f k 0 = false
  | 0, _ => rfl
  | k + 1, h => by
    have hmem : G.inputs.getD k 0 ∈ G.inputs := by
      rw [List.getD_eq_getElem?_getD, List.getElem?_eq_getElem (by omega)]; exact List.getElem_mem (by omega)
    have := (hok.ins _ hmem).2.1
    unfold inpR
    rw [if_neg (by omega)]
    exact inpR_0 hok nv f k (by omega)
theorem unum_bd32 (A : Nat → Bool) {k : Nat} (h : k ≤ 32) : 0 ≤ unum A k ∧ unum A k < 4294967296 := by
  have := unum_bd A k
  have e := pow_mono2 h
  have e2 : (2 : Int) ^ 32 = 4294967296 := by decide
  omega
theorem Number_num (hb : ∀ f args st, f ≠ 12 → base f args st = .no) {g p q m nv b n c : Nat} {V : AV} {x ex : Bool} {G : Gr} {f : Nat → Bool} {F : (Nat → Bool) → Int} (hw2 : n ≤ 32) (hnv : nv ≤ 1048576) (st : Ev.St) (hG : GM st.h st.nx g p q m ex G) (hok : G.OK) (hI : G.inputs.length ≤ 1048576) (hV : Vl st V nv f) (V1 : Vc st (Own g p q m G) G b n F)
    (K : AV → Ev.St → Prop) (hK : ∀ st', Ext st st' → K (.tup [.int .i64 (F (inpR G.inputs nv f G.inputs.length)), .int .i64 0]) st') : CW Try.prog base 17 [.ptr g 0, V, .slice b 0 n c 1 x] st K := by
  refine fn_rule l17 (hb _ _ _ (by decide)) ?_
  simp only [c17, entry, List.map_cons, List.map_nil, List.getD_cons_zero, List.getD_cons_succ]
  unfold b17
  obtain ⟨a, hw1, E, hA, D⟩ := V1
  simp (disch := first | assumption | decide | omega) only [qz00, qz01, qz02, qz03, qz04, qz05, qz06, qz07, qz08, qz09, qz0a, qz0b, qz0c, qz0d, qz0e, qz0f, qz0g, qz0h, qz0i, qz0j, qz0k, qz0l, qz0m, qz0n, qz0o, qz0p, qz0q, qz0r, qz0s, qz0t, qz0u, qz0v, qz0w, qz0x, qz0y, qz0z, qz10, qz11, qz12, qz13, qz14, qz15, qz16, qz17, qz18, qz19, qz1a, qz1b, qz1c, qz1d, qz1e, qz1f, qz1g, qz1h, qz1i, qz1j, qz1k, qz1l, qz1m, qz1n, qz1o, qz1p, qz1q, qz1r, qz1s, qz1t, qz1u, qz1v, qz1w, qz1x, qz1y, qz1z, qz20, qz21, qz22, qz23, qz24, qz25, qz26, qz27, qz28, qz29, qz2a, qz2b, qz2c, qz2d, qz2e, qz2f, qz2g, qz2h, qz2i, qz2j, qz2k, qz2l, qz2m, qz2n, qz2o, qz2p, qz2q, qz2r, qz2s, qz2t, qz2u, qz2v, qz2w, qz2x, qz2y, qz2z, qz30, qz31, qz32, qz33, qz34, qz35, qz36, qz37, qz38, qz39, qz3a, qz3b, qz3c, qz3d, Bool.not_true, Bool.not_false, List.cons_append, List.nil_append, List.append_nil]
  refine o_buildS1 ⟨rfl, rfl, rfl⟩ fun s1 h1 => ?_
  have k1 : Kept st.bare s1 := (Kept.refl _).made h1
  simp (disch := first | assumption | decide | omega) only [qz00, qz01, qz02, qz03, qz04, qz05, qz06, qz07, qz08, qz09, qz0a, qz0b, qz0c, qz0d, qz0e, qz0f, qz0g, qz0h, qz0i, qz0j, qz0k, qz0l, qz0m, qz0n, qz0o, qz0p, qz0q, qz0r, qz0s, qz0t, qz0u, qz0v, qz0w, qz0x, qz0y, qz0z, qz10, qz11, qz12, qz13, qz14, qz15, qz16, qz17, qz18, qz19, qz1a, qz1b, qz1c, qz1d, qz1e, qz1f, qz1g, qz1h, qz1i, qz1j, qz1k, qz1l, qz1m, qz1n, qz1o, qz1p, qz1q, qz1r, qz1s, qz1t, qz1u, qz1v, qz1w, qz1x, qz1y, qz1z, qz20, qz21, qz22, qz23, qz24, qz25, qz26, qz27, qz28, qz29, qz2a, qz2b, qz2c, qz2d, qz2e, qz2f, qz2g, qz2h, qz2i, qz2j, qz2k, qz2l, qz2m, qz2n, qz2o, qz2p, qz2q, qz2r, qz2s, qz2t, qz2u, qz2v, qz2w, qz2x, qz2y, qz2z, qz30, qz31, qz32, qz33, qz34, qz35, qz36, qz37, qz38, qz39, qz3a, qz3b, qz3c, qz3d, Bool.not_true, Bool.not_false, List.cons_append, List.nil_append, List.append_nil]
  refine right_ok (fun f a s hf => hb _ a s (by intro h; subst h; simp at hf)) hw1 hw2 s1 h1.len (h1.cell 0 (by decide)) _ ?_
  simp (disch := first | assumption | decide | omega) only [qz00, qz01, qz02, qz03, qz04, qz05, qz06, qz07, qz08, qz09, qz0a, qz0b, qz0c, qz0d, qz0e, qz0f, qz0g, qz0h, qz0i, qz0j, qz0k, qz0l, qz0m, qz0n, qz0o, qz0p, qz0q, qz0r, qz0s, qz0t, qz0u, qz0v, qz0w, qz0x, qz0y, qz0z, qz10, qz11, qz12, qz13, qz14, qz15, qz16, qz17, qz18, qz19, qz1a, qz1b, qz1c, qz1d, qz1e, qz1f, qz1g, qz1h, qz1i, qz1j, qz1k, qz1l, qz1m, qz1n, qz1o, qz1p, qz1q, qz1r, qz1s, qz1t, qz1u, qz1v, qz1w, qz1x, qz1y, qz1z, qz20, qz21, qz22, qz23, qz24, qz25, qz26, qz27, qz28, qz29, qz2a, qz2b, qz2c, qz2d, qz2e, qz2f, qz2g, qz2h, qz2i, qz2j, qz2k, qz2l, qz2m, qz2n, qz2o, qz2p, qz2q, qz2r, qz2s, qz2t, qz2u, qz2v, qz2w, qz2x, qz2y, qz2z, qz30, qz31, qz32, qz33, qz34, qz35, qz36, qz37, qz38, qz39, qz3a, qz3b, qz3c, qz3d, Bool.not_true, Bool.not_false, List.cons_append, List.nil_append, List.append_nil]
  refine EvalG_ok (fun f a s hf => hb _ a s (by intro h; subst h; simp at hf)) hw2 hnv s1 (hG.keep k1.keep k1.nx) hok hI (hV.keep k1.keep k1.nx) (Row.keep E.row k1.keep k1.nx) hA _ fun bo s2 e2 _ hbo hl hv => ?_
  have k2 : Kept st.bare (back s1 s2) := k1.trans ⟨e2.nx, rfl, e2.keep⟩
  have hl' : rlen (back s1 s2).h bo = n := hl
  have hD := D _ (inpR_0 hok nv f G.inputs.length (Nat.le_refl _))
  rw [← hD] at hK
  generalize hEE : (fun i => ev (inpR G.inputs nv f G.inputs.length) G.parts (a i)) = B at hK
  have hv' : ∀ i, i < n → rat (back s1 s2).h bo i = .bool (B i) := fun i hi => by rw [← hEE]; exact hv i hi
  generalize back s1 s2 = t at k2 hl' hv'
  simp (disch := first | assumption | decide | omega) only [qz00, qz01, qz02, qz03, qz04, qz05, qz06, qz07, qz08, qz09, qz0a, qz0b, qz0c, qz0d, qz0e, qz0f, qz0g, qz0h, qz0i, qz0j, qz0k, qz0l, qz0m, qz0n, qz0o, qz0p, qz0q, qz0r, qz0s, qz0t, qz0u, qz0v, qz0w, qz0x, qz0y, qz0z, qz10, qz11, qz12, qz13, qz14, qz15, qz16, qz17, qz18, qz19, qz1a, qz1b, qz1c, qz1d, qz1e, qz1f, qz1g, qz1h, qz1i, qz1j, qz1k, qz1l, qz1m, qz1n, qz1o, qz1p, qz1q, qz1r, qz1s, qz1t, qz1u, qz1v, qz1w, qz1x, qz1y, qz1z, qz20, qz21, qz22, qz23, qz24, qz25, qz26, qz27, qz28, qz29, qz2a, qz2b, qz2c, qz2d, qz2e, qz2f, qz2g, qz2h, qz2i, qz2j, qz2k, qz2l, qz2m, qz2n, qz2o, qz2p, qz2q, qz2r, qz2s, qz2t, qz2u, qz2v, qz2w, qz2x, qz2y, qz2z, qz30, qz31, qz32, qz33, qz34, qz35, qz36, qz37, qz38, qz39, qz3a, qz3b, qz3c, qz3d, Bool.not_true, Bool.not_false, List.cons_append, List.nil_append, List.append_nil]
  refine wC_loopH (fun mm L s => ∃ k : Nat, k ≤ n ∧ mm = n - k ∧ s = t ∧ Has L 8 (.slice bo 0 n n 1 true) ∧ Has L 10 (.int .i64 (unum B k)) ∧ Has L 27 (.slice bo 0 n n 1 true) ∧ Has L 28 (.int .i64 (n : Int)) ∧ Has L 29 (.int .i64 (k : Int))) ?_ n ?_
  · rintro mm L s ⟨k, hk, rfl, rfl, h8, h10, h27, h28, h29⟩
    unfold Hold
    have mb := unum_bd32 B (k := k) (by omega)
    have pw := pow_le32 (k := k) (by omega)
    have h3 : (-9223372036854775808 ≤ unum B k + ((2 ^ k : Nat) : Int) ∧ unum B k + ((2 ^ k : Nat) : Int) ≤ 9223372036854775807) ∧ -9223372036854775808 ≤ unum B k - ((2 ^ k : Nat) : Int) ∧ unum B k - ((2 ^ k : Nat) : Int) ≤ 9223372036854775807 := by
      generalize 2 ^ k = q at pw
      generalize unum B k = u at mb
      omega
    by_cases hkw : k < n
    · have e1 : 0 + k * 1 < rlen s.h bo := by omega
      have e2 := hv' k hkw
      rw [show k = 0 + k * 1 by omega] at e2
      rw [show 0 + k * 1 = k by omega] at e2
      have e2' : rat s.h bo (0 + k * 1) = .bool (B k) := by rw [show 0 + k * 1 = k by omega]; exact hv' k hkw
      cases hB : B k with
      | true =>
        rw [hB] at e2'
        have eA : ∀ (st : Ev.St) (K : AV → Ev.St → Prop), onER (binV .add (.int .i64 (unum B k)) (.int .i64 ((2 ^ k : Nat) : Int)) st) K = K (.int .i64 (unum B (k + 1))) st := fun st K => by
          have : unum B (k + 1) = unum B k + ((2 ^ k : Nat) : Int) := by
            show unum B k + Go.Sy.b2 (B k) * 2 ^ k = _
            rw [hB, pow_cast]
            show unum B k + 1 * 2 ^ k = _
            rw [Int.one_mul]
          rw [v_add h3.1.1 h3.1.2, this]
        simp (disch := first | assumption | decide | omega) only [r_onh h8, r_onh h10, r_onh h27, r_onh h28, r_onh h29, e2', eA, v_addN, qz00, qz01, qz02, qz03, qz04, qz05, qz06, qz07, qz08, qz09, qz0a, qz0b, qz0c, qz0d, qz0e, qz0f, qz0g, qz0h, qz0i, qz0j, qz0k, qz0l, qz0m, qz0n, qz0o, qz0p, qz0q, qz0r, qz0s, qz0t, qz0u, qz0v, qz0w, qz0x, qz0y, qz0z, qz10, qz11, qz12, qz13, qz14, qz15, qz16, qz17, qz18, qz19, qz1a, qz1b, qz1c, qz1d, qz1e, qz1f, qz1g, qz1h, qz1i, qz1j, qz1k, qz1l, qz1m, qz1n, qz1o, qz1p, qz1q, qz1r, qz1s, qz1t, qz1u, qz1v, qz1w, qz1x, qz1y, qz1z, qz20, qz21, qz22, qz23, qz24, qz25, qz26, qz27, qz28, qz29, qz2a, qz2b, qz2c, qz2d, qz2e, qz2f, qz2g, qz2h, qz2i, qz2j, qz2k, qz2l, qz2m, qz2n, qz2o, qz2p, qz2q, qz2r, qz2s, qz2t, qz2u, qz2v, qz2w, qz2x, qz2y, qz2z, qz30, qz31, qz32, qz33, qz34, qz35, qz36, qz37, qz38, qz39, qz3a, qz3b, qz3c, qz3d, Bool.not_true, Bool.not_false, List.cons_append, List.nil_append, List.append_nil]
        refine ⟨n - (k + 1), by omega, k + 1, by omega, rfl, ?_⟩
        simp (disch := decide) only [z0, z1, h_here, h_skip, h8, h10, h27, h28, true_and, and_true]
      | false =>
        rw [hB] at e2'
        have e3 : unum B k = unum B (k + 1) := by
          show _ = unum B k + Go.Sy.b2 (B k) * 2 ^ k
          rw [hB]
          show unum B k = unum B k + 0 * 2 ^ k
          omega
        rw [e3] at h10
        simp (disch := first | assumption | decide | omega) only [r_onh h8, r_onh h10, r_onh h27, r_onh h28, r_onh h29, e2', v_addN, qz00, qz01, qz02, qz03, qz04, qz05, qz06, qz07, qz08, qz09, qz0a, qz0b, qz0c, qz0d, qz0e, qz0f, qz0g, qz0h, qz0i, qz0j, qz0k, qz0l, qz0m, qz0n, qz0o, qz0p, qz0q, qz0r, qz0s, qz0t, qz0u, qz0v, qz0w, qz0x, qz0y, qz0z, qz10, qz11, qz12, qz13, qz14, qz15, qz16, qz17, qz18, qz19, qz1a, qz1b, qz1c, qz1d, qz1e, qz1f, qz1g, qz1h, qz1i, qz1j, qz1k, qz1l, qz1m, qz1n, qz1o, qz1p, qz1q, qz1r, qz1s, qz1t, qz1u, qz1v, qz1w, qz1x, qz1y, qz1z, qz20, qz21, qz22, qz23, qz24, qz25, qz26, qz27, qz28, qz29, qz2a, qz2b, qz2c, qz2d, qz2e, qz2f, qz2g, qz2h, qz2i, qz2j, qz2k, qz2l, qz2m, qz2n, qz2o, qz2p, qz2q, qz2r, qz2s, qz2t, qz2u, qz2v, qz2w, qz2x, qz2y, qz2z, qz30, qz31, qz32, qz33, qz34, qz35, qz36, qz37, qz38, qz39, qz3a, qz3b, qz3c, qz3d, Bool.not_true, Bool.not_false, List.cons_append, List.nil_append, List.append_nil]
        refine ⟨n - (k + 1), by omega, k + 1, by omega, rfl, ?_⟩
        simp (disch := decide) only [z0, z1, h_here, h_skip, h8, h10, h27, h28, true_and, and_true]
    · have hkw' : k = n := by omega
      subst hkw'
      have e1 : 0 + (k - 1) * 1 < rlen s.h bo := by omega
      have e4 : k - 1 < k := by omega
      have e2' : rat s.h bo (0 + (k - 1) * 1) = .bool (B (k - 1)) := by rw [show 0 + (k - 1) * 1 = k - 1 by omega]; exact hv' _ e4
      cases hB : B (k - 1) with
      | true =>
        rw [hB] at e2'
        have fm : num B k = unum B k - ((2 ^ k : Nat) : Int) := by
          unfold num
          rw [hB, pow_cast]
          show unum B k - 1 * 2 ^ k = _
          rw [Int.one_mul]
        rw [fm] at hK
        have eA : ∀ (st : Ev.St) (K : AV → Ev.St → Prop), onER (binV .sub (.int .i64 (unum B k)) (.int .i64 ((2 ^ k : Nat) : Int)) st) K = K (.int .i64 (unum B k - ((2 ^ k : Nat) : Int))) st := fun st K => by
          rw [v_sub h3.2.1 h3.2.2]
        simp (disch := first | assumption | decide | omega) only [r_onh h8, r_onh h10, r_onh h27, r_onh h28, r_onh h29, e2', eA, qz00, qz01, qz02, qz03, qz04, qz05, qz06, qz07, qz08, qz09, qz0a, qz0b, qz0c, qz0d, qz0e, qz0f, qz0g, qz0h, qz0i, qz0j, qz0k, qz0l, qz0m, qz0n, qz0o, qz0p, qz0q, qz0r, qz0s, qz0t, qz0u, qz0v, qz0w, qz0x, qz0y, qz0z, qz10, qz11, qz12, qz13, qz14, qz15, qz16, qz17, qz18, qz19, qz1a, qz1b, qz1c, qz1d, qz1e, qz1f, qz1g, qz1h, qz1i, qz1j, qz1k, qz1l, qz1m, qz1n, qz1o, qz1p, qz1q, qz1r, qz1s, qz1t, qz1u, qz1v, qz1w, qz1x, qz1y, qz1z, qz20, qz21, qz22, qz23, qz24, qz25, qz26, qz27, qz28, qz29, qz2a, qz2b, qz2c, qz2d, qz2e, qz2f, qz2g, qz2h, qz2i, qz2j, qz2k, qz2l, qz2m, qz2n, qz2o, qz2p, qz2q, qz2r, qz2s, qz2t, qz2u, qz2v, qz2w, qz2x, qz2y, qz2z, qz30, qz31, qz32, qz33, qz34, qz35, qz36, qz37, qz38, qz39, qz3a, qz3b, qz3c, qz3d, Bool.not_true, Bool.not_false, List.cons_append, List.nil_append, List.append_nil]
        exact hK s.bare ⟨k2.nx, rfl, k2.keep⟩
      | false =>
        rw [hB] at e2'
        have fm : num B k = unum B k := by
          unfold num
          rw [hB]
          show unum B k - 0 * 2 ^ k = _
          omega
        rw [fm] at hK
        simp (disch := first | assumption | decide | omega) only [r_onh h8, r_onh h10, r_onh h27, r_onh h28, r_onh h29, e2', qz00, qz01, qz02, qz03, qz04, qz05, qz06, qz07, qz08, qz09, qz0a, qz0b, qz0c, qz0d, qz0e, qz0f, qz0g, qz0h, qz0i, qz0j, qz0k, qz0l, qz0m, qz0n, qz0o, qz0p, qz0q, qz0r, qz0s, qz0t, qz0u, qz0v, qz0w, qz0x, qz0y, qz0z, qz10, qz11, qz12, qz13, qz14, qz15, qz16, qz17, qz18, qz19, qz1a, qz1b, qz1c, qz1d, qz1e, qz1f, qz1g, qz1h, qz1i, qz1j, qz1k, qz1l, qz1m, qz1n, qz1o, qz1p, qz1q, qz1r, qz1s, qz1t, qz1u, qz1v, qz1w, qz1x, qz1y, qz1z, qz20, qz21, qz22, qz23, qz24, qz25, qz26, qz27, qz28, qz29, qz2a, qz2b, qz2c, qz2d, qz2e, qz2f, qz2g, qz2h, qz2i, qz2j, qz2k, qz2l, qz2m, qz2n, qz2o, qz2p, qz2q, qz2r, qz2s, qz2t, qz2u, qz2v, qz2w, qz2x, qz2y, qz2z, qz30, qz31, qz32, qz33, qz34, qz35, qz36, qz37, qz38, qz39, qz3a, qz3b, qz3c, qz3d, Bool.not_true, Bool.not_false, List.cons_append, List.nil_append, List.append_nil]
        exact hK s.bare ⟨k2.nx, rfl, k2.keep⟩
  · have e0 : unum B 0 = 0 := rfl
    refine ⟨0, by omega, rfl, rfl, ?_⟩
    simp (disch := decide) only [z0, z1, h_here, h_skip, true_and, and_true, e0]
end Go.Sy
end

section
set_option maxRecDepth 100000
namespace Go.Sy
open Go.Ev Go.Proofs
def b24 : Cmd := (.seq (.ops [⟨(some 4), true, none, (.i (.mv (.c .nils)))⟩]) (.seq (.ops [⟨(some 8), false, none, (.i (.buildS 0 1 [(.bool false)] []))⟩, ⟨(some 5), true, none, (.i (.mv (.t 8)))⟩]) (.seq (.ops [⟨(some 9), false, none, (.i (.mv (.t 0)))⟩, ⟨(some 10), false, none, (.i (.mv (.t 1)))⟩, ⟨(some 11), false, none, (.call (.c (.fn 32 [])) [(.t 10)])⟩, ⟨(some 12), false, none, (.i (.bin .rem (.t 9) (.t 11)))⟩, ⟨(some 6), true, none, (.i (.mv (.t 12)))⟩]) (.seq (.seq (.ops [⟨(some 13), false, none, (.i (.mv (.t 6)))⟩, ⟨(some 14), true, none, (.i (.bin .lss (.t 13) (.c (.int .i64 0))))⟩]) (.cond (.t 14) (.ops [⟨(some 15), false, none, (.i (.mv (.t 6)))⟩, ⟨(some 16), false, none, (.i (.mv (.t 1)))⟩, ⟨(some 17), false, none, (.call (.c (.fn 32 [])) [(.t 16)])⟩, ⟨(some 18), false, none, (.i (.bin .add (.t 15) (.t 17)))⟩, ⟨(some 6), true, none, (.i (.mv (.t 18)))⟩]) .skip)) (.seq (.seq (.ops [⟨(some 7), true, none, (.i (.mv (.c (.int .i64 0))))⟩]) (.block 0 (.loop (.seq (.seq (.ops [⟨(some 19), false, none, (.i (.mv (.t 7)))⟩, ⟨(some 20), false, none, (.i (.mv (.t 1)))⟩, ⟨(some 21), true, none, (.i (.bin .lss (.t 19) (.t 20)))⟩]) (.cond (.t 21) .skip (.exit 0))) (.seq (.block 1 (.seq (.ops [⟨(some 24), false, none, (.i (.mv (.t 5)))⟩, ⟨(some 25), false, none, (.i (.mv (.t 6)))⟩, ⟨(some 26), false, none, (.i (.bin .rem (.t 25) (.c (.int .i64 2))))⟩, ⟨(some 27), false, none, (.i (.bin .eql (.t 26) (.c (.int .i64 1))))⟩, ⟨(some 28), false, none, (.i (.buildS 1 1 [(.bool false)] [((0, 1), (.t 27))]))⟩, ⟨(some 29), false, none, (.i (.app 1 1 (.t 24) (.t 28)))⟩, ⟨(some 5), true, none, (.i (.mv (.t 29)))⟩]) (.ops [⟨(some 30), false, none, (.i (.mv (.t 6)))⟩, ⟨(some 31), false, none, (.i (.bin .quo (.t 30) (.c (.int .i64 2))))⟩, ⟨(some 6), true, none, (.i (.mv (.t 31)))⟩]))) (.ops [⟨(some 22), false, none, (.i (.mv (.t 7)))⟩, ⟨(some 23), false, none, (.i (.bin .add (.t 22) (.c (.int .i64 1))))⟩, ⟨(some 7), true, none, (.i (.mv (.t 23)))⟩])))))) (.seq (.ops [⟨(some 32), false, none, (.i (.mv (.t 5)))⟩, ⟨(some 4), true, none, (.i (.mv (.t 32)))⟩]) .ret))))))
def c24 : FD := ⟨[0, 1], b24, [(.t 4)]⟩
theorem l24 : lowF Try.prog 24 = some c24 := by kernel_rfl
def b26 : Cmd := (.seq (.ops [⟨(some 4), true, none, (.i (.mv (.c (.int .i64 0))))⟩]) (.seq (.ops [⟨(some 6), false, none, (.i (.mv (.t 0)))⟩, ⟨(some 7), false, none, (.i (.mv (.t 1)))⟩, ⟨(some 8), false, none, (.call (.c (.fn 32 [])) [(.t 7)])⟩, ⟨(some 9), false, none, (.i (.bin .rem (.t 6) (.t 8)))⟩, ⟨(some 5), true, none, (.i (.mv (.t 9)))⟩]) (.seq (.seq (.ops [⟨(some 10), false, none, (.i (.mv (.t 5)))⟩, ⟨(some 11), true, none, (.i (.bin .lss (.t 10) (.c (.int .i64 0))))⟩]) (.cond (.t 11) (.ops [⟨(some 12), false, none, (.i (.mv (.t 5)))⟩, ⟨(some 13), false, none, (.i (.mv (.t 1)))⟩, ⟨(some 14), false, none, (.call (.c (.fn 32 [])) [(.t 13)])⟩, ⟨(some 15), false, none, (.i (.bin .add (.t 12) (.t 14)))⟩, ⟨(some 5), true, none, (.i (.mv (.t 15)))⟩]) .skip)) (.seq (.seq (.ops [⟨(some 16), false, none, (.i (.mv (.t 5)))⟩, ⟨(some 17), false, none, (.i (.mv (.t 1)))⟩, ⟨(some 18), false, none, (.i (.bin .sub (.t 17) (.c (.int .i64 1))))⟩, ⟨(some 19), false, none, (.call (.c (.fn 32 [])) [(.t 18)])⟩, ⟨(some 20), true, none, (.i (.bin .geq (.t 16) (.t 19)))⟩]) (.cond (.t 20) (.ops [⟨(some 21), false, none, (.i (.mv (.t 5)))⟩, ⟨(some 22), false, none, (.i (.mv (.t 1)))⟩, ⟨(some 23), false, none, (.call (.c (.fn 32 [])) [(.t 22)])⟩, ⟨(some 24), false, none, (.i (.bin .sub (.t 21) (.t 23)))⟩, ⟨(some 5), true, none, (.i (.mv (.t 24)))⟩]) .skip)) (.seq (.ops [⟨(some 25), false, none, (.i (.mv (.t 5)))⟩, ⟨(some 4), true, none, (.i (.mv (.t 25)))⟩]) .ret)))))
def c26 : FD := ⟨[0, 1], b26, [(.t 4)]⟩
theorem l26 : lowF Try.prog 26 = some c26 := by kernel_rfl
end Go.Sy
end

section
set_option maxRecDepth 100000
namespace Go.Sy
open Go.Ev Go.Proofs
variable {base : CallF}
theorem v_remI {a : Int} {q : Nat} (h : 0 < q) (st : Ev.St) (K : AV → Ev.St → Prop) : onER (binV .rem (.int .i64 a) (.int .i64 (q : Int)) st) K = K (.int .i64 (a.tmod q)) st := by
  refine b_val ?_
  obtain ⟨q', rfl⟩ : ∃ q', q = q' + 1 := ⟨q - 1, by omega⟩
  have e : eqI (((q' + 1 : Nat)) : Int) (.ofNat 0) = false := beq_f (by omega)
  show cond (eqI (((q' + 1 : Nat)) : Int) (.ofNat 0)) none _ = _
  rw [e]
  cases a <;> rfl
theorem v_quoN {a : Nat} (h : a ≤ 9223372036854775807) (st : Ev.St) (K : AV → Ev.St → Prop) : onER (binV .quo (.int .i64 (a : Int)) (.int .i64 2) st) K = K (.int .i64 ((a / 2 : Nat) : Int)) st := by
  refine b_val ?_
  show some (AV.int .i64 (wrapI .i64 (((a / 2 : Nat) : Int)))) = _
  rw [w64 (by omega) (by omega)]
theorem v_remN {a : Nat} (st : Ev.St) (K : AV → Ev.St → Prop) : onER (binV .rem (.int .i64 (a : Int)) (.int .i64 2) st) K = K (.int .i64 ((a % 2 : Nat) : Int)) st :=
  b_val (show some (AV.int .i64 ((a % 2 : Nat) : Int)) = _ from rfl)
/-- the rest that is not below 0, from the one that Go has -/
theorem tmod_bd (a : Int) {q : Nat} (h : 0 < q) : -(q : Int) < a.tmod q ∧ a.tmod q < q ∧ a % q = if a.tmod q < 0 then a.tmod q + q else a.tmod q := by
  have hq : (q : Int) ≠ 0 := by omega
  have e1 := Int.mul_tdiv_add_tmod a q
  have b1 := Int.tmod_lt_of_pos a (show (0 : Int) < q by omega)
  have b2 : -(q : Int) < a.tmod q := by
    have h1 := Int.tmod_lt_of_pos (-a) (show (0 : Int) < q by omega)
    rw [Int.neg_tmod] at h1
    omega
  refine ⟨b2, b1, ?_⟩
  by_cases hn : a.tmod q < 0
  · rw [if_pos hn]
    have e2 : a = (a.tmod q + q) + q * (a.tdiv q - 1) := by rw [Int.mul_sub]; omega
    conv => enter [1, 1]; rw [e2]
    rw [Int.add_mul_emod_self_left]
    exact Int.emod_eq_of_lt (by omega) (by omega)
  · rw [if_neg hn]
    have e2 : a = a.tmod q + q * a.tdiv q := by omega
    conv => enter [1, 1]; rw [e2]
    rw [Int.add_mul_emod_self_left]
    exact Int.emod_eq_of_lt (by omega) (by omega)

/-- a number's bits, in so many -/
def cutM (n : Int) (w : Nat) : Nat := (n % ((2 ^ w : Nat) : Int)).toNat
def bitN (n : Int) (w i : Nat) : Bool := cutM n w / 2 ^ i % 2 == 1
theorem cutM_int (n : Int) (w : Nat) : n % ((2 ^ w : Nat) : Int) = (cutM n w : Int) ∧ cutM n w < 2 ^ w := by
  have h : (0 : Int) < ((2 ^ w : Nat) : Int) := by rw [pow_cast]; exact pow_pos2 w
  have h1 := Int.emod_nonneg n (show ((2 ^ w : Nat) : Int) ≠ 0 by omega)
  have h2 := Int.emod_lt_of_pos n h
  unfold cutM
  omega
/-- the number that these bits are -/
def cutN (n : Int) (w : Nat) : Int := if cutM n w < 2 ^ (w - 1) then (cutM n w : Int) else (cutM n w : Int) - ((2 ^ w : Nat) : Int)
theorem unum_bitM (M : Nat) : ∀ k, unum (fun i => M / 2 ^ i % 2 == 1) k = ((M % 2 ^ k : Nat) : Int)
  | 0 => by simp [unum, Nat.mod_one]
  | k + 1 => by
    have ih := unum_bitM M k
    show unum (fun i => M / 2 ^ i % 2 == 1) k + b2 (M / 2 ^ k % 2 == 1) * 2 ^ k = _
    rw [ih, Nat.mod_pow_succ]
    have h : M / 2 ^ k % 2 = 0 ∨ M / 2 ^ k % 2 = 1 := by omega
    rcases h with h | h <;> rw [h]
    · show _ + 0 * (2 : Int) ^ k = _
      simp
    · show _ + 1 * (2 : Int) ^ k = _
      rw [← pow_cast]
      omega
theorem bitN_num (n : Int) {w : Nat} (hw : 1 ≤ w) : num (bitN n w) w = cutN n w := by
  obtain ⟨k, rfl⟩ : ∃ k, w = k + 1 := ⟨w - 1, by omega⟩
  have hM := (cutM_int n (k + 1)).2
  unfold num cutN
  have e : unum (bitN n (k + 1)) (k + 1) = ((cutM n (k + 1) % 2 ^ (k + 1) : Nat) : Int) := unum_bitM _ _
  rw [e, Nat.mod_eq_of_lt hM, Nat.add_sub_cancel]
  show _ - b2 (cutM n (k + 1) / 2 ^ k % 2 == 1) * 2 ^ (k + 1) = _
  generalize cutM n (k + 1) = M at *
  have hp : 2 ^ (k + 1) = 2 * 2 ^ k := by rw [Nat.pow_succ]; omega
  rw [← pow_cast]
  have hq : 0 < 2 ^ k := Nat.pos_of_ne_zero (by simp)
  rw [hp] at hM ⊢
  generalize 2 ^ k = q at *
  by_cases h : M < q
  · rw [if_pos h, Nat.div_eq_of_lt h]
    show _ - 0 * _ = _
    omega
  · rw [if_neg h]
    have : M / q = 1 := by
      rw [Nat.div_eq_iff hq]
      omega
    rw [this]
    show _ - 1 * _ = _
    omega
theorem cutN_bd (n : Int) {w : Nat} (hw : 1 ≤ w) : -(2 ^ (w - 1) : Int) ≤ cutN n w ∧ cutN n w < 2 ^ (w - 1) := by
  rw [← bitN_num n hw]
  exact num_bd _ hw
theorem cutN_in {n : Int} {w : Nat} (hw : 1 ≤ w) (h : -(2 ^ (w - 1) : Int) ≤ n ∧ n < 2 ^ (w - 1)) : cutN n w = n := by
  obtain ⟨k, rfl⟩ : ∃ k, w = k + 1 := ⟨w - 1, by omega⟩
  have e1 := (cutM_int n (k + 1)).1
  have e2 := Int.mul_ediv_add_emod n ((2 ^ (k + 1) : Nat) : Int)
  have hb := cutN_bd n hw
  rw [Nat.add_sub_cancel] at hb h
  refine (num_uniq (n := k) (k := (n / ((2 ^ (k + 1) : Nat) : Int)) + (if cutM n (k + 1) < 2 ^ (k + 1 - 1) then 0 else 1)) h hb ?_).symm
  rw [Int.add_mul]
  unfold cutN
  rw [← pow_cast]
  rw [Int.mul_comm] at e2
  by_cases hc : cutM n (k + 1) < 2 ^ (k + 1 - 1)
  · rw [if_pos hc, if_pos hc]; omega
  · rw [if_neg hc, if_neg hc]; omega
end Go.Sy
end

section
set_option maxRecDepth 100000
namespace Go.Sy
open Go.Ev Go.Proofs
variable {base : CallF}
/-- some cells behind a block that is full -/
theorem o_appM {st : Ev.St} {K : AV → Ev.St → Prop} {b sl bytes n bx ox xc : Nat} {xx : Bool} (hb : sl = rlen st.h b) (hpos : 0 < sl) (hn : 0 < n) (hby : (sl + n) * bytes ≤ 140737488355328) (h63 : sl + n ≤ 9223372036854775807) (hx : ox + n ≤ rlen st.h bx)
    (hk : ∀ st', Grown st st' b (sl + n) (fun i => if i < sl then rat st.h b i else rat st.h bx (ox + (i - sl))) → K (.slice st.nx 0 (sl + n) (sl + n) 1 false) st') : onER (appV 1 bytes (.slice b 0 sl sl 1 false) (.slice bx ox n xc 1 xx) st) K := by
  obtain ⟨m, zl, z, cs, hg⟩ := isRow_pos (h := st.h) (b := bx) (by omega)
  obtain ⟨n', zl', z', cs', hg'⟩ := isRow_pos (h := st.h) (b := b) (by omega)
  rw [rlen_get hg] at hx
  rw [rlen_get hg'] at hb
  subst hb
  have e0 : Nat.mul n 1 = n := Nat.mul_one _
  have e1 : Nat.ble (Nat.add ox n) m = true := ble_t hx
  have e3 : Nat.beq (llen (rowCells zl z cs n ox)) n = true := beq_t (by rw [llen_eq, rowCells_eq]; simp)
  have e4 : Nat.ble (Nat.add sl n) sl = false := ble_f (by show sl < sl + n; omega)
  have e5 : Nat.ble (Nat.mul (Nat.add sl n) bytes) 140737488355328 = true := ble_t hby
  have e6 : Nat.ble (Nat.add sl n) 9223372036854775807 = true := ble_t h63
  have e7 : Nat.beq 1 1 = true := rfl
  have e8 : Nat.beq 0 0 = true := rfl
  have e9 : Nat.beq (Nat.mul sl 1) sl = true := beq_t (Nat.mul_one _)
  have e10 : Nat.mul (Nat.add sl n) 1 = sl + n := Nat.mul_one _
  simp only [appV, onLen, firstCells, hg, onRow, force_eq, e0, e1, cond_true, appendWith, e3, hg', e4, cond_false, e5, e6, e7, e8, e9, e10, St.put_eq, St.alloc_eq, onER]
  refine hk _ ⟨rfl, rfl, fun c h1 h2 => ?_, ?_, ?_, fun i hi => ?_⟩
  · show hget ((setF (bitsR st.nx)).run _ ((setF (bitsR b)).run _ st.h)) c = _
    rw [hget_set, if_neg h1, hget_set, if_neg h2]
  · exact ⟨_, _, _, _, by rw [hget_set, if_pos rfl]⟩
  · rw [rlen_row, if_pos rfl]
  · rw [rat_row, if_pos rfl, rat_get hg', rat_get hg, rowCell_setCells]
    have hl : (rowCells zl z cs n ox).length = n := by rw [rowCells_eq]; simp
    have e11 : Nat.mul sl 1 = sl := Nat.mul_one _
    rw [hl]
    by_cases h : i < sl
    · rw [if_pos h, if_neg (by omega)]
    · rw [if_neg h, if_pos (by omega), rowCells_eq, List.getD_eq_getElem?_getD, List.getElem?_map, List.getElem?_range (by omega)]
      rfl

/-- some bools in a slice that is full -/
structure Bl (st : Ev.St) (b n : Nat) (f : Nat → Bool) : Prop where
  lt : b < st.nx
  len : rlen st.h b = n
  cell : ∀ i, i < n → rat st.h b i = .bool (f i)
theorem Bl.kept {s s' : Ev.St} {b n : Nat} {f : Nat → Bool} (h : Bl s b n f) (k : Kept s s') : Bl s' b n f :=
  ⟨Nat.lt_of_lt_of_le h.lt k.nx, (rlen_same (k.keep b h.lt)).trans h.len, fun i hi => (rat_same (k.keep b h.lt) i).trans (h.cell i hi)⟩

theorem Bits_ok (hb : ∀ f args st, f = 24 ∨ f = 32 → base f args st = .no) {n : Int} {w : Nat} (hw1 : 1 ≤ w) (hw : w ≤ 32) (st : Ev.St) (K : AV → Ev.St → Prop)
    (hK : ∀ bo st', Ext st st' → st.nx ≤ bo → Bl st' bo w (bitN n w) → K (.slice bo 0 w w 1 false) st') : CW Try.prog base 24 [.int .i64 n, .int .i64 (w : Int)] st K := by
  refine fn_rule l24 (hb _ _ _ (by decide)) ?_
  simp only [c24, entry, List.map_cons, List.map_nil, List.getD_cons_zero, List.getD_cons_succ]
  unfold b24
  simp (disch := first | assumption | decide | omega) only [qz00, qz01, qz02, qz03, qz04, qz05, qz06, qz07, qz08, qz09, qz0a, qz0b, qz0c, qz0d, qz0e, qz0f, qz0g, qz0h, qz0i, qz0j, qz0k, qz0l, qz0m, qz0n, qz0o, qz0p, qz0q, qz0r, qz0s, qz0t, qz0u, qz0v, qz0w, qz0x, qz0y, qz0z, qz10, qz11, qz12, qz13, qz14, qz15, qz16, qz17, qz18, qz19, qz1a, qz1b, qz1c, qz1d, qz1e, qz1f, qz1g, qz1h, qz1i, qz1j, qz1k, qz1l, qz1m, qz1n, qz1o, qz1p, qz1q, qz1r, qz1s, qz1t, qz1u, qz1v, qz1w, qz1x, qz1y, qz1z, qz20, qz21, qz22, qz23, qz24, qz25, qz26, qz27, qz28, qz29, qz2a, qz2b, qz2c, qz2d, qz2e, qz2f, qz2g, qz2h, qz2i, qz2j, qz2k, qz2l, qz2m, qz2n, qz2o, qz2p, qz2q, qz2r, qz2s, qz2t, qz2u, qz2v, qz2w, qz2x, qz2y, qz2z, qz30, qz31, qz32, qz33, qz34, qz35, qz36, qz37, qz38, qz39, qz3a, qz3b, qz3c, qz3d, Bool.not_true, Bool.not_false, List.cons_append, List.nil_append, List.append_nil]
  refine o_buildS0 fun s1 h1 => ?_
  have k1 : Kept st.bare s1 := (Kept.refl _).made h1
  have n1 : s1.nx = st.nx + 1 := h1.nx
  have s1fr : s1.fr = [] := h1.fr
  have pw := pow_le32 hw
  have hp : 0 < 2 ^ w := Nat.pos_of_ne_zero (by simp)
  obtain ⟨t1, t2, t3⟩ := tmod_bd n hp
  obtain ⟨M1, M2⟩ := cutM_int n w
  rw [M1] at t3
  have eR : ∀ (s : Ev.St) (K : AV → Ev.St → Prop), onER (binV .rem (.int .i64 n) (.int .i64 ((2 ^ w : Nat) : Int)) s) K = K (.int .i64 (n.tmod ((2 ^ w : Nat) : Int))) s := fun s K => v_remI hp s K
  simp (disch := first | assumption | decide | omega) only [qz00, qz01, qz02, qz03, qz04, qz05, qz06, qz07, qz08, qz09, qz0a, qz0b, qz0c, qz0d, qz0e, qz0f, qz0g, qz0h, qz0i, qz0j, qz0k, qz0l, qz0m, qz0n, qz0o, qz0p, qz0q, qz0r, qz0s, qz0t, qz0u, qz0v, qz0w, qz0x, qz0y, qz0z, qz10, qz11, qz12, qz13, qz14, qz15, qz16, qz17, qz18, qz19, qz1a, qz1b, qz1c, qz1d, qz1e, qz1f, qz1g, qz1h, qz1i, qz1j, qz1k, qz1l, qz1m, qz1n, qz1o, qz1p, qz1q, qz1r, qz1s, qz1t, qz1u, qz1v, qz1w, qz1x, qz1y, qz1z, qz20, qz21, qz22, qz23, qz24, qz25, qz26, qz27, qz28, qz29, qz2a, qz2b, qz2c, qz2d, qz2e, qz2f, qz2g, qz2h, qz2i, qz2j, qz2k, qz2l, qz2m, qz2n, qz2o, qz2p, qz2q, qz2r, qz2s, qz2t, qz2u, qz2v, qz2w, qz2x, qz2y, qz2z, qz30, qz31, qz32, qz33, qz34, qz35, qz36, qz37, qz38, qz39, qz3a, qz3b, qz3c, qz3d, Bool.not_true, Bool.not_false, List.cons_append, List.nil_append, List.append_nil]
  refine power_ok (fun a s => hb _ a s (by decide)) w hw s1 _ ?_
  generalize hM : cutM n w = M at *
  have M3 : M < 4294967296 := by omega
  by_cases hneg : n.tmod ((2 ^ w : Nat) : Int) < 0
  · rw [if_pos hneg] at t3
    have eA : ∀ (s : Ev.St) (K : AV → Ev.St → Prop), onER (binV .add (.int .i64 (n.tmod ((2 ^ w : Nat) : Int))) (.int .i64 ((2 ^ w : Nat) : Int)) s) K = K (.int .i64 (M : Int)) s := fun s K => by
      rw [v_add (by omega) (by omega), t3]
    simp (disch := first | assumption | decide | omega) only [eR, qz00, qz01, qz02, qz03, qz04, qz05, qz06, qz07, qz08, qz09, qz0a, qz0b, qz0c, qz0d, qz0e, qz0f, qz0g, qz0h, qz0i, qz0j, qz0k, qz0l, qz0m, qz0n, qz0o, qz0p, qz0q, qz0r, qz0s, qz0t, qz0u, qz0v, qz0w, qz0x, qz0y, qz0z, qz10, qz11, qz12, qz13, qz14, qz15, qz16, qz17, qz18, qz19, qz1a, qz1b, qz1c, qz1d, qz1e, qz1f, qz1g, qz1h, qz1i, qz1j, qz1k, qz1l, qz1m, qz1n, qz1o, qz1p, qz1q, qz1r, qz1s, qz1t, qz1u, qz1v, qz1w, qz1x, qz1y, qz1z, qz20, qz21, qz22, qz23, qz24, qz25, qz26, qz27, qz28, qz29, qz2a, qz2b, qz2c, qz2d, qz2e, qz2f, qz2g, qz2h, qz2i, qz2j, qz2k, qz2l, qz2m, qz2n, qz2o, qz2p, qz2q, qz2r, qz2s, qz2t, qz2u, qz2v, qz2w, qz2x, qz2y, qz2z, qz30, qz31, qz32, qz33, qz34, qz35, qz36, qz37, qz38, qz39, qz3a, qz3b, qz3c, qz3d, Bool.not_true, Bool.not_false, List.cons_append, List.nil_append, List.append_nil]
    refine power_ok (fun a s => hb _ a s (by decide)) w hw s1 _ ?_
    simp (disch := first | assumption | decide | omega) only [eA, qz00, qz01, qz02, qz03, qz04, qz05, qz06, qz07, qz08, qz09, qz0a, qz0b, qz0c, qz0d, qz0e, qz0f, qz0g, qz0h, qz0i, qz0j, qz0k, qz0l, qz0m, qz0n, qz0o, qz0p, qz0q, qz0r, qz0s, qz0t, qz0u, qz0v, qz0w, qz0x, qz0y, qz0z, qz10, qz11, qz12, qz13, qz14, qz15, qz16, qz17, qz18, qz19, qz1a, qz1b, qz1c, qz1d, qz1e, qz1f, qz1g, qz1h, qz1i, qz1j, qz1k, qz1l, qz1m, qz1n, qz1o, qz1p, qz1q, qz1r, qz1s, qz1t, qz1u, qz1v, qz1w, qz1x, qz1y, qz1z, qz20, qz21, qz22, qz23, qz24, qz25, qz26, qz27, qz28, qz29, qz2a, qz2b, qz2c, qz2d, qz2e, qz2f, qz2g, qz2h, qz2i, qz2j, qz2k, qz2l, qz2m, qz2n, qz2o, qz2p, qz2q, qz2r, qz2s, qz2t, qz2u, qz2v, qz2w, qz2x, qz2y, qz2z, qz30, qz31, qz32, qz33, qz34, qz35, qz36, qz37, qz38, qz39, qz3a, qz3b, qz3c, qz3d, Bool.not_true, Bool.not_false, List.cons_append, List.nil_append, List.append_nil]
    refine wC_loopH (fun mm L s => ∃ k bk : Nat, k ≤ w ∧ mm = w - k ∧ Kept s1 s ∧ ((k = 0 ∧ s = s1 ∧ Has L 5 (.slice st.bare.nx 0 0 0 1 true)) ∨ (0 < k ∧ s1.nx ≤ bk ∧ Bl s bk k (fun i => M / 2 ^ i % 2 == 1) ∧ Has L 5 (.slice bk 0 k k 1 false))) ∧ Has L 1 (.int .i64 (w : Int)) ∧ Has L 6 (.int .i64 ((M / 2 ^ k : Nat) : Int)) ∧ Has L 7 (.int .i64 (k : Int))) ?_ w ?_
    · rintro mm L s ⟨k, bk, hk, rfl, ks, h5, i1, i6, i7⟩
      unfold Hold
      have sfr : s.fr = [] := ks.fr.trans s1fr
      by_cases hkw : k < w
      · have d1 : M / 2 ^ k ≤ M := Nat.div_le_self _ _
        have d2 : M / 2 ^ k / 2 = M / 2 ^ (k + 1) := by rw [Nat.div_div_eq_div_mul, Nat.pow_succ]
        have eQ := fun (s : Ev.St) (K : AV → Ev.St → Prop) => v_quoN (a := M / 2 ^ k) (by omega) s K
        have eM := fun (s : Ev.St) (K : AV → Ev.St → Prop) => v_remN (a := M / 2 ^ k) s K
        have eE : ∀ (s : Ev.St) (K : AV → Ev.St → Prop), onER (binV .eql (.int .i64 ((M / 2 ^ k % 2 : Nat) : Int)) (.int .i64 1) s) K = K (.bool (M / 2 ^ k % 2 == 1)) s := fun s K => by
          by_cases h : M / 2 ^ k % 2 = 1
          · rw [qz2y (by omega), h]; rfl
          · rw [qz2z (by omega)]
            have : (M / 2 ^ k % 2 == 1) = false := by simp [h]
            rw [this]
        rcases h5 with ⟨rfl, rfl, i5⟩ | ⟨k0, hbk, B, i5⟩
        · simp (disch := first | assumption | decide | omega) only [r_onh i1, r_onh i5, r_onh i6, r_onh i7, eM, eE, qz00, qz01, qz02, qz03, qz04, qz05, qz06, qz07, qz08, qz09, qz0a, qz0b, qz0c, qz0d, qz0e, qz0f, qz0g, qz0h, qz0i, qz0j, qz0k, qz0l, qz0m, qz0n, qz0o, qz0p, qz0q, qz0r, qz0s, qz0t, qz0u, qz0v, qz0w, qz0x, qz0y, qz0z, qz10, qz11, qz12, qz13, qz14, qz15, qz16, qz17, qz18, qz19, qz1a, qz1b, qz1c, qz1d, qz1e, qz1f, qz1g, qz1h, qz1i, qz1j, qz1k, qz1l, qz1m, qz1n, qz1o, qz1p, qz1q, qz1r, qz1s, qz1t, qz1u, qz1v, qz1w, qz1x, qz1y, qz1z, qz20, qz21, qz22, qz23, qz24, qz25, qz26, qz27, qz28, qz29, qz2a, qz2b, qz2c, qz2d, qz2e, qz2f, qz2g, qz2h, qz2i, qz2j, qz2k, qz2l, qz2m, qz2n, qz2o, qz2p, qz2q, qz2r, qz2s, qz2t, qz2u, qz2v, qz2w, qz2x, qz2y, qz2z, qz30, qz31, qz32, qz33, qz34, qz35, qz36, qz37, qz38, qz39, qz3a, qz3b, qz3c, qz3d, Bool.not_true, Bool.not_false, List.cons_append, List.nil_append, List.append_nil]
          refine o_buildS1 ⟨rfl, rfl, rfl⟩ fun s2 h2 => ?_
          simp (disch := first | assumption | decide | omega) only [qz00, qz01, qz02, qz03, qz04, qz05, qz06, qz07, qz08, qz09, qz0a, qz0b, qz0c, qz0d, qz0e, qz0f, qz0g, qz0h, qz0i, qz0j, qz0k, qz0l, qz0m, qz0n, qz0o, qz0p, qz0q, qz0r, qz0s, qz0t, qz0u, qz0v, qz0w, qz0x, qz0y, qz0z, qz10, qz11, qz12, qz13, qz14, qz15, qz16, qz17, qz18, qz19, qz1a, qz1b, qz1c, qz1d, qz1e, qz1f, qz1g, qz1h, qz1i, qz1j, qz1k, qz1l, qz1m, qz1n, qz1o, qz1p, qz1q, qz1r, qz1s, qz1t, qz1u, qz1v, qz1w, qz1x, qz1y, qz1z, qz20, qz21, qz22, qz23, qz24, qz25, qz26, qz27, qz28, qz29, qz2a, qz2b, qz2c, qz2d, qz2e, qz2f, qz2g, qz2h, qz2i, qz2j, qz2k, qz2l, qz2m, qz2n, qz2o, qz2p, qz2q, qz2r, qz2s, qz2t, qz2u, qz2v, qz2w, qz2x, qz2y, qz2z, qz30, qz31, qz32, qz33, qz34, qz35, qz36, qz37, qz38, qz39, qz3a, qz3b, qz3c, qz3d, Bool.not_true, Bool.not_false, List.cons_append, List.nil_append, List.append_nil]
          have n2 := h2.nx
          have row2 : IsRow s2.h st.bare.nx := by
            obtain ⟨a, b, c, d, e⟩ := h1.row
            exact ⟨a, b, c, d, by rw [h2.keep st.bare.nx (by show st.nx ≠ s.nx; omega)]; exact e⟩
          refine o_app3 (n := 1) row2 (by decide) (by decide) (by decide) (by rw [h2.len]; decide) fun s3 h3 => ?_
          simp (disch := first | assumption | decide | omega) only [r_onh i1, r_onh i6, r_onh i7, eQ, v_addN, qz00, qz01, qz02, qz03, qz04, qz05, qz06, qz07, qz08, qz09, qz0a, qz0b, qz0c, qz0d, qz0e, qz0f, qz0g, qz0h, qz0i, qz0j, qz0k, qz0l, qz0m, qz0n, qz0o, qz0p, qz0q, qz0r, qz0s, qz0t, qz0u, qz0v, qz0w, qz0x, qz0y, qz0z, qz10, qz11, qz12, qz13, qz14, qz15, qz16, qz17, qz18, qz19, qz1a, qz1b, qz1c, qz1d, qz1e, qz1f, qz1g, qz1h, qz1i, qz1j, qz1k, qz1l, qz1m, qz1n, qz1o, qz1p, qz1q, qz1r, qz1s, qz1t, qz1u, qz1v, qz1w, qz1x, qz1y, qz1z, qz20, qz21, qz22, qz23, qz24, qz25, qz26, qz27, qz28, qz29, qz2a, qz2b, qz2c, qz2d, qz2e, qz2f, qz2g, qz2h, qz2i, qz2j, qz2k, qz2l, qz2m, qz2n, qz2o, qz2p, qz2q, qz2r, qz2s, qz2t, qz2u, qz2v, qz2w, qz2x, qz2y, qz2z, qz30, qz31, qz32, qz33, qz34, qz35, qz36, qz37, qz38, qz39, qz3a, qz3b, qz3c, qz3d, Bool.not_true, Bool.not_false, List.cons_append, List.nil_append, List.append_nil]
          refine ⟨w - (0 + 1), by omega, 0 + 1, s2.nx, by omega, rfl, (ks.made h2).made h3, .inr ⟨by omega, by omega, ⟨by have := h3.nx; omega, h3.len, fun i hi => ?_⟩, Has.there (Has.there (Has.here _ _ _) (by decide)) (by decide)⟩, ?_⟩
          · have hi0 : i = 0 := by omega
            subst hi0
            exact (h3.cell 0 (by decide)).trans (h2.cell 0 (by decide))
          · rw [← d2]
            simp (disch := decide) only [z0, z1, h_here, h_skip, i1, true_and, and_true]
        · simp (disch := first | assumption | decide | omega) only [r_onh i1, r_onh i5, r_onh i6, r_onh i7, eM, eE, qz00, qz01, qz02, qz03, qz04, qz05, qz06, qz07, qz08, qz09, qz0a, qz0b, qz0c, qz0d, qz0e, qz0f, qz0g, qz0h, qz0i, qz0j, qz0k, qz0l, qz0m, qz0n, qz0o, qz0p, qz0q, qz0r, qz0s, qz0t, qz0u, qz0v, qz0w, qz0x, qz0y, qz0z, qz10, qz11, qz12, qz13, qz14, qz15, qz16, qz17, qz18, qz19, qz1a, qz1b, qz1c, qz1d, qz1e, qz1f, qz1g, qz1h, qz1i, qz1j, qz1k, qz1l, qz1m, qz1n, qz1o, qz1p, qz1q, qz1r, qz1s, qz1t, qz1u, qz1v, qz1w, qz1x, qz1y, qz1z, qz20, qz21, qz22, qz23, qz24, qz25, qz26, qz27, qz28, qz29, qz2a, qz2b, qz2c, qz2d, qz2e, qz2f, qz2g, qz2h, qz2i, qz2j, qz2k, qz2l, qz2m, qz2n, qz2o, qz2p, qz2q, qz2r, qz2s, qz2t, qz2u, qz2v, qz2w, qz2x, qz2y, qz2z, qz30, qz31, qz32, qz33, qz34, qz35, qz36, qz37, qz38, qz39, qz3a, qz3b, qz3c, qz3d, Bool.not_true, Bool.not_false, List.cons_append, List.nil_append, List.append_nil]
          refine o_buildS1 ⟨rfl, rfl, rfl⟩ fun s2 h2 => ?_
          simp (disch := first | assumption | decide | omega) only [qz00, qz01, qz02, qz03, qz04, qz05, qz06, qz07, qz08, qz09, qz0a, qz0b, qz0c, qz0d, qz0e, qz0f, qz0g, qz0h, qz0i, qz0j, qz0k, qz0l, qz0m, qz0n, qz0o, qz0p, qz0q, qz0r, qz0s, qz0t, qz0u, qz0v, qz0w, qz0x, qz0y, qz0z, qz10, qz11, qz12, qz13, qz14, qz15, qz16, qz17, qz18, qz19, qz1a, qz1b, qz1c, qz1d, qz1e, qz1f, qz1g, qz1h, qz1i, qz1j, qz1k, qz1l, qz1m, qz1n, qz1o, qz1p, qz1q, qz1r, qz1s, qz1t, qz1u, qz1v, qz1w, qz1x, qz1y, qz1z, qz20, qz21, qz22, qz23, qz24, qz25, qz26, qz27, qz28, qz29, qz2a, qz2b, qz2c, qz2d, qz2e, qz2f, qz2g, qz2h, qz2i, qz2j, qz2k, qz2l, qz2m, qz2n, qz2o, qz2p, qz2q, qz2r, qz2s, qz2t, qz2u, qz2v, qz2w, qz2x, qz2y, qz2z, qz30, qz31, qz32, qz33, qz34, qz35, qz36, qz37, qz38, qz39, qz3a, qz3b, qz3c, qz3d, Bool.not_true, Bool.not_false, List.cons_append, List.nil_append, List.append_nil]
          have n2 := h2.nx
          have hlt := B.lt
          have kb : hget s2.h bk = hget s.h bk := h2.keep bk (by omega)
          refine o_app2 (by rw [rlen_same kb, B.len]) k0 (by omega) (by omega) (by omega) h2.len (h2.cell 0 (by decide)) fun s3 h3 => ?_
          have n3 := h3.nx
          have n5 := (ks.made h2).nx
          simp (disch := first | assumption | decide | omega) only [r_onh i1, r_onh i6, r_onh i7, eQ, v_addN, qz00, qz01, qz02, qz03, qz04, qz05, qz06, qz07, qz08, qz09, qz0a, qz0b, qz0c, qz0d, qz0e, qz0f, qz0g, qz0h, qz0i, qz0j, qz0k, qz0l, qz0m, qz0n, qz0o, qz0p, qz0q, qz0r, qz0s, qz0t, qz0u, qz0v, qz0w, qz0x, qz0y, qz0z, qz10, qz11, qz12, qz13, qz14, qz15, qz16, qz17, qz18, qz19, qz1a, qz1b, qz1c, qz1d, qz1e, qz1f, qz1g, qz1h, qz1i, qz1j, qz1k, qz1l, qz1m, qz1n, qz1o, qz1p, qz1q, qz1r, qz1s, qz1t, qz1u, qz1v, qz1w, qz1x, qz1y, qz1z, qz20, qz21, qz22, qz23, qz24, qz25, qz26, qz27, qz28, qz29, qz2a, qz2b, qz2c, qz2d, qz2e, qz2f, qz2g, qz2h, qz2i, qz2j, qz2k, qz2l, qz2m, qz2n, qz2o, qz2p, qz2q, qz2r, qz2s, qz2t, qz2u, qz2v, qz2w, qz2x, qz2y, qz2z, qz30, qz31, qz32, qz33, qz34, qz35, qz36, qz37, qz38, qz39, qz3a, qz3b, qz3c, qz3d, Bool.not_true, Bool.not_false, List.cons_append, List.nil_append, List.append_nil]
          refine ⟨w - (k + 1), by omega, k + 1, s2.nx, by omega, rfl, ⟨by omega, h3.fr.trans (h2.fr.trans ks.fr), fun c hc => (h3.keep c (by omega) (by omega)).trans ((ks.made h2).keep c hc)⟩, .inr ⟨by omega, by omega, ⟨by omega, h3.len, fun i hi => ?_⟩, Has.there (Has.there (Has.here _ _ _) (by decide)) (by decide)⟩, ?_⟩
          · rw [h3.cell i hi]
            by_cases h : i = k
            · rw [if_pos h, h]
            · rw [if_neg h, rat_same kb]; exact B.cell i (by omega)
          · rw [← d2]
            simp (disch := decide) only [z0, z1, h_here, h_skip, i1, true_and, and_true]
      · have hkw' : k = w := by omega
        subst hkw'
        rcases h5 with ⟨k0, _⟩ | ⟨k0, hbk, B, i5⟩
        · omega
        · simp (disch := first | assumption | decide | omega) only [r_onh i1, r_onh i5, r_onh i6, r_onh i7, qz00, qz01, qz02, qz03, qz04, qz05, qz06, qz07, qz08, qz09, qz0a, qz0b, qz0c, qz0d, qz0e, qz0f, qz0g, qz0h, qz0i, qz0j, qz0k, qz0l, qz0m, qz0n, qz0o, qz0p, qz0q, qz0r, qz0s, qz0t, qz0u, qz0v, qz0w, qz0x, qz0y, qz0z, qz10, qz11, qz12, qz13, qz14, qz15, qz16, qz17, qz18, qz19, qz1a, qz1b, qz1c, qz1d, qz1e, qz1f, qz1g, qz1h, qz1i, qz1j, qz1k, qz1l, qz1m, qz1n, qz1o, qz1p, qz1q, qz1r, qz1s, qz1t, qz1u, qz1v, qz1w, qz1x, qz1y, qz1z, qz20, qz21, qz22, qz23, qz24, qz25, qz26, qz27, qz28, qz29, qz2a, qz2b, qz2c, qz2d, qz2e, qz2f, qz2g, qz2h, qz2i, qz2j, qz2k, qz2l, qz2m, qz2n, qz2o, qz2p, qz2q, qz2r, qz2s, qz2t, qz2u, qz2v, qz2w, qz2x, qz2y, qz2z, qz30, qz31, qz32, qz33, qz34, qz35, qz36, qz37, qz38, qz39, qz3a, qz3b, qz3c, qz3d, Bool.not_true, Bool.not_false, List.cons_append, List.nil_append, List.append_nil]
          have kk := k1.trans ks
          have n0 := k1.nx
          have hB : bitN n k = fun i => M / 2 ^ i % 2 == 1 := by funext i; unfold bitN; rw [hM]
          exact hK bk s.bare ⟨kk.nx, rfl, kk.keep⟩ (Nat.le_trans k1.nx hbk) (by rw [hB]; exact ⟨B.lt, B.len, B.cell⟩)
    · have e0 : M / 2 ^ 0 = M := by rw [Nat.pow_zero, Nat.div_one]
      refine ⟨0, 0, by omega, rfl, Kept.refl s1, .inl ⟨rfl, rfl, ?_⟩, ?_⟩
      · simp (disch := decide) only [z0, z1, h_here, h_skip]
      · rw [e0]
        simp (disch := decide) only [z0, z1, h_here, h_skip, true_and, and_true]
  · rw [if_neg hneg] at t3
    have hneg' : 0 ≤ n.tmod ((2 ^ w : Nat) : Int) := by omega
    simp (disch := first | assumption | decide | omega) only [eR, qz00, qz01, qz02, qz03, qz04, qz05, qz06, qz07, qz08, qz09, qz0a, qz0b, qz0c, qz0d, qz0e, qz0f, qz0g, qz0h, qz0i, qz0j, qz0k, qz0l, qz0m, qz0n, qz0o, qz0p, qz0q, qz0r, qz0s, qz0t, qz0u, qz0v, qz0w, qz0x, qz0y, qz0z, qz10, qz11, qz12, qz13, qz14, qz15, qz16, qz17, qz18, qz19, qz1a, qz1b, qz1c, qz1d, qz1e, qz1f, qz1g, qz1h, qz1i, qz1j, qz1k, qz1l, qz1m, qz1n, qz1o, qz1p, qz1q, qz1r, qz1s, qz1t, qz1u, qz1v, qz1w, qz1x, qz1y, qz1z, qz20, qz21, qz22, qz23, qz24, qz25, qz26, qz27, qz28, qz29, qz2a, qz2b, qz2c, qz2d, qz2e, qz2f, qz2g, qz2h, qz2i, qz2j, qz2k, qz2l, qz2m, qz2n, qz2o, qz2p, qz2q, qz2r, qz2s, qz2t, qz2u, qz2v, qz2w, qz2x, qz2y, qz2z, qz30, qz31, qz32, qz33, qz34, qz35, qz36, qz37, qz38, qz39, qz3a, qz3b, qz3c, qz3d, Bool.not_true, Bool.not_false, List.cons_append, List.nil_append, List.append_nil]
    rw [← t3]
    refine wC_loopH (fun mm L s => ∃ k bk : Nat, k ≤ w ∧ mm = w - k ∧ Kept s1 s ∧ ((k = 0 ∧ s = s1 ∧ Has L 5 (.slice st.bare.nx 0 0 0 1 true)) ∨ (0 < k ∧ s1.nx ≤ bk ∧ Bl s bk k (fun i => M / 2 ^ i % 2 == 1) ∧ Has L 5 (.slice bk 0 k k 1 false))) ∧ Has L 1 (.int .i64 (w : Int)) ∧ Has L 6 (.int .i64 ((M / 2 ^ k : Nat) : Int)) ∧ Has L 7 (.int .i64 (k : Int))) ?_ w ?_
    · rintro mm L s ⟨k, bk, hk, rfl, ks, h5, i1, i6, i7⟩
      unfold Hold
      have sfr : s.fr = [] := ks.fr.trans s1fr
      by_cases hkw : k < w
      · have d1 : M / 2 ^ k ≤ M := Nat.div_le_self _ _
        have d2 : M / 2 ^ k / 2 = M / 2 ^ (k + 1) := by rw [Nat.div_div_eq_div_mul, Nat.pow_succ]
        have eQ := fun (s : Ev.St) (K : AV → Ev.St → Prop) => v_quoN (a := M / 2 ^ k) (by omega) s K
        have eM := fun (s : Ev.St) (K : AV → Ev.St → Prop) => v_remN (a := M / 2 ^ k) s K
        have eE : ∀ (s : Ev.St) (K : AV → Ev.St → Prop), onER (binV .eql (.int .i64 ((M / 2 ^ k % 2 : Nat) : Int)) (.int .i64 1) s) K = K (.bool (M / 2 ^ k % 2 == 1)) s := fun s K => by
          by_cases h : M / 2 ^ k % 2 = 1
          · rw [qz2y (by omega), h]; rfl
          · rw [qz2z (by omega)]
            have : (M / 2 ^ k % 2 == 1) = false := by simp [h]
            rw [this]
        rcases h5 with ⟨rfl, rfl, i5⟩ | ⟨k0, hbk, B, i5⟩
        · simp (disch := first | assumption | decide | omega) only [r_onh i1, r_onh i5, r_onh i6, r_onh i7, eM, eE, qz00, qz01, qz02, qz03, qz04, qz05, qz06, qz07, qz08, qz09, qz0a, qz0b, qz0c, qz0d, qz0e, qz0f, qz0g, qz0h, qz0i, qz0j, qz0k, qz0l, qz0m, qz0n, qz0o, qz0p, qz0q, qz0r, qz0s, qz0t, qz0u, qz0v, qz0w, qz0x, qz0y, qz0z, qz10, qz11, qz12, qz13, qz14, qz15, qz16, qz17, qz18, qz19, qz1a, qz1b, qz1c, qz1d, qz1e, qz1f, qz1g, qz1h, qz1i, qz1j, qz1k, qz1l, qz1m, qz1n, qz1o, qz1p, qz1q, qz1r, qz1s, qz1t, qz1u, qz1v, qz1w, qz1x, qz1y, qz1z, qz20, qz21, qz22, qz23, qz24, qz25, qz26, qz27, qz28, qz29, qz2a, qz2b, qz2c, qz2d, qz2e, qz2f, qz2g, qz2h, qz2i, qz2j, qz2k, qz2l, qz2m, qz2n, qz2o, qz2p, qz2q, qz2r, qz2s, qz2t, qz2u, qz2v, qz2w, qz2x, qz2y, qz2z, qz30, qz31, qz32, qz33, qz34, qz35, qz36, qz37, qz38, qz39, qz3a, qz3b, qz3c, qz3d, Bool.not_true, Bool.not_false, List.cons_append, List.nil_append, List.append_nil]
          refine o_buildS1 ⟨rfl, rfl, rfl⟩ fun s2 h2 => ?_
          simp (disch := first | assumption | decide | omega) only [qz00, qz01, qz02, qz03, qz04, qz05, qz06, qz07, qz08, qz09, qz0a, qz0b, qz0c, qz0d, qz0e, qz0f, qz0g, qz0h, qz0i, qz0j, qz0k, qz0l, qz0m, qz0n, qz0o, qz0p, qz0q, qz0r, qz0s, qz0t, qz0u, qz0v, qz0w, qz0x, qz0y, qz0z, qz10, qz11, qz12, qz13, qz14, qz15, qz16, qz17, qz18, qz19, qz1a, qz1b, qz1c, qz1d, qz1e, qz1f, qz1g, qz1h, qz1i, qz1j, qz1k, qz1l, qz1m, qz1n, qz1o, qz1p, qz1q, qz1r, qz1s, qz1t, qz1u, qz1v, qz1w, qz1x, qz1y, qz1z, qz20, qz21, qz22, qz23, qz24, qz25, qz26, qz27, qz28, qz29, qz2a, qz2b, qz2c, qz2d, qz2e, qz2f, qz2g, qz2h, qz2i, qz2j, qz2k, qz2l, qz2m, qz2n, qz2o, qz2p, qz2q, qz2r, qz2s, qz2t, qz2u, qz2v, qz2w, qz2x, qz2y, qz2z, qz30, qz31, qz32, qz33, qz34, qz35, qz36, qz37, qz38, qz39, qz3a, qz3b, qz3c, qz3d, Bool.not_true, Bool.not_false, List.cons_append, List.nil_append, List.append_nil]
          have n2 := h2.nx
          have row2 : IsRow s2.h st.bare.nx := by
            obtain ⟨a, b, c, d, e⟩ := h1.row
            exact ⟨a, b, c, d, by rw [h2.keep st.bare.nx (by show st.nx ≠ s.nx; omega)]; exact e⟩
          refine o_app3 (n := 1) row2 (by decide) (by decide) (by decide) (by rw [h2.len]; decide) fun s3 h3 => ?_
          simp (disch := first | assumption | decide | omega) only [r_onh i1, r_onh i6, r_onh i7, eQ, v_addN, qz00, qz01, qz02, qz03, qz04, qz05, qz06, qz07, qz08, qz09, qz0a, qz0b, qz0c, qz0d, qz0e, qz0f, qz0g, qz0h, qz0i, qz0j, qz0k, qz0l, qz0m, qz0n, qz0o, qz0p, qz0q, qz0r, qz0s, qz0t, qz0u, qz0v, qz0w, qz0x, qz0y, qz0z, qz10, qz11, qz12, qz13, qz14, qz15, qz16, qz17, qz18, qz19, qz1a, qz1b, qz1c, qz1d, qz1e, qz1f, qz1g, qz1h, qz1i, qz1j, qz1k, qz1l, qz1m, qz1n, qz1o, qz1p, qz1q, qz1r, qz1s, qz1t, qz1u, qz1v, qz1w, qz1x, qz1y, qz1z, qz20, qz21, qz22, qz23, qz24, qz25, qz26, qz27, qz28, qz29, qz2a, qz2b, qz2c, qz2d, qz2e, qz2f, qz2g, qz2h, qz2i, qz2j, qz2k, qz2l, qz2m, qz2n, qz2o, qz2p, qz2q, qz2r, qz2s, qz2t, qz2u, qz2v, qz2w, qz2x, qz2y, qz2z, qz30, qz31, qz32, qz33, qz34, qz35, qz36, qz37, qz38, qz39, qz3a, qz3b, qz3c, qz3d, Bool.not_true, Bool.not_false, List.cons_append, List.nil_append, List.append_nil]
          refine ⟨w - (0 + 1), by omega, 0 + 1, s2.nx, by omega, rfl, (ks.made h2).made h3, .inr ⟨by omega, by omega, ⟨by have := h3.nx; omega, h3.len, fun i hi => ?_⟩, Has.there (Has.there (Has.here _ _ _) (by decide)) (by decide)⟩, ?_⟩
          · have hi0 : i = 0 := by omega
            subst hi0
            exact (h3.cell 0 (by decide)).trans (h2.cell 0 (by decide))
          · rw [← d2]
            simp (disch := decide) only [z0, z1, h_here, h_skip, i1, true_and, and_true]
        · simp (disch := first | assumption | decide | omega) only [r_onh i1, r_onh i5, r_onh i6, r_onh i7, eM, eE, qz00, qz01, qz02, qz03, qz04, qz05, qz06, qz07, qz08, qz09, qz0a, qz0b, qz0c, qz0d, qz0e, qz0f, qz0g, qz0h, qz0i, qz0j, qz0k, qz0l, qz0m, qz0n, qz0o, qz0p, qz0q, qz0r, qz0s, qz0t, qz0u, qz0v, qz0w, qz0x, qz0y, qz0z, qz10, qz11, qz12, qz13, qz14, qz15, qz16, qz17, qz18, qz19, qz1a, qz1b, qz1c, qz1d, qz1e, qz1f, qz1g, qz1h, qz1i, qz1j, qz1k, qz1l, qz1m, qz1n, qz1o, qz1p, qz1q, qz1r, qz1s, qz1t, qz1u, qz1v, qz1w, qz1x, qz1y, qz1z, qz20, qz21, qz22, qz23, qz24, qz25, qz26, qz27, qz28, qz29, qz2a, qz2b, qz2c, qz2d, qz2e, qz2f, qz2g, qz2h, qz2i, qz2j, qz2k, qz2l, qz2m, qz2n, qz2o, qz2p, qz2q, qz2r, qz2s, qz2t, qz2u, qz2v, qz2w, qz2x, qz2y, qz2z, qz30, qz31, qz32, qz33, qz34, qz35, qz36, qz37, qz38, qz39, qz3a, qz3b, qz3c, qz3d, Bool.not_true, Bool.not_false, List.cons_append, List.nil_append, List.append_nil]
          refine o_buildS1 ⟨rfl, rfl, rfl⟩ fun s2 h2 => ?_
          simp (disch := first | assumption | decide | omega) only [qz00, qz01, qz02, qz03, qz04, qz05, qz06, qz07, qz08, qz09, qz0a, qz0b, qz0c, qz0d, qz0e, qz0f, qz0g, qz0h, qz0i, qz0j, qz0k, qz0l, qz0m, qz0n, qz0o, qz0p, qz0q, qz0r, qz0s, qz0t, qz0u, qz0v, qz0w, qz0x, qz0y, qz0z, qz10, qz11, qz12, qz13, qz14, qz15, qz16, qz17, qz18, qz19, qz1a, qz1b, qz1c, qz1d, qz1e, qz1f, qz1g, qz1h, qz1i, qz1j, qz1k, qz1l, qz1m, qz1n, qz1o, qz1p, qz1q, qz1r, qz1s, qz1t, qz1u, qz1v, qz1w, qz1x, qz1y, qz1z, qz20, qz21, qz22, qz23, qz24, qz25, qz26, qz27, qz28, qz29, qz2a, qz2b, qz2c, qz2d, qz2e, qz2f, qz2g, qz2h, qz2i, qz2j, qz2k, qz2l, qz2m, qz2n, qz2o, qz2p, qz2q, qz2r, qz2s, qz2t, qz2u, qz2v, qz2w, qz2x, qz2y, qz2z, qz30, qz31, qz32, qz33, qz34, qz35, qz36, qz37, qz38, qz39, qz3a, qz3b, qz3c, qz3d, Bool.not_true, Bool.not_false, List.cons_append, List.nil_append, List.append_nil]
          have n2 := h2.nx
          have hlt := B.lt
          have kb : hget s2.h bk = hget s.h bk := h2.keep bk (by omega)
          refine o_app2 (by rw [rlen_same kb, B.len]) k0 (by omega) (by omega) (by omega) h2.len (h2.cell 0 (by decide)) fun s3 h3 => ?_
          have n3 := h3.nx
          have n5 := (ks.made h2).nx
          simp (disch := first | assumption | decide | omega) only [r_onh i1, r_onh i6, r_onh i7, eQ, v_addN, qz00, qz01, qz02, qz03, qz04, qz05, qz06, qz07, qz08, qz09, qz0a, qz0b, qz0c, qz0d, qz0e, qz0f, qz0g, qz0h, qz0i, qz0j, qz0k, qz0l, qz0m, qz0n, qz0o, qz0p, qz0q, qz0r, qz0s, qz0t, qz0u, qz0v, qz0w, qz0x, qz0y, qz0z, qz10, qz11, qz12, qz13, qz14, qz15, qz16, qz17, qz18, qz19, qz1a, qz1b, qz1c, qz1d, qz1e, qz1f, qz1g, qz1h, qz1i, qz1j, qz1k, qz1l, qz1m, qz1n, qz1o, qz1p, qz1q, qz1r, qz1s, qz1t, qz1u, qz1v, qz1w, qz1x, qz1y, qz1z, qz20, qz21, qz22, qz23, qz24, qz25, qz26, qz27, qz28, qz29, qz2a, qz2b, qz2c, qz2d, qz2e, qz2f, qz2g, qz2h, qz2i, qz2j, qz2k, qz2l, qz2m, qz2n, qz2o, qz2p, qz2q, qz2r, qz2s, qz2t, qz2u, qz2v, qz2w, qz2x, qz2y, qz2z, qz30, qz31, qz32, qz33, qz34, qz35, qz36, qz37, qz38, qz39, qz3a, qz3b, qz3c, qz3d, Bool.not_true, Bool.not_false, List.cons_append, List.nil_append, List.append_nil]
          refine ⟨w - (k + 1), by omega, k + 1, s2.nx, by omega, rfl, ⟨by omega, h3.fr.trans (h2.fr.trans ks.fr), fun c hc => (h3.keep c (by omega) (by omega)).trans ((ks.made h2).keep c hc)⟩, .inr ⟨by omega, by omega, ⟨by omega, h3.len, fun i hi => ?_⟩, Has.there (Has.there (Has.here _ _ _) (by decide)) (by decide)⟩, ?_⟩
          · rw [h3.cell i hi]
            by_cases h : i = k
            · rw [if_pos h, h]
            · rw [if_neg h, rat_same kb]; exact B.cell i (by omega)
          · rw [← d2]
            simp (disch := decide) only [z0, z1, h_here, h_skip, i1, true_and, and_true]
      · have hkw' : k = w := by omega
        subst hkw'
        rcases h5 with ⟨k0, _⟩ | ⟨k0, hbk, B, i5⟩
        · omega
        · simp (disch := first | assumption | decide | omega) only [r_onh i1, r_onh i5, r_onh i6, r_onh i7, qz00, qz01, qz02, qz03, qz04, qz05, qz06, qz07, qz08, qz09, qz0a, qz0b, qz0c, qz0d, qz0e, qz0f, qz0g, qz0h, qz0i, qz0j, qz0k, qz0l, qz0m, qz0n, qz0o, qz0p, qz0q, qz0r, qz0s, qz0t, qz0u, qz0v, qz0w, qz0x, qz0y, qz0z, qz10, qz11, qz12, qz13, qz14, qz15, qz16, qz17, qz18, qz19, qz1a, qz1b, qz1c, qz1d, qz1e, qz1f, qz1g, qz1h, qz1i, qz1j, qz1k, qz1l, qz1m, qz1n, qz1o, qz1p, qz1q, qz1r, qz1s, qz1t, qz1u, qz1v, qz1w, qz1x, qz1y, qz1z, qz20, qz21, qz22, qz23, qz24, qz25, qz26, qz27, qz28, qz29, qz2a, qz2b, qz2c, qz2d, qz2e, qz2f, qz2g, qz2h, qz2i, qz2j, qz2k, qz2l, qz2m, qz2n, qz2o, qz2p, qz2q, qz2r, qz2s, qz2t, qz2u, qz2v, qz2w, qz2x, qz2y, qz2z, qz30, qz31, qz32, qz33, qz34, qz35, qz36, qz37, qz38, qz39, qz3a, qz3b, qz3c, qz3d, Bool.not_true, Bool.not_false, List.cons_append, List.nil_append, List.append_nil]
          have kk := k1.trans ks
          have n0 := k1.nx
          have hB : bitN n k = fun i => M / 2 ^ i % 2 == 1 := by funext i; unfold bitN; rw [hM]
          exact hK bk s.bare ⟨kk.nx, rfl, kk.keep⟩ (Nat.le_trans k1.nx hbk) (by rw [hB]; exact ⟨B.lt, B.len, B.cell⟩)
    · have e0 : M / 2 ^ 0 = M := by rw [Nat.pow_zero, Nat.div_one]
      refine ⟨0, 0, by omega, rfl, Kept.refl s1, .inl ⟨rfl, rfl, ?_⟩, ?_⟩
      · simp (disch := decide) only [z0, z1, h_here, h_skip]
      · rw [e0]
        simp (disch := decide) only [z0, z1, h_here, h_skip, true_and, and_true]
end Go.Sy
end

section
set_option maxRecDepth 100000
namespace Go.Sy
open Go.Ev Go.Proofs
variable {base : CallF}
theorem Cut_ok (hb : ∀ f args st, f = 26 ∨ f = 32 → base f args st = .no) {n : Int} {w : Nat} (hw1 : 1 ≤ w) (hw : w ≤ 32) (st : Ev.St) (K : AV → Ev.St → Prop)
    (hK : K (.int .i64 (cutN n w)) st.bare) : CW Try.prog base 26 [.int .i64 n, .int .i64 (w : Int)] st K := by
  refine fn_rule l26 (hb _ _ _ (by decide)) ?_
  simp only [c26, entry, List.map_cons, List.map_nil, List.getD_cons_zero, List.getD_cons_succ]
  unfold b26
  have pw := pow_le32 hw
  have hp : 0 < 2 ^ w := Nat.pos_of_ne_zero (by simp)
  obtain ⟨t1, t2, t3⟩ := tmod_bd n hp
  obtain ⟨M1, M2⟩ := cutM_int n w
  rw [M1] at t3
  have eR : ∀ (s : Ev.St) (K : AV → Ev.St → Prop), onER (binV .rem (.int .i64 n) (.int .i64 ((2 ^ w : Nat) : Int)) s) K = K (.int .i64 (n.tmod ((2 ^ w : Nat) : Int))) s := fun s K => v_remI hp s K
  unfold cutN at hK
  simp (disch := first | assumption | decide | omega) only [qz00, qz01, qz02, qz03, qz04, qz05, qz06, qz07, qz08, qz09, qz0a, qz0b, qz0c, qz0d, qz0e, qz0f, qz0g, qz0h, qz0i, qz0j, qz0k, qz0l, qz0m, qz0n, qz0o, qz0p, qz0q, qz0r, qz0s, qz0t, qz0u, qz0v, qz0w, qz0x, qz0y, qz0z, qz10, qz11, qz12, qz13, qz14, qz15, qz16, qz17, qz18, qz19, qz1a, qz1b, qz1c, qz1d, qz1e, qz1f, qz1g, qz1h, qz1i, qz1j, qz1k, qz1l, qz1m, qz1n, qz1o, qz1p, qz1q, qz1r, qz1s, qz1t, qz1u, qz1v, qz1w, qz1x, qz1y, qz1z, qz20, qz21, qz22, qz23, qz24, qz25, qz26, qz27, qz28, qz29, qz2a, qz2b, qz2c, qz2d, qz2e, qz2f, qz2g, qz2h, qz2i, qz2j, qz2k, qz2l, qz2m, qz2n, qz2o, qz2p, qz2q, qz2r, qz2s, qz2t, qz2u, qz2v, qz2w, qz2x, qz2y, qz2z, qz30, qz31, qz32, qz33, qz34, qz35, qz36, qz37, qz38, qz39, qz3a, qz3b, qz3c, qz3d, Bool.not_true, Bool.not_false, List.cons_append, List.nil_append, List.append_nil]
  refine power_ok (fun a s => hb _ a s (by decide)) w hw st.bare _ ?_
  generalize hM : cutM n w = M at *
  have M3 : M < 4294967296 := by omega
  have eS : ∀ (s : Ev.St) (K : AV → Ev.St → Prop), onER (binV .sub (.int .i64 (M : Int)) (.int .i64 ((2 ^ w : Nat) : Int)) s) K = K (.int .i64 ((M : Int) - ((2 ^ w : Nat) : Int))) s := fun s K => by
    rw [v_sub (by omega) (by omega)]
  have eW : 0 < w := by omega
  by_cases hneg : n.tmod ((2 ^ w : Nat) : Int) < 0
  · rw [if_pos hneg] at t3
    have eA : ∀ (s : Ev.St) (K : AV → Ev.St → Prop), onER (binV .add (.int .i64 (n.tmod ((2 ^ w : Nat) : Int))) (.int .i64 ((2 ^ w : Nat) : Int)) s) K = K (.int .i64 (M : Int)) s := fun s K => by
      rw [v_add (by omega) (by omega), t3]
    simp (disch := first | assumption | decide | omega) only [eR, qz00, qz01, qz02, qz03, qz04, qz05, qz06, qz07, qz08, qz09, qz0a, qz0b, qz0c, qz0d, qz0e, qz0f, qz0g, qz0h, qz0i, qz0j, qz0k, qz0l, qz0m, qz0n, qz0o, qz0p, qz0q, qz0r, qz0s, qz0t, qz0u, qz0v, qz0w, qz0x, qz0y, qz0z, qz10, qz11, qz12, qz13, qz14, qz15, qz16, qz17, qz18, qz19, qz1a, qz1b, qz1c, qz1d, qz1e, qz1f, qz1g, qz1h, qz1i, qz1j, qz1k, qz1l, qz1m, qz1n, qz1o, qz1p, qz1q, qz1r, qz1s, qz1t, qz1u, qz1v, qz1w, qz1x, qz1y, qz1z, qz20, qz21, qz22, qz23, qz24, qz25, qz26, qz27, qz28, qz29, qz2a, qz2b, qz2c, qz2d, qz2e, qz2f, qz2g, qz2h, qz2i, qz2j, qz2k, qz2l, qz2m, qz2n, qz2o, qz2p, qz2q, qz2r, qz2s, qz2t, qz2u, qz2v, qz2w, qz2x, qz2y, qz2z, qz30, qz31, qz32, qz33, qz34, qz35, qz36, qz37, qz38, qz39, qz3a, qz3b, qz3c, qz3d, Bool.not_true, Bool.not_false, List.cons_append, List.nil_append, List.append_nil]
    refine power_ok (fun a s => hb _ a s (by decide)) w hw st.bare _ ?_
    simp (disch := first | assumption | decide | omega) only [eA, qz00, qz01, qz02, qz03, qz04, qz05, qz06, qz07, qz08, qz09, qz0a, qz0b, qz0c, qz0d, qz0e, qz0f, qz0g, qz0h, qz0i, qz0j, qz0k, qz0l, qz0m, qz0n, qz0o, qz0p, qz0q, qz0r, qz0s, qz0t, qz0u, qz0v, qz0w, qz0x, qz0y, qz0z, qz10, qz11, qz12, qz13, qz14, qz15, qz16, qz17, qz18, qz19, qz1a, qz1b, qz1c, qz1d, qz1e, qz1f, qz1g, qz1h, qz1i, qz1j, qz1k, qz1l, qz1m, qz1n, qz1o, qz1p, qz1q, qz1r, qz1s, qz1t, qz1u, qz1v, qz1w, qz1x, qz1y, qz1z, qz20, qz21, qz22, qz23, qz24, qz25, qz26, qz27, qz28, qz29, qz2a, qz2b, qz2c, qz2d, qz2e, qz2f, qz2g, qz2h, qz2i, qz2j, qz2k, qz2l, qz2m, qz2n, qz2o, qz2p, qz2q, qz2r, qz2s, qz2t, qz2u, qz2v, qz2w, qz2x, qz2y, qz2z, qz30, qz31, qz32, qz33, qz34, qz35, qz36, qz37, qz38, qz39, qz3a, qz3b, qz3c, qz3d, Bool.not_true, Bool.not_false, List.cons_append, List.nil_append, List.append_nil]
    refine power_ok (fun a s => hb _ a s (by decide)) (w - 1) (by omega) st.bare _ ?_
    by_cases hc : M < 2 ^ (w - 1)
    · rw [if_pos hc] at hK
      have hc' : (M : Int) < ((2 ^ (w - 1) : Nat) : Int) := by omega
      simp (disch := first | assumption | decide | omega) only [qz00, qz01, qz02, qz03, qz04, qz05, qz06, qz07, qz08, qz09, qz0a, qz0b, qz0c, qz0d, qz0e, qz0f, qz0g, qz0h, qz0i, qz0j, qz0k, qz0l, qz0m, qz0n, qz0o, qz0p, qz0q, qz0r, qz0s, qz0t, qz0u, qz0v, qz0w, qz0x, qz0y, qz0z, qz10, qz11, qz12, qz13, qz14, qz15, qz16, qz17, qz18, qz19, qz1a, qz1b, qz1c, qz1d, qz1e, qz1f, qz1g, qz1h, qz1i, qz1j, qz1k, qz1l, qz1m, qz1n, qz1o, qz1p, qz1q, qz1r, qz1s, qz1t, qz1u, qz1v, qz1w, qz1x, qz1y, qz1z, qz20, qz21, qz22, qz23, qz24, qz25, qz26, qz27, qz28, qz29, qz2a, qz2b, qz2c, qz2d, qz2e, qz2f, qz2g, qz2h, qz2i, qz2j, qz2k, qz2l, qz2m, qz2n, qz2o, qz2p, qz2q, qz2r, qz2s, qz2t, qz2u, qz2v, qz2w, qz2x, qz2y, qz2z, qz30, qz31, qz32, qz33, qz34, qz35, qz36, qz37, qz38, qz39, qz3a, qz3b, qz3c, qz3d, Bool.not_true, Bool.not_false, List.cons_append, List.nil_append, List.append_nil]
      exact hK
    · rw [if_neg hc] at hK
      have hc' : ((2 ^ (w - 1) : Nat) : Int) ≤ (M : Int) := by omega
      simp (disch := first | assumption | decide | omega) only [qz00, qz01, qz02, qz03, qz04, qz05, qz06, qz07, qz08, qz09, qz0a, qz0b, qz0c, qz0d, qz0e, qz0f, qz0g, qz0h, qz0i, qz0j, qz0k, qz0l, qz0m, qz0n, qz0o, qz0p, qz0q, qz0r, qz0s, qz0t, qz0u, qz0v, qz0w, qz0x, qz0y, qz0z, qz10, qz11, qz12, qz13, qz14, qz15, qz16, qz17, qz18, qz19, qz1a, qz1b, qz1c, qz1d, qz1e, qz1f, qz1g, qz1h, qz1i, qz1j, qz1k, qz1l, qz1m, qz1n, qz1o, qz1p, qz1q, qz1r, qz1s, qz1t, qz1u, qz1v, qz1w, qz1x, qz1y, qz1z, qz20, qz21, qz22, qz23, qz24, qz25, qz26, qz27, qz28, qz29, qz2a, qz2b, qz2c, qz2d, qz2e, qz2f, qz2g, qz2h, qz2i, qz2j, qz2k, qz2l, qz2m, qz2n, qz2o, qz2p, qz2q, qz2r, qz2s, qz2t, qz2u, qz2v, qz2w, qz2x, qz2y, qz2z, qz30, qz31, qz32, qz33, qz34, qz35, qz36, qz37, qz38, qz39, qz3a, qz3b, qz3c, qz3d, Bool.not_true, Bool.not_false, List.cons_append, List.nil_append, List.append_nil]
      refine power_ok (fun a s => hb _ a s (by decide)) w hw st.bare _ ?_
      simp (disch := first | assumption | decide | omega) only [eS, qz00, qz01, qz02, qz03, qz04, qz05, qz06, qz07, qz08, qz09, qz0a, qz0b, qz0c, qz0d, qz0e, qz0f, qz0g, qz0h, qz0i, qz0j, qz0k, qz0l, qz0m, qz0n, qz0o, qz0p, qz0q, qz0r, qz0s, qz0t, qz0u, qz0v, qz0w, qz0x, qz0y, qz0z, qz10, qz11, qz12, qz13, qz14, qz15, qz16, qz17, qz18, qz19, qz1a, qz1b, qz1c, qz1d, qz1e, qz1f, qz1g, qz1h, qz1i, qz1j, qz1k, qz1l, qz1m, qz1n, qz1o, qz1p, qz1q, qz1r, qz1s, qz1t, qz1u, qz1v, qz1w, qz1x, qz1y, qz1z, qz20, qz21, qz22, qz23, qz24, qz25, qz26, qz27, qz28, qz29, qz2a, qz2b, qz2c, qz2d, qz2e, qz2f, qz2g, qz2h, qz2i, qz2j, qz2k, qz2l, qz2m, qz2n, qz2o, qz2p, qz2q, qz2r, qz2s, qz2t, qz2u, qz2v, qz2w, qz2x, qz2y, qz2z, qz30, qz31, qz32, qz33, qz34, qz35, qz36, qz37, qz38, qz39, qz3a, qz3b, qz3c, qz3d, Bool.not_true, Bool.not_false, List.cons_append, List.nil_append, List.append_nil]
      exact hK
  · rw [if_neg hneg] at t3
    have hneg' : 0 ≤ n.tmod ((2 ^ w : Nat) : Int) := by omega
    simp (disch := first | assumption | decide | omega) only [eR, qz00, qz01, qz02, qz03, qz04, qz05, qz06, qz07, qz08, qz09, qz0a, qz0b, qz0c, qz0d, qz0e, qz0f, qz0g, qz0h, qz0i, qz0j, qz0k, qz0l, qz0m, qz0n, qz0o, qz0p, qz0q, qz0r, qz0s, qz0t, qz0u, qz0v, qz0w, qz0x, qz0y, qz0z, qz10, qz11, qz12, qz13, qz14, qz15, qz16, qz17, qz18, qz19, qz1a, qz1b, qz1c, qz1d, qz1e, qz1f, qz1g, qz1h, qz1i, qz1j, qz1k, qz1l, qz1m, qz1n, qz1o, qz1p, qz1q, qz1r, qz1s, qz1t, qz1u, qz1v, qz1w, qz1x, qz1y, qz1z, qz20, qz21, qz22, qz23, qz24, qz25, qz26, qz27, qz28, qz29, qz2a, qz2b, qz2c, qz2d, qz2e, qz2f, qz2g, qz2h, qz2i, qz2j, qz2k, qz2l, qz2m, qz2n, qz2o, qz2p, qz2q, qz2r, qz2s, qz2t, qz2u, qz2v, qz2w, qz2x, qz2y, qz2z, qz30, qz31, qz32, qz33, qz34, qz35, qz36, qz37, qz38, qz39, qz3a, qz3b, qz3c, qz3d, Bool.not_true, Bool.not_false, List.cons_append, List.nil_append, List.append_nil]
    rw [← t3]
    try simp (disch := first | assumption | decide | omega) only [qz00, qz01, qz02, qz03, qz04, qz05, qz06, qz07, qz08, qz09, qz0a, qz0b, qz0c, qz0d, qz0e, qz0f, qz0g, qz0h, qz0i, qz0j, qz0k, qz0l, qz0m, qz0n, qz0o, qz0p, qz0q, qz0r, qz0s, qz0t, qz0u, qz0v, qz0w, qz0x, qz0y, qz0z, qz10, qz11, qz12, qz13, qz14, qz15, qz16, qz17, qz18, qz19, qz1a, qz1b, qz1c, qz1d, qz1e, qz1f, qz1g, qz1h, qz1i, qz1j, qz1k, qz1l, qz1m, qz1n, qz1o, qz1p, qz1q, qz1r, qz1s, qz1t, qz1u, qz1v, qz1w, qz1x, qz1y, qz1z, qz20, qz21, qz22, qz23, qz24, qz25, qz26, qz27, qz28, qz29, qz2a, qz2b, qz2c, qz2d, qz2e, qz2f, qz2g, qz2h, qz2i, qz2j, qz2k, qz2l, qz2m, qz2n, qz2o, qz2p, qz2q, qz2r, qz2s, qz2t, qz2u, qz2v, qz2w, qz2x, qz2y, qz2z, qz30, qz31, qz32, qz33, qz34, qz35, qz36, qz37, qz38, qz39, qz3a, qz3b, qz3c, qz3d, Bool.not_true, Bool.not_false, List.cons_append, List.nil_append, List.append_nil]
    refine power_ok (fun a s => hb _ a s (by decide)) (w - 1) (by omega) st.bare _ ?_
    by_cases hc : M < 2 ^ (w - 1)
    · rw [if_pos hc] at hK
      have hc' : (M : Int) < ((2 ^ (w - 1) : Nat) : Int) := by omega
      simp (disch := first | assumption | decide | omega) only [qz00, qz01, qz02, qz03, qz04, qz05, qz06, qz07, qz08, qz09, qz0a, qz0b, qz0c, qz0d, qz0e, qz0f, qz0g, qz0h, qz0i, qz0j, qz0k, qz0l, qz0m, qz0n, qz0o, qz0p, qz0q, qz0r, qz0s, qz0t, qz0u, qz0v, qz0w, qz0x, qz0y, qz0z, qz10, qz11, qz12, qz13, qz14, qz15, qz16, qz17, qz18, qz19, qz1a, qz1b, qz1c, qz1d, qz1e, qz1f, qz1g, qz1h, qz1i, qz1j, qz1k, qz1l, qz1m, qz1n, qz1o, qz1p, qz1q, qz1r, qz1s, qz1t, qz1u, qz1v, qz1w, qz1x, qz1y, qz1z, qz20, qz21, qz22, qz23, qz24, qz25, qz26, qz27, qz28, qz29, qz2a, qz2b, qz2c, qz2d, qz2e, qz2f, qz2g, qz2h, qz2i, qz2j, qz2k, qz2l, qz2m, qz2n, qz2o, qz2p, qz2q, qz2r, qz2s, qz2t, qz2u, qz2v, qz2w, qz2x, qz2y, qz2z, qz30, qz31, qz32, qz33, qz34, qz35, qz36, qz37, qz38, qz39, qz3a, qz3b, qz3c, qz3d, Bool.not_true, Bool.not_false, List.cons_append, List.nil_append, List.append_nil]
      exact hK
    · rw [if_neg hc] at hK
      have hc' : ((2 ^ (w - 1) : Nat) : Int) ≤ (M : Int) := by omega
      simp (disch := first | assumption | decide | omega) only [qz00, qz01, qz02, qz03, qz04, qz05, qz06, qz07, qz08, qz09, qz0a, qz0b, qz0c, qz0d, qz0e, qz0f, qz0g, qz0h, qz0i, qz0j, qz0k, qz0l, qz0m, qz0n, qz0o, qz0p, qz0q, qz0r, qz0s, qz0t, qz0u, qz0v, qz0w, qz0x, qz0y, qz0z, qz10, qz11, qz12, qz13, qz14, qz15, qz16, qz17, qz18, qz19, qz1a, qz1b, qz1c, qz1d, qz1e, qz1f, qz1g, qz1h, qz1i, qz1j, qz1k, qz1l, qz1m, qz1n, qz1o, qz1p, qz1q, qz1r, qz1s, qz1t, qz1u, qz1v, qz1w, qz1x, qz1y, qz1z, qz20, qz21, qz22, qz23, qz24, qz25, qz26, qz27, qz28, qz29, qz2a, qz2b, qz2c, qz2d, qz2e, qz2f, qz2g, qz2h, qz2i, qz2j, qz2k, qz2l, qz2m, qz2n, qz2o, qz2p, qz2q, qz2r, qz2s, qz2t, qz2u, qz2v, qz2w, qz2x, qz2y, qz2z, qz30, qz31, qz32, qz33, qz34, qz35, qz36, qz37, qz38, qz39, qz3a, qz3b, qz3c, qz3d, Bool.not_true, Bool.not_false, List.cons_append, List.nil_append, List.append_nil]
      refine power_ok (fun a s => hb _ a s (by decide)) w hw st.bare _ ?_
      simp (disch := first | assumption | decide | omega) only [eS, qz00, qz01, qz02, qz03, qz04, qz05, qz06, qz07, qz08, qz09, qz0a, qz0b, qz0c, qz0d, qz0e, qz0f, qz0g, qz0h, qz0i, qz0j, qz0k, qz0l, qz0m, qz0n, qz0o, qz0p, qz0q, qz0r, qz0s, qz0t, qz0u, qz0v, qz0w, qz0x, qz0y, qz0z, qz10, qz11, qz12, qz13, qz14, qz15, qz16, qz17, qz18, qz19, qz1a, qz1b, qz1c, qz1d, qz1e, qz1f, qz1g, qz1h, qz1i, qz1j, qz1k, qz1l, qz1m, qz1n, qz1o, qz1p, qz1q, qz1r, qz1s, qz1t, qz1u, qz1v, qz1w, qz1x, qz1y, qz1z, qz20, qz21, qz22, qz23, qz24, qz25, qz26, qz27, qz28, qz29, qz2a, qz2b, qz2c, qz2d, qz2e, qz2f, qz2g, qz2h, qz2i, qz2j, qz2k, qz2l, qz2m, qz2n, qz2o, qz2p, qz2q, qz2r, qz2s, qz2t, qz2u, qz2v, qz2w, qz2x, qz2y, qz2z, qz30, qz31, qz32, qz33, qz34, qz35, qz36, qz37, qz38, qz39, qz3a, qz3b, qz3c, qz3d, Bool.not_true, Bool.not_false, List.cons_append, List.nil_append, List.append_nil]
      exact hK
end Go.Sy
end

section
set_option maxRecDepth 100000
namespace Go.Sy
open Go.Ev Go.Proofs
variable {base : CallF}
/-- some cells beside a graph -/
structure Cl (st : Ev.St) (own : Nat → Prop) (b n : Nat) (c : Nat → AV) : Prop where
  lt : b < st.nx
  off : ¬ own b
  len : rlen st.h b = n
  cell : ∀ i, i < n → rat st.h b i = c i
theorem Cl.step {st s : Ev.St} {own own' : Nat → Prop} {b n : Nat} {c : Nat → AV} (h : Cl st own b n c) (k : Step own own' st.bare s) : Cl s own' b n c :=
  ⟨Nat.lt_of_lt_of_le h.lt k.nx, fun h' => (k.own b h').elim h.off fun h2 => by have := h.lt; have : st.nx ≤ b := h2; omega, (rlen_same (k.keep b h.lt h.off)).trans h.len, fun i hi => (rat_same (k.keep b h.lt h.off) _).trans (h.cell i hi)⟩
theorem Cl.aft {st st' : Ev.St} {g p q m j p' b n : Nat} {ex' : Bool} {G G' : Gr} {c : Nat → AV} (h : Cl st (Own g p q m G) b n c) (A : Aft g p q m G j st p' ex' G' st') : Cl st' (Own g p' q m G') b n c := h.step A.step
theorem Cl.ext {st s : Ev.St} {own : Nat → Prop} {b n : Nat} {c : Nat → AV} (h : Cl st own b n c) (k : Kept st s) : Cl s own b n c :=
  ⟨Nat.lt_of_lt_of_le h.lt k.nx, h.off, (rlen_same (k.keep b h.lt)).trans h.len, fun i hi => (rat_same (k.keep b h.lt) _).trans (h.cell i hi)⟩
theorem Cl.own {st : Ev.St} {own own' : Nat → Prop} {b n : Nat} {c : Nat → AV} (h : Cl st own b n c) (k : ∀ x, own' x → own x ∨ st.nx ≤ x) : Cl st own' b n c :=
  ⟨h.lt, fun h' => (k b h').elim h.off fun h2 => by have := h.lt; omega, h.len, h.cell⟩

/-- the graph's inputs are its first gates -/
def Gr.Ins (G : Gr) (N : Nat) : Prop := G.inputs = (List.range N).map fun i => 2 * (i + 1)
theorem Gr.Ins.len {G : Gr} {N : Nat} (h : G.Ins N) : G.inputs.length = N := by rw [h]; simp
theorem Ins_new : Gr.new.Ins 0 := rfl
theorem Ins_more {G : Gr} {N : Nat} (h : G.Ins N) (hl : G.parts.length = N + 1) : G.more.Ins (N + 1) := by
  show G.inputs ++ [2 * G.parts.length] = _
  rw [h, hl, List.range_succ, List.map_append]; rfl
theorem Ins_moreN {G : Gr} {N : Nat} (h : G.Ins N) (hl : G.parts.length = N + 1) : ∀ k, (G.moreN k).Ins (N + k)
  | 0 => h
  | k + 1 => Ins_more (N := N + k) (Ins_moreN h hl k) (by rw [moreN_parts, hl]; omega)
theorem Ins_aft {st st' : Ev.St} {g p q m j p' N : Nat} {ex' : Bool} {G G' : Gr} (h : G.Ins N) (A : Aft g p q m G j st p' ex' G' st') : G'.Ins N := by
  show G'.inputs = _
  rw [A.inp]; exact h
theorem Ins_inp {G : Gr} {N : Nat} (h : G.Ins N) (nv : Nat) (f : Nat → Bool) (x : Nat) : ∀ k, k ≤ N → inpR G.inputs nv f k x = if 1 ≤ x ∧ x ≤ k then (if x - 1 < nv then f (x - 1) else false) else false
  | 0, _ => by rw [if_neg (by omega)]; rfl
  | k + 1, hk => by
    have e : G.inputs.getD k 0 / 2 = k + 1 := by
      rw [h, List.getD_eq_getElem?_getD, List.getElem?_map, List.getElem?_range (by omega)]
      show 2 * (k + 1) / 2 = k + 1
      omega
    unfold inpR
    rw [e, Ins_inp h nv f x k (by omega)]
    by_cases hx : x = k + 1
    · subst hx
      rw [if_pos rfl, if_pos (show 1 ≤ k + 1 ∧ k + 1 ≤ k + 1 by omega), Nat.add_sub_cancel]
    · rw [if_neg hx]
      by_cases hx2 : 1 ≤ x ∧ x ≤ k
      · rw [if_pos hx2, if_pos (show 1 ≤ x ∧ x ≤ k + 1 by omega)]
      · rw [if_neg hx2, if_neg (show ¬ (1 ≤ x ∧ x ≤ k + 1) by omega)]

theorem ev_moreN (G : Gr) (inp : Nat → Bool) : ∀ w i, i < w → ev inp (G.moreN w).parts (2 * (G.parts.length + i)) = inp (G.parts.length + i)
  | 0, i, h => absurd h (Nat.not_lt_zero i)
  | w + 1, i, h => by
    have hl := moreN_parts G w
    show ev inp ((G.moreN w).parts ++ [(0, 0)]) (2 * (G.parts.length + i)) = _
    by_cases hi : i = w
    · rw [hi, ← hl]; exact ev_input inp _
    · rw [ev_app inp _ _ (by omega)]
      exact ev_moreN G inp w i (by omega)

theorem Input_num (hb : ∀ f args st, f ≠ 12 → base f args st = .no) {g p q m w : Nat} {ex : Bool} {G : Gr} (st : Ev.St) (hfr : st.fr = []) (hG : GM st.h st.nx g p q m ex G) (hok : G.OK) (hw1 : 1 ≤ w) (hw2 : w ≤ 32) (hN : G.parts.length + w ≤ 1048576) (hI : G.inputs.length + w ≤ 1048576) (K : AV → Ev.St → Prop)
    (hK : ∀ bo p' q' ex' st', Step (Own g p q m G) (Own g p' q' m (G.moreN w)) st.bare (back st st') → GM (back st st').h (back st st').nx g p' q' m ex' (G.moreN w) → (G.moreN w).OK → G.Le (G.moreN w) → Vc (back st st') (Own g p' q' m (G.moreN w)) (G.moreN w) bo w (fun inp => num (fun i => inp (G.parts.length + i)) w) → K (.tup [.slice bo 0 w w 1 true, .int .i64 0]) st') :
    CW Try.prog base 20 [.ptr g 0, .int .i64 (w : Int)] st K := by
  refine vecInput_ok (fun f a s hf => hb _ a s (by intro h; subst h; simp at hf)) st hG hw1 hw2 hN hI K fun bo p' q' ex' st' f S GG _ E => ?_
  have S' : Step (Own g p q m G) (Own g p' q' m (G.moreN w)) st.bare (back st st') := ⟨S.nx, by show st.fr = []; exact hfr, S.keep, S.own⟩
  refine hK bo p' q' ex' st' S' GG (moreN_ok hok w hN) (moreN_le G w) ⟨_, hw1, ⟨E.lt, E.off, E.len, E.cell⟩, fun i hi => ?_, fun inp hi => ?_⟩
  · show 2 * (G.parts.length + i) / 2 < _
    rw [moreN_parts]; omega
  · exact num_congr hw1 fun i hi => ev_moreN G inp w i hi
theorem gInput_num (hb : ∀ f args st, f ≠ 12 → base f args st = .no) {g p q m : Nat} {ex : Bool} {G : Gr} (st : Ev.St) (hfr : st.fr = []) (hG : GM st.h st.nx g p q m ex G) (hok : G.OK) (hN : G.parts.length < 1048576) (hI : G.inputs.length < 1048576) (K : AV → Ev.St → Prop)
    (hK : ∀ p' q' st', Step (Own g p q m G) (Own g p' q' m G.more) st.bare (back st st') → GM (back st st').h (back st st').nx g p' q' m false G.more → G.more.OK → G.Le G.more → Eg G.more (2 * G.parts.length) (fun inp => inp G.parts.length) → K (.tup [.int .u32 ((2 * G.parts.length : Nat) : Int), .int .i64 0]) st') :
    CW Try.prog base 29 [.ptr g 0] st K := by
  refine Input_ok (fun f a s hf => hb _ a s (by intro h; subst h; simp at hf)) st hG hN hI K fun p' q' st' f S GG => ?_
  have S' : Step (Own g p q m G) (Own g p' q' m G.more) st.bare (back st st') := ⟨S.nx, by show st.fr = []; exact hfr, S.keep, S.own⟩
  refine hK p' q' st' S' GG (OK_input hok hN) ⟨[(0, 0)], rfl⟩ ⟨?_, fun inp hi => ev_input inp _⟩
  show 2 * G.parts.length / 2 < (G.parts ++ [(0, 0)]).length
  rw [List.length_append]
  simp only [List.length_cons, List.length_nil]
  omega
theorem unum_bt (n : Int) : ∀ k, unum (fun i => decide (bt n i = 1)) k = n % 2 ^ k
  | 0 => by
    show (0 : Int) = n % 1
    omega
  | k + 1 => by
    show unum (fun i => decide (bt n i = 1)) k + b2 (decide (bt n k = 1)) * 2 ^ k = _
    rw [unum_bt n k, mod_succ, Int.mul_comm (2 ^ k)]
    have h := bt_le n k
    have e : b2 (decide (bt n k = 1)) = (bt n k : Int) := by
      rcases (show bt n k = 0 ∨ bt n k = 1 by omega) with h | h <;> rw [h] <;> rfl
    rw [e]
theorem num_bt {n : Int} {w : Nat} (hw : 1 ≤ w) (h : fits n n w) : num (fun i => decide (bt n i = 1)) w = n := by
  have e := fits_mod h hw
  unfold num
  rw [unum_bt]
  rw [pow_cast] at e
  show n % 2 ^ w - b2 (decide (bt n (w - 1) = 1)) * 2 ^ w = n
  by_cases hb : bt n (w - 1) = 1
  · rw [if_pos hb] at e
    rw [decide_eq_true hb]
    show _ - 1 * _ = _
    rw [Int.one_mul]
    exact e
  · rw [if_neg hb] at e
    rw [decide_eq_false hb]
    show _ - 0 * _ = _
    omega
theorem Const_num (hb : ∀ f args st, f ≠ 12 → base f args st = .no) {g p q m : Nat} {ex : Bool} {G : Gr} (n : Int) (st : Ev.St) (hfr : st.fr = []) (hG : GM st.h st.nx g p q m ex G) (hok : G.OK) (K : AV → Ev.St → Prop) (hK0 : IsW n n 0 → K (.tup [.nils, .int .i64 111]) st.bare)
    (hK : ∀ w b st', 1 ≤ w → w ≤ 32 → IsW n n w → Kept st (back st st') → Vc (back st st') (Own g p q m G) G b w (fun _ => n) → K (.tup [.slice b 0 w w 1 true, .int .i64 0]) st') :
    CW Try.prog base 16 [.int .i64 n] st K := by
  refine Const_ok (fun f a s hf => hb _ a s (by rcases hf with rfl | rfl <;> decide)) n st K hK0 fun w b st' hw hW e hbn B => ?_
  have hf : fits n n w := by
    rcases hW.2 with ⟨h, _⟩ | ⟨_, _, h, _⟩
    · omega
    · exact h
  refine hK w b st' hw hW.1 hW ⟨e.nx, rfl, e.keep⟩ ⟨bt n, hw, ⟨B.1, fun h => by have := own_lt hG h; omega, B.2.1, fun i hi => (B.2.2 i hi).2⟩, fun i hi => ?_, fun inp hi => ?_⟩
  · have := bt_le n i
    have := hG.ppos
    show bt n i / 2 < _
    omega
  · have hn := num_bt hw hf
    refine Eq.trans (num_congr hw fun i hi' => ?_) hn
    have h := bt_le n i
    rcases (show bt n i = 0 ∨ bt n i = 1 by omega) with h | h <;> rw [h]
    · exact G_0 hok hi
    · exact G_1 hok hi
end Go.Sy
end

section
set_option maxRecDepth 100000
namespace Go.Sy
open Go.Ev Go.Proofs
def b8 : Cmd := (.seq (.ops [⟨(some 3), true, none, (.i (.box (.t 0)))⟩, ⟨(some 6), true, none, (.i (.mv (.c (.bool false))))⟩]) (.seq (.seq (.ops [⟨(some 32), false, none, (.call (.c (.fn 12 [])) [])⟩, ⟨(some 33), true, none, (.i (.un .not (.t 32)))⟩]) (.cond (.t 33) (.seq (.ops [⟨(some 6), true, none, (.i (.mv (.c (.bool false))))⟩]) .ret) .skip)) (.seq (.ops [⟨(some 34), false, none, (.call (.c (.fn 15 [])) [])⟩, ⟨(some 7), true, none, (.i (.mv (.t 34)))⟩]) (.seq (.ops [⟨(some 36), false, none, (.i (.idxA 2 1 (.t 3) (.c (.int .i64 0))))⟩, ⟨(some 37), false, none, (.i (.ld1 (.t 36)))⟩, ⟨(some 38), false, none, (.call (.c (.fn 16 [])) [(.t 37)])⟩, ⟨(some 35), false, none, (.i (.mv (.t 38)))⟩, ⟨(some 39), false, none, (.i (.ext (.t 35) 0))⟩, ⟨(some 40), false, none, (.i (.ext (.t 35) 1))⟩, ⟨(some 8), true, none, (.i (.mv (.t 39)))⟩, ⟨(some 9), true, none, (.i (.mv (.t 40)))⟩]) (.seq (.ops [⟨(some 42), false, none, (.i (.idxA 2 1 (.t 3) (.c (.int .i64 1))))⟩, ⟨(some 43), false, none, (.i (.ld1 (.t 42)))⟩, ⟨(some 44), false, none, (.call (.c (.fn 16 [])) [(.t 43)])⟩, ⟨(some 41), false, none, (.i (.mv (.t 44)))⟩, ⟨(some 45), false, none, (.i (.ext (.t 41) 0))⟩, ⟨(some 46), false, none, (.i (.ext (.t 41) 1))⟩, ⟨(some 10), true, none, (.i (.mv (.t 45)))⟩, ⟨(some 11), true, none, (.i (.mv (.t 46)))⟩]) (.seq (.seq (.ops [⟨(some 47), false, none, (.i (.mv (.t 9)))⟩, ⟨(some 48), false, none, (.i (.bin .neq (.t 47) (.c (.int .i64 0))))⟩, ⟨(some 49), false, none, (.i (.mv (.t 48)))⟩, ⟨(some 50), false, (some (49, false)), (.i (.mv (.t 11)))⟩, ⟨(some 51), false, (some (49, false)), (.i (.bin .neq (.t 50) (.c (.int .i64 0))))⟩, ⟨(some 52), false, none, (.i (.pick (.t 49) (.c (.bool true)) (.t 51)))⟩, ⟨(some 53), false, none, (.i (.mv (.t 52)))⟩, ⟨(some 54), false, (some (53, false)), (.i (.mv (.t 8)))⟩, ⟨(some 55), false, (some (53, false)), (.i (.len (.t 54)))⟩, ⟨(some 56), false, (some (53, false)), (.i (.mv (.t 10)))⟩, ⟨(some 57), false, (some (53, false)), (.i (.len (.t 56)))⟩, ⟨(some 58), false, (some (53, false)), (.i (.bin .add (.t 55) (.t 57)))⟩, ⟨(some 59), false, (some (53, false)), (.i (.bin .gtr (.t 58) (.c (.int .i64 32))))⟩, ⟨(some 60), false, none, (.i (.pick (.t 53) (.c (.bool true)) (.t 59)))⟩, ⟨(some 61), false, none, (.i (.mv (.t 60)))⟩, ⟨(some 62), false, (some (61, false)), (.i (.mv (.t 8)))⟩, ⟨(some 63), false, (some (61, false)), (.i (.len (.t 62)))⟩, ⟨(some 64), false, (some (61, false)), (.i (.bin .gtr (.t 63) (.c (.int .i64 30))))⟩, ⟨(some 65), false, none, (.i (.pick (.t 61) (.c (.bool true)) (.t 64)))⟩, ⟨(some 66), false, none, (.i (.mv (.t 65)))⟩, ⟨(some 67), false, (some (66, false)), (.i (.mv (.t 10)))⟩, ⟨(some 68), false, (some (66, false)), (.i (.len (.t 67)))⟩, ⟨(some 69), false, (some (66, false)), (.i (.bin .gtr (.t 68) (.c (.int .i64 30))))⟩, ⟨(some 70), true, none, (.i (.pick (.t 66) (.c (.bool true)) (.t 69)))⟩]) (.cond (.t 70) (.seq (.ops [⟨(some 6), true, none, (.i (.mv (.c (.bool true))))⟩]) .ret) .skip)) (.seq (.ops [⟨(some 72), false, none, (.i (.mv (.t 7)))⟩, ⟨(some 73), false, none, (.i (.mv (.t 8)))⟩, ⟨(some 74), false, none, (.i (.mv (.t 10)))⟩, ⟨(some 75), false, none, (.call (.c (.fn 19 [])) [(.t 72), (.t 73), (.t 74)])⟩, ⟨(some 71), false, none, (.i (.mv (.t 75)))⟩, ⟨(some 76), false, none, (.i (.ext (.t 71) 0))⟩, ⟨(some 77), false, none, (.i (.ext (.t 71) 1))⟩, ⟨(some 12), true, none, (.i (.mv (.t 76)))⟩, ⟨(some 13), true, none, (.i (.mv (.t 77)))⟩]) (.seq (.ops [⟨(some 79), false, none, (.i (.mv (.t 7)))⟩, ⟨(some 80), false, none, (.i (.mv (.t 8)))⟩, ⟨(some 81), false, none, (.i (.mv (.t 10)))⟩, ⟨(some 82), false, none, (.call (.c (.fn 27 [])) [(.t 79), (.t 80), (.t 81)])⟩, ⟨(some 78), false, none, (.i (.mv (.t 82)))⟩, ⟨(some 83), false, none, (.i (.ext (.t 78) 0))⟩, ⟨(some 84), false, none, (.i (.ext (.t 78) 1))⟩, ⟨(some 14), true, none, (.i (.mv (.t 83)))⟩, ⟨(some 15), true, none, (.i (.mv (.t 84)))⟩]) (.seq (.ops [⟨(some 86), false, none, (.i (.mv (.t 7)))⟩, ⟨(some 87), false, none, (.i (.mv (.t 8)))⟩, ⟨(some 88), false, none, (.i (.mv (.t 10)))⟩, ⟨(some 89), false, none, (.call (.c (.fn 21 [])) [(.t 86), (.t 87), (.t 88)])⟩, ⟨(some 85), false, none, (.i (.mv (.t 89)))⟩, ⟨(some 90), false, none, (.i (.ext (.t 85) 0))⟩, ⟨(some 91), false, none, (.i (.ext (.t 85) 1))⟩, ⟨(some 16), false, none, (.i (.mv (.t 90)))⟩, ⟨(some 17), true, none, (.i (.mv (.t 91)))⟩]) (.seq (.ops [⟨(some 93), false, none, (.i (.mv (.t 7)))⟩, ⟨(some 94), false, none, (.i (.mv (.t 12)))⟩, ⟨(some 95), false, none, (.call (.c (.fn 17 [])) [(.t 93), (.c .nils), (.t 94)])⟩, ⟨(some 92), false, none, (.i (.mv (.t 95)))⟩, ⟨(some 96), false, none, (.i (.ext (.t 92) 0))⟩, ⟨(some 97), false, none, (.i (.ext (.t 92) 1))⟩, ⟨(some 18), true, none, (.i (.mv (.t 96)))⟩, ⟨(some 19), true, none, (.i (.mv (.t 97)))⟩]) (.seq (.ops [⟨(some 99), false, none, (.i (.mv (.t 7)))⟩, ⟨(some 100), false, none, (.i (.mv (.t 14)))⟩, ⟨(some 101), false, none, (.call (.c (.fn 17 [])) [(.t 99), (.c .nils), (.t 100)])⟩, ⟨(some 98), false, none, (.i (.mv (.t 101)))⟩, ⟨(some 102), false, none, (.i (.ext (.t 98) 0))⟩, ⟨(some 103), false, none, (.i (.ext (.t 98) 1))⟩, ⟨(some 20), true, none, (.i (.mv (.t 102)))⟩, ⟨(some 21), true, none, (.i (.mv (.t 103)))⟩]) (.seq (.seq (.ops [⟨(some 104), false, none, (.i (.mv (.t 13)))⟩, ⟨(some 105), false, none, (.i (.bin .neq (.t 104) (.c (.int .i64 0))))⟩, ⟨(some 106), false, none, (.i (.mv (.t 105)))⟩, ⟨(some 107), false, (some (106, false)), (.i (.mv (.t 15)))⟩, ⟨(some 108), false, (some (106, false)), (.i (.bin .neq (.t 107) (.c (.int .i64 0))))⟩, ⟨(some 109), false, none, (.i (.pick (.t 106) (.c (.bool true)) (.t 108)))⟩, ⟨(some 110), false, none, (.i (.mv (.t 109)))⟩, ⟨(some 111), false, (some (110, false)), (.i (.mv (.t 17)))⟩, ⟨(some 112), false, (some (110, false)), (.i (.bin .neq (.t 111) (.c (.int .i64 0))))⟩, ⟨(some 113), false, none, (.i (.pick (.t 110) (.c (.bool true)) (.t 112)))⟩, ⟨(some 114), false, none, (.i (.mv (.t 113)))⟩, ⟨(some 115), false, (some (114, false)), (.i (.mv (.t 19)))⟩, ⟨(some 116), false, (some (114, false)), (.i (.bin .neq (.t 115) (.c (.int .i64 0))))⟩, ⟨(some 117), false, none, (.i (.pick (.t 114) (.c (.bool true)) (.t 116)))⟩, ⟨(some 118), false, none, (.i (.mv (.t 117)))⟩, ⟨(some 119), false, (some (118, false)), (.i (.mv (.t 21)))⟩, ⟨(some 120), false, (some (118, false)), (.i (.bin .neq (.t 119) (.c (.int .i64 0))))⟩, ⟨(some 121), false, none, (.i (.pick (.t 118) (.c (.bool true)) (.t 120)))⟩, ⟨(some 122), false, none, (.i (.mv (.t 121)))⟩, ⟨(some 123), false, (some (122, false)), (.i (.mv (.t 7)))⟩, ⟨(some 124), false, (some (122, false)), (.call (.c (.fn 28 [])) [(.t 123)])⟩, ⟨(some 125), false, (some (122, false)), (.i (.bin .neq (.t 124) (.c (.int .i64 1))))⟩, ⟨(some 126), false, none, (.i (.pick (.t 122) (.c (.bool true)) (.t 125)))⟩, ⟨(some 127), false, none, (.i (.mv (.t 126)))⟩, ⟨(some 128), false, (some (127, false)), (.i (.mv (.t 18)))⟩, ⟨(some 129), false, (some (127, false)), (.i (.idxA 2 1 (.t 3) (.c (.int .i64 0))))⟩, ⟨(some 130), false, (some (127, false)), (.i (.ld1 (.t 129)))⟩, ⟨(some 131), false, (some (127, false)), (.i (.idxA 2 1 (.t 3) (.c (.int .i64 1))))⟩, ⟨(some 132), false, (some (127, false)), (.i (.ld1 (.t 131)))⟩, ⟨(some 133), false, (some (127, false)), (.i (.bin .add (.t 130) (.t 132)))⟩, ⟨(some 134), false, (some (127, false)), (.i (.bin .neq (.t 128) (.t 133)))⟩, ⟨(some 135), false, none, (.i (.pick (.t 127) (.c (.bool true)) (.t 134)))⟩, ⟨(some 136), false, none, (.i (.mv (.t 135)))⟩, ⟨(some 137), false, (some (136, false)), (.i (.mv (.t 20)))⟩, ⟨(some 138), false, (some (136, false)), (.i (.idxA 2 1 (.t 3) (.c (.int .i64 0))))⟩, ⟨(some 139), false, (some (136, false)), (.i (.ld1 (.t 138)))⟩, ⟨(some 140), false, (some (136, false)), (.i (.idxA 2 1 (.t 3) (.c (.int .i64 1))))⟩, ⟨(some 141), false, (some (136, false)), (.i (.ld1 (.t 140)))⟩, ⟨(some 142), false, (some (136, false)), (.i (.bin .mul (.t 139) (.t 141)))⟩, ⟨(some 143), false, (some (136, false)), (.i (.bin .neq (.t 137) (.t 142)))⟩, ⟨(some 144), true, none, (.i (.pick (.t 136) (.c (.bool true)) (.t 143)))⟩]) (.cond (.t 144) (.seq (.ops [⟨(some 6), true, none, (.i (.mv (.c (.bool false))))⟩]) .ret) .skip)) (.seq (.seq (.ops [⟨(some 145), false, none, (.i (.mv (.t 1)))⟩, ⟨(some 146), false, none, (.i (.bin .lss (.t 145) (.c (.int .i64 1))))⟩, ⟨(some 147), false, none, (.i (.mv (.t 146)))⟩, ⟨(some 148), false, (some (147, false)), (.i (.mv (.t 1)))⟩, ⟨(some 149), false, (some (147, false)), (.i (.bin .gtr (.t 148) (.c (.int .i64 12))))⟩, ⟨(some 150), true, none, (.i (.pick (.t 147) (.c (.bool true)) (.t 149)))⟩]) (.cond (.t 150) (.seq (.ops [⟨(some 6), true, none, (.i (.mv (.c (.bool true))))⟩]) .ret) .skip)) (.seq (.ops [⟨(some 152), false, none, (.i (.mv (.t 7)))⟩, ⟨(some 153), false, none, (.i (.mv (.t 1)))⟩, ⟨(some 154), false, none, (.call (.c (.fn 20 [])) [(.t 152), (.t 153)])⟩, ⟨(some 151), false, none, (.i (.mv (.t 154)))⟩, ⟨(some 155), false, none, (.i (.ext (.t 151) 0))⟩, ⟨(some 156), false, none, (.i (.ext (.t 151) 1))⟩, ⟨(some 22), true, none, (.i (.mv (.t 155)))⟩, ⟨(some 23), false, none, (.i (.mv (.t 156)))⟩]) (.seq (.ops [⟨(some 158), false, none, (.i (.mv (.t 7)))⟩, ⟨(some 159), false, none, (.i (.mv (.t 22)))⟩, ⟨(some 160), false, none, (.i (.mv (.t 10)))⟩, ⟨(some 161), false, none, (.call (.c (.fn 19 [])) [(.t 158), (.t 159), (.t 160)])⟩, ⟨(some 157), false, none, (.i (.mv (.t 161)))⟩, ⟨(some 162), false, none, (.i (.ext (.t 157) 0))⟩, ⟨(some 163), false, none, (.i (.ext (.t 157) 1))⟩, ⟨(some 24), true, none, (.i (.mv (.t 162)))⟩, ⟨(some 25), true, none, (.i (.mv (.t 163)))⟩]) (.seq (.ops [⟨(some 165), false, none, (.i (.mv (.t 7)))⟩, ⟨(some 166), false, none, (.i (.mv (.t 24)))⟩, ⟨(some 167), false, none, (.i (.mv (.t 10)))⟩, ⟨(some 168), false, none, (.call (.c (.fn 23 [])) [(.t 165), (.t 166), (.t 167)])⟩, ⟨(some 164), false, none, (.i (.mv (.t 168)))⟩, ⟨(some 169), false, none, (.i (.ext (.t 164) 0))⟩, ⟨(some 170), false, none, (.i (.ext (.t 164) 1))⟩, ⟨(some 26), true, none, (.i (.mv (.t 169)))⟩, ⟨(some 27), true, none, (.i (.mv (.t 170)))⟩]) (.seq (.ops [⟨(some 172), false, none, (.i (.mv (.t 7)))⟩, ⟨(some 173), false, none, (.i (.mv (.t 26)))⟩, ⟨(some 174), false, none, (.i (.mv (.t 22)))⟩, ⟨(some 175), false, none, (.call (.c (.fn 22 [])) [(.t 172), (.t 173), (.t 174)])⟩, ⟨(some 171), false, none, (.i (.mv (.t 175)))⟩, ⟨(some 176), false, none, (.i (.ext (.t 171) 0))⟩, ⟨(some 177), false, none, (.i (.ext (.t 171) 1))⟩, ⟨(some 28), true, none, (.i (.mv (.t 176)))⟩, ⟨(some 29), true, none, (.i (.mv (.t 177)))⟩]) (.seq (.ops [⟨(some 179), false, none, (.i (.mv (.t 7)))⟩, ⟨(some 180), false, none, (.i (.mv (.t 2)))⟩, ⟨(some 181), false, none, (.i (.mv (.t 1)))⟩, ⟨(some 182), false, none, (.call (.c (.fn 24 [])) [(.t 180), (.t 181)])⟩, ⟨(some 183), false, none, (.i (.mv (.t 28)))⟩, ⟨(some 184), false, none, (.i (.buildS 1 1 [(.int .u32 0)] [((0, 1), (.t 183))]))⟩, ⟨(some 185), false, none, (.call (.c (.fn 25 [])) [(.t 179), (.t 182), (.t 184)])⟩, ⟨(some 178), false, none, (.i (.mv (.t 185)))⟩, ⟨(some 186), false, none, (.i (.ext (.t 178) 0))⟩, ⟨(some 187), false, none, (.i (.ext (.t 178) 1))⟩, ⟨(some 30), true, none, (.i (.mv (.t 186)))⟩, ⟨(some 31), true, none, (.i (.mv (.t 187)))⟩]) (.seq (.ops [⟨(some 188), false, none, (.i (.mv (.t 25)))⟩, ⟨(some 189), false, none, (.i (.bin .eql (.t 188) (.c (.int .i64 0))))⟩, ⟨(some 190), false, none, (.i (.mv (.t 189)))⟩, ⟨(some 191), false, (some (190, true)), (.i (.mv (.t 27)))⟩, ⟨(some 192), false, (some (190, true)), (.i (.bin .eql (.t 191) (.c (.int .i64 0))))⟩, ⟨(some 193), false, none, (.i (.pick (.t 190) (.t 192) (.c (.bool false))))⟩, ⟨(some 194), false, none, (.i (.mv (.t 193)))⟩, ⟨(some 195), false, (some (194, true)), (.i (.mv (.t 29)))⟩, ⟨(some 196), false, (some (194, true)), (.i (.bin .eql (.t 195) (.c (.int .i64 0))))⟩, ⟨(some 197), false, none, (.i (.pick (.t 194) (.t 196) (.c (.bool false))))⟩, ⟨(some 198), false, none, (.i (.mv (.t 197)))⟩, ⟨(some 199), false, (some (198, true)), (.i (.mv (.t 31)))⟩, ⟨(some 200), false, (some (198, true)), (.i (.bin .eql (.t 199) (.c (.int .i64 0))))⟩, ⟨(some 201), false, none, (.i (.pick (.t 198) (.t 200) (.c (.bool false))))⟩, ⟨(some 202), false, none, (.i (.mv (.t 201)))⟩, ⟨(some 203), false, (some (202, true)), (.i (.mv (.t 30)))⟩, ⟨(some 204), false, (some (202, true)), (.i (.len (.t 203)))⟩, ⟨(some 205), false, (some (202, true)), (.i (.bin .eql (.t 204) (.c (.int .i64 1))))⟩, ⟨(some 206), false, none, (.i (.pick (.t 202) (.t 205) (.c (.bool false))))⟩, ⟨(some 207), false, none, (.i (.mv (.t 206)))⟩, ⟨(some 208), false, (some (207, true)), (.i (.mv (.t 30)))⟩, ⟨(some 209), false, (some (207, true)), (.i (.idxS 1 (.t 208) (.c (.int .i64 0))))⟩, ⟨(some 210), false, (some (207, true)), (.i (.ld1 (.t 209)))⟩, ⟨(some 211), false, none, (.i (.pick (.t 207) (.t 210) (.c (.bool false))))⟩, ⟨(some 6), true, none, (.i (.mv (.t 211)))⟩]) .ret)))))))))))))))))))
def c8 : FD := ⟨[0, 1, 2], b8, [(.t 6)]⟩
theorem l8 : lowF Try.prog 8 = some c8 := by kernel_rfl
end Go.Sy
end

section
set_option maxRecDepth 100000
namespace Go.Sy
open Go.Ev Go.Proofs
variable {base : CallF}
theorem Vc.bk {s t : Ev.St} {own : Nat → Prop} {G : Gr} {b n : Nat} {F : (Nat → Bool) → Int} (h : Vc s own G b n F) : Vc (back t s) own G b n F := by
  obtain ⟨a, h1, h2, h3, h4⟩ := h
  exact ⟨a, h1, ⟨h2.lt, h2.off, h2.len, h2.cell⟩, h3, h4⟩
theorem Cl.two {st : Ev.St} {own : Nat → Prop} {b : Nat} {x y : AV} (h : Cl st own b 2 (fun i => [x, y].getD i .bad)) : 0 < rlen st.h b ∧ 1 < rlen st.h b ∧ rat st.h b 0 = x ∧ rat st.h b 1 = y :=
  ⟨by rw [h.len]; decide, by rw [h.len]; decide, h.cell 0 (by decide), h.cell 1 (by decide)⟩
theorem loadK3 (b o n zl : Nat) (z : List AV) (cs : T AV) (h : T AO) (hg : hget h b = some (.row n zl z cs)) (ho : o < n) : (loadK Try.prog 3).run (.ptr b o) h = some (rowCell zl z cs o) := by
  have e1 : Go.Ev.isAgg Try.prog 3 = some false := by kernel_rfl
  have e2 : Go.Ev.sizeOf Try.prog 3 = some 1 := by kernel_rfl
  have e3 : Nat.ble (Nat.succ o) n = true := ble_t ho
  simp only [loadK, e1, e2, hg, e3, cond_true]
theorem same3 {b o : Nat} {h : T AO} {n : Int} (ho : o < rlen h b) (hv : rat h b o = .int .i64 n) : sameAt Try.prog 3 (.ptr b o) (.int .i64 n) h = true := by
  obtain ⟨n', zl, z, cs, hg⟩ := isRow_pos (h := h) (b := b) (by omega)
  rw [rlen_get hg] at ho
  rw [rat_get hg] at hv
  unfold sameAt
  rw [loadK3 b o n' zl z cs h hg ho, hv]
  show eqAV (.int .i64 n) (.int .i64 n) = true
  have : ∀ a : Int, eqI a a = true := fun a => by cases a <;> simp [eqI]
  simp [eqAV, eqCellS, eqCell, eqK_self, this]
section
variable {P : Program} {st : Ev.St} {K : AV → Ev.St → Prop} {e : En}
theorem k_4 {i : Ins} {x y z w : A} {V : AV → AV → AV → AV → Ev.St → ER} (h1 : insA i = [x, y, z, w]) (h2 : ∀ ρ, execI P ρ i st = V (ρ x) (ρ y) (ρ z) (ρ w) st) (K : AV → Ev.St → Prop) :
    wK P base (.i i) e st K = on1 e x fun v => on1 e y fun u => on1 e z fun t => on1 e w fun r => onER (V v u t r st) K := by
  simp [wK, wI, h1, h2, on1, and_assoc]
theorem i_buildS4 (z : AV) (x y w u : A) : wK P base (.i (.buildS 4 1 [z] [((0, 1), x), ((1, 1), y), ((2, 1), w), ((3, 1), u)])) e st K = on1 e x fun v1 => on1 e y fun v2 => on1 e w fun v3 => on1 e u fun v4 => onER (buildSV 4 1 [z] [((0, 1), v1), ((1, 1), v2), ((2, 1), v3), ((3, 1), v4)] st) K := k_4 rfl (fun _ => rfl) K
theorem o_buildS4 {z v u t r : AV} (h : One v) (i : One u) (j : One t) (l : One r) (hk : ∀ st', Made st st' 4 (fun i => [v, u, t, r].getD i .bad) → K (.slice st.nx 0 4 4 1 true) st') : onER (buildSV 4 1 [z] [((0, 1), v), ((1, 1), u), ((2, 1), t), ((3, 1), r)] st) K := by
  have e2 : fillP (repeatC [z] 4) [((0, 1), v), ((1, 1), u), ((2, 1), t), ((3, 1), r)] = some [v, u, t, r] := by
    simp only [fillP, h.2.1, h.1, i.2.1, i.1, j.2.1, j.1, l.2.1, l.1, cond_true]
    rfl
  have e3 : lall AV.cell [v, u, t, r] = true := by simp only [lall, h.2.2, i.2.2, j.2.2, l.2.2, cond_true]
  simp only [buildSV, e2, onSome, e3, cond_true, force_eq, llen_eq, St.alloc_eq, onER]
  refine hk _ (made_row fun i hi => ?_)
  rw [rowCell_eq, get_e, Nat.mod_eq_of_lt hi]; rfl
theorem v_slSN (b n c sz m : Nat) (ex : Bool) (h : m ≤ c) (k : IntKind) : onER (slSV sz (.slice b 0 n c sz ex) (.int k (m : Int)) st) K = K (.slice b 0 m c sz ex) st := by
  have e : onNat (.int k (m : Int)) = fun F => F m := by funext F; show (force m F) = F m; rw [force_eq]
  have e1 : Nat.beq sz sz = true := beq_t rfl
  have e2 : Nat.ble 0 m = true := ble_t (Nat.zero_le _)
  have e3 : Nat.ble m c = true := ble_t h
  have e4 : Nat.add 0 (Nat.mul 0 sz) = 0 := by show 0 + 0 * sz = 0; omega
  have e5 : Nat.sub m 0 = m := rfl
  have e6 : Nat.sub c 0 = c := rfl
  simp only [slSV, optA, e, e1, e2, e3, cond_true, force_eq, e4, e5, e6, onER]
end
def lv2 (x y : AV) : Nat → AV := fun i => [x, y].getD i .bad

/-- what was there at a law's start stays -/
structure Kx (a : Ev.St) (own : Nat → Prop) (s : Ev.St) : Prop where
  kept : Kept a.bare s
  own : ∀ c, own c → a.nx ≤ c
theorem Kx.step {a st s : Ev.St} {own own' : Nat → Prop} (h : Kx a own st) (S : Step own own' st.bare s) : Kx a own' s :=
  ⟨⟨Nat.le_trans h.kept.nx S.nx, S.fr, fun c hc => (S.keep c (Nat.lt_of_lt_of_le hc h.kept.nx) fun ho => by have := h.own c ho; have : c < a.nx := hc; omega).trans (h.kept.keep c hc)⟩, fun c hc => (S.own c hc).elim (h.own c) fun h2 => Nat.le_trans h.kept.nx h2⟩
theorem Kx.aft {a st st' : Ev.St} {g p q m j p' : Nat} {ex' : Bool} {G G' : Gr} (h : Kx a (Own g p q m G) st) (A : Aft g p q m G j st p' ex' G' st') : Kx a (Own g p' q m G') st' := h.step A.step
theorem Kx.ext {a st s : Ev.St} {own : Nat → Prop} (h : Kx a own st) (k : Kept st s) : Kx a own s := ⟨h.kept.trans k, h.own⟩
def cntB (f : Nat → Bool) : Nat → Nat
  | 0 => 0
  | k + 1 => cntB f k + (if f k = true then 1 else 0)
theorem cntB_le (f : Nat → Bool) : ∀ k, cntB f k ≤ k
  | 0 => Nat.le_refl 0
  | k + 1 => by
    have := cntB_le f k
    show cntB f k + (if f k = true then 1 else 0) ≤ k + 1
    split <;> omega
theorem W11 {w : Nat} (h : IsW 1 1 w) : w = 2 := by
  refine h.uniq ⟨by decide, .inr ⟨Int.le_refl _, by decide, by unfold fits; decide, fun j h1 h2 => ?_⟩⟩
  have : j = 1 := by omega
  subst this
  unfold fits; decide
end Go.Sy
end
