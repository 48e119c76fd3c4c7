/-
  Contracts: the code lowered, what it does told by rules, and the contracts of the functions that the law reaches.
-/
import Derived.Test.YtfdncjlamfhppaaDoorSyC
import Derived.Test.YtfdncjlamfhppaaDoorProg
import Derived.KernelRfl
set_option linter.unusedVariables false
set_option linter.unusedSimpArgs false
section
set_option maxRecDepth 100000
namespace Go.Sy
open Go.Ev Go.Proofs
open Go.RowKit (Below)
theorem parseI_any {l : List UInt8} (hne : l ≠ []) (hd : dig8 l) : (∃ v, Lib.parseIntB 64 l = .ok v) ∨ Lib.parseIntB 64 l = .range := by
  rw [parseI_eq hne hd]
  rcases parseM_digits l 0 hd with ⟨u, h⟩ | h
  · rw [h]
    unfold Lib.signlessC
    by_cases hu : 2 ^ 63 ≤ u
    · right; simp only [if_pos hu]
    · left; exact ⟨u, by simp only [if_neg hu]⟩
  · rw [h]; exact .inr rfl
def digB (s : List Nat) : Bool := decide (s ≠ []) && s.all isDigit
theorem digB_iff (s : List Nat) : digB s = true ↔ digits s := by
  unfold digB digits
  simp
/-- wordAlive, told by its run; and what strconv.ParseInt says of digits -/
def baseW : CallF := fun f args st => match args with
  | [] => if f = 9 then .ok (.bool true) st else .no
  | [.str s, .int .i64 a, .int .i64 b] => if f = 31 ∧ a = 10 ∧ b = 64 ∧ digB s = true ∧ s.length ≤ 281474976710656 then (if s.length ≤ 7 then .ok (.tup [.int .i64 (valN s : Int), .nilif]) st else .ok (.tup [.bad, .bad]) st) else .no
  | _ => .no
theorem baseW_9 (st : St) : baseW 9 [] st = .ok (.bool true) st := rfl
theorem baseW_PI : PI baseW := fun s st hd hl => by
  have e : baseW 31 [.str s, .int .i64 10, .int .i64 64] st = if (31 = 31 ∧ (10 : Int) = 10 ∧ (64 : Int) = 64 ∧ digB s = true ∧ s.length ≤ 281474976710656) then (if s.length ≤ 7 then .ok (.tup [.int .i64 (valN s : Int), .nilif]) st else .ok (.tup [.bad, .bad]) st) else .no := rfl
  rw [e, if_pos ⟨rfl, rfl, rfl, (digB_iff s).2 hd, hl⟩]
  exact ⟨fun h => if_pos h, fun h => if_neg (by omega)⟩
/-- what the base does not answer -/
theorem baseW_cases (f : FuncId) (args : List AV) (st : St) : baseW f args st = .no ∨ (f = 9 ∧ args = []) ∨ (f = 31 ∧ ∃ s, args = [.str s, .int .i64 10, .int .i64 64] ∧ digits s ∧ s.length ≤ 281474976710656) := by
  unfold baseW
  split
  · by_cases h : f = 9
    · exact .inr (.inl ⟨h, rfl⟩)
    · exact .inl (if_neg h)
  · rename_i s a b
    by_cases h : f = 31 ∧ a = 10 ∧ b = 64 ∧ digB s = true ∧ s.length ≤ 281474976710656
    · obtain ⟨h1, rfl, rfl, h4, h5⟩ := h
      exact .inr (.inr ⟨h1, s, rfl, (digB_iff s).1 h4, h5⟩)
    · exact .inl (if_neg h)
  · exact .inl rfl
theorem baseW_no (f : FuncId) (args : List AV) (st : St) (h9 : f ≠ 9) (h31 : f ≠ 31) : baseW f args st = .no := by
  rcases baseW_cases f args st with h | ⟨h, _⟩ | ⟨h, _⟩
  · exact h
  · exact absurd h h9
  · exact absurd h h31
/-- a world that has but grown -/
theorem sim_below {ι : Inj} {st : St} {w w' : World} (hs : Sim ι st.h st.nx w) (b : Below w.heap.size w w') : Sim ι st.h st.nx w' ∧ Grew ι w ι w' := by
  have gr : Grew ι w ι w' := ⟨b.os, b.tape, b.output, b.size, fun k hk _ => b.block k hk, fun b B S e => .inl ⟨b, S, e⟩⟩
  exact ⟨⟨fun c B S e => by
    obtain ⟨o, x, h1, h2, h3⟩ := hs.obj c B S e
    exact ⟨o, x, h1, (b.block B (hs.lt e)).trans h2, h3⟩, hs.gone, hs.inj, hs.born, hs.glob.grew gr⟩, gr⟩
theorem baseW_ok : CallOK Tryd.prog baseW := by
  intro f args st ι w vs hs hv
  rcases baseW_cases f args st with h | ⟨rfl, rfl⟩ | ⟨rfl, s, rfl, hd, hl⟩
  · rw [h]; trivial
  · rw [baseW_9]
    have hvs : vs = #[] := by
      have : vs.toList = [] := by simpa [VRs] using hv
      simpa using this
    subst hvs
    have hb : Tryd.f9.body.isSome = true := by kernel_rfl
    obtain ⟨c, hc⟩ := Option.isSome_iff_exists.1 hb
    refine ⟨(okP_spec tryd_okP Tryd.func9 hc).2, Calls.mono (run_true tryd_okP (draw_ok tryd_mixed) runs9 w ⟨hs.glob.1, fun b S e => by cases e⟩) fun e w' ⟨he, hos, ht, ho, hsz, hk⟩ => ⟨_, he, ι, Le.refl ι, ?_, ?_, ?_, Cleanly.refl ι st⟩⟩
    · simp only [VR]
    · exact (sim_below hs ⟨hos, ht, ho, hsz, hk⟩).1
    · exact (sim_below hs ⟨hos, ht, ho, hsz, hk⟩).2
  · simp only [VRs, VR] at hv
    obtain ⟨v1, l1, e1, ⟨bs, rfl, hbs⟩, v2, l2, rfl, rfl, v3, l3, rfl, rfl, rfl⟩ := hv
    have hvs : vs = #[.string bs, .int .i64 10, .int .i64 64] := by
      cases vs; simpa using e1
    subst hvs
    have hlen : bs.data.toList.length = s.length := by rw [← hbs, List.length_map]
    have hsz : bs.size = s.length := by rw [← hlen, Array.length_toList]; rfl
    have hne : bs.data.toList ≠ [] := fun h => hd.1 (by rw [← hbs, h]; rfl)
    have hd8 : dig8 bs.data.toList := fun c hc => by
      have := hd.2 c.toNat (by rw [← hbs]; exact List.mem_map.2 ⟨c, hc, rfl⟩)
      unfold isDigit at this
      simp at this
      omega
    have hent : Ev.Enters Tryd.prog 31 := by
      have hb : Tryd.f31.body.isSome = true := by kernel_rfl
      obtain ⟨c, hc⟩ := Option.isSome_iff_exists.1 hb
      exact (okP_spec tryd_okP Tryd.func31 hc).2
    have okc : ∀ v, Lib.parseIntB 64 bs.data.toList = .ok v → Calls Tryd.prog 31 #[.string bs, .int .i64 10, .int .i64 64] w fun e w' => e = .returned (.tuple #[.int .i64 v, .nilIface]) ∧ Below w.heap.size w w' := fun v h =>
      (Tryd.strconv_ParseInt_10_at64_ok bs (by omega) v h w).mono fun e w' ⟨he, hw⟩ => ⟨he, by
        rcases hw with rfl | ⟨t, rfl⟩
        · exact ⟨rfl, rfl, rfl, Nat.le_refl _, fun _ _ => rfl⟩
        · exact Lib.bytesWorld_below w 5 t⟩
    have hP := baseW_PI s st hd hl
    by_cases h7 : s.length ≤ 7
    · rw [hP.1 h7]
      refine ⟨hent, (okc _ (parseI_ok hne hd8 (by omega))).mono fun e w' ⟨he, hb⟩ => ⟨_, he, ι, Le.refl ι, ?_, (sim_below hs hb).1, (sim_below hs hb).2, Cleanly.refl ι st⟩⟩
      rw [hbs]
      simp only [VR, VRs]
      exact ⟨_, rfl, _, _, rfl, rfl, _, _, rfl, rfl, rfl⟩
    · rw [hP.2 (by omega)]
      refine ⟨hent, ?_⟩
      have fin : ∀ (x y : Value) (w' : World), Below w.heap.size w w' → Done ι w st st (.tup [.bad, .bad]) (.tuple #[x, y]) w' := fun x y w' hb => by
        refine ⟨ι, Le.refl ι, ?_, (sim_below hs hb).1, (sim_below hs hb).2, Cleanly.refl ι st⟩
        simp only [VR, VRs]
        exact ⟨_, rfl, _, _, rfl, trivial, _, _, rfl, trivial, rfl⟩
      rcases parseI_any hne hd8 with ⟨v, h⟩ | h
      · exact (okc v h).mono fun e w' ⟨he, hb⟩ => ⟨_, he, fin _ _ w' hb⟩
      · obtain ⟨te, pe, hg⟩ := hs.glob.1
        exact (Tryd.strconv_ParseInt_10_at64_range bs (by omega) h _ w hg (.inr ⟨te, pe, rfl⟩)).mono fun e w' ⟨N, he, _, _, hb⟩ => ⟨_, he, fin _ _ w' hb⟩
end Go.Sy
end

section
set_option maxRecDepth 100000
namespace Go.Sy
open Go.Ev Go.Proofs
def b6 : Cmd := (.seq (.ops [⟨(some 2), true, none, (.i (.mv (.c (.bool false))))⟩]) (.seq (.seq (.ops [⟨(some 10), false, none, (.call (.c (.fn 9 [])) [])⟩, ⟨(some 11), true, none, (.i (.un .not (.t 10)))⟩]) (.cond (.t 11) (.seq (.ops [⟨(some 2), true, none, (.i (.mv (.c (.bool false))))⟩]) .ret) .skip)) (.seq (.seq (.ops [⟨(some 12), false, none, (.i (.mv (.t 0)))⟩, ⟨(some 13), false, none, (.i (.lenS (.t 12)))⟩, ⟨(some 14), true, none, (.i (.bin .gtr (.t 13) (.c (.int .i64 4000))))⟩]) (.cond (.t 14) (.seq (.ops [⟨(some 2), true, none, (.i (.mv (.c (.bool true))))⟩]) .ret) .skip)) (.seq (.ops [⟨(some 16), false, none, (.i (.mv (.t 0)))⟩, ⟨(some 17), false, none, (.call (.c (.fn 8 [])) [(.t 16)])⟩, ⟨(some 15), false, none, (.i (.mv (.t 17)))⟩, ⟨(some 18), false, none, (.i (.ext (.t 15) 0))⟩, ⟨(some 19), false, none, (.i (.ext (.t 15) 1))⟩, ⟨(some 4), true, none, (.i (.alloc [(.int .i64 0), (.int .i64 0), (.int .i64 0)]))⟩, ⟨(some 3), true, none, (.i (.mv (.t 18)))⟩, ⟨none, false, none, (.i (.st 3 (.t 4) (.t 19)))⟩]) (.seq (.seq (.ops [⟨(some 20), false, none, (.i (.ldA 3 (.t 4)))⟩, ⟨(some 21), false, none, (.i (.build [(.int .i64 0), (.int .i64 0), (.int .i64 0)] []))⟩, ⟨(some 22), true, none, (.i (.gen .neq 25 false (.t 20) (.t 21)))⟩]) (.cond (.t 22) (.seq (.ops [⟨(some 23), false, none, (.i (.mv (.t 3)))⟩, ⟨(some 24), false, none, (.i (.len (.t 23)))⟩, ⟨(some 25), false, none, (.i (.bin .eql (.t 24) (.c (.int .i64 0))))⟩, ⟨(some 26), false, none, (.i (.mv (.t 25)))⟩, ⟨(some 27), false, (some (26, true)), (.i (.fad 1 (.t 4)))⟩, ⟨(some 28), false, (some (26, true)), (.i (.ld1 (.t 27)))⟩, ⟨(some 29), false, (some (26, true)), (.i (.bin .geq (.t 28) (.c (.int .i64 1))))⟩, ⟨(some 30), false, none, (.i (.pick (.t 26) (.t 29) (.c (.bool false))))⟩, ⟨(some 31), false, none, (.i (.mv (.t 30)))⟩, ⟨(some 32), false, (some (31, true)), (.i (.fad 2 (.t 4)))⟩, ⟨(some 33), false, (some (31, true)), (.i (.ld1 (.t 32)))⟩, ⟨(some 34), false, (some (31, true)), (.i (.bin .geq (.t 33) (.c (.int .i64 1))))⟩, ⟨(some 35), false, none, (.i (.pick (.t 31) (.t 34) (.c (.bool false))))⟩, ⟨(some 36), false, none, (.i (.mv (.t 35)))⟩, ⟨(some 37), false, (some (36, true)), (.i (.fad 0 (.t 4)))⟩, ⟨(some 38), false, (some (36, true)), (.i (.ld1 (.t 37)))⟩, ⟨(some 39), false, (some (36, true)), (.i (.bin .eql (.t 38) (.c (.int .i64 131))))⟩, ⟨(some 40), false, (some (36, true)), (.i (.mv (.t 39)))⟩, ⟨(some 41), false, (some (40, false)), (.i (.fad 0 (.t 4)))⟩, ⟨(some 42), false, (some (40, false)), (.i (.ld1 (.t 41)))⟩, ⟨(some 43), false, (some (40, false)), (.i (.bin .eql (.t 42) (.c (.int .i64 132))))⟩, ⟨(some 44), false, (some (36, true)), (.i (.pick (.t 40) (.c (.bool true)) (.t 43)))⟩, ⟨(some 45), false, none, (.i (.pick (.t 36) (.t 44) (.c (.bool false))))⟩, ⟨(some 2), true, none, (.i (.mv (.t 45)))⟩]) .ret) .skip)) (.seq (.ops [⟨(some 5), true, none, (.i (.mv (.c (.int .i64 1))))⟩, ⟨(some 6), true, none, (.i (.mv (.c (.int .i64 1))))⟩, ⟨(some 7), true, none, (.i (.mv (.c (.int .i64 0))))⟩, ⟨(some 8), true, none, (.i (.mv (.c (.int .i64 0))))⟩]) (.seq (.block 0 (.loop (.seq (.seq (.ops [⟨(some 46), false, none, (.i (.mv (.t 7)))⟩, ⟨(some 47), false, none, (.i (.mv (.t 0)))⟩, ⟨(some 48), false, none, (.i (.lenS (.t 47)))⟩, ⟨(some 49), true, none, (.i (.bin .leq (.t 46) (.t 48)))⟩]) (.cond (.t 49) .skip (.exit 0))) (.block 1 (.seq (.seq (.ops [⟨(some 50), false, none, (.i (.mv (.t 8)))⟩, ⟨(some 51), false, none, (.i (.mv (.t 3)))⟩, ⟨(some 52), false, none, (.i (.len (.t 51)))⟩, ⟨(some 53), false, none, (.i (.bin .lss (.t 50) (.t 52)))⟩, ⟨(some 54), false, none, (.i (.mv (.t 53)))⟩, ⟨(some 55), false, (some (54, true)), (.i (.mv (.t 3)))⟩, ⟨(some 56), false, (some (54, true)), (.i (.mv (.t 8)))⟩, ⟨(some 57), false, (some (54, true)), (.i (.idxS 5 (.t 55) (.t 56)))⟩, ⟨(some 58), false, (some (54, true)), (.i (.fad 3 (.t 57)))⟩, ⟨(some 59), false, (some (54, true)), (.i (.ld1 (.t 58)))⟩, ⟨(some 60), false, (some (54, true)), (.i (.mv (.t 5)))⟩, ⟨(some 61), false, (some (54, true)), (.i (.bin .eql (.t 59) (.t 60)))⟩, ⟨(some 62), false, none, (.i (.pick (.t 54) (.t 61) (.c (.bool false))))⟩, ⟨(some 63), false, none, (.i (.mv (.t 62)))⟩, ⟨(some 64), false, (some (63, true)), (.i (.mv (.t 3)))⟩, ⟨(some 65), false, (some (63, true)), (.i (.mv (.t 8)))⟩, ⟨(some 66), false, (some (63, true)), (.i (.idxS 5 (.t 64) (.t 65)))⟩, ⟨(some 67), false, (some (63, true)), (.i (.fad 4 (.t 66)))⟩, ⟨(some 68), false, (some (63, true)), (.i (.ld1 (.t 67)))⟩, ⟨(some 69), false, (some (63, true)), (.i (.mv (.t 6)))⟩, ⟨(some 70), false, (some (63, true)), (.i (.bin .eql (.t 68) (.t 69)))⟩, ⟨(some 71), true, none, (.i (.pick (.t 63) (.t 70) (.c (.bool false))))⟩]) (.cond (.t 71) (.seq (.ops [⟨(some 72), false, none, (.i (.mv (.t 3)))⟩, ⟨(some 73), false, none, (.i (.mv (.t 8)))⟩, ⟨(some 74), false, none, (.i (.idxS 5 (.t 72) (.t 73)))⟩, ⟨(some 75), false, none, (.i (.fad 1 (.t 74)))⟩, ⟨(some 76), false, none, (.i (.ld1 (.t 75)))⟩, ⟨(some 77), false, none, (.i (.lenS (.t 76)))⟩, ⟨(some 9), true, none, (.i (.mv (.t 77)))⟩]) (.seq (.seq (.ops [⟨(some 78), false, none, (.i (.mv (.t 7)))⟩, ⟨(some 79), false, none, (.i (.mv (.t 9)))⟩, ⟨(some 80), false, none, (.i (.bin .add (.t 78) (.t 79)))⟩, ⟨(some 81), false, none, (.i (.mv (.t 0)))⟩, ⟨(some 82), false, none, (.i (.lenS (.t 81)))⟩, ⟨(some 83), false, none, (.i (.bin .gtr (.t 80) (.t 82)))⟩, ⟨(some 84), false, none, (.i (.mv (.t 83)))⟩, ⟨(some 85), false, (some (84, false)), (.i (.mv (.t 0)))⟩, ⟨(some 86), false, (some (84, false)), (.i (.mv (.t 7)))⟩, ⟨(some 87), false, (some (84, false)), (.i (.mv (.t 7)))⟩, ⟨(some 88), false, (some (84, false)), (.i (.mv (.t 9)))⟩, ⟨(some 89), false, (some (84, false)), (.i (.bin .add (.t 87) (.t 88)))⟩, ⟨(some 90), false, (some (84, false)), (.i (.slStr (.t 85) (some (.t 86)) (some (.t 89))))⟩, ⟨(some 91), false, (some (84, false)), (.i (.mv (.t 3)))⟩, ⟨(some 92), false, (some (84, false)), (.i (.mv (.t 8)))⟩, ⟨(some 93), false, (some (84, false)), (.i (.idxS 5 (.t 91) (.t 92)))⟩, ⟨(some 94), false, (some (84, false)), (.i (.fad 1 (.t 93)))⟩, ⟨(some 95), false, (some (84, false)), (.i (.ld1 (.t 94)))⟩, ⟨(some 96), false, (some (84, false)), (.i (.strb .neq (.t 90) (.t 95)))⟩, ⟨(some 97), false, none, (.i (.pick (.t 84) (.c (.bool true)) (.t 96)))⟩, ⟨(some 98), false, none, (.i (.mv (.t 97)))⟩, ⟨(some 99), false, (some (98, false)), (.i (.mv (.t 3)))⟩, ⟨(some 100), false, (some (98, false)), (.i (.mv (.t 8)))⟩, ⟨(some 101), false, (some (98, false)), (.i (.idxS 5 (.t 99) (.t 100)))⟩, ⟨(some 102), false, (some (98, false)), (.i (.fad 0 (.t 101)))⟩, ⟨(some 103), false, (some (98, false)), (.i (.ld1 (.t 102)))⟩, ⟨(some 104), false, (some (98, false)), (.i (.bin .eql (.t 103) (.c (.int .i64 5))))⟩, ⟨(some 105), false, (some (98, false)), (.i (.mv (.t 7)))⟩, ⟨(some 106), false, (some (98, false)), (.i (.mv (.t 0)))⟩, ⟨(some 107), false, (some (98, false)), (.i (.lenS (.t 106)))⟩, ⟨(some 108), false, (some (98, false)), (.i (.bin .eql (.t 105) (.t 107)))⟩, ⟨(some 109), false, (some (98, false)), (.i (.gen .neq 4 false (.t 104) (.t 108)))⟩, ⟨(some 110), false, none, (.i (.pick (.t 98) (.c (.bool true)) (.t 109)))⟩, ⟨(some 111), false, none, (.i (.mv (.t 110)))⟩, ⟨(some 112), false, (some (111, false)), (.i (.mv (.t 9)))⟩, ⟨(some 113), false, (some (111, false)), (.i (.bin .eql (.t 112) (.c (.int .i64 0))))⟩, ⟨(some 114), false, (some (111, false)), (.i (.mv (.t 113)))⟩, ⟨(some 115), false, (some (114, true)), (.i (.mv (.t 7)))⟩, ⟨(some 116), false, (some (114, true)), (.i (.mv (.t 0)))⟩, ⟨(some 117), false, (some (114, true)), (.i (.lenS (.t 116)))⟩, ⟨(some 118), false, (some (114, true)), (.i (.bin .lss (.t 115) (.t 117)))⟩, ⟨(some 119), false, (some (111, false)), (.i (.pick (.t 114) (.t 118) (.c (.bool false))))⟩, ⟨(some 120), true, none, (.i (.pick (.t 111) (.c (.bool true)) (.t 119)))⟩]) (.cond (.t 120) (.seq (.ops [⟨(some 2), true, none, (.i (.mv (.c (.bool false))))⟩]) .ret) .skip)) (.seq (.ops [⟨(some 121), false, none, (.i (.mv (.t 7)))⟩, ⟨(some 122), false, none, (.i (.mv (.t 9)))⟩, ⟨(some 123), false, none, (.i (.bi .max #[3, 3] [(.t 122), (.c (.int .i64 1))]))⟩, ⟨(some 124), false, none, (.i (.bin .add (.t 121) (.t 123)))⟩, ⟨(some 7), true, none, (.i (.mv (.t 124)))⟩]) (.seq (.ops [⟨(some 125), false, none, (.i (.mv (.t 6)))⟩, ⟨(some 126), false, none, (.i (.mv (.t 9)))⟩, ⟨(some 127), false, none, (.i (.bi .max #[3, 3] [(.t 126), (.c (.int .i64 1))]))⟩, ⟨(some 128), false, none, (.i (.bin .add (.t 125) (.t 127)))⟩, ⟨(some 6), true, none, (.i (.mv (.t 128)))⟩]) (.seq (.ops [⟨(some 129), false, none, (.i (.mv (.t 8)))⟩, ⟨(some 130), false, none, (.i (.bin .add (.t 129) (.c (.int .i64 1))))⟩, ⟨(some 8), true, none, (.i (.mv (.t 130)))⟩]) (.exit 1)))))) .skip)) (.seq (.seq (.ops [⟨(some 131), false, none, (.i (.mv (.t 7)))⟩, ⟨(some 132), false, none, (.i (.mv (.t 0)))⟩, ⟨(some 133), false, none, (.i (.lenS (.t 132)))⟩, ⟨(some 134), false, none, (.i (.bin .lss (.t 131) (.t 133)))⟩, ⟨(some 135), false, none, (.i (.mv (.t 134)))⟩, ⟨(some 136), false, (some (135, true)), (.i (.mv (.t 0)))⟩, ⟨(some 137), false, (some (135, true)), (.i (.mv (.t 7)))⟩, ⟨(some 138), false, (some (135, true)), (.i (.ixStr (.t 136) (.t 137)))⟩, ⟨(some 139), false, (some (135, true)), (.i (.bin .eql (.t 138) (.c (.int .u8 10))))⟩, ⟨(some 140), true, none, (.i (.pick (.t 135) (.t 139) (.c (.bool false))))⟩]) (.cond (.t 140) (.seq (.ops [⟨(some 141), false, none, (.i (.mv (.t 5)))⟩, ⟨(some 142), false, none, (.i (.bin .add (.t 141) (.c (.int .i64 1))))⟩, ⟨(some 5), true, none, (.i (.mv (.t 142)))⟩]) (.ops [⟨(some 6), true, none, (.i (.mv (.c (.int .i64 0))))⟩])) .skip)) (.seq (.ops [⟨(some 143), false, none, (.i (.mv (.t 7)))⟩, ⟨(some 144), false, none, (.i (.bin .add (.t 143) (.c (.int .i64 1))))⟩, ⟨(some 7), true, none, (.i (.mv (.t 144)))⟩]) (.ops [⟨(some 145), false, none, (.i (.mv (.t 6)))⟩, ⟨(some 146), false, none, (.i (.bin .add (.t 145) (.c (.int .i64 1))))⟩, ⟨(some 6), true, none, (.i (.mv (.t 146)))⟩])))))))) (.seq (.ops [⟨(some 147), false, none, (.i (.mv (.t 8)))⟩, ⟨(some 148), false, none, (.i (.mv (.t 3)))⟩, ⟨(some 149), false, none, (.i (.len (.t 148)))⟩, ⟨(some 150), false, none, (.i (.bin .eql (.t 147) (.t 149)))⟩, ⟨(some 2), true, none, (.i (.mv (.t 150)))⟩]) .ret))))))))
def c6 : FD := ⟨[0], b6, [(.t 2)]⟩
theorem l6 : lowF Tryd.prog 6 = some c6 := by kernel_rfl
end Go.Sy
end

section
set_option maxRecDepth 100000
namespace Go.Sy
open Go.Ev Go.Proofs
/-! ### where a text's words stand: no program in sight -/
/-- a place behind another -/
def lexL (p q : Nat × Nat) : Prop := p.1 < q.1 ∨ p.1 = q.1 ∧ p.2 < q.2
theorem lexL.trans {p q r : Nat × Nat} (h : lexL p q) (k : lexL q r) : lexL p r := by
  unfold lexL at *; omega
theorem lexL_step (p : Nat × Nat) (x : Nat) : lexL p (stepP p x) := by
  unfold lexL stepP
  split <;> simp
theorem lexL_walk (x : Nat) (l : List Nat) : ∀ p : Nat × Nat, lexL p (walkP p (x :: l)) := by
  induction l generalizing x with
  | nil => exact fun p => lexL_step p x
  | cons y l ih => exact fun p => (lexL_step p x).trans (ih y (stepP p x))
theorem walk_ne {l : List Nat} {a b : Nat} (h : a < b) (hb : b ≤ l.length) (p : Nat × Nat) : walkP p (l.take a) ≠ walkP p (l.take b) := by
  intro e
  have hd : l.take b = l.take a ++ (l.drop a).take (b - a) := by
    have := List.take_add (l := l) (i := a) (j := b - a)
    rw [show a + (b - a) = b by omega] at this
    exact this
  rw [hd, walkP_app] at e
  have hne : (l.drop a).take (b - a) ≠ [] := by
    intro h2
    have := congrArg List.length h2
    rw [List.length_take, List.length_drop] at this
    simp at this
    omega
  obtain ⟨x, r, hx⟩ := List.exists_cons_of_ne_nil hne
  rw [hx] at e
  have := lexL_walk x r (walkP p (l.take a))
  rw [← e] at this
  unfold lexL at this
  omega
theorem walk_step {l : List Nat} {a : Nat} (h : a < l.length) (p : Nat × Nat) : walkP p (l.take (a + 1)) = stepP (walkP p (l.take a)) (l.getD a 0) := by
  rw [take_succ_getD h, walkP_app]; rfl
theorem walk_flat : ∀ (l : List Nat) (p : Nat × Nat), (∀ c ∈ l, c ≠ 10) → walkP p l = (p.1, p.2 + l.length)
  | [], p, _ => rfl
  | x :: l, p, h => by
    show walkP (stepP p x) l = _
    have hx := h x (by simp)
    have e : stepP p x = (p.1, p.2 + 1) := by unfold stepP; rw [if_neg hx]
    rw [e, walk_flat l _ (fun c hc => h c (by simp [hc]))]
    simp only [List.length_cons]
    congr 1
    omega
theorem sign_flat {r : List Nat} : ∀ {xs : List (List Nat)}, (∀ x ∈ xs, ∀ c ∈ x, c ≠ 10) → ∀ c ∈ r.take (firstN r xs), c ≠ 10
  | [], _, c, hc => by simp [firstN] at hc
  | x :: xs, h, c, hc => by
    have e : firstN r (x :: xs) = if begins x r = true then x.length else firstN r xs := rfl
    rw [e] at hc
    by_cases hb : begins x r = true
    · rw [if_pos hb] at hc
      have hb' : r.take x.length = x := of_decide_eq_true hb
      rw [hb'] at hc
      exact h x (by simp) c hc
    · rw [if_neg hb] at hc
      exact sign_flat (fun y hy => h y (by simp [hy])) c hc
/-- a word that is one: its text stands there, and no line ends in it -/
theorem nextM_text {r : List Nat} {p : Nat × Nat} {t : Tk} {n : Nat} (h : nextM r p = (0, t, n)) : t.text = r.take n ∧ t.line = p.1 ∧ t.col = p.2 ∧ ∀ c ∈ r.take n, c ≠ 10 := by
  cases r with
  | nil => simp [nextM] at h; obtain ⟨h1, h2⟩ := h; subst h1 h2; simp
  | cons x r' =>
    unfold nextM at h
    simp only at h
    have h1 := lead_run isInner (x :: r')
    have h2 := lead_run isDigit (x :: r')
    have h3 : ∀ c ∈ (x :: r').take (signN (x :: r')), c ≠ 10 := sign_flat (by decide)
    split at h
    · split at h
      · simp at h
      · simp only [Prod.mk.injEq, true_and] at h
        obtain ⟨h4, h5⟩ := h
        subst h4 h5
        refine ⟨rfl, rfl, rfl, fun c hc e => ?_⟩
        have := h1 c hc
        rw [e] at this
        exact absurd this (by decide)
    · split at h
      · split at h
        · simp at h
        · simp only [Prod.mk.injEq, true_and] at h
          obtain ⟨h4, h5⟩ := h
          subst h4 h5
          refine ⟨rfl, rfl, rfl, fun c hc e => ?_⟩
          have := h2 c hc
          rw [e] at this
          exact absurd this (by decide)
      · split at h
        · simp at h
        · simp only [Prod.mk.injEq, true_and] at h
          obtain ⟨h4, h5⟩ := h
          subst h4 h5
          exact ⟨rfl, rfl, rfl, h3⟩
theorem nextM_err {r : List Nat} {p : Nat × Nat} {e n : Nat} {t : Tk} (h : nextM r p = (e, t, n)) : (e = 0 ∨ e = 131 ∨ e = 132) ∧ t.line = p.1 ∧ t.col = p.2 := by
  cases r with
  | nil => simp [nextM] at h; obtain ⟨h0, h1, h2⟩ := h; subst h0 h1; simp
  | cons x r' =>
    unfold nextM at h
    simp only at h
    split at h
    · split at h <;> simp only [Prod.mk.injEq] at h <;> obtain ⟨h0, h1, h2⟩ := h <;> subst h0 h1 <;> simp
    · split at h
      · split at h <;> simp only [Prod.mk.injEq] at h <;> obtain ⟨h0, h1, h2⟩ := h <;> subst h0 h1 <;> simp
      · split at h <;> simp only [Prod.mk.injEq] at h <;> obtain ⟨h0, h1, h2⟩ := h <;> subst h0 h1 <;> simp
end Go.Sy
end

section
set_option maxRecDepth 100000
namespace Go.Sy
open Go.Ev Go.Proofs
theorem walkP_ge : ∀ (l : List Nat) (p : Nat × Nat), p.1 ≤ (walkP p l).1
  | [], p => Nat.le_refl _
  | x :: l, p => by
    have h1 : p.1 ≤ (stepP p x).1 := by
      unfold stepP
      split <;> simp
    exact Nat.le_trans h1 (walkP_ge l _)
/-- a fault is at a place -/
theorem cutM_fault (k : Nat) : ∀ (r : List Nat) (p : Nat × Nat), r.length ≤ k → 1 ≤ p.1 → 1 ≤ p.2 → (cutM r p).2.1 ≠ 0 → (cutM r p).1 = [] ∧ ((cutM r p).2.1 = 131 ∨ (cutM r p).2.1 = 132) ∧ 1 ≤ (cutM r p).2.2.1 ∧ 1 ≤ (cutM r p).2.2.2 := by
  induction k with
  | zero =>
    intro r p hr h1 h2 hf
    have : r = [] := List.eq_nil_of_length_eq_zero (by omega)
    subst this
    have hg : gaps ([] : List Nat) = 0 := by
      have := gaps_le ([] : List Nat)
      simpa using this
    have hn : nextM (([] : List Nat).drop (gaps [])) (walkP p (([] : List Nat).take (gaps []))) = (0, ⟨5, [], 0, (walkP p (([] : List Nat).take (gaps []))).1, (walkP p (([] : List Nat).take (gaps []))).2⟩, 0) := by
      rw [hg]; rfl
    rw [cutM_eq _ _ hn] at hf
    simp at hf
  | succ k ih =>
    intro r p hr h1 h2 hf
    generalize hx : nextM (r.drop (gaps r)) (walkP p (r.take (gaps r))) = x
    obtain ⟨e, t, n⟩ := x
    obtain ⟨he, hl, hc⟩ := nextM_err hx
    have w1 := walkP_ge (r.take (gaps r)) p
    have w2 := (walkP_le (r.take (gaps r)) p h2).2.2
    rw [cutM_eq r p hx] at hf ⊢
    by_cases h0 : e ≠ 0
    · rw [if_pos h0] at hf ⊢
      refine ⟨rfl, ?_, ?_, ?_⟩
      · show e = 131 ∨ e = 132
        omega
      · show 1 ≤ t.line
        omega
      · show 1 ≤ t.col
        omega
    · rw [if_neg h0] at hf ⊢
      by_cases hn : n = 0
      · rw [if_pos hn] at hf; simp at hf
      · rw [if_neg hn] at hf ⊢
        have hle := nextM_le hx
        have hg := gaps_le r
        rw [List.length_drop] at hle
        have hlen : ((r.drop (gaps r)).drop n).length ≤ k := by rw [List.length_drop, List.length_drop]; omega
        have w3 := walkP_ge ((r.drop (gaps r)).take n) (walkP p (r.take (gaps r)))
        have w4 := (walkP_le ((r.drop (gaps r)).take n) (walkP p (r.take (gaps r))) w2).2.2
        have := ih _ (walkP (walkP p (r.take (gaps r))) ((r.drop (gaps r)).take n)) hlen (by omega) w4
        generalize cutM ((r.drop (gaps r)).drop n) (walkP (walkP p (r.take (gaps r))) ((r.drop (gaps r)).take n)) = q at *
        by_cases hq : q.2.1 ≠ 0
        · rw [if_pos hq]
          obtain ⟨i1, i2, i3, i4⟩ := this hq
          exact ⟨rfl, i2, i3, i4⟩
        · rw [if_neg hq] at hf
          exact absurd hf hq
/-- the words from a byte on -/
def seg (l : List Nat) (e : Nat) : List Tk × (Nat × Nat × Nat) := cutM (l.drop e) (walkP (1, 1) (l.take e))
def gapAt (l : List Nat) (e : Nat) : Nat := e + gaps (l.drop e)
theorem walk_add (l : List Nat) (a b : Nat) : walkP (walkP (1, 1) (l.take a)) ((l.drop a).take b) = walkP (1, 1) (l.take (a + b)) := by
  rw [← walkP_app, ← List.take_add]
theorem gapAt_le {l : List Nat} {e : Nat} (h : e ≤ l.length) : e ≤ gapAt l e ∧ gapAt l e ≤ l.length := by
  have := gaps_le (l.drop e)
  rw [List.length_drop] at this
  unfold gapAt
  omega
/-- one word more -/
theorem seg_step {l : List Nat} {e : Nat} (he : e ≤ l.length) (hf : (seg l e).2.1 = 0) : ∃ t rest, (seg l e).1 = t :: rest ∧ (t.line, t.col) = walkP (1, 1) (l.take (gapAt l e)) ∧ gapAt l e + t.text.length ≤ l.length ∧ t.text = (l.drop (gapAt l e)).take t.text.length ∧ (t.kind = 5 ↔ gapAt l e = l.length) ∧ (t.text.length = 0 ↔ gapAt l e = l.length) ∧
    (gapAt l e = l.length → rest = []) ∧ (gapAt l e < l.length → rest = (seg l (gapAt l e + t.text.length)).1 ∧ (seg l (gapAt l e + t.text.length)).2.1 = 0 ∧ walkP (1, 1) (l.take (gapAt l e + t.text.length)) = ((walkP (1, 1) (l.take (gapAt l e))).1, (walkP (1, 1) (l.take (gapAt l e))).2 + t.text.length)) := by
  have hg := gapAt_le he
  generalize hx : nextM ((l.drop e).drop (gaps (l.drop e))) (walkP (walkP (1, 1) (l.take e)) ((l.drop e).take (gaps (l.drop e)))) = x
  obtain ⟨e0, t, n⟩ := x
  have hx' := hx
  rw [List.drop_drop, walk_add] at hx'
  have hx2 : nextM (l.drop (gapAt l e)) (walkP (1, 1) (l.take (gapAt l e))) = (e0, t, n) := hx'
  have heq := cutM_eq _ _ hx
  simp only [List.drop_drop, walk_add] at heq
  have heq2 : seg l e = if e0 ≠ 0 then ([], (e0, t.line, t.col)) else if n = 0 then ([t], (0, 0, 0)) else if (seg l (gapAt l e + n)).2.1 ≠ 0 then ([], (seg l (gapAt l e + n)).2) else (t :: (seg l (gapAt l e + n)).1, (seg l (gapAt l e + n)).2) := heq
  by_cases h0 : e0 = 0
  · subst h0
    rw [if_neg (by decide)] at heq2
    obtain ⟨t1, t2, t3, t4⟩ := nextM_text hx2
    obtain ⟨k1, k2⟩ := nextM_kind hx2
    have hle := nextM_le hx2
    rw [List.length_drop] at hle
    have htl : t.text.length = n := by rw [t1, List.length_take, List.length_drop]; omega
    have hend : n = 0 ↔ gapAt l e = l.length := by
      rw [k2]
      constructor
      · intro h
        have := congrArg List.length h
        rw [List.length_drop] at this
        simp at this
        omega
      · intro h
        rw [h, List.drop_length]
    by_cases hn : n = 0
    · rw [if_pos hn] at heq2
      refine ⟨t, [], by rw [heq2], by rw [t2, t3], by omega, by rw [htl]; exact t1, by rw [k1, hend], by rw [htl, hend], fun _ => rfl, fun h => ?_⟩
      have := hend.1 hn
      omega
    · rw [if_neg hn] at heq2
      by_cases hq : (seg l (gapAt l e + n)).2.1 ≠ 0
      · rw [if_pos hq] at heq2
        rw [heq2] at hf
        exact absurd hf hq
      · rw [if_neg hq] at heq2
        refine ⟨t, _, by rw [heq2], by rw [t2, t3], by omega, by rw [htl]; exact t1, by rw [k1, hend], by rw [htl, hend], fun h => absurd (hend.2 h) hn, fun _ => ⟨by rw [htl], by rw [htl]; omega, ?_⟩⟩
        rw [htl, ← walk_add l (gapAt l e) n, walk_flat _ _ t4, List.length_take, List.length_drop]
        congr 2
        omega
  · rw [if_pos h0] at heq2
    rw [heq2] at hf
    exact absurd hf h0
theorem seg_0 (l : List Nat) : seg l 0 = cutM l (1, 1) := rfl
end Go.Sy
end

section
set_option maxRecDepth 100000
namespace Go.Sy
open Go.Ev Go.Proofs
section
variable {P : Program} {base : CallF} {st : St} {K : AV → St → Prop} {e : En}
noncomputable def biV (P : Program) (b : Builtin) (ts : Array TypeId) (v u : AV) (st : St) : ER := (builtinF P b ts [O v, O u]).run E0 st
theorem qz3e (b : Builtin) (ts : Array TypeId) (x y : A) : wK P base (.i (.bi b ts [x, y])) e st K = on1 e x fun v => on1 e y fun u => onER (biV P b ts v u st) K := k_2 rfl (fun _ => rfl) K
end
theorem eqI_nat (a b : Nat) : eqI (a : Int) (b : Int) = decide (a = b) := by
  show Nat.beq a b = _
  by_cases h : a = b
  · rw [beq_t h, decide_eq_true h]
  · rw [beq_f h, decide_eq_false h]
theorem eqFl (f g : Nat × Nat × Nat) : (eqF Tryd.prog 20 25).run (.agg (fcells f)) (.agg (fcells g)) = some (decide (f = g)) := by
  have h : (eqF Tryd.prog 20 25).run (.agg (fcells f)) (.agg (fcells g)) = cond (eqI (f.1 : Int) (g.1 : Int)) (cond (eqI (f.2.1 : Int) (g.2.1 : Int)) (cond (eqI (f.2.2 : Int) (g.2.2 : Int)) (some true) (some false)) (some false)) (some false) := by kernel_rfl
  rw [h, eqI_nat, eqI_nat, eqI_nat]
  obtain ⟨a, b, c⟩ := f
  obtain ⟨a', b', c'⟩ := g
  by_cases h1 : a = a' <;> by_cases h2 : b = b' <;> by_cases h3 : c = c' <;> simp [h1, h2, h3]
theorem neqFl (f : Nat × Nat × Nat) (st : St) (K : AV → St → Prop) : onER (genV Tryd.prog .neq 25 false (.agg (fcells f)) (.agg [.int .i64 0, .int .i64 0, .int .i64 0]) st) K = K (.bool (decide (f ≠ (0, 0, 0)))) st := by
  have h : genV Tryd.prog .neq 25 false (.agg (fcells f)) (.agg (fcells (0, 0, 0))) st = onSome ((eqF Tryd.prog 20 25).run (.agg (fcells f)) (.agg (fcells (0, 0, 0)))) fun b => .ok (.bool (cond b false true)) st := by kernel_rfl
  show onER (genV Tryd.prog .neq 25 false (.agg (fcells f)) (.agg (fcells (0, 0, 0))) st) K = _
  rw [h, eqFl]
  by_cases e : f = (0, 0, 0) <;> simp [e, onSome, onER]
theorem neqB (a b : Bool) (st : St) (K : AV → St → Prop) : onER (genV Tryd.prog .neq 4 false (.bool a) (.bool b) st) K = K (.bool (a != b)) st := by
  have : genV Tryd.prog .neq 4 false (.bool a) (.bool b) st = .ok (.bool (a != b)) st := by
    cases a <;> cases b <;> kernel_rfl
  rw [this]; rfl
theorem v_strneq (a : List Nat) (st : St) (K : AV → St → Prop) : onER (strV .neq (.str a) (.str a) st) K = K (.bool false) st := by
  simp [strV, strOp, onSome, onER, strEq_eq]
theorem v_max1 (a : Nat) (st : St) (K : AV → St → Prop) : onER (biV Tryd.prog .max #[3, 3] (.int .i64 (a : Int)) (.int .i64 1) st) K = K (.int .i64 ((max a 1 : Nat) : Int)) st := by
  have h : biV Tryd.prog .max #[3, 3] (.int .i64 (a : Int)) (.int .i64 1) st = onSome (max2 (.int .i64 (a : Int)) (.int .i64 1)) fun v => .ok v st := by kernel_rfl
  rw [h]
  have e : max2 (.int .i64 (a : Int)) (.int .i64 1) = some (.int .i64 ((max a 1 : Nat) : Int)) := by
    show cond (eqK .i64 .i64) (some (AV.int .i64 (cond (Nat.ble (Nat.succ a) 1) (1 : Int) (a : Int)))) none = _
    rw [eqK_self, cond_true]
    by_cases hb : a < 1
    · rw [ble_t hb, Nat.max_eq_right (by omega)]; rfl
    · rw [ble_f (by omega), Nat.max_eq_left (by omega)]; rfl
  rw [e]; rfl
theorem cutM_zero (k : Nat) : ∀ (r : List Nat) (p : Nat × Nat), r.length ≤ k → (cutM r p).2.1 = 0 → (cutM r p).2 = (0, 0, 0) := by
  induction k with
  | zero =>
    intro r p hr _
    have : r = [] := List.eq_nil_of_length_eq_zero (by omega)
    subst this
    have hg : gaps ([] : List Nat) = 0 := by
      have := gaps_le ([] : List Nat)
      simpa using this
    have hn : nextM (([] : List Nat).drop (gaps [])) (walkP p (([] : List Nat).take (gaps []))) = (0, ⟨5, [], 0, (walkP p (([] : List Nat).take (gaps []))).1, (walkP p (([] : List Nat).take (gaps []))).2⟩, 0) := by
      rw [hg]; rfl
    rw [cutM_eq _ _ hn]
    simp
  | succ k ih =>
    intro r p hr hf
    generalize hx : nextM (r.drop (gaps r)) (walkP p (r.take (gaps r))) = x
    obtain ⟨e, t, n⟩ := x
    rw [cutM_eq r p hx] at hf ⊢
    by_cases h0 : e ≠ 0
    · rw [if_pos h0] at hf
      exact absurd hf h0
    · rw [if_neg h0] at hf ⊢
      by_cases hn : n = 0
      · rw [if_pos hn]
      · rw [if_neg hn] at hf ⊢
        have hle := nextM_le hx
        have hg := gaps_le r
        rw [List.length_drop] at hle
        have hlen : ((r.drop (gaps r)).drop n).length ≤ k := by rw [List.length_drop, List.length_drop]; omega
        have := ih _ (walkP (walkP p (r.take (gaps r))) ((r.drop (gaps r)).take n)) hlen
        generalize cutM ((r.drop (gaps r)).drop n) (walkP (walkP p (r.take (gaps r))) ((r.drop (gaps r)).take n)) = q at *
        by_cases hq : q.2.1 ≠ 0
        · rw [if_pos hq] at hf
          exact absurd hf hq
        · rw [if_neg hq]
          exact this (by omega)
theorem cutM_len (k : Nat) : ∀ (r : List Nat) (p : Nat × Nat), r.length ≤ k → (cutM r p).1.length ≤ r.length + 1 := by
  induction k with
  | zero =>
    intro r p hr
    have : r = [] := List.eq_nil_of_length_eq_zero (by omega)
    subst this
    have hg : gaps ([] : List Nat) = 0 := by
      have := gaps_le ([] : List Nat)
      simpa using this
    have hn : nextM (([] : List Nat).drop (gaps [])) (walkP p (([] : List Nat).take (gaps []))) = (0, ⟨5, [], 0, (walkP p (([] : List Nat).take (gaps []))).1, (walkP p (([] : List Nat).take (gaps []))).2⟩, 0) := by
      rw [hg]; rfl
    rw [cutM_eq _ _ hn]
    simp
  | succ k ih =>
    intro r p hr
    generalize hx : nextM (r.drop (gaps r)) (walkP p (r.take (gaps r))) = x
    obtain ⟨e, t, n⟩ := x
    rw [cutM_eq r p hx]
    by_cases h0 : e ≠ 0
    · rw [if_pos h0]; simp
    · rw [if_neg h0]
      by_cases hn : n = 0
      · rw [if_pos hn]; simp
      · rw [if_neg hn]
        have hle := nextM_le hx
        have hg := gaps_le r
        rw [List.length_drop] at hle
        have hlen : ((r.drop (gaps r)).drop n).length ≤ k := by rw [List.length_drop, List.length_drop]; omega
        have := ih _ (walkP (walkP p (r.take (gaps r))) ((r.drop (gaps r)).take n)) hlen
        rw [List.length_drop, List.length_drop] at this
        generalize cutM ((r.drop (gaps r)).drop n) (walkP (walkP p (r.take (gaps r))) ((r.drop (gaps r)).take n)) = q at *
        by_cases hq : q.2.1 ≠ 0
        · rw [if_pos hq]; simp
        · rw [if_neg hq, List.length_cons]
          omega
theorem v_addNN {a b : Nat} (h2 : a + b ≤ 9223372036854775807) (st : St) (K : AV → St → Prop) : onER (binV .add (.int .i64 (a : Int)) (.int .i64 (b : Int)) st) K = K (.int .i64 ((a + b : Nat) : Int)) st := by
  rw [v_add (by omega) (by omega)]; rfl
theorem tcells_at : ∀ {ts : List Tk} {i j : Nat}, i < ts.length → j < 5 → (tcells ts).getD (5 * i + j) .bad = (ts.getD i ⟨0, [], 0, 0, 0⟩).cells.getD j .bad
  | [], i, j, h, _ => by simp at h
  | t :: ts, 0, j, h, hj => by
    show (t.cells ++ tcells ts).getD (5 * 0 + j) .bad = t.cells.getD j .bad
    rw [Nat.mul_zero, Nat.zero_add, List.getD_eq_getElem?_getD, List.getElem?_append_left (by show j < 5; exact hj), ← List.getD_eq_getElem?_getD]
  | t :: ts, i + 1, j, h, hj => by
    show (t.cells ++ tcells ts).getD (5 * (i + 1) + j) .bad = _
    have e : 5 * (i + 1) + j - t.cells.length = 5 * i + j := by show 5 * (i + 1) + j - 5 = _; omega
    rw [List.getD_eq_getElem?_getD, List.getElem?_append_right (by show 5 ≤ _; omega), e, ← List.getD_eq_getElem?_getD]
    exact tcells_at (by simpa using h) hj
end Go.Sy
end

section
set_option maxRecDepth 100000
namespace Go.Sy
open Go.Ev Go.Proofs
variable {base : CallF}
set_option maxHeartbeats 4000000 in
theorem places_ok (hb : ∀ f args st, f ≠ 9 → f ≠ 31 → base f args st = .no) (h9 : ∀ st, base 9 [] st = .ok (.bool true) st) (hP : PI base) {l : List Nat} (hl : l.length ≤ 9223372036854775807) (h256 : ∀ x ∈ l, x < 256) (st : St) : CW Tryd.prog base 6 [.str l] st fun v st' => v = .bool true ∧ Ext st st' := by
  refine fn_rule l6 (hb _ _ _ (by decide) (by decide)) ?_
  simp only [c6, entry, List.map_cons, List.map_nil, List.getD_cons_zero, List.getD_cons_succ]
  unfold b6
  simp (disch := first | decide | assumption | omega) only [rRa, rRb, rRc, Bool.not_true, Bool.not_false, List.cons_append, List.nil_append, List.append_nil]
  refine base_rule (h9 _) ?_
  by_cases h1 : 4000 < l.length
  · have h1' : (4000 : Int) < (l.length : Int) := by omega
    simp (disch := first | decide | assumption | omega) only [rRa, rRb, rRc, Bool.not_true, Bool.not_false, List.cons_append, List.nil_append, List.append_nil]
    exact ⟨trivial, Nat.le_refl _, rfl, fun _ _ => rfl⟩
  · have h1' : ¬ (4000 : Int) < (l.length : Int) := by omega
    simp (disch := first | decide | assumption | omega) only [rRa, rRb, rRc, Bool.not_true, Bool.not_false, List.cons_append, List.nil_append, List.append_nil]
    refine Cut_ok (fun f a s hf => hb _ a s (by intro h; subst h; simp at hf) (by intro h; subst h; simp at hf)) hP st.bare (by omega) h256 _ fun b s1 e1 hT => ?_
    have k1 := Kept.ext e1
    have hct : cutT l = seg l 0 := by unfold cutT; rw [if_neg (by omega), seg_0]
    rw [hct] at hT ⊢
    have hT' : (seg l 0).1 ≠ [] → Ts (Go.Ev.back st.bare s1) b (seg l 0).1 := fun h => ⟨(hT h).1.lt, (hT h).1.len, (hT h).1.cell⟩
    generalize Go.Ev.back st.bare s1 = u at k1 hT'
    have ufr : u.fr = [] := k1.fr
    simp (disch := first | decide | assumption | omega) only [rRa, rRb, rRc, Bool.not_true, Bool.not_false, List.cons_append, List.nil_append, List.append_nil]
    refine o_new fun s2 m2 => ?_
    have k2 := k1.made m2
    have n2 := m2.nx
    have l2 : rlen s2.h u.nx = 3 := m2.len
    simp (disch := first | decide | assumption | omega) only [rRa, rRb, rRc, Bool.not_true, Bool.not_false, List.cons_append, List.nil_append, List.append_nil]
    refine o_stF (seg l 0).2 l2 fun s3 w1 w2 w3 F => ?_
    have k3 : Kept st.bare s3 := ⟨by have := k2.nx; omega, w2.trans k2.fr, fun x hx => (w3 x (by have := k1.nx; have : x < st.bare.nx := hx; omega)).trans (k2.keep x hx)⟩
    have T3 : (seg l 0).1 ≠ [] → Ts s3 b (seg l 0).1 := fun h => (hT' h).keep (by omega) ((w3 b (by have := (hT' h).lt; omega)).trans (m2.keep b (by have := (hT' h).lt; omega)))
    have s3fr : s3.fr = [] := k3.fr
    have done : Ext st s3.bare := ⟨k3.nx, rfl, k3.keep⟩
    have hfault := cutM_fault l.length l (1, 1) (Nat.le_refl _) (by decide) (by decide)
    rw [← seg_0] at hfault
    generalize u.nx = fb at F l2
    have g0 : 0 < rlen s3.h fb := by rw [F.len]; decide
    have g1 : 1 < rlen s3.h fb := by rw [F.len]; decide
    have g2 : 2 < rlen s3.h fb := by rw [F.len]; decide
    have c0 := F.c0
    have c1 := F.c1
    have c2 := F.c2
    by_cases hf : (seg l 0).2 = (0, 0, 0)
    · have hd : decide ((seg l 0).2 ≠ (0, 0, 0)) = false := by simp [hf]
      have hz : (seg l 0).2.1 = 0 := by rw [hf]
      obtain ⟨t0, rest0, hs0, _⟩ := seg_step (Nat.zero_le l.length) hz
      have hne : (seg l 0).1 ≠ [] := by rw [hs0]; simp
      have TT := T3 hne
      have etv : tsV b (seg l 0).1 = .slice b 0 (seg l 0).1.length (seg l 0).1.length 5 false := by unfold tsV; rw [if_neg hne]
      have eN : ∀ (s : St) (K : AV → St → Prop), onER (genV Tryd.prog .neq 25 false (.agg (fcells (seg l 0).2)) (.agg [.int .i64 0, .int .i64 0, .int .i64 0]) s) K = K (.bool false) s := fun s K => by rw [neqFl, hd]
      rw [etv]
      simp (disch := first | decide | assumption | omega) only [F.ld, eN, rRa, rRb, rRc, Bool.not_true, Bool.not_false, List.cons_append, List.nil_append, List.append_nil]
      generalize hts : (seg l 0).1 = ts at TT hne hs0
      refine wC_loopH (fun mm L s => ∃ (pos nx ln cl : Nat), s = s3 ∧ mm = l.length + 1 - pos ∧ ((pos = l.length + 1 ∧ nx = ts.length) ∨ (pos ≤ l.length ∧ ∃ e, e ≤ pos ∧ pos ≤ gapAt l e ∧ ts.drop nx = (seg l e).1 ∧ (seg l e).2.1 = 0 ∧ (ln, cl) = walkP (1, 1) (l.take pos))) ∧ ln ≤ l.length + 1 ∧ cl ≤ l.length + 2 ∧ nx ≤ ts.length ∧ Has L 0 (.str l) ∧ Has L 3 (.slice b 0 ts.length ts.length 5 false) ∧ Has L 5 (.int .i64 (ln : Int)) ∧ Has L 6 (.int .i64 (cl : Int)) ∧ Has L 7 (.int .i64 (pos : Int)) ∧ Has L 8 (.int .i64 (nx : Int))) ?_ (l.length + 1) ?_
      · rintro mm L s ⟨pos, nx, ln, cl, rfl, rfl, hI, hln, hcl, hnx, i0, i3, i5, i6, i7, i8⟩
        unfold Hold
        have htl : ts.length ≤ 1000000 := by
          have := cutM_len l.length l (1, 1) (Nat.le_refl _)
          rw [← seg_0, hts] at this
          omega
        rcases hI with ⟨rfl, rfl⟩ | ⟨hpos, e, he1, he2, hd2, hz2, hp⟩
        · have q1 : ¬ ((l.length + 1 : Nat) : Int) ≤ (l.length : Int) := by omega
          have q2 : (l.length : Int) < ((l.length + 1 : Nat) : Int) := by omega
          simp (disch := first | decide | assumption | omega) only [r_onh i0, r_onh i3, r_onh i5, r_onh i6, r_onh i7, r_onh i8, rRa, rRb, rRc, Bool.not_true, Bool.not_false, List.cons_append, List.nil_append, List.append_nil]
          exact ⟨trivial, done⟩
        · have hpos' : (pos : Int) ≤ (l.length : Int) := by omega
          have wb := walkP_le (l.take pos) (1, 1) (by decide)
          rw [← hp, List.length_take, Nat.min_eq_left hpos] at wb
          have wb1 : ln ≤ 1 + pos := wb.1
          have wb2 : cl ≤ 1 + pos := wb.2.1
          obtain ⟨t, rest, s1', s2', s3', s4', s5', s6', s7', s8'⟩ := seg_step (show e ≤ l.length by omega) hz2
          rw [s1'] at hd2
          have hlt : nx < ts.length := by
            rcases Nat.lt_or_ge nx ts.length with h | h
            · exact h
            · rw [List.drop_of_length_le h] at hd2; simp at hd2
          have hget : ts.getD nx ⟨0, [], 0, 0, 0⟩ = t := by
            have := congrArg List.head? hd2
            rw [List.head?_drop] at this
            rw [List.getD_eq_getElem?_getD, this]; rfl
          have hrest : ts.drop (nx + 1) = rest := by
            have := congrArg List.tail hd2
            rw [List.tail_drop] at this
            exact this
          have cell : ∀ j, j < 5 → rat s.h b (5 * nx + j) = t.cells.getD j .bad := fun j hj => by
            rw [TT.cell _ (by omega), tcells_at hlt hj, hget]
          have hcl5 : 5 * nx + 4 < rlen s.h b := by rw [TT.len]; omega
          have v0 : rat s.h b (nx * 5) = .int .i64 (t.kind : Int) := by rw [show nx * 5 = 5 * nx + 0 by omega]; exact cell 0 (by decide)
          have v1 : rat s.h b (nx * 5 + 1) = .str t.text := by rw [show nx * 5 + 1 = 5 * nx + 1 by omega]; exact cell 1 (by decide)
          have v3 : rat s.h b (nx * 5 + 3) = .int .i64 (t.line : Int) := by rw [show nx * 5 + 3 = 5 * nx + 3 by omega]; exact cell 3 (by decide)
          have v4 : rat s.h b (nx * 5 + 4) = .int .i64 (t.col : Int) := by rw [show nx * 5 + 4 = 5 * nx + 4 by omega]; exact cell 4 (by decide)
          have b0 : nx * 5 < rlen s.h b := by omega
          have b1 : nx * 5 + 1 < rlen s.h b := by omega
          have b3 : nx * 5 + 3 < rlen s.h b := by omega
          have b4 : nx * 5 + 4 < rlen s.h b := by omega
          have hg := gapAt_le (show e ≤ l.length by omega)
          by_cases hat : pos = gapAt l e
          · rw [← hat] at s2' s3' s4' s5' s6' s7' s8'
            rw [← hp] at s2'
            obtain ⟨hL, hC⟩ := Prod.mk.inj s2'
            rw [hL] at v3
            rw [hC] at v4
            generalize hn : t.text.length = n at s3' s4' s6' s8'
            have a1 : ((pos + n : Nat) : Int) ≤ (l.length : Int) := by omega
            have eA := fun (s : St) (K : AV → St → Prop) => v_addNN (a := pos) (b := n) (by omega) s K
            have eS := fun (s : St) (K : AV → St → Prop) => v_sl3 (st := s) (K := K) (l := l) (a := pos) (n := pos + n) (by omega) s3' .i64 .i64
            have en : pos + n - pos = n := by omega
            have eT : (l.drop pos).take n = t.text := s4'.symm
            by_cases hend : pos = l.length
            · have hk : t.kind = 5 := s5'.2 hend
              have hn0 : n = 0 := s6'.2 hend
              subst hn0
              have k5 : (t.kind : Int) = 5 := by omega
              have e5 : (pos : Int) = (l.length : Int) := by omega
              have x1 : ((0 : Nat) : Int) = 0 := rfl
              have hr := s7' hend
              rw [hr] at hrest
              have hnx2 : nx + 1 = ts.length := by
                have := List.drop_eq_nil_iff.1 hrest
                omega
              have m1 : max 0 1 = 1 := rfl
              have eS0 : ∀ (s : St) (K : AV → St → Prop), onER (slStrV (.str l) (some (.int .i64 (pos : Int))) (some (.int .i64 (pos : Int))) s) K = K (.str t.text) s := fun s K => by
                rw [v_sl3 (Nat.le_refl pos) hpos, Nat.sub_self]
                rw [← eT]
              have eB := fun (s : St) (K : AV → St → Prop) => v_addNN (a := pos) (b := 1) (by omega) s K
              have eC := fun (s : St) (K : AV → St → Prop) => v_addNN (a := cl) (b := 1) (by omega) s K
              simp (disch := first | decide | assumption | omega) only [r_onh i0, r_onh i3, r_onh i5, r_onh i6, r_onh i7, r_onh i8, Nat.zero_add, Nat.add_zero, v0, v1, v3, v4, hn, eA, eS0, v_strneq, neqB, bne_self_eq_false, qz3e, v_max1, m1, eB, eC, v_addN, rRa, rRb, rRc, Bool.not_true, Bool.not_false, List.cons_append, List.nil_append, List.append_nil]
              refine ⟨l.length + 1 - (pos + 1), by omega, pos + 1, nx + 1, ln, cl + 1, by first | rfl | trivial, rfl, .inl ⟨by omega, hnx2⟩, by omega, by omega, by omega, ?_⟩
              simp (disch := decide) only [z0, z1, h_here, h_skip, i0, i3, i5, true_and, and_true]
            · have hk : t.kind ≠ 5 := fun h => hend (s5'.1 h)
              have hn0 : n ≠ 0 := fun h => hend (s6'.1 h)
              have k5 : (t.kind : Int) ≠ 5 := by omega
              have e5 : (pos : Int) ≠ (l.length : Int) := by omega
              have x1 : (n : Int) ≠ 0 := by omega
              have m1 : max n 1 = n := Nat.max_eq_left (by omega)
              have eC := fun (s : St) (K : AV → St → Prop) => v_addNN (a := cl) (b := n) (by omega) s K
              simp (disch := first | decide | assumption | omega) only [r_onh i0, r_onh i3, r_onh i5, r_onh i6, r_onh i7, r_onh i8, Nat.zero_add, Nat.add_zero, v0, v1, v3, v4, hn, eA, eS, en, eT, v_strneq, neqB, bne_self_eq_false, qz3e, v_max1, m1, eC, v_addN, rRa, rRb, rRc, Bool.not_true, Bool.not_false, List.cons_append, List.nil_append, List.append_nil]
              obtain ⟨z1, z2, z3⟩ := s8' (by omega)
              refine ⟨l.length + 1 - (pos + n), by omega, pos + n, nx + 1, ln, cl + n, by first | rfl | trivial, rfl, .inr ⟨by omega, pos + n, Nat.le_refl _, (gapAt_le (by omega)).1, hrest.trans z1, z2, by rw [z3, ← hp]⟩, by omega, by omega, by omega, ?_⟩
              simp (disch := decide) only [z0, z1, h_here, h_skip, i0, i3, i5, true_and, and_true]
          · have hlt2 : pos < gapAt l e := by omega
            have hlp : pos < l.length := by omega
            have hlp' : (pos : Int) < (l.length : Int) := by omega
            have hnep := walk_ne hlt2 hg.2 (1, 1)
            rw [← hp, ← s2'] at hnep
            have hw := walk_step hlp (1, 1)
            rw [← hp] at hw
            generalize hch : l.getD pos 0 = ch at hw
            have eX : ∀ (s : St) (K : AV → St → Prop), onER (ixStrV (.str l) (.int .i64 (pos : Int)) s) K = K (.int .u8 (ch : Int)) s := fun s K => by rw [qz37 hlp, hch]
            have eZ : ∀ (s : St) (K : AV → St → Prop), onER (binV .add (.int .i64 0) (.int .i64 1) s) K = K (.int .i64 ((1 : Nat) : Int)) s := fun s K => v_addN (a := 0) (by decide)
            by_cases hline : t.line = ln
            · have hcol : t.col ≠ cl := fun h => hnep (by rw [hline, h])
              have y1 : (t.line : Int) = (ln : Int) := by omega
              have y2 : (t.col : Int) ≠ (cl : Int) := by omega
              by_cases h10 : ch = 10
              · have y3 : (ch : Int) = 10 := by omega
                simp (disch := first | decide | assumption | omega) only [r_onh i0, r_onh i3, r_onh i5, r_onh i6, r_onh i7, r_onh i8, Nat.zero_add, v3, v4, eX, eZ, v_addN, rRa, rRb, rRc, Bool.not_true, Bool.not_false, List.cons_append, List.nil_append, List.append_nil]
                refine ⟨l.length + 1 - (pos + 1), by omega, pos + 1, nx, ln + 1, 1, by first | rfl | trivial, rfl, .inr ⟨by omega, e, by omega, by omega, hd2.trans s1'.symm, hz2, by rw [hw]; unfold stepP; rw [if_pos h10]⟩, by omega, by omega, by omega, ?_⟩
                simp (disch := decide) only [z0, z1, h_here, h_skip, i0, i3, i8, true_and, and_true]
              · have y3 : (ch : Int) ≠ 10 := by omega
                simp (disch := first | decide | assumption | omega) only [r_onh i0, r_onh i3, r_onh i5, r_onh i6, r_onh i7, r_onh i8, Nat.zero_add, v3, v4, eX, eZ, v_addN, rRa, rRb, rRc, Bool.not_true, Bool.not_false, List.cons_append, List.nil_append, List.append_nil]
                refine ⟨l.length + 1 - (pos + 1), by omega, pos + 1, nx, ln, cl + 1, by first | rfl | trivial, rfl, .inr ⟨by omega, e, by omega, by omega, hd2.trans s1'.symm, hz2, by rw [hw]; unfold stepP; rw [if_neg h10]⟩, by omega, by omega, by omega, ?_⟩
                simp (disch := decide) only [z0, z1, h_here, h_skip, i0, i3, i5, i8, true_and, and_true]
            · have y1 : (t.line : Int) ≠ (ln : Int) := by omega
              by_cases h10 : ch = 10
              · have y3 : (ch : Int) = 10 := by omega
                simp (disch := first | decide | assumption | omega) only [r_onh i0, r_onh i3, r_onh i5, r_onh i6, r_onh i7, r_onh i8, Nat.zero_add, v3, v4, eX, eZ, v_addN, rRa, rRb, rRc, Bool.not_true, Bool.not_false, List.cons_append, List.nil_append, List.append_nil]
                refine ⟨l.length + 1 - (pos + 1), by omega, pos + 1, nx, ln + 1, 1, by first | rfl | trivial, rfl, .inr ⟨by omega, e, by omega, by omega, hd2.trans s1'.symm, hz2, by rw [hw]; unfold stepP; rw [if_pos h10]⟩, by omega, by omega, by omega, ?_⟩
                simp (disch := decide) only [z0, z1, h_here, h_skip, i0, i3, i8, true_and, and_true]
              · have y3 : (ch : Int) ≠ 10 := by omega
                simp (disch := first | decide | assumption | omega) only [r_onh i0, r_onh i3, r_onh i5, r_onh i6, r_onh i7, r_onh i8, Nat.zero_add, v3, v4, eX, eZ, v_addN, rRa, rRb, rRc, Bool.not_true, Bool.not_false, List.cons_append, List.nil_append, List.append_nil]
                refine ⟨l.length + 1 - (pos + 1), by omega, pos + 1, nx, ln, cl + 1, by first | rfl | trivial, rfl, .inr ⟨by omega, e, by omega, by omega, hd2.trans s1'.symm, hz2, by rw [hw]; unfold stepP; rw [if_neg h10]⟩, by omega, by omega, by omega, ?_⟩
                simp (disch := decide) only [z0, z1, h_here, h_skip, i0, i3, i5, i8, true_and, and_true]
      · refine ⟨0, 0, 1, 1, rfl, by omega, .inr ⟨Nat.zero_le _, 0, Nat.le_refl _, (gapAt_le (Nat.zero_le _)).1, hts.symm, hz, rfl⟩, by omega, by omega, Nat.zero_le _, ?_⟩
        simp (disch := decide) only [z0, z1, h_here, h_skip, true_and, and_true]
    · have hd : decide ((seg l 0).2 ≠ (0, 0, 0)) = true := by simp [hf]
      have hne : (seg l 0).2.1 ≠ 0 := by
        intro h
        exact hf (cutM_zero l.length l (1, 1) (Nat.le_refl _) h)
      obtain ⟨i1, i2, i3, i4⟩ := hfault hne
      have etv : tsV b (seg l 0).1 = .nils := by rw [i1]; rfl
      have eN : ∀ (s : St) (K : AV → St → Prop), onER (genV Tryd.prog .neq 25 false (.agg (fcells (seg l 0).2)) (.agg [.int .i64 0, .int .i64 0, .int .i64 0]) s) K = K (.bool true) s := fun s K => by rw [neqFl, hd]
      rw [etv]
      have q1 : (1 : Int) ≤ ((seg l 0).2.2.1 : Int) := by omega
      have q2 : (1 : Int) ≤ ((seg l 0).2.2.2 : Int) := by omega
      rcases i2 with i2 | i2
      · have q3 : ((seg l 0).2.1 : Int) = 131 := by omega
        simp (disch := first | decide | assumption | omega) only [F.ld, eN, Nat.zero_add, c0, c1, c2, rRa, rRb, rRc, Bool.not_true, Bool.not_false, List.cons_append, List.nil_append, List.append_nil]
        exact ⟨trivial, done⟩
      · have q3 : ((seg l 0).2.1 : Int) = 132 := by omega
        have q4 : ((seg l 0).2.1 : Int) ≠ 131 := by omega
        simp (disch := first | decide | assumption | omega) only [F.ld, eN, Nat.zero_add, c0, c1, c2, rRa, rRb, rRc, Bool.not_true, Bool.not_false, List.cons_append, List.nil_append, List.append_nil]
        exact ⟨trivial, done⟩
end Go.Sy
end

section
set_option maxRecDepth 100000
namespace Go.Sy
open Go.Ev Go.Proofs
theorem bytes_lt (s : ByteArray) : ∀ c ∈ s.data.toList.map UInt8.toNat, c < 256 := by
  intro c hc
  obtain ⟨b, _, rfl⟩ := List.mem_map.1 hc
  exact b.toNat_lt
/-- what a call of the law does, at every string of a size that a string can have, where the library's error lies -/
theorem places_calls (s : ByteArray) (hl : s.size ≤ 9223372036854775807) (w : World) (hg : ∃ te pe, w.cell? ⟨1, 0, none⟩ = some (.iface te pe)) :
    Calls Tryd.prog 6 #[.string s] w fun e w' => e = .returned (.bool true) ∧ w'.os = w.os ∧ w'.tape = w.tape ∧ w'.output = w.output ∧ w.heap.size ≤ w'.heap.size ∧ ∀ k, k < w.heap.size → w'.heap[k]? = w.heap[k]? := by
  have hs : Sim (fun _ => .unborn) st0.h st0.nx w :=
    ⟨fun b B S e => (by cases e), fun b e => (by cases e), fun b b' B S S' e => (by cases e), fun b e => absurd rfl e, ⟨hg, fun b S e => by cases e⟩⟩
  have hll : (s.data.toList.map UInt8.toNat).length ≤ 9223372036854775807 := by
    rw [List.length_map, Array.length_toList]; exact hl
  have h := CW.calls tryd_okP (draw_ok tryd_mixed) baseW_ok
    (places_ok (base := baseW) (fun f args st h9 h31 => baseW_no f args st h9 h31) baseW_9 baseW_PI hll (bytes_lt s) st0) (ι := fun _ => .unborn) (w := w) (vs := #[.string s]) hs
    (by simp only [VRs]; exact ⟨_, _, rfl, by simp only [VR]; exact ⟨s, rfl, rfl⟩, rfl⟩)
  refine Calls.mono h fun e w' ⟨v, x, st', he, hK, ι', _, hv, _, hg, _⟩ => ?_
  rw [hK.1] at hv
  simp only [VR] at hv
  rw [hv] at he
  exact ⟨he, hg.os, hg.tape, hg.output, hg.size, fun k hk => hg.keep k hk (fun b S e => by cases e)⟩
end Go.Sy
end

section
set_option maxRecDepth 100000
namespace Go.Sy
open Go.Ev Go.Proofs
def b4 : Cmd := (.seq (.ops [⟨(some 2), true, none, (.i (.mv (.c (.bool false))))⟩]) (.seq (.seq (.ops [⟨(some 7), false, none, (.call (.c (.fn 9 [])) [])⟩, ⟨(some 8), true, none, (.i (.un .not (.t 7)))⟩]) (.cond (.t 8) (.seq (.ops [⟨(some 2), true, none, (.i (.mv (.c (.bool false))))⟩]) .ret) .skip)) (.seq (.seq (.ops [⟨(some 9), false, none, (.i (.mv (.t 0)))⟩, ⟨(some 10), false, none, (.i (.lenS (.t 9)))⟩, ⟨(some 11), true, none, (.i (.bin .gtr (.t 10) (.c (.int .i64 4000))))⟩]) (.cond (.t 11) (.seq (.ops [⟨(some 2), true, none, (.i (.mv (.c (.bool true))))⟩]) .ret) .skip)) (.seq (.ops [⟨(some 13), false, none, (.i (.mv (.t 0)))⟩, ⟨(some 14), false, none, (.call (.c (.fn 8 [])) [(.t 13)])⟩, ⟨(some 12), false, none, (.i (.mv (.t 14)))⟩, ⟨(some 15), false, none, (.i (.ext (.t 12) 0))⟩, ⟨(some 16), false, none, (.i (.ext (.t 12) 1))⟩, ⟨(some 4), true, none, (.i (.alloc [(.int .i64 0), (.int .i64 0), (.int .i64 0)]))⟩, ⟨(some 3), true, none, (.i (.mv (.t 15)))⟩, ⟨none, false, none, (.i (.st 3 (.t 4) (.t 16)))⟩]) (.seq (.ops [⟨(some 18), false, none, (.i (.mv (.t 0)))⟩, ⟨(some 19), false, none, (.call (.c (.fn 10 [])) [(.t 18)])⟩, ⟨(some 17), false, none, (.i (.mv (.t 19)))⟩, ⟨(some 20), false, none, (.i (.ext (.t 17) 0))⟩, ⟨(some 21), false, none, (.i (.ext (.t 17) 1))⟩, ⟨(some 6), true, none, (.i (.alloc [(.int .i64 0), (.int .i64 0), (.int .i64 0)]))⟩, ⟨(some 5), true, none, (.i (.mv (.t 20)))⟩, ⟨none, false, none, (.i (.st 3 (.t 6) (.t 21)))⟩]) (.seq (.ops [⟨(some 22), false, none, (.i (.mv (.t 3)))⟩, ⟨(some 23), false, none, (.i (.mv (.t 5)))⟩, ⟨(some 24), false, none, (.call (.c (.fn 11 [])) [(.t 22), (.t 23)])⟩, ⟨(some 25), false, none, (.i (.mv (.t 24)))⟩, ⟨(some 26), false, (some (25, true)), (.i (.ldA 3 (.t 4)))⟩, ⟨(some 27), false, (some (25, true)), (.i (.ldA 3 (.t 6)))⟩, ⟨(some 28), false, (some (25, true)), (.i (.gen .eql 25 false (.t 26) (.t 27)))⟩, ⟨(some 29), false, none, (.i (.pick (.t 25) (.t 28) (.c (.bool false))))⟩, ⟨(some 2), true, none, (.i (.mv (.t 29)))⟩]) .ret))))))
def c4 : FD := ⟨[0], b4, [(.t 2)]⟩
theorem l4 : lowF Tryd.prog 4 = some c4 := by kernel_rfl
def b10 : Cmd := (.seq (.ops [⟨(some 2), true, none, (.i (.mv (.c .nils)))⟩, ⟨(some 3), true, none, (.i (.alloc [(.int .i64 0), (.int .i64 0), (.int .i64 0)]))⟩]) (.seq (.seq (.ops [⟨(some 15), false, none, (.i (.mv (.t 0)))⟩, ⟨(some 16), false, none, (.i (.lenS (.t 15)))⟩, ⟨(some 17), true, none, (.i (.bin .gtr (.t 16) (.c (.int .i64 65536))))⟩]) (.cond (.t 17) (.seq (.ops [⟨(some 18), false, none, (.i (.build [(.int .i64 0), (.int .i64 0), (.int .i64 0)] [((0, 1), (.c (.int .i64 132))), ((1, 1), (.c (.int .i64 1))), ((2, 1), (.c (.int .i64 1)))]))⟩, ⟨(some 2), true, none, (.i (.mv (.c .nils)))⟩, ⟨none, false, none, (.i (.st 3 (.t 3) (.t 18)))⟩]) .ret) .skip)) (.seq (.ops [⟨(some 19), false, none, (.i (.buildS 0 5 [(.int .i64 0), (.str []), (.int .i64 0), (.int .i64 0), (.int .i64 0)] []))⟩, ⟨(some 4), true, none, (.i (.mv (.t 19)))⟩]) (.seq (.ops [⟨(some 5), true, none, (.i (.mv (.c (.int .i64 0))))⟩]) (.seq (.ops [⟨(some 6), true, none, (.i (.mv (.c (.bool false))))⟩]) (.seq (.block 0 (.loop (.seq (.seq (.ops [⟨(some 20), false, none, (.i (.mv (.t 5)))⟩, ⟨(some 21), false, none, (.i (.mv (.t 0)))⟩, ⟨(some 22), false, none, (.i (.lenS (.t 21)))⟩, ⟨(some 23), true, none, (.i (.bin .lss (.t 20) (.t 22)))⟩]) (.cond (.t 23) .skip (.exit 0))) (.block 1 (.seq (.ops [⟨(some 24), false, none, (.i (.mv (.t 0)))⟩, ⟨(some 25), false, none, (.i (.mv (.t 5)))⟩, ⟨(some 26), false, none, (.i (.ixStr (.t 24) (.t 25)))⟩, ⟨(some 7), true, none, (.i (.mv (.t 26)))⟩]) (.seq (.seq (.ops [⟨(some 27), false, none, (.i (.mv (.t 7)))⟩, ⟨(some 28), true, none, (.i (.bin .eql (.t 27) (.c (.int .u8 10))))⟩]) (.cond (.t 28) (.ops [⟨(some 6), true, none, (.i (.mv (.c (.bool false))))⟩]) .skip)) (.seq (.seq (.ops [⟨(some 29), false, none, (.i (.mv (.t 6)))⟩, ⟨(some 30), false, none, (.i (.un .not (.t 29)))⟩, ⟨(some 31), false, none, (.i (.mv (.t 30)))⟩, ⟨(some 32), false, (some (31, true)), (.i (.mv (.t 7)))⟩, ⟨(some 33), false, (some (31, true)), (.i (.bin .eql (.t 32) (.c (.int .u8 47))))⟩, ⟨(some 34), false, none, (.i (.pick (.t 31) (.t 33) (.c (.bool false))))⟩, ⟨(some 35), false, none, (.i (.mv (.t 34)))⟩, ⟨(some 36), false, (some (35, true)), (.i (.mv (.t 5)))⟩, ⟨(some 37), false, (some (35, true)), (.i (.bin .add (.t 36) (.c (.int .i64 1))))⟩, ⟨(some 38), false, (some (35, true)), (.i (.mv (.t 0)))⟩, ⟨(some 39), false, (some (35, true)), (.i (.lenS (.t 38)))⟩, ⟨(some 40), false, (some (35, true)), (.i (.bin .lss (.t 37) (.t 39)))⟩, ⟨(some 41), false, none, (.i (.pick (.t 35) (.t 40) (.c (.bool false))))⟩, ⟨(some 42), false, none, (.i (.mv (.t 41)))⟩, ⟨(some 43), false, (some (42, true)), (.i (.mv (.t 0)))⟩, ⟨(some 44), false, (some (42, true)), (.i (.mv (.t 5)))⟩, ⟨(some 45), false, (some (42, true)), (.i (.bin .add (.t 44) (.c (.int .i64 1))))⟩, ⟨(some 46), false, (some (42, true)), (.i (.ixStr (.t 43) (.t 45)))⟩, ⟨(some 47), false, (some (42, true)), (.i (.bin .eql (.t 46) (.c (.int .u8 47))))⟩, ⟨(some 48), true, none, (.i (.pick (.t 42) (.t 47) (.c (.bool false))))⟩]) (.cond (.t 48) (.ops [⟨(some 6), true, none, (.i (.mv (.c (.bool true))))⟩]) .skip)) (.seq (.seq (.ops [⟨(some 49), false, none, (.i (.mv (.t 6)))⟩, ⟨(some 50), false, none, (.i (.mv (.t 49)))⟩, ⟨(some 51), false, (some (50, false)), (.i (.mv (.t 7)))⟩, ⟨(some 52), false, (some (50, false)), (.i (.bin .eql (.t 51) (.c (.int .u8 32))))⟩, ⟨(some 53), false, none, (.i (.pick (.t 50) (.c (.bool true)) (.t 52)))⟩, ⟨(some 54), false, none, (.i (.mv (.t 53)))⟩, ⟨(some 55), false, (some (54, false)), (.i (.mv (.t 7)))⟩, ⟨(some 56), false, (some (54, false)), (.i (.bin .eql (.t 55) (.c (.int .u8 9))))⟩, ⟨(some 57), false, none, (.i (.pick (.t 54) (.c (.bool true)) (.t 56)))⟩, ⟨(some 58), false, none, (.i (.mv (.t 57)))⟩, ⟨(some 59), false, (some (58, false)), (.i (.mv (.t 7)))⟩, ⟨(some 60), false, (some (58, false)), (.i (.bin .eql (.t 59) (.c (.int .u8 10))))⟩, ⟨(some 61), true, none, (.i (.pick (.t 58) (.c (.bool true)) (.t 60)))⟩]) (.cond (.t 61) (.seq (.ops [⟨(some 62), false, none, (.i (.mv (.t 5)))⟩, ⟨(some 63), false, none, (.i (.bin .add (.t 62) (.c (.int .i64 1))))⟩, ⟨(some 5), true, none, (.i (.mv (.t 63)))⟩]) (.exit 1)) .skip)) (.seq (.ops [⟨(some 64), false, none, (.i (.mv (.t 0)))⟩, ⟨(some 65), false, none, (.i (.mv (.t 5)))⟩, ⟨(some 66), false, none, (.call (.c (.fn 18 [])) [(.t 64), (.t 65)])⟩, ⟨(some 8), true, none, (.i (.mv (.t 66)))⟩]) (.seq (.ops [⟨(some 68), false, none, (.i (.mv (.t 0)))⟩, ⟨(some 69), false, none, (.i (.mv (.t 5)))⟩, ⟨(some 70), false, none, (.call (.c (.fn 19 [])) [(.t 68), (.t 69)])⟩, ⟨(some 67), false, none, (.i (.mv (.t 70)))⟩, ⟨(some 71), false, none, (.i (.ext (.t 67) 0))⟩, ⟨(some 72), false, none, (.i (.ext (.t 67) 1))⟩, ⟨(some 9), true, none, (.i (.mv (.t 71)))⟩, ⟨(some 10), true, none, (.i (.mv (.t 72)))⟩]) (.seq (.seq (.ops [⟨(some 73), false, none, (.i (.mv (.t 8)))⟩, ⟨(some 74), true, none, (.i (.bin .eql (.t 73) (.c (.int .i64 0))))⟩]) (.cond (.t 74) (.seq (.ops [⟨(some 75), false, none, (.i (.mv (.t 9)))⟩, ⟨(some 76), false, none, (.i (.mv (.t 10)))⟩, ⟨(some 77), false, none, (.i (.build [(.int .i64 0), (.int .i64 0), (.int .i64 0)] [((0, 1), (.c (.int .i64 131))), ((1, 1), (.t 75)), ((2, 1), (.t 76))]))⟩, ⟨(some 2), true, none, (.i (.mv (.c .nils)))⟩, ⟨none, false, none, (.i (.st 3 (.t 3) (.t 77)))⟩]) .ret) .skip)) (.seq (.ops [⟨(some 78), false, none, (.i (.mv (.t 0)))⟩, ⟨(some 79), false, none, (.i (.mv (.t 5)))⟩, ⟨(some 80), false, none, (.i (.mv (.t 5)))⟩, ⟨(some 81), false, none, (.i (.mv (.t 8)))⟩, ⟨(some 82), false, none, (.i (.bin .add (.t 80) (.t 81)))⟩, ⟨(some 83), false, none, (.i (.slStr (.t 78) (some (.t 79)) (some (.t 82))))⟩, ⟨(some 84), false, none, (.i (.mv (.t 9)))⟩, ⟨(some 85), false, none, (.i (.mv (.t 10)))⟩, ⟨(some 86), false, none, (.i (.build [(.int .i64 0), (.str []), (.int .i64 0), (.int .i64 0), (.int .i64 0)] [((0, 1), (.c (.int .i64 3))), ((1, 1), (.t 83)), ((3, 1), (.t 84)), ((4, 1), (.t 85))]))⟩, ⟨(some 11), true, none, (.i (.alloc [(.int .i64 0), (.str []), (.int .i64 0), (.int .i64 0), (.int .i64 0)]))⟩, ⟨none, false, none, (.i (.st 5 (.t 11) (.t 86)))⟩]) (.seq (.seq (.ops [⟨(some 87), false, none, (.i (.mv (.t 7)))⟩, ⟨(some 88), true, none, (.call (.c (.fn 20 [])) [(.t 87)])⟩]) (.cond (.t 88) (.seq (.ops [⟨(some 89), false, none, (.i (.fad 0 (.t 11)))⟩, ⟨none, false, none, (.i (.st 1 (.t 89) (.c (.int .i64 1))))⟩]) (.seq (.seq (.ops [⟨(some 90), false, none, (.i (.fad 1 (.t 11)))⟩, ⟨(some 91), false, none, (.i (.ld1 (.t 90)))⟩, ⟨(some 92), true, none, (.call (.c (.fn 13 [])) [(.t 91)])⟩]) (.cond (.t 92) (.ops [⟨(some 93), false, none, (.i (.fad 0 (.t 11)))⟩, ⟨none, false, none, (.i (.st 1 (.t 93) (.c (.int .i64 4))))⟩]) .skip)) (.seq (.ops [⟨(some 94), false, none, (.i (.mv (.t 8)))⟩, ⟨(some 95), true, none, (.i (.bin .gtr (.t 94) (.c (.int .i64 32))))⟩]) (.cond (.t 95) (.seq (.ops [⟨(some 96), false, none, (.i (.mv (.t 9)))⟩, ⟨(some 97), false, none, (.i (.mv (.t 10)))⟩, ⟨(some 98), false, none, (.i (.build [(.int .i64 0), (.int .i64 0), (.int .i64 0)] [((0, 1), (.c (.int .i64 132))), ((1, 1), (.t 96)), ((2, 1), (.t 97))]))⟩, ⟨(some 2), true, none, (.i (.mv (.c .nils)))⟩, ⟨none, false, none, (.i (.st 3 (.t 3) (.t 98)))⟩]) .ret) .skip)))) .skip)) (.seq (.seq (.ops [⟨(some 99), false, none, (.i (.mv (.t 7)))⟩, ⟨(some 100), true, none, (.call (.c (.fn 21 [])) [(.t 99)])⟩]) (.cond (.t 100) (.seq (.ops [⟨(some 101), false, none, (.i (.fad 0 (.t 11)))⟩, ⟨none, false, none, (.i (.st 1 (.t 101) (.c (.int .i64 2))))⟩]) (.seq (.seq (.ops [⟨(some 12), true, none, (.i (.mv (.c (.int .i64 0))))⟩]) (.block 2 (.loop (.seq (.seq (.ops [⟨(some 102), false, none, (.i (.mv (.t 12)))⟩, ⟨(some 103), false, none, (.i (.mv (.t 8)))⟩, ⟨(some 104), false, none, (.i (.bin .lss (.t 102) (.t 103)))⟩, ⟨(some 105), false, none, (.i (.mv (.t 104)))⟩, ⟨(some 106), false, (some (105, true)), (.i (.mv (.t 12)))⟩, ⟨(some 107), false, (some (105, true)), (.i (.bin .lss (.t 106) (.c (.int .i64 8))))⟩, ⟨(some 108), true, none, (.i (.pick (.t 105) (.t 107) (.c (.bool false))))⟩]) (.cond (.t 108) .skip (.exit 2))) (.seq (.block 3 (.dops [⟨⟨(some 111), false, none, (.i (.fad 2 (.t 11)))⟩, none, 0, []⟩, ⟨⟨(some 112), false, none, (.i (.ld1 (.t 111)))⟩, (some (some (.t 111))), 2, []⟩, ⟨⟨(some 113), false, none, (.i (.bin .mul (.c (.int .i64 10)) (.t 112)))⟩, none, 0, []⟩, ⟨⟨(some 114), false, none, (.i (.fad 1 (.t 11)))⟩, none, 0, []⟩, ⟨⟨(some 115), false, none, (.i (.ld1 (.t 114)))⟩, (some (some (.t 114))), 9, []⟩, ⟨⟨(some 116), false, none, (.i (.mv (.t 12)))⟩, none, 0, []⟩, ⟨⟨(some 117), false, none, (.i (.ixStr (.t 115) (.t 116)))⟩, none, 0, []⟩, ⟨⟨(some 118), false, none, (.i (.bin .sub (.t 117) (.c (.int .u8 48))))⟩, none, 0, []⟩, ⟨⟨(some 119), false, none, (.i (.cvt .i64 (.t 118)))⟩, (some none), 0, [(6, 2)]⟩, ⟨⟨(some 120), false, none, (.i (.bin .add (.t 113) (.t 119)))⟩, none, 0, []⟩, ⟨⟨(some 121), false, none, (.i (.fad 2 (.t 11)))⟩, none, 0, []⟩, ⟨⟨none, false, none, (.i (.st 1 (.t 121) (.t 120)))⟩, (some none), 0, []⟩])) (.ops [⟨(some 109), false, none, (.i (.mv (.t 12)))⟩, ⟨(some 110), false, none, (.i (.bin .add (.t 109) (.c (.int .i64 1))))⟩, ⟨(some 12), true, none, (.i (.mv (.t 110)))⟩])))))) (.seq (.ops [⟨(some 122), false, none, (.i (.mv (.t 8)))⟩, ⟨(some 123), false, none, (.i (.bin .gtr (.t 122) (.c (.int .i64 7))))⟩, ⟨(some 124), false, none, (.i (.mv (.t 123)))⟩, ⟨(some 125), false, (some (124, false)), (.i (.fad 2 (.t 11)))⟩, ⟨(some 126), false, (some (124, false)), (.i (.ld1 (.t 125)))⟩, ⟨(some 127), false, (some (124, false)), (.i (.bin .gtr (.t 126) (.c (.int .i64 1000000))))⟩, ⟨(some 128), true, none, (.i (.pick (.t 124) (.c (.bool true)) (.t 127)))⟩]) (.cond (.t 128) (.seq (.ops [⟨(some 129), false, none, (.i (.mv (.t 9)))⟩, ⟨(some 130), false, none, (.i (.mv (.t 10)))⟩, ⟨(some 131), false, none, (.i (.build [(.int .i64 0), (.int .i64 0), (.int .i64 0)] [((0, 1), (.c (.int .i64 132))), ((1, 1), (.t 129)), ((2, 1), (.t 130))]))⟩, ⟨(some 2), true, none, (.i (.mv (.c .nils)))⟩, ⟨none, false, none, (.i (.st 3 (.t 3) (.t 131)))⟩]) .ret) .skip)))) .skip)) (.seq (.ops [⟨(some 132), false, none, (.i (.mv (.t 4)))⟩, ⟨(some 133), false, none, (.i (.ldA 5 (.t 11)))⟩, ⟨(some 134), false, none, (.i (.buildS 1 5 [(.int .i64 0), (.str []), (.int .i64 0), (.int .i64 0), (.int .i64 0)] [((0, 5), (.t 133))]))⟩, ⟨(some 135), false, none, (.i (.app 5 48 (.t 132) (.t 134)))⟩, ⟨(some 4), true, none, (.i (.mv (.t 135)))⟩]) (.ops [⟨(some 136), false, none, (.i (.mv (.t 5)))⟩, ⟨(some 137), false, none, (.i (.mv (.t 8)))⟩, ⟨(some 138), false, none, (.i (.bin .add (.t 136) (.t 137)))⟩, ⟨(some 5), true, none, (.i (.mv (.t 138)))⟩])))))))))))))))) (.seq (.ops [⟨(some 140), false, none, (.i (.mv (.t 0)))⟩, ⟨(some 141), false, none, (.i (.mv (.t 0)))⟩, ⟨(some 142), false, none, (.i (.lenS (.t 141)))⟩, ⟨(some 143), false, none, (.call (.c (.fn 19 [])) [(.t 140), (.t 142)])⟩, ⟨(some 139), false, none, (.i (.mv (.t 143)))⟩, ⟨(some 144), false, none, (.i (.ext (.t 139) 0))⟩, ⟨(some 145), false, none, (.i (.ext (.t 139) 1))⟩, ⟨(some 13), true, none, (.i (.mv (.t 144)))⟩, ⟨(some 14), true, none, (.i (.mv (.t 145)))⟩]) (.seq (.ops [⟨(some 146), false, none, (.i (.mv (.t 4)))⟩, ⟨(some 147), false, none, (.i (.mv (.t 13)))⟩, ⟨(some 148), false, none, (.i (.mv (.t 14)))⟩, ⟨(some 149), false, none, (.i (.build [(.int .i64 0), (.str []), (.int .i64 0), (.int .i64 0), (.int .i64 0)] [((0, 1), (.c (.int .i64 5))), ((3, 1), (.t 147)), ((4, 1), (.t 148))]))⟩, ⟨(some 150), false, none, (.i (.buildS 1 5 [(.int .i64 0), (.str []), (.int .i64 0), (.int .i64 0), (.int .i64 0)] [((0, 5), (.t 149))]))⟩, ⟨(some 151), false, none, (.i (.app 5 48 (.t 146) (.t 150)))⟩, ⟨(some 152), false, none, (.i (.build [(.int .i64 0), (.int .i64 0), (.int .i64 0)] []))⟩, ⟨(some 2), true, none, (.i (.mv (.t 151)))⟩, ⟨none, false, none, (.i (.st 3 (.t 3) (.t 152)))⟩]) .ret))))))))
def c10 : FD := ⟨[0], b10, [(.t 2), (.cA 3 3)]⟩
theorem l10 : lowF Tryd.prog 10 = some c10 := by kernel_rfl
def b11 : Cmd := (.seq (.ops [⟨(some 4), true, none, (.i (.mv (.c (.bool false))))⟩]) (.seq (.seq (.ops [⟨(some 6), false, none, (.i (.mv (.t 0)))⟩, ⟨(some 7), false, none, (.i (.len (.t 6)))⟩, ⟨(some 8), false, none, (.i (.mv (.t 1)))⟩, ⟨(some 9), false, none, (.i (.len (.t 8)))⟩, ⟨(some 10), true, none, (.i (.bin .neq (.t 7) (.t 9)))⟩]) (.cond (.t 10) (.seq (.ops [⟨(some 4), true, none, (.i (.mv (.c (.bool false))))⟩]) .ret) .skip)) (.seq (.seq (.ops [⟨(some 11), false, none, (.i (.mv (.t 0)))⟩, ⟨(some 12), true, none, (.i (.len (.t 11)))⟩, ⟨(some 13), true, none, (.i (.mv (.c (.int .i64 0))))⟩]) (.block 0 (.loop (.seq (.ops [⟨(some 14), true, none, (.i (.bin .lss (.t 13) (.t 12)))⟩]) (.seq (.cond (.t 14) .skip (.exit 0)) (.seq (.block 1 (.seq (.ops [⟨(some 15), false, none, (.i (.mv (.t 13)))⟩, ⟨(some 5), true, none, (.i (.mv (.t 15)))⟩]) (.seq (.ops [⟨(some 16), false, none, (.i (.mv (.t 0)))⟩, ⟨(some 17), false, none, (.i (.mv (.t 5)))⟩, ⟨(some 18), false, none, (.i (.idxS 5 (.t 16) (.t 17)))⟩, ⟨(some 19), false, none, (.i (.ldA 5 (.t 18)))⟩, ⟨(some 20), false, none, (.i (.mv (.t 1)))⟩, ⟨(some 21), false, none, (.i (.mv (.t 5)))⟩, ⟨(some 22), false, none, (.i (.idxS 5 (.t 20) (.t 21)))⟩, ⟨(some 23), false, none, (.i (.ldA 5 (.t 22)))⟩, ⟨(some 24), true, none, (.i (.gen .neq 33 false (.t 19) (.t 23)))⟩]) (.cond (.t 24) (.seq (.ops [⟨(some 4), true, none, (.i (.mv (.c (.bool false))))⟩]) .ret) .skip)))) (.ops [⟨(some 25), false, none, (.i (.bin .add (.t 13) (.c (.int .i64 1))))⟩, ⟨(some 13), true, none, (.i (.mv (.t 25)))⟩]))))))) (.seq (.ops [⟨(some 4), true, none, (.i (.mv (.c (.bool true))))⟩]) .ret))))
def c11 : FD := ⟨[0, 1], b11, [(.t 4)]⟩
theorem l11 : lowF Tryd.prog 11 = some c11 := by kernel_rfl
def b18 : Cmd := (.seq (.ops [⟨(some 4), true, none, (.i (.mv (.c (.int .i64 0))))⟩]) (.seq (.ops [⟨(some 5), true, none, (.i (.mv (.c (.int .i64 0))))⟩]) (.seq (.seq (.ops [⟨(some 7), false, none, (.i (.mv (.t 0)))⟩, ⟨(some 8), false, none, (.i (.mv (.t 1)))⟩, ⟨(some 9), false, none, (.i (.ixStr (.t 7) (.t 8)))⟩, ⟨(some 10), true, none, (.call (.c (.fn 20 [])) [(.t 9)])⟩]) (.cond (.t 10) (.seq (.block 0 (.loop (.seq (.seq (.ops [⟨(some 11), false, none, (.i (.mv (.t 1)))⟩, ⟨(some 12), false, none, (.i (.mv (.t 5)))⟩, ⟨(some 13), false, none, (.i (.bin .add (.t 11) (.t 12)))⟩, ⟨(some 14), false, none, (.i (.mv (.t 0)))⟩, ⟨(some 15), false, none, (.i (.lenS (.t 14)))⟩, ⟨(some 16), false, none, (.i (.bin .lss (.t 13) (.t 15)))⟩, ⟨(some 17), false, none, (.i (.mv (.t 16)))⟩, ⟨(some 18), false, (some (17, true)), (.i (.mv (.t 0)))⟩, ⟨(some 19), false, (some (17, true)), (.i (.mv (.t 1)))⟩, ⟨(some 20), false, (some (17, true)), (.i (.mv (.t 5)))⟩, ⟨(some 21), false, (some (17, true)), (.i (.bin .add (.t 19) (.t 20)))⟩, ⟨(some 22), false, (some (17, true)), (.i (.ixStr (.t 18) (.t 21)))⟩, ⟨(some 23), false, (some (17, true)), (.call (.c (.fn 20 [])) [(.t 22)])⟩, ⟨(some 24), false, (some (17, true)), (.i (.mv (.t 23)))⟩, ⟨(some 25), false, (some (24, false)), (.i (.mv (.t 0)))⟩, ⟨(some 26), false, (some (24, false)), (.i (.mv (.t 1)))⟩, ⟨(some 27), false, (some (24, false)), (.i (.mv (.t 5)))⟩, ⟨(some 28), false, (some (24, false)), (.i (.bin .add (.t 26) (.t 27)))⟩, ⟨(some 29), false, (some (24, false)), (.i (.ixStr (.t 25) (.t 28)))⟩, ⟨(some 30), false, (some (24, false)), (.call (.c (.fn 21 [])) [(.t 29)])⟩, ⟨(some 31), false, (some (17, true)), (.i (.pick (.t 24) (.c (.bool true)) (.t 30)))⟩, ⟨(some 32), false, (some (17, true)), (.i (.mv (.t 31)))⟩, ⟨(some 33), false, (some (32, false)), (.i (.mv (.t 0)))⟩, ⟨(some 34), false, (some (32, false)), (.i (.mv (.t 1)))⟩, ⟨(some 35), false, (some (32, false)), (.i (.mv (.t 5)))⟩, ⟨(some 36), false, (some (32, false)), (.i (.bin .add (.t 34) (.t 35)))⟩, ⟨(some 37), false, (some (32, false)), (.i (.ixStr (.t 33) (.t 36)))⟩, ⟨(some 38), false, (some (32, false)), (.i (.bin .eql (.t 37) (.c (.int .u8 95))))⟩, ⟨(some 39), false, (some (17, true)), (.i (.pick (.t 32) (.c (.bool true)) (.t 38)))⟩, ⟨(some 40), true, none, (.i (.pick (.t 17) (.t 39) (.c (.bool false))))⟩]) (.cond (.t 40) .skip (.exit 0))) (.block 1 (.ops [⟨(some 41), false, none, (.i (.mv (.t 5)))⟩, ⟨(some 42), false, none, (.i (.bin .add (.t 41) (.c (.int .i64 1))))⟩, ⟨(some 5), true, none, (.i (.mv (.t 42)))⟩]))))) (.seq (.ops [⟨(some 43), false, none, (.i (.mv (.t 5)))⟩, ⟨(some 4), true, none, (.i (.mv (.t 43)))⟩]) .ret)) .skip)) (.seq (.seq (.ops [⟨(some 44), false, none, (.i (.mv (.t 0)))⟩, ⟨(some 45), false, none, (.i (.mv (.t 1)))⟩, ⟨(some 46), false, none, (.i (.ixStr (.t 44) (.t 45)))⟩, ⟨(some 47), true, none, (.call (.c (.fn 21 [])) [(.t 46)])⟩]) (.cond (.t 47) (.seq (.block 2 (.loop (.seq (.seq (.ops [⟨(some 48), false, none, (.i (.mv (.t 1)))⟩, ⟨(some 49), false, none, (.i (.mv (.t 5)))⟩, ⟨(some 50), false, none, (.i (.bin .add (.t 48) (.t 49)))⟩, ⟨(some 51), false, none, (.i (.mv (.t 0)))⟩, ⟨(some 52), false, none, (.i (.lenS (.t 51)))⟩, ⟨(some 53), false, none, (.i (.bin .lss (.t 50) (.t 52)))⟩, ⟨(some 54), false, none, (.i (.mv (.t 53)))⟩, ⟨(some 55), false, (some (54, true)), (.i (.mv (.t 0)))⟩, ⟨(some 56), false, (some (54, true)), (.i (.mv (.t 1)))⟩, ⟨(some 57), false, (some (54, true)), (.i (.mv (.t 5)))⟩, ⟨(some 58), false, (some (54, true)), (.i (.bin .add (.t 56) (.t 57)))⟩, ⟨(some 59), false, (some (54, true)), (.i (.ixStr (.t 55) (.t 58)))⟩, ⟨(some 60), false, (some (54, true)), (.call (.c (.fn 21 [])) [(.t 59)])⟩, ⟨(some 61), true, none, (.i (.pick (.t 54) (.t 60) (.c (.bool false))))⟩]) (.cond (.t 61) .skip (.exit 2))) (.block 3 (.ops [⟨(some 62), false, none, (.i (.mv (.t 5)))⟩, ⟨(some 63), false, none, (.i (.bin .add (.t 62) (.c (.int .i64 1))))⟩, ⟨(some 5), true, none, (.i (.mv (.t 63)))⟩]))))) (.seq (.ops [⟨(some 64), false, none, (.i (.mv (.t 5)))⟩, ⟨(some 4), true, none, (.i (.mv (.t 64)))⟩]) .ret)) .skip)) (.seq (.seq (.ops [⟨(some 6), true, none, (.i (.mv (.c (.int .i64 1))))⟩]) (.block 4 (.loop (.seq (.seq (.ops [⟨(some 65), false, none, (.i (.mv (.t 6)))⟩, ⟨(some 66), false, none, (.i (.bin .leq (.t 65) (.c (.int .i64 3))))⟩, ⟨(some 67), false, none, (.i (.mv (.t 66)))⟩, ⟨(some 68), false, (some (67, true)), (.i (.mv (.t 1)))⟩, ⟨(some 69), false, (some (67, true)), (.i (.mv (.t 6)))⟩, ⟨(some 70), false, (some (67, true)), (.i (.bin .add (.t 68) (.t 69)))⟩, ⟨(some 71), false, (some (67, true)), (.i (.mv (.t 0)))⟩, ⟨(some 72), false, (some (67, true)), (.i (.lenS (.t 71)))⟩, ⟨(some 73), false, (some (67, true)), (.i (.bin .leq (.t 70) (.t 72)))⟩, ⟨(some 74), true, none, (.i (.pick (.t 67) (.t 73) (.c (.bool false))))⟩]) (.cond (.t 74) .skip (.exit 4))) (.seq (.block 5 (.seq (.ops [⟨(some 77), false, none, (.i (.mv (.t 0)))⟩, ⟨(some 78), false, none, (.i (.mv (.t 1)))⟩, ⟨(some 79), false, none, (.i (.mv (.t 1)))⟩, ⟨(some 80), false, none, (.i (.mv (.t 6)))⟩, ⟨(some 81), false, none, (.i (.bin .add (.t 79) (.t 80)))⟩, ⟨(some 82), false, none, (.i (.slStr (.t 77) (some (.t 78)) (some (.t 81))))⟩, ⟨(some 83), false, none, (.i (.buildS 23 1 [(.str [])] [((0, 1), (.c (.str [123]))), ((1, 1), (.c (.str [125]))), ((2, 1), (.c (.str [40]))), ((3, 1), (.c (.str [41]))), ((4, 1), (.c (.str [58]))), ((5, 1), (.c (.str [44]))), ((6, 1), (.c (.str [59]))), ((7, 1), (.c (.str [46, 46]))), ((8, 1), (.c (.str [58, 61]))), ((9, 1), (.c (.str [61]))), ((10, 1), (.c (.str [33, 61]))), ((11, 1), (.c (.str [60]))), ((12, 1), (.c (.str [60, 61]))), ((13, 1), (.c (.str [62]))), ((14, 1), (.c (.str [62, 61]))), ((15, 1), (.c (.str [43]))), ((16, 1), (.c (.str [45]))), ((17, 1), (.c (.str [42]))), ((18, 1), (.c (.str [33]))), ((19, 1), (.c (.str [38]))), ((20, 1), (.c (.str [124]))), ((21, 1), (.c (.str [45, 62]))), ((22, 1), (.c (.str [60, 45, 62])))]))⟩, ⟨(some 84), true, none, (.call (.c (.fn 22 [])) [(.t 82), (.t 83)])⟩]) (.cond (.t 84) (.ops [⟨(some 85), false, none, (.i (.mv (.t 6)))⟩, ⟨(some 5), true, none, (.i (.mv (.t 85)))⟩]) .skip))) (.ops [⟨(some 75), false, none, (.i (.mv (.t 6)))⟩, ⟨(some 76), false, none, (.i (.bin .add (.t 75) (.c (.int .i64 1))))⟩, ⟨(some 6), true, none, (.i (.mv (.t 76)))⟩])))))) (.seq (.ops [⟨(some 86), false, none, (.i (.mv (.t 5)))⟩, ⟨(some 4), true, none, (.i (.mv (.t 86)))⟩]) .ret))))))
def c18 : FD := ⟨[0, 1], b18, [(.t 4)]⟩
theorem l18 : lowF Tryd.prog 18 = some c18 := by kernel_rfl
def b19 : Cmd := (.seq (.ops [⟨(some 4), true, none, (.i (.mv (.c (.int .i64 0))))⟩, ⟨(some 5), true, none, (.i (.mv (.c (.int .i64 0))))⟩]) (.seq (.ops [⟨(some 6), true, none, (.i (.mv (.c (.int .i64 1))))⟩, ⟨(some 7), true, none, (.i (.mv (.c (.int .i64 1))))⟩]) (.seq (.seq (.ops [⟨(some 8), true, none, (.i (.mv (.c (.int .i64 0))))⟩]) (.block 0 (.loop (.seq (.seq (.ops [⟨(some 9), false, none, (.i (.mv (.t 8)))⟩, ⟨(some 10), false, none, (.i (.mv (.t 1)))⟩, ⟨(some 11), true, none, (.i (.bin .lss (.t 9) (.t 10)))⟩]) (.cond (.t 11) .skip (.exit 0))) (.seq (.block 1 (.seq (.ops [⟨(some 14), false, none, (.i (.mv (.t 7)))⟩, ⟨(some 15), false, none, (.i (.bin .add (.t 14) (.c (.int .i64 1))))⟩, ⟨(some 7), true, none, (.i (.mv (.t 15)))⟩]) (.seq (.ops [⟨(some 16), false, none, (.i (.mv (.t 0)))⟩, ⟨(some 17), false, none, (.i (.mv (.t 8)))⟩, ⟨(some 18), false, none, (.i (.ixStr (.t 16) (.t 17)))⟩, ⟨(some 19), true, none, (.i (.bin .eql (.t 18) (.c (.int .u8 10))))⟩]) (.cond (.t 19) (.seq (.ops [⟨(some 20), false, none, (.i (.mv (.t 6)))⟩, ⟨(some 21), false, none, (.i (.bin .add (.t 20) (.c (.int .i64 1))))⟩, ⟨(some 6), true, none, (.i (.mv (.t 21)))⟩]) (.ops [⟨(some 7), true, none, (.i (.mv (.c (.int .i64 1))))⟩])) .skip)))) (.ops [⟨(some 12), false, none, (.i (.mv (.t 8)))⟩, ⟨(some 13), false, none, (.i (.bin .add (.t 12) (.c (.int .i64 1))))⟩, ⟨(some 8), true, none, (.i (.mv (.t 13)))⟩])))))) (.seq (.ops [⟨(some 22), false, none, (.i (.mv (.t 6)))⟩, ⟨(some 23), false, none, (.i (.mv (.t 7)))⟩, ⟨(some 4), true, none, (.i (.mv (.t 22)))⟩, ⟨(some 5), true, none, (.i (.mv (.t 23)))⟩]) .ret))))
def c19 : FD := ⟨[0, 1], b19, [(.t 4), (.t 5)]⟩
theorem l19 : lowF Tryd.prog 19 = some c19 := by kernel_rfl
end Go.Sy
end

section
set_option maxRecDepth 100000
namespace Go.Sy
open Go.Ev Go.Proofs
variable {base : CallF}
/-- the document's place of a byte -/
theorem place_ok (hb : ∀ args st, base 19 args st = .no) {l : List Nat} {a : Nat} (ha : a ≤ l.length) (hl : l.length ≤ 4611686018427387904) (st : St) (K : AV → St → Prop)
    (hK : K (.tup [.int .i64 ((walkP (1, 1) (l.take a)).1 : Int), .int .i64 ((walkP (1, 1) (l.take a)).2 : Int)]) st.bare) : CW Tryd.prog base 19 [.str l, .int .i64 (a : Int)] st K := by
  refine fn_rule l19 (hb _ _) ?_
  simp only [c19, entry, List.map_cons, List.map_nil, List.getD_cons_zero, List.getD_cons_succ]
  unfold b19
  simp (disch := first | decide | assumption | omega) only [rRa, rRb, rRc, Bool.not_true, Bool.not_false, List.cons_append, List.nil_append, List.append_nil]
  refine wC_loopH (fun mm L s => ∃ (k ln cl : Nat), k ≤ a ∧ mm = a - k ∧ s = st.bare ∧ (ln, cl) = walkP (1, 1) (l.take k) ∧ Has L 0 (.str l) ∧ Has L 1 (.int .i64 (a : Int)) ∧ Has L 6 (.int .i64 (ln : Int)) ∧ Has L 7 (.int .i64 (cl : Int)) ∧ Has L 8 (.int .i64 (k : Int))) ?_ a ?_
  · rintro mm L s ⟨k, ln, cl, hk, rfl, rfl, hp, i0, i1, i6, i7, i8⟩
    unfold Hold
    have wb := walkP_le (l.take k) (1, 1) (by decide)
    rw [← hp, List.length_take, Nat.min_eq_left (by omega)] at wb
    have wb1 : ln ≤ 1 + k := wb.1
    have wb2 : cl ≤ 1 + k := wb.2.1
    by_cases hka : k < a
    · have hw := walk_step (show k < l.length by omega) (1, 1)
      rw [← hp] at hw
      have hkl : k < l.length := by omega
      generalize hch : l.getD k 0 = ch at hw
      have eX : ∀ (s : St) (K : AV → St → Prop), onER (ixStrV (.str l) (.int .i64 (k : Int)) s) K = K (.int .u8 (ch : Int)) s := fun s K => by rw [qz37 hkl, hch]
      by_cases h10 : ch = 10
      · have y3 : (ch : Int) = 10 := by omega
        have e1 : ((1 : Nat) : Int) = 1 := rfl
        simp (disch := first | decide | assumption | omega) only [r_onh i0, r_onh i1, r_onh i6, r_onh i7, r_onh i8, eX, v_addN, rRa, rRb, rRc, Bool.not_true, Bool.not_false, List.cons_append, List.nil_append, List.append_nil]
        refine ⟨a - (k + 1), by omega, k + 1, ln + 1, 1, by omega, rfl, by first | rfl | trivial, by rw [hw]; unfold stepP; rw [if_pos h10], ?_⟩
        simp (disch := decide) only [z0, z1, h_here, h_skip, i0, i1, true_and, and_true]
      · have y3 : (ch : Int) ≠ 10 := by omega
        simp (disch := first | decide | assumption | omega) only [r_onh i0, r_onh i1, r_onh i6, r_onh i7, r_onh i8, eX, v_addN, rRa, rRb, rRc, Bool.not_true, Bool.not_false, List.cons_append, List.nil_append, List.append_nil]
        refine ⟨a - (k + 1), by omega, k + 1, ln, cl + 1, by omega, rfl, by first | rfl | trivial, by rw [hw]; unfold stepP; rw [if_neg h10], ?_⟩
        simp (disch := decide) only [z0, z1, h_here, h_skip, i0, i1, i6, true_and, and_true]
    · have hka' : k = a := by omega
      subst hka'
      rw [← hp] at hK
      simp (disch := first | decide | assumption | omega) only [r_onh i0, r_onh i1, r_onh i6, r_onh i7, r_onh i8, rRa, rRb, rRc, Bool.not_true, Bool.not_false, List.cons_append, List.nil_append, List.append_nil]
      exact hK
  · refine ⟨0, 1, 1, by omega, rfl, by first | rfl | trivial, rfl, ?_⟩
    simp (disch := decide) only [z0, z1, h_here, h_skip, true_and, and_true]
theorem eqI_self (a : Int) : eqI a a = true := by cases a <;> simp [eqI]
theorem strEq_self (a : List Nat) : strEq a a = true := by rw [strEq_eq]; simp
theorem eqTk (t : Tk) : (eqF Tryd.prog 20 33).run (.agg t.cells) (.agg t.cells) = some true := by
  have h : (eqF Tryd.prog 20 33).run (.agg t.cells) (.agg t.cells) = cond (eqI (t.kind : Int) (t.kind : Int)) (cond (strEq t.text t.text) (cond (eqI (t.num : Int) (t.num : Int)) (cond (eqI (t.line : Int) (t.line : Int)) (cond (eqI (t.col : Int) (t.col : Int)) (some true) (some false)) (some false)) (some false)) (some false)) (some false) := by kernel_rfl
  rw [h, eqI_self, eqI_self, eqI_self, eqI_self, strEq_self]
  rfl
theorem neqTk (t : Tk) (st : St) (K : AV → St → Prop) : onER (genV Tryd.prog .neq 33 false (.agg t.cells) (.agg t.cells) st) K = K (.bool false) st := by
  have h : genV Tryd.prog .neq 33 false (.agg t.cells) (.agg t.cells) st = onSome ((eqF Tryd.prog 20 33).run (.agg t.cells) (.agg t.cells)) fun b => .ok (.bool (cond b false true)) st := by kernel_rfl
  rw [h, eqTk]
  rfl
theorem Ts.ld {s : St} {b i : Nat} {ts : List Tk} (h : Ts s b ts) (hi : i < ts.length) (K : AV → St → Prop) : onER (ldAV 5 (.ptr b (i * 5)) s) K = K (.agg (ts.getD i ⟨0, [], 0, 0, 0⟩).cells) s := by
  have hl := h.len
  rw [v_ldAn (by decide) (by omega)]
  have e : ((List.range 5).map fun j => rat s.h b (i * 5 + j)) = (ts.getD i ⟨0, [], 0, 0, 0⟩).cells := by
    have c : ∀ j, j < 5 → rat s.h b (i * 5 + j) = (ts.getD i ⟨0, [], 0, 0, 0⟩).cells.getD j .bad := fun j hj => by
      rw [show i * 5 + j = 5 * i + j by omega, h.cell _ (by omega), tcells_at hi hj]
    show [rat s.h b (i * 5 + 0), rat s.h b (i * 5 + 1), rat s.h b (i * 5 + 2), rat s.h b (i * 5 + 3), rat s.h b (i * 5 + 4)] = _
    rw [c 0 (by decide), c 1 (by decide), c 2 (by decide), c 3 (by decide), c 4 (by decide)]
    rfl
  rw [e]
theorem Same_ok (hb : ∀ args st, base 11 args st = .no) {b1 b2 : Nat} {ts : List Tk} (st : St) (h1 : ts ≠ [] → Ts st b1 ts) (h2 : ts ≠ [] → Ts st b2 ts) (hn : ts.length ≤ 1000000) (K : AV → St → Prop) (hK : K (.bool true) st.bare) : CW Tryd.prog base 11 [tsV b1 ts, tsV b2 ts] st K := by
  refine fn_rule l11 (hb _ _) ?_
  simp only [c11, entry, List.map_cons, List.map_nil, List.getD_cons_zero, List.getD_cons_succ]
  unfold b11
  have eL : ∀ (b : Nat) (s : St) (K : AV → St → Prop), onER (lenV (tsV b ts) s) K = K (.int .i64 (ts.length : Int)) s := fun b s K => by
    unfold tsV
    by_cases h : ts = []
    · rw [if_pos h, h]; rfl
    · rw [if_neg h]; rfl
  simp (disch := first | decide | assumption | omega) only [eL, rRa, rRb, rRc, Bool.not_true, Bool.not_false, List.cons_append, List.nil_append, List.append_nil]
  refine wC_loopH (fun mm L s => ∃ k : Nat, k ≤ ts.length ∧ mm = ts.length - k ∧ s = st.bare ∧ Has L 0 (tsV b1 ts) ∧ Has L 1 (tsV b2 ts) ∧ Has L 12 (.int .i64 (ts.length : Int)) ∧ Has L 13 (.int .i64 (k : Int))) ?_ ts.length ?_
  · rintro mm L s ⟨k, hk, rfl, rfl, i0, i1, i12, i13⟩
    unfold Hold
    by_cases hkn : k < ts.length
    · have hne : ts ≠ [] := fun h => by rw [h] at hkn; simp at hkn
      have e1 : ∀ b, tsV b ts = .slice b 0 ts.length ts.length 5 false := fun b => by unfold tsV; rw [if_neg hne]
      have T1 : Ts st.bare b1 ts := ⟨(h1 hne).lt, (h1 hne).len, (h1 hne).cell⟩
      have T2 : Ts st.bare b2 ts := ⟨(h2 hne).lt, (h2 hne).len, (h2 hne).cell⟩
      have l1 := T1.ld hkn
      have l2 := T2.ld hkn
      rw [e1] at i0 i1
      simp (disch := first | decide | assumption | omega) only [r_onh i0, r_onh i1, r_onh i12, r_onh i13, Nat.zero_add, l1, l2, neqTk, v_addN, rRa, rRb, rRc, Bool.not_true, Bool.not_false, List.cons_append, List.nil_append, List.append_nil]
      refine ⟨ts.length - (k + 1), by omega, k + 1, by omega, rfl, by first | rfl | trivial, ?_⟩
      rw [e1, e1]
      simp (disch := decide) only [z0, z1, h_here, h_skip, i0, i1, i12, true_and, and_true]
    · simp (disch := first | decide | assumption | omega) only [r_onh i0, r_onh i1, r_onh i12, r_onh i13, rRa, rRb, rRc, Bool.not_true, Bool.not_false, List.cons_append, List.nil_append, List.append_nil]
      exact hK
  · refine ⟨0, by omega, rfl, by first | rfl | trivial, ?_⟩
    simp (disch := decide) only [z0, z1, h_here, h_skip, true_and, and_true]
end Go.Sy
end

section
set_option maxRecDepth 100000
namespace Go.Sy
open Go.Ev Go.Proofs
variable {base : CallF}
def signsR : List (List Nat) := [[123], [125], [40], [41], [58], [44], [59], [46, 46], [58, 61], [61], [33, 61], [60], [60, 61], [62], [62, 61], [43], [45], [42], [33], [38], [124], [45, 62], [60, 45, 62]]
def psR : List ((Nat × Nat) × AV) := [((0, 1), (.str [123])), ((1, 1), (.str [125])), ((2, 1), (.str [40])), ((3, 1), (.str [41])), ((4, 1), (.str [58])), ((5, 1), (.str [44])), ((6, 1), (.str [59])), ((7, 1), (.str [46, 46])), ((8, 1), (.str [58, 61])), ((9, 1), (.str [61])), ((10, 1), (.str [33, 61])), ((11, 1), (.str [60])), ((12, 1), (.str [60, 61])), ((13, 1), (.str [62])), ((14, 1), (.str [62, 61])), ((15, 1), (.str [43])), ((16, 1), (.str [45])), ((17, 1), (.str [42])), ((18, 1), (.str [33])), ((19, 1), (.str [38])), ((20, 1), (.str [124])), ((21, 1), (.str [45, 62])), ((22, 1), (.str [60, 45, 62]))]
theorem fillR : fillP (repeatC [.str []] 23) psR = some (signsR.map .str) := by kernel_rfl
theorem cellR : lall AV.cell (signsR.map AV.str) = true := by kernel_rfl
theorem bR (e : En) (st : St) (K : AV → St → Prop) : wK Tryd.prog base (.i (.buildS 23 1 [(.str [])] [((0, 1), (.c (.str [123]))), ((1, 1), (.c (.str [125]))), ((2, 1), (.c (.str [40]))), ((3, 1), (.c (.str [41]))), ((4, 1), (.c (.str [58]))), ((5, 1), (.c (.str [44]))), ((6, 1), (.c (.str [59]))), ((7, 1), (.c (.str [46, 46]))), ((8, 1), (.c (.str [58, 61]))), ((9, 1), (.c (.str [61]))), ((10, 1), (.c (.str [33, 61]))), ((11, 1), (.c (.str [60]))), ((12, 1), (.c (.str [60, 61]))), ((13, 1), (.c (.str [62]))), ((14, 1), (.c (.str [62, 61]))), ((15, 1), (.c (.str [43]))), ((16, 1), (.c (.str [45]))), ((17, 1), (.c (.str [42]))), ((18, 1), (.c (.str [33]))), ((19, 1), (.c (.str [38]))), ((20, 1), (.c (.str [124]))), ((21, 1), (.c (.str [45, 62]))), ((22, 1), (.c (.str [60, 45, 62])))])) e st K = onER (buildSV 23 1 [.str []] psR st) K := by
  have h := i_buildSc (P := Tryd.prog) (base := base) (e := e) (st := st) (K := K) 23 1 [.str []] psR
  exact Eq.trans (show _ = wK Tryd.prog base (.i (.buildS 23 1 [.str []] (psR.map fun p => (p.1, .c p.2)))) e st K from rfl) h
theorem o_R {st : St} {K : AV → St → Prop} (hk : ∀ st', Made st st' 23 (fun i => (signsR.map AV.str).getD i .bad) → K (.slice st.nx 0 23 23 1 true) st') : onER (buildSV 23 1 [.str []] psR st) K := by
  have e4 : llen (signsR.map AV.str) = 23 := rfl
  simp only [buildSV, fillR, onSome, cellR, e4, cond_true, force_eq, llen_eq, St.alloc_eq, onER]
  refine hk _ (made_row fun i hi => ?_)
  rw [rowCell_eq, get_e, Nat.mod_eq_of_lt hi]
  rfl
theorem signsR_cells (i : Nat) (h : i < 23) : (signsR.map AV.str).getD i .bad = .str (signsR.getD i []) := by
  have h' : i < signsR.length := h
  simp [List.getD_eq_getElem?_getD, List.getElem?_map, List.getElem?_eq_getElem h']

/-! ### the longest sign is the first that fits -/
theorem firstN_len {r : List Nat} {m : Nat} : ∀ {xs : List (List Nat)} (ys : List (List Nat)), (∀ x ∈ xs, x.length = m) → firstN r (xs ++ ys) = if r.take m ∈ xs then m else firstN r ys
  | [], ys, _ => by simp
  | x :: xs, ys, h => by
    have hx := h x (by simp)
    have ih := firstN_len (r := r) (xs := xs) ys fun y hy => h y (by simp [hy])
    show (if begins x r = true then x.length else firstN r (xs ++ ys)) = _
    by_cases hb : begins x r = true
    · have hb' : r.take x.length = x := of_decide_eq_true hb
      rw [hx] at hb'
      rw [if_pos hb, if_pos (by rw [hb']; simp), hx]
    · rw [if_neg hb, ih]
      have hne : r.take m ≠ x := fun e => hb (decide_eq_true (by rw [hx]; exact e))
      by_cases hm : r.take m ∈ xs
      · rw [if_pos hm, if_pos (by simp [hm])]
      · rw [if_neg hm, if_neg (by simp [hm, hne])]
/-- the document's: the longest of one, two or three that is a sign -/
def refSign (r : List Nat) : Nat → Nat
  | 0 => 0
  | k + 1 => if k + 1 ≤ r.length ∧ r.take (k + 1) ∈ signsR then k + 1 else refSign r k
theorem mem_len {S : List (List Nat)} {x : List Nat} {k : Nat} (h : x.length = k) : x ∈ S ↔ x ∈ S.filter fun y => decide (y.length = k) := by
  rw [List.mem_filter]
  simp [h]
theorem refSign_eq (r : List Nat) : refSign r 3 = signN r := by
  have e : signN r = if r.take 3 ∈ signsL.take 1 then 3 else if r.take 2 ∈ (signsL.drop 1).take 6 then 2 else if r.take 1 ∈ signsL.drop 7 then 1 else 0 := by
    show firstN r (signsL.take 1 ++ ((signsL.drop 1).take 6 ++ (signsL.drop 7 ++ []))) = _
    rw [firstN_len (m := 3) _ (by decide), firstN_len (m := 2) _ (by decide), firstN_len (m := 1) _ (by decide)]
    rfl
  have h3 : ∀ x : List Nat, x ∈ (signsR.filter fun y => decide (y.length = 3)) ↔ x ∈ signsL.take 1 := by
    have e : (signsR.filter fun y => decide (y.length = 3)) = signsL.take 1 := by decide
    intro x; rw [e]
  have p2 : ∀ x ∈ (signsR.filter fun y => decide (y.length = 2)), x ∈ (signsL.drop 1).take 6 := by decide
  have q2 : ∀ x ∈ (signsL.drop 1).take 6, x ∈ (signsR.filter fun y => decide (y.length = 2)) := by decide
  have p1 : ∀ x ∈ (signsR.filter fun y => decide (y.length = 1)), x ∈ signsL.drop 7 := by decide
  have q1 : ∀ x ∈ signsL.drop 7, x ∈ (signsR.filter fun y => decide (y.length = 1)) := by decide
  have key : ∀ k (A : List (List Nat)), 0 < k → (∀ x, x ∈ (signsR.filter fun y => decide (y.length = k)) ↔ x ∈ A) → ((k ≤ r.length ∧ r.take k ∈ signsR) ↔ r.take k ∈ A) := fun k A hk hA => by
    by_cases hl : k ≤ r.length
    · have := mem_len (S := signsR) (x := r.take k) (k := k) (by rw [List.length_take]; omega)
      rw [← hA, ← this]
      exact ⟨fun h => h.2, fun h => ⟨hl, h⟩⟩
    · constructor
      · exact fun h => absurd h.1 hl
      · intro h
        have h2 := (hA _).2 h
        have := of_decide_eq_true (List.mem_filter.1 h2).2
        rw [List.length_take] at this
        omega
  have k3 := key 3 _ (by decide) h3
  have k2 := key 2 _ (by decide) fun x => ⟨p2 x, q2 x⟩
  have k1 := key 1 _ (by decide) fun x => ⟨p1 x, q1 x⟩
  rw [e]
  show (if 2 + 1 ≤ r.length ∧ r.take (2 + 1) ∈ signsR then 2 + 1 else if 1 + 1 ≤ r.length ∧ r.take (1 + 1) ∈ signsR then 1 + 1 else if 0 + 1 ≤ r.length ∧ r.take (0 + 1) ∈ signsR then 0 + 1 else 0) = _
  simp only [k3, k2, k1, show 2 + 1 = 3 from rfl, show 1 + 1 = 2 from rfl, show 0 + 1 = 1 from rfl]
end Go.Sy
end

section
set_option maxRecDepth 100000
namespace Go.Sy
open Go.Ev Go.Proofs
variable {base : CallF}
/-- how long the word is that begins -/
def wordN : List Nat → Nat
  | [] => 0
  | x :: r => if isLetter x = true then lead isInner (x :: r) else if isDigit x = true then lead isDigit (x :: r) else signN (x :: r)
set_option maxHeartbeats 4000000 in
theorem word_ok (hb : ∀ f args st, f ∈ [18, 20, 21, 22] → base f args st = .no) {l : List Nat} {a : Nat} (ha : a < l.length) (hl : l.length ≤ 4611686018427387904) (st : St) (K : AV → St → Prop)
    (hK : ∀ st', Ext st st' → K (.int .i64 (wordN (l.drop a) : Int)) st') : CW Tryd.prog base 18 [.str l, .int .i64 (a : Int)] st K := by
  refine fn_rule l18 (hb _ _ _ (by simp)) ?_
  simp only [c18, entry, List.map_cons, List.map_nil, List.getD_cons_zero, List.getD_cons_succ]
  unfold b18
  have hrl : (l.drop a).length = l.length - a := List.length_drop
  have hget : ∀ j, (l.drop a).getD j 0 = l.getD (a + j) 0 := fun j => by
    rw [List.getD_eq_getElem?_getD, List.getElem?_drop, ← List.getD_eq_getElem?_getD]
  have hw : wordN (l.drop a) = if isLetter (l.getD a 0) = true then lead isInner (l.drop a) else if isDigit (l.getD a 0) = true then lead isDigit (l.drop a) else signN (l.drop a) := by
    have h0 := hget 0
    cases hr : l.drop a with
    | nil => rw [hr] at hrl; simp at hrl; omega
    | cons x r =>
      rw [hr] at h0
      have h0' : x = l.getD a 0 := h0
      rw [← h0']
      rfl
  have eX : ∀ (k : Nat), k < l.length → ∀ (s : St) (K : AV → St → Prop), onER (ixStrV (.str l) (.int .i64 (k : Int)) s) K = K (.int .u8 ((l.getD k 0 : Nat) : Int)) s := fun k hk s K => qz37 hk .i64
  have eX0 := eX a ha
  have e0 : ((0 : Nat) : Int) = 0 := rfl
  simp (disch := first | decide | assumption | omega) only [eX0, rRa, rRb, rRc, Bool.not_true, Bool.not_false, List.cons_append, List.nil_append, List.append_nil]
  refine Letter_ok (fun a s => hb _ a s (by simp)) (l.getD a 0) st.bare _ ?_
  cases hL : isLetter (l.getD a 0) with
  | true =>
    rw [if_pos hL] at hw
    simp (disch := first | decide | assumption | omega) only [rRa, rRb, rRc, Bool.not_true, Bool.not_false, List.cons_append, List.nil_append, List.append_nil]
    refine wC_loopH (fun mm L s => ∃ k : Nat, a + k ≤ l.length ∧ mm = l.length - (a + k) ∧ s = st.bare ∧ (∀ j, j < k → isInner ((l.drop a).getD j 0) = true) ∧ Has L 0 (.str l) ∧ Has L 1 (.int .i64 (a : Int)) ∧ Has L 5 (.int .i64 (k : Int))) ?_ (l.length - a) ?_
    · rintro mm L s ⟨k, hk, rfl, rfl, hp, i0, i1, i5⟩
      unfold Hold
      have eA := fun (s : St) (K : AV → St → Prop) => v_addNN (a := a) (b := k) (by omega) s K
      by_cases hlt : a + k < l.length
      · have hlt' : ((a + k : Nat) : Int) < (l.length : Int) := by omega
        have eX1 := eX (a + k) hlt
        have hstep : ∀ (h : isInner (l.getD (a + k) 0) = true), ∀ j, j < k + 1 → isInner ((l.drop a).getD j 0) = true := fun h j hj => by
          by_cases hjk : j = k
          · rw [hjk, hget]; exact h
          · exact hp j (by omega)
        have hstop : isInner (l.getD (a + k) 0) = false → lead isInner (l.drop a) = k := fun h => lead_at (by omega) hp (.inr (by rw [hget]; exact h))
        generalize l.getD (a + k) 0 = ch at eX1 hstep hstop
        simp (disch := first | decide | assumption | omega) only [r_onh i0, r_onh i1, r_onh i5, eA, eX1, rRa, rRb, rRc, Bool.not_true, Bool.not_false, List.cons_append, List.nil_append, List.append_nil]
        refine Letter_ok (fun a s => hb _ a s (by simp)) ch st.bare _ ?_
        cases hc : isLetter ch with
        | true =>
          have hI : isInner ch = true := by unfold isInner; rw [hc]; rfl
          simp (disch := first | decide | assumption | omega) only [r_onh i5, v_addN, rRa, rRb, rRc, Bool.not_true, Bool.not_false, List.cons_append, List.nil_append, List.append_nil]
          refine ⟨l.length - (a + (k + 1)), by omega, k + 1, by omega, rfl, by first | rfl | trivial, hstep hI, ?_⟩
          simp (disch := decide) only [z0, z1, h_here, h_skip, i0, i1, true_and, and_true]
        | false =>
          simp (disch := first | decide | assumption | omega) only [r_onh i0, r_onh i1, r_onh i5, eA, eX1, rRa, rRb, rRc, Bool.not_true, Bool.not_false, List.cons_append, List.nil_append, List.append_nil]
          refine Digit_ok (fun a s => hb _ a s (by simp)) ch st.bare _ ?_
          cases hdg : isDigit ch with
          | true =>
            have hI : isInner ch = true := by unfold isInner; rw [hc, hdg]; rfl
            simp (disch := first | decide | assumption | omega) only [r_onh i5, v_addN, rRa, rRb, rRc, Bool.not_true, Bool.not_false, List.cons_append, List.nil_append, List.append_nil]
            refine ⟨l.length - (a + (k + 1)), by omega, k + 1, by omega, rfl, by first | rfl | trivial, hstep hI, ?_⟩
            simp (disch := decide) only [z0, z1, h_here, h_skip, i0, i1, true_and, and_true]
          | false =>
            by_cases h95 : ch = 95
            · have h95' : (ch : Int) = 95 := by omega
              have hI : isInner ch = true := by unfold isInner; rw [hc, hdg, h95]; rfl
              simp (disch := first | decide | assumption | omega) only [r_onh i0, r_onh i1, r_onh i5, eA, eX1, v_addN, rRa, rRb, rRc, Bool.not_true, Bool.not_false, List.cons_append, List.nil_append, List.append_nil]
              refine ⟨l.length - (a + (k + 1)), by omega, k + 1, by omega, rfl, by first | rfl | trivial, hstep hI, ?_⟩
              simp (disch := decide) only [z0, z1, h_here, h_skip, i0, i1, true_and, and_true]
            · have h95' : (ch : Int) ≠ 95 := by omega
              have hI : isInner ch = false := by unfold isInner; rw [hc, hdg]; simp [h95]
              rw [hw, hstop hI] at hK
              simp (disch := first | decide | assumption | omega) only [r_onh i0, r_onh i1, r_onh i5, eA, eX1, rRa, rRb, rRc, Bool.not_true, Bool.not_false, List.cons_append, List.nil_append, List.append_nil]
              exact hK st.bare ⟨Nat.le_refl _, rfl, fun _ _ => rfl⟩
      · have hlt' : ¬ ((a + k : Nat) : Int) < (l.length : Int) := by omega
        have hlead : lead isInner (l.drop a) = k := lead_at (by omega) hp (.inl (by omega))
        rw [hw, hlead] at hK
        simp (disch := first | decide | assumption | omega) only [r_onh i0, r_onh i1, r_onh i5, eA, rRa, rRb, rRc, Bool.not_true, Bool.not_false, List.cons_append, List.nil_append, List.append_nil]
        exact hK st.bare ⟨Nat.le_refl _, rfl, fun _ _ => rfl⟩
    · refine ⟨0, by omega, rfl, by first | rfl | trivial, fun j hj => absurd hj (Nat.not_lt_zero _), ?_⟩
      simp (disch := decide) only [z0, z1, h_here, h_skip, true_and, and_true]
  | false =>
    rw [if_neg (by rw [hL]; decide)] at hw
    simp (disch := first | decide | assumption | omega) only [eX0, rRa, rRb, rRc, Bool.not_true, Bool.not_false, List.cons_append, List.nil_append, List.append_nil]
    refine Digit_ok (fun a s => hb _ a s (by simp)) (l.getD a 0) st.bare _ ?_
    cases hD : isDigit (l.getD a 0) with
    | true =>
      rw [if_pos hD] at hw
      simp (disch := first | decide | assumption | omega) only [rRa, rRb, rRc, Bool.not_true, Bool.not_false, List.cons_append, List.nil_append, List.append_nil]
      refine wC_loopH (fun mm L s => ∃ k : Nat, a + k ≤ l.length ∧ mm = l.length - (a + k) ∧ s = st.bare ∧ (∀ j, j < k → isDigit ((l.drop a).getD j 0) = true) ∧ Has L 0 (.str l) ∧ Has L 1 (.int .i64 (a : Int)) ∧ Has L 5 (.int .i64 (k : Int))) ?_ (l.length - a) ?_
      · rintro mm L s ⟨k, hk, rfl, rfl, hp, i0, i1, i5⟩
        unfold Hold
        have eA := fun (s : St) (K : AV → St → Prop) => v_addNN (a := a) (b := k) (by omega) s K
        by_cases hlt : a + k < l.length
        · have hlt' : ((a + k : Nat) : Int) < (l.length : Int) := by omega
          have eX1 := eX (a + k) hlt
          have hstep : ∀ (h : isDigit (l.getD (a + k) 0) = true), ∀ j, j < k + 1 → isDigit ((l.drop a).getD j 0) = true := fun h j hj => by
            by_cases hjk : j = k
            · rw [hjk, hget]; exact h
            · exact hp j (by omega)
          have hstop : isDigit (l.getD (a + k) 0) = false → lead isDigit (l.drop a) = k := fun h => lead_at (by omega) hp (.inr (by rw [hget]; exact h))
          generalize l.getD (a + k) 0 = ch at eX1 hstep hstop
          simp (disch := first | decide | assumption | omega) only [r_onh i0, r_onh i1, r_onh i5, eA, eX1, rRa, rRb, rRc, Bool.not_true, Bool.not_false, List.cons_append, List.nil_append, List.append_nil]
          refine Digit_ok (fun a s => hb _ a s (by simp)) ch st.bare _ ?_
          cases hdg : isDigit ch with
          | true =>
            have hI := hdg
            simp (disch := first | decide | assumption | omega) only [r_onh i5, v_addN, rRa, rRb, rRc, Bool.not_true, Bool.not_false, List.cons_append, List.nil_append, List.append_nil]
            refine ⟨l.length - (a + (k + 1)), by omega, k + 1, by omega, rfl, by first | rfl | trivial, hstep hI, ?_⟩
            simp (disch := decide) only [z0, z1, h_here, h_skip, i0, i1, true_and, and_true]
          | false =>
            rw [hw, hstop hdg] at hK
            simp (disch := first | decide | assumption | omega) only [r_onh i0, r_onh i1, r_onh i5, eA, eX1, rRa, rRb, rRc, Bool.not_true, Bool.not_false, List.cons_append, List.nil_append, List.append_nil]
            exact hK st.bare ⟨Nat.le_refl _, rfl, fun _ _ => rfl⟩
        · have hlt' : ¬ ((a + k : Nat) : Int) < (l.length : Int) := by omega
          have hlead : lead isDigit (l.drop a) = k := lead_at (by omega) hp (.inl (by omega))
          rw [hw, hlead] at hK
          simp (disch := first | decide | assumption | omega) only [r_onh i0, r_onh i1, r_onh i5, eA, rRa, rRb, rRc, Bool.not_true, Bool.not_false, List.cons_append, List.nil_append, List.append_nil]
          exact hK st.bare ⟨Nat.le_refl _, rfl, fun _ _ => rfl⟩
      · refine ⟨0, by omega, rfl, by first | rfl | trivial, fun j hj => absurd hj (Nat.not_lt_zero _), ?_⟩
        simp (disch := decide) only [z0, z1, h_here, h_skip, true_and, and_true]
    | false =>
      rw [if_neg (by rw [hD]; decide)] at hw
      have e1 : ((1 : Nat) : Int) = 1 := rfl
      simp (disch := first | decide | assumption | omega) only [rRa, rRb, rRc, Bool.not_true, Bool.not_false, List.cons_append, List.nil_append, List.append_nil]
      refine wC_loopH (fun mm L s => ∃ k : Nat, k ≤ 3 ∧ mm = 3 - k ∧ Kept st.bare s ∧ Has L 0 (.str l) ∧ Has L 1 (.int .i64 (a : Int)) ∧ Has L 5 (.int .i64 (refSign (l.drop a) k : Int)) ∧ Has L 6 (.int .i64 ((k + 1 : Nat) : Int))) ?_ 3 ?_
      · rintro mm L s ⟨k, hk, rfl, ks, i0, i1, i5, i6⟩
        unfold Hold
        have sfr : s.fr = [] := ks.fr
        have eA := fun (s : St) (K : AV → St → Prop) => v_addNN (a := a) (b := k + 1) (by omega) s K
        have hfin : (3 ≤ k ∨ l.length < a + (k + 1)) → refSign (l.drop a) k = signN (l.drop a) := fun h => by
          rw [← refSign_eq]
          rcases h with h | h
          · rw [show k = 3 by omega]
          · have hs : ∀ j, k ≤ j → refSign (l.drop a) j = refSign (l.drop a) k := fun j hj => by
              induction j with
              | zero => rw [show k = 0 by omega]
              | succ j ih =>
                by_cases hjk : k = j + 1
                · rw [hjk]
                · show (if j + 1 ≤ (l.drop a).length ∧ _ then j + 1 else refSign (l.drop a) j) = _
                  rw [if_neg (fun h' => by have := h'.1; omega)]
                  exact ih (by omega)
            exact (hs 3 hk).symm
        by_cases h3 : k < 3
        · have h3' : ((k + 1 : Nat) : Int) ≤ 3 := by omega
          by_cases hlt : a + (k + 1) ≤ l.length
          · have hlt' : ((a + (k + 1) : Nat) : Int) ≤ (l.length : Int) := by omega
            have eS := fun (s : St) (K : AV → St → Prop) => v_sl3 (st := s) (K := K) (l := l) (a := a) (n := a + (k + 1)) (by omega) hlt .i64 .i64
            have en : a + (k + 1) - a = k + 1 := by omega
            simp (disch := first | decide | assumption | omega) only [r_onh i0, r_onh i1, r_onh i5, r_onh i6, eA, eS, en, bR, rRa, rRb, rRc, Bool.not_true, Bool.not_false, List.cons_append, List.nil_append, List.append_nil]
            refine o_R fun s2 m2 => ?_
            have n2 := m2.nx
            simp (disch := first | decide | assumption | omega) only [rRa, rRb, rRc, Bool.not_true, Bool.not_false, List.cons_append, List.nil_append, List.append_nil]
            refine one_ok (fun a s => hb _ a s (by simp)) ((l.drop a).take (k + 1)) signsR s.nx 0 23 true s2 (by decide) (by rw [m2.len]; decide) (fun i hi => by rw [Nat.zero_add, m2.cell i hi]; exact signsR_cells i hi) _ ?_
            have k2 := ks.made m2
            have hrs : refSign (l.drop a) (k + 1) = if k + 1 ≤ (l.drop a).length ∧ (l.drop a).take (k + 1) ∈ signsR then k + 1 else refSign (l.drop a) k := rfl
            by_cases hm : (l.drop a).take (k + 1) ∈ signsR
            · rw [decide_eq_true hm]
              rw [if_pos ⟨by omega, hm⟩] at hrs
              simp (disch := first | decide | assumption | omega) only [r_onh i6, v_addN, rRa, rRb, rRc, Bool.not_true, Bool.not_false, List.cons_append, List.nil_append, List.append_nil]
              refine ⟨3 - (k + 1), by omega, k + 1, by omega, rfl, k2, ?_⟩
              rw [hrs]
              simp (disch := decide) only [z0, z1, h_here, h_skip, i0, i1, true_and, and_true]
            · rw [decide_eq_false hm]
              rw [if_neg (fun h => hm h.2)] at hrs
              simp (disch := first | decide | assumption | omega) only [r_onh i6, v_addN, rRa, rRb, rRc, Bool.not_true, Bool.not_false, List.cons_append, List.nil_append, List.append_nil]
              refine ⟨3 - (k + 1), by omega, k + 1, by omega, rfl, k2, ?_⟩
              rw [hrs]
              simp (disch := decide) only [z0, z1, h_here, h_skip, i0, i1, i5, true_and, and_true]
          · have hlt' : ¬ ((a + (k + 1) : Nat) : Int) ≤ (l.length : Int) := by omega
            have hlt'' : (l.length : Int) < ((a + (k + 1) : Nat) : Int) := by omega
            rw [hw, ← hfin (.inr (by omega))] at hK
            simp (disch := first | decide | assumption | omega) only [r_onh i0, r_onh i1, r_onh i5, r_onh i6, eA, rRa, rRb, rRc, Bool.not_true, Bool.not_false, List.cons_append, List.nil_append, List.append_nil]
            exact hK s.bare ⟨ks.nx, rfl, ks.keep⟩
        · have h3' : ¬ ((k + 1 : Nat) : Int) ≤ 3 := by omega
          have h3'' : (3 : Int) < ((k + 1 : Nat) : Int) := by omega
          rw [hw, ← hfin (.inl (by omega))] at hK
          simp (disch := first | decide | assumption | omega) only [r_onh i0, r_onh i1, r_onh i5, r_onh i6, rRa, rRb, rRc, Bool.not_true, Bool.not_false, List.cons_append, List.nil_append, List.append_nil]
          exact hK s.bare ⟨ks.nx, rfl, ks.keep⟩
      · have er : refSign (l.drop a) 0 = 0 := rfl
        refine ⟨0, by omega, rfl, Kept.refl _, ?_⟩
        rw [er]
        simp (disch := decide) only [z0, z1, h_here, h_skip, true_and, and_true]
        exact Has.here _ _ _
end Go.Sy
end

section
set_option maxRecDepth 100000
namespace Go.Sy
open Go.Ev Go.Proofs Go.RowKit
section
variable {P : Program} {base : CallF} {st : St} {K : AV → St → Prop} {e : En}
theorem qz3k (l : List DStp) (L : Sl) (st : St) (Q : Out → Prop) : wC P base (.dops l) L st Q = wD P base l ⟨[], L⟩ [] st fun e st' => Q (.go e.g st') := nr rfl
theorem qz3l (e : En) (tb : List TE) (st : St) (K : En → St → Prop) : wD P base [] e tb st K = K e st := nr rfl
theorem qz3m (d : Option Nat) (kp : Bool) (k : IC) (te : Option (Option A)) (lt : TypeId) (prt : List (Nat × TypeId)) (l : List DStp) (e : En) (tb : List TE) (st : St) (K : En → St → Prop) :
    wD P base (⟨⟨d, kp, none, k⟩, te, lt, prt⟩ :: l) e tb st K = wK P base k e st fun v st' => held P lt (teW te e v st st') tb prt = true ∧ wD P base l (pushE d kp v e) (teW te e v st st' :: tb) st' K := nr rfl
theorem qz3o (e : En) (v : AV) (st st' : St) : teW none e v st st' = .none := nr rfl
theorem qz3p (e : En) (v : AV) (st st' : St) : teW (some none) e v st st' = .wr st.h st'.h := nr rfl
theorem qz3q (a : A) (e : En) (v : AV) (st st' : St) : teW (some (some a)) e v st st' = .rd (vl e a) v := nr rfl
theorem qz3r (x : Nat) (v : AV) (l g : Sl) : vl ⟨(x, v) :: l, g⟩ (.t x) = v := by simp [vl, En.look, look_cons, En.has, has_cons]
theorem qz3t (t : TypeId) (x : TE) (tb : List TE) : held P t x tb [] = true := nr rfl
theorem r_heldw6 (t u : TypeId) (a v : AV) (x1 x2 x3 x4 x5 x6 : TE) (h h' : T AO) (tb : List TE) : held P t (.wr h h') (x1 :: x2 :: x3 :: x4 :: x5 :: x6 :: .rd a v :: tb) [(6, u)] = cond (cond (sameAt P u a v h) (sameAt P u a v h') false) true false := nr rfl
theorem i_buildS05 (z1 z2 z3 z4 z5 : AV) : wK P base (.i (.buildS 0 5 [z1, z2, z3, z4, z5] [])) e st K = onER (buildSV 0 5 [z1, z2, z3, z4, z5] [] st) K := k_0 rfl (fun _ => rfl) K
theorem o_buildS05 {z : List AV} (hk : ∀ st', Made st st' 0 (fun _ => .bad) → K (.slice st.nx 0 0 0 5 true) st') : onER (buildSV 0 5 z [] st) K := by
  have h2 : fillP (repeatC z 0) [] = some [] := rfl
  have h3 : lall AV.cell [] = true := rfl
  simp only [buildSV, h2, onSome, h3, cond_true, force_eq, llen_eq, St.alloc_eq, onER]
  exact hk _ (made_row fun i hi => absurd hi (Nat.not_lt_zero _))
/-- one thing of k cells behind an empty slice -/
theorem o_appKe {k bytes b bv xc : Nat} {xx : Bool} (hk0 : 0 < k) (hb : IsRow st.h b) (hby : bytes ≤ 140737488355328) (hv : rlen st.h bv = k)
    (hk : ∀ st', Made st st' k (fun i => rat st.h bv i) → K (.slice st.nx 0 1 1 k false) st') : onER (appV k bytes (.slice b 0 0 0 k true) (.slice bv 0 1 xc k xx) st) K := by
  obtain ⟨n', zl', z', cs', hg'⟩ := hb
  obtain ⟨n, zl, z, cs, hg⟩ := isRow_pos (h := st.h) (b := bv) (by omega)
  rw [rlen_get hg] at hv
  have e0 : Nat.mul 1 k = k := Nat.one_mul k
  have e1 : Nat.ble (Nat.add 0 k) n = true := ble_t (by show 0 + k ≤ n; omega)
  have e3 : Nat.beq (llen (rowCells zl z cs k 0)) k = true := beq_t (by rw [llen_eq, rowCells_eq]; simp)
  have e4 : Nat.ble (Nat.add 0 1) 0 = false := rfl
  have e41 : Nat.add 0 1 = 1 := rfl
  have e42 : Nat.ble 1 0 = false := rfl
  have e5 : Nat.ble (Nat.mul 1 bytes) 140737488355328 = true := ble_t (by show 1 * bytes ≤ _; omega)
  have e6 : Nat.ble 1 9223372036854775807 = true := ble_t (by decide)
  have e70 : Nat.mul 0 k = 0 := Nat.zero_mul k
  have e71 : Nat.add 0 0 = 0 := rfl
  have e7 : Nat.ble 0 n' = true := ble_t (Nat.zero_le _)
  have e8 : lapp (rowCells zl' z' cs' 0 0) (rowCells zl z cs k 0) = rowCells zl z cs k 0 := by
    rw [lapp_eq]; rfl
  simp only [appV, onLen, firstCells, hg, onRow, force_eq, e0, e1, cond_true, appendWith, e3, hg', e41, e42, cond_false, e5, e6, e70, e71, e7, e8, St.alloc_eq, onER]
  refine hk _ (made_row fun i hi => ?_)
  rw [rowCell_eq, get_e, rowCells_eq, Nat.mod_eq_of_lt hi, rat_get hg]
  simp [List.getD_eq_getElem?_getD, List.getElem?_map, hi]
theorem v_mul10 {a : Nat} (h : a ≤ 922337203685477580) : onER (binV .mul (.int .i64 10) (.int .i64 (a : Int)) st) K = K (.int .i64 ((10 * a : Nat) : Int)) st := by
  rw [v_mul (by omega) (by omega)]
  have : 10 * (a : Int) = ((10 * a : Nat) : Int) := by omega
  rw [this]
theorem v_sub48 {c : Nat} (h : 48 ≤ c) (h2 : c < 256) : onER (binV .sub (.int .u8 (c : Int)) (.int .u8 48) st) K = K (.int .u8 ((c - 48 : Nat) : Int)) st := by
  have e : (c : Int) - 48 = ((c - 48 : Nat) : Int) := by omega
  refine b_val (show some (AV.int .u8 (wrapI .u8 ((c : Int) - 48))) = _ from ?_)
  rw [e, wrapI_eq]
  have : IntKind.u8.wrap ((c - 48 : Nat) : Int) = ((c - 48 : Nat) : Int) := by
    show ((c - 48 : Nat) : Int) % 256 = _
    omega
  rw [this]
end
/-- a slice of words that a literal began -/
def rsV (b : Nat) (ts : List Tk) : AV := if ts = [] then .slice b 0 0 0 5 true else .slice b 0 ts.length ts.length 5 false
structure Rs (s : St) (b : Nat) (ts : List Tk) : Prop where
  lt : b < s.nx
  row : IsRow s.h b
  ts : ts ≠ [] → Ts s b ts
theorem Rs.keep {s s' : St} {b : Nat} {ts : List Tk} (h : Rs s b ts) (hn : s.nx ≤ s'.nx) (k : hget s'.h b = hget s.h b) : Rs s' b ts :=
  ⟨Nat.lt_of_lt_of_le h.lt hn, isRow_same k h.row, fun e => (h.ts e).keep hn k⟩
theorem rsV_ts {b : Nat} {ts : List Tk} (h : ts ≠ []) : rsV b ts = tsV b ts := by unfold rsV tsV; rw [if_neg h, if_neg h]
theorem o_appR5 {st : St} {K : AV → St → Prop} {b bv xc : Nat} {xx : Bool} {ts : List Tk} {t : Tk} (hR : Rs st b ts) (hlen : ts.length ≤ 1000000) (hv : rlen st.h bv = 5) (hvc : ∀ i, i < 5 → rat st.h bv i = t.cells.getD i .bad)
    (hk : ∀ st', st'.nx = st.nx + 1 → st'.fr = st.fr → (∀ c, c ≠ st.nx → c ≠ b → hget st'.h c = hget st.h c) → Rs st' st.nx (ts ++ [t]) → Ts st' st.nx (ts ++ [t]) → K (rsV st.nx (ts ++ [t])) st') : onER (appV 5 48 (rsV b ts) (.slice bv 0 1 xc 5 xx) st) K := by
  have fin : ∀ st' : St, Ts st' st.nx (ts ++ [t]) → Rs st' st.nx (ts ++ [t]) := fun st' T => ⟨T.lt, isRow_pos (by rw [T.len, List.length_append]; show 0 < 5 * (ts.length + 1); omega), fun _ => T⟩
  by_cases h : ts = []
  · subst h
    refine o_appKe (by decide) hR.row (by decide) hv fun s' m => ?_
    have T : Ts s' st.nx ([] ++ [t]) := ⟨by rw [m.nx]; omega, m.len, fun i hi => by
      have hi' : i < 5 := hi
      rw [m.cell i hi', hvc i hi']
      show t.cells.getD i .bad = (t.cells ++ []).getD i .bad
      rw [List.append_nil]⟩
    exact hk s' m.nx m.fr (fun c h1 _ => m.keep c h1) (fin s' T) T
  · rw [rsV_ts h]
    have e : rsV st.nx (ts ++ [t]) = tsV st.nx (ts ++ [t]) := rsV_ts (by simp)
    rw [e] at hk
    exact o_appT (fun h => hR.ts h) hlen hv hvc fun s' q1 q2 q3 T => hk s' q1 q2 (fun c h1 h2 => q3 c h1 (fun _ => h2)) (fin s' T) T
theorem loadKd (b o n zl : Nat) (z : List AV) (cs : T AV) (h : T AO) (hg : hget h b = some (.row n zl z cs)) (ho : o < n) : (loadK Tryd.prog 2).run (.ptr b o) h = some (rowCell zl z cs o) := by
  have e1 : Go.Ev.isAgg Tryd.prog 2 = some false := by kernel_rfl
  have e2 : Go.Ev.sizeOf Tryd.prog 2 = some 1 := by kernel_rfl
  have e3 : Nat.ble (Nat.succ o) n = true := ble_t ho
  simp only [loadK, e1, e2, hg, e3, cond_true]
theorem sameD {b o : Nat} {h : T AO} {n : Int} (ho : o < rlen h b) (hv : rat h b o = .int .i64 n) : sameAt Tryd.prog 2 (.ptr b o) (.int .i64 n) h = true := by
  obtain ⟨n', zl, z, cs, hg⟩ := isRow_pos (h := h) (b := b) (by omega)
  rw [rlen_get hg] at ho
  rw [rat_get hg] at hv
  unfold sameAt
  rw [loadKd b o n' zl z cs h hg ho, hv]
  show eqAV (.int .i64 n) (.int .i64 n) = true
  simp [eqAV, eqCellS, eqCell, eqK_self, eqI_self]
end Go.Sy
end

section
set_option maxRecDepth 100000
namespace Go.Sy
open Go.Ev Go.Proofs
def x48 : Cmd := (.ops [⟨(some 29), false, none, (.i (.mv (.t 6)))⟩, ⟨(some 30), false, none, (.i (.un .not (.t 29)))⟩, ⟨(some 31), false, none, (.i (.mv (.t 30)))⟩, ⟨(some 32), false, (some (31, true)), (.i (.mv (.t 7)))⟩, ⟨(some 33), false, (some (31, true)), (.i (.bin .eql (.t 32) (.c (.int .u8 47))))⟩, ⟨(some 34), false, none, (.i (.pick (.t 31) (.t 33) (.c (.bool false))))⟩, ⟨(some 35), false, none, (.i (.mv (.t 34)))⟩, ⟨(some 36), false, (some (35, true)), (.i (.mv (.t 5)))⟩, ⟨(some 37), false, (some (35, true)), (.i (.bin .add (.t 36) (.c (.int .i64 1))))⟩, ⟨(some 38), false, (some (35, true)), (.i (.mv (.t 0)))⟩, ⟨(some 39), false, (some (35, true)), (.i (.lenS (.t 38)))⟩, ⟨(some 40), false, (some (35, true)), (.i (.bin .lss (.t 37) (.t 39)))⟩, ⟨(some 41), false, none, (.i (.pick (.t 35) (.t 40) (.c (.bool false))))⟩, ⟨(some 42), false, none, (.i (.mv (.t 41)))⟩, ⟨(some 43), false, (some (42, true)), (.i (.mv (.t 0)))⟩, ⟨(some 44), false, (some (42, true)), (.i (.mv (.t 5)))⟩, ⟨(some 45), false, (some (42, true)), (.i (.bin .add (.t 44) (.c (.int .i64 1))))⟩, ⟨(some 46), false, (some (42, true)), (.i (.ixStr (.t 43) (.t 45)))⟩, ⟨(some 47), false, (some (42, true)), (.i (.bin .eql (.t 46) (.c (.int .u8 47))))⟩, ⟨(some 48), true, none, (.i (.pick (.t 42) (.t 47) (.c (.bool false))))⟩])
def x61 : Cmd := (.ops [⟨(some 49), false, none, (.i (.mv (.t 6)))⟩, ⟨(some 50), false, none, (.i (.mv (.t 49)))⟩, ⟨(some 51), false, (some (50, false)), (.i (.mv (.t 7)))⟩, ⟨(some 52), false, (some (50, false)), (.i (.bin .eql (.t 51) (.c (.int .u8 32))))⟩, ⟨(some 53), false, none, (.i (.pick (.t 50) (.c (.bool true)) (.t 52)))⟩, ⟨(some 54), false, none, (.i (.mv (.t 53)))⟩, ⟨(some 55), false, (some (54, false)), (.i (.mv (.t 7)))⟩, ⟨(some 56), false, (some (54, false)), (.i (.bin .eql (.t 55) (.c (.int .u8 9))))⟩, ⟨(some 57), false, none, (.i (.pick (.t 54) (.c (.bool true)) (.t 56)))⟩, ⟨(some 58), false, none, (.i (.mv (.t 57)))⟩, ⟨(some 59), false, (some (58, false)), (.i (.mv (.t 7)))⟩, ⟨(some 60), false, (some (58, false)), (.i (.bin .eql (.t 59) (.c (.int .u8 10))))⟩, ⟨(some 61), true, none, (.i (.pick (.t 58) (.c (.bool true)) (.t 60)))⟩])
def xA : Cmd := (.seq (.ops [⟨(some 132), false, none, (.i (.mv (.t 4)))⟩, ⟨(some 133), false, none, (.i (.ldA 5 (.t 11)))⟩, ⟨(some 134), false, none, (.i (.buildS 1 5 [(.int .i64 0), (.str []), (.int .i64 0), (.int .i64 0), (.int .i64 0)] [((0, 5), (.t 133))]))⟩, ⟨(some 135), false, none, (.i (.app 5 48 (.t 132) (.t 134)))⟩, ⟨(some 4), true, none, (.i (.mv (.t 135)))⟩]) (.ops [⟨(some 136), false, none, (.i (.mv (.t 5)))⟩, ⟨(some 137), false, none, (.i (.mv (.t 8)))⟩, ⟨(some 138), false, none, (.i (.bin .add (.t 136) (.t 137)))⟩, ⟨(some 5), true, none, (.i (.mv (.t 138)))⟩]))
def xN : Cmd := (.seq (.ops [⟨(some 12), true, none, (.i (.mv (.c (.int .i64 0))))⟩]) (.block 2 (.loop (.seq (.seq (.ops [⟨(some 102), false, none, (.i (.mv (.t 12)))⟩, ⟨(some 103), false, none, (.i (.mv (.t 8)))⟩, ⟨(some 104), false, none, (.i (.bin .lss (.t 102) (.t 103)))⟩, ⟨(some 105), false, none, (.i (.mv (.t 104)))⟩, ⟨(some 106), false, (some (105, true)), (.i (.mv (.t 12)))⟩, ⟨(some 107), false, (some (105, true)), (.i (.bin .lss (.t 106) (.c (.int .i64 8))))⟩, ⟨(some 108), true, none, (.i (.pick (.t 105) (.t 107) (.c (.bool false))))⟩]) (.cond (.t 108) .skip (.exit 2))) (.seq (.block 3 (.dops [⟨⟨(some 111), false, none, (.i (.fad 2 (.t 11)))⟩, none, 0, []⟩, ⟨⟨(some 112), false, none, (.i (.ld1 (.t 111)))⟩, (some (some (.t 111))), 2, []⟩, ⟨⟨(some 113), false, none, (.i (.bin .mul (.c (.int .i64 10)) (.t 112)))⟩, none, 0, []⟩, ⟨⟨(some 114), false, none, (.i (.fad 1 (.t 11)))⟩, none, 0, []⟩, ⟨⟨(some 115), false, none, (.i (.ld1 (.t 114)))⟩, (some (some (.t 114))), 9, []⟩, ⟨⟨(some 116), false, none, (.i (.mv (.t 12)))⟩, none, 0, []⟩, ⟨⟨(some 117), false, none, (.i (.ixStr (.t 115) (.t 116)))⟩, none, 0, []⟩, ⟨⟨(some 118), false, none, (.i (.bin .sub (.t 117) (.c (.int .u8 48))))⟩, none, 0, []⟩, ⟨⟨(some 119), false, none, (.i (.cvt .i64 (.t 118)))⟩, (some none), 0, [(6, 2)]⟩, ⟨⟨(some 120), false, none, (.i (.bin .add (.t 113) (.t 119)))⟩, none, 0, []⟩, ⟨⟨(some 121), false, none, (.i (.fad 2 (.t 11)))⟩, none, 0, []⟩, ⟨⟨none, false, none, (.i (.st 1 (.t 121) (.t 120)))⟩, (some none), 0, []⟩])) (.ops [⟨(some 109), false, none, (.i (.mv (.t 12)))⟩, ⟨(some 110), false, none, (.i (.bin .add (.t 109) (.c (.int .i64 1))))⟩, ⟨(some 12), true, none, (.i (.mv (.t 110)))⟩]))))))
theorem b10_eq : b10 = (.seq (.ops [⟨(some 2), true, none, (.i (.mv (.c .nils)))⟩, ⟨(some 3), true, none, (.i (.alloc [(.int .i64 0), (.int .i64 0), (.int .i64 0)]))⟩]) (.seq (.seq (.ops [⟨(some 15), false, none, (.i (.mv (.t 0)))⟩, ⟨(some 16), false, none, (.i (.lenS (.t 15)))⟩, ⟨(some 17), true, none, (.i (.bin .gtr (.t 16) (.c (.int .i64 65536))))⟩]) (.cond (.t 17) (.seq (.ops [⟨(some 18), false, none, (.i (.build [(.int .i64 0), (.int .i64 0), (.int .i64 0)] [((0, 1), (.c (.int .i64 132))), ((1, 1), (.c (.int .i64 1))), ((2, 1), (.c (.int .i64 1)))]))⟩, ⟨(some 2), true, none, (.i (.mv (.c .nils)))⟩, ⟨none, false, none, (.i (.st 3 (.t 3) (.t 18)))⟩]) .ret) .skip)) (.seq (.ops [⟨(some 19), false, none, (.i (.buildS 0 5 [(.int .i64 0), (.str []), (.int .i64 0), (.int .i64 0), (.int .i64 0)] []))⟩, ⟨(some 4), true, none, (.i (.mv (.t 19)))⟩]) (.seq (.ops [⟨(some 5), true, none, (.i (.mv (.c (.int .i64 0))))⟩]) (.seq (.ops [⟨(some 6), true, none, (.i (.mv (.c (.bool false))))⟩]) (.seq (.block 0 (.loop (.seq (.seq (.ops [⟨(some 20), false, none, (.i (.mv (.t 5)))⟩, ⟨(some 21), false, none, (.i (.mv (.t 0)))⟩, ⟨(some 22), false, none, (.i (.lenS (.t 21)))⟩, ⟨(some 23), true, none, (.i (.bin .lss (.t 20) (.t 22)))⟩]) (.cond (.t 23) .skip (.exit 0))) (.block 1 (.seq (.ops [⟨(some 24), false, none, (.i (.mv (.t 0)))⟩, ⟨(some 25), false, none, (.i (.mv (.t 5)))⟩, ⟨(some 26), false, none, (.i (.ixStr (.t 24) (.t 25)))⟩, ⟨(some 7), true, none, (.i (.mv (.t 26)))⟩]) (.seq (.seq (.ops [⟨(some 27), false, none, (.i (.mv (.t 7)))⟩, ⟨(some 28), true, none, (.i (.bin .eql (.t 27) (.c (.int .u8 10))))⟩]) (.cond (.t 28) (.ops [⟨(some 6), true, none, (.i (.mv (.c (.bool false))))⟩]) .skip)) (.seq (.seq x48 (.cond (.t 48) (.ops [⟨(some 6), true, none, (.i (.mv (.c (.bool true))))⟩]) .skip)) (.seq (.seq x61 (.cond (.t 61) (.seq (.ops [⟨(some 62), false, none, (.i (.mv (.t 5)))⟩, ⟨(some 63), false, none, (.i (.bin .add (.t 62) (.c (.int .i64 1))))⟩, ⟨(some 5), true, none, (.i (.mv (.t 63)))⟩]) (.exit 1)) .skip)) (.seq (.ops [⟨(some 64), false, none, (.i (.mv (.t 0)))⟩, ⟨(some 65), false, none, (.i (.mv (.t 5)))⟩, ⟨(some 66), false, none, (.call (.c (.fn 18 [])) [(.t 64), (.t 65)])⟩, ⟨(some 8), true, none, (.i (.mv (.t 66)))⟩]) (.seq (.ops [⟨(some 68), false, none, (.i (.mv (.t 0)))⟩, ⟨(some 69), false, none, (.i (.mv (.t 5)))⟩, ⟨(some 70), false, none, (.call (.c (.fn 19 [])) [(.t 68), (.t 69)])⟩, ⟨(some 67), false, none, (.i (.mv (.t 70)))⟩, ⟨(some 71), false, none, (.i (.ext (.t 67) 0))⟩, ⟨(some 72), false, none, (.i (.ext (.t 67) 1))⟩, ⟨(some 9), true, none, (.i (.mv (.t 71)))⟩, ⟨(some 10), true, none, (.i (.mv (.t 72)))⟩]) (.seq (.seq (.ops [⟨(some 73), false, none, (.i (.mv (.t 8)))⟩, ⟨(some 74), true, none, (.i (.bin .eql (.t 73) (.c (.int .i64 0))))⟩]) (.cond (.t 74) (.seq (.ops [⟨(some 75), false, none, (.i (.mv (.t 9)))⟩, ⟨(some 76), false, none, (.i (.mv (.t 10)))⟩, ⟨(some 77), false, none, (.i (.build [(.int .i64 0), (.int .i64 0), (.int .i64 0)] [((0, 1), (.c (.int .i64 131))), ((1, 1), (.t 75)), ((2, 1), (.t 76))]))⟩, ⟨(some 2), true, none, (.i (.mv (.c .nils)))⟩, ⟨none, false, none, (.i (.st 3 (.t 3) (.t 77)))⟩]) .ret) .skip)) (.seq (.ops [⟨(some 78), false, none, (.i (.mv (.t 0)))⟩, ⟨(some 79), false, none, (.i (.mv (.t 5)))⟩, ⟨(some 80), false, none, (.i (.mv (.t 5)))⟩, ⟨(some 81), false, none, (.i (.mv (.t 8)))⟩, ⟨(some 82), false, none, (.i (.bin .add (.t 80) (.t 81)))⟩, ⟨(some 83), false, none, (.i (.slStr (.t 78) (some (.t 79)) (some (.t 82))))⟩, ⟨(some 84), false, none, (.i (.mv (.t 9)))⟩, ⟨(some 85), false, none, (.i (.mv (.t 10)))⟩, ⟨(some 86), false, none, (.i (.build [(.int .i64 0), (.str []), (.int .i64 0), (.int .i64 0), (.int .i64 0)] [((0, 1), (.c (.int .i64 3))), ((1, 1), (.t 83)), ((3, 1), (.t 84)), ((4, 1), (.t 85))]))⟩, ⟨(some 11), true, none, (.i (.alloc [(.int .i64 0), (.str []), (.int .i64 0), (.int .i64 0), (.int .i64 0)]))⟩, ⟨none, false, none, (.i (.st 5 (.t 11) (.t 86)))⟩]) (.seq (.seq (.ops [⟨(some 87), false, none, (.i (.mv (.t 7)))⟩, ⟨(some 88), true, none, (.call (.c (.fn 20 [])) [(.t 87)])⟩]) (.cond (.t 88) (.seq (.ops [⟨(some 89), false, none, (.i (.fad 0 (.t 11)))⟩, ⟨none, false, none, (.i (.st 1 (.t 89) (.c (.int .i64 1))))⟩]) (.seq (.seq (.ops [⟨(some 90), false, none, (.i (.fad 1 (.t 11)))⟩, ⟨(some 91), false, none, (.i (.ld1 (.t 90)))⟩, ⟨(some 92), true, none, (.call (.c (.fn 13 [])) [(.t 91)])⟩]) (.cond (.t 92) (.ops [⟨(some 93), false, none, (.i (.fad 0 (.t 11)))⟩, ⟨none, false, none, (.i (.st 1 (.t 93) (.c (.int .i64 4))))⟩]) .skip)) (.seq (.ops [⟨(some 94), false, none, (.i (.mv (.t 8)))⟩, ⟨(some 95), true, none, (.i (.bin .gtr (.t 94) (.c (.int .i64 32))))⟩]) (.cond (.t 95) (.seq (.ops [⟨(some 96), false, none, (.i (.mv (.t 9)))⟩, ⟨(some 97), false, none, (.i (.mv (.t 10)))⟩, ⟨(some 98), false, none, (.i (.build [(.int .i64 0), (.int .i64 0), (.int .i64 0)] [((0, 1), (.c (.int .i64 132))), ((1, 1), (.t 96)), ((2, 1), (.t 97))]))⟩, ⟨(some 2), true, none, (.i (.mv (.c .nils)))⟩, ⟨none, false, none, (.i (.st 3 (.t 3) (.t 98)))⟩]) .ret) .skip)))) .skip)) (.seq (.seq (.ops [⟨(some 99), false, none, (.i (.mv (.t 7)))⟩, ⟨(some 100), true, none, (.call (.c (.fn 21 [])) [(.t 99)])⟩]) (.cond (.t 100) (.seq (.ops [⟨(some 101), false, none, (.i (.fad 0 (.t 11)))⟩, ⟨none, false, none, (.i (.st 1 (.t 101) (.c (.int .i64 2))))⟩]) (.seq xN (.seq (.ops [⟨(some 122), false, none, (.i (.mv (.t 8)))⟩, ⟨(some 123), false, none, (.i (.bin .gtr (.t 122) (.c (.int .i64 7))))⟩, ⟨(some 124), false, none, (.i (.mv (.t 123)))⟩, ⟨(some 125), false, (some (124, false)), (.i (.fad 2 (.t 11)))⟩, ⟨(some 126), false, (some (124, false)), (.i (.ld1 (.t 125)))⟩, ⟨(some 127), false, (some (124, false)), (.i (.bin .gtr (.t 126) (.c (.int .i64 1000000))))⟩, ⟨(some 128), true, none, (.i (.pick (.t 124) (.c (.bool true)) (.t 127)))⟩]) (.cond (.t 128) (.seq (.ops [⟨(some 129), false, none, (.i (.mv (.t 9)))⟩, ⟨(some 130), false, none, (.i (.mv (.t 10)))⟩, ⟨(some 131), false, none, (.i (.build [(.int .i64 0), (.int .i64 0), (.int .i64 0)] [((0, 1), (.c (.int .i64 132))), ((1, 1), (.t 129)), ((2, 1), (.t 130))]))⟩, ⟨(some 2), true, none, (.i (.mv (.c .nils)))⟩, ⟨none, false, none, (.i (.st 3 (.t 3) (.t 131)))⟩]) .ret) .skip)))) .skip)) xA)))))))))))))) (.seq (.ops [⟨(some 140), false, none, (.i (.mv (.t 0)))⟩, ⟨(some 141), false, none, (.i (.mv (.t 0)))⟩, ⟨(some 142), false, none, (.i (.lenS (.t 141)))⟩, ⟨(some 143), false, none, (.call (.c (.fn 19 [])) [(.t 140), (.t 142)])⟩, ⟨(some 139), false, none, (.i (.mv (.t 143)))⟩, ⟨(some 144), false, none, (.i (.ext (.t 139) 0))⟩, ⟨(some 145), false, none, (.i (.ext (.t 139) 1))⟩, ⟨(some 13), true, none, (.i (.mv (.t 144)))⟩, ⟨(some 14), true, none, (.i (.mv (.t 145)))⟩]) (.seq (.ops [⟨(some 146), false, none, (.i (.mv (.t 4)))⟩, ⟨(some 147), false, none, (.i (.mv (.t 13)))⟩, ⟨(some 148), false, none, (.i (.mv (.t 14)))⟩, ⟨(some 149), false, none, (.i (.build [(.int .i64 0), (.str []), (.int .i64 0), (.int .i64 0), (.int .i64 0)] [((0, 1), (.c (.int .i64 5))), ((3, 1), (.t 147)), ((4, 1), (.t 148))]))⟩, ⟨(some 150), false, none, (.i (.buildS 1 5 [(.int .i64 0), (.str []), (.int .i64 0), (.int .i64 0), (.int .i64 0)] [((0, 5), (.t 149))]))⟩, ⟨(some 151), false, none, (.i (.app 5 48 (.t 146) (.t 150)))⟩, ⟨(some 152), false, none, (.i (.build [(.int .i64 0), (.int .i64 0), (.int .i64 0)] []))⟩, ⟨(some 2), true, none, (.i (.mv (.t 151)))⟩, ⟨none, false, none, (.i (.st 3 (.t 3) (.t 152)))⟩]) .ret)))))))) := rfl
end Go.Sy
end

section
set_option maxRecDepth 100000
namespace Go.Sy
open Go.Ev Go.Proofs Go.RowKit
variable {base : CallF}
theorem x48_ok {l : List Nat} {a c : Nat} {rm : Bool} {L : Sl} {st : St} {Q : Out → Prop} (h0 : Has L 0 (.str l)) (h5 : Has L 5 (.int .i64 (a : Int))) (h6 : Has L 6 (.bool rm)) (h7 : Has L 7 (.int .u8 (c : Int))) (ha : a < l.length) (hl : l.length ≤ 4611686018427387904)
    (hk : Q (.go ((48, .bool (decide (rm = false ∧ c = 47 ∧ a + 1 < l.length ∧ l.getD (a + 1) 0 = 47))) :: L) st)) : wC Tryd.prog base x48 L st Q := by
  unfold x48
  cases rm with
  | true =>
    rw [decide_eq_false (by simp)] at hk
    simp (disch := first | decide | assumption | omega) only [r_onh h0, r_onh h5, r_onh h6, r_onh h7, rRa, rRb, rRc, Bool.not_true, Bool.not_false, List.cons_append, List.nil_append, List.append_nil]
    exact hk
  | false =>
    by_cases hc : c = 47
    · have hc' : (c : Int) = 47 := by omega
      by_cases hn : a + 1 < l.length
      · have hn' : ((a + 1 : Nat) : Int) < (l.length : Int) := by omega
        have eX : ∀ (s : St) (K : AV → St → Prop), onER (ixStrV (.str l) (.int .i64 ((a + 1 : Nat) : Int)) s) K = K (.int .u8 ((l.getD (a + 1) 0 : Nat) : Int)) s := fun s K => qz37 hn .i64
        generalize l.getD (a + 1) 0 = d at eX hk
        by_cases hd : d = 47
        · have hd' : (d : Int) = 47 := by omega
          rw [decide_eq_true ⟨rfl, hc, hn, hd⟩] at hk
          simp (disch := first | decide | assumption | omega) only [r_onh h0, r_onh h5, r_onh h6, r_onh h7, v_addN, eX, rRa, rRb, rRc, Bool.not_true, Bool.not_false, List.cons_append, List.nil_append, List.append_nil]
          exact hk
        · have hd' : (d : Int) ≠ 47 := by omega
          rw [decide_eq_false (fun h => hd h.2.2.2)] at hk
          simp (disch := first | decide | assumption | omega) only [r_onh h0, r_onh h5, r_onh h6, r_onh h7, v_addN, eX, rRa, rRb, rRc, Bool.not_true, Bool.not_false, List.cons_append, List.nil_append, List.append_nil]
          exact hk
      · have hn' : ¬ ((a + 1 : Nat) : Int) < (l.length : Int) := by omega
        rw [decide_eq_false (fun h => hn h.2.2.1)] at hk
        simp (disch := first | decide | assumption | omega) only [r_onh h0, r_onh h5, r_onh h6, r_onh h7, v_addN, rRa, rRb, rRc, Bool.not_true, Bool.not_false, List.cons_append, List.nil_append, List.append_nil]
        exact hk
    · have hc' : (c : Int) ≠ 47 := by omega
      rw [decide_eq_false (fun h => hc h.2.1)] at hk
      simp (disch := first | decide | assumption | omega) only [r_onh h0, r_onh h5, r_onh h6, r_onh h7, rRa, rRb, rRc, Bool.not_true, Bool.not_false, List.cons_append, List.nil_append, List.append_nil]
      exact hk
theorem x61_ok {c : Nat} {rm : Bool} {L : Sl} {st : St} {Q : Out → Prop} (h6 : Has L 6 (.bool rm)) (h7 : Has L 7 (.int .u8 (c : Int)))
    (hk : Q (.go ((61, .bool (rm || isBlank c)) :: L) st)) : wC Tryd.prog base x61 L st Q := by
  unfold x61
  unfold isBlank at hk
  cases rm with
  | true =>
    rw [Bool.true_or] at hk
    simp (disch := first | decide | assumption | omega) only [r_onh h6, r_onh h7, rRa, rRb, rRc, Bool.not_true, Bool.not_false, List.cons_append, List.nil_append, List.append_nil]
    exact hk
  | false =>
    rw [Bool.false_or] at hk
    by_cases h1 : c = 32
    · have h1' : (c : Int) = 32 := by omega
      rw [decide_eq_true h1, Bool.true_or, Bool.true_or] at hk
      simp (disch := first | decide | assumption | omega) only [r_onh h6, r_onh h7, rRa, rRb, rRc, Bool.not_true, Bool.not_false, List.cons_append, List.nil_append, List.append_nil]
      exact hk
    · have h1' : (c : Int) ≠ 32 := by omega
      by_cases h2 : c = 9
      · have h2' : (c : Int) = 9 := by omega
        rw [decide_eq_true h2, Bool.or_true, Bool.true_or] at hk
        simp (disch := first | decide | assumption | omega) only [r_onh h6, r_onh h7, rRa, rRb, rRc, Bool.not_true, Bool.not_false, List.cons_append, List.nil_append, List.append_nil]
        exact hk
      · have h2' : (c : Int) ≠ 9 := by omega
        by_cases h3 : c = 10
        · have h3' : (c : Int) = 10 := by omega
          rw [decide_eq_true h3, Bool.or_true] at hk
          simp (disch := first | decide | assumption | omega) only [r_onh h6, r_onh h7, rRa, rRb, rRc, Bool.not_true, Bool.not_false, List.cons_append, List.nil_append, List.append_nil]
          exact hk
        · have h3' : (c : Int) ≠ 10 := by omega
          rw [decide_eq_false h1, decide_eq_false h2, decide_eq_false h3] at hk
          simp (disch := first | decide | assumption | omega) only [r_onh h6, r_onh h7, rRa, rRb, rRc, Bool.not_true, Bool.not_false, List.cons_append, List.nil_append, List.append_nil]
          exact hk
theorem xA_ok {a n tb b : Nat} {acc : List Tk} {t : Tk} {L : Sl} {s : St} {Q : Out → Prop} (h4 : Has L 4 (rsV b acc)) (h5 : Has L 5 (.int .i64 (a : Int))) (h8 : Has L 8 (.int .i64 (n : Int))) (h11 : Has L 11 (.ptr tb 0)) (T : T5 s tb t) (R : Rs s b acc) (hlen : acc.length ≤ 1000000) (han : a + n ≤ 4611686018427387904)
    (hk : ∀ s' b', s.nx ≤ s'.nx → s'.fr = s.fr → (∀ x, x < s.nx → x ≠ b → hget s'.h x = hget s.h x) → s.nx ≤ b' → Rs s' b' (acc ++ [t]) → Q (.go ((5, .int .i64 ((a + n : Nat) : Int)) :: (4, rsV b' (acc ++ [t])) :: L) s')) : wC Tryd.prog base xA L s Q := by
  unfold xA
  simp (disch := first | decide | assumption | omega) only [r_onh h4, r_onh h11, T.ld, i_buildS15, rRa, rRb, rRc, Bool.not_true, Bool.not_false, List.cons_append, List.nil_append, List.append_nil]
  refine o_buildST t fun s1 m1 => ?_
  have n1 := m1.nx
  simp (disch := first | decide | assumption | omega) only [rRa, rRb, rRc, Bool.not_true, Bool.not_false, List.cons_append, List.nil_append, List.append_nil]
  refine o_appR5 (R.keep (by omega) (m1.keep b (by have := R.lt; omega))) hlen m1.len (fun i hi => m1.cell i hi) fun s2 q1 q2 q3 R2 T2 => ?_
  have eA := fun (s : St) (K : AV → St → Prop) => v_addNN (a := a) (b := n) (by omega) s K
  simp (disch := first | decide | assumption | omega) only [r_onh h5, r_onh h8, eA, rRa, rRb, rRc, Bool.not_true, Bool.not_false, List.cons_append, List.nil_append, List.append_nil]
  exact hk s2 s1.nx (by omega) (q2.trans m1.fr) (fun x hx hb => (q3 x (by omega) hb).trans (m1.keep x (by omega))) (by omega) R2
theorem valN_bound {s : List Nat} (hs : ∀ c ∈ s, isDigit c = true) : valN s + 1 ≤ 10 ^ s.length := by
  have := valN_acc s 0 hs
  rw [Nat.zero_add, Nat.one_mul] at this
  exact this
theorem valN_snoc (s : List Nat) (c : Nat) : valN (s ++ [c]) = 10 * valN s + (c - 48) := by
  unfold valN
  rw [List.foldl_append]; rfl
theorem digit_range {c : Nat} (h : isDigit c = true) : 48 ≤ c ∧ c ≤ 57 := by
  unfold isDigit at h
  simp at h
  omega
set_option maxHeartbeats 1000000 in
theorem xN_ok {n tb : Nat} {t : Tk} {L : Sl} {s : St} {Q : Out → Prop} (h8 : Has L 8 (.int .i64 (n : Int))) (h11 : Has L 11 (.ptr tb 0)) (T : T5 s tb t) (hn : t.text.length = n) (hn2 : n ≤ 1000000) (hz : t.num = 0) (hd : ∀ c ∈ t.text, isDigit c = true) (hfr : s.fr = [])
    (hk : ∀ L' s', (∀ x v, x < 12 → Has L x v → Has L' x v) → s'.nx = s.nx → s'.fr = s.fr → (∀ x, x ≠ tb → hget s'.h x = hget s.h x) → T5 s' tb { t with num := valN (t.text.take (min n 8)) } → Q (.go L' s')) : wC Tryd.prog base xN L s Q := by
  unfold xN
  simp (disch := first | decide | assumption | omega) only [rRa, rRb, rRc, Bool.not_true, Bool.not_false, List.cons_append, List.nil_append, List.append_nil]
  refine wC_loopH (fun mm L' s' => ∃ k : Nat, k ≤ min n 8 ∧ mm = min n 8 - k ∧ s'.nx = s.nx ∧ s'.fr = s.fr ∧ (∀ x, x ≠ tb → hget s'.h x = hget s.h x) ∧ T5 s' tb { t with num := valN (t.text.take k) } ∧ (∀ x v, x < 12 → Has L x v → Has L' x v) ∧ Has L' 12 (.int .i64 (k : Int))) ?_ (min n 8) ?_
  · rintro mm L' s' ⟨k, hkk, rfl, e1, e2, e3, T', hL, i12⟩
    unfold Hold
    have j8 := hL 8 _ (by decide) h8
    have j11 := hL 11 _ (by decide) h11
    by_cases hlt : k < min n 8
    · have q1 : (k : Int) < (n : Int) := by omega
      have q2 : (k : Int) < 8 := by omega
      have hkl : k < t.text.length := by omega
      have eX : ∀ (s : St) (K : AV → St → Prop), onER (ixStrV (.str t.text) (.int .i64 (k : Int)) s) K = K (.int .u8 ((t.text.getD k 0 : Nat) : Int)) s := fun s K => qz37 hkl .i64
      have hdk : isDigit (t.text.getD k 0) = true := by
        rw [List.getD_eq_getElem?_getD, List.getElem?_eq_getElem hkl]
        exact hd _ (List.getElem_mem hkl)
      have hnext : valN (t.text.take (k + 1)) = 10 * valN (t.text.take k) + (t.text.getD k 0 - 48) := by
        rw [take_succ_getD hkl, valN_snoc]
      have hb : valN (t.text.take k) + 1 ≤ 10 ^ 8 := by
        refine Nat.le_trans (valN_bound fun c hc => hd c (List.mem_of_mem_take hc)) ?_
        exact Nat.pow_le_pow_right (by decide) (by rw [List.length_take]; omega)
      generalize t.text.getD k 0 = ch at eX hdk hnext
      generalize valN (t.text.take k) = v at T' hnext hb
      obtain ⟨d1, d2⟩ := digit_range hdk
      have d3 : ch < 256 := by omega
      have hv : v ≤ 99999999 := by omega
      have g1 : 1 < rlen s'.h tb := by rw [T'.len]; decide
      have g2 : 2 < rlen s'.h tb := by rw [T'.len]; decide
      have c1 : rat s'.h tb 1 = .str t.text := T'.c1
      have c2 : rat s'.h tb 2 = .int .i64 (v : Int) := T'.c2
      have sm := sameD g2 c2
      have eC : ∀ (s : St) (K : AV → St → Prop), onER (cvtV .i64 (.int .u8 ((ch - 48 : Nat) : Int)) s) K = K (.int .i64 ((ch - 48 : Nat) : Int)) s := fun s K => by
        simp only [cvtV, onER, wrapI_eq]
        rw [IntWalk.i64_in _ ⟨by omega, by omega⟩]
      have eA := fun (s : St) (K : AV → St → Prop) => v_addNN (a := 10 * v) (b := ch - 48) (by omega) s K
      simp (disch := first | decide | assumption | omega) only [r_onh j8, r_onh j11, r_onh i12, qz3k, qz3l, qz3m, qz3o, qz3p, qz3q, qz3r, qz3t, r_heldw6, Nat.zero_add, c1, c2, eX, eC, eA, sm, cond_true, true_and, v_mul10, v_sub48, rRa, rRb, rRc, Bool.not_true, Bool.not_false, List.cons_append, List.nil_append, List.append_nil]
      refine o_st1 g2 ⟨rfl, rfl, rfl⟩ fun s2 w => ?_
      have T2 : T5 s2 tb { t with num := valN (t.text.take (k + 1)) } := by
        have := T'.put2 (k := 10 * v + (ch - 48)) w
        rw [hnext]
        exact this
      have w1 := w.nx
      simp (disch := first | decide | assumption | omega) only [r_onh i12, qz3l, qz3p, qz3t, true_and, v_addN, rRa, rRb, rRc, Bool.not_true, Bool.not_false, List.cons_append, List.nil_append, List.append_nil]
      refine ⟨min n 8 - (k + 1), by omega, k + 1, by omega, rfl, by omega, w.fr.trans e2, fun x hx => (w.keep x hx).trans (e3 x hx), T2, fun x v hx h => ?_, Has.here _ _ _⟩
      exact ((hL x v hx h).there (by omega)).there (by omega)
    · have hk8 : k = min n 8 := by omega
      subst hk8
      by_cases q1 : ((min n 8 : Nat) : Int) < (n : Int)
      · have q2 : ¬ ((min n 8 : Nat) : Int) < 8 := by omega
        have q3 : (8 : Int) ≤ ((min n 8 : Nat) : Int) := by omega
        simp (disch := first | decide | assumption | omega) only [r_onh j8, r_onh i12, rRa, rRb, rRc, Bool.not_true, Bool.not_false, List.cons_append, List.nil_append, List.append_nil]
        exact hk _ s' (fun x v hx h => (hL x v hx h).there (by omega)) e1 e2 e3 T'
      · have q2 : (n : Int) ≤ ((min n 8 : Nat) : Int) := by omega
        simp (disch := first | decide | assumption | omega) only [r_onh j8, r_onh i12, rRa, rRb, rRc, Bool.not_true, Bool.not_false, List.cons_append, List.nil_append, List.append_nil]
        exact hk _ s' (fun x v hx h => (hL x v hx h).there (by omega)) e1 e2 e3 T'
  · refine ⟨0, Nat.zero_le _, rfl, rfl, rfl, fun _ _ => rfl, ?_, fun x v hx h => h.there (by omega), Has.here _ _ _⟩
    have e : valN (t.text.take 0) = t.num := by rw [hz]; rfl
    rw [e]
    exact T
end Go.Sy
end

section
set_option maxRecDepth 100000
namespace Go.Sy
open Go.Ev Go.Proofs
/-! ### blanks and remarks, byte by byte -/
/-- is a remark there, behind the look at a byte? -/
def rem2 (rm : Bool) : List Nat → Bool
  | [] => rm
  | c :: r => if c = 10 then false else if rm = false ∧ c = 47 ∧ r.head? = some 47 then true else rm
def skipR : Bool → List Nat → Nat
  | _, [] => 0
  | rm, c :: r => if (rem2 rm (c :: r) || isBlank c) = true then skipR (rem2 rm (c :: r)) r + 1 else 0
theorem rem2_cons (rm : Bool) (c : Nat) (r : List Nat) : rem2 rm (c :: r) = if c = 10 then false else if rm = false ∧ c = 47 ∧ r.head? = some 47 then true else rm := rfl
theorem skipR_cons (rm : Bool) (c : Nat) (r : List Nat) : skipR rm (c :: r) = if (rem2 rm (c :: r) || isBlank c) = true then skipR (rem2 rm (c :: r)) r + 1 else 0 := by rw [skipR]
theorem wordN_cons (x : Nat) (r : List Nat) : wordN (x :: r) = if isLetter x = true then lead isInner (x :: r) else if isDigit x = true then lead isDigit (x :: r) else signN (x :: r) := rfl
theorem skipR_true : ∀ r : List Nat, skipR true r = lead notEnd r + skipR false (r.drop (lead notEnd r))
  | [] => rfl
  | c :: r => by
    by_cases h : c = 10
    · subst h
      have h1 : lead notEnd (10 :: r) = 0 := rfl
      rw [h1, List.drop_zero, Nat.zero_add, skipR_cons, skipR_cons, rem2_cons, rem2_cons, if_pos rfl, if_pos rfl]
    · have h1 : rem2 true (c :: r) = true := by rw [rem2_cons, if_neg h, if_neg (by simp)]
      have h2 : lead notEnd (c :: r) = lead notEnd r + 1 := by
        have : notEnd c = true := by unfold notEnd; simp [h]
        simp only [lead, if_pos this]
      have h3 : skipR true (c :: r) = skipR true r + 1 := by
        rw [skipR_cons, h1, Bool.true_or, if_pos rfl]
      rw [h3, h2, skipR_true r, List.drop_succ_cons]
      omega
theorem skipR_blank : ∀ r : List Nat, skipR false r = lead isBlank r + skipR false (r.drop (lead isBlank r))
  | [] => rfl
  | c :: r => by
    by_cases h : isBlank c = true
    · have hc : c = 32 ∨ c = 9 ∨ c = 10 := by unfold isBlank at h; simp at h; omega
      have h1 : rem2 false (c :: r) = false := by
        rw [rem2_cons]
        by_cases h10 : c = 10
        · rw [if_pos h10]
        · rw [if_neg h10, if_neg (fun h => by have := h.2.1; omega)]
      have h2 : lead isBlank (c :: r) = lead isBlank r + 1 := by simp only [lead, if_pos h]
      have h3 : skipR false (c :: r) = skipR false r + 1 := by
        rw [skipR_cons, h1, h, Bool.or_true, if_pos rfl]
      rw [h3, h2, skipR_blank r, List.drop_succ_cons]
      omega
    · have h2 : lead isBlank (c :: r) = 0 := by simp only [lead, if_neg h]
      rw [h2, List.drop_zero, Nat.zero_add]
theorem skipR_gaps (k : Nat) : ∀ r : List Nat, r.length ≤ k → skipR false r = gaps r := by
  induction k with
  | zero =>
    intro r hr
    have : r = [] := List.eq_nil_of_length_eq_zero (by omega)
    subst this
    have hg := gaps_le ([] : List Nat)
    simp at hg
    rw [hg]; rfl
  | succ k ih =>
    intro r hr
    have hle := gap_le r
    have key : skipR false r = gap r + if gap r = 0 then 0 else skipR false (r.drop (gap r)) := by
      unfold gap
      by_cases hb : lead isBlank r = 0 ∧ begins [47, 47] r = true
      · rw [if_pos hb]
        have hr2 : r.take 2 = [47, 47] := of_decide_eq_true hb.2
        match r, hr2 with
        | x :: y :: r', hr2 =>
          obtain ⟨rfl, rfl⟩ : x = 47 ∧ y = 47 := by simpa using hr2
          have h2 : lead notEnd (47 :: 47 :: r') = lead notEnd (47 :: r') + 1 := rfl
          have h3 : skipR false (47 :: 47 :: r') = skipR true (47 :: r') + 1 := by
            have h4 : rem2 false (47 :: 47 :: r') = true := by
              rw [rem2_cons, if_neg (by decide), if_pos ⟨rfl, rfl, rfl⟩]
            rw [skipR_cons, h4, Bool.true_or, if_pos rfl]
          rw [h3, skipR_true, h2, if_neg (by omega), List.drop_succ_cons]
          omega
        | [], hr2 => simp at hr2
        | [x], hr2 => simp at hr2
      · rw [if_neg hb]
        by_cases h0 : lead isBlank r = 0
        · rw [h0, if_pos rfl]
          cases r with
          | nil => rfl
          | cons c r =>
            have hnb : ¬ isBlank c = true := fun h => by simp only [lead, if_pos h] at h0; omega
            have hnb' : isBlank c = false := by simpa using hnb
            have h1 : rem2 false (c :: r) = false := by
              rw [rem2_cons]
              by_cases h10 : c = 10
              · rw [if_pos h10]
              · rw [if_neg h10]
                refine if_neg fun h => hb ⟨h0, decide_eq_true ?_⟩
                obtain ⟨_, rfl, h⟩ := h
                cases r with
                | nil => simp at h
                | cons d r => simp at h; subst h; rfl
            rw [skipR_cons, h1, hnb']; rfl
        · rw [if_neg h0]; exact skipR_blank r
    by_cases h0 : gap r = 0
    · rw [key, gaps_0 h0, h0]; rfl
    · rw [key, gaps_1 h0, if_neg h0, ih _ (by rw [List.length_drop]; omega)]
/-! ### the next word, by its length -/
theorem next_zero {x : Nat} {r : List Nat} {p : Nat × Nat} (h : wordN (x :: r) = 0) : nextM (x :: r) p = (131, ⟨3, [], 0, p.1, p.2⟩, 0) := by
  rw [wordN_cons] at h
  unfold nextM
  simp only
  by_cases hL : isLetter x = true
  · rw [if_pos hL] at h
    have := lead_pos (p := isInner) (r := r) (show isInner x = true by unfold isInner; rw [hL]; rfl)
    omega
  · rw [if_neg hL] at h ⊢
    by_cases hD : isDigit x = true
    · rw [if_pos hD] at h
      have := lead_pos (p := isDigit) (r := r) hD
      omega
    · rw [if_neg hD] at h ⊢
      rw [if_pos h]
theorem next_letter {x : Nat} {r : List Nat} {p : Nat × Nat} (hL : isLetter x = true) : nextM (x :: r) p = if 32 < wordN (x :: r) then (132, ⟨1, [], 0, p.1, p.2⟩, 0) else (0, ⟨if kept ((x :: r).take (wordN (x :: r))) = true then 4 else 1, (x :: r).take (wordN (x :: r)), 0, p.1, p.2⟩, wordN (x :: r)) := by
  have e : wordN (x :: r) = lead isInner (x :: r) := if_pos hL
  rw [e]
  show (if isLetter x = true then _ else _) = _
  rw [if_pos hL]
theorem next_digit {x : Nat} {r : List Nat} {p : Nat × Nat} (hL : isLetter x = false) (hD : isDigit x = true) : nextM (x :: r) p = if 7 < wordN (x :: r) ∨ 1000000 < valN ((x :: r).take (wordN (x :: r))) then (132, ⟨2, [], 0, p.1, p.2⟩, 0) else (0, ⟨2, (x :: r).take (wordN (x :: r)), valN ((x :: r).take (wordN (x :: r))), p.1, p.2⟩, wordN (x :: r)) := by
  have e : wordN (x :: r) = lead isDigit (x :: r) := by
    rw [wordN_cons, if_neg (by rw [hL]; decide), if_pos hD]
  rw [e]
  show (if isLetter x = true then _ else if isDigit x = true then _ else _) = _
  rw [if_neg (by rw [hL]; decide), if_pos hD]
theorem next_sign {x : Nat} {r : List Nat} {p : Nat × Nat} (hL : isLetter x = false) (hD : isDigit x = false) (hn : wordN (x :: r) ≠ 0) : nextM (x :: r) p = (0, ⟨3, (x :: r).take (wordN (x :: r)), 0, p.1, p.2⟩, wordN (x :: r)) := by
  have e : wordN (x :: r) = signN (x :: r) := by
    rw [wordN_cons, if_neg (by rw [hL]; decide), if_neg (by rw [hD]; decide)]
  rw [e] at hn ⊢
  show (if isLetter x = true then _ else if isDigit x = true then _ else _) = _
  rw [if_neg (by rw [hL]; decide), if_neg (by rw [hD]; decide)]
  simp only
  rw [if_neg hn]
theorem letter_not_digit {c : Nat} (h : isLetter c = true) : isDigit c = false := by
  unfold isLetter at h
  unfold isDigit
  simp at h ⊢
  omega
theorem wordN_digits {x : Nat} {r : List Nat} (hL : isLetter x = false) (hD : isDigit x = true) : ∀ c ∈ (x :: r).take (wordN (x :: r)), isDigit c = true := by
  have e : wordN (x :: r) = lead isDigit (x :: r) := by
    rw [wordN_cons, if_neg (by rw [hL]; decide), if_pos hD]
  rw [e]
  exact lead_run isDigit _
theorem wordN_le (r : List Nat) : wordN r ≤ r.length := by
  cases r with
  | nil => exact Nat.le_refl _
  | cons x r =>
    rw [wordN_cons]
    split
    · exact lead_le _ _
    · split
      · exact lead_le _ _
      · exact signN_le _
end Go.Sy
end

section
set_option maxRecDepth 100000
namespace Go.Sy
open Go.Ev Go.Proofs
/-! ### a text behind another one: what stands between -/
def Sep (c : Nat) : Prop := c = 10 ∨ c = 32
theorem sep_sign : ∀ x ∈ signsR, 10 ∉ x ∧ 32 ∉ x := by decide
theorem refSign_succ (r : List Nat) (k : Nat) : refSign r (k + 1) = if k + 1 ≤ r.length ∧ r.take (k + 1) ∈ signsR then k + 1 else refSign r k := rfl
theorem refSign_sep {c : Nat} (hc : Sep c) (r t : List Nat) : ∀ k, refSign (r ++ c :: t) k = refSign r k
  | 0 => rfl
  | k + 1 => by
    rw [refSign_succ, refSign_succ, refSign_sep hc r t k]
    by_cases h : k + 1 ≤ r.length
    · have h' : k + 1 ≤ (r ++ c :: t).length := by rw [List.length_append]; omega
      rw [List.take_append_of_le_length h]
      simp only [h, h', true_and]
    · have hn : (r ++ c :: t).take (k + 1) ∉ signsR := by
        intro hm
        obtain ⟨h1, h2⟩ := sep_sign _ hm
        have hin : c ∈ (r ++ c :: t).take (k + 1) := by
          obtain ⟨j, hj⟩ : ∃ j, k + 1 - r.length = j + 1 := ⟨k - r.length, by omega⟩
          rw [List.take_append, hj, List.take_succ_cons]
          simp
        rcases hc with rfl | rfl
        · exact h1 hin
        · exact h2 hin
      rw [if_neg (fun h' => hn h'.2), if_neg (fun h' => h h'.1)]
theorem signN_sep {c : Nat} (hc : Sep c) (r t : List Nat) : signN (r ++ c :: t) = signN r := by rw [← refSign_eq, ← refSign_eq, refSign_sep hc]
theorem lead_sep {p : Nat → Bool} {c : Nat} (hc : p c = false) (t : List Nat) : ∀ r, lead p (r ++ c :: t) = lead p r
  | [] => by simp [lead, hc]
  | x :: r => by
    show (if p x = true then lead p (r ++ c :: t) + 1 else 0) = if p x = true then lead p r + 1 else 0
    rw [lead_sep hc t r]
theorem sep_inner {c : Nat} (hc : Sep c) : isInner c = false ∧ isDigit c = false := by
  rcases hc with rfl | rfl <;> decide
theorem wordN_sep {c : Nat} (hc : Sep c) (x : Nat) (r t : List Nat) : wordN (x :: (r ++ c :: t)) = wordN (x :: r) := by
  have e1 : lead isInner (x :: (r ++ c :: t)) = lead isInner (x :: r) := lead_sep (sep_inner hc).1 t (x :: r)
  have e2 : lead isDigit (x :: (r ++ c :: t)) = lead isDigit (x :: r) := lead_sep (sep_inner hc).2 t (x :: r)
  have e3 : signN (x :: (r ++ c :: t)) = signN (x :: r) := signN_sep hc (x :: r) t
  rw [wordN_cons, wordN_cons, e1, e2, e3]
theorem nextM_sep {c : Nat} (hc : Sep c) {r : List Nat} (hr : r ≠ []) (t : List Nat) (p : Nat × Nat) : nextM (r ++ c :: t) p = nextM r p := by
  cases r with
  | nil => exact absurd rfl hr
  | cons x r =>
    have ew := wordN_sep hc x r t
    have le := wordN_le (x :: r)
    have et : (x :: (r ++ c :: t)).take (wordN (x :: r)) = (x :: r).take (wordN (x :: r)) := List.take_append_of_le_length (l₁ := x :: r) le
    show nextM (x :: (r ++ c :: t)) p = _
    cases hL : isLetter x with
    | true => rw [next_letter hL, next_letter hL, ew, et]
    | false =>
      cases hD : isDigit x with
      | true => rw [next_digit hL hD, next_digit hL hD, ew, et]
      | false =>
        by_cases hn : wordN (x :: r) = 0
        · rw [next_zero hn, next_zero (ew.trans hn)]
        · rw [next_sign hL hD hn, next_sign hL hD (by rw [ew]; exact hn), ew, et]
/-! ### a word by itself -/
theorem lead_take (p : Nat → Bool) : ∀ l, lead p (l.take (lead p l)) = lead p l
  | [] => rfl
  | x :: l => by
    by_cases h : p x = true
    · have e : lead p (x :: l) = lead p l + 1 := if_pos h
      rw [e, List.take_succ_cons]
      show (if p x = true then lead p (l.take (lead p l)) + 1 else 0) = _
      rw [if_pos h, lead_take p l]
    · have e : lead p (x :: l) = 0 := if_neg h
      rw [e]; rfl
theorem refSign_le (r : List Nat) : ∀ k, refSign r k ≤ k
  | 0 => Nat.le_refl _
  | k + 1 => by
    rw [refSign_succ]
    have := refSign_le r k
    split <;> omega
theorem refSign_mem {r : List Nat} : ∀ {k}, refSign r k ≠ 0 → refSign r k ≤ r.length ∧ r.take (refSign r k) ∈ signsR
  | 0, h => absurd rfl h
  | k + 1, h => by
    rw [refSign_succ] at h ⊢
    by_cases hc : k + 1 ≤ r.length ∧ r.take (k + 1) ∈ signsR
    · rw [if_pos hc]; exact hc
    · rw [if_neg hc] at h ⊢; exact refSign_mem h
theorem refSign_at {r : List Nat} {n : Nat} (hn : n ≠ 0) (hl : r.length = n) (hm : r ∈ signsR) : ∀ k, n ≤ k → refSign r k = n
  | 0, h => by omega
  | k + 1, h => by
    rw [refSign_succ]
    by_cases hk : n = k + 1
    · rw [if_pos ⟨by omega, by rw [List.take_of_length_le (by omega)]; exact hm⟩, hk]
    · rw [if_neg (fun h' => by omega)]
      exact refSign_at hn hl hm k (by omega)
theorem signN_take {r : List Nat} (h : signN r ≠ 0) : signN (r.take (signN r)) = signN r := by
  have e := refSign_eq r
  rw [← e] at h ⊢
  obtain ⟨h1, h2⟩ := refSign_mem h
  rw [← refSign_eq]
  exact refSign_at h (by rw [List.length_take]; omega) h2 3 (refSign_le r 3)
theorem nextM_n {x : Nat} {r : List Nat} {p : Nat × Nat} {t : Tk} {n : Nat} (h : nextM (x :: r) p = (0, t, n)) : n = wordN (x :: r) ∧ n ≠ 0 := by
  by_cases hn : wordN (x :: r) = 0
  · rw [next_zero hn] at h
    simp at h
  · cases hL : isLetter x with
    | true =>
      rw [next_letter hL] at h
      split at h
      · simp at h
      · simp only [Prod.mk.injEq] at h; omega
    | false =>
      cases hD : isDigit x with
      | true =>
        rw [next_digit hL hD] at h
        split at h
        · simp at h
        · simp only [Prod.mk.injEq] at h; omega
      | false =>
        rw [next_sign hL hD hn] at h
        simp only [Prod.mk.injEq] at h; omega
theorem wordN_take {x : Nat} {r : List Nat} (h : wordN (x :: r) ≠ 0) : wordN (x :: r.take (wordN (x :: r) - 1)) = wordN (x :: r) ∧ (x :: r).take (wordN (x :: r)) = x :: r.take (wordN (x :: r) - 1) := by
  obtain ⟨j, hj⟩ : ∃ j, wordN (x :: r) = j + 1 := ⟨wordN (x :: r) - 1, by omega⟩
  have et : (x :: r).take (j + 1) = x :: r.take j := List.take_succ_cons
  rw [hj]
  refine ⟨?_, et⟩
  rw [Nat.add_sub_cancel, wordN_cons, ← et]
  rw [wordN_cons] at hj
  by_cases hL : isLetter x = true
  · rw [if_pos hL] at hj ⊢
    rw [← hj, lead_take]
  · rw [if_neg hL] at hj ⊢
    by_cases hD : isDigit x = true
    · rw [if_pos hD] at hj ⊢
      rw [← hj, lead_take]
    · rw [if_neg hD] at hj ⊢
      rw [← hj, signN_take (by omega)]
/-- a word by itself is that word -/
theorem nextM_take {r : List Nat} {p q : Nat × Nat} {t : Tk} {n : Nat} (h : nextM r p = (0, t, n)) (hn : n ≠ 0) : nextM (r.take n) q = (0, { t with line := q.1, col := q.2 }, n) ∧ t.text = r.take n := by
  cases r with
  | nil => simp [nextM] at h; omega
  | cons x r =>
    obtain ⟨h1, h2⟩ := nextM_n h
    subst h1
    obtain ⟨e1, e2⟩ := wordN_take h2
    have e3 : (x :: r.take (wordN (x :: r) - 1)).take (wordN (x :: r)) = (x :: r).take (wordN (x :: r)) := by
      rw [← e2, List.take_take, Nat.min_self]
    rw [e2]
    cases hL : isLetter x with
    | true =>
      rw [next_letter hL] at h
      rw [next_letter hL, e1, e3]
      split at h
      · simp at h
      · rename_i h32
        rw [if_neg h32]
        simp only [Prod.mk.injEq, true_and, and_true] at h
        rw [← h]
        exact ⟨rfl, e2⟩
    | false =>
      cases hD : isDigit x with
      | true =>
        rw [next_digit hL hD] at h
        rw [next_digit hL hD, e1, e3]
        split at h
        · simp at h
        · rename_i h32
          rw [if_neg h32]
          simp only [Prod.mk.injEq, true_and, and_true] at h
          rw [← h]
          exact ⟨rfl, e2⟩
      | false =>
        rw [next_sign hL hD h2] at h
        rw [next_sign hL hD (by rw [e1]; exact h2), e1, e3]
        simp only [Prod.mk.injEq, true_and, and_true] at h
        rw [← h]
        exact ⟨rfl, e2⟩
theorem sign_head : ∀ x ∈ signsR, ∀ c ∈ x.head?, isBlank c = false ∧ c ≠ 47 := by decide
/-- a word begins with no blank -/
theorem nextM_head {x : Nat} {r : List Nat} {p : Nat × Nat} {t : Tk} {n : Nat} (h : nextM (x :: r) p = (0, t, n)) : isBlank x = false ∧ x ≠ 47 := by
  obtain ⟨h1, h2⟩ := nextM_n h
  subst h1
  rw [wordN_cons] at h2
  by_cases hL : isLetter x = true
  · unfold isLetter at hL
    unfold isBlank
    simp at hL ⊢
    omega
  · rw [if_neg hL] at h2
    by_cases hD : isDigit x = true
    · unfold isDigit at hD
      unfold isBlank
      simp at hD ⊢
      omega
    · rw [if_neg hD, ← refSign_eq] at h2
      obtain ⟨_, hm⟩ := refSign_mem h2
      obtain ⟨j, hj⟩ : ∃ j, refSign (x :: r) 3 = j + 1 := ⟨refSign (x :: r) 3 - 1, by omega⟩
      rw [hj, List.take_succ_cons] at hm
      exact sign_head _ hm x rfl
theorem gaps_word {x : Nat} {r : List Nat} (h : isBlank x = false ∧ x ≠ 47) : gaps (x :: r) = 0 := by
  have h10 : x ≠ 10 := fun e => by rw [e] at h; exact absurd h.1 (by decide)
  have e : rem2 false (x :: r) = false := by rw [rem2_cons, if_neg h10, if_neg (fun h' => h.2 h'.2.1)]
  rw [← skipR_gaps _ _ (Nat.le_refl _), skipR_cons, e, h.1]
  rfl
theorem gaps_32 (r : List Nat) : gaps (32 :: r) = gaps r + 1 := by
  rw [← skipR_gaps _ _ (Nat.le_refl _), ← skipR_gaps _ _ (Nat.le_refl _), skipR_cons]
  rfl
end Go.Sy
end

section
set_option maxRecDepth 100000
namespace Go.Sy
open Go.Ev Go.Proofs
/-! ### cutM by steps -/
theorem cutM_gap {x y : List Nat} {p q : Nat × Nat} (h1 : x.drop (gaps x) = y.drop (gaps y)) (h2 : walkP p (x.take (gaps x)) = walkP q (y.take (gaps y))) : cutM x p = cutM y q := by
  generalize hx : nextM (x.drop (gaps x)) (walkP p (x.take (gaps x))) = z
  obtain ⟨e, t, n⟩ := z
  have hy : nextM (y.drop (gaps y)) (walkP q (y.take (gaps y))) = (e, t, n) := by rw [← h1, ← h2]; exact hx
  rw [cutM_eq x p hx, cutM_eq y q hy, h1, h2]
theorem ahead_ahead (a b : List Tk) (q : List Tk × (Nat × Nat × Nat)) : ahead a (ahead b q) = ahead (a ++ b) q := by
  unfold ahead
  by_cases h : q.2.1 ≠ 0
  · rw [if_pos h, if_pos h]; simp [h]
  · rw [if_neg h, if_neg h]
    rw [if_neg h]
    simp
/-- a text without a fault: its first word and the rest -/
theorem cutM_cons {r : List Nat} {p : Nat × Nat} {ts : List Tk} (h : cutM r p = (ts, (0, 0, 0))) :
    ∃ t n, nextM (r.drop (gaps r)) (walkP p (r.take (gaps r))) = (0, t, n) ∧ ((n = 0 ∧ ts = [t] ∧ gaps r = r.length) ∨ (n ≠ 0 ∧ n ≤ r.length - gaps r ∧ gaps r < r.length ∧ ∃ ts', ts = t :: ts' ∧
      cutM ((r.drop (gaps r)).drop n) (walkP (walkP p (r.take (gaps r))) ((r.drop (gaps r)).take n)) = (ts', (0, 0, 0)))) := by
  generalize hx : nextM (r.drop (gaps r)) (walkP p (r.take (gaps r))) = x
  obtain ⟨e, t, n⟩ := x
  rw [cutM_eq r p hx] at h
  have hg := gaps_le r
  by_cases he : e ≠ 0
  · rw [if_pos he] at h
    simp only [Prod.mk.injEq] at h
    exact absurd h.2.1 he
  · rw [if_neg he] at h
    have he' : e = 0 := by omega
    subst he'
    refine ⟨t, n, rfl, ?_⟩
    obtain ⟨_, hz⟩ := nextM_kind hx
    by_cases hn : n = 0
    · rw [if_pos hn] at h
      have := hz.1 hn
      rw [List.drop_eq_nil_iff] at this
      exact .inl ⟨hn, (Prod.mk.inj h).1.symm, by omega⟩
    · rw [if_neg hn] at h
      have hle := nextM_le hx
      rw [List.length_drop] at hle
      refine .inr ⟨hn, hle, by omega, ?_⟩
      generalize cutM ((r.drop (gaps r)).drop n) (walkP (walkP p (r.take (gaps r))) ((r.drop (gaps r)).take n)) = q at *
      by_cases hq : q.2.1 ≠ 0
      · rw [if_pos hq] at h
        simp only [Prod.mk.injEq] at h
        exact absurd (by rw [h.2]) hq
      · rw [if_neg hq] at h
        obtain ⟨h1, h2⟩ := Prod.mk.inj h
        exact ⟨q.1, h1.symm, by rw [← h2]⟩
/-- what a word is, wherever it stands -/
def Wd (t : Tk) : Prop := ∃ r p n, nextM r p = (0, t, n) ∧ n ≠ 0
theorem walk_rest (r : List Nat) (p : Nat × Nat) (g n : Nat) : walkP (walkP (walkP p (r.take g)) ((r.drop g).take n)) ((r.drop g).drop n) = walkP p r := by
  rw [← walkP_app, ← walkP_app, List.take_append_drop, List.take_append_drop]
theorem cutM_words (k : Nat) : ∀ (r : List Nat) (p : Nat × Nat) (ts : List Tk), r.length ≤ k → cutM r p = (ts, (0, 0, 0)) →
    ∃ ws, ts = ws ++ [⟨5, [], 0, (walkP p r).1, (walkP p r).2⟩] ∧ ∀ w ∈ ws, Wd w := by
  induction k with
  | zero =>
    intro r p ts hr h
    obtain ⟨t, n, hx, ⟨hn, rfl, hg⟩ | ⟨hn, h1, h2, _⟩⟩ := cutM_cons h
    · refine ⟨[], ?_, fun w hw => by simp at hw⟩
      rw [hg, List.drop_length, List.take_length] at hx
      simp only [nextM, Prod.mk.injEq] at hx
      rw [← hx.2.1]; rfl
    · omega
  | succ k ih =>
    intro r p ts hr h
    obtain ⟨t, n, hx, ⟨hn, rfl, hg⟩ | ⟨hn, h1, h2, ts', rfl, h3⟩⟩ := cutM_cons h
    · refine ⟨[], ?_, fun w hw => by simp at hw⟩
      rw [hg, List.drop_length, List.take_length] at hx
      simp only [nextM, Prod.mk.injEq] at hx
      rw [← hx.2.1]; rfl
    · obtain ⟨ws, rfl, hw⟩ := ih _ _ _ (by rw [List.length_drop, List.length_drop]; omega) h3
      rw [walk_rest]
      refine ⟨t :: ws, rfl, fun w hm => ?_⟩
      rcases List.mem_cons.1 hm with rfl | hm
      · exact ⟨_, _, n, hx, hn⟩
      · exact hw w hm
/-! ### a line further -/
def shiftT (L : Nat) (t : Tk) : Tk := { t with line := t.line + L }
theorem walkP_shift (L : Nat) (l : List Nat) : ∀ p : Nat × Nat, walkP (p.1 + L, p.2) l = ((walkP p l).1 + L, (walkP p l).2) := by
  induction l with
  | nil => exact fun p => rfl
  | cons x l ih =>
    intro p
    have e : stepP (p.1 + L, p.2) x = ((stepP p x).1 + L, (stepP p x).2) := by
      unfold stepP
      by_cases h : x = 10
      · rw [if_pos h, if_pos h]; simp; omega
      · rw [if_neg h, if_neg h]
    show walkP (stepP (p.1 + L, p.2) x) l = ((walkP (stepP p x) l).1 + L, (walkP (stepP p x) l).2)
    rw [e]
    exact ih (stepP p x)
theorem nextM_shift {r : List Nat} {p : Nat × Nat} {t : Tk} {n : Nat} (L : Nat) (h : nextM r p = (0, t, n)) : nextM r (p.1 + L, p.2) = (0, shiftT L t, n) := by
  cases r with
  | nil =>
    simp only [nextM, Prod.mk.injEq, true_and] at h
    rw [← h.1, ← h.2]; rfl
  | cons x r =>
    obtain ⟨h1, h2⟩ := nextM_n h
    subst h1
    cases hL : isLetter x with
    | true =>
      rw [next_letter hL] at h ⊢
      split at h
      · simp at h
      · rename_i h32
        rw [if_neg h32]
        simp only [Prod.mk.injEq, true_and, and_true] at h
        rw [← h]; rfl
    | false =>
      cases hD : isDigit x with
      | true =>
        rw [next_digit hL hD] at h ⊢
        split at h
        · simp at h
        · rename_i h32
          rw [if_neg h32]
          simp only [Prod.mk.injEq, true_and, and_true] at h
          rw [← h]; rfl
      | false =>
        rw [next_sign hL hD h2] at h ⊢
        simp only [Prod.mk.injEq, true_and, and_true] at h
        rw [← h]; rfl
theorem cutM_end {r : List Nat} {p : Nat × Nat} {t : Tk} (h : nextM (r.drop (gaps r)) (walkP p (r.take (gaps r))) = (0, t, 0)) : cutM r p = ([t], (0, 0, 0)) := by
  rw [cutM_eq r p h, if_neg (by decide), if_pos rfl]
theorem cutM_more {r : List Nat} {p : Nat × Nat} {n : Nat} {t : Tk} (h : nextM (r.drop (gaps r)) (walkP p (r.take (gaps r))) = (0, t, n)) (hn : n ≠ 0) :
    cutM r p = ahead [t] (cutM ((r.drop (gaps r)).drop n) (walkP (walkP p (r.take (gaps r))) ((r.drop (gaps r)).take n))) := by
  have := ahead_more (acc := []) h hn
  rw [ahead_nil] at this
  exact this
theorem ahead_ok (a ts : List Tk) : ahead a (ts, (0, 0, 0)) = (a ++ ts, (0, 0, 0)) := rfl
theorem cutM_shift (L : Nat) (k : Nat) : ∀ (r : List Nat) (p : Nat × Nat) (ts : List Tk), r.length ≤ k → cutM r p = (ts, (0, 0, 0)) → cutM r (p.1 + L, p.2) = (ts.map (shiftT L), (0, 0, 0)) := by
  induction k with
  | zero =>
    intro r p ts hr h
    obtain ⟨t, n, hx, ⟨hn, rfl, hg⟩ | ⟨hn, h1, h2, _⟩⟩ := cutM_cons h
    · subst hn
      refine cutM_end ?_
      rw [walkP_shift]
      exact nextM_shift L hx
    · omega
  | succ k ih =>
    intro r p ts hr h
    obtain ⟨t, n, hx, ⟨hn, rfl, hg⟩ | ⟨hn, h1, h2, ts', rfl, h3⟩⟩ := cutM_cons h
    · subst hn
      refine cutM_end ?_
      rw [walkP_shift]
      exact nextM_shift L hx
    · have := ih _ _ _ (by rw [List.length_drop, List.length_drop]; omega) h3
      rw [cutM_more (t := shiftT L t) (by rw [walkP_shift]; exact nextM_shift L hx) hn, walkP_shift, walkP_shift, this, ahead_ok]
      rfl
/-! ### a line end between two texts -/
theorem skipR_le : ∀ (r : List Nat) (rm : Bool), skipR rm r ≤ r.length
  | [], _ => Nat.le_refl _
  | x :: r, rm => by
    rw [skipR_cons]
    have := skipR_le r (rem2 rm (x :: r))
    split
    · rw [List.length_cons]; omega
    · omega
theorem skipR_app (t : List Nat) : ∀ (r : List Nat) (rm : Bool), (skipR rm r < r.length → skipR rm (r ++ 10 :: t) = skipR rm r) ∧ (skipR rm r = r.length → skipR rm (r ++ 10 :: t) = r.length + 1 + skipR false t)
  | [], rm => by
    refine ⟨fun h => absurd h (Nat.not_lt_zero _), fun _ => ?_⟩
    show skipR rm (10 :: t) = _
    have e : rem2 rm (10 :: t) = false := rfl
    rw [skipR_cons, e]
    show skipR false t + 1 = 0 + 1 + skipR false t
    omega
  | x :: r, rm => by
    have er : rem2 rm (x :: (r ++ 10 :: t)) = rem2 rm (x :: r) := by
      rw [rem2_cons, rem2_cons]
      cases r with
      | nil => simp
      | cons y r => rfl
    obtain ⟨i1, i2⟩ := skipR_app t r (rem2 rm (x :: r))
    have hle := skipR_le r (rem2 rm (x :: r))
    show (_ → skipR rm (x :: (r ++ 10 :: t)) = _) ∧ (_ → skipR rm (x :: (r ++ 10 :: t)) = _)
    rw [skipR_cons, skipR_cons, er, List.length_cons]
    by_cases hc : (rem2 rm (x :: r) || isBlank x) = true
    · rw [if_pos hc, if_pos hc]
      exact ⟨fun h => by rw [i1 (by omega)], fun h => by rw [i2 (by omega)]; omega⟩
    · rw [if_neg hc, if_neg hc]
      exact ⟨fun _ => rfl, fun h => by omega⟩
theorem gaps_app (r t : List Nat) : (gaps r < r.length → gaps (r ++ 10 :: t) = gaps r) ∧ (gaps r = r.length → gaps (r ++ 10 :: t) = r.length + 1 + gaps t) := by
  rw [← skipR_gaps _ r (Nat.le_refl _), ← skipR_gaps _ (r ++ 10 :: t) (Nat.le_refl _), ← skipR_gaps _ t (Nat.le_refl _)]
  exact skipR_app t r false
theorem cutM_app (t : List Nat) (k : Nat) : ∀ (r : List Nat) (p : Nat × Nat) (ts : List Tk), r.length ≤ k → cutM r p = (ts, (0, 0, 0)) → cutM (r ++ 10 :: t) p = ahead ts.dropLast (cutM t (stepP (walkP p r) 10)) := by
  have fin : ∀ (r : List Nat) (p : Nat × Nat), gaps r = r.length → cutM (r ++ 10 :: t) p = cutM t (stepP (walkP p r) 10) := fun r p hg => by
    have e := (gaps_app r t).2 hg
    have e1 : r ++ 10 :: t = (r ++ [10]) ++ t := by simp
    have e2 : (r ++ [10]).length = r.length + 1 := by simp
    refine cutM_gap ?_ ?_
    · rw [e, e1, ← List.drop_drop, ← e2, List.drop_left]
    · rw [e, e1, ← e2, List.take_length_add_append, walkP_app, walkP_app]
      rfl
  induction k with
  | zero =>
    intro r p ts hr h
    obtain ⟨t', n, hx, ⟨hn, rfl, hg⟩ | ⟨hn, h1, h2, _⟩⟩ := cutM_cons h
    · rw [fin r p hg]; exact (ahead_nil _ _).symm
    · omega
  | succ k ih =>
    intro r p ts hr h
    obtain ⟨t', n, hx, ⟨hn, rfl, hg⟩ | ⟨hn, h1, h2, ts', rfl, h3⟩⟩ := cutM_cons h
    · rw [fin r p hg]; exact (ahead_nil _ _).symm
    · have e := (gaps_app r t).1 h2
      have hd : (r ++ 10 :: t).drop (gaps r) = r.drop (gaps r) ++ 10 :: t := List.drop_append_of_le_length (by omega)
      have ht : (r ++ 10 :: t).take (gaps r) = r.take (gaps r) := List.take_append_of_le_length (by omega)
      have hne : r.drop (gaps r) ≠ [] := by rw [Ne, List.drop_eq_nil_iff]; omega
      have hdl : (r.drop (gaps r)).length = r.length - gaps r := List.length_drop
      have hx' : nextM ((r ++ 10 :: t).drop (gaps (r ++ 10 :: t))) (walkP p ((r ++ 10 :: t).take (gaps (r ++ 10 :: t)))) = (0, t', n) := by
        rw [e, hd, ht, nextM_sep (.inl rfl) hne]; exact hx
      rw [cutM_more hx' hn, e, hd, ht]
      rw [List.drop_append_of_le_length (by omega), List.take_append_of_le_length (by omega)]
      rw [ih _ _ _ (by rw [List.length_drop, List.length_drop]; omega) h3, walk_rest, ahead_ahead]
      congr 1
      have hne' : ts' ≠ [] := by
        obtain ⟨ws, rfl, _⟩ := cutM_words _ _ _ _ (Nat.le_refl _) h3
        simp
      cases ts' with
      | nil => exact absurd rfl hne'
      | cons a l => rfl
/-! ### the words' texts, with a blank behind each -/
def agn (ts : List Tk) : List Nat := (ts.map fun t => t.text ++ [32]).flatten
def core (t : Tk) : Nat × List Nat × Nat := (t.kind, t.text, t.num)
theorem cut_agn (k : Nat) : ∀ (ws : List Tk) (pre : List Nat) (q : Nat × Nat), ws.length ≤ k → (∀ w ∈ ws, Wd w) → pre = [] ∨ pre = [32] → ∃ cs, cutM (pre ++ (agn ws ++ [32])) q = (cs, (0, 0, 0)) ∧ cs.map core = ws.map core ++ [(5, [], 0)] := by
  have pg : ∀ (pre x : List Nat), pre = [] ∨ pre = [32] → gaps (pre ++ x) = pre.length + gaps x := fun pre x h => by
    rcases h with rfl | rfl
    · simp
    · show gaps (32 :: x) = 1 + gaps x
      rw [gaps_32]; omega
  induction k with
  | zero =>
    intro ws pre q hl hw hp
    have : ws = [] := List.eq_nil_of_length_eq_zero (by omega)
    subst this
    have e : gaps (pre ++ (agn [] ++ [32])) = (pre ++ (agn [] ++ [32])).length := by
      rw [pg _ _ hp]
      show pre.length + gaps [32] = _
      have : gaps [32] = 1 := by
        rw [gaps_32]
        have := gaps_le ([] : List Nat)
        simp at this
        omega
      rw [this]; simp [agn]
    refine ⟨[⟨5, [], 0, (walkP q (pre ++ (agn [] ++ [32]))).1, (walkP q (pre ++ (agn [] ++ [32]))).2⟩], cutM_end ?_, rfl⟩
    rw [e, List.drop_length, List.take_length]; rfl
  | succ k ih =>
    intro ws pre q hl hw hp
    cases ws with
    | nil => exact ih [] pre q (Nat.zero_le _) hw hp
    | cons w ws =>
      obtain ⟨r, p, n, hx, hn⟩ := hw w (by simp)
      generalize hY : agn ws ++ [32] = Y at *
      have eX : pre ++ (agn (w :: ws) ++ [32]) = pre ++ (w.text ++ 32 :: Y) := by
        rw [← hY]
        show pre ++ ((w.text ++ [32]) ++ agn ws ++ [32]) = _
        simp
      obtain ⟨_, ht⟩ := nextM_take (q := (1, 1)) hx hn
      have hle := nextM_le hx
      have htl : w.text.length = n := by rw [ht, List.length_take]; omega
      have hne : w.text ≠ [] := fun h => by rw [h] at htl; exact hn htl.symm
      have hg0 : gaps (w.text ++ 32 :: Y) = 0 := by
        have hx2 := (nextM_take (q := (1, 1)) hx hn).1
        rw [← ht] at hx2
        cases hc : w.text with
        | nil => exact absurd hc hne
        | cons c l =>
          rw [hc] at hx2
          exact gaps_word (nextM_head hx2)
      have hg : gaps (pre ++ (w.text ++ 32 :: Y)) = pre.length := by rw [pg _ _ hp, hg0]; rfl
      have hx3 : ∀ q' : Nat × Nat, nextM (w.text ++ 32 :: Y) q' = (0, { w with line := q'.1, col := q'.2 }, n) := fun q' => by
        rw [nextM_sep (.inr rfl) hne]
        have := (nextM_take (q := q') hx hn).1
        rw [← ht] at this
        exact this
      rw [eX]
      have hx4 : nextM ((pre ++ (w.text ++ 32 :: Y)).drop (gaps (pre ++ (w.text ++ 32 :: Y)))) (walkP q ((pre ++ (w.text ++ 32 :: Y)).take (gaps (pre ++ (w.text ++ 32 :: Y))))) = (0, { w with line := (walkP q pre).1, col := (walkP q pre).2 }, n) := by
        rw [hg, List.drop_left, List.take_left]; exact hx3 _
      rw [cutM_more hx4 hn, hg, List.drop_left, List.take_left]
      have hd : (w.text ++ 32 :: Y).drop n = [32] ++ Y := by rw [← htl, List.drop_left]; rfl
      rw [hd]
      obtain ⟨cs, h1, h2⟩ := ih ws [32] (walkP (walkP q pre) ((w.text ++ 32 :: Y).take n)) (by simp at hl; omega) (fun w' hw' => hw w' (by simp [hw'])) (.inr rfl)
      rw [hY] at h1
      rw [h1, ahead_ok]
      refine ⟨_, rfl, ?_⟩
      rw [List.map_append, h2]
      rfl
end Go.Sy
end

section
set_option maxRecDepth 100000
namespace Go.Sy
open Go.Ev Go.Proofs
def b5 : Cmd := (.seq (.ops [⟨(some 4), true, none, (.i (.mv (.c (.bool false))))⟩]) (.seq (.seq (.ops [⟨(some 21), false, none, (.call (.c (.fn 9 [])) [])⟩, ⟨(some 22), true, none, (.i (.un .not (.t 21)))⟩]) (.cond (.t 22) (.seq (.ops [⟨(some 4), true, none, (.i (.mv (.c (.bool false))))⟩]) .ret) .skip)) (.seq (.seq (.ops [⟨(some 23), false, none, (.i (.mv (.t 0)))⟩, ⟨(some 24), false, none, (.i (.lenS (.t 23)))⟩, ⟨(some 25), false, none, (.i (.bin .gtr (.t 24) (.c (.int .i64 4000))))⟩, ⟨(some 26), false, none, (.i (.mv (.t 25)))⟩, ⟨(some 27), false, (some (26, false)), (.i (.mv (.t 1)))⟩, ⟨(some 28), false, (some (26, false)), (.i (.lenS (.t 27)))⟩, ⟨(some 29), false, (some (26, false)), (.i (.bin .gtr (.t 28) (.c (.int .i64 4000))))⟩, ⟨(some 30), true, none, (.i (.pick (.t 26) (.c (.bool true)) (.t 29)))⟩]) (.cond (.t 30) (.seq (.ops [⟨(some 4), true, none, (.i (.mv (.c (.bool true))))⟩]) .ret) .skip)) (.seq (.ops [⟨(some 32), false, none, (.i (.mv (.t 0)))⟩, ⟨(some 33), false, none, (.call (.c (.fn 8 [])) [(.t 32)])⟩, ⟨(some 31), false, none, (.i (.mv (.t 33)))⟩, ⟨(some 34), false, none, (.i (.ext (.t 31) 0))⟩, ⟨(some 35), false, none, (.i (.ext (.t 31) 1))⟩, ⟨(some 6), true, none, (.i (.alloc [(.int .i64 0), (.int .i64 0), (.int .i64 0)]))⟩, ⟨(some 5), true, none, (.i (.mv (.t 34)))⟩, ⟨none, false, none, (.i (.st 3 (.t 6) (.t 35)))⟩]) (.seq (.ops [⟨(some 37), false, none, (.i (.mv (.t 1)))⟩, ⟨(some 38), false, none, (.call (.c (.fn 8 [])) [(.t 37)])⟩, ⟨(some 36), false, none, (.i (.mv (.t 38)))⟩, ⟨(some 39), false, none, (.i (.ext (.t 36) 0))⟩, ⟨(some 40), false, none, (.i (.ext (.t 36) 1))⟩, ⟨(some 8), true, none, (.i (.alloc [(.int .i64 0), (.int .i64 0), (.int .i64 0)]))⟩, ⟨(some 7), true, none, (.i (.mv (.t 39)))⟩, ⟨none, false, none, (.i (.st 3 (.t 8) (.t 40)))⟩]) (.seq (.seq (.ops [⟨(some 41), false, none, (.i (.ldA 3 (.t 6)))⟩, ⟨(some 42), false, none, (.i (.build [(.int .i64 0), (.int .i64 0), (.int .i64 0)] []))⟩, ⟨(some 43), false, none, (.i (.gen .neq 25 false (.t 41) (.t 42)))⟩, ⟨(some 44), false, none, (.i (.mv (.t 43)))⟩, ⟨(some 45), false, (some (44, false)), (.i (.ldA 3 (.t 8)))⟩, ⟨(some 46), false, (some (44, false)), (.i (.build [(.int .i64 0), (.int .i64 0), (.int .i64 0)] []))⟩, ⟨(some 47), false, (some (44, false)), (.i (.gen .neq 25 false (.t 45) (.t 46)))⟩, ⟨(some 48), true, none, (.i (.pick (.t 44) (.c (.bool true)) (.t 47)))⟩]) (.cond (.t 48) (.seq (.ops [⟨(some 4), true, none, (.i (.mv (.c (.bool true))))⟩]) .ret) .skip)) (.seq (.ops [⟨(some 9), true, none, (.i (.mv (.c (.str []))))⟩]) (.seq (.seq (.ops [⟨(some 49), true, none, (.i (.mv (.t 5)))⟩, ⟨(some 50), true, none, (.i (.len (.t 49)))⟩, ⟨(some 51), true, none, (.i (.mv (.c (.int .i64 0))))⟩]) (.block 0 (.loop (.seq (.ops [⟨(some 52), true, none, (.i (.bin .lss (.t 51) (.t 50)))⟩]) (.seq (.cond (.t 52) .skip (.exit 0)) (.seq (.block 1 (.seq (.ops [⟨(some 53), false, none, (.i (.idxS 5 (.t 49) (.t 51)))⟩, ⟨(some 54), false, none, (.i (.ldA 5 (.t 53)))⟩, ⟨(some 11), true, none, (.i (.alloc [(.int .i64 0), (.str []), (.int .i64 0), (.int .i64 0), (.int .i64 0)]))⟩, ⟨none, false, none, (.i (.st 5 (.t 11) (.t 54)))⟩]) (.ops [⟨(some 55), false, none, (.i (.mv (.t 9)))⟩, ⟨(some 56), false, none, (.i (.fad 1 (.t 11)))⟩, ⟨(some 57), false, none, (.i (.ld1 (.t 56)))⟩, ⟨(some 58), false, none, (.i (.strb .add (.t 57) (.c (.str [32]))))⟩, ⟨(some 59), false, none, (.i (.strb .add (.t 55) (.t 58)))⟩, ⟨(some 9), true, none, (.i (.mv (.t 59)))⟩]))) (.ops [⟨(some 60), false, none, (.i (.bin .add (.t 51) (.c (.int .i64 1))))⟩, ⟨(some 51), true, none, (.i (.mv (.t 60)))⟩]))))))) (.seq (.ops [⟨(some 62), false, none, (.i (.mv (.t 9)))⟩, ⟨(some 63), false, none, (.call (.c (.fn 8 [])) [(.t 62)])⟩, ⟨(some 61), false, none, (.i (.mv (.t 63)))⟩, ⟨(some 64), false, none, (.i (.ext (.t 61) 0))⟩, ⟨(some 65), false, none, (.i (.ext (.t 61) 1))⟩, ⟨(some 13), true, none, (.i (.alloc [(.int .i64 0), (.int .i64 0), (.int .i64 0)]))⟩, ⟨(some 12), true, none, (.i (.mv (.t 64)))⟩, ⟨none, false, none, (.i (.st 3 (.t 13) (.t 65)))⟩]) (.seq (.ops [⟨(some 67), false, none, (.i (.mv (.t 0)))⟩, ⟨(some 68), false, none, (.i (.strb .add (.t 67) (.c (.str [10]))))⟩, ⟨(some 69), false, none, (.i (.mv (.t 1)))⟩, ⟨(some 70), false, none, (.i (.strb .add (.t 68) (.t 69)))⟩, ⟨(some 71), false, none, (.call (.c (.fn 8 [])) [(.t 70)])⟩, ⟨(some 66), false, none, (.i (.mv (.t 71)))⟩, ⟨(some 72), false, none, (.i (.ext (.t 66) 0))⟩, ⟨(some 73), false, none, (.i (.ext (.t 66) 1))⟩, ⟨(some 15), true, none, (.i (.alloc [(.int .i64 0), (.int .i64 0), (.int .i64 0)]))⟩, ⟨(some 14), true, none, (.i (.mv (.t 72)))⟩, ⟨none, false, none, (.i (.st 3 (.t 15) (.t 73)))⟩]) (.seq (.seq (.ops [⟨(some 74), false, none, (.i (.ldA 3 (.t 13)))⟩, ⟨(some 75), false, none, (.i (.build [(.int .i64 0), (.int .i64 0), (.int .i64 0)] []))⟩, ⟨(some 76), false, none, (.i (.gen .neq 25 false (.t 74) (.t 75)))⟩, ⟨(some 77), false, none, (.i (.mv (.t 76)))⟩, ⟨(some 78), false, (some (77, false)), (.i (.ldA 3 (.t 15)))⟩, ⟨(some 79), false, (some (77, false)), (.i (.build [(.int .i64 0), (.int .i64 0), (.int .i64 0)] []))⟩, ⟨(some 80), false, (some (77, false)), (.i (.gen .neq 25 false (.t 78) (.t 79)))⟩, ⟨(some 81), false, none, (.i (.pick (.t 77) (.c (.bool true)) (.t 80)))⟩, ⟨(some 82), false, none, (.i (.mv (.t 81)))⟩, ⟨(some 83), false, (some (82, false)), (.i (.mv (.t 12)))⟩, ⟨(some 84), false, (some (82, false)), (.i (.len (.t 83)))⟩, ⟨(some 85), false, (some (82, false)), (.i (.mv (.t 5)))⟩, ⟨(some 86), false, (some (82, false)), (.i (.len (.t 85)))⟩, ⟨(some 87), false, (some (82, false)), (.i (.bin .neq (.t 84) (.t 86)))⟩, ⟨(some 88), false, none, (.i (.pick (.t 82) (.c (.bool true)) (.t 87)))⟩, ⟨(some 89), false, none, (.i (.mv (.t 88)))⟩, ⟨(some 90), false, (some (89, false)), (.i (.mv (.t 14)))⟩, ⟨(some 91), false, (some (89, false)), (.i (.len (.t 90)))⟩, ⟨(some 92), false, (some (89, false)), (.i (.mv (.t 5)))⟩, ⟨(some 93), false, (some (89, false)), (.i (.len (.t 92)))⟩, ⟨(some 94), false, (some (89, false)), (.i (.mv (.t 7)))⟩, ⟨(some 95), false, (some (89, false)), (.i (.len (.t 94)))⟩, ⟨(some 96), false, (some (89, false)), (.i (.bin .add (.t 93) (.t 95)))⟩, ⟨(some 97), false, (some (89, false)), (.i (.bin .sub (.t 96) (.c (.int .i64 1))))⟩, ⟨(some 98), false, (some (89, false)), (.i (.bin .neq (.t 91) (.t 97)))⟩, ⟨(some 99), true, none, (.i (.pick (.t 89) (.c (.bool true)) (.t 98)))⟩]) (.cond (.t 99) (.seq (.ops [⟨(some 4), true, none, (.i (.mv (.c (.bool false))))⟩]) .ret) .skip)) (.seq (.seq (.ops [⟨(some 100), false, none, (.i (.mv (.t 5)))⟩, ⟨(some 101), true, none, (.i (.len (.t 100)))⟩, ⟨(some 102), true, none, (.i (.mv (.c (.int .i64 0))))⟩]) (.block 2 (.loop (.seq (.ops [⟨(some 103), true, none, (.i (.bin .lss (.t 102) (.t 101)))⟩]) (.seq (.cond (.t 103) .skip (.exit 2)) (.seq (.block 3 (.seq (.ops [⟨(some 104), false, none, (.i (.mv (.t 102)))⟩, ⟨(some 16), true, none, (.i (.mv (.t 104)))⟩]) (.seq (.ops [⟨(some 105), false, none, (.i (.mv (.t 12)))⟩, ⟨(some 106), false, none, (.i (.mv (.t 16)))⟩, ⟨(some 107), false, none, (.i (.idxS 5 (.t 105) (.t 106)))⟩, ⟨(some 108), false, none, (.i (.fad 0 (.t 107)))⟩, ⟨(some 109), false, none, (.i (.ld1 (.t 108)))⟩, ⟨(some 110), false, none, (.i (.mv (.t 5)))⟩, ⟨(some 111), false, none, (.i (.mv (.t 16)))⟩, ⟨(some 112), false, none, (.i (.idxS 5 (.t 110) (.t 111)))⟩, ⟨(some 113), false, none, (.i (.fad 0 (.t 112)))⟩, ⟨(some 114), false, none, (.i (.ld1 (.t 113)))⟩, ⟨(some 115), false, none, (.i (.bin .neq (.t 109) (.t 114)))⟩, ⟨(some 116), false, none, (.i (.mv (.t 115)))⟩, ⟨(some 117), false, (some (116, false)), (.i (.mv (.t 12)))⟩, ⟨(some 118), false, (some (116, false)), (.i (.mv (.t 16)))⟩, ⟨(some 119), false, (some (116, false)), (.i (.idxS 5 (.t 117) (.t 118)))⟩, ⟨(some 120), false, (some (116, false)), (.i (.fad 1 (.t 119)))⟩, ⟨(some 121), false, (some (116, false)), (.i (.ld1 (.t 120)))⟩, ⟨(some 122), false, (some (116, false)), (.i (.mv (.t 5)))⟩, ⟨(some 123), false, (some (116, false)), (.i (.mv (.t 16)))⟩, ⟨(some 124), false, (some (116, false)), (.i (.idxS 5 (.t 122) (.t 123)))⟩, ⟨(some 125), false, (some (116, false)), (.i (.fad 1 (.t 124)))⟩, ⟨(some 126), false, (some (116, false)), (.i (.ld1 (.t 125)))⟩, ⟨(some 127), false, (some (116, false)), (.i (.strb .neq (.t 121) (.t 126)))⟩, ⟨(some 128), false, none, (.i (.pick (.t 116) (.c (.bool true)) (.t 127)))⟩, ⟨(some 129), false, none, (.i (.mv (.t 128)))⟩, ⟨(some 130), false, (some (129, false)), (.i (.mv (.t 12)))⟩, ⟨(some 131), false, (some (129, false)), (.i (.mv (.t 16)))⟩, ⟨(some 132), false, (some (129, false)), (.i (.idxS 5 (.t 130) (.t 131)))⟩, ⟨(some 133), false, (some (129, false)), (.i (.fad 2 (.t 132)))⟩, ⟨(some 134), false, (some (129, false)), (.i (.ld1 (.t 133)))⟩, ⟨(some 135), false, (some (129, false)), (.i (.mv (.t 5)))⟩, ⟨(some 136), false, (some (129, false)), (.i (.mv (.t 16)))⟩, ⟨(some 137), false, (some (129, false)), (.i (.idxS 5 (.t 135) (.t 136)))⟩, ⟨(some 138), false, (some (129, false)), (.i (.fad 2 (.t 137)))⟩, ⟨(some 139), false, (some (129, false)), (.i (.ld1 (.t 138)))⟩, ⟨(some 140), false, (some (129, false)), (.i (.bin .neq (.t 134) (.t 139)))⟩, ⟨(some 141), true, none, (.i (.pick (.t 129) (.c (.bool true)) (.t 140)))⟩]) (.cond (.t 141) (.seq (.ops [⟨(some 4), true, none, (.i (.mv (.c (.bool false))))⟩]) .ret) .skip)))) (.ops [⟨(some 142), false, none, (.i (.bin .add (.t 102) (.c (.int .i64 1))))⟩, ⟨(some 102), true, none, (.i (.mv (.t 142)))⟩]))))))) (.seq (.ops [⟨(some 143), false, none, (.i (.mv (.t 5)))⟩, ⟨(some 144), false, none, (.i (.mv (.t 5)))⟩, ⟨(some 145), false, none, (.i (.len (.t 144)))⟩, ⟨(some 146), false, none, (.i (.bin .sub (.t 145) (.c (.int .i64 1))))⟩, ⟨(some 147), false, none, (.i (.idxS 5 (.t 143) (.t 146)))⟩, ⟨(some 148), false, none, (.i (.ldA 5 (.t 147)))⟩, ⟨(some 17), true, none, (.i (.alloc [(.int .i64 0), (.str []), (.int .i64 0), (.int .i64 0), (.int .i64 0)]))⟩, ⟨none, false, none, (.i (.st 5 (.t 17) (.t 148)))⟩]) (.seq (.seq (.ops [⟨(some 149), true, none, (.i (.mv (.t 14)))⟩, ⟨(some 150), true, none, (.i (.len (.t 149)))⟩, ⟨(some 151), true, none, (.i (.mv (.c (.int .i64 0))))⟩]) (.block 4 (.loop (.seq (.ops [⟨(some 152), true, none, (.i (.bin .lss (.t 151) (.t 150)))⟩]) (.seq (.cond (.t 152) .skip (.exit 4)) (.seq (.block 5 (.seq (.ops [⟨(some 153), false, none, (.i (.mv (.t 151)))⟩, ⟨(some 154), false, none, (.i (.idxS 5 (.t 149) (.t 151)))⟩, ⟨(some 155), false, none, (.i (.ldA 5 (.t 154)))⟩, ⟨(some 19), true, none, (.i (.alloc [(.int .i64 0), (.str []), (.int .i64 0), (.int .i64 0), (.int .i64 0)]))⟩, ⟨(some 18), true, none, (.i (.mv (.t 153)))⟩, ⟨none, false, none, (.i (.st 5 (.t 19) (.t 155)))⟩]) (.seq (.seq (.ops [⟨(some 156), false, none, (.i (.mv (.t 18)))⟩, ⟨(some 157), false, none, (.i (.mv (.t 5)))⟩, ⟨(some 158), false, none, (.i (.len (.t 157)))⟩, ⟨(some 159), false, none, (.i (.bin .sub (.t 158) (.c (.int .i64 1))))⟩, ⟨(some 160), false, none, (.i (.bin .lss (.t 156) (.t 159)))⟩, ⟨(some 161), false, none, (.i (.mv (.t 160)))⟩, ⟨(some 162), false, (some (161, true)), (.i (.ldA 5 (.t 19)))⟩, ⟨(some 163), false, (some (161, true)), (.i (.mv (.t 5)))⟩, ⟨(some 164), false, (some (161, true)), (.i (.mv (.t 18)))⟩, ⟨(some 165), false, (some (161, true)), (.i (.idxS 5 (.t 163) (.t 164)))⟩, ⟨(some 166), false, (some (161, true)), (.i (.ldA 5 (.t 165)))⟩, ⟨(some 167), false, (some (161, true)), (.i (.gen .neq 33 false (.t 162) (.t 166)))⟩, ⟨(some 168), true, none, (.i (.pick (.t 161) (.t 167) (.c (.bool false))))⟩]) (.cond (.t 168) (.seq (.ops [⟨(some 4), true, none, (.i (.mv (.c (.bool false))))⟩]) .ret) .skip)) (.seq (.ops [⟨(some 169), false, none, (.i (.mv (.t 18)))⟩, ⟨(some 170), false, none, (.i (.mv (.t 5)))⟩, ⟨(some 171), false, none, (.i (.len (.t 170)))⟩, ⟨(some 172), false, none, (.i (.bin .sub (.t 171) (.c (.int .i64 1))))⟩, ⟨(some 173), true, none, (.i (.bin .geq (.t 169) (.t 172)))⟩]) (.cond (.t 173) (.seq (.ops [⟨(some 174), false, none, (.i (.mv (.t 7)))⟩, ⟨(some 175), false, none, (.i (.mv (.t 18)))⟩, ⟨(some 176), false, none, (.i (.mv (.t 5)))⟩, ⟨(some 177), false, none, (.i (.len (.t 176)))⟩, ⟨(some 178), false, none, (.i (.bin .sub (.t 175) (.t 177)))⟩, ⟨(some 179), false, none, (.i (.bin .add (.t 178) (.c (.int .i64 1))))⟩, ⟨(some 180), false, none, (.i (.idxS 5 (.t 174) (.t 179)))⟩, ⟨(some 181), false, none, (.i (.ldA 5 (.t 180)))⟩, ⟨(some 20), true, none, (.i (.alloc [(.int .i64 0), (.str []), (.int .i64 0), (.int .i64 0), (.int .i64 0)]))⟩, ⟨none, false, none, (.i (.st 5 (.t 20) (.t 181)))⟩]) (.seq (.ops [⟨(some 182), false, none, (.i (.fad 3 (.t 20)))⟩, ⟨(some 183), false, none, (.i (.ld1 (.t 182)))⟩, ⟨(some 184), false, none, (.i (.fad 3 (.t 17)))⟩, ⟨(some 185), false, none, (.i (.ld1 (.t 184)))⟩, ⟨(some 186), false, none, (.i (.bin .add (.t 183) (.t 185)))⟩, ⟨(some 187), false, none, (.i (.fad 3 (.t 20)))⟩, ⟨none, false, none, (.i (.st 1 (.t 187) (.t 186)))⟩]) (.seq (.ops [⟨(some 188), false, none, (.i (.ldA 5 (.t 19)))⟩, ⟨(some 189), false, none, (.i (.ldA 5 (.t 20)))⟩, ⟨(some 190), true, none, (.i (.gen .neq 33 false (.t 188) (.t 189)))⟩]) (.cond (.t 190) (.seq (.ops [⟨(some 4), true, none, (.i (.mv (.c (.bool false))))⟩]) .ret) .skip)))) .skip))))) (.ops [⟨(some 191), false, none, (.i (.bin .add (.t 151) (.c (.int .i64 1))))⟩, ⟨(some 151), true, none, (.i (.mv (.t 191)))⟩]))))))) (.seq (.ops [⟨(some 4), true, none, (.i (.mv (.c (.bool true))))⟩]) .ret)))))))))))))))
def c5 : FD := ⟨[0, 1], b5, [(.t 4)]⟩
theorem l5 : lowF Tryd.prog 5 = some c5 := by kernel_rfl
end Go.Sy
end

section
set_option maxRecDepth 100000
namespace Go.Sy
open Go.Ev Go.Proofs
theorem agn_cons (t : Tk) (ts : List Tk) : agn (t :: ts) = (t.text ++ [32]) ++ agn ts := rfl
theorem agn_snoc (ts : List Tk) (t : Tk) : agn (ts ++ [t]) = agn ts ++ (t.text ++ [32]) := by
  unfold agn
  rw [List.map_append, List.flatten_append]
  simp
theorem cutM_bounds (k : Nat) : ∀ (r : List Nat) (p : Nat × Nat) (ts : List Tk), r.length ≤ k → 1 ≤ p.2 → (∀ x ∈ r, x < 256) → cutM r p = (ts, (0, 0, 0)) →
    (agn ts).length ≤ 2 * r.length + 1 ∧ (∀ x ∈ agn ts, x < 256) ∧ ∀ t ∈ ts, t.line ≤ p.1 + r.length := by
  have base : ∀ (r : List Nat) (p : Nat × Nat) (t : Tk) (n : Nat), 1 ≤ p.2 → nextM (r.drop (gaps r)) (walkP p (r.take (gaps r))) = (0, t, n) → n = 0 → (agn [t]).length ≤ 2 * r.length + 1 ∧ (∀ x ∈ agn [t], x < 256) ∧ ∀ t' ∈ [t], t'.line ≤ p.1 + r.length := fun r p t n hp hx hn => by
    have e1 := (nextM_text hx).1
    have e2 := (nextM_text hx).2.1
    rw [hn, List.take_zero] at e1
    have ea : agn [t] = [32] := by rw [agn_cons, e1]; rfl
    rw [ea]
    have w := walkP_le (r.take (gaps r)) p hp
    have := gaps_le r
    rw [List.length_take] at w
    refine ⟨by simp, fun x hx => by simp at hx; omega, fun t' ht => ?_⟩
    simp at ht
    rw [ht, e2]
    omega
  induction k with
  | zero =>
    intro r p ts hr hp h256 h
    obtain ⟨t, n, hx, ⟨hn, rfl, hg⟩ | ⟨hn, h1, h2, _⟩⟩ := cutM_cons h
    · exact base r p t n hp hx hn
    · omega
  | succ k ih =>
    intro r p ts hr hp h256 h
    obtain ⟨t, n, hx, ⟨hn, rfl, hg⟩ | ⟨hn, h1, h2, ts', rfl, h3⟩⟩ := cutM_cons h
    · exact base r p t n hp hx hn
    · have w := walkP_le (r.take (gaps r)) p hp
      have w2 := walkP_le ((r.drop (gaps r)).take n) _ w.2.2
      rw [List.length_take] at w w2
      rw [List.length_drop] at w2
      obtain ⟨i1, i2, i3⟩ := ih _ _ _ (by rw [List.length_drop, List.length_drop]; omega) w2.2.2 (fun x hx => h256 x (List.mem_of_mem_drop (List.mem_of_mem_drop hx))) h3
      rw [List.length_drop, List.length_drop] at i1 i3
      have e1 := (nextM_text hx).1
      have e2 := (nextM_text hx).2.1
      have el : t.text.length = n := by rw [e1, List.length_take, List.length_drop]; omega
      refine ⟨?_, fun x hx => ?_, fun t' ht => ?_⟩
      · rw [agn_cons, List.length_append, List.length_append, el]
        simp only [List.length_cons, List.length_nil]
        omega
      · rw [agn_cons] at hx
        rcases List.mem_append.1 hx with hx | hx
        · rcases List.mem_append.1 hx with hx | hx
          · rw [e1] at hx
            exact h256 x (List.mem_of_mem_drop (List.mem_of_mem_take hx))
          · simp at hx; omega
        · exact i2 x hx
      · rcases List.mem_cons.1 ht with rfl | ht
        · rw [e2]; omega
        · have := i3 t' ht
          omega
/-- what the law asks of two texts without a fault -/
theorem joins_law {l m : List Nat} {xs bs : List Tk} (hl : l.length ≤ 4000) (hm : m.length ≤ 4000) (h256 : ∀ x ∈ l, x < 256) (h256' : ∀ x ∈ m, x < 256) (ha : cutT l = (xs, (0, 0, 0))) (hb : cutT m = (bs, (0, 0, 0))) :
    ∃ (wa cs : List Tk) (L : Nat), L ≤ 4001 ∧ xs.length = wa.length + 1 ∧ xs.length ≤ 4001 ∧ bs.length ≤ 4001 ∧ bs ≠ [] ∧ (xs.getD wa.length ⟨0, [], 0, 0, 0⟩).line = L ∧ xs.dropLast = wa ∧ (agn xs).length ≤ 8001 ∧ (∀ x ∈ agn xs, x < 256) ∧
      cutT (agn xs) = (cs, (0, 0, 0)) ∧ cs.map core = xs.map core ∧ cutT (l ++ 10 :: m) = (wa ++ bs.map (shiftT L), (0, 0, 0)) ∧ ∀ t ∈ bs, t.line ≤ 4001 := by
  have e1 : cutT l = cutM l (1, 1) := if_neg (by omega)
  have e2 : cutT m = cutM m (1, 1) := if_neg (by omega)
  rw [e1] at ha
  rw [e2] at hb
  have la := cutM_len l.length l (1, 1) (Nat.le_refl _)
  have lb := cutM_len m.length m (1, 1) (Nat.le_refl _)
  rw [ha] at la
  rw [hb] at lb
  obtain ⟨b1, b2, b3⟩ := cutM_bounds _ _ _ _ (Nat.le_refl _) (by decide) h256 ha
  obtain ⟨c1, c2, c3⟩ := cutM_bounds _ _ _ _ (Nat.le_refl _) (by decide) h256' hb
  obtain ⟨wa, hwa, hW⟩ := cutM_words _ _ _ _ (Nat.le_refl _) ha
  obtain ⟨wb, hwb, _⟩ := cutM_words _ _ _ _ (Nat.le_refl _) hb
  have wl := walkP_le l (1, 1) (by decide)
  have happ := cutM_app m _ _ _ _ (Nat.le_refl _) ha
  have hsh := cutM_shift (walkP (1, 1) l).1 _ _ _ _ (Nat.le_refl _) hb
  have hst : stepP (walkP (1, 1) l) 10 = (1 + (walkP (1, 1) l).1, 1) := by
    unfold stepP
    rw [if_pos rfl, Nat.add_comm]
  rw [hst] at happ
  rw [hsh] at happ
  have hdl : xs.dropLast = wa := by rw [hwa, List.dropLast_concat]
  have hal : xs.length = wa.length + 1 := by rw [hwa, List.length_append]; rfl
  obtain ⟨cs, hc1, hc2⟩ := cut_agn _ wa [] (1, 1) (Nat.le_refl _) hW (.inl rfl)
  have hag : agn xs = agn wa ++ [32] := by rw [hwa, agn_snoc]; rfl
  rw [List.nil_append, ← hag] at hc1
  refine ⟨wa, cs, (walkP (1, 1) l).1, by omega, hal, by simp at la; omega, by simp at lb; omega, by rw [hwb]; simp, ?_, hdl, by omega, b2, ?_, ?_, ?_, fun t ht => by have := c3 t ht; omega⟩
  · rw [hwa, List.getD_eq_getElem?_getD, List.getElem?_append_right (Nat.le_refl _), Nat.sub_self]; rfl
  · rw [show cutT (agn xs) = cutM (agn xs) (1, 1) from if_neg (by omega)]; exact hc1
  · rw [hc2, hwa, List.map_append]; rfl
  · rw [show cutT (l ++ 10 :: m) = cutM (l ++ 10 :: m) (1, 1) from if_neg (by rw [List.length_append, List.length_cons]; omega), happ, hdl]; rfl
end Go.Sy
end

namespace Go.Sy
open Go.Ev Go.RowKit
/-! ### memory as what was done to it -/
noncomputable def nw (s : St) (cs : List AV) : St := ⟨s.nx + 1, (setF (bitsR s.nx)).run (.row cs.length cs.length cs .e) s.h, s.dirty, s.fr⟩
noncomputable def putO (x : Option AO) (o : Nat) (vs : List AV) : AO := match x with | some (.row n zl z cs) => .row n zl z (setCells vs cs o) | _ => .row 0 1 [] (setCells vs .e o)
noncomputable def wr (s : St) (b o : Nat) (vs : List AV) : St := ⟨s.nx, (setF (bitsR b)).run (putO (hget s.h b) o vs) s.h, min s.dirty b, s.fr⟩
noncomputable def apO (x : Option AO) (vs : List AV) : AO := match x with | some (.row n zl z cs) => .row (n + vs.length) zl z (setCells vs cs n) | _ => .row vs.length 1 [] (setCells vs .e 0)
noncomputable def ap (s : St) (b : Nat) (vs : List AV) : St := ⟨s.nx + 1, (setF (bitsR s.nx)).run (apO (hget s.h b) vs) ((setF (bitsR b)).run .dead s.h), min s.dirty b, s.fr⟩
theorem nx_nw (s : St) (cs : List AV) : (nw s cs).nx = s.nx + 1 := nr rfl
theorem nx_wr (s : St) (b o : Nat) (vs : List AV) : (wr s b o vs).nx = s.nx := nr rfl
theorem nx_ap (s : St) (b : Nat) (vs : List AV) : (ap s b vs).nx = s.nx + 1 := nr rfl
theorem nx_bare (s : St) : s.bare.nx = s.nx := nr rfl
theorem h_bare (s : St) : s.bare.h = s.h := nr rfl
theorem fr_nw (s : St) (cs : List AV) : (nw s cs).fr = s.fr := nr rfl
theorem fr_wr (s : St) (b o : Nat) (vs : List AV) : (wr s b o vs).fr = s.fr := nr rfl
theorem fr_ap (s : St) (b : Nat) (vs : List AV) : (ap s b vs).fr = s.fr := nr rfl
theorem fr_bare (s : St) : s.bare.fr = [] := nr rfl
theorem get_nwO {s : St} {cs : List AV} {b : Nat} (h : b ≠ s.nx) : hget (nw s cs).h b = hget s.h b := by unfold nw; rw [hget_set, if_neg h]
theorem get_wrO {s : St} {b o : Nat} {vs : List AV} {c : Nat} (h : c ≠ b) : hget (wr s b o vs).h c = hget s.h c := by unfold wr; rw [hget_set, if_neg h]
theorem get_apO {s : St} {b : Nat} {vs : List AV} {c : Nat} (h : c ≠ s.nx) (h2 : c ≠ b) : hget (ap s b vs).h c = hget s.h c := by unfold ap; rw [hget_set, if_neg h, hget_set, if_neg h2]
theorem len_nw (s : St) (cs : List AV) : rlen (nw s cs).h s.nx = cs.length := by unfold nw; rw [rlen_row, if_pos rfl]
theorem len_nwO {s : St} {cs : List AV} {b : Nat} (h : b ≠ s.nx) : rlen (nw s cs).h b = rlen s.h b := rlen_same (get_nwO h)
theorem at_nw {s : St} {cs : List AV} {i : Nat} (h : i < cs.length) : rat (nw s cs).h s.nx i = cs.getD i .bad := by unfold nw; rw [rat_row, if_pos rfl, rowCell_eq, get_e, Nat.mod_eq_of_lt h]; rfl
theorem at_nwO {s : St} {cs : List AV} {b i : Nat} (h : b ≠ s.nx) : rat (nw s cs).h b i = rat s.h b i := rat_same (get_nwO h) i
theorem len_wr (s : St) (b o : Nat) (vs : List AV) (c : Nat) : rlen (wr s b o vs).h c = rlen s.h c := by
  by_cases h : c = b
  · subst h
    unfold wr putO rlen
    rw [hget_set, if_pos rfl]
    cases hget s.h c with
    | none => rfl
    | some x => cases x <;> rfl
  · exact rlen_same (get_wrO h)
theorem at_wr' (s : St) (b o : Nat) (vs : List AV) (i : Nat) : rat (wr s b o vs).h b i = if o ≤ i ∧ i < o + vs.length then vs.getD (i - o) .bad else rat s.h b i := by
  unfold wr rat
  rw [hget_set, if_pos rfl]
  unfold putO
  cases hget s.h b with
  | none => simp only [rowCell_setCells]; congr 1; rw [rowCell_eq, get_e]; rfl
  | some x => cases x <;> simp only [rowCell_setCells] <;> (congr 1; rw [rowCell_eq, get_e]; rfl)
theorem at_wr {s : St} {b o : Nat} {vs : List AV} {i : Nat} (h1 : o ≤ i) (h2 : i < o + vs.length) : rat (wr s b o vs).h b i = vs.getD (i - o) .bad := by rw [at_wr', if_pos ⟨h1, h2⟩]
theorem at_wrB {s : St} {b o : Nat} {vs : List AV} {i : Nat} (h : i < o) : rat (wr s b o vs).h b i = rat s.h b i := by rw [at_wr', if_neg (by omega)]
theorem at_wrA {s : St} {b o : Nat} {vs : List AV} {i : Nat} (h : o + vs.length ≤ i) : rat (wr s b o vs).h b i = rat s.h b i := by rw [at_wr', if_neg (by omega)]
theorem at_wrO {s : St} {b o c : Nat} {vs : List AV} {i : Nat} (h : c ≠ b) : rat (wr s b o vs).h c i = rat s.h c i := rat_same (get_wrO h) i
theorem isRow_wr {s : St} {b o : Nat} {vs : List AV} {c : Nat} (h : IsRow s.h c) : IsRow (wr s b o vs).h c := by
  by_cases hc : c = b
  · subst hc
    unfold IsRow wr
    rw [hget_set, if_pos rfl]
    obtain ⟨n, zl, z, cs, e⟩ := h
    rw [e]
    exact ⟨_, _, _, _, rfl⟩
  · exact isRow_same (get_wrO hc) h
/-- the cells of a block -/
structure Cl (s : St) (b : Nat) (cs : List AV) : Prop where
  lt : b < s.nx
  row : IsRow s.h b
  len : rlen s.h b = cs.length
  cell : ∀ i, i < cs.length → rat s.h b i = cs.getD i .bad
theorem Cl.keep {s s' : St} {b : Nat} {cs : List AV} (h : Cl s b cs) (hn : s.nx ≤ s'.nx) (k : hget s'.h b = hget s.h b) : Cl s' b cs :=
  ⟨Nat.lt_of_lt_of_le h.lt hn, isRow_same k h.row, (rlen_same k).trans h.len, fun i hi => (rat_same k i).trans (h.cell i hi)⟩
theorem Cl.new (s : St) (cs : List AV) : Cl (nw s cs) s.nx cs :=
  ⟨Nat.lt_succ_self _, ⟨_, _, _, _, by unfold nw; rw [hget_set, if_pos rfl]⟩, len_nw s cs, fun i hi => at_nw hi⟩
theorem Cl.nw {s : St} {b : Nat} {cs : List AV} (h : Cl s b cs) (ds : List AV) : Cl (nw s ds) b cs := h.keep (Nat.le_succ _) (get_nwO (Nat.ne_of_lt h.lt))
theorem Cl.wrO {s : St} {b : Nat} {cs : List AV} (h : Cl s b cs) {c : Nat} (hc : b ≠ c) (o : Nat) (vs : List AV) : Cl (wr s c o vs) b cs := h.keep (Nat.le_refl _) (get_wrO hc)
def upd : List AV → Nat → List AV → List AV
  | [], _, _ => []
  | c :: cs, 0, [] => c :: cs
  | c :: cs, 0, v :: vs => v :: upd cs 0 vs
  | c :: cs, o + 1, vs => c :: upd cs o vs
theorem upd_len : ∀ (cs : List AV) (o : Nat) (vs : List AV), (upd cs o vs).length = cs.length
  | [], _, _ => rfl
  | c :: cs, 0, [] => rfl
  | c :: cs, 0, v :: vs => by show (upd cs 0 vs).length + 1 = _; rw [upd_len cs 0 vs]; rfl
  | c :: cs, o + 1, vs => by show (upd cs o vs).length + 1 = _; rw [upd_len cs o vs]; rfl
theorem upd_get : ∀ (cs : List AV) (o : Nat) (vs : List AV) (i : Nat), i < cs.length → (upd cs o vs).getD i .bad = if o ≤ i ∧ i < o + vs.length then vs.getD (i - o) .bad else cs.getD i .bad
  | [], _, _, _, h => by simp at h
  | c :: cs, 0, [], i, h => by rw [if_neg (by simp)]; rfl
  | c :: cs, 0, v :: vs, 0, h => by rw [if_pos (by simp)]; rfl
  | c :: cs, 0, v :: vs, i + 1, h => by
    show (upd cs 0 vs).getD i .bad = _
    rw [upd_get cs 0 vs i (by simpa using h)]
    by_cases hi : i < vs.length
    · rw [if_pos (by omega), if_pos (by simp; omega)]; rfl
    · rw [if_neg (by omega), if_neg (by simp; omega)]; rfl
  | c :: cs, o + 1, vs, 0, h => by rw [if_neg (by omega)]; rfl
  | c :: cs, o + 1, vs, i + 1, h => by
    show (upd cs o vs).getD i .bad = _
    rw [upd_get cs o vs i (by simpa using h)]
    by_cases hi : o ≤ i ∧ i < o + vs.length
    · rw [if_pos hi, if_pos (by omega), Nat.add_sub_add_right]
    · rw [if_neg hi, if_neg (by omega)]; rfl
theorem Cl.wr {s : St} {b : Nat} {cs : List AV} (h : Cl s b cs) (o : Nat) (vs : List AV) : Cl (wr s b o vs) b (upd cs o vs) :=
  ⟨h.lt, isRow_wr h.row, by rw [len_wr, h.len, upd_len], fun i hi => by
    rw [upd_len] at hi
    rw [at_wr', upd_get _ _ _ _ hi, h.cell i hi]⟩
theorem Cl.ap {s : St} {b : Nat} {cs : List AV} (h : Cl s b cs) (vs : List AV) : Cl (ap s b vs) s.nx (cs ++ vs) := by
  obtain ⟨n, zl, z, ks, e⟩ := h.row
  have hl := h.len
  rw [rlen_get e] at hl
  have eo : hget (Go.Sy.ap s b vs).h s.nx = some (.row (n + vs.length) zl z (setCells vs ks n)) := by unfold Go.Sy.ap; rw [hget_set, if_pos rfl, e]; rfl
  refine ⟨Nat.lt_succ_self _, ⟨_, _, _, _, eo⟩, by rw [rlen_get eo, List.length_append, hl], fun i hi => ?_⟩
  rw [rat_get eo, rowCell_setCells]
  rw [List.length_append] at hi
  by_cases hc : n ≤ i ∧ i < n + vs.length
  · rw [if_pos hc, List.getD_eq_getElem?_getD, List.getD_eq_getElem?_getD, List.getElem?_append_right (by omega), hl]
  · have hi' : i < cs.length := by omega
    rw [if_neg hc, ← rat_get e, h.cell i hi', List.getD_eq_getElem?_getD, List.getD_eq_getElem?_getD, List.getElem?_append_left hi']
theorem cells_agg (cs : List AV) : (AV.agg cs).cells = cs := nr rfl
theorem cells_int (k : IntKind) (n : Int) : (AV.int k n).cells = [.int k n] := nr rfl
theorem cells_str (l : List Nat) : (AV.str l).cells = [.str l] := nr rfl
theorem cells_bool (b : Bool) : (AV.bool b).cells = [.bool b] := nr rfl
theorem cells_slice (b o n c z : Nat) (x : Bool) : (AV.slice b o n c z x).cells = [.slice b o n c z x] := nr rfl
theorem cells_nils : AV.nils.cells = [.nils] := nr rfl
theorem cells_ptr (b o : Nat) : (AV.ptr b o).cells = [.ptr b o] := nr rfl
theorem cell_int (k : IntKind) (n : Int) : (AV.int k n).cell = true := nr rfl
theorem cell_str (l : List Nat) : (AV.str l).cell = true := nr rfl
theorem cell_bool (b : Bool) : (AV.bool b).cell = true := nr rfl
theorem cell_slice (b o n c z : Nat) (x : Bool) : (AV.slice b o n c z x).cell = true := nr rfl
theorem cell_nils : AV.nils.cell = true := nr rfl
theorem cell_ptr (b o : Nat) : (AV.ptr b o).cell = true := nr rfl
theorem lall_nil : lall AV.cell [] = true := nr rfl
theorem lall_cons {v : AV} {l : List AV} (h : v.cell = true) : lall AV.cell (v :: l) = lall AV.cell l := by
  show cond v.cell (lall AV.cell l) false = _
  rw [h]; rfl
/-! ### frames -/
theorem Kept.nw {a s : St} (k : Kept a s) (cs : List AV) : Kept a (nw s cs) := ⟨by rw [nx_nw]; have := k.nx; omega, k.fr, fun c hc => (get_nwO (by have := k.nx; omega)).trans (k.keep c hc)⟩
theorem Kept.wr {a s : St} (k : Kept a s) {b : Nat} (hb : a.nx ≤ b) (o : Nat) (vs : List AV) : Kept a (wr s b o vs) := ⟨k.nx, k.fr, fun c hc => (get_wrO (by omega)).trans (k.keep c hc)⟩
theorem Kept.ap {a s : St} (k : Kept a s) {b : Nat} (hb : a.nx ≤ b) (vs : List AV) : Kept a (ap s b vs) := ⟨by rw [nx_ap]; have := k.nx; omega, k.fr, fun c hc => (get_apO (by have := k.nx; omega) (by omega)).trans (k.keep c hc)⟩
theorem Cl.kept {a s : St} {b : Nat} {cs : List AV} (h : Cl a b cs) (k : Kept a s) : Cl s b cs := h.keep k.nx (k.keep b h.lt)
/-! ### steps -/
section
variable {P : Program} {base : CallF} {st : St} {K : AV → St → Prop} {e : En}
theorem a_new (cs : List AV) : onER (Ev.newRow st cs) K = K (.ptr st.nx 0) (nw st cs) := by
  simp only [Ev.newRow, force_eq, llen_eq, St.alloc_eq, onER]; rfl
theorem a_box {v : AV} (h : lall AV.cell v.cells = true) : onER (boxV v st) K = K (.ptr st.nx 0) (nw st v.cells) := by
  simp only [boxV, h, cond_true]; exact a_new _
theorem a_st {k b o : Nat} {v : AV} (hk : 0 < k) (hc : v.cells.length = k) (hl : lall AV.cell v.cells = true) (ho : o + k ≤ rlen st.h b) : onER (stV k (.ptr b o) v st) K = K undefA (wr st b o v.cells) := by
  obtain ⟨n, zl, z, cs, hg⟩ := isRow_pos (h := st.h) (b := b) (by omega)
  rw [rlen_get hg] at ho
  have e1 : Nat.beq (llen v.cells) k = true := beq_t (by rw [llen_eq]; exact hc)
  have e2 : Nat.ble (Nat.add o k) n = true := ble_t ho
  simp only [stV, onPtr, hg, onRow, e1, e2, hl, cond_true, St.put_eq, onER]
  unfold wr putO
  rw [hg]
noncomputable def rats (h : T AO) (b o : Nat) : Nat → List AV
  | 0 => []
  | k + 1 => rat h b o :: rats h b (o + 1) k
theorem rats_eq (h : T AO) (b : Nat) : ∀ (k o : Nat), rats h b o k = (List.range k).map fun i => rat h b (o + i)
  | 0, o => rfl
  | k + 1, o => by
    rw [List.range_succ_eq_map, List.map_cons, List.map_map]
    show rat h b o :: rats h b (o + 1) k = _
    rw [rats_eq h b k (o + 1)]
    congr 1
    refine List.map_congr_left fun i _ => ?_
    show rat h b (o + 1 + i) = rat h b (o + (i + 1))
    rw [Nat.add_assoc, Nat.add_comm 1 i]
theorem a_ldA {k b o : Nat} (hk : 0 < k) (h : o + k ≤ rlen st.h b) : onER (ldAV k (.ptr b o) st) K = K (.agg (rats st.h b o k)) st := by rw [rats_eq]; exact v_ldAn hk h
theorem rats0 (h : T AO) (b o : Nat) : rats h b o 0 = [] := nr rfl
theorem ratsS (h : T AO) (b o k : Nat) : rats h b o (k + 1) = rat h b o :: rats h b (o + 1) k := nr rfl
theorem Cl.rats {s : St} {b : Nat} {cs : List AV} (h : Cl s b cs) : ∀ k o, o + k ≤ cs.length → rats s.h b o k = (cs.drop o).take k
  | 0, o, _ => rfl
  | k + 1, o, hk => by
    show rat s.h b o :: Go.Sy.rats s.h b (o + 1) k = _
    rw [h.rats k (o + 1) (by omega), h.cell o (by omega), List.drop_eq_getElem_cons (show o < cs.length by omega), List.take_succ_cons, List.getD_eq_getElem?_getD, List.getElem?_eq_getElem (by omega)]
    rfl
theorem Cl.ldA {s : St} {b k o : Nat} {cs : List AV} (h : Cl s b cs) (hk : 0 < k) (ho : o + k ≤ cs.length) (K : AV → St → Prop) : onER (ldAV k (.ptr b o) s) K = K (.agg ((cs.drop o).take k)) s := by
  rw [a_ldA hk (by rw [h.len]; exact ho), h.rats k o ho]
theorem Cl.ld {s : St} {b o : Nat} {cs : List AV} (h : Cl s b cs) (ho : o < cs.length) (K : AV → St → Prop) : onER (ld1V (.ptr b o) s) K = K (cs.getD o .bad) s := by
  rw [qz3a (by rw [h.len]; exact ho), h.cell o ho]
end
end Go.Sy

section
set_option maxRecDepth 100000
namespace Go.Sy
open Go.Ev Go.Proofs
variable {base : CallF}
theorem v_cat {a b : List Nat} (h : a.length + b.length ≤ 9223372036854775807) (st : St) (K : AV → St → Prop) : onER (strV .add (.str a) (.str b) st) K = K (.str (a ++ b)) st := by
  have e : Nat.ble (Nat.add a.length b.length) 9223372036854775807 = true := ble_t h
  simp only [strV, strOp, llen_eq, e, cond_true, lapp_eq, onSome, onER]
theorem Kept.back {a b c : St} (h : Kept a b) (e : Ext b c) : Kept a (Go.Ev.back b c) := h.trans (Kept.ext e)
theorem tsV_ne {b : Nat} {ts : List Tk} (h : ts ≠ []) : tsV b ts = .slice b 0 ts.length ts.length 5 false := by unfold tsV; rw [if_neg h]
theorem Ts.kept {a s : St} {b : Nat} {ts : List Tk} (h : Ts a b ts) (k : Kept a s) : Ts s b ts := h.keep k.nx (k.keep b h.lt)
theorem cell_tk (t : Tk) : lall AV.cell t.cells = true := nr rfl
theorem cell_fl (f : Nat × Nat × Nat) : lall AV.cell (fcells f) = true := nr rfl
theorem tk_len (t : Tk) : t.cells.length = 5 := nr rfl
theorem fl_len (f : Nat × Nat × Nat) : (fcells f).length = 3 := nr rfl
theorem Cl.ldF {s : St} {b : Nat} {f : Nat × Nat × Nat} (h : Cl s b (fcells f)) (K : AV → St → Prop) : onER (ldAV 3 (.ptr b 0) s) K = K (.agg (fcells f)) s := h.ldA (by decide) (Nat.le_refl 3) K
theorem Cl.ldT {s : St} {b : Nat} {t : Tk} (h : Cl s b t.cells) (K : AV → St → Prop) : onER (ldAV 5 (.ptr b 0) s) K = K (.agg t.cells) s := h.ldA (by decide) (Nat.le_refl 5) K
theorem Cl.bare {s : St} {b : Nat} {cs : List AV} (h : Cl s b cs) : Cl s.bare b cs := ⟨h.lt, h.row, h.len, h.cell⟩
theorem Ts.bare {s : St} {b : Nat} {ts : List Tk} (h : Ts s b ts) : Ts s.bare b ts := ⟨h.lt, h.len, h.cell⟩
theorem tk_0 (t : Tk) : t.cells.getD 0 .bad = .int .i64 (t.kind : Int) := nr rfl
theorem tk_1 (t : Tk) : t.cells.getD 1 .bad = .str t.text := nr rfl
theorem tk_2 (t : Tk) : t.cells.getD 2 .bad = .int .i64 (t.num : Int) := nr rfl
theorem tk_3 (t : Tk) : t.cells.getD 3 .bad = .int .i64 (t.line : Int) := nr rfl
theorem tk_4 (t : Tk) : t.cells.getD 4 .bad = .int .i64 (t.col : Int) := nr rfl
theorem neqTks (a b : Tk) (h : a = b) (st : St) (K : AV → St → Prop) : onER (genV Tryd.prog .neq 33 false (.agg a.cells) (.agg b.cells) st) K = K (.bool false) st := by rw [h]; exact neqTk b st K
theorem joins_ok (hb : ∀ f args st, f ≠ 9 → f ≠ 31 → base f args st = .no) (h9 : ∀ st, base 9 [] st = .ok (.bool true) st) (hP : PI base) {l m : List Nat} (hl : l.length ≤ 9223372036854775807) (hm : m.length ≤ 9223372036854775807) (h256 : ∀ x ∈ l, x < 256) (h256' : ∀ x ∈ m, x < 256) (st : St) : CW Tryd.prog base 5 [.str l, .str m] st fun v st' => v = .bool true ∧ Ext st st' := by
  refine fn_rule l5 (hb _ _ _ (by decide) (by decide)) ?_
  simp only [c5, entry, List.map_cons, List.map_nil, List.getD_cons_zero, List.getD_cons_succ]
  unfold b5
  simp (disch := first | decide | assumption | omega | (simp only [nx_nw, nx_wr, nx_ap, nx_bare, h_bare, len_nw, len_wr, List.length_cons, List.length_nil, cells_agg, cells_int, cells_str, cells_bool, cells_slice, cells_nils, cells_ptr, lall_cons, lall_nil, cell_int, cell_str, cell_bool, cell_slice, cell_nils, cell_ptr]; first | done | omega | decide)) only [Nat.reduceAdd, Nat.reduceSub, Nat.reduceMul, a_new, a_box, a_st, nx_nw, nx_wr, nx_ap, nx_bare, h_bare, len_nw, len_nwO, len_wr, at_nw, at_nwO, at_wr, at_wrB, at_wrA, at_wrO, cells_agg, cells_int, cells_str, cells_bool, cells_slice, cells_nils, cells_ptr, i_build3, rRa, rRb, rRc, Bool.not_true, Bool.not_false, List.cons_append, List.nil_append, List.append_nil]
  refine base_rule (h9 _) ?_
  by_cases h1 : 4000 < l.length
  · have h1' : (4000 : Int) < (l.length : Int) := by omega
    simp (disch := first | decide | assumption | omega | (simp only [nx_nw, nx_wr, nx_ap, nx_bare, h_bare, len_nw, len_wr, List.length_cons, List.length_nil, cells_agg, cells_int, cells_str, cells_bool, cells_slice, cells_nils, cells_ptr, lall_cons, lall_nil, cell_int, cell_str, cell_bool, cell_slice, cell_nils, cell_ptr]; first | done | omega | decide)) only [Nat.reduceAdd, Nat.reduceSub, Nat.reduceMul, a_new, a_box, a_st, nx_nw, nx_wr, nx_ap, nx_bare, h_bare, len_nw, len_nwO, len_wr, at_nw, at_nwO, at_wr, at_wrB, at_wrA, at_wrO, cells_agg, cells_int, cells_str, cells_bool, cells_slice, cells_nils, cells_ptr, i_build3, rRa, rRb, rRc, Bool.not_true, Bool.not_false, List.cons_append, List.nil_append, List.append_nil]
    exact ⟨trivial, Nat.le_refl _, rfl, fun _ _ => rfl⟩
  have h1' : ¬ (4000 : Int) < (l.length : Int) := by omega
  by_cases h2 : 4000 < m.length
  · have h2' : (4000 : Int) < (m.length : Int) := by omega
    simp (disch := first | decide | assumption | omega | (simp only [nx_nw, nx_wr, nx_ap, nx_bare, h_bare, len_nw, len_wr, List.length_cons, List.length_nil, cells_agg, cells_int, cells_str, cells_bool, cells_slice, cells_nils, cells_ptr, lall_cons, lall_nil, cell_int, cell_str, cell_bool, cell_slice, cell_nils, cell_ptr]; first | done | omega | decide)) only [Nat.reduceAdd, Nat.reduceSub, Nat.reduceMul, a_new, a_box, a_st, nx_nw, nx_wr, nx_ap, nx_bare, h_bare, len_nw, len_nwO, len_wr, at_nw, at_nwO, at_wr, at_wrB, at_wrA, at_wrO, cells_agg, cells_int, cells_str, cells_bool, cells_slice, cells_nils, cells_ptr, i_build3, rRa, rRb, rRc, Bool.not_true, Bool.not_false, List.cons_append, List.nil_append, List.append_nil]
    exact ⟨trivial, Nat.le_refl _, rfl, fun _ _ => rfl⟩
  have h2' : ¬ (4000 : Int) < (m.length : Int) := by omega
  simp (disch := first | decide | assumption | omega | (simp only [nx_nw, nx_wr, nx_ap, nx_bare, h_bare, len_nw, len_wr, List.length_cons, List.length_nil, cells_agg, cells_int, cells_str, cells_bool, cells_slice, cells_nils, cells_ptr, lall_cons, lall_nil, cell_int, cell_str, cell_bool, cell_slice, cell_nils, cell_ptr]; first | done | omega | decide)) only [Nat.reduceAdd, Nat.reduceSub, Nat.reduceMul, a_new, a_box, a_st, nx_nw, nx_wr, nx_ap, nx_bare, h_bare, len_nw, len_nwO, len_wr, at_nw, at_nwO, at_wr, at_wrB, at_wrA, at_wrO, cells_agg, cells_int, cells_str, cells_bool, cells_slice, cells_nils, cells_ptr, i_build3, rRa, rRb, rRc, Bool.not_true, Bool.not_false, List.cons_append, List.nil_append, List.append_nil]
  refine Cut_ok (fun f a s hf => hb _ a s (by intro h; subst h; simp at hf) (by intro h; subst h; simp at hf)) hP st.bare (by omega) h256 _ fun ba s1 e1 hTa => ?_
  have k1 := (Kept.refl st.bare).back e1
  have Ta : (cutT l).1 ≠ [] → Ts (Go.Ev.back st.bare s1) ba (cutT l).1 := fun h => ⟨(hTa h).1.lt, (hTa h).1.len, (hTa h).1.cell⟩
  generalize Go.Ev.back st.bare s1 = u1 at k1 Ta
  simp (disch := first | decide | assumption | omega | (simp only [cell_fl, fl_len, nx_nw, nx_wr, nx_ap, nx_bare, h_bare, len_nw, len_wr, List.length_cons, List.length_nil, cells_agg, cells_int, cells_str, cells_bool, cells_slice, cells_nils, cells_ptr, lall_cons, lall_nil, cell_int, cell_str, cell_bool, cell_slice, cell_nils, cell_ptr]; first | done | omega | decide)) only [cell_fl, fl_len, Nat.reduceAdd, Nat.reduceSub, Nat.reduceMul, a_new, a_box, a_st, nx_nw, nx_wr, nx_ap, nx_bare, h_bare, len_nw, len_nwO, len_wr, at_nw, at_nwO, at_wr, at_wrB, at_wrA, at_wrO, cells_agg, cells_int, cells_str, cells_bool, cells_slice, cells_nils, cells_ptr, i_build3, rRa, rRb, rRc, Bool.not_true, Bool.not_false, List.cons_append, List.nil_append, List.append_nil]
  have k2 : Kept st.bare (wr (nw u1 [.int .i64 0, .int .i64 0, .int .i64 0]) u1.nx 0 (fcells (cutT l).2)) := (k1.nw _).wr k1.nx _ _
  have Fa : Cl (wr (nw u1 [.int .i64 0, .int .i64 0, .int .i64 0]) u1.nx 0 (fcells (cutT l).2)) u1.nx (fcells (cutT l).2) := (Cl.new u1 [.int .i64 0, .int .i64 0, .int .i64 0]).wr 0 (fcells (cutT l).2)
  have ku : Kept u1 (wr (nw u1 [.int .i64 0, .int .i64 0, .int .i64 0]) u1.nx 0 (fcells (cutT l).2)) := ((Kept.refl _).nw _).wr (Nat.le_refl _) _ _
  have Ta := fun h => (Ta h).kept ku
  clear ku
  generalize wr (nw u1 [.int .i64 0, .int .i64 0, .int .i64 0]) u1.nx 0 (fcells (cutT l).2) = u2 at k2 Fa Ta ⊢
  generalize u1.nx = fa at Fa ⊢
  refine Cut_ok (fun f a s hf => hb _ a s (by intro h; subst h; simp at hf) (by intro h; subst h; simp at hf)) hP u2 (by omega) h256' _ fun bb s3 e3 hTb => ?_
  have k3 := k2.back e3
  have Tb : (cutT m).1 ≠ [] → Ts (Go.Ev.back u2 s3) bb (cutT m).1 := fun h => ⟨(hTb h).1.lt, (hTb h).1.len, (hTb h).1.cell⟩
  have Fa := Fa.kept (Kept.ext e3)
  have Ta := fun h => (Ta h).kept (Kept.ext e3)
  generalize Go.Ev.back u2 s3 = u3 at k3 Fa Ta Tb
  simp (disch := first | decide | assumption | omega | (simp only [cell_fl, fl_len, nx_nw, nx_wr, nx_ap, nx_bare, h_bare, len_nw, len_wr, List.length_cons, List.length_nil, cells_agg, cells_int, cells_str, cells_bool, cells_slice, cells_nils, cells_ptr, lall_cons, lall_nil, cell_int, cell_str, cell_bool, cell_slice, cell_nils, cell_ptr]; first | done | omega | decide)) only [cell_fl, fl_len, Nat.reduceAdd, Nat.reduceSub, Nat.reduceMul, a_new, a_box, a_st, nx_nw, nx_wr, nx_ap, nx_bare, h_bare, len_nw, len_nwO, len_wr, at_nw, at_nwO, at_wr, at_wrB, at_wrA, at_wrO, cells_agg, cells_int, cells_str, cells_bool, cells_slice, cells_nils, cells_ptr, i_build3, rRa, rRb, rRc, Bool.not_true, Bool.not_false, List.cons_append, List.nil_append, List.append_nil]
  have eN := fun (f : Nat × Nat × Nat) (s : St) (K : AV → St → Prop) => neqFl f s K
  have k4 : Kept st.bare (wr (nw u3 [.int .i64 0, .int .i64 0, .int .i64 0]) u3.nx 0 (fcells (cutT m).2)) := (k3.nw _).wr k3.nx _ _
  have Fb : Cl (wr (nw u3 [.int .i64 0, .int .i64 0, .int .i64 0]) u3.nx 0 (fcells (cutT m).2)) u3.nx (fcells (cutT m).2) := (Cl.new u3 [.int .i64 0, .int .i64 0, .int .i64 0]).wr 0 (fcells (cutT m).2)
  have ku : Kept u3 (wr (nw u3 [.int .i64 0, .int .i64 0, .int .i64 0]) u3.nx 0 (fcells (cutT m).2)) := ((Kept.refl _).nw _).wr (Nat.le_refl _) _ _
  have Fa := Fa.kept ku
  have Ta := fun h => (Ta h).kept ku
  have Tb := fun h => (Tb h).kept ku
  clear ku
  generalize wr (nw u3 [.int .i64 0, .int .i64 0, .int .i64 0]) u3.nx 0 (fcells (cutT m).2) = u4 at k4 Fa Fb Ta Tb ⊢
  generalize u3.nx = fb at Fb ⊢
  have hzl : ∀ x : List Nat, x.length ≤ 4000 → (cutT x).2 ≠ (0, 0, 0) ∨ ∃ ts, cutT x = (ts, (0, 0, 0)) := fun x hx => by
    by_cases h : (cutT x).2 = (0, 0, 0)
    · exact .inr ⟨(cutT x).1, by rw [← h]⟩
    · exact .inl h
  have lFa := Fa.ldF
  have lFb := Fb.ldF
  have done : Ext st u4.bare := ⟨k4.nx, rfl, k4.keep⟩
  rcases hzl l (by omega) with hfa | ⟨xs, hxs⟩
  · have d1 : decide ((cutT l).2 ≠ (0, 0, 0)) = true := decide_eq_true hfa
    simp (disch := first | decide | assumption | omega | (simp only [nx_nw, nx_wr, nx_ap, nx_bare, h_bare, len_nw, len_wr, List.length_cons, List.length_nil, cells_agg, cells_int, cells_str, cells_bool, cells_slice, cells_nils, cells_ptr, lall_cons, lall_nil, cell_int, cell_str, cell_bool, cell_slice, cell_nils, cell_ptr]; first | done | omega | decide)) only [lFa, eN, d1, Nat.reduceAdd, Nat.reduceSub, Nat.reduceMul, a_new, a_box, a_st, nx_nw, nx_wr, nx_ap, nx_bare, h_bare, len_nw, len_nwO, len_wr, at_nw, at_nwO, at_wr, at_wrB, at_wrA, at_wrO, cells_agg, cells_int, cells_str, cells_bool, cells_slice, cells_nils, cells_ptr, i_build3, rRa, rRb, rRc, Bool.not_true, Bool.not_false, List.cons_append, List.nil_append, List.append_nil]
    exact ⟨trivial, done⟩
  have d1 : decide ((cutT l).2 ≠ (0, 0, 0)) = false := decide_eq_false (by rw [hxs]; simp)
  rcases hzl m (by omega) with hfb | ⟨bs, hbs⟩
  · have d2 : decide ((cutT m).2 ≠ (0, 0, 0)) = true := decide_eq_true hfb
    simp (disch := first | decide | assumption | omega | (simp only [nx_nw, nx_wr, nx_ap, nx_bare, h_bare, len_nw, len_wr, List.length_cons, List.length_nil, cells_agg, cells_int, cells_str, cells_bool, cells_slice, cells_nils, cells_ptr, lall_cons, lall_nil, cell_int, cell_str, cell_bool, cell_slice, cell_nils, cell_ptr]; first | done | omega | decide)) only [lFa, lFb, eN, d1, d2, Nat.reduceAdd, Nat.reduceSub, Nat.reduceMul, a_new, a_box, a_st, nx_nw, nx_wr, nx_ap, nx_bare, h_bare, len_nw, len_nwO, len_wr, at_nw, at_nwO, at_wr, at_wrB, at_wrA, at_wrO, cells_agg, cells_int, cells_str, cells_bool, cells_slice, cells_nils, cells_ptr, i_build3, rRa, rRb, rRc, Bool.not_true, Bool.not_false, List.cons_append, List.nil_append, List.append_nil]
    exact ⟨trivial, done⟩
  have d2 : decide ((cutT m).2 ≠ (0, 0, 0)) = false := decide_eq_false (by rw [hbs]; simp)
  obtain ⟨wa, cs, LL, j1, j2, j3, j4, j5, j6, j7, j8, j9, j10, j11, j12, j13⟩ := joins_law (by omega) (by omega) h256 h256' hxs hbs
  have hxne : xs ≠ [] := fun h => by rw [h] at j2; simp at j2
  have etA : tsV ba (cutT l).1 = .slice ba 0 xs.length xs.length 5 false := by rw [hxs]; exact tsV_ne hxne
  have etB : tsV bb (cutT m).1 = .slice bb 0 bs.length bs.length 5 false := by rw [hbs]; exact tsV_ne j5
  rw [etA, etB]
  simp (disch := first | decide | assumption | omega | (simp only [nx_nw, nx_wr, nx_ap, nx_bare, h_bare, len_nw, len_wr, List.length_cons, List.length_nil, cells_agg, cells_int, cells_str, cells_bool, cells_slice, cells_nils, cells_ptr, lall_cons, lall_nil, cell_int, cell_str, cell_bool, cell_slice, cell_nils, cell_ptr]; first | done | omega | decide)) only [lFa, lFb, eN, d1, d2, Nat.reduceAdd, Nat.reduceSub, Nat.reduceMul, a_new, a_box, a_st, nx_nw, nx_wr, nx_ap, nx_bare, h_bare, len_nw, len_nwO, len_wr, at_nw, at_nwO, at_wr, at_wrB, at_wrA, at_wrO, cells_agg, cells_int, cells_str, cells_bool, cells_slice, cells_nils, cells_ptr, i_build3, rRa, rRb, rRc, Bool.not_true, Bool.not_false, List.cons_append, List.nil_append, List.append_nil]
  rw [hxs] at Ta
  rw [hbs] at Tb
  have Ta := Ta hxne
  have Tb := Tb j5
  clear lFa lFb Fa Fb
  refine wC_loopH (fun mm L s => ∃ k : Nat, k ≤ xs.length ∧ mm = xs.length - k ∧ Kept st.bare s ∧ Ts s ba xs ∧ Ts s bb bs ∧ Has L 0 (.str l) ∧ Has L 1 (.str m) ∧ Has L 5 (.slice ba 0 xs.length xs.length 5 false) ∧ Has L 7 (.slice bb 0 bs.length bs.length 5 false) ∧ Has L 9 (.str (agn (xs.take k))) ∧ Has L 49 (.slice ba 0 xs.length xs.length 5 false) ∧ Has L 50 (.int .i64 (xs.length : Int)) ∧ Has L 51 (.int .i64 (k : Int))) ?_ xs.length ?_
  · rintro mm L s ⟨k, hk, rfl, ks, Ta, Tb, i0, i1, i5, i7, i9, i49, i50, i51⟩
    unfold Hold
    have sfr : s.fr = [] := ks.fr
    by_cases hkn : k < xs.length
    · have lA := Ta.ld hkn
      generalize ht : xs.getD k ⟨0, [], 0, 0, 0⟩ = t at lA
      have et : agn (xs.take (k + 1)) = agn (xs.take k) ++ (t.text ++ [32]) := by
        rw [List.take_add_one, List.getElem?_eq_getElem hkn]
        rw [List.getD_eq_getElem?_getD, List.getElem?_eq_getElem hkn] at ht
        have ht' : xs[k] = t := ht
        rw [ht']
        exact agn_snoc _ t
      have hag : (agn (xs.take (k + 1))).length ≤ 8001 := by
        have e : agn xs = agn (xs.take (k + 1)) ++ agn (xs.drop (k + 1)) := by
          unfold agn
          rw [← List.flatten_append, ← List.map_append, List.take_append_drop]
        rw [e, List.length_append] at j8
        omega
      have hag2 := hag
      rw [et, List.length_append, List.length_append] at hag2
      have c1 := fun (s : St) (K : AV → St → Prop) => v_cat (a := t.text) (b := [32]) (by omega) s K
      have c2 := fun (s : St) (K : AV → St → Prop) => v_cat (a := agn (xs.take k)) (b := t.text ++ [32]) (by rw [List.length_append]; omega) s K
      rw [← et] at c2
      simp (disch := first | decide | assumption | omega | (simp only [cell_tk, tk_len, nx_nw, nx_wr, nx_ap, nx_bare, h_bare, len_nw, len_wr, List.length_cons, List.length_nil, cells_agg, cells_int, cells_str, cells_bool, cells_slice, cells_nils, cells_ptr, lall_cons, lall_nil, cell_int, cell_str, cell_bool, cell_slice, cell_nils, cell_ptr]; first | done | omega | decide)) only [r_onh i0, r_onh i1, r_onh i5, r_onh i7, r_onh i9, r_onh i49, r_onh i50, r_onh i51, Nat.zero_add, lA, tk_1, c1, c2, v_addN, cell_tk, tk_len, Nat.reduceAdd, Nat.reduceSub, Nat.reduceMul, a_new, a_box, a_st, nx_nw, nx_wr, nx_ap, nx_bare, h_bare, len_nw, len_nwO, len_wr, at_nw, at_nwO, at_wr, at_wrB, at_wrA, at_wrO, cells_agg, cells_int, cells_str, cells_bool, cells_slice, cells_nils, cells_ptr, i_build3, rRa, rRb, rRc, Bool.not_true, Bool.not_false, List.cons_append, List.nil_append, List.append_nil]
      have kz : ∀ cs : List AV, Kept s (wr (nw s cs) s.nx 0 t.cells) := fun cs => ((Kept.refl _).nw _).wr (Nat.le_refl _) _ _
      refine ⟨xs.length - (k + 1), by omega, k + 1, by omega, rfl, (ks.nw _).wr ks.nx _ _, Ta.kept (kz _), Tb.kept (kz _), ?_⟩
      simp (disch := decide) only [z0, z1, h_here, h_skip, i0, i1, i5, i7, i49, i50, true_and, and_true]
    · have hkx : k = xs.length := by omega
      subst hkx
      rw [List.take_length] at i9
      simp (disch := first | decide | assumption | omega | (simp only [nx_nw, nx_wr, nx_ap, nx_bare, h_bare, len_nw, len_wr, List.length_cons, List.length_nil, cells_agg, cells_int, cells_str, cells_bool, cells_slice, cells_nils, cells_ptr, lall_cons, lall_nil, cell_int, cell_str, cell_bool, cell_slice, cell_nils, cell_ptr]; first | done | omega | decide)) only [r_onh i0, r_onh i1, r_onh i5, r_onh i7, r_onh i9, r_onh i49, r_onh i50, r_onh i51, Nat.reduceAdd, Nat.reduceSub, Nat.reduceMul, a_new, a_box, a_st, nx_nw, nx_wr, nx_ap, nx_bare, h_bare, len_nw, len_nwO, len_wr, at_nw, at_nwO, at_wr, at_wrB, at_wrA, at_wrO, cells_agg, cells_int, cells_str, cells_bool, cells_slice, cells_nils, cells_ptr, i_build3, rRa, rRb, rRc, Bool.not_true, Bool.not_false, List.cons_append, List.nil_append, List.append_nil]
      refine Cut_ok (fun f a s hf => hb _ a s (by intro h; subst h; simp at hf) (by intro h; subst h; simp at hf)) hP s (by omega) j9 _ fun bc s5 e5 hTc => ?_
      have hcs : cs.length = xs.length := by
        have := congrArg List.length j11
        simpa using this
      have hcne : cs ≠ [] := fun h => by rw [h] at hcs; simp at hcs; omega
      rw [j10] at hTc
      have k5 := ks.back e5
      have kz := Kept.ext e5
      have Tc : Ts (Go.Ev.back s s5) bc cs := ⟨(hTc hcne).1.lt, (hTc hcne).1.len, (hTc hcne).1.cell⟩
      have Ta := Ta.kept kz
      have Tb := Tb.kept kz
      clear kz
      generalize Go.Ev.back s s5 = u5 at k5 Ta Tb Tc
      rw [j10]
      have etC : tsV bc cs = .slice bc 0 cs.length cs.length 5 false := tsV_ne hcne
      have c1 := fun (s : St) (K : AV → St → Prop) => v_cat (a := l) (b := [10]) (by show l.length + 1 ≤ _; omega) s K
      have c2 := fun (s : St) (K : AV → St → Prop) => v_cat (a := l ++ [10]) (b := m) (by rw [List.length_append]; show l.length + 1 + m.length ≤ _; omega) s K
      have eL : l ++ [10] ++ m = l ++ 10 :: m := by simp
      rw [eL] at c2
      rw [etC]
      simp (disch := first | decide | assumption | omega | (simp only [cell_fl, fl_len, nx_nw, nx_wr, nx_ap, nx_bare, h_bare, len_nw, len_wr, List.length_cons, List.length_nil, cells_agg, cells_int, cells_str, cells_bool, cells_slice, cells_nils, cells_ptr, lall_cons, lall_nil, cell_int, cell_str, cell_bool, cell_slice, cell_nils, cell_ptr]; first | done | omega | decide)) only [r_onh i0, r_onh i1, c1, c2, cell_fl, fl_len, Nat.reduceAdd, Nat.reduceSub, Nat.reduceMul, a_new, a_box, a_st, nx_nw, nx_wr, nx_ap, nx_bare, h_bare, len_nw, len_nwO, len_wr, at_nw, at_nwO, at_wr, at_wrB, at_wrA, at_wrO, cells_agg, cells_int, cells_str, cells_bool, cells_slice, cells_nils, cells_ptr, i_build3, rRa, rRb, rRc, Bool.not_true, Bool.not_false, List.cons_append, List.nil_append, List.append_nil]
      have kz : Kept u5 (wr (nw u5 [.int .i64 0, .int .i64 0, .int .i64 0]) u5.nx 0 (fcells (0, 0, 0))) := ((Kept.refl _).nw _).wr (Nat.le_refl _) _ _
      have k6 := k5.trans kz
      have Fc : Cl (wr (nw u5 [.int .i64 0, .int .i64 0, .int .i64 0]) u5.nx 0 (fcells (0, 0, 0))) u5.nx (fcells (0, 0, 0)) := (Cl.new u5 [.int .i64 0, .int .i64 0, .int .i64 0]).wr 0 (fcells (0, 0, 0))
      have Ta := Ta.kept kz
      have Tb := Tb.kept kz
      have Tc := Tc.kept kz
      clear kz
      generalize wr (nw u5 [.int .i64 0, .int .i64 0, .int .i64 0]) u5.nx 0 (fcells (0, 0, 0)) = u6 at k6 Fc Ta Tb Tc ⊢
      generalize u5.nx = fc at Fc ⊢
      have hlm : ∀ x ∈ l ++ 10 :: m, x < 256 := fun x hx => by
        rcases List.mem_append.1 hx with h | h
        · exact h256 x h
        · rcases List.mem_cons.1 h with h | h
          · omega
          · exact h256' x h
      refine Cut_ok (fun f a s hf => hb _ a s (by intro h; subst h; simp at hf) (by intro h; subst h; simp at hf)) hP u6 (by rw [List.length_append, List.length_cons]; omega) hlm _ fun bd s7 e7 hTd => ?_
      have hdne : wa ++ bs.map (shiftT LL) ≠ [] := by simp [j5]
      rw [j12] at hTd
      have k7 := k6.back e7
      have kz := Kept.ext e7
      have Td : Ts (Go.Ev.back u6 s7) bd (wa ++ bs.map (shiftT LL)) := ⟨(hTd hdne).1.lt, (hTd hdne).1.len, (hTd hdne).1.cell⟩
      have Ta := Ta.kept kz
      have Tb := Tb.kept kz
      have Tc := Tc.kept kz
      have Fc := Fc.kept kz
      clear kz
      generalize Go.Ev.back u6 s7 = u7 at k7 Ta Tb Tc Td Fc
      rw [j12]
      have etD : tsV bd (wa ++ bs.map (shiftT LL)) = .slice bd 0 (wa ++ bs.map (shiftT LL)).length (wa ++ bs.map (shiftT LL)).length 5 false := tsV_ne hdne
      have hdl : (wa ++ bs.map (shiftT LL)).length = wa.length + bs.length := by simp
      rw [etD]
      generalize hds : wa ++ bs.map (shiftT LL) = ds at Td hdl ⊢
      simp (disch := first | decide | assumption | omega | (simp only [cell_fl, fl_len, nx_nw, nx_wr, nx_ap, nx_bare, h_bare, len_nw, len_wr, List.length_cons, List.length_nil, cells_agg, cells_int, cells_str, cells_bool, cells_slice, cells_nils, cells_ptr, lall_cons, lall_nil, cell_int, cell_str, cell_bool, cell_slice, cell_nils, cell_ptr]; first | done | omega | decide)) only [cell_fl, fl_len, Nat.reduceAdd, Nat.reduceSub, Nat.reduceMul, a_new, a_box, a_st, nx_nw, nx_wr, nx_ap, nx_bare, h_bare, len_nw, len_nwO, len_wr, at_nw, at_nwO, at_wr, at_wrB, at_wrA, at_wrO, cells_agg, cells_int, cells_str, cells_bool, cells_slice, cells_nils, cells_ptr, i_build3, rRa, rRb, rRc, Bool.not_true, Bool.not_false, List.cons_append, List.nil_append, List.append_nil]
      have kz : Kept u7 (wr (nw u7 [.int .i64 0, .int .i64 0, .int .i64 0]) u7.nx 0 (fcells (0, 0, 0))) := ((Kept.refl _).nw _).wr (Nat.le_refl _) _ _
      have k8 := k7.trans kz
      have Fd : Cl (wr (nw u7 [.int .i64 0, .int .i64 0, .int .i64 0]) u7.nx 0 (fcells (0, 0, 0))) u7.nx (fcells (0, 0, 0)) := (Cl.new u7 [.int .i64 0, .int .i64 0, .int .i64 0]).wr 0 (fcells (0, 0, 0))
      have Ta := Ta.kept kz
      have Tb := Tb.kept kz
      have Tc := Tc.kept kz
      have Td := Td.kept kz
      have Fc := Fc.kept kz
      clear kz
      generalize wr (nw u7 [.int .i64 0, .int .i64 0, .int .i64 0]) u7.nx 0 (fcells (0, 0, 0)) = u8 at k8 Fc Fd Ta Tb Tc Td ⊢
      generalize u7.nx = fd at Fd ⊢
      have lFc := Fc.ldF
      have lFd := Fd.ldF
      have d0 : decide (((0, 0, 0) : Nat × Nat × Nat) ≠ (0, 0, 0)) = false := by decide
      have z1 : (cs.length : Int) = (xs.length : Int) := by omega
      have a1 := fun (s : St) (K : AV → St → Prop) => v_addNN (a := xs.length) (b := bs.length) (by omega) s K
      have a2 : ∀ (s : St) (K : AV → St → Prop), onER (binV .sub (.int .i64 ((xs.length + bs.length : Nat) : Int)) (.int .i64 1) s) K = K (.int .i64 (ds.length : Int)) s := fun s K => by
        rw [v_sub (by omega) (by omega), show ((xs.length + bs.length : Nat) : Int) - 1 = (ds.length : Int) by omega]
      simp (disch := first | decide | assumption | omega | (simp only [nx_nw, nx_wr, nx_ap, nx_bare, h_bare, len_nw, len_wr, List.length_cons, List.length_nil, cells_agg, cells_int, cells_str, cells_bool, cells_slice, cells_nils, cells_ptr, lall_cons, lall_nil, cell_int, cell_str, cell_bool, cell_slice, cell_nils, cell_ptr]; first | done | omega | decide)) only [r_onh i5, r_onh i7, lFc, lFd, eN, d0, a1, a2, Nat.reduceAdd, Nat.reduceSub, Nat.reduceMul, a_new, a_box, a_st, nx_nw, nx_wr, nx_ap, nx_bare, h_bare, len_nw, len_nwO, len_wr, at_nw, at_nwO, at_wr, at_wrB, at_wrA, at_wrO, cells_agg, cells_int, cells_str, cells_bool, cells_slice, cells_nils, cells_ptr, i_build3, rRa, rRb, rRc, Bool.not_true, Bool.not_false, List.cons_append, List.nil_append, List.append_nil]
      clear lFc lFd Fc Fd d0
      refine wC_loopH (fun mm L s => ∃ k : Nat, k ≤ xs.length ∧ mm = xs.length - k ∧ s = u8 ∧ Has L 5 (.slice ba 0 xs.length xs.length 5 false) ∧ Has L 7 (.slice bb 0 bs.length bs.length 5 false) ∧ Has L 12 (.slice bc 0 cs.length cs.length 5 false) ∧ Has L 14 (.slice bd 0 ds.length ds.length 5 false) ∧ Has L 101 (.int .i64 (xs.length : Int)) ∧ Has L 102 (.int .i64 (k : Int))) ?_ xs.length ?_
      · rintro mm L2 s2 ⟨k, hk2, rfl, rfl, q5, q7, q12, q14, q101, q102⟩
        unfold Hold
        by_cases hkn2 : k < xs.length
        · have hkc : k < cs.length := by omega
          have hcore : core (cs.getD k ⟨0, [], 0, 0, 0⟩) = core (xs.getD k ⟨0, [], 0, 0, 0⟩) := by
            have := congrArg (fun l => l.getD k (core ⟨0, [], 0, 0, 0⟩)) j11
            simpa [List.getD_eq_getElem?_getD, List.getElem?_map, List.getElem?_eq_getElem hkn2, List.getElem?_eq_getElem hkc] using this
          have ca : ∀ j, j < 5 → rat s2.h ba (k * 5 + j) = (xs.getD k ⟨0, [], 0, 0, 0⟩).cells.getD j .bad := fun j hj => by
            rw [Nat.mul_comm, Ta.cell _ (by omega), tcells_at hkn2 hj]
          have cc : ∀ j, j < 5 → rat s2.h bc (k * 5 + j) = (cs.getD k ⟨0, [], 0, 0, 0⟩).cells.getD j .bad := fun j hj => by
            rw [Nat.mul_comm, Tc.cell _ (by omega), tcells_at hkc hj]
          have ra := Ta.len
          have rc := Tc.len
          have g1 : k * 5 + 0 < rlen s2.h ba := by omega
          have g2 : k * 5 + 1 < rlen s2.h ba := by omega
          have g3 : k * 5 + 2 < rlen s2.h ba := by omega
          have g4 : k * 5 + 0 < rlen s2.h bc := by omega
          have g5 : k * 5 + 1 < rlen s2.h bc := by omega
          have g6 : k * 5 + 2 < rlen s2.h bc := by omega
          have ca0 := ca 0 (by decide)
          have ca1 := ca 1 (by decide)
          have ca2 := ca 2 (by decide)
          have cc0 := cc 0 (by decide)
          have cc1 := cc 1 (by decide)
          have cc2 := cc 2 (by decide)
          rw [tk_0] at ca0 cc0
          rw [tk_1] at ca1 cc1
          rw [tk_2] at ca2 cc2
          generalize xs.getD k ⟨0, [], 0, 0, 0⟩ = t1 at ca0 ca1 ca2 hcore
          generalize cs.getD k ⟨0, [], 0, 0, 0⟩ = t2 at cc0 cc1 cc2 hcore
          simp only [core, Prod.mk.injEq] at hcore
          obtain ⟨w0, w1, w2⟩ := hcore
          rw [w0] at cc0
          rw [w1] at cc1
          rw [w2] at cc2
          have z0 : k * 5 = k * 5 + 0 := rfl
          simp (disch := first | decide | assumption | omega | (simp only [nx_nw, nx_wr, nx_ap, nx_bare, h_bare, len_nw, len_wr, List.length_cons, List.length_nil, cells_agg, cells_int, cells_str, cells_bool, cells_slice, cells_nils, cells_ptr, lall_cons, lall_nil, cell_int, cell_str, cell_bool, cell_slice, cell_nils, cell_ptr]; first | done | omega | decide)) only [r_onh q5, r_onh q12, r_onh q101, r_onh q102, Nat.zero_add, ca0, ca1, ca2, cc0, cc1, cc2, v_strneq, v_addN, Nat.reduceAdd, Nat.reduceSub, Nat.reduceMul, a_new, a_box, a_st, nx_nw, nx_wr, nx_ap, nx_bare, h_bare, len_nw, len_nwO, len_wr, at_nw, at_nwO, at_wr, at_wrB, at_wrA, at_wrO, cells_agg, cells_int, cells_str, cells_bool, cells_slice, cells_nils, cells_ptr, i_build3, rRa, rRb, rRc, Bool.not_true, Bool.not_false, List.cons_append, List.nil_append, List.append_nil]
          refine ⟨xs.length - (k + 1), by omega, k + 1, by omega, rfl, by first | rfl | trivial, ?_⟩
          simp (disch := decide) only [z0, z1, h_here, h_skip, q5, q7, q12, q14, q101, true_and, and_true]
        · have hkx : k = xs.length := by omega
          subst hkx
          have lA := Ta.ld (show xs.length - 1 < xs.length by omega)
          have hlast : xs.length - 1 = wa.length := by omega
          rw [hlast] at lA
          generalize htl : xs.getD wa.length ⟨0, [], 0, 0, 0⟩ = tl at lA j6
          have a3 : ∀ (s : St) (K : AV → St → Prop), onER (binV .sub (.int .i64 (xs.length : Int)) (.int .i64 1) s) K = K (.int .i64 (wa.length : Int)) s := fun s K => by
            rw [v_sub (by omega) (by omega), show (xs.length : Int) - 1 = (wa.length : Int) by omega]
          have hwx : wa.length < xs.length := by omega
          simp (disch := first | decide | assumption | omega | (simp only [cell_tk, tk_len, nx_nw, nx_wr, nx_ap, nx_bare, h_bare, len_nw, len_wr, List.length_cons, List.length_nil, cells_agg, cells_int, cells_str, cells_bool, cells_slice, cells_nils, cells_ptr, lall_cons, lall_nil, cell_int, cell_str, cell_bool, cell_slice, cell_nils, cell_ptr]; first | done | omega | decide)) only [a3, r_onh q5, r_onh q12, r_onh q14, r_onh q101, r_onh q102, Nat.zero_add, lA, cell_tk, tk_len, Nat.reduceAdd, Nat.reduceSub, Nat.reduceMul, a_new, a_box, a_st, nx_nw, nx_wr, nx_ap, nx_bare, h_bare, len_nw, len_nwO, len_wr, at_nw, at_nwO, at_wr, at_wrB, at_wrA, at_wrO, cells_agg, cells_int, cells_str, cells_bool, cells_slice, cells_nils, cells_ptr, i_build3, rRa, rRb, rRc, Bool.not_true, Bool.not_false, List.cons_append, List.nil_append, List.append_nil]
          have kz : Kept s2 (wr (nw s2 [.int .i64 0, .str [], .int .i64 0, .int .i64 0, .int .i64 0]) s2.nx 0 tl.cells) := ((Kept.refl _).nw _).wr (Nat.le_refl _) _ _
          have Cg : Cl (wr (nw s2 [.int .i64 0, .str [], .int .i64 0, .int .i64 0, .int .i64 0]) s2.nx 0 tl.cells) s2.nx tl.cells := (Cl.new s2 [.int .i64 0, .str [], .int .i64 0, .int .i64 0, .int .i64 0]).wr 0 tl.cells
          have k9 := k8.trans kz
          have Ta := Ta.kept kz
          have Tb := Tb.kept kz
          have Td := Td.kept kz
          clear kz
          generalize wr (nw s2 [.int .i64 0, .str [], .int .i64 0, .int .i64 0, .int .i64 0]) s2.nx 0 tl.cells = u9 at k9 Cg Ta Tb Td ⊢
          generalize s2.nx = lb at Cg ⊢
          have hgd : ∀ k, k < wa.length → ds.getD k ⟨0, [], 0, 0, 0⟩ = xs.getD k ⟨0, [], 0, 0, 0⟩ := fun k hk => by
            rw [← hds, List.getD_eq_getElem?_getD, List.getD_eq_getElem?_getD, List.getElem?_append_left hk, ← j7, List.getElem?_dropLast, if_pos (by omega)]
          have hge : ∀ k, wa.length ≤ k → k < ds.length → ds.getD k ⟨0, [], 0, 0, 0⟩ = shiftT LL (bs.getD (k - wa.length) ⟨0, [], 0, 0, 0⟩) := fun k hk hk2 => by
            rw [← hds, List.getD_eq_getElem?_getD, List.getD_eq_getElem?_getD, List.getElem?_append_right hk, List.getElem?_map, List.getElem?_eq_getElem (by omega)]
            rfl
          refine wC_loopH (fun mm L s => ∃ k : Nat, k ≤ ds.length ∧ mm = ds.length - k ∧ Kept st.bare s ∧ Ts s ba xs ∧ Ts s bb bs ∧ Ts s bd ds ∧ Cl s lb tl.cells ∧ Has L 5 (.slice ba 0 xs.length xs.length 5 false) ∧ Has L 7 (.slice bb 0 bs.length bs.length 5 false) ∧ Has L 17 (.ptr lb 0) ∧ Has L 149 (.slice bd 0 ds.length ds.length 5 false) ∧ Has L 150 (.int .i64 (ds.length : Int)) ∧ Has L 151 (.int .i64 (k : Int))) ?_ ds.length ?_
          · rintro mm L3 s3 ⟨k, hk3, rfl, ks3, Ta, Tb, Td, Cg, p5, p7, p17, p149, p150, p151⟩
            unfold Hold
            have s3fr : s3.fr = [] := ks3.fr
            by_cases hkn3 : k < ds.length
            · have lD := Td.ld hkn3
              by_cases hkw : k < wa.length
              · have e1 := hgd k hkw
                rw [e1] at lD
                have hkw' : (k : Int) < (wa.length : Int) := by omega
                have Ta' := Ta.kept (((Kept.refl s3).nw [.int .i64 0, .str [], .int .i64 0, .int .i64 0, .int .i64 0]).wr (Nat.le_refl _) 0 (xs.getD k ⟨0, [], 0, 0, 0⟩).cells)
                have Tb' := Tb.kept (((Kept.refl s3).nw [.int .i64 0, .str [], .int .i64 0, .int .i64 0, .int .i64 0]).wr (Nat.le_refl _) 0 (xs.getD k ⟨0, [], 0, 0, 0⟩).cells)
                have Td' := Td.kept (((Kept.refl s3).nw [.int .i64 0, .str [], .int .i64 0, .int .i64 0, .int .i64 0]).wr (Nat.le_refl _) 0 (xs.getD k ⟨0, [], 0, 0, 0⟩).cells)
                have Cg' := Cg.kept (((Kept.refl s3).nw [.int .i64 0, .str [], .int .i64 0, .int .i64 0, .int .i64 0]).wr (Nat.le_refl _) 0 (xs.getD k ⟨0, [], 0, 0, 0⟩).cells)
                have Cx := (Cl.new s3 [.int .i64 0, .str [], .int .i64 0, .int .i64 0, .int .i64 0]).wr 0 (xs.getD k ⟨0, [], 0, 0, 0⟩).cells
                have ks3' := (ks3.nw [.int .i64 0, .str [], .int .i64 0, .int .i64 0, .int .i64 0]).wr ks3.nx 0 (xs.getD k ⟨0, [], 0, 0, 0⟩).cells
                have lA := Ta'.ld (show k < xs.length by omega)
                have lX := fun K => Cl.ldT (t := xs.getD k ⟨0, [], 0, 0, 0⟩) Cx K
                have hkx : k < xs.length := by omega
                simp (disch := first | decide | assumption | omega | (simp only [cell_tk, tk_len, nx_nw, nx_wr, nx_ap, nx_bare, h_bare, len_nw, len_wr, List.length_cons, List.length_nil, cells_agg, cells_int, cells_str, cells_bool, cells_slice, cells_nils, cells_ptr, lall_cons, lall_nil, cell_int, cell_str, cell_bool, cell_slice, cell_nils, cell_ptr]; first | done | omega | decide)) only [a3, r_onh p5, r_onh p7, r_onh p17, r_onh p149, r_onh p150, r_onh p151, Nat.zero_add, lD, lX, lA, neqTk, v_addN, cell_tk, tk_len, Nat.reduceAdd, Nat.reduceSub, Nat.reduceMul, a_new, a_box, a_st, nx_nw, nx_wr, nx_ap, nx_bare, h_bare, len_nw, len_nwO, len_wr, at_nw, at_nwO, at_wr, at_wrB, at_wrA, at_wrO, cells_agg, cells_int, cells_str, cells_bool, cells_slice, cells_nils, cells_ptr, i_build3, rRa, rRb, rRc, Bool.not_true, Bool.not_false, List.cons_append, List.nil_append, List.append_nil]
                refine ⟨ds.length - (k + 1), by omega, k + 1, by omega, rfl, ks3', Ta', Tb', Td', Cg', ?_⟩
                simp (disch := decide) only [z0, z1, h_here, h_skip, p5, p7, p17, p149, p150, true_and, and_true]
              · have hkw' : ¬ (k : Int) < (wa.length : Int) := by omega
                have hkw2 : (wa.length : Int) ≤ (k : Int) := by omega
                have e1 := hge k (by omega) hkn3
                rw [e1] at lD
                have hkb : k - wa.length < bs.length := by omega
                have hmem : bs.getD (k - wa.length) ⟨0, [], 0, 0, 0⟩ ∈ bs := by
                  rw [List.getD_eq_getElem?_getD, List.getElem?_eq_getElem hkb]
                  exact List.getElem_mem hkb
                have hline := j13 _ hmem
                have lB := Tb.ld hkb
                generalize hyb : bs.getD (k - wa.length) ⟨0, [], 0, 0, 0⟩ = y at lD lB hline
                have a4 : ∀ (s : St) (K : AV → St → Prop), onER (binV .sub (.int .i64 (k : Int)) (.int .i64 (xs.length : Int)) s) K = K (.int .i64 ((k : Int) - (xs.length : Int))) s := fun s K => v_sub (by omega) (by omega)
                have a5 : ∀ (s : St) (K : AV → St → Prop), onER (binV .add (.int .i64 ((k : Int) - (xs.length : Int))) (.int .i64 1) s) K = K (.int .i64 ((k - wa.length : Nat) : Int)) s := fun s K => by
                  rw [v_add (by omega) (by omega), show (k : Int) - (xs.length : Int) + 1 = ((k - wa.length : Nat) : Int) by omega]
                have a6 := fun (s : St) (K : AV → St → Prop) => v_addNN (a := y.line) (b := LL) (by omega) s K
                simp (disch := first | decide | assumption | omega | (simp only [cell_tk, tk_len, nx_nw, nx_wr, nx_ap, nx_bare, h_bare, len_nw, len_wr, List.length_cons, List.length_nil, cells_agg, cells_int, cells_str, cells_bool, cells_slice, cells_nils, cells_ptr, lall_cons, lall_nil, cell_int, cell_str, cell_bool, cell_slice, cell_nils, cell_ptr]; first | done | omega | decide)) only [a3, a4, a5, r_onh p5, r_onh p7, r_onh p17, r_onh p149, r_onh p150, r_onh p151, Nat.zero_add, lD, cell_tk, tk_len, Nat.reduceAdd, Nat.reduceSub, Nat.reduceMul, a_new, a_box, a_st, nx_nw, nx_wr, nx_ap, nx_bare, h_bare, len_nw, len_nwO, len_wr, at_nw, at_nwO, at_wr, at_wrB, at_wrA, at_wrO, cells_agg, cells_int, cells_str, cells_bool, cells_slice, cells_nils, cells_ptr, i_build3, rRa, rRb, rRc, Bool.not_true, Bool.not_false, List.cons_append, List.nil_append, List.append_nil]
                have kz : Kept s3 (wr (nw s3 [.int .i64 0, .str [], .int .i64 0, .int .i64 0, .int .i64 0]) s3.nx 0 (shiftT LL y).cells) := ((Kept.refl _).nw _).wr (Nat.le_refl _) _ _
                have Cx : Cl (wr (nw s3 [.int .i64 0, .str [], .int .i64 0, .int .i64 0, .int .i64 0]) s3.nx 0 (shiftT LL y).cells) s3.nx (shiftT LL y).cells := (Cl.new s3 [.int .i64 0, .str [], .int .i64 0, .int .i64 0, .int .i64 0]).wr 0 (shiftT LL y).cells
                have k10 := ks3.trans kz
                have Ta := Ta.kept kz
                have Tb := Tb.kept kz
                have Td := Td.kept kz
                have Cg := Cg.kept kz
                clear kz lB lD
                have lB := Tb.ld hkb
                generalize wr (nw s3 [.int .i64 0, .str [], .int .i64 0, .int .i64 0, .int .i64 0]) s3.nx 0 (shiftT LL y).cells = v1 at k10 Cx Cg Ta Tb Td lB ⊢
                generalize s3.nx = xb at Cx ⊢
                rw [hyb] at lB
                have hlb := Cg.lt
                have hxb := Cx.lt
                have r1 : rlen v1.h lb = 5 := Cg.len
                have r2 : rlen v1.h xb = 5 := Cx.len
                have g3 : rat v1.h lb 3 = .int .i64 (LL : Int) := by rw [Cg.cell 3 (show 3 < 5 by decide), ← j6]; rfl
                have lx := Cx.ldT
                have kq : ∀ (b : Nat) (h : b < v1.nx), b ≠ v1.nx := fun b h => Nat.ne_of_lt h
                have q1 : lb ≠ v1.nx := by omega
                have q2 : xb ≠ v1.nx := by omega
                have g4 : 3 < rlen (wr (nw v1 [.int .i64 0, .str [], .int .i64 0, .int .i64 0, .int .i64 0]) v1.nx 0 y.cells).h lb := by rw [len_wr, len_nwO q1, r1]; decide
                have kz : Kept v1 (wr (wr (nw v1 [.int .i64 0, .str [], .int .i64 0, .int .i64 0, .int .i64 0]) v1.nx 0 y.cells) v1.nx 3 [.int .i64 ((y.line + LL : Nat) : Int)]) := (((Kept.refl _).nw _).wr (Nat.le_refl _) _ _).wr (Nat.le_refl _) _ _
                have Cy : Cl (wr (wr (nw v1 [.int .i64 0, .str [], .int .i64 0, .int .i64 0, .int .i64 0]) v1.nx 0 y.cells) v1.nx 3 [.int .i64 ((y.line + LL : Nat) : Int)]) v1.nx (shiftT LL y).cells := ((Cl.new v1 [.int .i64 0, .str [], .int .i64 0, .int .i64 0, .int .i64 0]).wr 0 y.cells).wr 3 [.int .i64 ((y.line + LL : Nat) : Int)]
                have lX := (Cx.kept kz).ldT
                have lY := Cy.ldT
                simp (disch := first | decide | assumption | omega | (simp only [cell_tk, tk_len, nx_nw, nx_wr, nx_ap, nx_bare, h_bare, len_nw, len_wr, List.length_cons, List.length_nil, cells_agg, cells_int, cells_str, cells_bool, cells_slice, cells_nils, cells_ptr, lall_cons, lall_nil, cell_int, cell_str, cell_bool, cell_slice, cell_nils, cell_ptr]; first | done | omega | decide)) only [Nat.zero_add, lB, a6, tk_3, g3, r_onh p17, lX, lY, neqTk, r_onh p151, v_addN, cell_tk, tk_len, Nat.reduceAdd, Nat.reduceSub, Nat.reduceMul, a_new, a_box, a_st, nx_nw, nx_wr, nx_ap, nx_bare, h_bare, len_nw, len_nwO, len_wr, at_nw, at_nwO, at_wr, at_wrB, at_wrA, at_wrO, cells_agg, cells_int, cells_str, cells_bool, cells_slice, cells_nils, cells_ptr, i_build3, rRa, rRb, rRc, Bool.not_true, Bool.not_false, List.cons_append, List.nil_append, List.append_nil]
                refine ⟨ds.length - (k + 1), by omega, k + 1, by omega, rfl, k10.trans kz, Ta.kept kz, Tb.kept kz, Td.kept kz, Cg.kept kz, ?_⟩
                simp (disch := decide) only [z0, z1, h_here, h_skip, p5, p7, p17, p149, p150, true_and, and_true]
            · simp (disch := first | decide | assumption | omega | (simp only [nx_nw, nx_wr, nx_ap, nx_bare, h_bare, len_nw, len_wr, List.length_cons, List.length_nil, cells_agg, cells_int, cells_str, cells_bool, cells_slice, cells_nils, cells_ptr, lall_cons, lall_nil, cell_int, cell_str, cell_bool, cell_slice, cell_nils, cell_ptr]; first | done | omega | decide)) only [r_onh p5, r_onh p7, r_onh p17, r_onh p149, r_onh p150, r_onh p151, Nat.reduceAdd, Nat.reduceSub, Nat.reduceMul, a_new, a_box, a_st, nx_nw, nx_wr, nx_ap, nx_bare, h_bare, len_nw, len_nwO, len_wr, at_nw, at_nwO, at_wr, at_wrB, at_wrA, at_wrO, cells_agg, cells_int, cells_str, cells_bool, cells_slice, cells_nils, cells_ptr, i_build3, rRa, rRb, rRc, Bool.not_true, Bool.not_false, List.cons_append, List.nil_append, List.append_nil]
              exact ⟨trivial, ks3.nx, rfl, ks3.keep⟩
          · refine ⟨0, by omega, rfl, by first | exact k9 | trivial, Ta, Tb, Td, Cg, ?_⟩
            simp (disch := decide) only [z0, z1, h_here, h_skip, q5, q7, true_and, and_true]
      · refine ⟨0, by omega, rfl, by first | rfl | trivial, ?_⟩
        simp (disch := decide) only [z0, z1, h_here, h_skip, i5, i7, true_and, and_true]
  · refine ⟨0, by omega, rfl, by first | exact k4 | trivial, Ta, Tb, ?_⟩
    have e0 : agn (xs.take 0) = [] := rfl
    rw [e0]
    simp (disch := decide) only [z0, z1, h_here, h_skip, true_and, and_true]
end Go.Sy
end

section
set_option maxRecDepth 100000
namespace Go.Sy
open Go.Ev Go.Proofs
/-- what a call of the law does, at every two strings of a size that a string can have, where the library's error lies -/
theorem joins_calls (s t : ByteArray) (hl : s.size ≤ 9223372036854775807) (hm : t.size ≤ 9223372036854775807) (w : World) (hg : ∃ te pe, w.cell? ⟨1, 0, none⟩ = some (.iface te pe)) :
    Calls Tryd.prog 5 #[.string s, .string t] w fun e w' => e = .returned (.bool true) ∧ w'.os = w.os ∧ w'.tape = w.tape ∧ w'.output = w.output ∧ w.heap.size ≤ w'.heap.size ∧ ∀ k, k < w.heap.size → w'.heap[k]? = w.heap[k]? := by
  have hs : Sim (fun _ => .unborn) st0.h st0.nx w :=
    ⟨fun b B S e => (by cases e), fun b e => (by cases e), fun b b' B S S' e => (by cases e), fun b e => absurd rfl e, ⟨hg, fun b S e => by cases e⟩⟩
  have hll : ∀ u : ByteArray, u.size ≤ 9223372036854775807 → (u.data.toList.map UInt8.toNat).length ≤ 9223372036854775807 := fun u hu => by
    rw [List.length_map, Array.length_toList]; exact hu
  have h := CW.calls tryd_okP (draw_ok tryd_mixed) baseW_ok
    (joins_ok (base := baseW) (fun f args st h9 h31 => baseW_no f args st h9 h31) baseW_9 baseW_PI (hll s hl) (hll t hm) (bytes_lt s) (bytes_lt t) st0) (ι := fun _ => .unborn) (w := w) (vs := #[.string s, .string t]) hs
    (by simp only [VRs]; exact ⟨_, _, rfl, by simp only [VR]; exact ⟨s, rfl, rfl⟩, ⟨_, _, rfl, by simp only [VR]; exact ⟨t, rfl, rfl⟩, rfl⟩⟩)
  refine Calls.mono h fun e w' ⟨v, x, st', he, hK, ι', _, hv, _, hg, _⟩ => ?_
  rw [hK.1] at hv
  simp only [VR] at hv
  rw [hv] at he
  exact ⟨he, hg.os, hg.tape, hg.output, hg.size, fun k hk => hg.keep k hk (fun b S e => by cases e)⟩
end Go.Sy
end
