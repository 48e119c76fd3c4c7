/-
  ParseJoins holds (the tied card): at every string that Go can hold where the listed variables of the library lie as its text lays them, the law answers true and the string reads as it did.
-/
import Derived.Test.YtbpohnnpklbmeaaDoorRows
import Derived.Test.YtbpohnnpklbmeaaDoorCards
import Derived.Test.YtbpohnnpklbmeaaDoorTie
import Derived.Test.YtbpohnnpklbmeaaDoorPjSyD
import Derived.WalkKit
import Derived.FnData
import Derived.ProofKit
import Derived.OpenShut
import Derived.LaidMore
import Derived.ChangeMaps5
import Derived.Stop.Joined
import Derived.SevenTiedAt
namespace Go.Proofs.YtbpohnnpklbmeaaDoor.parseJoins
open Go.ChangeShapes Go.WideShapes Go.ChangeAt Go.WideMaps Go.WideElems Go.RowKit
open Go.ChangeMaps (open_string shut_string)
set_option linter.unusedVariables false

theorem own : ownKnob Tryd.prog.godebug = none := by kernel_rfl

theorem glob1 : Tryd.prog.globalNamed "strconv.ErrRange" = some 1 := by kernel_rfl
theorem gtype1 : (Tryd.prog.globals[1]?).map (·.type) = some 94 := by kernel_rfl
theorem iface_of {P : Program} {w : World} {fuel : Nat} {t : TypeId} {ms : Array (String × TypeId)} (ht : P.underlying t = some (.interface ms)) {cs : List Value} {name : String} {d : DataW Unit} {p : List MemPlace}
    (h : DataW.trod (fun _ => ()) P w 0 (fun _ => true) false fuel t cs = some (.iface name d, p)) : ∃ u v, cs = [.iface u v] := by
  cases fuel with
  | zero => simp [DataW.trod] at h
  | succ n =>
    match cs with
    | [] => simp [DataW.trod, ht] at h
    | x :: r =>
      cases r with
      | nil =>
        cases x with
        | iface u v => exact ⟨u, v, rfl⟩
        | _ => simp [DataW.trod, ht] at h
      | cons y r => cases x <;> simp [DataW.trod, ht] at h
theorem laid_err {w : World} (h : laidMetH Tryd.prog Rows.parseJoinsRow.laid w) : ∃ te pe, w.cell? ⟨1, 0, none⟩ = some (.iface te pe) := by
  have h1 : laidMet Tryd.prog Rows.parseJoinsRow.laid w := by
    unfold laidMetH at h
    rw [show (Rows.parseJoinsRow.laid.filter fun x => x.2.handleName?.isSome) = [] from by kernel_rfl] at h
    exact h
  obtain ⟨ps, hL, _, _⟩ := h1
  obtain ⟨_, _, _, _, _, _, _, _, _, _, hL, _⟩ := hL
  obtain ⟨_, _, _, _, _, _, _, _, _, _, hL, _⟩ := hL
  obtain ⟨_, _, _, _, _, _, _, _, _, _, hL, _⟩ := hL
  obtain ⟨g, t, cs, fuel, p, q, hg, ht, hv, htr, _, _⟩ := hL
  rw [glob1] at hg
  cases hg
  rw [gtype1] at ht
  cases ht
  obtain ⟨u, v, hcs⟩ := iface_of Tryd.underlying94 htr
  refine ⟨u, v, ?_⟩
  rw [World.var?_cell glob1 hv 0, ← Array.getElem?_toList, hcs]
  rfl

/-- The door's own heap meets the condition. -/
theorem door_met (os : Os) (args : Array Value) : laidMetH Tryd.prog Rows.parseJoinsRow.laid ((World.doorLaid Tryd.prog 400 os).forCall (fun _ _ => 0) ⟨#[], args, []⟩).memory :=
  laidMetH_of_parts3 (fuel := 8) (laidMet_of_run' 8 (by kernel_rfl) (by kernel_rfl)) (by kernel_rfl) (by kernel_rfl)

set_option maxRecDepth 100000 in
theorem lifted (os : Os) (started : os.Started) (H : Type) (enc : TypeId × Value → H) :
    ReturnsInHanded {} Tryd.checked os 4 .any (fun w args => (Rows.parseJoinsSpec.pre enc Tryd.prog Tryd.f4 [] false w args ∧ laidMetH Tryd.prog Rows.parseJoinsRow.laid w) ∧ sizedMet enc Tryd.prog Tryd.f4 (OpenSpec.ofChange Rows.parseJoinsSpec) false w args)
      (Rows.parseJoinsSpec.post enc Tryd.prog Tryd.f4 false true false false) := by
  refine returnsInHanded_of_change_and (C := Tryd.checked) (X := fun w _ => laidMetH Tryd.prog Rows.parseJoinsRow.laid w) (fun _ _ _ hh h => h.of_heap hh) own started (by kernel_rfl) Tryd.func4
    (ChangeSpec.witness_shaped (enc := enc) (C := Tryd.checked) (os := os) (X := fun w _ => laidMetH Tryd.prog Rows.parseJoinsRow.laid w) false (World.doorLaid Tryd.prog 400 os) #[.string ⟨#[]⟩, .string ⟨#[]⟩] 8 rfl (World.shaped_of_RefB (by kernel_rfl) (by kernel_rfl)) (by kernel_rfl) (by kernel_rfl) (by kernel_rfl) (door_met os _)) ?_
  intro W base args ds gs before hval0 hW hx1 hx2 hx3 hx4
  have hval : ∀ (j : Nat) t v, Tryd.f4.params[j]? = some t → args[j]? = some v → Value.okWide Tryd.prog W .any base t v := hval0
  have hW' := hW
  obtain ⟨p, q, hA0, hV, rfl, hfz, hnd⟩ := hW
  have hA : DataW.TrodAll enc Tryd.prog W 0 (fun _ => true) true Tryd.f4.params.toList args.toList ds p := hA0
  rw [Tryd.params4] at hA hval
  obtain ⟨v0, v1, d0, d1, p0, p1, rfl, rfl, rfl, h0, h1⟩ := trodAll_two hA
  obtain ⟨s, rfl, rfl, rfl, hs⟩ := open_string Tryd.underlying9 (hval 0 9 v0 rfl rfl) h0
  obtain ⟨t, rfl, rfl, rfl, ht⟩ := open_string Tryd.underlying9 (hval 1 9 v1 rfl rfl) h1
  obtain ⟨rfl, rfl⟩ := trodVars_none hV
  clear hA0 hval0
  simp only [List.append_nil] at hW'
  have hs' : s.size ≤ 9223372036854775807 := hs
  have ht' : t.size ≤ 9223372036854775807 := ht
  refine (Go.Sy.joins_calls s t hs' ht' W (laid_err hx3)).mono fun e W' ⟨he, hos, _, hout, _, hk⟩ => ?_
  subst he
  exact ⟨_, rfl, Go.Ev.post_kept (pa := []) (pv := []) hW' (fun _ _ _ => (trodAll_cons_mk (shut_bool Tryd.underlying4 _) trodAll_mk0)) (fun sp _ => (trodAll_cons_mk (shut_string Tryd.underlying9 hs) (trodAll_cons_mk (shut_string Tryd.underlying9 ht) trodAll_mk0))) (fun _ _ => rfl) rfl hos hout hk
    (ok_one (by kernel_rfl) rfl (okWide_bool_mk Tryd.underlying4 _))⟩

theorem row_holds : Rows.ParseJoinsSaid :=
  OpenClaim.holds_of_wide 4 Tryd.f4 rfl rfl rfl rfl rfl rfl rfl ⟨rfl, rfl, rfl, rfl, rfl⟩ rfl rfl rfl rfl rfl (by kernel_rfl) Tryd.func4 (by kernel_rfl)
    (of_decide_eq_true (by kernel_rfl)) (by unfold Func.isWrapper; first | (rw [if_pos (by decide +kernel)]; kernel_rfl) | (rw [if_neg (by decide +kernel)]; exact ⟨rfl, rfl⟩))
    (fun os started H enc _ => lifted os started H enc)

theorem proved : Rows.ParseJoinsCardSaid :=
  Claim7.holds_tied_plain_at .later [] _ _ _ _
    row_holds (fun _ h => by cases h) (by kernel_rfl) (fun _ h => by cases h) parseJoins_row_tie rfl ⟨rfl, rfl⟩ (by kernel_rfl) rfl
    (fun f fn hf hfn => by
      obtain rfl : f = 4 := Option.some.inj ((show Tryd.prog.funcNamed "lariat/lariatlaw15.ParseJoins" = some 4 by kernel_rfl).symm.trans hf) |>.symm
      obtain rfl : fn = Tryd.f4 := (Option.some.inj (Tryd.func4.symm.trans hfn)).symm
      exact ⟨by kernel_rfl, fun j t ht => by
        rw [Tryd.params4] at ht
        match j, ht with
        | 0, ht =>
          obtain rfl : t = 9 := (Option.some.inj ht).symm
          show Tryd.prog.wantsStandIn 9 = false
          kernel_rfl
        | 1, ht =>
          obtain rfl : t = 9 := (Option.some.inj ht).symm
          show Tryd.prog.wantsStandIn 9 = false
          kernel_rfl
        | j + 2, ht => simp at ht⟩)
    (by kernel_rfl)
end Go.Proofs.YtbpohnnpklbmeaaDoor.parseJoins
