/-
  BlastFrames holds (the tied card of the second form): where the listed variables of the library lie as its text lays them, and at every model and state of bulk at most 1048576, the law answers true and its arguments read as they did.
-/
import Derived.Test.YtndomfbgcaiijaaGreatDoorRows
import Derived.Test.YtndomfbgcaiijaaGreatDoorCards
import Derived.Test.YtndomfbgcaiijaaGreatDoorTie
import Derived.Test.YtndomfbgcaiijaaGreatDoorBfSyF
import Derived.WalkKit
import Derived.FnData
import Derived.ProofKit
import Derived.OpenShut
import Derived.LaidMore
import Derived.ChangeMaps5
import Derived.Stop.Joined
import Derived.SevenTiedAt
import Derived.ReadAgain
import Derived.Deep.DeepHandedRow
import Derived.Deep.DeepWitnessRowRef
namespace Go.Proofs.YtndomfbgcaiijaaGreatDoor.blastFrames
open Go.ChangeShapes Go.WideShapes Go.ChangeAt Go.RowKit
set_option linter.unusedVariables false

theorem own : ownKnob Tryz.prog.godebug = none := by kernel_rfl
theorem glob1 : Tryz.prog.globalNamed "strconv.ErrRange" = some 1 := by kernel_rfl
theorem gtype1 : (Tryz.prog.globals[1]?).map (·.type) = some 254 := by kernel_rfl
theorem iface_of {P : Program} {w : World} {fuel : Nat} {t : TypeId} {ms : Array (String × TypeId)} (ht : P.underlying t = some (.interface ms)) {cs : List Value} {name : String} {d : DataW Unit} {p : List MemPlace}
    (h : DataW.trod (fun _ => ()) P w 0 (fun _ => true) false fuel t cs = some (.iface name d, p)) : ∃ u v, cs = [.iface u v] := by
  cases fuel with
  | zero => simp [DataW.trod] at h
  | succ n =>
    match cs with
    | [] => simp [DataW.trod, ht] at h
    | x :: r =>
      cases r with
      | nil =>
        cases x with
        | iface u v => exact ⟨u, v, rfl⟩
        | _ => simp [DataW.trod, ht] at h
      | cons y r => cases x <;> simp [DataW.trod, ht] at h
theorem laid_err {w : World} (h : laidMetH Tryz.prog Rows.blastFramesUptoRow.laid w) : ∃ te pe, w.cell? ⟨1, 0, none⟩ = some (.iface te pe) := by
  have h1 : laidMet Tryz.prog Rows.blastFramesUptoRow.laid w := by
    unfold laidMetH at h
    rw [show (Rows.blastFramesUptoRow.laid.filter fun x => x.2.handleName?.isSome) = [] from by kernel_rfl] at h
    exact h
  obtain ⟨ps, hL, _, _⟩ := h1
  obtain ⟨_, _, _, _, _, _, _, _, _, _, hL, _⟩ := hL
  obtain ⟨_, _, _, _, _, _, _, _, _, _, hL, _⟩ := hL
  obtain ⟨_, _, _, _, _, _, _, _, _, _, hL, _⟩ := hL
  obtain ⟨g, t, cs, fuel, p, q, hg, ht, hv, htr, _, _⟩ := hL
  rw [glob1] at hg
  cases hg
  rw [gtype1] at ht
  cases ht
  obtain ⟨u, v, hcs⟩ := iface_of Tryz.underlying254 htr
  refine ⟨u, v, ?_⟩
  rw [World.var?_cell glob1 hv 0, ← Array.getElem?_toList, hcs]
  rfl

theorem kids : Kids Tryz.prog (· < Tryz.prog.types.size) := kids_rows (by kernel_rfl) (by kernel_rfl)
theorem full : ∀ t e, t < Tryz.prog.types.size → Tryz.prog.underlying t = some (.slice e) → 0 < Tryz.prog.cellsOf e := slices_full_of Tryz.prog (by kernel_rfl)
theorem same_at {W W' : World} (hk : ∀ k, k < W.heap.size → W'.heap[k]? = W.heap[k]?) (p : MemPlace) (h : p.block < W.heap.size) : W.sameAt W' p := by
  cases p with
  | cell b off =>
    show W'.cell? ⟨b, off, none⟩ = W.cell? ⟨b, off, none⟩
    unfold World.cell?
    rw [hk b h]
  | map b => exact hk b h
theorem carry {H : Type} {enc : TypeId × Value → H} {P : Program} {W W' : World} {base : Nat} {sp : Nat → Bool} {held : Bool} (hk : ∀ k, k < W.heap.size → W'.heap[k]? = W.heap[k]?) : ∀ {ts : List TypeId} {vs : List Value} {ds : List (DataW H)} {ps : List MemPlace}, DataW.TrodAll enc P W base sp held ts vs ds ps → DataW.TrodAll enc P W' base sp held ts vs ds ps
  | [], [], [], _, h => h
  | _ :: _, _ :: _, _ :: _, _, ⟨p, q, ⟨n, h1⟩, h2, e⟩ => ⟨p, q, ⟨n, DataW.trod_carry n _ _ _ h1 fun x hx => same_at hk x (DataW.trod_lt n _ _ _ h1 x hx)⟩, carry hk h2, e⟩
mutual
theorem bulk_le {H : Type} : ∀ d : DataW H, Go.Sy.bulkD d ≤ Rows.uptoBulk d
  | .lit l => by cases l <;> simp [Go.Sy.bulkD, Rows.uptoBulk]
  | .nil => by simp [Go.Sy.bulkD, Rows.uptoBulk]
  | .ptr d => by have := bulk_le d; simp only [Go.Sy.bulkD, Rows.uptoBulk]; omega
  | .slice elems spare => by have h1 := bulks_le elems; have h2 := bulks_le spare; simp only [Go.Sy.bulkD, Rows.uptoBulk]; omega
  | .agg parts => by have := bulks_le parts; simp only [Go.Sy.bulkD, Rows.uptoBulk]; omega
  | .iface t d => by have := bulk_le d; simp only [Go.Sy.bulkD, Rows.uptoBulk]; omega
  | .map entries => by simp only [Go.Sy.bulkD, Rows.uptoBulk]; omega
  | .held h => by simp [Go.Sy.bulkD, Rows.uptoBulk]
theorem bulks_le {H : Type} : ∀ l : List (DataW H), Go.Sy.bulkDs l ≤ Rows.uptoBulkAll l
  | [] => by simp [Go.Sy.bulkDs, Rows.uptoBulkAll]
  | d :: r => by have h1 := bulk_le d; have h2 := bulks_le r; simp only [Go.Sy.bulkDs, Rows.uptoBulkAll]; omega
end

set_option maxRecDepth 100000 in
/-- What the walk gives, at every argument within the bound, in every world that holds the listed variables. -/
theorem contract (H : Type) (enc : TypeId × Value → H) (W : World) (args : Array Value) (ds gs : List (DataW H)) (before : List MemPlace)
    (hW : DataW.Whole enc Tryz.prog Tryz.f4.params.toList Rows.blastFramesSpec.vars false W args.toList ds gs before) (hL : laidMetH Tryz.prog Rows.blastFramesUptoRow.laid W) (hb : Rows.uptoSmall H (ds ++ gs) = true) {base0 : Nat} (hval : ∀ (j : Nat) t v, Tryz.f4.params[j]? = some t → args[j]? = some v → Value.okWide Tryz.prog W .any base0 t v) :
    Calls Tryz.prog 4 args W fun e W' => ∃ v, e = .returned v ∧ Rows.blastFramesSpec.post enc Tryz.prog Tryz.f4 false true false false W args v W' := by
  have hW' := hW
  obtain ⟨p, q, hA0, hV, rfl, hfz, hnd⟩ := hW
  have hA : DataW.TrodAll enc Tryz.prog W 0 (fun _ => true) true Tryz.f4.params.toList args.toList ds p := hA0
  have hAk := hA
  rw [Tryz.params4] at hA hval
  obtain ⟨v0, v1, d0, d1, p0, p1, rfl, rfl, rfl, ⟨n0, h0⟩, ⟨n1, h1⟩⟩ := trodAll_two hA
  obtain ⟨rfl, rfl⟩ := trodVars_none hV
  obtain ⟨m, hm1, hm2, hm3⟩ := (Go.Sy.rd_src (H := H) (w := W) n0).2.2 enc 0 (fun _ => true) true n0 _ _ _ (Nat.le_refl _) h0
  obtain ⟨a, len, cap, rfl⟩ := okWide_slice Tryz.underlying27 (hval 1 27 v1 rfl rfl)
  obtain ⟨x, hx1, hx2, hx3⟩ := (Go.Sy.rd_sv (H := H) (w := W) n1).2.2 enc 0 (fun _ => true) true n1 _ _ _ (Nat.le_succ _) h1
  replace hx3 : x.length + 1 ≤ Go.Sy.bulkD d1 := by
    have h := hx3
    dsimp only at h
    rw [Go.Sy.sum_ones] at h
    exact h
  have hxl : (x.map (·.1)).length = x.length := List.length_map ..
  have hbk : Rows.uptoBulkAll ([d0, d1] ++ []) ≤ 1048576 := of_decide_eq_true hb
  have hb2 : Rows.uptoBulk d0 + Rows.uptoBulk d1 ≤ 1048576 := by
    have : Rows.uptoBulkAll ([d0, d1] ++ []) = Rows.uptoBulk d0 + (Rows.uptoBulk d1 + 0) := by simp only [List.append_nil, Rows.uptoBulkAll]
    omega
  have b0 := bulk_le d0
  have b1 := bulk_le d1
  have walk := Go.Sy.law_calls (w := W) (vs := #[v0, .slice a len cap]) (Go.Sy.law4_ok Go.Sy.base3_NB Go.Sy.base3_8 Go.Sy.base3_PI m (x.map (·.1)) (by omega) (by omega)) (laid_err hL) ⟨v0, [.slice a len cap], rfl, Go.Sy.arg_src hm1, .slice a len cap, [], rfl, Go.Sy.arg_sv hx1, rfl⟩
  refine walk.mono fun e W' ⟨he, hos, _, hout, _, hk⟩ => ?_
  subst he
  refine ⟨_, rfl, Go.Ev.post_kept (pa := p0 ++ p1) (pv := []) hW' (fun _ _ _ => (trodAll_cons_mk (shut_bool Tryz.underlying4 _) trodAll_mk0)) (fun sp hsp => ?_) (fun _ _ => rfl) rfl hos hout hk (ok_one (by kernel_rfl) rfl (okWide_bool_mk Tryz.underlying4 _))⟩
  exact DataW.TrodAll.respare kids full (by rw [Tryz.params4]; decide) (carry hk hAk) (fun y hy => hsp y (by simpa using hy))

/-- A world for the witness: the door's own heap. -/
theorem laid_met (os : Os) (args : Array Value) : laidMet Tryz.prog Rows.blastFramesUptoRow.laid ((World.doorLaid Tryz.prog 400 os).forCall (fun _ _ => 0) ⟨#[], args, []⟩).memory := laidMet_of_run' 8 (by kernel_rfl) (by kernel_rfl)
def a0 : Value := .agg #[.slice none 0 0, .slice none 0 0, .slice none 0 0]
def a1 : Value := .slice none 0 0
theorem reads (os : Os) {H : Type} (enc : TypeId × Value → H) : ∃ places, DataW.whole enc Tryz.prog ((World.doorLaid Tryz.prog 400 os).forCall (fun _ _ => 0) ⟨#[], #[a0, a1], []⟩).memory Tryz.f4.params.toList Rows.blastFramesSpec.vars false #[a0, a1].toList 8 = some ([.agg [.nil, .nil, .nil], .nil], [], places) :=
  ⟨[], by kernel_rfl⟩

set_option maxRecDepth 100000 in
theorem liftedUpto (os : Os) (started : os.Started) (H : Type) (enc : TypeId × Value → H) (F : Stop.Interp) :
    ReturnsInHanded {} Tryz.checked os 4 .any ((Rows.OpenSpec.upto Rows.blastFramesSpec).preRow enc Tryz.prog Tryz.f4 Rows.blastFramesUptoRow.domain false Rows.blastFramesUptoRow.laid) (((Rows.OpenSpec.upto Rows.blastFramesSpec).at F).post enc Tryz.prog Tryz.f4 false true false false) := by
  obtain ⟨places, hx⟩ := reads os enc
  refine returnsInHanded_of_row (C := Tryz.checked) (s := Rows.OpenSpec.upto Rows.blastFramesSpec) own started (by kernel_rfl) Tryz.func4
    (witness_row_atRef (enc := enc) (C := Tryz.checked) false (World.doorLaid Tryz.prog 400 os) #[a0, a1] rfl (by kernel_rfl) (by kernel_rfl) (by kernel_rfl)
      (OpenSpec.preRow_of_cond 8 hx (by kernel_rfl) (fun k hk => by cases hk; kernel_rfl) (by kernel_rfl) (laid_met os _))) ?_
  intro W base args ds gs before hval hW hx2 hcond hx3 hL hx5 hx6
  exact contract H enc W args ds gs before hW hL (hcond _ rfl) hval

theorem saidUpto : Rows.BlastFramesUptoSaid :=
  OpenClaim.holds_of_cond 4 Tryz.f4 rfl rfl rfl rfl rfl rfl rfl ⟨rfl, rfl, rfl, rfl, rfl⟩ rfl rfl rfl rfl rfl (by kernel_rfl) Tryz.func4 (by kernel_rfl)
    (of_decide_eq_true (by kernel_rfl)) (by unfold Func.isWrapper; first | (rw [if_pos (by decide +kernel)]; kernel_rfl) | (rw [if_neg (by decide +kernel)]; exact ⟨rfl, rfl⟩))
    (fun os started H enc _ F => by rw [OpenClaim.pre_eq_preRow]; exact liftedUpto os started H enc F)

theorem plain (f : FuncId) (fn : Func) (hf : Tryz.pinned.checked.prog.funcNamed "lariat/lariatlaw19.BlastFrames" = some f) (hfn : Tryz.pinned.checked.prog.funcs[f]? = some fn) :
    true = Tryz.pinned.checked.prog.looks [] ∧ ∀ (j : Nat) t, fn.params[j]? = some t → Tryz.pinned.checked.prog.wantsStandIn t = false := by
  obtain rfl : f = 4 := Option.some.inj ((show Tryz.prog.funcNamed "lariat/lariatlaw19.BlastFrames" = some 4 by kernel_rfl).symm.trans hf) |>.symm
  obtain rfl : fn = Tryz.f4 := (Option.some.inj (Tryz.func4.symm.trans hfn)).symm
  refine ⟨by kernel_rfl, fun j t ht => ?_⟩
  rw [Tryz.params4] at ht
  match j, ht with
  | 0, ht =>
    obtain rfl : t = 26 := (Option.some.inj ht).symm
    exact (show Tryz.prog.wantsStandIn 26 = false by kernel_rfl)
  | 1, ht =>
    obtain rfl : t = 27 := (Option.some.inj ht).symm
    exact (show Tryz.prog.wantsStandIn 27 = false by kernel_rfl)
  | j + 2, ht => simp at ht

theorem proved : Rows.BlastFramesUptoCardSaid :=
  Claim7.holds_tied_plain_at .later [] _ _ _ _ saidUpto (fun _ h => by cases h) (by kernel_rfl) (fun _ h => by cases h) blastFramesUpto_row_tie rfl ⟨rfl, rfl⟩ (by kernel_rfl) rfl plain (by kernel_rfl)
end Go.Proofs.YtndomfbgcaiijaaGreatDoor.blastFrames
