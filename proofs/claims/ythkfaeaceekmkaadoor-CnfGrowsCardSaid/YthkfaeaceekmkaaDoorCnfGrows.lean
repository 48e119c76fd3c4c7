/-
  CnfGrows holds (the tied card): where the listed variables of the library lie as its text lays them, at every argument that Go can hold, the law answers true and its arguments read as they did; no further condition.
-/
import Derived.Test.YthkfaeaceekmkaaDoorRows
import Derived.Test.YthkfaeaceekmkaaDoorCards
import Derived.Test.YthkfaeaceekmkaaDoorTie
import Derived.Test.YthkfaeaceekmkaaDoorCnSyD
import Derived.WalkKit
import Derived.FnData
import Derived.ProofKit
import Derived.OpenShut
import Derived.LaidMore
import Derived.ChangeMaps5
import Derived.Stop.Joined
import Derived.SevenTiedAt
import Derived.ReadAgain
import Derived.Deep.DeepHandedRow
import Derived.Lay
import Derived.LaidLaws
import Derived.MakeChecks
import Derived.Lib.LaidTab
import Derived.Shelf.Vars
namespace Go.Proofs.YthkfaeaceekmkaaDoor.cnfGrows
open Go.ChangeShapes Go.WideShapes Go.ChangeAt Go.RowKit
set_option linter.unusedVariables false

theorem own : ownKnob Tryd.prog.godebug = none := by kernel_rfl
theorem tab_of {w : World} (h : laidMetH Tryd.prog Rows.cnfGrowsRow.laid w) : Lib.TabIs Tryd.prog w "internal/strconv.uint64pow10" .u64 Lib.pow10Tab := by
  have h1 : laidMet Tryd.prog Rows.cnfGrowsRow.laid w := by
    unfold laidMetH at h
    rw [show (Rows.cnfGrowsRow.laid.filter fun x => x.2.handleName?.isSome) = [] from by kernel_rfl] at h
    exact h
  obtain ⟨ps, hL, _, _⟩ := h1
  obtain ⟨_, _, _, _, _, _, _, _, _, _, hL, _⟩ := hL
  obtain ⟨_, _, _, _, _, _, _, _, _, _, hL, _⟩ := hL
  obtain ⟨g, t, cs, fuel, p, q, hg, ht, hv, htr, _, _⟩ := hL
  rw [show Tryd.prog.globalNamed "internal/strconv.uint64pow10" = some 0 by kernel_rfl] at hg
  cases hg
  rw [show (Tryd.prog.globals[0]?).map (·.type) = some 117 by kernel_rfl] at ht
  cases ht
  unfold Lib.TabIs
  rw [hv, ← Lib.cells_of_tab (k := .u64) (zs := Lib.pow10Tab) Tryd.underlying117 Tryd.underlying98 (by kernel_rfl) (by kernel_rfl) htr]
theorem gw_of {w : World} (h : laidMetH Tryd.prog Rows.cnfGrowsRow.laid w) (hsh : w.ShapedOpen Tryd.prog) : Go.Ev.GW w :=
  Go.Sy.gw_mk (tab_of h) (cell_of_shapedOpen_int (P := Tryd.prog) (g := 3) (t := 3) (zero := #[.int .i64 0]) hsh (of_decide_eq_true (by kernel_rfl)) (by kernel_rfl) rfl (by kernel_rfl) (by kernel_rfl) Tryd.underlying3)

theorem kids : Kids Tryd.prog (· < Tryd.prog.types.size) := kids_rows (by kernel_rfl) (by kernel_rfl)
theorem full : ∀ t e, t < Tryd.prog.types.size → Tryd.prog.underlying t = some (.slice e) → 0 < Tryd.prog.cellsOf e := slices_full_of Tryd.prog (by kernel_rfl)
theorem same_at {W W' : World} (hk : ∀ k, k < W.heap.size → W'.heap[k]? = W.heap[k]?) (p : MemPlace) (h : p.block < W.heap.size) : W.sameAt W' p := by
  cases p with
  | cell b off =>
    show W'.cell? ⟨b, off, none⟩ = W.cell? ⟨b, off, none⟩
    unfold World.cell?
    rw [hk b h]
  | map b => exact hk b h
theorem carry {H : Type} {enc : TypeId × Value → H} {P : Program} {W W' : World} {base : Nat} {sp : Nat → Bool} {held : Bool} (hk : ∀ k, k < W.heap.size → W'.heap[k]? = W.heap[k]?) : ∀ {ts : List TypeId} {vs : List Value} {ds : List (DataW H)} {ps : List MemPlace}, DataW.TrodAll enc P W base sp held ts vs ds ps → DataW.TrodAll enc P W' base sp held ts vs ds ps
  | [], [], [], _, h => h
  | _ :: _, _ :: _, _ :: _, _, ⟨p, q, ⟨n, h1⟩, h2, e⟩ => ⟨p, q, ⟨n, DataW.trod_carry n _ _ _ h1 fun x hx => same_at hk x (DataW.trod_lt n _ _ _ h1 x hx)⟩, carry hk h2, e⟩

set_option maxRecDepth 100000 in
/-- What the walk gives, at every argument, in every world that holds the listed variables. -/
theorem contract (H : Type) (enc : TypeId × Value → H) (W : World) (args : Array Value) (ds gs : List (DataW H)) (before : List MemPlace)
    (hW : DataW.Whole enc Tryd.prog Tryd.f4.params.toList Rows.cnfGrowsSpec.vars false W args.toList ds gs before) (hL : laidMetH Tryd.prog Rows.cnfGrowsRow.laid W) (hsh : W.ShapedOpen Tryd.prog)
    {base0 : Nat} (hval : ∀ (j : Nat) t v, Tryd.f4.params[j]? = some t → args[j]? = some v → Value.okWide Tryd.prog W .any base0 t v) :
    Calls Tryd.prog 4 args W fun e W' => ∃ v, e = .returned v ∧ Rows.cnfGrowsSpec.post enc Tryd.prog Tryd.f4 false true false false W args v W' := by
  have hW' := hW
  obtain ⟨p, q, hA0, hV, rfl, hfz, hnd⟩ := hW
  have hA : DataW.TrodAll enc Tryd.prog W 0 (fun _ => true) true Tryd.f4.params.toList args.toList ds p := hA0
  have hAk := hA
  rw [Tryd.params4] at hA hval
  obtain ⟨v0, v1, v2, d0, d1, d2, p0, p1, p2, rfl, rfl, rfl, ⟨n0, h0⟩, ⟨n1, h1⟩, ⟨n2, h2⟩⟩ := trodAll_three hA
  obtain ⟨rfl, rfl⟩ := trodVars_none hV
  obtain ⟨x0, hx0, _, _⟩ := (Go.Sy.rd_fm (H := H) (w := W) n0).2.2 enc 0 (fun _ => true) true n0 _ _ _ (by omega) h0
  obtain ⟨a1, len1, cap1, rfl⟩ := okWide_slice Tryd.underlying33 (hval 1 33 v1 rfl rfl)
  obtain ⟨x1, hx1, _, _⟩ := (Go.Sy.rd_lits (H := H) (w := W) n1).2.2 enc 0 (fun _ => true) true n1 _ _ _ (by omega) h1
  obtain ⟨a2, len2, cap2, rfl⟩ := okWide_slice Tryd.underlying34 (hval 2 34 v2 rfl rfl)
  obtain ⟨x2, hx2, _, _⟩ := (Go.Sy.rd_bools (H := H) (w := W) n2).2.2 enc 0 (fun _ => true) true n2 _ _ _ (by omega) h2
  have walk := Go.Sy.law_calls (w := W) (vs := #[v0, .slice a1 len1 cap1, .slice a2 len2 cap2]) (Go.Sy.law4_ok Go.Sy.baseC_NB Go.Sy.baseC_PC Go.Sy.baseC_PW ⟨x0.1.1, x0.2.map Go.Sy.vals⟩ (Go.Sy.vals x1) x2) (gw_of hL hsh) ⟨v0, [.slice a1 len1 cap1, .slice a2 len2 cap2], rfl, Go.Sy.arg_fm hx0, ⟨.slice a1 len1 cap1, [.slice a2 len2 cap2], rfl, Go.Sy.arg_sl hx1, ⟨.slice a2 len2 cap2, [], rfl, Go.Sy.arg_sl hx2, rfl⟩⟩⟩
  refine walk.mono fun e W' ⟨he, hos, _, hout, _, hk⟩ => ?_
  subst he
  refine ⟨_, rfl, Go.Ev.post_kept (pa := p0 ++ p1 ++ p2) (pv := []) hW' (fun _ _ _ => (trodAll_cons_mk (shut_bool Tryd.underlying4 _) trodAll_mk0)) (fun sp hsp => ?_) (fun _ _ => rfl) rfl hos hout hk (ok_one (by kernel_rfl) rfl (okWide_bool_mk Tryd.underlying4 _))⟩
  exact DataW.TrodAll.respare kids full (by rw [Tryd.params4]; decide) (carry hk hAk) (fun y hy => hsp y (by simpa using hy))

/-- A heap that holds what is listed meets the condition. -/
theorem door_met (os : Os) (args : Array Value) : laidMetH Tryd.prog Rows.cnfGrowsRow.laid ((World.laidAll Tryd.prog os Rows.cnfGrowsRow.laid).forCall (fun _ _ => 0) ⟨#[], args, []⟩).memory :=
  by rw [MakeChecks.laidMetH_plain _ _ _ (by kernel_rfl)]; exact laidMet_laidAll _ (by kernel_rfl) (by kernel_rfl)
theorem reads (os : Os) {H : Type} (enc : TypeId × Value → H) : ∃ places, DataW.whole enc Tryd.prog ((World.laidAll Tryd.prog os Rows.cnfGrowsRow.laid).forCall (fun _ _ => 0) ⟨#[], #[(.agg #[.int .i64 0, .slice none 0 0] : Value), (.slice none 0 0 : Value), (.slice none 0 0 : Value)], []⟩).memory Tryd.f4.params.toList Rows.cnfGrowsSpec.vars false (#[(.agg #[.int .i64 0, .slice none 0 0] : Value), (.slice none 0 0 : Value), (.slice none 0 0 : Value)]).toList 8 = some ([.agg [.lit (.int .i64 0), .nil], .nil, .nil], [], places) :=
  ⟨[], by kernel_rfl⟩

set_option maxRecDepth 100000 in
theorem lifted (os : Os) (started : os.Started) (H : Type) (enc : TypeId × Value → H) (F : Stop.Interp) :
    ReturnsInHanded {} Tryd.checked os 4 .any ((OpenSpec.ofChange Rows.cnfGrowsSpec).preRow enc Tryd.prog Tryd.f4 Rows.cnfGrowsRow.domain false Rows.cnfGrowsRow.laid) (((OpenSpec.ofChange Rows.cnfGrowsSpec).at F).post enc Tryd.prog Tryd.f4 false true false false) := by
  obtain ⟨places, hx⟩ := reads os enc
  refine returnsInHanded_of_row (C := Tryd.checked) (s := OpenSpec.ofChange Rows.cnfGrowsSpec) own started (by kernel_rfl) Tryd.func4
    ⟨World.laidAll Tryd.prog os Rows.cnfGrowsRow.laid, fun _ _ => 0, ⟨#[], #[(.agg #[.int .i64 0, .slice none 0 0] : Value), (.slice none 0 0 : Value), (.slice none 0 0 : Value)], []⟩, World.laidAll_os _ _ _, World.shaped_of_ZipB (by kernel_rfl) (by kernel_rfl), rfl, (Input.okWide_of_okWideB (by kernel_rfl)).2,
      OpenSpec.preRow_of_cond 8 hx (by kernel_rfl) (fun k hk => by cases hk) (by kernel_rfl) (door_met os _), by
        simp only [Assume.holds]
        exact ⟨by simp, by simp, fun _ => Modest.zero, by simp, by simp⟩⟩ ?_
  intro W base args ds gs before hval hW hx2 hcond hx3 hL hx5 hx6
  exact contract H enc W args ds gs before hW hL hx5 hval

theorem said : Rows.CnfGrowsSaid :=
  OpenClaim.holds_of_cond 4 Tryd.f4 rfl rfl rfl rfl rfl rfl rfl ⟨rfl, rfl, rfl, rfl, rfl⟩ rfl rfl rfl rfl rfl (by kernel_rfl) Tryd.func4 (by kernel_rfl)
    (of_decide_eq_true (by kernel_rfl)) (by unfold Func.isWrapper; first | (rw [if_pos (by decide +kernel)]; kernel_rfl) | (rw [if_neg (by decide +kernel)]; exact ⟨rfl, rfl⟩))
    (fun os started H enc _ F => by rw [OpenClaim.pre_eq_preRow]; exact lifted os started H enc F)

theorem plain (f : FuncId) (fn : Func) (hf : Tryd.pinned.checked.prog.funcNamed "lariat/lariatlaw02.CnfGrows" = some f) (hfn : Tryd.pinned.checked.prog.funcs[f]? = some fn) :
    true = Tryd.pinned.checked.prog.looks [] ∧ ∀ (j : Nat) t, fn.params[j]? = some t → Tryd.pinned.checked.prog.wantsStandIn t = false := by
  obtain rfl : f = 4 := Option.some.inj ((show Tryd.prog.funcNamed "lariat/lariatlaw02.CnfGrows" = some 4 by kernel_rfl).symm.trans hf) |>.symm
  obtain rfl : fn = Tryd.f4 := (Option.some.inj (Tryd.func4.symm.trans hfn)).symm
  refine ⟨by kernel_rfl, fun j t ht => ?_⟩
  rw [Tryd.params4] at ht
  match j, ht with
  | 0, ht =>
    obtain rfl : t = 24 := (Option.some.inj ht).symm
    exact (show Tryd.prog.wantsStandIn 24 = false by kernel_rfl)
  | 1, ht =>
    obtain rfl : t = 33 := (Option.some.inj ht).symm
    exact (show Tryd.prog.wantsStandIn 33 = false by kernel_rfl)
  | 2, ht =>
    obtain rfl : t = 34 := (Option.some.inj ht).symm
    exact (show Tryd.prog.wantsStandIn 34 = false by kernel_rfl)
  | j + 3, ht => simp at ht

theorem proved : Rows.CnfGrowsCardSaid :=
  Claim7.holds_tied_plain_at .later [] _ _ _ _ said (fun _ h => by cases h) (by kernel_rfl) (fun _ h => by cases h) cnfGrows_row_tie rfl ⟨rfl, rfl⟩ (by kernel_rfl) rfl plain (by kernel_rfl)
end Go.Proofs.YthkfaeaceekmkaaDoor.cnfGrows
