/-
  The evaluator of runs, second part: code, calls, regions that draw their order; from a run to what a row asks.
-/
import Derived.Test.YtfdncjlamfhppaaSyA
import Derived.Recover
import Derived.Orders
set_option linter.unusedVariables false
set_option linter.unusedSimpArgs false
namespace Go.Ev
open Go.RowKit

section
variable {P : Program} {ι : Inj} {w : World} {st : St}
variable {ρ : Operand → Value} {op : Operand → OF} {env : Env} {o : Oper}

theorem MR.length {ι : Inj} : ∀ {es : List (AV × AV)} {l : List MapEntry}, MR ι es l → l.length = es.length
  | [], l, h => by simp only [MR] at h; simp [h]
  | e :: es, l, h => by
    simp only [MR] at h
    obtain ⟨x, xs, rfl, _, _, h3⟩ := h
    simp [MR.length h3]

theorem builtin_exec {c : Call} (ho : o.op = .call c) {b : Builtin} (hc : c.callee = .builtin b) :
    (execOp ρ o).run P w = (builtin b c.argTypes o.type (c.args.map fun | .const _ => true | _ => false) (c.args.map ρ)).run P w := by
  simp only [execOp, ho, resolve, hc, invoke, Sem.run_bind, Sem.run_pure, Result.andThen_ok]
  try rfl

theorem onMap_ok {x : Option AO} {f : List (AV × AV) → ER} {res : Result Next} (h : ∀ es, x = some (.map es) → Res ι w st (f es) res) : Res ι w st (onMap x f) res := by
  cases x with
  | none => trivial
  | some ob =>
    cases ob <;> try trivial
    exact h _ rfl

theorem len_ok {t : TypeId} {x : Operand} {l : List TypeId} {ty : TypeId} (k : Sim ι st.h st.nx w) (hx : VR ι ((op x).run env) (ρ x)) :
    Res ι w st ((lenF P t (op x)).run env st) (((Builtin.len_ (t :: l).toArray ty #[ρ x]).run P w).andThen fun v w' => .ok (.value v) w') := by
  unfold lenF
  split <;> try trivial
  · rename_i hu
    try dsimp only
    generalize (op x).run env = vx at hx
    cases vx <;> try trivial
    · rename_i s
      simp only [VR] at hx
      obtain ⟨bs, hpx, hbs⟩ := hx
      simp only [force_eq, llen_eq]
      refine Res.val k (x := .int .i64 s.length) ?_ (by simp only [VR]; rfl)
      simp [Builtin.len_, run_underlying hu, hpx, goInt, str_size hbs]
    · rename_i n
      simp only [VR] at hx
      obtain ⟨bs, hpx, hbs⟩ := hx
      refine Res.val k (x := .int .i64 n) ?_ (by simp only [VR]; rfl)
      simp [Builtin.len_, run_underlying hu, hpx, goInt, hbs]
  · rename_i n e hu
    refine Res.val k (x := .int .i64 n) ?_ (by simp only [VR]; rfl)
    simp [Builtin.len_, run_underlying hu, goInt]
  · rename_i e hu
    try dsimp only
    generalize (op x).run env = vx at hx
    cases vx <;> try trivial
    · rename_i b off len cap sz ex
      simp only [VR] at hx
      obtain ⟨hb, hlc, ad, C, hpx, hC, hex, had⟩ := hx
      refine Res.val k (x := .int .i64 len) ?_ (by simp only [VR]; rfl)
      simp [Builtin.len_, run_underlying hu, hpx, goInt]
    · simp only [VR] at hx
      refine Res.val k (x := .int .i64 (0 : Nat)) ?_ (by simp only [VR]; rfl)
      simp [Builtin.len_, run_underlying hu, hx, goInt]
  · rename_i kt e hu
    try dsimp only
    generalize (op x).run env = vx at hx
    cases vx <;> try trivial
    · rename_i r
      simp only [VR] at hx
      obtain ⟨hb, R, hpx, hR⟩ := hx
      refine onMap_ok fun es hg => ?_
      · simp only [force_eq, llen_eq]
        obtain ⟨B, S, ens, clock, e1, hw, hmr⟩ := k.map hb hg
        have hRB := hR B S e1
        subst hRB
        refine Res.val k (x := .int .i64 es.length) ?_ (by simp only [VR]; rfl)
        have hlen := hmr.length
        rw [Array.length_toList] at hlen
        simp [Builtin.len_, run_underlying hu, hpx, goInt, run_getObj hw (fun _ _ _ h => by cases h), hlen]
    · simp only [VR] at hx
      refine Res.val k (x := .int .i64 (0 : Nat)) ?_ (by simp only [VR]; rfl)
      simp [Builtin.len_, run_underlying hu, hx, goInt]

theorem cap_ok {t : TypeId} {x : Operand} {l : List TypeId} {ty : TypeId} (k : Sim ι st.h st.nx w) (hx : VR ι ((op x).run env) (ρ x)) :
    Res ι w st ((capF P t (op x)).run env st) (((Builtin.cap_ (t :: l).toArray ty #[ρ x]).run P w).andThen fun v w' => .ok (.value v) w') := by
  unfold capF
  split <;> try trivial
  rename_i e hu
  try dsimp only
  generalize (op x).run env = vx at hx
  cases vx <;> try trivial
  · rename_i b off len cap sz ex
    cases ex <;> try trivial
    simp only [VR] at hx
    obtain ⟨hb, hlc, ad, C, hpx, hC, hex, had⟩ := hx
    have := hex (by simp)
    subst this
    refine Res.val k (x := .int .i64 C) ?_ (by simp only [VR]; rfl)
    simp [Builtin.cap_, run_underlying hu, hpx, goInt]
  · simp only [VR] at hx
    refine Res.val k (x := .int .i64 (0 : Nat)) ?_ (by simp only [VR]; rfl)
    simp [Builtin.cap_, run_underlying hu, hx, goInt]

theorem min2_ok {x y z : AV} {u v : Value} (hx : VR ι x u) (hy : VR ι y v) (h : Ev.min2 x y = some z) : ∃ r, (Builtin.min2 u v).run P w = .ok r w ∧ VR ι z r := by
  unfold Ev.min2 at h
  split at h <;> try (cases h; done)
  rename_i k a k' b
  generalize hk : eqK k k' = kk at h
  cases kk
  · cases h
  · have := eqK_eq hk
    subst this
    simp only [cond, Option.some.injEq, ltI_eq] at h
    simp only [VR] at hx hy
    subst hx; subst hy; subst h
    refine ⟨.int k (if b < a then b else a), by simp [Builtin.min2], ?_⟩
    simp only [VR]
    by_cases hb : b < a <;> simp [hb]

theorem max2_ok {x y z : AV} {u v : Value} (hx : VR ι x u) (hy : VR ι y v) (h : Ev.max2 x y = some z) : ∃ r, (Builtin.max2 u v).run P w = .ok r w ∧ VR ι z r := by
  unfold Ev.max2 at h
  split at h <;> try (cases h; done)
  rename_i k a k' b
  generalize hk : eqK k k' = kk at h
  cases kk
  · cases h
  · have := eqK_eq hk
    subst this
    simp only [cond, Option.some.injEq, ltI_eq] at h
    simp only [VR] at hx hy
    subst hx; subst hy; subst h
    refine ⟨.int k (if b > a then b else a), by simp [Builtin.max2], ?_⟩
    simp only [VR]
    by_cases hb : a < b <;> simp [hb]

theorem fold_ok {f : AV → AV → Option AV} {g : Value → Value → Sem Value} (hfg : ∀ x y z u v, VR ι x u → VR ι y v → f x y = some z → ∃ r, (g u v).run P w = .ok r w ∧ VR ι z r) :
    ∀ (l : List AV) (l' : List Value) (x z : AV) (u : Value), VR ι x u → VRs ι l l' → foldA f x l = some z → ∃ r, (l'.foldlM g u).run P w = .ok r w ∧ VR ι z r
  | [], l', x, z, u, hx, hl, h => by
    simp only [VRs] at hl
    subst hl
    simp only [foldA, Option.some.injEq] at h
    subst h
    exact ⟨u, by simp, hx⟩
  | y :: l, l0, x, z, u, hx, hl, h => by
    simp only [VRs] at hl
    obtain ⟨v, l', rfl, hy, hl'⟩ := hl
    simp only [foldA] at h
    cases hf : f x y with
    | none => simp [hf] at h
    | some q =>
      simp only [hf, Option.bind_some] at h
      obtain ⟨r, h1, h2⟩ := hfg x y q u v hx hy hf
      obtain ⟨r', h3, h4⟩ := fold_ok hfg l l' q z r h2 hl' h
      exact ⟨r', by simp [List.foldlM_cons, h1, h3], h4⟩

/-! ### cells that are taken -/
theorem onLen_ok {v : AV} {x : Value} (hv : VR ι v x) {f : Nat → ER} {res : Result Next} (h : ∀ n, (∀ w', (Builtin.lenOf x).run P w' = .ok n w') → Res ι w st (f n) res) : Res ι w st (onLen v f) res := by
  unfold onLen
  split <;> try trivial
  · simp only [VR] at hv
    obtain ⟨hb, hlc, ad, C, rfl, hC, hex, had⟩ := hv
    exact h _ fun w' => by simp [Builtin.lenOf]
  · simp only [VR] at hv
    subst hv
    exact h _ fun w' => by simp [Builtin.lenOf]
  · simp only [VR] at hv
    obtain ⟨bs, rfl, hbs⟩ := hv
    rw [force_eq, llen_eq]
    exact h _ fun w' => by simp [Builtin.lenOf, str_size hbs]

theorem firstCells_ok (k : Sim ι st.h st.nx w) {v : AV} {x : Value} (hv : VR ι v x) {size n : Nat} {f : List AV → ER} {res : Result Next} (hn : ∃ m, (Builtin.lenOf x).run P w = .ok m w ∧ n ≤ m)
    (h : ∀ cells (vs : Array Value), (Builtin.firstCells size n x).run P w = .ok vs w → (Builtin.firstCells size n x).run P w.drew = .ok vs w.drew → VRs ι cells vs.toList → cells.all AV.cell = true → (n = 0 → vs = #[]) → Res ι w st (f cells) res) :
    Res ι w st (Ev.firstCells st size n v f) res := by
  obtain ⟨m0, hm0, hnm⟩ := hn
  unfold Ev.firstCells
  split <;> try trivial
  · rename_i b off len cap sz ex
    simp only [VR] at hv
    obtain ⟨hb, hlc, ad, C, rfl, hC, hex, had⟩ := hv
    refine onRow_ok fun m zl z cs hg => ?_
    rw [force_eq]
    refine cond_no fun hle => ?_
    rw [bleN] at hle
    obtain ⟨B, S, c, elem, lo, hi, e', hw, _⟩ := k.row hb hg
    obtain ⟨vs, hrun, hvs, hlen, hcells⟩ := cells_run (P := P) k hb hg e' hle
    obtain ⟨vs2, hrun2, hvs2, hlen2, hcells2⟩ := cells_run (P := P) (w := w.drew) k.drew hb hg e' hle
    have e12 : vs2 = vs := by
      apply List.ext_getElem?
      intro j
      cases h1 : vs[j]? with
      | none =>
        rw [List.getElem?_eq_none_iff] at h1 ⊢
        omega
      | some u =>
        have hj : j < vs2.length := by rw [List.getElem?_eq_some_iff] at h1; obtain ⟨h2, _⟩ := h1; omega
        have h3 := hcells2 j _ (List.getElem?_eq_getElem hj)
        have h4 := hcells j u h1
        have h5 : w.drew.cell? ((⟨B, off, none⟩ : Addr).add j) = w.cell? ((⟨B, off, none⟩ : Addr).add j) := rfl
        rw [h5, h4] at h3
        rw [List.getElem?_eq_getElem hj]
        exact h3.symm
    subst e12
    have hall := (row_cells_all k hb hg hle).1
    have hadr : (loadCells ad (Nat.mul n size)).run P w = .ok vs2.toArray w ∧ (loadCells ad (Nat.mul n size)).run P w.drew = .ok vs2.toArray w.drew := by
      rcases (had B S e').1 with h0 | h0
      · have hn0 : n = 0 := by
          simp only [Builtin.lenOf, Sem.run_pure, Result.ok.injEq] at hm0
          omega
        subst hn0
        have : Nat.mul 0 size = 0 := Nat.zero_mul size
        rw [this] at hlen ⊢
        rw [List.eq_nil_of_length_eq_zero hlen]
        constructor <;> simp [loadCells, loadCellsFrom]
      · rw [h0]; exact ⟨hrun, hrun2⟩
    exact h _ vs2.toArray (by simpa [Builtin.firstCells] using hadr.1) (by simpa [Builtin.firstCells] using hadr.2) hvs hall (fun h0 => by subst h0; have : Nat.mul 0 size = 0 := Nat.zero_mul size; rw [this] at hlen; rw [List.eq_nil_of_length_eq_zero hlen])
  · simp only [VR] at hv
    subst hv
    exact h [] #[] (by simp [Builtin.firstCells]) (by simp [Builtin.firstCells]) (by simp [VRs]) rfl (fun _ => rfl)
  · rename_i s
    simp only [VR] at hv
    obtain ⟨bs, rfl, hbs⟩ := hv
    have he := bytes_extract hbs 0 n
    refine h _ ((bs.extract 0 n).data.map fun (b : UInt8) => Value.int .u8 b.toNat) (by simp [Builtin.firstCells]) (by simp [Builtin.firstCells]) ?_ ?_ ?_
    · rw [bytes_cells _ _ he, lmap_eq, ltake_eq]
      simp only [List.drop_zero, Nat.sub_zero]
      exact VRs_map_nat _
    · rw [lmap_eq, List.all_map, List.all_eq_true]
      intro _ _; rfl
    · intro h0
      subst h0
      apply Array.ext'
      rw [bytes_cells _ _ he]
      simp

theorem undef_ok (ι : Inj) : VR ι undefA undef := by
  simp only [undefA, undef, VR]
  exact ⟨#[], rfl, by simp [VRs]⟩

theorem first_zero {x : Value} {m : Nat} (size : Nat) (h : (Builtin.lenOf x).run P w = .ok m w) : ∃ vs, (Builtin.firstCells size 0 x).run P w = .ok vs w := by
  cases x
  case string bs => exact ⟨_, by simp only [Builtin.firstCells, Sem.run_pure]; rfl⟩
  case slice a l c =>
    cases a with
    | none => exact ⟨#[], by simp [Builtin.firstCells]⟩
    | some a => exact ⟨#[], by simp [Builtin.firstCells, loadCells, loadCellsFrom]⟩
  all_goals
    simp [Builtin.lenOf, stuck, Sem.run] at h

theorem copy_ok {t : TypeId} {d x : Operand} {l : List TypeId} {ty : TypeId} (k : Sim ι st.h st.nx w) (hd : VR ι ((op d).run env) (ρ d)) (hx : VR ι ((op x).run env) (ρ x)) :
    Res ι w st ((copyF P t (op d) (op x)).run env st) (((Builtin.copy_ (t :: l).toArray ty #[ρ d, ρ x]).run P w).andThen fun v w' => .ok (.value v) w') := by
  unfold copyF
  split <;> try trivial
  rename_i e he
  have hu := elem_ok he
  split <;> try trivial
  rename_i size hs
  obtain ⟨i, hi, hsi⟩ := size_ok hs
  try dsimp only
  refine onLen_ok (P := P) hx fun n0 hn0 => ?_
  generalize hvd : (op d).run env = vd at hd
  cases vd <;> try trivial
  · rename_i b off dl cap sz ex
    simp only [VR] at hd
    obtain ⟨hb, hlc, ad, C, hpd, hC, hex, had⟩ := hd
    simp only [force_eq]
    have hmin : (cond (Nat.ble n0 dl) n0 dl) = Nat.min n0 dl := by
      show _ = min n0 dl
      rw [Nat.min_def]
      cases h : Nat.ble n0 dl
      · have : ¬ n0 ≤ dl := fun e => by rw [← bleN, h] at e; cases e
        rw [if_neg this]; rfl
      · rw [bleN] at h; rw [if_pos h]; rfl
    rw [hmin]
    refine firstCells_ok (P := P) k hx ⟨n0, hn0 w, Nat.min_le_left _ _⟩ fun cells vs hf _ hvs hall hv0 => onRow_ok fun m zl z cs hg => cond_no fun hle => ?_
    rw [bleN, llen_eq] at hle
    have hle' : off + cells.length ≤ m := hle
    rw [St.put_eq]
    obtain ⟨B, S, c, elem, lo, hi', e1, hw, _⟩ := k.row hb hg
    obtain ⟨w', hr, hs', hf'⟩ := write_ok (P := P) (o := off) k hb hg e1 hvs hall hle'
    have hst : (storeCells ad vs.toList).run P w = .ok () w' := by
      rcases (had B S e1).1 with h0 | h0
      · have hn : Nat.min n0 dl = 0 := by have : Nat.min n0 dl ≤ dl := Nat.min_le_right _ _; omega
        have hz : vs = #[] := hv0 hn
        subst hz
        simp [storeCells] at hr ⊢
        exact hr
      · rw [h0]; exact hr
    refine ⟨ι, .int .i64 (Nat.min n0 dl : Nat), w', .inl ?_, Le.refl ι, (by simp only [VR]; rfl), hs', hf', Cleanly.put ι st b _ (k.born b hb), rfl⟩
    simp only [Builtin.copy_]
    simp [run_underlying hu, hpd, hn0, run_sizeOf hi, hsi, hf, hst, goInt]
  · simp only [VR] at hd
    refine Res.val k (x := .int .i64 (0 : Nat)) ?_ (by simp only [VR]; rfl)
    obtain ⟨vs, hv⟩ := first_zero (P := P) (w := w) size (hn0 w)
    have hmin : n0.min 0 = 0 := Nat.min_zero n0
    simp only [Builtin.copy_]
    simp [run_underlying hu, hd, hn0, run_sizeOf hi, hsi, hmin, hv, goInt]

end
end Go.Ev

namespace Go.Ev
open Go.RowKit

section
variable {P : Program} {ι : Inj} {w : World} {st : St}
variable {ρ : Operand → Value} {op : Operand → OF} {env : Env} {o : Oper}

/-- what is appended: how many, and the cells -/
def ArgOK (P : Program) (w : World) (i : TypeInfo) (zv : Value) (u : TypeId) (x : Value) (n : Nat) (vs : Array Value) : Prop :=
  (∃ d, P.underlying u = some d ∧ (d = .string ∨ ∃ e, d = .slice e) ∧ (∀ w', (Builtin.lenOf x).run P w' = .ok n w') ∧ (Builtin.firstCells i.size n x).run P w = .ok vs w ∧ (Builtin.firstCells i.size n x).run P w.drew = .ok vs w.drew) ∨
  (∃ k kk, P.underlying u = some (.int k) ∧ x = .int kk (Int.ofNat n) ∧ n ≤ 9223372036854775807 ∧ n * i.bytes ≤ 281474976710656 ∧ vs = if n * i.size = 0 then #[] else Builtin.zeroCells zv.cells n)

theorem append_place {t e u ty : TypeId} {l : List TypeId} {i : TypeInfo} {zv : Value} (ht : P.underlying t = some (.slice e)) (hi : P.info? e = some i) (hz : i.zero = some zv)
    {x : Value} {n : Nat} {vs : Array Value} (ha : ArgOK P w i zv u x n vs) (base : Option Addr) (sLen sCap : Nat) (hroom : sLen + n ≤ sCap) :
    (Builtin.append_ (t :: u :: l).toArray ty #[.slice base sLen sCap, x]).run P w =
      ((match base with | some a => (storeCells (a.add (sLen * i.size)) vs.toList) | none => pure ()).run P w).andThen fun _ w' => .ok (.slice base (sLen + n) sCap) w' := by
  rcases ha with ⟨d, hd, hnd, hlen, hf, _⟩ | ⟨k, kk, hd, rfl, h63, h48, rfl⟩
  · rcases hnd with rfl | ⟨e', rfl⟩
    all_goals
      simp [Builtin.append_, run_underlying ht, run_underlying hd, run_sizeOf hi, hlen, hroom, hf]
      cases base <;> simp
  · have hw : IntKind.i64.wrap (n : Int) = n := by rw [IntKind.wrap_i64]; omega
    have h48' : ¬ (281474976710656 : Int) < (n : Int) * (i.bytes : Int) := by
      have : ((n * i.bytes : Nat) : Int) ≤ 281474976710656 := Int.ofNat_le.2 h48
      rw [Int.natCast_mul] at this
      omega
    have hneg : ¬ (n : Int) < 0 := by omega
    by_cases h0 : n * i.size = 0
    · simp [Builtin.append_, run_underlying ht, run_underlying hd, run_sizeOf hi, run_typeInfo hi, asInt, asIntOf, hw, hneg, h48', hroom, h0]
      cases base <;> simp
    · simp [Builtin.append_, run_underlying ht, run_underlying hd, run_sizeOf hi, run_typeInfo hi, asInt, asIntOf, hw, hneg, h48', hroom, h0, run_zero hi hz]
      cases base <;> simp

theorem append_grow {t e u ty : TypeId} {l : List TypeId} {i : TypeInfo} {zv : Value} (ht : P.underlying t = some (.slice e)) (hi : P.info? e = some i) (hz : i.zero = some zv)
    {x : Value} {n : Nat} {vs old : Array Value} (ha : ArgOK P w i zv u x n vs) (base : Option Addr) (sLen sCap : Nat) (hroom : ¬ sLen + n ≤ sCap) (hc : sLen ≤ sCap)
    (h47 : (sLen + n) * i.bytes ≤ 140737488355328) (h63 : sLen + n ≤ 9223372036854775807) (hold : (Builtin.firstCells i.size sLen (.slice base sLen sCap)).run P w.drew = .ok old w.drew)
    {C : Nat} (hC : (Question.appendCap (sLen + n) sCap e).cut (w.tape w.drawn (.appendCap (sLen + n) sCap e)) = C) :
    (Builtin.append_ (t :: u :: l).toArray ty #[.slice base sLen sCap, x]).run P w =
      .ok (.slice (some ⟨w.heap.size, 0, none⟩) (sLen + n) C) (w.drew.alloc (.cells (old ++ vs ++ Builtin.zeroCells zv.cells (C - (sLen + n))) e)) := by
  have hfit : Builtin.nextslicecap (sLen + n) sCap * i.bytes ≤ 281474976710656 := growslice_fits (by omega) h47
  have hfit' : ¬ 281474976710656 < Builtin.nextslicecap (sLen + n) sCap * i.bytes := by omega
  have h63' : ¬ (9223372036854775807 < ((sLen : Int) + (n : Int))) := by omega
  rcases ha with ⟨d, hd, hnd, hlen, _, hf⟩ | ⟨k, kk, hd, rfl, hn63, h48, rfl⟩
  · rcases hnd with rfl | ⟨e', rfl⟩
    all_goals
      simp [Builtin.append_, run_underlying ht, run_underlying hd, Go.sizeOf, typeInfo, zeroValue, hi, hz, hlen, hroom, h63', hfit', Question.forced, hf, hold, Go.newRow, hC]
  · have hw : IntKind.i64.wrap (n : Int) = n := by rw [IntKind.wrap_i64]; omega
    have h48' : ¬ (281474976710656 : Int) < (n : Int) * (i.bytes : Int) := by
      have : ((n * i.bytes : Nat) : Int) ≤ 281474976710656 := Int.ofNat_le.2 h48
      rw [Int.natCast_mul] at this
      omega
    have hneg : ¬ (n : Int) < 0 := by omega
    by_cases h0 : n * i.size = 0
    · simp [Builtin.append_, run_underlying ht, run_underlying hd, Go.sizeOf, typeInfo, zeroValue, hi, hz, asInt, asIntOf, hw, hneg, h48', hroom, h63', hfit', Question.forced, hold, Go.newRow, hC, h0]
    · simp [Builtin.append_, run_underlying ht, run_underlying hd, Go.sizeOf, typeInfo, zeroValue, hi, hz, asInt, asIntOf, hw, hneg, h48', hroom, h63', hfit', Question.forced, hold, Go.newRow, hC, h0]

end
end Go.Ev

namespace Go.Ev
open Go.RowKit

section
variable {P : Program} {ι : Inj} {w : World} {st : St}
variable {ρ : Operand → Value} {op : Operand → OF} {env : Env} {o : Oper}

def Inj.kill (ι : Inj) (b : Nat) : Inj := fun c => if c = b then .dead else ι c

theorem Le.kill (ι : Inj) (b : Nat) : Le ι (ι.kill b) := fun c hc => by
  by_cases h : c = b
  · right; simp [Inj.kill, h]
  · left; simp [Inj.kill, h]

theorem kill_at {ι : Inj} {b c B S : Nat} (h : (ι.kill b) c = .at B S) : ι c = .at B S ∧ c ≠ b := by
  by_cases hc : c = b
  · simp [Inj.kill, hc] at h
  · exact ⟨by simpa [Inj.kill, hc] using h, hc⟩

theorem Sim.kill {nx : Nat} {h : T AO} (k : Sim ι h nx w) {b : Nat} (hb : b < nx) : Sim (ι.kill b) ((setF (bitsR b)).run .dead h) nx w ∧ Grew ι w (ι.kill b) w := by
  refine ⟨⟨?_, ?_, ?_, ?_⟩, ⟨rfl, rfl, rfl, Nat.le_refl _, fun _ _ _ => rfl, fun c B S e => .inl ⟨c, S, (kill_at e).1⟩⟩⟩
  · intro c B S e
    obtain ⟨e1, hc⟩ := kill_at e
    obtain ⟨o', x', h1, h2, h3⟩ := k.obj c B S e1
    exact ⟨o', x', by rw [hget_set, if_neg hc]; exact h1, h2, OR.mono (Le.kill ι b) _ _ h3⟩
  · intro c e o' ho
    by_cases hc : c = b
    · rw [hget_set, if_pos hc] at ho; cases ho; rfl
    · rw [hget_set, if_neg hc] at ho
      exact k.gone c (by simpa [Inj.kill, hc] using e) o' ho
  · intro c c' B S S' e e'
    exact k.inj c c' B S S' (kill_at e).1 (kill_at e').1
  · intro c e
    by_cases hc : c = b
    · rw [hc]; exact hb
    · exact k.born c (by simpa [Inj.kill, hc] using e)

theorem Cleanly.kill {ι : Inj} {st : St} {b : Nat} (hb : ι b ≠ .unborn) (hlt : b < st.nx) : Cleanly ι (ι.kill b) st ⟨st.nx, (setF (bitsR b)).run .dead st.h, min st.dirty b, st.fr⟩ := by
  have h := Cleanly.put ι st b .dead hlt
  refine ⟨h.nx, h.dirty, h.keep, h.above, fun c _ hu => ?_, fun c hu => ?_, fun c h1 h2 => absurd h2 (Nat.not_lt.2 h1)⟩
  · have : c ≠ b := fun e => hb (by rw [← e]; exact hu)
    simp only [Inj.kill, if_neg this]; exact hu
  · simp only [Inj.kill]; split <;> simp_all

/-- a block that no number leads to any more gets a new one, and is written -/
theorem Sim.adopt {nx : Nat} {h : T AO} {w' : World} (k : Sim ι h nx w) {B S : Nat} (hfree : ∀ c S', ι c ≠ .at B S') (hlt : B < w.heap.size) (o : AO) (x : Obj) (hx : OR (ι.add nx B S) S o x)
    (hB : w'.heap[B]? = some x) (hne : ∀ j, j ≠ B → w'.heap[j]? = w.heap[j]?) :
    Sim (ι.add nx B S) ((setF (bitsR nx)).run o h) (nx + 1) w' := by
  have le := Le.add (ι := ι) k.born B S
  refine ⟨?_, ?_, ?_, ?_⟩
  · intro b B' T e
    by_cases hb : b = nx
    · subst hb
      simp only [Inj.add, if_true] at e
      cases e
      exact ⟨o, x, by rw [hget_set, if_pos rfl], hB, hx⟩
    · have e' : ι b = .at B' T := by simpa [Inj.add, hb] using e
      obtain ⟨o', x', h1, h2, h3⟩ := k.obj b B' T e'
      have : B' ≠ B := fun e => hfree b T (by rw [← e]; exact e')
      exact ⟨o', x', by rw [hget_set, if_neg hb]; exact h1, by rw [hne B' this]; exact h2, OR.mono le _ _ h3⟩
  · intro b e o' ho
    by_cases hb : b = nx
    · subst hb; simp [Inj.add] at e
    · have e' : ι b = .dead := by simpa [Inj.add, hb] using e
      rw [hget_set, if_neg hb] at ho
      exact k.gone b e' o' ho
  · intro b c B' S1 S2 e1 e2
    by_cases hb : b = nx <;> by_cases hc : c = nx
    · rw [hb, hc]
    · subst hb
      simp only [Inj.add, if_true] at e1
      cases e1
      exact absurd (by simpa [Inj.add, hc] using e2 : ι c = .at B S2) (hfree c S2)
    · subst hc
      simp only [Inj.add, if_true] at e2
      cases e2
      exact absurd (by simpa [Inj.add, hb] using e1 : ι b = .at B S1) (hfree b S1)
    · exact k.inj b c B' S1 S2 (by simpa [Inj.add, hb] using e1) (by simpa [Inj.add, hc] using e2)
  · intro b e
    by_cases hb : b = nx
    · omega
    · have := k.born b (by simpa [Inj.add, hb] using e)
      omega

theorem OR_cells {cells : List AV} {vs rest : List Value} (h : VRs ι cells vs) (hc : cells.all AV.cell = true) (elem : TypeId) {S : Nat} (hS : S = vs.length + rest.length)
    {n zl : Nat} {z : List AV} {cs : T AV} (hn : n = cells.length) (hcell : ∀ i, i < n → rowCell zl z cs i = cells.getD i .bad) :
    OR ι S (.row n zl z cs) (.cells (vs.toArray ++ rest.toArray) elem (0, 0)) := by
  simp only [OR]
  have hl := h.length
  refine ⟨_, elem, 0, 0, rfl, by simp [hS], by omega, by omega, fun i hi => ?_⟩
  have hi' : i < cells.length := by omega
  rw [hcell i hi]
  refine ⟨cell_len hc hi', vs.getD i undef, ?_, h.get i hi'⟩
  have : i < vs.length := by omega
  rw [Array.getElem?_append_left (by simpa using this)]
  simp [List.getD, List.getElem?_eq_getElem this]

theorem OR_grown {cells : List AV} {vs rest : List Value} (h : VRs ι cells vs) (hc : cells.all AV.cell = true) (elem : TypeId) {S : Nat} (hS : S = vs.length + rest.length) :
    OR ι S (.row cells.length cells.length cells .e) (.cells (vs.toArray ++ rest.toArray) elem (0, 0)) :=
  OR_cells h hc elem hS rfl fun i hi => by rw [rowCell_eq, get_e, Nat.mod_eq_of_lt hi]; rfl

theorem Res.after {ι1 : Inj} {st1 : St} {r : ER} {res : Result Next} (hp : ∀ v s, r ≠ .pn v s) (hl : Le ι ι1) (hg : Grew ι w ι1 w) (hc : Cleanly ι ι1 st st1) (hf : st1.fr = st.fr) (h : Res ι1 w st1 r res) : Res ι w st r res := by
  cases r with
  | no => trivial
  | ok v st' =>
    obtain ⟨ι', x, w', h1, h2, h3, h4, h5, h6, h7⟩ := h
    exact ⟨ι', x, w', h1, hl.trans h2, h3, h4, hg.trans h5, hc.trans h6, h7.trans hf⟩
  | pn v s => exact absurd rfl (hp v s)

theorem zeroCells_size (z : Array Value) (n : Nat) : (Builtin.zeroCells z n).size = n * z.size := by simp [Builtin.zeroCells]

/-- the new row of an append that outgrows -/
theorem grown_ok (k : Sim ι st.h st.nx w) {cells : List AV} {vs : Array Value} {zs : Array Value} {e : TypeId} {need C size : Nat} {res : Result Next} (hvs : VRs ι cells vs.toList) (hall : cells.all AV.cell = true)
    (hlen : cells.length = need * size) (hzs : zs.size = size) (hC : need ≤ C)
    (hr : res = .ok (.value (.slice (some ⟨w.heap.size, 0, none⟩) need C)) (w.drew.alloc (.cells (vs ++ Builtin.zeroCells zs (C - need)) e))) :
    Res ι w st (.ok (.slice st.nx 0 need need size false) ⟨st.nx + 1, (setF (bitsR st.nx)).run (.row cells.length cells.length cells .e) st.h, st.dirty, st.fr⟩) res := by
  refine Res.drew (fun _ _ h => by cases h) ?_
  have hl := hvs.length
  rw [Array.length_toList] at hl
  have hS : C * size = vs.toList.length + (Builtin.zeroCells zs (C - need)).toList.length := by
    rw [Array.length_toList, Array.length_toList, zeroCells_size, hl, hlen, hzs, ← Nat.add_mul]
    congr 1
    omega
  refine Res.alloc (w := w.drew) k.drew (S := C * size) (x := .cells (vs ++ Builtin.zeroCells zs (C - need)) e) ?_
    (VR_slice_new ι _ _ _ need C size need false (Nat.le_refl _) hC (fun h => by cases h) (fun _ => Nat.le_refl _)) hr
  have le := Le.add (ι := ι) k.born w.drew.heap.size (C * size)
  have := OR_grown (rest := (Builtin.zeroCells zs (C - need)).toList) (VRs.mono le _ _ hvs) hall e hS
  simpa using this

theorem append_ok {t e u ty : TypeId} {l : List TypeId} {i : TypeInfo} {zv : Value} (ht : P.underlying t = some (.slice e)) (hi : P.info? e = some i) (hz : i.zero = some zv) (hzs : zv.cells.size = i.size)
    (k : Sim ι st.h st.nx w) {s : AV} {sv x : Value} (hs : VR ι s sv) {n : Nat} {news : List AV} {vs : Array Value} (ha : ArgOK P w i zv u x n vs) (hvs : VRs ι news vs.toList) (hall : news.all AV.cell = true) :
    Res ι w st (appendWith st i.size i.bytes s n news) (((Builtin.append_ (t :: u :: l).toArray ty #[sv, x]).run P w).andThen fun v w' => .ok (.value v) w') := by
  unfold appendWith
  refine cond_no fun hlen => ?_
  rw [beqN, llen_eq] at hlen
  have hlen' : news.length = n * i.size := hlen
  split <;> try trivial
  · -- the slice is nil
    simp only [VR] at hs
    subst hs
    refine cond_no' (fun h0 => ?_) (fun h0 => ?_)
    · rw [beqN] at h0
      subst h0
      refine Res.val k (x := .slice none 0 0) ?_ (by simp only [VR])
      rw [append_place ht hi hz ha none 0 0 (Nat.le_refl _)]
      simp
    · have h0' : n ≠ 0 := fun e => by rw [← beqN, h0] at e; cases e
      refine cond_no fun h1 => cond_no fun h2 => ?_
      rw [bleN] at h1 h2
      have h1' : n * i.bytes ≤ 140737488355328 := h1
      rw [force_eq, St.alloc_eq]
      have hC : n ≤ (Question.appendCap (0 + n) 0 e).cut (w.tape w.drawn (.appendCap (0 + n) 0 e)) := by have := cut_append (0 + n) 0 e (w.tape w.drawn (.appendCap (0 + n) 0 e)); omega
      have := append_grow (ty := ty) (l := l) ht hi hz ha none 0 0 (by omega) (Nat.le_refl _) (by rw [Nat.zero_add]; exact h1') (by omega) (old := #[]) (by simp [Builtin.firstCells]) rfl
      have hg := grown_ok (size := i.size) (e := e) k hvs hall hlen' hzs hC (res := _) rfl
      rw [hlen'] at hg
      rw [this]
      simpa using hg
  · rename_i b off sl cap sz ex
    have hs0 := hs
    simp only [VR] at hs
    obtain ⟨hb, hlc, ad, C, rfl, hC, hex, had⟩ := hs
    rw [force_eq]
    refine onRow_ok fun m zl zz cs hg => ?_
    obtain ⟨B, S, c, elem, lo, hi', e1, hw, hcs, hmS, hfr, hcell⟩ := k.row hb hg
    obtain ⟨had1, had2⟩ := had B S e1
    refine cond_no' (fun hroom => ?_) (fun hroom => ?_)
    · -- in place
      rw [bleN] at hroom
      have hroom' : sl + n ≤ cap := hroom
      refine cond_no' (fun h0 => ?_) (fun h0 => ?_)
      · rw [beqN] at h0
        subst h0
        refine Res.val k (x := .slice (some ad) sl C) ?_ hs0
        have hv0 : vs = #[] := by
          have := hvs.length
          rw [hlen', Nat.zero_mul] at this
          exact Array.toList_eq_nil_iff.1 (List.eq_nil_of_length_eq_zero this)
        rw [append_place ht hi hz ha (some ad) sl C (by omega)]
        simp [hv0, storeCells]
      · have h0' : n ≠ 0 := fun e => by rw [← beqN, h0] at e; cases e
        refine cond_no fun h1 => ?_
        rw [bleN] at h1
        have h1' : off + (sl + n) * i.size ≤ m := h1
        rw [St.put_eq]
        have had1' : ad = ⟨B, off, none⟩ := by rcases had1 with h | h; · omega
                                               · exact h
        have hsum : (sl + n) * i.size = sl * i.size + n * i.size := Nat.add_mul _ _ _
        obtain ⟨w', hr, hs', hf'⟩ := write_ok (P := P) (o := off + sl * i.size) k hb hg e1 hvs hall (by omega)
        refine ⟨ι, .slice (some ad) (sl + n) C, w', .inl ?_, Le.refl ι, ?_, hs', hf', Cleanly.put ι st b _ (k.born b hb), rfl⟩
        · rw [append_place ht hi hz ha (some ad) sl C (by omega)]
          simp only [had1', addr_add]
          rw [hr]
          simp
        · simp only [VR]
          refine ⟨hb, hroom', ad, C, rfl, hC, hex, fun B' S' e2 => ?_⟩
          rw [e1] at e2
          cases e2
          exact ⟨had1, had2⟩
    · have hroom' : ¬ sl + n ≤ cap := fun h => by
        have : Nat.ble (Nat.add sl n) cap = true := by rw [bleN]; exact h
        rw [this] at hroom; cases hroom
      refine cond_no fun h47 => cond_no fun h63 => ?_
      rw [bleN] at h47 h63
      have h47' : (sl + n) * i.bytes ≤ 140737488355328 := h47
      have h63' : sl + n ≤ 9223372036854775807 := h63
      -- the row that is left behind
      have growth : ∀ (kk : Sim ι st.h st.nx w), ¬ sl + n ≤ C → off + sl * i.size ≤ m →
          ∃ olds : List Value, VRs ι (rowCells zl zz cs (sl * i.size) off) olds ∧ (rowCells zl zz cs (sl * i.size) off).all AV.cell = true ∧ (rowCells zl zz cs (sl * i.size) off).length = sl * i.size ∧
            ((Builtin.append_ (t :: u :: l).toArray ty #[.slice (some ad) sl C, x]).run P w).andThen (fun v w' => .ok (.value v) w') =
              .ok (Next.value (.slice (some ⟨w.heap.size, 0, none⟩) (sl + n) ((Question.appendCap (sl + n) C e).cut (w.tape w.drawn (.appendCap (sl + n) C e)))))
                (w.drew.alloc (.cells ((olds.toArray ++ vs) ++ Builtin.zeroCells zv.cells ((Question.appendCap (sl + n) C e).cut (w.tape w.drawn (.appendCap (sl + n) C e)) - (sl + n))) e)) := by
        intro _ hno hle
        obtain ⟨olds, hrun, hol, hlo, _⟩ := cells_run (P := P) (w := w.drew) k.drew hb hg e1 hle
        obtain ⟨hall', hlen''⟩ := row_cells_all k hb hg hle
        refine ⟨olds, hol, hall', hlen'', ?_⟩
        have hold : (Builtin.firstCells i.size sl (.slice (some ad) sl C)).run P w.drew = .ok olds.toArray w.drew := by
          rcases had1 with h | h
          · have : sl = 0 := by omega
            subst this
            have h2 : olds = [] := by rw [Nat.zero_mul] at hlo; exact List.eq_nil_of_length_eq_zero hlo
            subst h2
            simp [Builtin.firstCells, loadCells, loadCellsFrom]
          · rw [h]; simpa [Builtin.firstCells] using hrun
        have := append_grow (ty := ty) (l := l) ht hi hz ha (some ad) sl C hno (by omega) h47' h63' hold rfl
        rw [this]
        simp
      cases ex
      · -- how much room there is is not known
        simp only [cond]
        refine cond_no fun hsz => cond_no fun ho0 => cond_no fun hm => ?_
        rw [beqN] at hsz ho0 hm
        subst hsz
        subst ho0
        have hm' : sl * i.size = m := hm
        have hbn : b < st.nx := k.born b hb
        obtain ⟨k1, g1⟩ := k.kill hbn
        rw [St.put_eq, force_eq, St.alloc_eq]
        have hnew : ∀ j, j < (sl + n) * i.size → rowCell zl zz (setCells news cs m) j = if j < m then rowCell zl zz cs j else news.getD (j - m) .bad := by
          intro j hj
          rw [rowCell_setCells]
          have hsum : (sl + n) * i.size = sl * i.size + n * i.size := Nat.add_mul _ _ _
          by_cases hjm : j < m
          · rw [if_pos hjm, if_neg (by omega)]
          · rw [if_neg hjm, if_pos (by omega)]
        by_cases hroomC : sl + n ≤ C
        · have had1' : ad = ⟨B, 0, none⟩ := by
            rcases had1 with h | h
            · omega
            · exact h
          have hS := had2 rfl
          have hle2 : (sl + n) * i.size ≤ C * i.size := Nat.mul_le_mul_right _ hroomC
          have hsum : (sl + n) * i.size = sl * i.size + n * i.size := Nat.add_mul _ _ _
          have hvl := hvs.length
          have h1 : ∀ v ∈ vs.toList, v.oneCell' = true := by
            intro v hv
            obtain ⟨q, hq, rfl⟩ := List.mem_iff_getElem.1 hv
            have := hvs.get q (by omega)
            have h3 := VR.cell (cell_len hall (by omega)) this
            simpa [List.getD, List.getElem?_eq_getElem hq] using h3
          obtain ⟨w', c', hr, hB', hs', hc', hne, hos, htp, hou, hsz'⟩ := run_storeCells (P := P) (o := sl * i.size) vs.toList 0 w c hw (by omega) (by omega) h1
          have hfree : ∀ c S', (ι.kill b) c ≠ .at B S' := fun c2 S' e2 => by
            obtain ⟨e3, e4⟩ := kill_at e2
            exact e4 (k.inj c2 b B S' S e3 e1)
          have le := (Le.kill ι b).trans (Le.add (ι := ι.kill b) k1.born B S)
          have hsim := k1.adopt (w' := w') (S := S) hfree (k.lt e1) (.row ((sl + n) * i.size) zl zz (setCells news cs m)) (.cells c' elem (lo, hi')) (by
            simp only [OR]
            refine ⟨c', elem, lo, hi', rfl, by omega, by omega, by omega, fun j hj => ?_⟩
            rw [hnew j hj, hc' j]
            by_cases hjm : j < m
            · rw [if_pos hjm, if_neg (by omega)]
              obtain ⟨q1, v, q2, q3⟩ := hcell j hjm
              exact ⟨q1, v, q2, VR.mono le _ _ q3⟩
            · rw [if_neg hjm, if_pos (by omega)]
              refine ⟨cell_len hall (by omega), vs.toList.getD (j - m) undef, ?_, VR.mono le _ _ (hvs.get (j - m) (by omega))⟩
              have : j - m < vs.toList.length := by omega
              rw [show j - (sl * i.size + 0) = j - m by omega]
              simp [List.getD, List.getElem?_eq_getElem this]) hB' hne
          refine ⟨(ι.kill b).add st.nx B S, .slice (some ad) (sl + n) C, w', .inl ?_, le, ?_, hsim, ?_, (Cleanly.kill hb hbn).trans (Cleanly.alloc (ι.kill b) ⟨st.nx, (setF (bitsR b)).run .dead st.h, min st.dirty b, st.fr⟩ _ B S), rfl⟩
          · rw [append_place ht hi hz ha (some ad) sl C hroomC]
            simp only [had1', addr_add, Nat.zero_add]
            rw [hr]
            simp
          · rw [had1']
            exact VR_slice_new (ι.kill b) st.nx B S (sl + n) C i.size (sl + n) false (Nat.le_refl _) hroomC (fun h => by cases h) (fun _ => by omega)
          · refine ⟨hos, htp, hou, by omega, fun j _ hn => hne j (fun ej => hn b S (by rw [ej]; exact e1)), fun c2 B2 S2 e2 => ?_⟩
            by_cases hc2 : c2 = st.nx
            · subst hc2
              rw [add_self] at e2
              cases e2
              exact .inl ⟨b, S, e1⟩
            · have : (ι.kill b) c2 = .at B2 S2 := by simpa [Inj.add, hc2] using e2
              exact .inl ⟨c2, S2, (kill_at this).1⟩
        · obtain ⟨olds, hol, hall', hlen'', hrun⟩ := growth k hroomC (by omega)
          rw [hrun]
          refine Res.after (fun _ _ h => by cases h) (Le.kill ι b) g1 (Cleanly.kill hb hbn) rfl ?_
          refine Res.drew (fun _ _ h => by cases h) ?_
          have le := Le.kill ι b
          have hCC := cut_append (sl + n) C e (w.tape w.drawn (.appendCap (sl + n) C e))
          generalize (Question.appendCap (sl + n) C e).cut (w.tape w.drawn (.appendCap (sl + n) C e)) = D at hCC hrun ⊢
          have hvl := hvs.length
          have hol' := hol.length
          have hsum : (sl + n) * i.size = sl * i.size + n * i.size := Nat.add_mul _ _ _
          have hS : D * i.size = (olds ++ vs.toList).length + (Builtin.zeroCells zv.cells (D - (sl + n))).toList.length := by
            rw [List.length_append, Array.length_toList (xs := Builtin.zeroCells zv.cells (D - (sl + n))), zeroCells_size, hol', hvl, hlen'', hlen', hzs, ← Nat.add_mul, ← Nat.add_mul]
            congr 1
            omega
          have le2 := Le.add (ι := ι.kill b) k1.born w.drew.heap.size (D * i.size)
          refine Res.alloc (w := w.drew) (st := ⟨st.nx, _, _, st.fr⟩) k1.drew (S := D * i.size) (x := .cells ((olds.toArray ++ vs) ++ Builtin.zeroCells zv.cells (D - (sl + n))) e) ?_
            (VR_slice_new (ι.kill b) _ _ _ (sl + n) D i.size (sl + n) false (Nat.le_refl _) hCC (fun h => by cases h) (fun _ => Nat.le_refl _)) rfl
          have hcells : VRs ((ι.kill b).add st.nx w.drew.heap.size (D * i.size)) (rowCells zl zz cs (sl * i.size) 0 ++ news) (olds ++ vs.toList) := VRs.mono (le.trans le2) _ _ (hol.append hvs)
          have := OR_cells (rest := (Builtin.zeroCells zv.cells (D - (sl + n))).toList) hcells (by rw [List.all_append, hall', hall]; rfl) e hS (n := (sl + n) * i.size) (zl := zl) (z := zz) (cs := setCells news cs m)
            (by rw [List.length_append, hlen'', hlen', hsum]) (fun j hj => by
              rw [hnew j hj]
              by_cases hjm : j < m
              · rw [if_pos hjm]
                simp only [rowCells_eq, Nat.zero_add, List.getD]
                rw [List.getElem?_append_left (by simp; omega)]
                simp [show j < sl * i.size by omega]
              · rw [if_neg hjm]
                simp only [List.getD]
                rw [List.getElem?_append_right (by rw [hlen'']; omega), hlen'', hm'])
          have e2 : (olds ++ vs.toList).toArray = olds.toArray ++ vs := by apply Array.ext'; simp
          rw [e2] at this
          simpa using this
      · simp only [cond]
        have hCe := hex (by simp)
        subst hCe
        rw [force_eq]
        refine cond_no fun hle => ?_
        rw [bleN] at hle
        have hle' : off + sl * i.size ≤ m := hle
        rw [force_eq, St.alloc_eq]
        obtain ⟨olds, hol, hall', hlen'', hrun⟩ := growth k hroom' hle'
        rw [hrun]
        have hl3 : (rowCells zl zz cs (sl * i.size) off ++ news).length = (sl + n) * i.size := by rw [List.length_append, hlen'', hlen', Nat.add_mul]
        have hg2 := grown_ok (w := w) (size := i.size) (e := e) k (cells := rowCells zl zz cs (sl * i.size) off ++ news) (vs := olds.toArray ++ vs) (zs := zv.cells) (need := sl + n)
          (by simpa using hol.append hvs) (by rw [List.all_append, hall', hall]; rfl) hl3 hzs (cut_append (sl + n) C e (w.tape w.drawn (.appendCap (sl + n) C e))) rfl
        rw [hl3] at hg2
        rw [lapp_eq]
        exact hg2

end
end Go.Ev

namespace Go.Ev
open Go.RowKit

section
variable {P : Program} {ι : Inj} {w : World} {st : St}
variable {ρ : Operand → Value} {op : Operand → OF} {env : Env} {o : Oper}

theorem repeat_all {z : List AV} (h : z.all AV.cell = true) : ∀ n, (repeatC z n).all AV.cell = true
  | 0 => rfl
  | n + 1 => by
    show (lapp z (repeatC z n)).all AV.cell = true
    rw [lapp_eq, List.all_append, h, repeat_all h n]; rfl

theorem appendF_ok {t u ty : TypeId} {l : List TypeId} {s x : Operand} (k : Sim ι st.h st.nx w) (hs : VR ι ((op s).run env) (ρ s)) (hx : VR ι ((op x).run env) (ρ x)) :
    Res ι w st ((appendF P t u (op s) (op x)).run env st) (((Builtin.append_ (t :: u :: l).toArray ty #[ρ s, ρ x]).run P w).andThen fun v w' => .ok (.value v) w') := by
  unfold appendF
  split <;> try trivial
  rename_i e he
  have ht := elem_ok he
  split <;> try trivial
  rename_i i z hi hz
  obtain ⟨i', zv, hi', hzv, hr⟩ := zero_ok hz ι
  rw [hi] at hi'
  cases hi'
  generalize hcc : cond (lall AV.cell z) (Nat.beq (llen z) i.size) false = cc
  cases cc <;> try trivial
  have hcell : z.all AV.cell = true ∧ z.length = i.size := by
    cases hh : lall AV.cell z
    · rw [hh] at hcc; cases hcc
    · rw [hh] at hcc
      simp only [cond] at hcc
      rw [beqN, llen_eq] at hcc
      rw [lall_eq] at hh
      exact ⟨hh, hcc⟩
  have hzs : zv.cells.size = i.size := by have := hr.length; rw [Array.length_toList] at this; omega
  simp only [cond]
  split <;> try trivial
  · rename_i k0 hu
    refine onNat_ok hx fun kk n hn => cond_no fun h1 => cond_no fun h2 => ?_
    rw [bleN] at h1 h2
    have hrep : VRs ι (repeatC z n) (Builtin.zeroCells zv.cells n).toList := by
      have : Builtin.zeroCells zv.cells n = madeCells zv.cells (n * zv.cells.size) := rfl
      rw [this, rep_made]; exact repeat_ok hr n
    refine append_ok ht hi hzv hzs k hs (vs := if n * i.size = 0 then #[] else Builtin.zeroCells zv.cells n) (.inr ⟨k0, kk, hu, hn, h2, h1, rfl⟩) ?_ (repeat_all hcell.1 n)
    by_cases h0 : n * i.size = 0
    · rw [if_pos h0]
      have h3 := hrep.length
      rw [Array.length_toList, zeroCells_size, hzs, h0] at h3
      have h4 : repeatC z n = [] := List.eq_nil_of_length_eq_zero h3.symm
      rw [h4]
      simp [VRs]
    · rw [if_neg h0]; exact hrep
  · rename_i e' hu
    refine onLen_ok (P := P) hx fun n hn => firstCells_ok (P := P) k hx ⟨n, hn w, Nat.le_refl _⟩ fun cells vs hf hf' hvs hall _ => ?_
    exact append_ok ht hi hzv hzs k hs (.inl ⟨_, hu, .inr ⟨_, rfl⟩, hn, hf, hf'⟩) hvs hall
  · rename_i hu
    refine onLen_ok (P := P) hx fun n hn => firstCells_ok (P := P) k hx ⟨n, hn w, Nat.le_refl _⟩ fun cells vs hf hf' hvs hall _ => ?_
    exact append_ok ht hi hzv hzs k hs (.inl ⟨_, hu, .inl rfl, hn, hf, hf'⟩) hvs hall

def noRec (b : Builtin) : Bool := match b with | .recover => false | _ => true

theorem foldV (x : Operand) (l : List Operand) (hx : ∀ y ∈ l, VR ι ((op y).run env) (ρ y)) : VRs ι (lmap (fun x : OF => x.run env) (l.map op)) (l.map ρ) := by
  rw [lmap_eq, List.map_map]
  exact VRs.map_of l hx

theorem builtin_ok {b : Builtin} (hb : noRec b = true) {ts : Array TypeId} {ty : TypeId} {cs : Array Bool} {args : Array Operand} (k : Sim ι st.h st.nx w) (hx : ∀ x ∈ args.toList, VR ι ((op x).run env) (ρ x)) :
    Res ι w st ((builtinF P b ts (lmap op args.toList)).run env st) ((Go.builtin b ts ty cs (args.map ρ)).run P w) := by
  rw [lmap_eq]
  obtain ⟨args⟩ := args
  obtain ⟨ts⟩ := ts
  simp only at hx
  unfold builtinF
  split
  all_goals try trivial
  · rename_i x t _ heq ht
    match args, heq with
    | [y], heq =>
      simp only [List.map_cons, List.map_nil, List.cons.injEq, and_true] at heq
      subst heq
      simp only at ht
      subst ht
      simp only [Go.builtin, Sem.run_bind, Sem.run_pure, List.map_toArray, List.map_cons, List.map_nil]
      exact len_ok k (hx y (by simp))
  · rename_i x t _ heq ht
    match args, heq with
    | [y], heq =>
      simp only [List.map_cons, List.map_nil, List.cons.injEq, and_true] at heq
      subst heq
      simp only at ht
      subst ht
      simp only [Go.builtin, Sem.run_bind, Sem.run_pure, List.map_toArray, List.map_cons, List.map_nil]
      exact cap_ok k (hx y (by simp))
  · rename_i s x t u _ heq ht
    match args, heq with
    | [y, y'], heq =>
      simp only [List.map_cons, List.map_nil, List.cons.injEq, and_true] at heq
      obtain ⟨rfl, rfl⟩ := heq
      simp only at ht
      subst ht
      simp only [Go.builtin, Sem.run_bind, Sem.run_pure, List.map_toArray, List.map_cons, List.map_nil]
      exact appendF_ok k (hx y (by simp)) (hx y' (by simp))
  · rename_i d x t _ heq ht
    match args, heq with
    | [y, y'], heq =>
      simp only [List.map_cons, List.map_nil, List.cons.injEq, and_true] at heq
      obtain ⟨rfl, rfl⟩ := heq
      simp only at ht
      subst ht
      simp only [Go.builtin, Sem.run_bind, Sem.run_pure, List.map_toArray, List.map_cons, List.map_nil]
      exact copy_ok k (hx y (by simp)) (hx y' (by simp))
  · rename_i x l heq
    match args, heq with
    | y :: l', heq =>
      simp only [List.map_cons, List.cons.injEq] at heq
      obtain ⟨rfl, rfl⟩ := heq
      refine onSome_ok fun v hv => ?_
      obtain ⟨r, h1, h2⟩ := fold_ok (P := P) (w := w) (f := Ev.min2) (g := Builtin.min2) (fun x y z u v => min2_ok) _ _ _ _ _ (hx y (by simp)) (foldV (env := env) (op := op) (ρ := ρ) y l' (fun q hq => hx q (by simp [hq]))) hv
      refine Res.val k (x := r) ?_ h2
      simp only [Go.builtin, Sem.run_bind, Sem.run_pure, List.map_toArray, List.map_cons, Builtin.min_, h1, Result.andThen_ok]
  · rename_i x l heq
    match args, heq with
    | y :: l', heq =>
      simp only [List.map_cons, List.cons.injEq] at heq
      obtain ⟨rfl, rfl⟩ := heq
      refine onSome_ok fun v hv => ?_
      obtain ⟨r, h1, h2⟩ := fold_ok (P := P) (w := w) (f := Ev.max2) (g := Builtin.max2) (fun x y z u v => max2_ok) _ _ _ _ _ (hx y (by simp)) (foldV (env := env) (op := op) (ρ := ρ) y l' (fun q hq => hx q (by simp [hq]))) hv
      refine Res.val k (x := r) ?_ h2
      simp only [Go.builtin, Sem.run_bind, Sem.run_pure, List.map_toArray, List.map_cons, Builtin.max_, h1, Result.andThen_ok]

/-- an operation that leaves the frame alone -/
def calmOp (o : Op) : Bool :=
  match o with
  | .defer _ => false
  | .call c => match c.callee with
    | .builtin b => noRec b
    | _ => false
  | _ => true

theorem exec_ok (hc : calmOp o.op = true) (k : Sim ι st.h st.nx w) (hx : ∀ x ∈ o.op.operands.toList, VR ι ((op x).run env) (ρ x)) :
    Res ι w st ((compOp P op o.op).run env st) ((execOp ρ o).run P w) := by
  cases ho : o.op <;> rw [ho] at hc hx <;> simp only [Op.operands] at hx
  case move x => exact exec_move (.inl ho) k (hx x (by simp))
  case assign x => exact exec_move (.inr ho) k (hx x (by simp))
  case pick c a b => exact exec_pick ho k (hx c (by simp)) (hx a (by simp)) (hx b (by simp))
  case alloc t => exact exec_alloc ho k
  case box t x => exact exec_box ho k (hx x (by simp))
  case build t ps => exact exec_build ho k (fun p hp => hx p.2 (by simp; exact ⟨p.1, by simpa using hp⟩))
  case buildSlice t n ps => exact exec_buildSlice ho k (fun p hp => hx p.2 (by simp; exact ⟨p.1, by simpa using hp⟩))
  case load t a => exact exec_load ho k (hx a (by simp))
  case store t a x => exact exec_store ho k (hx a (by simp)) (hx x (by simp))
  case nilCheck x => exact exec_nilCheck ho k (hx x (by simp))
  case binOp b t x y s => exact exec_binOp ho k (hx x (by simp)) (hx y (by simp))
  case unOp b t x => exact exec_unOp ho k (hx x (by simp))
  case convert s d x => exact exec_convert ho k (hx x (by simp))
  case makeInterface t x => exact exec_makeInterface ho k (hx x (by simp))
  case makeFunc f first caps =>
    cases f <;> try trivial
    exact exec_makeFunc ho k (fun x hxm => hx x (by simp; right; exact hxm))
  case makeMap t r =>
    cases r <;> try trivial
    exact exec_makeMap ho k
  case makeSlice t l c => exact exec_makeSlice ho k (hx l (by simp)) (hx c (by simp))
  case slice t x lo hi mx => exact exec_slice ho k (hx x (by simp)) (fun a ha => hx a (by simp [ha])) (fun a ha => hx a (by simp [ha])) (fun a ha => hx a (by simp [ha]))
  case fieldAddr s x f => exact exec_fieldAddr ho k (hx x (by simp))
  case field s x f => exact exec_field ho k (hx x (by simp))
  case indexAddr t x i => exact exec_indexAddr ho k (hx x (by simp)) (hx i (by simp))
  case index t x i => exact exec_index ho k (hx x (by simp)) (hx i (by simp))
  case lookup t m x ok => exact exec_lookup ho k (hx m (by simp)) (hx x (by simp))
  case mapUpdate t m x y => exact exec_mapUpdate ho k (hx m (by simp)) (hx x (by simp)) (hx y (by simp))
  case range t x => exact exec_range ho k (hx x (by simp))
  case next it s =>
    cases s <;> try trivial
    exact exec_next ho k (hx it (by simp))
  case typeAssert x s t ok =>
    cases ok <;> try trivial
    exact exec_typeAssert ho k (hx x (by simp))
  case panic x => exact exec_panic ho k (hx x (by simp))
  case extract x i => exact exec_extract ho k (hx x (by simp))
  case call c =>
    simp only [calmOp] at hc
    split at hc
    · rename_i b hb
      have : (compOp P op (.call c)) = builtinF P b c.argTypes (lmap op c.args.toList) := by simp only [compOp, hb]
      rw [this, builtin_exec ho hb]
      exact builtin_ok hc k (fun x hxm => hx x (by simp [Call.operands, hb]; simpa using hxm))
    · cases hc
  case defer c => cases hc
  all_goals trivial

end
end Go.Ev

namespace Go.Ev
open Go.RowKit

/-! ### slots -/
noncomputable def tget (t : T AV) (x : Nat) : AV := ((getF (bitsR x)).run t).getD undefA

def idx (x : Nat) : List Nat → Option Nat
  | [] => none
  | n :: ns => if n = x then some 0 else (idx x ns).map (· + 1)

theorem recF_from (x : Nat) : ∀ (ns : List Nat) (k : Nat),
    (List.rec (motive := fun _ => (Nat → Option OF)) (fun _ => none) (fun n _ ih i => cond (Nat.beq n x) (some ⟨fun env => lget .bad env.rs i⟩) (ih (Nat.succ i))) ns k : Option OF)
      = (idx x ns).map fun i => ⟨fun env => lget .bad env.rs (k + i)⟩
  | [], k => rfl
  | n :: ns, k => by
    show cond (Nat.beq n x) _ _ = _
    simp only [idx]
    cases h : Nat.beq n x
    · have : n ≠ x := fun e => by rw [← beqN, h] at e; cases e
      rw [if_neg this]
      refine (recF_from x ns (Nat.succ k)).trans ?_
      rw [Option.map_map]
      congr 1
      funext i
      simp only [Function.comp]
      congr 2
      funext env
      congr 1
      omega
    · rw [beqN] at h
      rw [if_pos h]
      rfl

theorem recF_eq (x : Nat) (ns : List Nat) : recF x ns = (idx x ns).map fun i => ⟨fun env => lget .bad env.rs i⟩ := by
  unfold recF
  rw [recF_from]
  congr 1
  funext i
  rw [Nat.zero_add]

def DRs (ι : Inj) : List (FuncId × List AV) → List Deferred → Prop
  | [], l => l = []
  | p :: ps, l => ∃ cap dargs ds, l = { target := .fn (.func p.1) cap, args := dargs } :: ds ∧ VRs ι p.2 (dargs ++ cap).toList ∧ DRs ι ps ds

theorem DRs.mono {ι ι' : Inj} (h : Le ι ι') : ∀ (ps : List (FuncId × List AV)) (l : List Deferred), DRs ι ps l → DRs ι' ps l
  | [], _, k => k
  | p :: ps, l, k => by
    simp only [DRs] at k ⊢
    obtain ⟨cap, dargs, ds, rfl, h1, h2⟩ := k
    exact ⟨cap, dargs, ds, rfl, VRs.mono h _ _ h1, DRs.mono h ps ds h2⟩

structure Rel (ι : Inj) (U N : Nat) (t : T AV) (ns : List Nat) (rs : List AV) (st : St) (a : Act) (w : World) : Prop where
  sim : Sim ι st.h st.nx w
  size : N ≤ a.tmps.size
  env : ∀ x, inU U x = true → idx x ns = none → VR ι (tget t x) (a.tmps.getD x undef)
  recs : ∀ x i, idx x ns = some i → VR ι (rs.getD i .bad) (a.tmps.getD x undef)
  len : ns.length = rs.length
  ds : DRs ι st.fr a.defers

section
variable {P : Program} {ι : Inj} {w : World} {st : St} {U N : Nat} {t : T AV} {ns : List Nat} {rs : List AV} {a : Act}

theorem Rel.opd (r : Rel ι U N t ns rs st a w) (x : Operand) : VR ι ((opdF U ns x).run ⟨t, rs⟩) (a.eval x) := by
  cases x with
  | tmp x =>
    simp only [opdF, recF_eq]
    cases h : idx x ns with
    | some i =>
      simp only [Option.map_some, lget_eq]
      exact r.recs x i h
    | none =>
      simp only [Option.map_none]
      cases hu : inU U x
      · simp [VR]
      · have := r.env x hu h
        simp only [cond, tget] at this ⊢
        cases hg : (getF (bitsR x)).run t <;> rw [hg] at this <;> exact this
  | const v => exact VR_ofV ι v
  | global g => simp [opdF, VR]
  | func f => simp only [opdF, VR, Act.eval]; exact ⟨#[], rfl, by simp [VRs]⟩

theorem Rel.mono (r : Rel ι U N t ns rs st a w) {ι' : Inj} (h : Le ι ι') {st' : St} {w' : World} (hs : Sim ι' st'.h st'.nx w') (hf : st'.fr = st.fr) : Rel ι' U N t ns rs st' a w' :=
  ⟨hs, r.size, fun x hu hx => VR.mono h _ _ (r.env x hu hx), fun x i hx => VR.mono h _ _ (r.recs x i hx), r.len, by rw [hf]; exact DRs.mono h _ _ r.ds⟩

theorem put_get (a : Act) (d : Nat) (v : Value) (x : Nat) (hd : d < a.tmps.size) : (a.put (some d) v).tmps.getD x undef = if d = x then v else a.tmps.getD x undef := by
  simp only [Act.put, Array.getD_eq_getD_getElem?, Array.getElem?_setIfInBounds]
  by_cases h : d = x
  · subst h; simp [hd]
  · simp [h]

theorem put_size (a : Act) (d : Option Nat) (v : Value) : (a.put d v).tmps.size = a.tmps.size := by
  cases d <;> simp [Act.put]
theorem put_defers (a : Act) (d : Option Nat) (v : Value) : (a.put d v).defers = a.defers := by cases d <;> rfl

/-- a slot is written -/
theorem Rel.put (r : Rel ι U N t ns rs st a w) {d : Option Nat} (hd : ∀ x, d = some x → x < N) {v : AV} {y : Value} (hv : VR ι v y) :
    Rel ι U N t (pushN d ns) ((pushV d).run v rs) st (a.put d y) w := by
  cases d with
  | none => exact r
  | some d =>
    have hlt : d < a.tmps.size := Nat.lt_of_lt_of_le (hd d rfl) r.size
    refine ⟨r.sim, by rw [put_size]; exact r.size, fun x hu hx => ?_, fun x i hx => ?_, by simp [pushN, pushV, r.len], by rw [put_defers]; exact r.ds⟩
    · rw [put_get a d y x hlt]
      simp only [pushN, idx] at hx
      split at hx
      · cases hx
      · rename_i hne
        rw [if_neg hne]
        exact r.env x hu (by simpa using hx)
    · rw [put_get a d y x hlt]
      simp only [pushN, idx] at hx
      split at hx
      · rename_i he
        rw [if_pos he]
        simp only [Option.some.injEq] at hx
        subst hx
        exact hv
      · rename_i hne
        rw [if_neg hne, Option.map_eq_some_iff] at *
        obtain ⟨j, hj, rfl⟩ := hx
        exact r.recs x j hj

theorem flush_get (U : Nat) : ∀ (ns : List Nat) (rs : List AV) (t : T AV), ns.length = rs.length → ∀ x, inU U x = true →
    tget ((flushF U ns).run rs t) x = match idx x ns with | some i => rs.getD i .bad | none => tget t x
  | [], rs, t, _, x, _ => rfl
  | n :: ns, [], t, h, x, _ => by simp at h
  | n :: ns, v :: rs, t, h, x, hx => by
    have ih := flush_get U ns rs t (by simpa using h) x hx
    have e : (flushF U (n :: ns)).run (v :: rs) t = cond (inU U n) ((setF (bitsR n)).run v ((flushF U ns).run rs t)) ((flushF U ns).run rs t) := by
      show (LF.run (cond (inU U n) _ _)) _ _ = _
      cases inU U n <;> rfl
    rw [e]
    simp only [idx]
    by_cases hn : n = x
    · subst hn
      rw [hx, if_pos rfl]
      simp only [cond, tget, get_set, if_true, Option.getD_some]
      rfl
    · rw [if_neg hn]
      have h2 : tget (cond (inU U n) ((setF (bitsR n)).run v ((flushF U ns).run rs t)) ((flushF U ns).run rs t)) x = tget ((flushF U ns).run rs t) x := by
        cases inU U n
        · rfl
        · simp only [cond, tget, get_set, if_neg (fun e => hn e.symm : ¬ x = n)]
      rw [h2, ih]
      cases idx x ns <;> rfl

theorem Rel.flush (r : Rel ι U N t ns rs st a w) : Rel ι U N ((flushF U ns).run rs t) [] [] st a w := by
  refine ⟨r.sim, r.size, fun x hu _ => ?_, fun x i hx => by simp [idx] at hx, rfl, r.ds⟩
  rw [flush_get U ns rs t r.len x hu]
  cases h : idx x ns with
  | none => exact r.env x hu h
  | some i => exact r.recs x i h

/-! ### operations of a region that stand in one order -/
def wpO (P : Program) (ops : Array Oper) (Q : Exit → Act → World → Prop) : List Nat → Act → World → Prop
  | [], a, w => Q .normal a w
  | i :: rest, a, w =>
    match ops[i]? with
    | none => wpO P ops Q rest a w
    | some o => if Region.wanted o (yielded ops a.tmps) then o.wp P a w (wpO P ops Q rest) Q else wpO P ops Q rest (a.put o.dst undef) w

theorem wpOps_of {ops : Array Oper} {Q : Exit → Act → World → Prop} : ∀ (l : List Nat) (a : Act) (w : World), wpO P ops Q l a w → wpOps P ops Q l a w
  | [], a, w, h => h
  | i :: l, a, w, h => by
    simp only [wpO] at h
    simp only [wpOps]
    split
    · rename_i ho
      rw [ho] at h
      exact wpOps_of l a w h
    · rename_i o ho
      simp only [ho] at h
      split
      · rename_i hw
        simp only [hw, if_true] at h
        exact .inl (Oper.wp_mono (fun a w => wpOps_of l a w) h)
      · rename_i hw
        simp only [hw, if_false] at h
        exact wpOps_of l _ w h

/-- what a call of a function does, if the evaluator tells it -/
def Enters (P : Program) (f : FuncId) : Prop := ∃ fn, P.funcs[f]? = some fn ∧ fn.body.isSome = true ∧ (fn.name == "runtime.NumGoroutine") = false

def Done (ι : Inj) (w : World) (st st' : St) (v : AV) (x : Value) (w' : World) : Prop :=
  ∃ ι', Le ι ι' ∧ VR ι' v x ∧ Sim ι' st'.h st'.nx w' ∧ Grew ι w ι' w' ∧ Cleanly ι ι' st st'

def CallOK (P : Program) (call : CallF) : Prop :=
  ∀ (f : FuncId) (args : List AV) (st : St) (ι : Inj) (w : World) (vs : Array Value), Sim ι st.h st.nx w → VRs ι args vs.toList →
    match call f args st with
    | .no => True
    | .ok v st' => Enters P f ∧ Calls P f vs w fun e w' => ∃ x, e = .returned x ∧ Done ι w st st' v x w'
    | .pn v st' => Enters P f ∧ Calls P f vs w fun e w' => ∃ x, e = .panicked [{ v := x, recovered := false }] ∧ Done ι w st st' v x w'

/-- what is to hold behind a run of the evaluator -/
def Post (ι : Inj) (U N : Nat) (w : World) (st : St) (r : R) (Q : Exit → Act → World → Prop) : Prop :=
  match r with
  | .no => False
  | .go t' st' => ∀ ι' a' w', Le ι ι' → Rel ι' U N t' [] [] st' a' w' → Grew ι w ι' w' → Cleanly ι ι' st st' → Q .normal a' w'
  | .ex id t' st' => ∀ ι' a' w', Le ι ι' → Rel ι' U N t' [] [] st' a' w' → Grew ι w ι' w' → Cleanly ι ι' st st' → Q (.exit id) a' w'
  | .rt t' st' => ∀ ι' a' w', Le ι ι' → Rel ι' U N t' [] [] st' a' w' → Grew ι w ι' w' → Cleanly ι ι' st st' → Q .ret a' w'
  | .pn v t' st' => ∀ ι' a' w' x, Le ι ι' → Rel ι' U N t' [] [] st' a' w' → Grew ι w ι' w' → Cleanly ι ι' st st' → VR ι' v x → Q (.panic [{ v := x, recovered := false }]) a' w'

theorem Post.step {ι' : Inj} {w' : World} {st' : St} {r : R} {Q : Exit → Act → World → Prop} (hl : Le ι ι') (hg : Grew ι w ι' w') (hc : Cleanly ι ι' st st') (h : Post ι U N w st r Q) : Post ι' U N w' st' r Q := by
  cases r with
  | no => exact h
  | go t s => exact fun ι2 a2 w2 l2 r2 g2 c2 => h ι2 a2 w2 (hl.trans l2) r2 (hg.trans g2) (hc.trans c2)
  | ex i t s => exact fun ι2 a2 w2 l2 r2 g2 c2 => h ι2 a2 w2 (hl.trans l2) r2 (hg.trans g2) (hc.trans c2)
  | rt t s => exact fun ι2 a2 w2 l2 r2 g2 c2 => h ι2 a2 w2 (hl.trans l2) r2 (hg.trans g2) (hc.trans c2)
  | pn v t s => exact fun ι2 a2 w2 x l2 r2 g2 c2 hv => h ι2 a2 w2 x (hl.trans l2) r2 (hg.trans g2) (hc.trans c2) hv

theorem call_run {o : Oper} {c : Call} {ff : Operand} (ho : o.op = .call c) (hc : c.callee = .value ff) {f : FuncId} {cv : Array Value} (hf : a.eval ff = .func (.func f) #[] cv) (he : Enters P f) :
    (execOp a.eval o).run P w = .ok (.enter f ((c.args.map a.eval) ++ cv)) w := by
  obtain ⟨fn, h1, h2, h3⟩ := he
  have h2' : fn.body.isNone = false := by cases hb : fn.body <;> simp [hb] at h2 ⊢
  simp only [execOp, ho, resolve, hc, hf, Deferred.ofValue, Sem.run_bind, Sem.run_pure, Result.andThen_ok, invoke, callFunc, run_program, h1, h3, h2']
  simp

theorem defer_run {o : Oper} {c : Call} {ff : Operand} (ho : o.op = .defer c) (hc : c.callee = .value ff) {f : FuncId} {cv : Array Value} (hf : a.eval ff = .func (.func f) #[] cv) :
    (execOp a.eval o).run P w = .ok (.defer { target := .fn (.func f) cv, args := c.args.map a.eval }) w := by
  simp only [execOp, ho, resolve, hc, hf, Deferred.ofValue, Sem.run_bind, Sem.run_pure, Result.andThen_ok]
  simp

/-- one operation -/
theorem step_ok {call : CallF} (hcall : CallOK P call) (r : Rel ι U N t ns rs st a w) {o : Oper} (hd : ∀ x, o.dst = some x → x < N) {next : RF} {n : Nat} {K : Act → World → Prop} {Q : Exit → Act → World → Prop}
    (hp : Post ι U N w st ((stepF P (opdF U ns) (flushF U ns) o next).run call n t rs st) Q)
    (hk : ∀ ι' rs' st' a' w', Le ι ι' → Grew ι w ι' w' → Cleanly ι ι' st st' → Rel ι' U N t (pushN o.dst ns) rs' st' a' w' →
      Post ι' U N w' st' (next.run call n t rs' st') Q → K a' w') :
    o.wp P a w K Q := by
  unfold stepF at hp
  unfold Oper.wp
  split at hp
  · -- a call
    rename_i f args hco
    have hcs : ∃ c, o.op = .call c ∧ c.callee = .value f ∧ args = c.args.toList := by
      unfold callOf at hco
      split at hco
      · rename_i c hoc
        split at hco
        · rename_i f' hf'
          cases hco
          exact ⟨c, hoc, hf', rfl⟩
        · cases hco
      · cases hco
    obtain ⟨c, hoc, hcf, rfl⟩ := hcs
    have hvf := r.opd f
    try dsimp only at hp
    generalize hfv : (opdF U ns f).run ⟨t, rs⟩ = fv at hp hvf
    cases fv <;> try (exact hp.elim)
    rename_i fid caps
    simp only [VR] at hvf
    obtain ⟨cv, hcv, hcaps⟩ := hvf
    simp only [lapp_eq, lmap_eq] at hp
    have hargs : VRs ι (c.args.toList.map (fun x => (opdF U ns x).run ⟨t, rs⟩) ++ caps) ((c.args.map a.eval) ++ cv).toList := by
      rw [Array.toList_append, Array.toList_map]
      exact (VRs.map_of _ fun x _ => r.opd x).append hcaps
    have hC := hcall fid _ st ι w ((c.args.map a.eval) ++ cv) r.sim hargs
    generalize call fid (c.args.toList.map (fun x => (opdF U ns x).run ⟨t, rs⟩) ++ caps) st = er at hp hC
    cases er with
    | no => exact hp.elim
    | ok v st' =>
      obtain ⟨hen, hcs⟩ := hC
      rw [call_run hoc hcf hcv hen]
      simp only [Oper.upon]
      refine Calls.mono hcs fun e w' he => ?_
      obtain ⟨x, rfl, ι', hl, hv, hs, hg, hcl⟩ := he
      have hcl' : Cleanly ι ι' st (back st st') := ⟨hcl.nx, hcl.dirty, hcl.keep, hcl.above, hcl.u, hcl.le, hcl.n⟩
      have r' := (r.mono hl (st' := back st st') hs rfl).put hd hv
      exact hk ι' _ _ _ _ hl hg hcl' r' (Post.step hl hg hcl' hp)
    | pn v st' =>
      obtain ⟨hen, hcs⟩ := hC
      rw [call_run hoc hcf hcv hen]
      simp only [Oper.upon]
      refine Calls.mono hcs fun e w' he => ?_
      obtain ⟨x, rfl, ι', hl, hv, hs, hg, hcl⟩ := he
      have hcl' : Cleanly ι ι' st (back st st') := ⟨hcl.nx, hcl.dirty, hcl.keep, hcl.above, hcl.u, hcl.le, hcl.n⟩
      have r' := (r.mono hl (st' := back st st') hs rfl).flush
      exact hp ι' _ _ x hl r' hg hcl' hv
  · rename_i hco
    try dsimp only at hp
    cases hcalm : calmOp o.op
    · -- a call is deferred
      cases ho : o.op <;> rw [ho] at hcalm hp hco <;> simp only [calmOp] at hcalm <;> try (cases hcalm; done)
      case call c =>
        exfalso
        simp only [compOp] at hp
        split at hcalm
        · rename_i b hb
          simp only [hb] at hp
          cases b <;> simp only [noRec] at hcalm <;> try (cases hcalm; done)
          have : builtinF P .recover c.argTypes (lmap (opdF U ns) c.args.toList) = NOE := by
            unfold builtinF
            split <;> first | rfl | contradiction | simp_all
          rw [this] at hp
          exact hp
        · rename_i hnb
          cases hcc : c.callee with
          | builtin b => exact hnb b hcc
          | value f => simp [callOf, hcc] at hco
          | invoke r m => rw [hcc] at hp; exact hp
      case defer c =>
        simp only [compOp] at hp
        cases hf : c.callee <;> rw [hf] at hp <;> try (exact hp.elim)
        · rename_i f
          have hvf := r.opd f
          try dsimp only at hp
          generalize hfv : (opdF U ns f).run ⟨t, rs⟩ = fv at hp hvf
          cases fv <;> try (exact hp.elim)
          rename_i fid caps
          simp only [VR] at hvf
          obtain ⟨cv, hcv, hcaps⟩ := hvf
          rw [defer_run ho hf hcv]
          simp only [Oper.upon]
          simp only [lapp_eq, lmap_eq] at hp
          have hargs : VRs ι (c.args.toList.map (fun x => (opdF U ns x).run ⟨t, rs⟩) ++ caps) ((c.args.map a.eval) ++ cv).toList := by
            rw [Array.toList_append, Array.toList_map]
            exact (VRs.map_of _ fun x _ => r.opd x).append hcaps
          have hcl : Cleanly ι ι st ⟨st.nx, st.h, st.dirty, List.cons (fid, c.args.toList.map (fun x => (opdF U ns x).run ⟨t, rs⟩) ++ caps) st.fr⟩ := ⟨Nat.le_refl _, Nat.le_refl _, fun _ _ _ => rfl, fun _ _ => rfl, fun _ _ h => h, fun _ h => h, fun _ h1 h2 => absurd h2 (Nat.not_lt.2 h1)⟩
          have r1 : Rel ι U N t ns rs ⟨st.nx, st.h, st.dirty, List.cons (fid, c.args.toList.map (fun x => (opdF U ns x).run ⟨t, rs⟩) ++ caps) st.fr⟩
              { a with defers := { target := .fn (.func fid) cv, args := c.args.map a.eval } :: a.defers } w :=
            ⟨r.sim, r.size, r.env, r.recs, r.len, by simp only [DRs]; exact ⟨cv, _, _, rfl, hargs, r.ds⟩⟩
          exact hk ι _ _ _ _ (Le.refl ι) (Grew.refl ι w) hcl (r1.put hd (undef_ok ι)) (Post.step (Le.refl ι) (Grew.refl ι w) hcl hp)
    · have hres := exec_ok (P := P) (ρ := a.eval) (op := opdF U ns) (env := ⟨t, rs⟩) hcalm r.sim (fun x _ => r.opd x)
      generalize (compOp P (opdF U ns) o.op).run ⟨t, rs⟩ st = er at hp hres
      cases er with
      | no => exact hp.elim
      | ok v st' =>
        obtain ⟨ι', x, w', hr, hl, hv, hs, hg, hcl, hfr⟩ := hres
        have r' := (r.mono hl hs hfr).put hd hv
        rcases hr with hr | ⟨hr, rfl⟩
        · rw [hr]
          exact hk ι' _ _ _ _ hl hg hcl r' (Post.step hl hg hcl hp)
        · rw [hr]
          exact hk ι' _ _ _ _ hl hg hcl r' (Post.step hl hg hcl hp)
      | pn v st' =>
        obtain ⟨rfl, x, hr, hv⟩ := hres
        rw [hr]
        exact hp ι a w x (Le.refl ι) r.flush (Grew.refl ι w) (Cleanly.refl ι st') hv

end
end Go.Ev

namespace Go.Ev
open Go.RowKit

section
variable {P : Program} {ι : Inj} {w : World} {st : St} {U N : Nat} {t : T AV} {ns : List Nat} {rs : List AV} {a : Act}

theorem notBool {v : AV} {x : Value} (h : VR ι v x) (h1 : ∀ b, v ≠ .bool b) (h2 : v ≠ .bad) (b : Bool) : x ≠ .bool b := by
  intro e
  subst e
  cases v <;> simp only [VR] at h
  case bool c => exact h1 c rfl
  case bad => exact h2 rfl
  all_goals
    first
    | (cases h; done)
    | (obtain ⟨_, h, _⟩ := h; cases h; done)
    | (obtain ⟨_, _, h, _⟩ := h; cases h; done)
    | (obtain ⟨_, _, _, _, h, _⟩ := h; cases h; done)

theorem wanted_ok (r : Rel ι U N t ns rs st a w) (ops : Array Oper) (o : Oper) :
    match wantedF (opdF U ns) ops o with
    | none => Region.wanted o (yielded ops a.tmps) = true
    | some wf => ∀ b, wf.run ⟨t, rs⟩ = some b → Region.wanted o (yielded ops a.tmps) = b := by
  unfold wantedF Region.wanted
  cases hg : o.guard with
  | none => rfl
  | some jw =>
    obtain ⟨j, want⟩ := jw
    simp only
    cases hd : (ops[j]?).bind (·.dst) with
    | none => simp
    | some d =>
      simp only
      intro b hb
      have hv := r.opd (.tmp d)
      simp only [Act.eval] at hv
      generalize (opdF U ns (.tmp d)).run ⟨t, rs⟩ = v at hb hv
      have hy : yielded ops a.tmps j = match a.tmps[d]? with | some (.bool b) => some b | _ => none := by
        unfold yielded; rw [hd]; rfl
      rw [hy]
      have hget : a.tmps.getD d undef = (a.tmps[d]?).getD undef := by simp [Array.getD_eq_getD_getElem?]
      rw [hget] at hv
      split at hb
      · rename_i c
        simp only [Option.some.injEq] at hb
        simp only [VR] at hv
        cases hq : a.tmps[d]? with
        | none => rw [hq] at hv; simp [undef] at hv
        | some x =>
          rw [hq] at hv
          simp only [Option.getD_some] at hv
          subst hv
          simp only
          subst hb
          cases c <;> cases want <;> rfl
      · cases hb
      · rename_i h1 h2
        simp only [Option.some.injEq] at hb
        subst hb
        have hn := notBool hv (fun b e => h1 b e) (fun e => h2 e)
        cases hq : a.tmps[d]? with
        | none => rfl
        | some x =>
          rw [hq] at hn
          simp only [Option.getD_some] at hn
          cases x <;> first | rfl | (exact absurd rfl (hn _))

theorem compOps_cons (U : Nat) (ops : Array Oper) (o : Oper) (l : List Oper) (ns : List Nat) :
    compOps P U ops (o :: l) ns = guardF (wantedF (opdF U ns) ops o) o.dst (stepF P (opdF U ns) (flushF U ns) o (compOps P U ops l (pushN o.dst ns))) (compOps P U ops l (pushN o.dst ns)) := rfl

theorem ops_ok {call : CallF} (hcall : CallOK P call) {n : Nat} (ops : Array Oper) {Q : Exit → Act → World → Prop} : ∀ (l : List Oper) (il : List Nat), il.map (fun i => ops[i]?) = l.map some → (∀ o ∈ l, ∀ x, o.dst = some x → x < N) →
    ∀ (ι : Inj) (ns : List Nat) (t : T AV) (rs : List AV) (st : St) (a : Act) (w : World), Rel ι U N t ns rs st a w → Post ι U N w st ((compOps P U ops l ns).run call n t rs st) Q → wpO P ops Q il a w
  | [], il, hil, _, ι, ns, t, rs, st, a, w, r, hp => by
    have : il = [] := by simpa using hil
    subst this
    exact hp ι a w (Le.refl ι) r.flush (Grew.refl ι w) (Cleanly.refl ι st)
  | o :: l, [], hil, _, ι, ns, t, rs, st, a, w, r, hp => by simp at hil
  | o :: l, i :: il, hil, hd, ι, ns, t, rs, st, a, w, r, hp => by
    simp only [List.map_cons, List.cons.injEq] at hil
    obtain ⟨hi, hil⟩ := hil
    have ih := ops_ok (Q := Q) hcall (n := n) ops l il hil (fun o ho => hd o (by simp [ho]))
    rw [compOps_cons] at hp
    simp only [wpO, hi]
    have hw := wanted_ok r ops o
    have hstep : Post ι U N w st ((stepF P (opdF U ns) (flushF U ns) o (compOps P U ops l (pushN o.dst ns))).run call n t rs st) Q → o.wp P a w (wpO P ops Q il) Q := fun hp =>
      step_ok hcall r (hd o (by simp)) hp fun ι' rs' st' a' w' _ _ _ r' hp' => ih ι' _ t rs' st' a' w' r' hp'
    unfold guardF at hp
    generalize wantedF (opdF U ns) ops o = wf at hp hw
    cases wf with
    | none =>
      simp only at hw
      rw [if_pos hw]
      exact hstep hp
    | some wf =>
      simp only at hw
      try dsimp only at hp
      cases hb : wf.run ⟨t, rs⟩ with
      | none => rw [hb] at hp; exact hp.elim
      | some b =>
        rw [hb] at hp
        have hwb := hw b hb
        cases b
        · rw [if_neg (by rw [hwb]; simp)]
          exact ih ι _ t _ st _ w (r.put (hd o (by simp)) (undef_ok ι)) hp
        · rw [if_pos hwb]
          exact hstep hp

/-! ### code -/
theorem wp_loop_k {c : Code} {Q : Exit → Act → World → Prop} (J : Nat → Act → World → Prop) (hz : ∀ a w, ¬ J 0 a w)
    (round : ∀ k a w, J (k + 1) a w → c.wp P (Exit.then (fun a' w' => J k a' w') Q) a w) {k0 : Nat} (h : J k0 a w) : (Code.loop c).wp P Q a w := by
  intro b k cs
  have key : ∀ n a w, J n a w → ∃ e a' w', Q e a' w' ∧ Arrives P (lone (b.at a (.code c :: .inLoop c :: k)) cs w) b k cs e a' w' := by
    intro n
    induction n with
    | zero => intro a w hJ; exact absurd hJ (hz a w)
    | succ n ih =>
      intro a w hJ
      obtain ⟨e, a₁, w₁, hq, harr⟩ := round n a w hJ b (.inLoop c :: k) cs
      cases e with
      | normal =>
        obtain ⟨e₂, a₂, w₂, hq₂, harr₂⟩ := ih a₁ w₁ hq
        exact ⟨e₂, a₂, w₂, hq₂, .of_steps (Steps.trans harr (.one step_inLoop)) harr₂⟩
      | exit id => exact ⟨_, a₁, w₁, hq, .pass (x := .inLoop c) rfl (fun _ _ => .inl (by simp)) harr⟩
      | goto l => exact ⟨_, a₁, w₁, hq, .pass (x := .inLoop c) rfl (fun _ _ => .inl (by simp)) harr⟩
      | ret => exact ⟨_, a₁, w₁, hq, .pass (x := .inLoop c) rfl (fun _ _ => .inl (by simp)) harr⟩
      | panic ch => exact ⟨_, a₁, w₁, hq, .pass (x := .inLoop c) rfl (fun _ _ => .inl (by simp)) harr⟩
      | outgrown => exact ⟨_, a₁, w₁, hq, .pass (x := .inLoop c) rfl (fun _ _ => .inl (by simp)) harr⟩
  obtain ⟨e, a', w', hq, harr⟩ := key _ a w h
  exact ⟨e, a', w', hq, .of_steps (.one step_loop) harr⟩

/-- what is shown elsewhere: a region that draws its order -/
def DrawOK (P : Program) : Prop :=
  ∀ (call : CallF), CallOK P call → ∀ (n : Nat) (U N : Nat) (ops : Array Oper), orderOk P ops = true → (∀ o ∈ ops.toList, ∀ x, o.dst = some x → x < N) →
    ∀ (ι : Inj) (t : T AV) (st : St) (a : Act) (w : World) (Q : Exit → Act → World → Prop) (id : Nat), Rel ι U N t [] [] st a w → Post ι U N w st ((drawF P U ops).run call n t [] [] st) Q → (Code.region id ops true).wp P Q a w

theorem lallB_eq {α : Type} (p : α → Bool) (l : List α) : lallB p l = l.all p := by
  induction l with
  | nil => rfl
  | cons a l ih => show cond (p a) (lallB p l) false = _; rw [ih]; cases h : p a <;> simp [h]

theorem dsts_region {id : Nat} {ops : Array Oper} {d : Bool} (h : dstsOK N (.region id ops d) = true) : ∀ o ∈ ops.toList, ∀ x, o.dst = some x → x < N := by
  change lallB _ ops.toList = true at h
  rw [lallB_eq, List.all_eq_true] at h
  intro o ho x hx
  have := h o ho
  rw [hx] at this
  simp only at this
  rw [bleN] at this
  exact this

theorem range_map (ops : Array Oper) : (List.range ops.size).map (fun i => ops[i]?) = ops.toList.map some := by
  apply List.ext_getElem
  · simp
  · intro i h1 h2
    simp at h1
    simp [h1]

theorem cond_and {a b : Bool} (h : cond a b false = true) : a = true ∧ b = true := by
  cases a
  · cases h
  · exact ⟨rfl, h⟩

theorem comp_ok {call : CallF} (hcall : CallOK P call) (hdraw : DrawOK P) {n : Nat} : ∀ (c : Code), dstsOK N c = true → ∀ (ι : Inj) (t : T AV) (st : St) (a : Act) (w : World) (Q : Exit → Act → World → Prop),
    Rel ι U N t [] [] st a w → Post ι U N w st ((comp P U c).run call n t st) Q → c.wp P Q a w := by
  intro c
  induction c with
  | skip => exact fun _ ι t st a w Q r hp => wp_skip (hp ι a w (Le.refl ι) r (Grew.refl ι w) (Cleanly.refl ι st))
  | region id ops d =>
    intro hd ι t st a w Q r hp
    have hdst := dsts_region hd
    cases d with
    | false =>
      refine wp_region (wpOps_of _ _ _ ?_)
      exact ops_ok hcall (n := n) ops ops.toList (List.range ops.size) (range_map ops) hdst ι [] t [] st a w r hp
    | true =>
      change Post ι U N w st ((cond (orderOk P ops) (⟨fun call n t st => (drawF P U ops).run call n t [] [] st⟩ : CF) NOC).run call n t st) Q at hp
      cases ho : orderOk P ops
      · rw [ho] at hp; exact hp.elim
      · rw [ho] at hp
        exact hdraw call hcall n U N ops ho hdst ι t st a w Q id r hp
  | seq x y ihx ihy =>
    intro hd ι t st a w Q r hp
    obtain ⟨hdx, hdy⟩ := cond_and (show cond (dstsOK N x) (dstsOK N y) false = true from hd)
    change Post ι U N w st (match (comp P U x).run call n t st with | .go env st => (comp P U y).run call n env st | r => r) Q at hp
    refine wp_seq (ihx hdx ι t st a w _ r ?_)
    generalize (comp P U x).run call n t st = rx at hp
    cases rx with
    | no => exact hp
    | go t' st' => exact fun ι' a' w' hl r' hg hc => ihy hdy ι' t' st' a' w' Q r' (Post.step hl hg hc hp)
    | ex i t' st' => exact hp
    | rt t' st' => exact hp
    | pn v t' st' => exact hp
  | cond x a1 b1 iha ihb =>
    intro hd ι t st a w Q r hp
    obtain ⟨hda, hdb⟩ := cond_and (show cond (dstsOK N a1) (dstsOK N b1) false = true from hd)
    change Post ι U N w st (match (opdF U [] x).run ⟨t, []⟩ with | .bool q => _root_.cond q ((comp P U a1).run call n t st) ((comp P U b1).run call n t st) | _ => .no) Q at hp
    have hv := r.opd x
    generalize (opdF U [] x).run ⟨t, []⟩ = v at hp hv
    cases v <;> try (exact hp.elim)
    rename_i q
    simp only [VR] at hv
    refine wp_cond hv ?_
    cases q
    · exact ihb hdb ι t st a w Q r hp
    · exact iha hda ι t st a w Q r hp
  | block id x ih =>
    intro hd ι t st a w Q r hp
    change Post ι U N w st (match (comp P U x).run call n t st with | .ex id' env st => _root_.cond (Nat.beq id' id) (.go env st) (.ex id' env st) | r => r) Q at hp
    refine wp_block (ih hd ι t st a w _ r ?_)
    generalize (comp P U x).run call n t st = rx at hp
    cases rx with
    | no => exact hp
    | go t' st' => exact hp
    | ex i t' st' =>
      intro ι' a' w' hl r' hg hc
      simp only at hp
      cases hb : Nat.beq i id
      · rw [hb] at hp
        have hne : ¬ i = id := fun e => by rw [← beqN, hb] at e; cases e
        simp only [Exit.inBlock, if_neg hne]
        exact hp ι' a' w' hl r' hg hc
      · rw [hb] at hp
        rw [beqN] at hb
        simp only [Exit.inBlock, if_pos hb]
        exact hp ι' a' w' hl r' hg hc
    | rt t' st' => exact hp
    | pn v t' st' => exact hp
  | loop x ih =>
    intro hd ι t st a w Q r hp
    change Post ι U N w st (loopR (comp P U x) call n n t st) Q at hp
    refine wp_loop_k (fun k a w => ∃ ι t st, Rel ι U N t [] [] st a w ∧ Post ι U N w st (loopR (comp P U x) call n k t st) Q) (fun a w h => ?_) (fun k a w h => ?_) ⟨ι, t, st, r, hp⟩
    · obtain ⟨ι, t, st, r, hp⟩ := h
      exact hp
    · obtain ⟨ι, t, st, r, hp⟩ := h
      refine ih hd ι t st a w _ r ?_
      change Post ι U N w st (match (comp P U x).run call n t st with | .go env st => loopR (comp P U x) call n k env st | r => r) Q at hp
      generalize (comp P U x).run call n t st = rx at hp
      cases rx with
      | no => exact hp
      | go t' st' => exact fun ι' a' w' hl r' hg hc => ⟨ι', t', st', r', Post.step hl hg hc hp⟩
      | ex i t' st' => exact hp
      | rt t' st' => exact hp
      | pn v t' st' => exact hp
  | rangeFunc f ps a1 b1 => exact fun _ ι t st a w Q r hp => hp.elim
  | exit id => exact fun _ ι t st a w Q r hp => wp_exit (hp ι a w (Le.refl ι) r (Grew.refl ι w) (Cleanly.refl ι st))
  | scope x => exact fun _ ι t st a w Q r hp => hp.elim
  | label l => exact fun _ ι t st a w Q r hp => hp.elim
  | goto l => exact fun _ ι t st a w Q r hp => hp.elim
  | ret => exact fun _ ι t st a w Q r hp => wp_ret (hp ι a w (Le.refl ι) r (Grew.refl ι w) (Cleanly.refl ι st))
  | _ => exact fun _ ι t st a w Q r hp => hp.elim

end
end Go.Ev

namespace Go.Ev
open Go.RowKit

section
variable {P : Program} {ι : Inj} {w : World} {st : St} {U N : Nat} {t : T AV} {a : Act}

/-! ### results -/
def resOf (tmps : Array Value) : ResultVar → Sem Value
  | .tmp t => pure (tmps.getD t undef)
  | .cell b t => do loadVar t (← asAddr (tmps.getD b undef))

theorem run_result {r : ResultVar} (h : Rel ι U N t [] [] st a w) {v : AV} (hv : (resultF P U r).run ⟨t, []⟩ st = some v) :
    ∃ x, (resOf a.tmps r).run P w = .ok x w ∧ VR ι v x := by
  cases r with
  | tmp x =>
    simp only [resultF, Option.some.injEq] at hv
    subst hv
    exact ⟨a.tmps.getD x undef, by simp [resOf], h.opd (.tmp x)⟩
  | cell b ty =>
    simp only [resultF] at hv
    have hop := h.opd (.tmp b)
    obtain ⟨x, hx, hvx⟩ := load_ok h.sim hop hv
    refine ⟨x, ?_, hvx⟩
    have hptr : ∃ bb o, (opdF U [] (.tmp b)).run ⟨t, []⟩ = .ptr bb o := by
      unfold loadK at hv
      split at hv
      · simp only at hv
        split at hv
        · rename_i bb o heq; exact ⟨bb, o, heq⟩
        · cases hv
      · simp only at hv
        split at hv
        · rename_i bb o heq; exact ⟨bb, o, heq⟩
        · cases hv
      · cases hv
    obtain ⟨bb, o, hp⟩ := hptr
    rw [hp] at hop
    simp only [VR] at hop
    obtain ⟨_, ad, had, _⟩ := hop
    simp only [Act.eval] at had hx
    rw [had] at hx
    simp only [Instr.loadAt, Instr.sureAddr, Sem.run_bind, Sem.run_pure, Result.andThen_ok] at hx
    simp only [resOf, had, asAddr, Sem.run_bind, Sem.run_pure, Result.andThen_ok]
    exact hx

theorem results_list (h : Rel ι U N t [] [] st a w) : ∀ (l : List ResultVar) (vs : List AV), resultsF P U l ⟨t, []⟩ st = some vs →
    ∃ xs : List Value, (l.mapM (resOf a.tmps)).run P w = .ok xs w ∧ VRs ι vs xs
  | [], vs, hv => by
    have : some ([] : List AV) = some vs := hv
    cases this
    exact ⟨[], by simp, by simp [VRs]⟩
  | r :: l, vs, hv => by
    change (match (resultF P U r).run ⟨t, []⟩ st, resultsF P U l ⟨t, []⟩ st with | some v, some vs => some (List.cons v vs) | _, _ => none) = some vs at hv
    cases h1 : (resultF P U r).run ⟨t, []⟩ st with
    | none => rw [h1] at hv; cases hv
    | some v =>
      cases h2 : resultsF P U l ⟨t, []⟩ st with
      | none => rw [h1, h2] at hv; cases hv
      | some vs' =>
        rw [h1, h2] at hv
        simp only [Option.some.injEq] at hv
        subst hv
        obtain ⟨x, hx, hvx⟩ := run_result h h1
        obtain ⟨xs, hxs, hvxs⟩ := results_list h l vs' h2
        refine ⟨x :: xs, ?_, by simp only [VRs]; exact ⟨x, xs, rfl, hvx, hvxs⟩⟩
        rw [List.mapM_cons]
        simp only [Sem.run_bind, hx, hxs, Result.andThen_ok, Sem.run_pure]

theorem results_def (fn : Func) (tmps : Array Value) : results fn tmps = (do let vs ← fn.results.mapM (resOf tmps); pure (if h : vs.size = 1 then vs[0] else .tuple vs)) := by
  unfold results
  congr 2

theorem results_ok (h : Rel ι U N t [] [] st a w) {fn : Func} {vs : List AV} (hv : resultsF P U fn.results.toList ⟨t, []⟩ st = some vs) :
    ∃ x, (results fn a.tmps).run P w = .ok x w ∧ VR ι (oneOf vs) x := by
  obtain ⟨xs, hxs, hvxs⟩ := results_list h _ _ hv
  refine ⟨if h : xs.toArray.size = 1 then xs.toArray[0] else .tuple xs.toArray, ?_, ?_⟩
  · rw [results_def, Array.mapM_eq_mapM_toList]
    simp only [Sem.run_bind, Sem.run_map]
    rw [hxs]
    simp
  · unfold oneOf
    split
    · rename_i v
      simp only [VRs] at hvxs
      obtain ⟨x, xs', rfl, hx, rfl⟩ := hvxs
      simpa using hx
    · rename_i vs' hne
      have hl := hvxs.length
      have : ¬ xs.toArray.size = 1 := by
        intro e
        rw [List.size_toArray, hl] at e
        match vs, e with
        | [v], _ => exact hne v rfl
      rw [dif_neg this]
      simp only [VR]
      exact ⟨_, rfl, by simpa using hvxs⟩

/-! ### entering -/
theorem argsE_get : ∀ (l : List AV) (i : Nat) (t : T AV) (x : Nat), tget (argsE l i t) x = if i ≤ x ∧ x < i + l.length then l.getD (x - i) .bad else tget t x
  | [], i, t, x => by
    have : ¬ (i ≤ x ∧ x < i + ([] : List AV).length) := by simp
    rw [if_neg this]; rfl
  | v :: l, i, t, x => by
    have e : argsE (v :: l) i t = argsE l (i + 1) ((setF (bitsR i)).run v t) := rfl
    rw [e, argsE_get l (i + 1)]
    by_cases h : x = i
    · subst h
      rw [if_neg (by omega), if_pos (by simp)]
      simp [tget, get_set]
    · by_cases h2 : i + 1 ≤ x ∧ x < i + 1 + l.length
      · rw [if_pos h2, if_pos (by simp; omega)]
        obtain ⟨k, hk⟩ : ∃ k, x - i = k + 1 := ⟨x - i - 1, by omega⟩
        have hk' : x - (i + 1) = k := by omega
        rw [hk, hk']; simp
      · rw [if_neg h2, if_neg (by simp; omega)]
        simp only [tget, get_set, if_neg h]

theorem entry_rel {args : List AV} {vs : Array Value} (hs : Sim ι st.h st.nx w) (hargs : VRs ι args vs.toList) (hfr : st.fr = []) :
    Rel ι U N (argsE args 0 .e) [] [] st { tmps := vs ++ Array.replicate (N - vs.size) undef, defers := [] } w := by
  have hl := hargs.length
  rw [Array.length_toList] at hl
  refine ⟨hs, by simp; omega, fun x hu _ => ?_, fun x i hx => by simp [idx] at hx, rfl, by rw [hfr]; simp [DRs]⟩
  rw [argsE_get]
  by_cases h : 0 ≤ x ∧ x < 0 + args.length
  · rw [if_pos h, Nat.sub_zero]
    have hx : x < vs.size := by omega
    have := hargs.get x (by omega)
    have e : (vs ++ Array.replicate (N - vs.size) undef).getD x undef = vs.toList.getD x undef := by
      simp [Array.getD_eq_getD_getElem?, Array.getElem?_append, hx, List.getD]
    rw [e]
    exact this
  · rw [if_neg h]
    have hx : ¬ x < vs.size := by omega
    have e : (vs ++ Array.replicate (N - vs.size) undef).getD x undef = undef := by
      simp only [Array.getD_eq_getD_getElem?, Array.getElem?_append, if_neg hx]
      by_cases h2 : x - vs.size < N - vs.size
      · simp [h2]
      · simp [h2]
    have e2 : tget (.e : T AV) x = undefA := by simp [tget, get_e]
    rw [e, e2]
    exact undef_ok ι

/-! ### leaving -/
def MdR (ι : Inj) : Md → FrameMode → Prop
  | .calm, u => u = .returning
  | .pan v, u => ∃ x, u = .panicking [{ v := x, recovered := false }] ∧ VR ι v x
  | .done, u => ∃ x, u = .panicking [{ v := x, recovered := true }]

theorem MdR.mono {ι ι' : Inj} (h : Le ι ι') {m : Md} {u : FrameMode} (k : MdR ι m u) : MdR ι' m u := by
  cases m with
  | calm => exact k
  | pan v => obtain ⟨x, e, hv⟩ := k; exact ⟨x, e, VR.mono h _ _ hv⟩
  | done => exact k

def Fin (ι : Inj) (w : World) (st : St) (r : ER) (R : Ending → World → Prop) : Prop :=
  match r with
  | .no => False
  | .ok v st' => ∀ x w', Done ι w st st' v x w' → R (.returned x) w'
  | .pn v st' => ∀ x w', Done ι w st st' v x w' → R (.panicked [{ v := x, recovered := false }]) w'

theorem Fin.step {ι' : Inj} {w' : World} {st' : St} {r : ER} {R : Ending → World → Prop} (hl : Le ι ι') (hg : Grew ι w ι' w') (hc : Cleanly ι ι' st st') (h : Fin ι w st r R) : Fin ι' w' st' r R := by
  cases r with
  | no => exact h
  | ok v s => exact fun x w2 ⟨ι2, l2, v2, s2, g2, c2⟩ => h x w2 ⟨ι2, hl.trans l2, v2, s2, hg.trans g2, hc.trans c2⟩
  | pn v s => exact fun x w2 ⟨ι2, l2, v2, s2, g2, c2⟩ => h x w2 ⟨ι2, hl.trans l2, v2, s2, hg.trans g2, hc.trans c2⟩

/-- what the evaluator tells of a call that was deferred -/
def DefOK (P : Program) (D : DF) : Prop :=
  ∀ (f : FuncId) (args : List AV) (m : Md) (st : St) (ι : Inj) (w : World) (vs : Array Value) (u : FrameMode), st.fr = [] → Sim ι st.h st.nx w → VRs ι args vs.toList → MdR ι m u →
    match D.run f args m st with
    | .no => True
    | .ok m' st' => Enters P f ∧ CallsD P f vs u w fun e u' w' => ∃ y ι', e = .returned y ∧ Le ι ι' ∧ MdR ι' m' u' ∧ Sim ι' st'.h st'.nx w' ∧ Grew ι w ι' w' ∧ Cleanly ι ι' st st'

theorem leave_ok {D : DF} (hD : DefOK P D) {fn : Func} {tmps : Array Value} {R : Ending → World → Prop} : ∀ (ds : List (FuncId × List AV)) (dl : List Deferred) (ι : Inj) (st : St) (w : World) (m : Md) (u : FrameMode),
    Rel ι U N t [] [] st ⟨tmps, []⟩ w → st.fr = [] → DRs ι ds dl → MdR ι m u → Fin ι w st (leaveF P U D fn.results.toList ds t st m) R → Leaves P fn tmps R dl u w
  | [], dl, ι, st, w, m, u, r, hfr, hd, hm, hf => by
    simp only [DRs] at hd
    subst hd
    cases m with
    | calm =>
      simp only [MdR] at hm
      subst hm
      change Fin ι w st (match resultsF P U fn.results.toList ⟨t, []⟩ st with | some vs => .ok (oneOf vs) st | none => .no) R at hf
      cases hv : resultsF P U fn.results.toList ⟨t, []⟩ st with
      | none => rw [hv] at hf; exact hf.elim
      | some vs =>
        rw [hv] at hf
        obtain ⟨x, hx, hvx⟩ := results_ok r hv
        exact ⟨x, hx, hf x w ⟨ι, Le.refl ι, hvx, r.sim, Grew.refl ι w, Cleanly.refl ι st⟩⟩
    | pan v =>
      obtain ⟨x, rfl, hvx⟩ := hm
      exact hf x w ⟨ι, Le.refl ι, hvx, r.sim, Grew.refl ι w, Cleanly.refl ι st⟩
    | done => exact hf.elim
  | d :: ds, dl, ι, st, w, m, u, r, hfr, hd, hm, hf => by
    simp only [DRs] at hd
    obtain ⟨cap, dargs, dl', rfl, hargs, hd'⟩ := hd
    change Fin ι w st (match D.run d.1 d.2 m st.bare with
      | .ok m' st' => (match m' with
        | .calm => leaveF P U D fn.results.toList ds t st'.bare .calm
        | .pan v => leaveF P U D fn.results.toList ds t st'.bare (.pan v)
        | .done => leaveF P U D fn.results.toList ds t st'.bare .calm)
      | .no => .no) R at hf
    have h1 := hD d.1 d.2 m st.bare ι w (dargs ++ cap) u rfl r.sim hargs hm
    generalize D.run d.1 d.2 m st.bare = dr at hf h1
    cases dr with
    | no => exact hf.elim
    | ok m' st' =>
      obtain ⟨hen, hcall⟩ := h1
      have hu : u ≠ .run := by
        cases m with
        | calm => simp only [MdR] at hm; rw [hm]; simp
        | pan v => obtain ⟨x, rfl, _⟩ := hm; simp
        | done => obtain ⟨x, rfl⟩ := hm; simp
      refine ⟨hu, .func d.1, cap, d.1, dargs ++ cap, rfl, ?_, ?_⟩
      · obtain ⟨fn', h1, h2, h3⟩ := hen
        have h2' : fn'.body.isNone = false := by cases hb : fn'.body <;> simp [hb] at h2 ⊢
        simp only [invoke, callFunc, Sem.run_bind, run_program, Result.andThen_ok, h1, h3, h2']
        simp
      · refine CallsD.mono hcall fun e u' w' he => ?_
        obtain ⟨y, ι', rfl, hl, hm', hs, hg, hcl⟩ := he
        have hcl' : Cleanly ι ι' st st'.bare := ⟨hcl.nx, hcl.dirty, hcl.keep, hcl.above, hcl.u, hcl.le, hcl.n⟩
        have r' : Rel ι' U N t [] [] st'.bare ⟨tmps, []⟩ w' := r.mono hl (st' := st'.bare) hs (by rw [hfr]; rfl)
        have hf' := Fin.step hl hg hcl' hf
        have hset : ∃ m2, MdR ι' m2 (settle u') ∧ Fin ι' w' st'.bare (leaveF P U D fn.results.toList ds t st'.bare m2) R := by
          cases m' with
          | calm =>
            simp only [MdR] at hm'
            subst hm'
            exact ⟨.calm, rfl, hf'⟩
          | pan v =>
            obtain ⟨x, rfl, hv⟩ := hm'
            exact ⟨.pan v, ⟨x, rfl, hv⟩, hf'⟩
          | done =>
            obtain ⟨x, rfl⟩ := hm'
            exact ⟨.calm, rfl, hf'⟩
        obtain ⟨m2, hm2, hf2⟩ := hset
        exact leave_ok hD ds dl' ι' st'.bare w' m2 (settle u') r' rfl (DRs.mono hl _ _ hd') hm2 hf2

end
end Go.Ev

namespace Go.Ev
open Go.RowKit

section
variable {P : Program} {ι : Inj} {w : World} {st : St} {U N : Nat} {t : T AV} {a : Act}

/-! ### deferred calls -/
theorem wpOpsS_of {ops : Array Oper} {Q : Exit → Act → List Frame → World → Prop} {cs : List Frame} : ∀ (l : List Nat) (a : Act) (w : World),
    wpO P ops (fun e a w => Q e a cs w) l a w → wpOpsS P ops Q l a cs w
  | [], a, w, h => h
  | i :: l, a, w, h => by
    simp only [wpO] at h
    simp only [wpOpsS]
    split
    · rename_i ho
      rw [ho] at h
      exact wpOpsS_of l a w h
    · rename_i o ho
      simp only [ho] at h
      split
      · rename_i hw
        rw [if_pos hw] at h
        unfold Oper.wp at h
        generalize (execOp a.eval o).run P w = r at h ⊢
        cases r with
        | halt x w' => cases x <;> exact h
        | ok n w' =>
          cases n <;> simp only [Oper.upon] at h ⊢
          case value v => exact wpOpsS_of l _ _ h
          case skip => exact wpOpsS_of l _ _ h
          case defer d => exact wpOpsS_of l _ _ h
          case enter f args =>
            refine Calls.mono h fun e w'' he => ?_
            cases e with
            | returned v => exact wpOpsS_of l _ _ he
            | panicked c => exact he
            | outgrown => exact he
          case row row args => exact Rows.mono h fun _ _ he => wpOpsS_of l _ _ he
      · rename_i hw
        rw [if_neg hw] at h
        exact wpOpsS_of l _ _ h

theorem rec_ok {o : Oper} (h : isRec o = true) : o.guard = none ∧ ∀ (ρ : Operand → Value) (w : World), (execOp ρ o).run P w = .ok .recover w := by
  unfold isRec at h
  split at h
  · rename_i c hc
    split at h
    · rename_i hb
      split at h
      · rename_i hg
        refine ⟨hg, fun ρ w => ?_⟩
        simp [execOp, hc, resolve, hb, invoke, builtin]
      · cases h
    · cases h
  · cases h

theorem rec_mode {m : Md} {u : FrameMode} (hm : MdR ι m u) (c : Frame) (cs : List Frame) (hc : c.mode = u) :
    ∃ x u', VR ι (recV m) x ∧ MdR ι (recM m) u' ∧
      (recoverD (c :: cs) = some (x, { c with mode := u' } :: cs) ∨ (recoverD (c :: cs) = none ∧ x = .nilIface ∧ { c with mode := u' } = c)) := by
  cases m with
  | calm =>
    simp only [MdR] at hm
    subst hm
    exact ⟨.nilIface, c.mode, by simp [recV, VR], hc, .inr ⟨by simp [recoverD, hc], rfl, rfl⟩⟩
  | pan v =>
    obtain ⟨x, rfl, hv⟩ := hm
    exact ⟨x, .panicking [{ v := x, recovered := true }], hv, ⟨x, rfl⟩, .inl (by simp [recoverD, hc])⟩
  | done =>
    obtain ⟨x, rfl⟩ := hm
    exact ⟨.nilIface, c.mode, by simp [recV, VR], ⟨x, hc⟩, .inr ⟨by simp [recoverD, hc], rfl, rfl⟩⟩

def DPost (ι : Inj) (w : World) (st : St) (r : DR) (e : Ending) (u' : FrameMode) (w' : World) : Prop :=
  ∃ m' st', r = .ok m' st' ∧ ∃ y ι', e = .returned y ∧ Le ι ι' ∧ MdR ι' m' u' ∧ Sim ι' st'.h st'.nx w' ∧ Grew ι w ι' w' ∧ Cleanly ι ι' st st'

theorem left_ok {fn : Func} {m : Md} {ι' : Inj} {st' : St} {w' : World} {r : Rel ι' U N t [] [] st' a w'} {c : Frame} {cs : List Frame} {u' : FrameMode} (hl : Le ι ι') (hg : Grew ι w ι' w') (hc : Cleanly ι ι' st st')
    (hm : MdR ι' m u') {dr : DR} (hdr : dr ≠ .no)
    (hdef : dr = (match st'.fr with | [] => (match resultsF P U fn.results.toList ⟨t, []⟩ st' with | some _ => .ok m st' | none => .no) | _ => .no)) :
    a.defers = [] ∧ ∃ u'', ({ c with mode := u' } :: cs) = ({ c with mode := u'' } :: cs : List Frame) ∧ ∃ v, (results fn a.tmps).run P w' = .ok v w' ∧ DPost ι w st dr (.returned v) u'' w' := by
  have hds := r.ds
  cases hfr : st'.fr with
  | cons d ds => rw [hfr] at hdef; exact absurd hdef hdr
  | nil =>
    rw [hfr] at hdef hds
    simp only [DRs] at hds
    cases hv : resultsF P U fn.results.toList ⟨t, []⟩ st' with
    | none => rw [hv] at hdef; exact absurd hdef hdr
    | some vs =>
      rw [hv] at hdef
      obtain ⟨x, hx, _⟩ := results_ok r hv
      exact ⟨hds, u', rfl, x, hx, m, st', hdef, x, ι', rfl, hl, hm, r.sim, hg, hc⟩

theorem hd_idx {ops : Array Oper} {o : Oper} {l : List Oper} (h : ops.toList = o :: l) : List.range ops.size = 0 :: (List.range' 1 l.length) ∧ ops[0]? = some o ∧ (List.range' 1 l.length).map (fun i => ops[i]?) = l.map some := by
  have hs : ops.size = l.length + 1 := by rw [← Array.length_toList, h]; rfl
  refine ⟨?_, ?_, ?_⟩
  · rw [hs, List.range_eq_range', List.range'_succ]
  · rw [← Array.getElem?_toList, h]; rfl
  · apply List.ext_getElem
    · simp
    · intro i h1 h2
      simp at h1
      simp only [List.getElem_map, List.getElem_range']
      rw [← Array.getElem?_toList, h, Nat.one_mul, Nat.add_comm]
      simp [h1]

theorem def_body {call : CallF} (hcall : CallOK P call) (hdraw : DrawOK P) {n : Nat} {fn : Func} {f : FuncId} {ops : Array Oper} {o : Oper} {l : List Oper} (hops : ops.toList = o :: l) (ho : isRec o = true)
    {id : Nat} {rest : Option Code} {B : CF} (hf : P.funcs[f]? = some fn) (hb : fn.body = some (match rest with | some c => .seq (.region id ops false) c | none => .region id ops false))
    (hB : match rest with | some c => dstsOK fn.ntmps c = true ∧ B = comp P U c | none => B = ⟨fun _ _ env st => .go env st⟩) (hd : ∀ o ∈ ops.toList, ∀ x, o.dst = some x → x < fn.ntmps)
    {args : List AV} {m : Md} {vs : Array Value} {u : FrameMode} (hfr : st.fr = []) (hs : Sim ι st.h st.nx w) (hargs : VRs ι args vs.toList) (hm : MdR ι m u)
    (hr : (compH P fn U o (compOps P U ops l (pushN o.dst [])) B).run call n args m st ≠ .no) :
    CallsD P f vs u w (DPost ι w st ((compH P fn U o (compOps P U ops l (pushN o.dst [])) B).run call n args m st)) := by
  obtain ⟨hg, hrec⟩ := rec_ok (P := P) ho
  obtain ⟨hrange, h0, hil⟩ := hd_idx hops
  refine callsD_of_wpS hf hb fun c₀ cs hc => ?_
  obtain ⟨x, u', hvx, hm', hrd⟩ := rec_mode hm c₀ cs hc
  generalize hres : (compH P fn U o (compOps P U ops l (pushN o.dst [])) B).run call n args m st = dr at hr ⊢
  have hres' : leftD P fn U (recM m) (match (compOps P U ops l (pushN o.dst [])).run call n (argsE args 0 .e) ((pushV o.dst).run (recV m) []) st with
    | .go env st => B.run call n env st
    | r => r) = dr := hres
  have r0 : Rel ι U fn.ntmps (argsE args 0 .e) [] [] st { tmps := vs ++ Array.replicate (fn.ntmps - vs.size) undef, defers := [] } w := entry_rel hs hargs hfr
  have r1 := r0.put (hd o (by rw [hops]; simp)) hvx
  have hcs : ∃ cs', cs' = { c₀ with mode := u' } :: cs ∧ ∀ (Q : Exit → Act → List Frame → World → Prop), wpOpsS P ops Q (List.range' 1 l.length) ({ tmps := vs ++ Array.replicate (fn.ntmps - vs.size) undef, defers := [] : Act }.put o.dst x) cs' w →
      wpOpsS P ops Q (List.range ops.size) { tmps := vs ++ Array.replicate (fn.ntmps - vs.size) undef, defers := [] } (c₀ :: cs) w := by
    refine ⟨_, rfl, fun Q h => ?_⟩
    rw [hrange]
    simp only [wpOpsS, h0]
    rw [if_pos (by simp [Region.wanted, hg])]
    rw [hrec]
    simp only
    rcases hrd with h1 | ⟨h1, rfl, h2⟩
    · rw [h1]; exact h
    · rw [h1]
      simp only
      rw [h2] at h
      exact h
  obtain ⟨cs', hcs', hcsW⟩ := hcs
  -- what is to hold at the end
  have fin : ∀ (r : R), leftD P fn U (recM m) r = dr → Post ι U fn.ntmps w st r (fun e a' w' => bodyPostS P fn c₀ cs (DPost ι w st dr) e a' cs' w') := by
    intro r hrr
    cases r with
    | no => exact (hr (by rw [← hrr]; rfl)).elim
    | go t' st' =>
      intro ι' a' w' hl r' hg' hc'
      have := left_ok (P := P) (ι := ι) (w := w) (st := st) (fn := fn) (r := r') (c := c₀) (cs := cs) (u' := u') hl hg' hc' (MdR.mono hl hm') (dr := dr) hr hrr.symm
      simp only [bodyPostS]
      obtain ⟨h1, u'', h2, h3⟩ := this
      exact ⟨h1, u'', by rw [hcs', h2], h3⟩
    | ex i t' st' => exact (hr (by rw [← hrr]; rfl)).elim
    | rt t' st' =>
      intro ι' a' w' hl r' hg' hc'
      have := left_ok (P := P) (ι := ι) (w := w) (st := st) (fn := fn) (r := r') (c := c₀) (cs := cs) (u' := u') hl hg' hc' (MdR.mono hl hm') (dr := dr) hr hrr.symm
      simp only [bodyPostS]
      obtain ⟨h1, u'', h2, h3⟩ := this
      exact ⟨h1, u'', by rw [hcs', h2], h3⟩
    | pn v t' st' => exact (hr (by rw [← hrr]; rfl)).elim
  cases rest with
  | none =>
    subst hB
    refine wpS_region (hcsW _ (wpOpsS_of _ _ _ ?_))
    refine ops_ok hcall (n := n) ops l _ hil (fun q hq => hd q (by rw [hops]; simp [hq])) ι _ _ _ st _ w r1 (fin _ ?_)
    rw [← hres']
    generalize (compOps P U ops l (pushN o.dst [])).run call n (argsE args 0 .e) ((pushV o.dst).run (recV m) []) st = r
    cases r <;> rfl
  | some c =>
    obtain ⟨hdc, rfl⟩ := hB
    refine wpS_seq (wpS_region (hcsW _ (wpOpsS_of _ _ _ ?_)))
    refine ops_ok hcall (n := n) ops l _ hil (fun q hq => hd q (by rw [hops]; simp [hq])) ι _ _ _ st _ w r1 ?_
    generalize (compOps P U ops l (pushN o.dst [])).run call n (argsE args 0 .e) ((pushV o.dst).run (recV m) []) st = r at hres'
    cases r with
    | no => exact (hr (by rw [← hres']; rfl)).elim
    | go t' st' =>
      intro ι' a' w' hl r' hg' hc'
      exact wpS_of_wp (comp_ok hcall hdraw c hdc ι' t' st' a' w' _ r' (Post.step hl hg' hc' (fin _ hres')))
    | ex i t' st' => exact fin _ hres'
    | rt t' st' => exact fin _ hres'
    | pn v t' st' => exact fin _ hres'

theorem okP_spec (h : okP P = true) {f : FuncId} {fn : Func} {c : Code} (hf : P.funcs[f]? = some fn) (hb : fn.body = some c) : dstsOK fn.ntmps c = true ∧ Enters P f := by
  unfold okP at h
  rw [lallB_eq, List.all_eq_true] at h
  have hm : fn ∈ P.funcs.toList := by
    rw [Array.getElem?_eq_some_iff] at hf
    obtain ⟨h1, h2⟩ := hf
    rw [← h2]; simp
  have := h fn hm
  rw [hb] at this
  obtain ⟨h1, h2⟩ := cond_and this
  refine ⟨h1, fn, hf, by rw [hb]; rfl, ?_⟩
  cases hq : fn.name == "runtime.NumGoroutine"
  · rfl
  · rw [hq] at h2; cases h2

theorem compD_ok (hok : okP P = true) {call : CallF} (hcall : CallOK P call) (hdraw : DrawOK P) (n : Nat) : DefOK P ⟨fun f args m st => (compD P f).run call n args m st⟩ := by
  intro f args m st ι w vs u hfr hs hargs hm
  have key : (compD P f).run call n args m st ≠ .no → Enters P f ∧ CallsD P f vs u w (DPost ι w st ((compD P f).run call n args m st)) := by
    intro hr
    unfold compD at hr ⊢
    cases hf : P.funcs[f]? with
    | none => rw [hf] at hr; exact absurd rfl hr
    | some fn =>
      rw [hf] at hr
      simp only at hr ⊢
      split at hr
      · rename_i id ops c hb
        obtain ⟨h1, h2⟩ := okP_spec hok hf hb
        refine ⟨h2, ?_⟩
        split at hr
        · rename_i o l hops
          cases ho : isRec o
          · rw [ho] at hr; exact absurd rfl hr
          · rw [ho] at hr
            simp only [cond_true] at hr ⊢
            obtain ⟨h3, h4⟩ := cond_and (show cond (dstsOK fn.ntmps (.region id ops false)) (dstsOK fn.ntmps c) false = true from h1)
            exact def_body hcall hdraw hops ho (rest := some c) hf hb ⟨h4, rfl⟩ (dsts_region h3) hfr hs hargs hm hr
        · exact absurd rfl hr
      · rename_i id ops hb
        obtain ⟨h1, h2⟩ := okP_spec hok hf hb
        refine ⟨h2, ?_⟩
        split at hr
        · rename_i o l hops
          cases ho : isRec o
          · rw [ho] at hr; exact absurd rfl hr
          · rw [ho] at hr
            simp only [cond_true] at hr ⊢
            exact def_body hcall hdraw hops ho (rest := none) hf hb rfl (dsts_region h1) hfr hs hargs hm hr
        · exact absurd rfl hr
      · exact absurd rfl hr
  show match (compD P f).run call n args m st with | .no => True | .ok m' st' => _
  generalize hdr : (compD P f).run call n args m st = dr at key
  cases dr with
  | no => trivial
  | ok m' st' =>
    obtain ⟨h1, h2⟩ := key (by simp)
    refine ⟨h1, CallsD.mono h2 fun e u' w' he => ?_⟩
    obtain ⟨m2, st2, e1, y, ι', e2, h3, h4, h5, h6, h7⟩ := he
    cases e1
    exact ⟨y, ι', e2, h3, h4, h5, h6, h7⟩

theorem Fin_post {ι : Inj} {w : World} {st : St} {r : ER} : (r = .no ∨ Fin ι w st r fun e w' => (∃ v st' x, r = .ok v st' ∧ e = .returned x ∧ Done ι w st st' v x w') ∨
    (∃ v st' x, r = .pn v st' ∧ e = .panicked [{ v := x, recovered := false }] ∧ Done ι w st st' v x w')) := by
  cases r with
  | no => exact .inl rfl
  | ok v st' => exact .inr fun x w' hd => .inl ⟨v, st', x, rfl, rfl, hd⟩
  | pn v st' => exact .inr fun x w' hd => .inr ⟨v, st', x, rfl, rfl, hd⟩

theorem compN_ok (hok : okP P = true) {call : CallF} (hcall : CallOK P call) (hdraw : DrawOK P) (n : Nat) : CallOK P (fun f args st => (compN P f).run call n args st) := by
  intro f args st ι w vs hs hargs
  show match (compN P f).run call n args st with | .no => True | .ok v st' => _ | .pn v st' => _
  generalize hr : (compN P f).run call n args st = r
  have key : r ≠ .no → Enters P f ∧ Calls P f vs w fun e w' => (∃ v st' x, r = .ok v st' ∧ e = .returned x ∧ Done ι w st st' v x w') ∨
    (∃ v st' x, r = .pn v st' ∧ e = .panicked [{ v := x, recovered := false }] ∧ Done ι w st st' v x w') := by
    intro hne
    unfold compN bodyOf at hr
    cases hf : P.funcs[f]? with
    | none => rw [hf] at hr; exact absurd hr.symm hne
    | some fn =>
      rw [hf] at hr
      simp only at hr
      cases hb : fn.body with
      | none => rw [hb] at hr; exact absurd hr.symm hne
      | some c =>
        rw [hb] at hr
        simp only at hr
        obtain ⟨h1, h2⟩ := okP_spec hok hf hb
        refine ⟨h2, calls_of_wp_defers hf hb ?_⟩
        have hfin := (Fin_post (ι := ι) (w := w) (st := st) (r := r)).resolve_left hne
        generalize hR : (fun e w' => (∃ v st' x, r = .ok v st' ∧ e = Ending.returned x ∧ Done ι w st st' v x w') ∨
          (∃ v st' x, r = .pn v st' ∧ e = Ending.panicked [{ v := x, recovered := false }] ∧ Done ι w st st' v x w')) = RR at hfin ⊢
        have hD := compD_ok hok hcall hdraw n
        have r0 : Rel ι (maskOf fn c) fn.ntmps (argsE args 0 .e) [] [] st.bare { tmps := vs ++ Array.replicate (fn.ntmps - vs.size) undef, defers := [] } w := entry_rel (st := st.bare) hs hargs rfl
        refine comp_ok hcall hdraw (n := n) c h1 ι _ st.bare _ w _ r0 ?_
        have hst : (⟨st.nx, st.h, st.dirty, []⟩ : St) = st.bare := rfl
        rw [hst] at hr
        generalize (comp P (maskOf fn c) c).run call n (argsE args 0 .e) st.bare = rc at hr
        have leave : ∀ (t' : T AV) (st' : St) (ι' : Inj) (a' : Act) (w' : World) (m : Md) (u : FrameMode), Le ι ι' → Rel ι' (maskOf fn c) fn.ntmps t' [] [] st' a' w' → Grew ι w ι' w' → Cleanly ι ι' st.bare st' → MdR ι' m u →
            leaveF P (maskOf fn c) ⟨fun f args m st => (compD P f).run call n args m st⟩ fn.results.toList st'.fr t' st'.bare m = r → Leaves P fn a'.tmps RR a'.defers u w' := by
          intro t' st' ι' a' w' m u hl r' hg hc hm hlr
          have r2 : Rel ι' (maskOf fn c) fn.ntmps t' [] [] st'.bare ⟨a'.tmps, []⟩ w' := ⟨r'.sim, r'.size, r'.env, r'.recs, r'.len, by simp [DRs, St.bare]⟩
          refine leave_ok hD st'.fr a'.defers ι' st'.bare w' m u r2 rfl r'.ds hm ?_
          rw [hlr]
          exact Fin.step hl hg (show Cleanly ι ι' st st'.bare from ⟨hc.nx, hc.dirty, hc.keep, hc.above, hc.u, hc.le, hc.n⟩) hfin
        cases rc with
        | no => exact absurd hr.symm hne
        | go t' st' => exact fun ι' a' w' hl r' hg hc => leave t' st' ι' a' w' .calm .returning hl r' hg hc rfl hr
        | ex i t' st' => exact absurd hr.symm hne
        | rt t' st' => exact fun ι' a' w' hl r' hg hc => leave t' st' ι' a' w' .calm .returning hl r' hg hc rfl hr
        | pn v t' st' => exact fun ι' a' w' x hl r' hg hc hv => leave t' st' ι' a' w' (.pan v) (.panicking [{ v := x, recovered := false }]) hl r' hg hc ⟨x, rfl, hv⟩ hr
  cases r with
  | no => trivial
  | ok v st' =>
    obtain ⟨h1, h2⟩ := key (by simp)
    refine ⟨h1, Calls.mono h2 fun e w' he => ?_⟩
    rcases he with ⟨v1, st1, x, e1, e2, hd⟩ | ⟨v1, st1, x, e1, _⟩
    · cases e1; exact ⟨x, e2, hd⟩
    · cases e1
  | pn v st' =>
    obtain ⟨h1, h2⟩ := key (by simp)
    refine ⟨h1, Calls.mono h2 fun e w' he => ?_⟩
    rcases he with ⟨v1, st1, x, e1, _⟩ | ⟨v1, st1, x, e1, e2, hd⟩
    · cases e1
    · cases e1; exact ⟨x, e2, hd⟩

theorem evCall_ok (hok : okP P = true) (hdraw : DrawOK P) (n : Nat) : ∀ d, CallOK P (evCall P n d)
  | 0 => fun f args st ι w vs _ _ => trivial
  | d + 1 => compN_ok hok (evCall_ok hok hdraw n d) hdraw n

/-- a closed run: what the evaluator says of a function without arguments that answers a bool holds in every world -/
theorem run_true (hok : okP P = true) (hdraw : DrawOK P) {n d : Nat} {f : FuncId} (h : isTrue (evCall P n d f [] st0) = true) (w : World) :
    Calls P f #[] w fun e w' => e = .returned (.bool true) ∧ w'.os = w.os ∧ w'.tape = w.tape ∧ w'.output = w.output ∧ w.heap.size ≤ w'.heap.size ∧ ∀ k, k < w.heap.size → w'.heap[k]? = w.heap[k]? := by
  have hs : Sim (fun _ => .unborn) st0.h st0.nx w :=
    ⟨fun b B S e => (by cases e), fun b e => (by cases e), fun b b' B S S' e => (by cases e), fun b e => absurd rfl e⟩
  have hc := evCall_ok hok hdraw n d f [] st0 (fun _ => .unborn) w #[] hs (by simp [VRs])
  generalize evCall P n d f [] st0 = r at h hc
  cases r with
  | no => cases h
  | pn v st' => cases h
  | ok v st' =>
    obtain ⟨_, hcalls⟩ := hc
    refine Calls.mono hcalls fun e w' he => ?_
    obtain ⟨x, rfl, ι', _, hv, _, hg, _⟩ := he
    cases v <;> try (cases h; done)
    rename_i b
    have : b = true := h
    subst this
    simp only [VR] at hv
    subst hv
    exact ⟨rfl, hg.os, hg.tape, hg.output, hg.size, fun k hk => hg.keep k hk (fun b S e => by cases e)⟩

end
end Go.Ev

namespace Go.Ev
open Go.RowKit

/-! ### cells that are told to be the same -/
theorem eqCell_eq {x y : AV} (h : eqCell x y = true) : x = y := by
  unfold eqCell at h
  split at h
  all_goals try (split at h <;> try (cases h; done))
  · rename_i a _ b
    cases a <;> cases b <;> first | rfl | cases h
  · rename_i k a _ k' b
    obtain ⟨h1, h2⟩ := cond_and h
    rw [eqI_eq, decide_eq_true_iff] at h2
    rw [eqK_eq h1, h2]
  · obtain ⟨h1, h2⟩ := cond_and h
    rw [beqN] at h1 h2
    rw [h1, h2]
  · rfl
  · rename_i ex _ b' o' len' cap' sz' ex'
    obtain ⟨h1, g1⟩ := cond_and h
    obtain ⟨h2, g2⟩ := cond_and g1
    obtain ⟨h3, g3⟩ := cond_and g2
    obtain ⟨h4, g4⟩ := cond_and g3
    obtain ⟨h5, g5⟩ := cond_and g4
    clear h g1 g2 g3 g4
    rw [beqN] at h1 h2 h3 h4 h5
    subst h1; subst h2; subst h3; subst h4; subst h5
    cases ex <;> cases ex' <;> first | rfl | cases g5
  · rfl
  · rw [beqN] at h; rw [h]
  · rfl
  · rfl
  · rfl
  · cases h

theorem eqCellS_eq {x y : AV} (h : eqCellS x y = true) : x = y := by
  unfold eqCellS at h
  split at h
  · split at h <;> try (cases h; done)
    rw [strEq_eq, decide_eq_true_iff] at h
    rw [h]
  · exact eqCell_eq h

theorem eqCells_eq : ∀ {l r : List AV}, eqCells l r = true → l = r
  | [], r, h => by
    cases r with
    | nil => rfl
    | cons y r => cases h
  | x :: l, r, h => by
    cases r with
    | nil => cases h
    | cons y r =>
      obtain ⟨h1, h2⟩ := cond_and (show cond (eqCellS x y) (eqCells l r) false = true from h)
      rw [eqCellS_eq h1, eqCells_eq h2]

theorem eqAV_eq {x y : AV} (h : eqAV x y = true) : x = y := by
  unfold eqAV at h
  split at h
  · split at h <;> try (cases h; done)
    rw [eqCells_eq h]
  · exact eqCellS_eq h

/-! ### numbers that are hidden -/
def hide (ι : Inj) (n : Nat) : Inj := fun b => if b < n then ι b else .unborn

theorem hide_le (ι : Inj) (n : Nat) : Le (hide ι n) ι := fun b hb => by
  left
  unfold hide at hb ⊢
  split at hb
  · rename_i h; rw [if_pos h]
  · exact absurd rfl hb

theorem hide_at {ι : Inj} {n b B S : Nat} (h : hide ι n b = .at B S) : ι b = .at B S ∧ b < n := by
  unfold hide at h
  split at h
  · rename_i hb; exact ⟨h, hb⟩
  · cases h

theorem hide_mono {ι ι' : Inj} (h : Le ι ι') (n : Nat) : Le (hide ι n) (hide ι' n) := fun b hb => by
  unfold hide at hb ⊢
  split at hb
  · rename_i hn
    simp only [if_pos hn]
    exact h b hb
  · exact absurd rfl hb

mutual
theorem VR.hide {ι ι0 : Inj} {n : Nat} (hn : ∀ b, ι0 b ≠ .unborn → b < n) : ∀ (x : AV) (v0 v : Value), VR ι0 x v0 → VR ι x v → VR (hide ι n) x v
  | .bool _, _, _, _, k => k
  | .int _ _, _, _, _, k => k
  | .str _, _, _, _, k => k
  | .zstr _, _, _, _, k => k
  | .ptr b o, v0, v, k0, k => by
    simp only [VR] at k0 k ⊢
    have hb := hn b k0.1
    obtain ⟨h1, a, rfl, h2⟩ := k
    have e : Ev.hide ι n b = ι b := by simp [Ev.hide, hb]
    rw [e]
    exact ⟨h1, a, rfl, h2⟩
  | .nilp, _, _, _, k => k
  | .slice b o len cap sz ex, v0, v, k0, k => by
    simp only [VR] at k0 k ⊢
    have hb := hn b k0.1
    obtain ⟨h1, h2, a, C, rfl, h3, h4, h5⟩ := k
    have e : Ev.hide ι n b = ι b := by simp [Ev.hide, hb]
    rw [e]
    exact ⟨h1, h2, a, C, rfl, h3, h4, h5⟩
  | .nils, _, _, _, k => k
  | .map r, v0, v, k0, k => by
    simp only [VR] at k0 k ⊢
    have hb := hn r k0.1
    obtain ⟨h1, a, rfl, h2⟩ := k
    have e : Ev.hide ι n r = ι r := by simp [Ev.hide, hb]
    rw [e]
    exact ⟨h1, a, rfl, h2⟩
  | .nilm, _, _, _, k => k
  | .fn f caps, v0, v, k0, k => by
    simp only [VR] at k0 k ⊢
    obtain ⟨cv, rfl, hc⟩ := k
    obtain ⟨cv0, rfl, hc0⟩ := k0
    exact ⟨cv, rfl, VRs.hide hn caps _ _ hc0 hc⟩
  | .nilf, _, _, _, k => k
  | .iface t x, v0, v, k0, k => by
    simp only [VR] at k0 k ⊢
    obtain ⟨y, rfl, hy⟩ := k
    obtain ⟨y0, rfl, hy0⟩ := k0
    exact ⟨y, rfl, VR.hide hn x _ _ hy0 hy⟩
  | .nilif, _, _, _, k => k
  | .agg cs, v0, v, k0, k => by
    simp only [VR] at k0 k ⊢
    obtain ⟨cv, rfl, hc⟩ := k
    obtain ⟨cv0, rfl, hc0⟩ := k0
    exact ⟨cv, rfl, VRs.hide hn cs _ _ hc0 hc⟩
  | .tup cs, v0, v, k0, k => by
    simp only [VR] at k0 k ⊢
    obtain ⟨cv, rfl, hc⟩ := k
    obtain ⟨cv0, rfl, hc0⟩ := k0
    exact ⟨cv, rfl, VRs.hide hn cs _ _ hc0 hc⟩
  | .bad, _, _, _, k => k
theorem VRs.hide {ι ι0 : Inj} {n : Nat} (hn : ∀ b, ι0 b ≠ .unborn → b < n) : ∀ (xs : List AV) (vs0 vs : List Value), VRs ι0 xs vs0 → VRs ι xs vs → VRs (hide ι n) xs vs
  | [], _, _, _, k => k
  | x :: xs, l0, l, k0, k => by
    simp only [VRs] at k0 k ⊢
    obtain ⟨v, vs, rfl, h1, h2⟩ := k
    obtain ⟨v0, vs0, rfl, h10, h20⟩ := k0
    exact ⟨v, vs, rfl, VR.hide hn x _ _ h10 h1, VRs.hide hn xs _ _ h20 h2⟩
end

theorem MR.hide {ι ι0 : Inj} {n : Nat} (hn : ∀ b, ι0 b ≠ .unborn → b < n) : ∀ (es : List (AV × AV)) (l0 l : List MapEntry), MR ι0 es l0 → MR ι es l → MR (hide ι n) es l
  | [], _, _, _, k => k
  | e :: es, l0, l, k0, k => by
    simp only [MR] at k0 k ⊢
    obtain ⟨x, xs, rfl, h1, h2, h3⟩ := k
    obtain ⟨x0, xs0, rfl, h10, h20, h30⟩ := k0
    exact ⟨x, xs, rfl, VR.hide hn _ _ _ h10 h1, VR.hide hn _ _ _ h20 h2, MR.hide hn es _ _ h30 h3⟩

/-- of an object: its numbers lie below -/
def obnd (n : Nat) (o : AO) : Prop := ∃ ι0 S0 x0, (∀ b, ι0 b ≠ .unborn → b < n) ∧ OR ι0 S0 o x0
def vbnd (n : Nat) (v : AV) : Prop := ∃ ι0 x0, (∀ b, ι0 b ≠ .unborn → b < n) ∧ VR ι0 v x0

theorem vbnd.hide {n : Nat} {v : AV} (h : vbnd n v) {ι : Inj} {x : Value} (k : VR ι v x) : VR (hide ι n) v x := by
  obtain ⟨ι0, x0, hn, h0⟩ := h
  exact VR.hide hn v x0 x h0 k

theorem hide_hide {ι : Inj} {n m : Nat} (h : n ≤ m) : Le (hide ι n) (hide ι m) := fun b hb => by
  left
  unfold hide at hb ⊢
  split at hb
  · rename_i hn
    rw [if_pos hn, if_pos (by omega)]
  · exact absurd rfl hb

theorem vbnd.mono {n m : Nat} {v : AV} (h : vbnd n v) (hm : n ≤ m) : vbnd m v := by
  obtain ⟨ι0, x0, hn, h0⟩ := h
  exact ⟨ι0, x0, fun b hb => Nat.lt_of_lt_of_le (hn b hb) hm, h0⟩
theorem obnd.mono {n m : Nat} {o : AO} (h : obnd n o) (hm : n ≤ m) : obnd m o := by
  obtain ⟨ι0, S0, x0, hn, h0⟩ := h
  exact ⟨ι0, S0, x0, fun b hb => Nat.lt_of_lt_of_le (hn b hb) hm, h0⟩

theorem obnd.hide {n : Nat} {o : AO} (h : obnd n o) {ι : Inj} {S : Nat} {x : Obj} (k : OR ι S o x) : OR (hide ι n) S o x := by
  obtain ⟨ι0, S0, x0, hn, h0⟩ := h
  cases o with
  | row m zl z cs =>
    simp only [OR] at h0 k ⊢
    obtain ⟨c, elem, lo, hi, rfl, h1, h2, h3, h4⟩ := k
    obtain ⟨c0, elem0, lo0, hi0, rfl, _, _, _, h40⟩ := h0
    exact ⟨c, elem, lo, hi, rfl, h1, h2, h3, fun i hi => let ⟨a, v, b, d⟩ := h4 i hi; let ⟨_, v0, _, d0⟩ := h40 i hi; ⟨a, v, b, VR.hide hn _ _ _ d0 d⟩⟩
  | map es =>
    simp only [OR] at h0 k ⊢
    obtain ⟨ens, clock, rfl, hm⟩ := k
    obtain ⟨ens0, clock0, rfl, hm0⟩ := h0
    exact ⟨ens, clock, rfl, MR.hide hn _ _ _ hm0 hm⟩
  | iter s pos => exact k
  | dead => exact k

/-! ### operations that leave memory alone -/
def Pu (F : St → ER) : Prop := ∀ st v st', F st = .ok v st' → st' = st ∧ ∀ st2, F st2 = .ok v st2

theorem Pu.no : Pu fun _ => .no := fun st v st' h => by cases h
theorem Pu.ok (v : AV) : Pu fun st => .ok v st := fun st v' st' h => by cases h; exact ⟨rfl, fun _ => rfl⟩
theorem Pu.cond {b : Bool} {F G : St → ER} (hF : Pu F) (hG : Pu G) : Pu fun st => cond b (F st) (G st) := by cases b <;> assumption
theorem Pu.bool {x : AV} {F : Bool → St → ER} (h : ∀ b, Pu (F b)) : Pu fun st => onBool x fun b => F b st := by
  cases x <;> first | exact h _ | exact Pu.no
theorem Pu.ptr {x : AV} {F : Nat → Nat → St → ER} (h : ∀ b o, Pu (F b o)) : Pu fun st => onPtr x fun b o => F b o st := by
  cases x <;> first | exact h _ _ | exact Pu.no
theorem Pu.agg {x : AV} {F : List AV → St → ER} (h : ∀ b, Pu (F b)) : Pu fun st => onAgg x fun b => F b st := by
  cases x <;> first | exact h _ | exact Pu.no
theorem Pu.str {x : AV} {F : List Nat → St → ER} (h : ∀ b, Pu (F b)) : Pu fun st => onStr x fun b => F b st := by
  cases x <;> first | exact h _ | exact Pu.no
theorem Pu.some {α : Type} {x : Option α} {F : α → St → ER} (h : ∀ b, Pu (F b)) : Pu fun st => onSome x fun b => F b st := by
  cases x <;> first | exact h _ | exact Pu.no
theorem Pu.nat {x : AV} {F : Nat → St → ER} (h : ∀ b, Pu (F b)) : Pu fun st => onNat x fun b => F b st := by
  unfold onNat
  split
  · simp only [force_eq]; exact h _
  · exact Pu.no
theorem Pu.force {n : Nat} {F : Nat → St → ER} (h : ∀ b, Pu (F b)) : Pu fun st => force n fun b => F b st := by
  simp only [force_eq]; exact h _
theorem Pu.opt {x : Option OF} {d : Nat} {env : Env} {F : Nat → St → ER} (h : ∀ b, Pu (F b)) : Pu fun st => optF x d env fun b => F b st := by
  cases x
  · exact h _
  · exact Pu.nat h

end Go.Ev

namespace Go.Ev
open Go.RowKit

/-! ### operations that leave memory alone, or make one block -/
theorem Pu.mk {v : AV} {F : St → ER} (h : ∀ st, F st = .ok v st) : Pu F := fun st x st' e => by
  rw [h] at e; cases e; exact ⟨rfl, fun st2 => h st2⟩
theorem Pu.of_eq {F G : St → ER} (h : ∀ st, F st = G st) (k : Pu G) : Pu F := by
  have : F = G := funext h
  rw [this]; exact k

section
variable {P : Program} {op : Operand → OF} {env : Env}

theorem pu_build (t : TypeId) (ps : List (Nat × OF)) : Pu fun st => (buildF P t ps).run env st := by
  unfold buildF
  split
  · rename_i z fields _ _
    cases fields.toList.all fun f => (Ev.sizeOf P f.type).isSome
    · exact Pu.no
    · exact Pu.some fun _ => Pu.ok _
  · split
    · exact Pu.some fun _ => Pu.ok _
    · exact Pu.no
  · exact Pu.no

theorem pu_nilCheck (x : OF) : Pu fun st => (nilCheckF x).run env st := by
  unfold nilCheckF
  dsimp only
  generalize x.run env = v
  cases v <;> first | exact Pu.no | exact Pu.ok _

theorem pu_binOp (b : BinOp) (t : TypeId) (c : Bool) (x y : OF) : Pu fun st => (binOpF P b t c x y).run env st := by
  unfold binOpF
  split
  · split <;> first | exact Pu.no | exact Pu.some fun _ => Pu.ok _
  · split
    · dsimp only
      generalize x.run env = u; generalize y.run env = v
      cases u <;> cases v <;> first | exact Pu.no | exact Pu.some fun _ => Pu.ok _
    · dsimp only
      generalize x.run env = u; generalize y.run env = v
      cases u <;> cases v <;> first | exact Pu.no | exact Pu.some fun _ => Pu.ok _
    · dsimp only
      generalize x.run env = u; generalize y.run env = v
      cases u <;> cases v <;> first | exact Pu.no | exact Pu.cond (Pu.some fun _ => Pu.ok _) Pu.no
  · dsimp only
    generalize x.run env = u; generalize y.run env = v
    cases u <;> cases v <;> first | exact Pu.no | exact Pu.some fun _ => Pu.ok _
  · cases P.eqGuardType P.depth t
    · simp only [cond_false]
      split <;> first | exact Pu.no | exact Pu.some fun _ => Pu.ok _
    · exact Pu.no

theorem pu_unOp (b : UnOp) (x : OF) : Pu fun st => (unOpF b x).run env st := by
  unfold unOpF
  split
  · dsimp only
    generalize x.run env = v
    cases v <;> first | exact Pu.no | exact Pu.ok _
  · dsimp only
    generalize x.run env = v
    cases v <;> first | exact Pu.no | exact Pu.some fun _ => Pu.ok _
  · exact Pu.bool fun _ => Pu.ok _
  · exact Pu.no

theorem pu_slice (t : TypeId) (x : OF) (lo hi mx : Option OF) : Pu fun st => (sliceF P t x lo hi mx).run env st := by
  unfold sliceF
  split
  · split
    · exact Pu.str fun s => Pu.force fun n => Pu.opt fun l => Pu.opt fun h => Pu.cond (Pu.cond (Pu.ok _) Pu.no) Pu.no
    · exact Pu.no
  · split
    · split
      · dsimp only
        generalize x.run env = v
        cases v
        case nils => exact Pu.opt fun l => Pu.opt fun h => Pu.cond (Pu.cond (Pu.ok _) Pu.no) Pu.no
        case slice => exact Pu.opt fun l => Pu.opt fun h => Pu.cond (Pu.cond (Pu.cond (Pu.force fun k => Pu.force fun o => Pu.force fun c => Pu.ok _) Pu.no) Pu.no) Pu.no
        all_goals exact Pu.no
      · split
        · exact Pu.no
        · dsimp only
          generalize x.run env = v
          cases v
          case slice => exact Pu.opt fun l => Pu.nat fun h => Pu.nat fun m => Pu.cond (Pu.cond (Pu.cond (Pu.force fun k => Pu.force fun o => Pu.force fun c => Pu.ok _) Pu.no) Pu.no) Pu.no
          all_goals exact Pu.no
    · exact Pu.no
  · split
    · split
      · exact Pu.ptr fun b o => Pu.opt fun l => Pu.opt fun h => Pu.cond (Pu.cond (Pu.force fun k => Pu.force fun o => Pu.force fun c => Pu.ok _) Pu.no) Pu.no
      · exact Pu.no
    · exact Pu.no
  · exact Pu.no

theorem pu_fieldAddr (s : TypeId) (x : OF) (f : Nat) : Pu fun st => (fieldAddrF P s x f).run env st := by
  unfold fieldAddrF
  split
  · split
    · split
      · exact Pu.ptr fun b o => Pu.force fun o => Pu.ok _
      · exact Pu.no
    · exact Pu.no
  · exact Pu.no
theorem pu_field (s : TypeId) (x : OF) (f : Nat) : Pu fun st => (fieldF P s x f).run env st := by
  unfold fieldF
  split
  · split
    · exact Pu.agg fun cs => Pu.some fun v => Pu.ok _
    · exact Pu.no
  · exact Pu.no
theorem pu_indexAddr (t : TypeId) (x i : OF) : Pu fun st => (indexAddrF P t x i).run env st := by
  unfold indexAddrF
  split
  · split
    · exact Pu.ptr fun b o => Pu.nat fun i => Pu.cond (Pu.force fun o => Pu.ok _) Pu.no
    · exact Pu.no
  · split
    · dsimp only
      generalize x.run env = v
      cases v
      case slice => exact Pu.nat fun i => Pu.cond (Pu.force fun o => Pu.ok _) Pu.no
      all_goals exact Pu.no
    · exact Pu.no
  · exact Pu.no
theorem pu_index (t : TypeId) (x i : OF) : Pu fun st => (indexF P t x i).run env st := by
  unfold indexF
  split
  · split
    · exact Pu.agg fun cs => Pu.nat fun i => Pu.cond (Pu.some fun v => Pu.ok _) Pu.no
    · exact Pu.no
  · exact Pu.str fun s => Pu.nat fun i => Pu.cond (Pu.ok _) Pu.no
  · exact Pu.no

theorem pu_builtin (b : Builtin) (hb : b = .cap ∨ b = .min ∨ b = .max) (ts : Array TypeId) (l : List OF) : Pu fun st => (builtinF P b ts l).run env st := by
  unfold builtinF
  split
  · rcases hb with h | h | h <;> cases h
  · unfold capF
    split
    · dsimp only
      rename_i x _ _ _ _ _ _
      generalize OF.run _ env = v
      cases v
      case nils => exact Pu.ok _
      case slice b o n c sz ex => cases ex <;> first | exact Pu.no | exact Pu.ok _
      all_goals exact Pu.no
    · exact Pu.no
  · rcases hb with h | h | h <;> cases h
  · rcases hb with h | h | h <;> cases h
  · exact Pu.some fun v => Pu.ok _
  · exact Pu.some fun v => Pu.ok _
  · exact Pu.no

theorem pu_len (ts : Array TypeId) (l : List OF) (h : ∀ t r, ts.toList = t :: r → ∀ k e, P.underlying t ≠ some (.map k e)) : Pu fun st => (builtinF P .len ts l).run env st := by
  unfold builtinF
  split
  · rename_i x t r ht
    unfold lenF
    split
    · dsimp only
      generalize OF.run _ env = v
      cases v
      case str => exact Pu.force fun _ => Pu.ok _
      case zstr => exact Pu.ok _
      all_goals exact Pu.no
    · exact Pu.ok _
    · dsimp only
      generalize OF.run _ env = v
      cases v
      case nils => exact Pu.ok _
      case slice => exact Pu.ok _
      all_goals exact Pu.no
    · rename_i hu
      exact absurd hu (h _ _ ht _ _)
    · exact Pu.no
  all_goals first | exact Pu.no | contradiction

theorem pu_compOp (o : Op) (h : clOf P o = .pure) : Pu fun st => (compOp P op o).run env st := by
  cases o <;> simp only [clOf] at h <;> try (cases h; done)
  case move x => exact Pu.ok _
  case assign x => exact Pu.ok _
  case pick c a b => exact Pu.bool fun q => Pu.ok _
  case build t ps => exact pu_build t _
  case nilCheck x => exact pu_nilCheck _
  case binOp b t x y s => exact pu_binOp _ _ _ _ _
  case unOp b t x => exact pu_unOp _ _
  case makeInterface t x =>
    simp only [compOp]
    split
    · exact Pu.no
    · exact Pu.ok _
    · exact Pu.no
  case makeFunc f first caps =>
    cases f
    case func f =>
      simp only [compOp]
      split
      · exact Pu.ok _
      · exact Pu.no
    all_goals exact Pu.no
  case slice t x lo hi mx => exact pu_slice _ _ _ _ _
  case fieldAddr s x f => exact pu_fieldAddr _ _ _
  case field s x f => exact pu_field _ _ _
  case indexAddr t x i => exact pu_indexAddr _ _ _
  case index t x i => exact pu_index _ _ _
  case extract x i =>
    simp only [compOp]
    generalize (op x).run env = v
    cases v
    case tup => exact Pu.cond (Pu.ok _) Pu.no
    all_goals exact Pu.no
  case call c =>
    split at h
    · rename_i hc
      simp only [compOp, hc]
      split at h
      · rename_i t r ht
        split at h
        · cases h
        · rename_i hnm
          refine pu_len _ _ fun t' r' ht' k e hm => ?_
          rw [ht] at ht'
          cases ht'
          exact hnm k e hm
      · cases h
    · rename_i hc
      simp only [compOp, hc]
      exact pu_builtin _ (.inl rfl) _ _
    · rename_i hc
      simp only [compOp, hc]
      exact pu_builtin _ (.inr (.inl rfl)) _ _
    · rename_i hc
      simp only [compOp, hc]
      exact pu_builtin _ (.inr (.inr rfl)) _ _
    · cases h

/-- an operation that makes one block, whatever there is -/
def Mk (F : St → ER) : Prop := ∀ st v st', F st = .ok v st' → ∃ o, st' = ⟨st.nx + 1, (setF (bitsR st.nx)).run o st.h, st.dirty, st.fr⟩ ∧
  ∀ st2, st2.nx = st.nx → F st2 = .ok v ⟨st2.nx + 1, (setF (bitsR st2.nx)).run o st2.h, st2.dirty, st2.fr⟩

theorem Mk.no : Mk fun _ => .no := fun st v st' h => by cases h
theorem Mk.cond {b : Bool} {F G : St → ER} (hF : Mk F) (hG : Mk G) : Mk fun st => cond b (F st) (G st) := by cases b <;> assumption
theorem Mk.some {α : Type} {x : Option α} {F : α → St → ER} (h : ∀ b, Mk (F b)) : Mk fun st => onSome x fun b => F b st := by
  cases x <;> first | exact h _ | exact Mk.no
theorem Mk.nat {x : AV} {F : Nat → St → ER} (h : ∀ b, Mk (F b)) : Mk fun st => onNat x fun b => F b st := by
  unfold onNat
  split
  · simp only [force_eq]; exact h _
  · exact Mk.no
theorem Mk.force {n : Nat} {F : Nat → St → ER} (h : ∀ b, Mk (F b)) : Mk fun st => force n fun b => F b st := by
  simp only [force_eq]; exact h _
theorem Mk.alloc (o : AO) (f : Nat → AV) : Mk fun st => st.alloc o fun b st => .ok (f b) st := fun st v st' h => by
  simp only [St.alloc, force_eq] at h
  cases h
  refine ⟨o, rfl, fun st2 h2 => ?_⟩
  simp only [St.alloc, force_eq, h2]
theorem Mk.row (l : List AV) : Mk fun st => newRow st l := by
  unfold newRow
  exact Mk.force fun n => Mk.alloc _ _

theorem mk_compOp (o : Op) (h : clOf P o = .makes) : Mk fun st => (compOp P op o).run env st := by
  cases o <;> simp only [clOf] at h <;> try (cases h; done)
  case alloc t =>
    simp only [compOp]
    cases zeroCells P t with
    | none => exact Mk.no
    | some z =>
      dsimp only
      cases lall AV.cell z
      · exact Mk.no
      · exact Mk.row _
  case box t x => exact Mk.cond (Mk.row _) Mk.no
  case buildSlice t n ps =>
    simp only [compOp]
    unfold buildSliceF
    split
    · split
      · generalize cond _ _ false = cc
        cases cc
        · exact Mk.no
        · exact Mk.some fun cells => Mk.cond (Mk.force fun n => Mk.alloc _ _) Mk.no
      · exact Mk.no
    · exact Mk.no
  case makeMap t r =>
    cases r with
    | none => exact Mk.alloc _ _
    | some r => exact Mk.no
  case makeSlice t l c =>
    simp only [compOp]
    unfold makeSliceF
    split
    · split
      · generalize cond _ _ false = cc
        cases cc
        · exact Mk.no
        · exact Mk.nat fun l => Mk.nat fun c => Mk.cond (Mk.cond (Mk.cond (Mk.force fun n => Mk.alloc _ _) Mk.no) Mk.no) Mk.no
      · exact Mk.no
    · exact Mk.no
  case call c =>
    exfalso
    split at h
    · split at h
      · split at h <;> cases h
      · cases h
    all_goals cases h

/-- a load -/
theorem load_st {t : TypeId} {x : OF} {st st' : St} {v : AV} (h : (loadF P t x).run env st = .ok v st') : st' = st ∧ (loadK P t).run (x.run env) st.h = some v := by
  unfold loadF at h
  dsimp only at h
  cases hk : (loadK P t).run (x.run env) st.h with
  | none => rw [hk] at h; cases h
  | some u => rw [hk] at h; cases h; exact ⟨rfl, rfl⟩

theorem loadK_obj {t : TypeId} {b o : Nat} {h h2 : T AO} (e : hget h b = hget h2 b) : (loadK P t).run (.ptr b o) h = (loadK P t).run (.ptr b o) h2 := by
  unfold loadK
  split
  · simp only [e]
  · simp only [e]
  · rfl

theorem loadK_ptr {t : TypeId} {a v : AV} {h : T AO} (e : (loadK P t).run a h = some v) : ∃ b o, a = .ptr b o := by
  unfold loadK at e
  split at e
  · cases a <;> first | (cases e; done) | exact ⟨_, _, rfl⟩
  · cases a <;> first | (cases e; done) | exact ⟨_, _, rfl⟩
  · cases e

end

/-! ### what one operation of such a region does -/
def watchSt (w : Bool) (st : St) : St := cond w (stW st) st
def unSt (w : Bool) (st st1 : St) : St := cond w ⟨st1.nx, st1.h, st.dirty, st1.fr⟩ st1

theorem unW_eq {st st1 : St} {k : St → R} : unW st st1 k = cond (Nat.ble st.nx st1.dirty) (k ⟨st1.nx, st1.h, st.dirty, st1.fr⟩) .no := by
  simp only [unW, force_eq]

def OpR (P : Program) (op : Operand → OF) (w : Bool) (call : CallF) (o : Op) (env : Env) (st : St) (v : AV) (st' : St) : Prop :=
  ∃ st1, (w = true → st.nx ≤ st1.dirty) ∧
    match callOf o with
    | some (f, args) => ∃ fid caps, (op f).run env = .fn fid caps ∧ call fid (lapp (lmap (fun x => (op x).run env) args) caps) (watchSt w st) = .ok v st1 ∧ st' = back st (unSt w st st1)
    | none => (compOp P op o).run env (watchSt w st) = .ok v st1 ∧ st' = unSt w st st1

def teOf (P : Program) (op : Operand → OF) (o : Op) (env : Env) (v : AV) (st st' : St) : TE :=
  match clOf P o with
  | .pure => .none
  | .makes => .none
  | .reads => (match o with | .load _ a => .rd ((op a).run env) v | _ => .none)
  | .writes => .wr st.h st'.h
  | .other => .wr st.h st'.h

theorem callOf_other {P : Program} {o : Op} {x : Operand × List Operand} (h : callOf o = some x) : clOf P o = .other := by
  unfold callOf at h
  split at h
  · rename_i c
    split at h
    · rename_i f hf
      simp only [clOf, hf]
    · cases h
  · cases h

/-- a call that panics -/
def OpP (op : Operand → OF) (call : CallF) (o : Op) (env : Env) (st : St) (v : AV) (st' : St) : Prop :=
  ∃ f args fid caps st1, callOf o = some (f, args) ∧ (op f).run env = .fn fid caps ∧ call fid (lapp (lmap (fun x => (op x).run env) args) caps) st = .pn v st1 ∧ st' = back st st1

theorem opD_ok {P : Program} {op : Operand → OF} {w : Bool} {call : CallF} {o : Op} {env : Env} {st : St} {k : AV → TE → St → R} {kp : AV → St → R} (hw : w = true → clOf P o = .other)
    (h : (opD P op w o).run call env st k kp ≠ .no) : (∃ v st', OpR P op w call o env st v st' ∧ (opD P op w o).run call env st k kp = k v (teOf P op o env v st st') st') ∨
      (∃ v st', OpP op call o env st v st' ∧ (opD P op w o).run call env st k kp = kp v st') := by
  unfold opD at h ⊢
  unfold OpR OpP
  cases hc : callOf o with
  | some x =>
    obtain ⟨f, args⟩ := x
    rw [hc] at h
    have ho := callOf_other (P := P) hc
    dsimp only at h ⊢
    cases w
    · simp only [cond_false] at h ⊢
      cases hf : (op f).run env <;> rw [hf] at h <;> try (exact absurd rfl h)
      rename_i fid caps
      dsimp only at h ⊢
      cases he : call fid (lapp (lmap (fun x => (op x).run env) args) caps) st with
      | no => rw [he] at h; exact absurd rfl h
      | pn v s => exact .inr ⟨v, back st s, ⟨f, args, fid, caps, s, rfl, hf, he, rfl⟩, rfl⟩
      | ok v s =>
        refine .inl ⟨v, back st s, ⟨s, (fun h => by cases h), fid, caps, rfl, he, rfl⟩, ?_⟩
        simp only [teOf, ho]; rfl
    · simp only [cond_true] at h ⊢
      cases hf : (op f).run env <;> rw [hf] at h <;> try (exact absurd rfl h)
      rename_i fid caps
      dsimp only at h ⊢
      cases he : call fid (lapp (lmap (fun x => (op x).run env) args) caps) (stW st) with
      | no => rw [he] at h; exact absurd rfl h
      | pn v s => rw [he] at h; exact absurd rfl h
      | ok v s =>
        rw [he] at h
        dsimp only at h ⊢
        rw [unW_eq] at h ⊢
        cases hb : Nat.ble st.nx s.dirty
        · rw [hb] at h; exact absurd rfl h
        · rw [bleN] at hb
          refine .inl ⟨v, back st ⟨s.nx, s.h, st.dirty, s.fr⟩, ⟨s, fun _ => hb, fid, caps, rfl, he, rfl⟩, ?_⟩
          simp only [teOf, ho]; rfl
  | none =>
    rw [hc] at h
    have plain : ∀ (w : Bool) (te : AV → T AO → T AO → Env → TE), (w = false) → (∀ v st', te v st.h st'.h env = teOf P op o env v st st') → (plainD P op o te).run call env st k kp ≠ .no →
        ∃ v st', (∃ st1, (w = true → st.nx ≤ st1.dirty) ∧ (compOp P op o).run env (watchSt w st) = .ok v st1 ∧ st' = unSt w st st1) ∧ (plainD P op o te).run call env st k kp = k v (teOf P op o env v st st') st' := by
      intro w te hw hte hne
      subst hw
      unfold plainD at hne ⊢
      dsimp only at hne ⊢
      cases he : (compOp P op o).run env st with
      | no => rw [he] at hne; exact absurd rfl hne
      | pn v s => rw [he] at hne; exact absurd rfl hne
      | ok v s =>
        refine ⟨v, s, ⟨s, (fun h => by cases h), he, rfl⟩, ?_⟩
        dsimp only
        rw [hte]
    dsimp only at h ⊢
    have hwf : clOf P o ≠ .other → w = false := fun hne => by
      cases w
      · rfl
      · exact absurd (hw rfl) hne
    left
    split at h
    · rename_i hcl
      exact plain w _ (hwf (by rw [hcl]; simp)) (fun v st' => by simp only [teOf, hcl]) h
    · rename_i hcl
      exact plain w _ (hwf (by rw [hcl]; simp)) (fun v st' => by simp only [teOf, hcl]) h
    · rename_i hcl
      exact plain w _ (hwf (by rw [hcl]; simp)) (fun v st' => by simp only [teOf, hcl]) h
    · exact absurd rfl h
    · rename_i hcl
      exact plain w _ (hwf (by rw [hcl]; simp)) (fun v st' => by simp only [teOf, hcl]) h
    · rename_i o2 c2 o1 hcl
      cases w
      · simp only [cond_false] at h ⊢
        exact plain false _ rfl (fun v st' => by simp only [teOf, hcl]) h
      · simp only [cond_true] at h ⊢
        cases he : (compOp P op o2).run env (stW st) with
        | no => rw [he] at h; exact absurd rfl h
        | pn v s => rw [he] at h; exact absurd rfl h
        | ok v s =>
          rw [he] at h
          dsimp only at h ⊢
          rw [unW_eq] at h ⊢
          cases hb : Nat.ble st.nx s.dirty
          · rw [hb] at h; exact absurd rfl h
          · rw [bleN] at hb
            refine ⟨v, ⟨s.nx, s.h, st.dirty, s.fr⟩, ⟨s, fun _ => hb, he, rfl⟩, ?_⟩
            simp only [teOf, hcl]; rfl

/-! ### the trace of a region in the order of its text -/
def dstAt (ops : Array Oper) (p : Nat) : Option Tmp := (ops[p]?).bind (·.dst)
def nsAt (ops : Array Oper) : Nat → List Nat
  | 0 => []
  | p + 1 => pushN (dstAt ops p) (nsAt ops p)
def rsAt (ops : Array Oper) (V : Nat → AV) : Nat → List AV
  | 0 => []
  | p + 1 => (pushV (dstAt ops p)).run (V p) (rsAt ops V p)
def tbAt (E : Nat → TE) : Nat → List TE
  | 0 => []
  | p + 1 => E p :: tbAt E p
def esAt : Nat → List Nat
  | 0 => []
  | p + 1 => p :: esAt p

theorem rsAt_congr {ops : Array Oper} {V W : Nat → AV} : ∀ p, (∀ i, i < p → V i = W i) → rsAt ops V p = rsAt ops W p
  | 0, _ => rfl
  | p + 1, h => by simp only [rsAt]; rw [h p (by omega), rsAt_congr p fun i hi => h i (by omega)]
theorem tbAt_congr {V W : Nat → TE} : ∀ p, (∀ i, i < p → V i = W i) → tbAt V p = tbAt W p
  | 0, _ => rfl
  | p + 1, h => by simp only [tbAt]; rw [h p (by omega), tbAt_congr p fun i hi => h i (by omega)]

structure TrAt (P : Program) (call : CallF) (U : Nat) (ops : Array Oper) (t : T AV) (ab : Bool) (p : Nat) (rs : List AV) (tb : List TE) (s : St) (x : Bool) (v : AV) (te : TE) (s' : St) (o : Oper) : Prop where
  hop : ops[p]? = some o
  out : ab = true → x = false
  want : ab = false → match wantedF (opdF U (nsAt ops p)) ops o with | none => x = true | some wf => wf.run ⟨t, rs⟩ = some x
  run : x = true → OpR P (opdF U (nsAt ops p)) (watch P ops p o) call o.op ⟨t, rs⟩ s v s' ∧ te = teOf P (opdF U (nsAt ops p)) o.op ⟨t, rs⟩ v s s' ∧ held P (loadT o.op) te tb (partners P ops (esAt p) p o) = true
  skip : x = false → v = undefA ∧ te = .none ∧ s' = s

theorem watch_other {P : Program} {ops : Array Oper} {i : Nat} {o : Oper} (h : watch P ops i o = true) : clOf P o.op = .other := by
  unfold watch at h
  simp only [Bool.and_eq_true] at h
  have := h.1
  unfold isOther at this
  split at this
  · assumption
  · cases this

/-- what a run of such operations comes to: they all have run, or one has panicked -/
def Traced (P : Program) (call : CallF) (n U : Nat) (ops : Array Oper) (t : T AV) (fin : List Nat → RD) (pan : Nat → List Nat → List Nat → AV → St → RD) (abs : Nat → Bool) (p : Nat) (V0 : Nat → AV) (E0 : Nat → TE) (st : St) (r : R) : Prop :=
  ∃ (σ : Nat → St) (V : Nat → AV) (E : Nat → TE) (ex : Nat → Bool) (m : Nat), (∀ i, i < p → V i = V0 i) ∧ (∀ i, i < p → E i = E0 i) ∧ σ p = st ∧ p ≤ m ∧
    (∀ i, p ≤ i → i < m → ∃ o, TrAt P call U ops t (abs i) i (rsAt ops V i) (tbAt E i) (σ i) (ex i) (V i) (E i) (σ (i + 1)) o) ∧
    ((m = ops.size ∧ r = (fin (nsAt ops m)).run call n t (rsAt ops V m) (tbAt E m) (σ m)) ∨
     (m < ops.size ∧ ∃ o v st', ops[m]? = some o ∧ abs m = false ∧ (match wantedF (opdF U (nsAt ops m)) ops o with | none => True | some wf => wf.run ⟨t, rsAt ops V m⟩ = some true) ∧
        OpP (opdF U (nsAt ops m)) call o.op ⟨t, rsAt ops V m⟩ (σ m) v st' ∧ r = (pan m (esAt m) (nsAt ops m) v st').run call n t (rsAt ops V m) (tbAt E m) (σ m)))

theorem seq_trace {P : Program} {call : CallF} {n U : Nat} {ops : Array Oper} {t : T AV} (fin : List Nat → RD) (pan : Nat → List Nat → List Nat → AV → St → RD) (abs : Nat → Bool) : ∀ (k p : Nat), p + k = ops.size → ∀ (V0 : Nat → AV) (E0 : Nat → TE) (st : St),
    (seqD P U ops fin pan abs (List.range' p k) (esAt p) (nsAt ops p)).run call n t (rsAt ops V0 p) (tbAt E0 p) st ≠ .no →
    Traced P call n U ops t fin pan abs p V0 E0 st ((seqD P U ops fin pan abs (List.range' p k) (esAt p) (nsAt ops p)).run call n t (rsAt ops V0 p) (tbAt E0 p) st)
  | 0, p, hp, V0, E0, st, h => by
    have : p = ops.size := by omega
    subst this
    exact ⟨fun _ => st, V0, E0, fun _ => true, ops.size, fun _ _ => rfl, fun _ _ => rfl, rfl, Nat.le_refl _, fun i h1 h2 => by omega, .inl ⟨rfl, rfl⟩⟩
  | k + 1, p, hp, V0, E0, st, h => by
    have hlt : p < ops.size := by omega
    obtain ⟨o, ho⟩ : ∃ o, ops[p]? = some o := ⟨ops[p], by simp [hlt]⟩
    have hd : dstAt ops p = o.dst := by simp [dstAt, ho]
    have e : seqD P U ops fin pan abs (List.range' p (k + 1)) (esAt p) (nsAt ops p) =
        cond (abs p) (skipD o.dst (seqD P U ops fin pan abs (List.range' (p + 1) k) (esAt (p + 1)) (nsAt ops (p + 1))))
          (guardD (wantedF (opdF U (nsAt ops p)) ops o) o.dst
            (stepD P (opdF U (nsAt ops p)) (watch P ops p o) (partners P ops (esAt p) p o) o (seqD P U ops fin pan abs (List.range' (p + 1) k) (esAt (p + 1)) (nsAt ops (p + 1))) (pan p (esAt p) (nsAt ops p)))
            (seqD P U ops fin pan abs (List.range' (p + 1) k) (esAt (p + 1)) (nsAt ops (p + 1)))) := by
      have e1 : seqD P U ops fin pan abs (p :: List.range' (p + 1) k) (esAt p) (nsAt ops p) = (match ops[p]? with
        | some o => cond (abs p) (skipD o.dst (seqD P U ops fin pan abs (List.range' (p + 1) k) (p :: esAt p) (pushN o.dst (nsAt ops p))))
          (guardD (wantedF (opdF U (nsAt ops p)) ops o) o.dst
            (stepD P (opdF U (nsAt ops p)) (watch P ops p o) (partners P ops (esAt p) p o) o (seqD P U ops fin pan abs (List.range' (p + 1) k) (p :: esAt p) (pushN o.dst (nsAt ops p))) (pan p (esAt p) (nsAt ops p)))
            (seqD P U ops fin pan abs (List.range' (p + 1) k) (p :: esAt p) (pushN o.dst (nsAt ops p))))
        | none => NORD) := rfl
      rw [List.range'_succ, e1, ho]
      simp only [esAt, nsAt, hd]
    rw [e] at h ⊢
    -- what follows the operation
    have follow : ∀ (x : Bool) (v : AV) (te : TE) (st' : St), TrAt P call U ops t (abs p) p (rsAt ops V0 p) (tbAt E0 p) st x v te st' o →
        (seqD P U ops fin pan abs (List.range' (p + 1) k) (esAt (p + 1)) (nsAt ops (p + 1))).run call n t ((pushV o.dst).run v (rsAt ops V0 p)) (List.cons te (tbAt E0 p)) st' ≠ .no →
        Traced P call n U ops t fin pan abs p V0 E0 st ((seqD P U ops fin pan abs (List.range' (p + 1) k) (esAt (p + 1)) (nsAt ops (p + 1))).run call n t ((pushV o.dst).run v (rsAt ops V0 p)) (List.cons te (tbAt E0 p)) st') := by
      intro x v te st' htr hne
      have hV : ∀ i, i < p → (fun i => if i = p then v else V0 i) i = V0 i := fun i hi => by simp only; rw [if_neg (by omega)]
      have hE : ∀ i, i < p → (fun i => if i = p then te else E0 i) i = E0 i := fun i hi => by simp only; rw [if_neg (by omega)]
      have h1 : rsAt ops (fun i => if i = p then v else V0 i) (p + 1) = (pushV o.dst).run v (rsAt ops V0 p) := by
        simp only [rsAt, hd, if_true]
        rw [rsAt_congr p hV]
      have h2 : tbAt (fun i => if i = p then te else E0 i) (p + 1) = te :: tbAt E0 p := by
        simp only [tbAt, if_true]
        rw [tbAt_congr p hE]
      rw [← h1, ← h2] at hne ⊢
      obtain ⟨σ, V, E, ex, m, k1, k2, k3, k6, k4, k5⟩ := seq_trace fin pan abs k (p + 1) (by omega) _ _ st' hne
      have g1 : ∀ i, i < p → V i = V0 i := fun i hi => (k1 i (by omega)).trans (hV i hi)
      have g2 : ∀ i, i < p → E i = E0 i := fun i hi => (k2 i (by omega)).trans (hE i hi)
      refine ⟨fun i => if i = p then st else σ i, V, E, fun i => if i = p then x else ex i, m, g1, g2, by simp, by omega, fun i hi hi2 => ?_, ?_⟩
      · by_cases hip : i = p
        · subst hip
          refine ⟨o, ?_⟩
          simp only [if_true]
          rw [if_neg (by omega), k3, rsAt_congr i g1, tbAt_congr i g2, k1 i (by omega), k2 i (by omega)]
          simpa using htr
        · simp only [if_neg hip]
          rw [if_neg (by omega)]
          exact k4 i (by omega) hi2
      · simp only
        rw [if_neg (by omega)]
        exact k5
    -- the operation itself
    have step : abs p = false → (stepD P (opdF U (nsAt ops p)) (watch P ops p o) (partners P ops (esAt p) p o) o (seqD P U ops fin pan abs (List.range' (p + 1) k) (esAt (p + 1)) (nsAt ops (p + 1))) (pan p (esAt p) (nsAt ops p))).run call n t (rsAt ops V0 p) (tbAt E0 p) st ≠ .no →
        (match wantedF (opdF U (nsAt ops p)) ops o with | none => true = true | some wf => wf.run ⟨t, rsAt ops V0 p⟩ = some true) →
        Traced P call n U ops t fin pan abs p V0 E0 st ((stepD P (opdF U (nsAt ops p)) (watch P ops p o) (partners P ops (esAt p) p o) o (seqD P U ops fin pan abs (List.range' (p + 1) k) (esAt (p + 1)) (nsAt ops (p + 1))) (pan p (esAt p) (nsAt ops p))).run call n t (rsAt ops V0 p) (tbAt E0 p) st) := by
      intro hab hne hw
      unfold stepD at hne ⊢
      dsimp only at hne ⊢
      rcases opD_ok (fun hwt => watch_other hwt) hne with ⟨v, st', hO, hk⟩ | ⟨v, st', hO, hk⟩
      · rw [hk] at hne ⊢
        try dsimp only at hne ⊢
        cases hh : held P (loadT o.op) (teOf P (opdF U (nsAt ops p)) o.op ⟨t, rsAt ops V0 p⟩ v st st') (tbAt E0 p) (partners P ops (esAt p) p o)
        · rw [hh] at hne; exact absurd rfl hne
        · rw [hh] at hne
          exact follow true v _ st' ⟨ho, (fun h => by simp_all), fun _ => hw, fun _ => ⟨hO, rfl, hh⟩, (fun h => by cases h)⟩ hne
      · rw [hk]
        refine ⟨fun _ => st, V0, E0, fun _ => true, p, fun _ _ => rfl, fun _ _ => rfl, rfl, Nat.le_refl _, fun i h1 h2 => by omega, .inr ⟨hlt, o, v, st', ho, hab, ?_, hO, rfl⟩⟩
        split at hw
        · trivial
        · exact hw
    cases hab : abs p
    · rw [hab] at h
      simp only [cond_false] at h ⊢
      unfold guardD at h ⊢
      cases hwf : wantedF (opdF U (nsAt ops p)) ops o with
      | none =>
        rw [hwf] at h step
        exact step hab h rfl
      | some wf =>
        rw [hwf] at h step
        simp only at h ⊢ step
        cases hb : wf.run ⟨t, rsAt ops V0 p⟩ with
        | none => rw [hb] at h; exact absurd rfl h
        | some b =>
          rw [hb] at h step
          dsimp only at h ⊢
          cases b
          · exact follow false undefA .none st ⟨ho, (fun h => by simp_all), (fun _ => by rw [hwf]; exact hb), (fun h => by cases h), fun _ => ⟨rfl, rfl, rfl⟩⟩ h
          · exact step hab h rfl
    · rw [hab] at h
      exact follow false undefA .none st ⟨ho, fun _ => rfl, (fun h => by simp_all), (fun h => by cases h), fun _ => ⟨rfl, rfl, rfl⟩⟩ h

end Go.Ev

namespace Go.Ev
open Go.RowKit

/-! ### what a run of one operation comes to -/
def Runs (P : Program) (o : Oper) (a : Act) (w : World) (R : Value → World → Prop) : Prop :=
  (∃ x w', ((execOp a.eval o).run P w = .ok (.value x) w' ∨ ((execOp a.eval o).run P w = .ok .skip w' ∧ x = undef)) ∧ R x w') ∨
  (∃ f vs, (execOp a.eval o).run P w = .ok (.enter f vs) w ∧ Calls P f vs w fun e w' => ∃ x, e = .returned x ∧ R x w')

theorem Runs.wp {P : Program} {o : Oper} {a : Act} {w : World} {R : Value → World → Prop} (h : Runs P o a w R) {K : Act → World → Prop} {Q : Exit → Act → World → Prop}
    (hk : ∀ x w', R x w' → K (a.put o.dst x) w') : o.wp P a w K Q := by
  unfold Oper.wp
  rcases h with ⟨x, w', h1, hR⟩ | ⟨f, vs, h1, h2⟩
  · rcases h1 with h1 | ⟨h1, rfl⟩
    · rw [h1]; exact hk x w' hR
    · rw [h1]; exact hk undef w' hR
  · rw [h1]
    exact Calls.mono h2 fun e w' he => by
      obtain ⟨x, rfl, hR⟩ := he
      exact hk x w' hR

theorem Runs.ex {P : Program} {o : Oper} {a : Act} {w : World} {R : Value → World → Prop} (h : Runs P o a w R) : ∃ x w', R x w' := by
  rcases h with ⟨x, w', _, hR⟩ | ⟨f, vs, _, h2⟩
  · exact ⟨x, w', hR⟩
  · obtain ⟨e, w', _, ⟨x, _, hR⟩, _⟩ := h2 []
    exact ⟨x, w', hR⟩

def noDefer (o : Op) : Bool := match o with | .defer _ => false | _ => true

theorem unSt_h (w : Bool) (st st1 : St) : (unSt w st st1).h = st1.h ∧ (unSt w st st1).nx = st1.nx ∧ (unSt w st st1).fr = st1.fr := by cases w <;> exact ⟨rfl, rfl, rfl⟩
theorem watchSt_h (w : Bool) (st : St) : (watchSt w st).h = st.h ∧ (watchSt w st).nx = st.nx ∧ (watchSt w st).fr = st.fr := by cases w <;> exact ⟨rfl, rfl, rfl⟩

theorem Cleanly.unSt {ι ι' : Inj} {w : Bool} {st st1 : St} (h : Cleanly ι ι' (watchSt w st) st1) (hd : w = true → st.nx ≤ st1.dirty) : Cleanly ι ι' st (unSt w st st1) := by
  cases w
  · exact h
  · have hd := hd rfl
    exact ⟨h.nx, Nat.le_refl _, fun b hb _ => h.keep b hb (Nat.lt_of_lt_of_le hb hd), h.above, h.u, h.le, h.n⟩

/-- what an operation leaves behind -/
structure Left (ι : Inj) (w : World) (wch : Bool) (st : St) (v : AV) (st' : St) (ι' : Inj) (x : Value) (w' : World) : Prop where
  le : Le ι ι'
  v : VR ι' v x
  sim : Sim ι' st'.h st'.nx w'
  grew : Grew ι w ι' w'
  cl : Cleanly ι ι' st st'
  fr : st'.fr = st.fr
  quiet : wch = true → ∀ b, b < st.nx → hget st'.h b = hget st.h b

theorem opR_runs {P : Program} {call : CallF} (hcall : CallOK P call) {ι : Inj} {w : World} {o : Oper} {a : Act} {op : Operand → OF} {wch : Bool} {env : Env} {st : St} {v : AV} {st' : St}
    (hno : noDefer o.op = true) (hO : OpR P op wch call o.op env st v st') (k : Sim ι st.h st.nx w) (hx : ∀ x ∈ o.op.operands.toList, VR ι ((op x).run env) (a.eval x)) :
    Runs P o a w fun x w' => ∃ ι', Left ι w wch st v st' ι' x w' := by
  obtain ⟨st1, hd, hO⟩ := hO
  have k' : Sim ι (watchSt wch st).h (watchSt wch st).nx w := by rw [(watchSt_h wch st).1, (watchSt_h wch st).2.1]; exact k
  have quiet : ∀ {ι' : Inj}, Cleanly ι ι' (watchSt wch st) st1 → wch = true → ∀ b, b < st.nx → hget st1.h b = hget st.h b := by
    intro ι' hcl hw b hb
    have h1 := hd hw
    subst hw
    exact hcl.keep b hb (Nat.lt_of_lt_of_le hb h1)
  cases hco : callOf o.op with
  | some p =>
    obtain ⟨f, args⟩ := p
    rw [hco] at hO
    dsimp only at hO
    obtain ⟨fid, caps, hfv, he, rfl⟩ := hO
    have hcs : ∃ c, o.op = .call c ∧ c.callee = .value f ∧ args = c.args.toList := by
      unfold callOf at hco
      split at hco
      · rename_i c hoc
        split at hco
        · rename_i f' hf'
          cases hco
          exact ⟨c, hoc, hf', rfl⟩
        · cases hco
      · cases hco
    obtain ⟨c, hoc, hcf, rfl⟩ := hcs
    rw [hoc] at hx
    have hvf := hx f (by simp [Op.operands, Call.operands, hcf])
    rw [hfv] at hvf
    simp only [VR] at hvf
    obtain ⟨cv, hcv, hcaps⟩ := hvf
    simp only [lapp_eq, lmap_eq] at he
    have hargs : VRs ι (c.args.toList.map (fun x => (op x).run env) ++ caps) ((c.args.map a.eval) ++ cv).toList := by
      rw [Array.toList_append, Array.toList_map]
      exact (VRs.map_of _ fun x hxm => hx x (by simp [Op.operands, Call.operands]; right; simpa using hxm)).append hcaps
    have hC := hcall fid _ (watchSt wch st) ι w ((c.args.map a.eval) ++ cv) k' hargs
    rw [he] at hC
    obtain ⟨hen, hcs⟩ := hC
    refine .inr ⟨fid, (c.args.map a.eval) ++ cv, call_run hoc hcf hcv hen, Calls.mono hcs fun e w' he => ?_⟩
    obtain ⟨x, rfl, ι', hl, hv, hs, hg, hcl⟩ := he
    refine ⟨x, rfl, ι', hl, hv, ?_, hg, ?_, rfl, ?_⟩
    · show Sim ι' (unSt wch st st1).h (unSt wch st st1).nx w'
      rw [(unSt_h wch st st1).1, (unSt_h wch st st1).2.1]; exact hs
    · have := hcl.unSt hd
      exact ⟨this.nx, this.dirty, this.keep, this.above, this.u, this.le, this.n⟩
    · intro hw b hb
      show hget (unSt wch st st1).h b = _
      rw [(unSt_h wch st st1).1]
      exact quiet hcl hw b hb
  | none =>
    rw [hco] at hO
    dsimp only at hO
    obtain ⟨he, rfl⟩ := hO
    have hcalm : calmOp o.op = true := by
      cases hcc : calmOp o.op
      · exfalso
        cases ho : o.op <;> rw [ho] at hcc hno hco he <;> simp only [calmOp] at hcc <;> try (cases hcc; done)
        case call c =>
          simp only [compOp] at he
          split at hcc
          · rename_i b hb
            simp only [hb] at he
            cases b <;> simp only [noRec] at hcc <;> try (cases hcc; done)
            have : builtinF P .recover c.argTypes (lmap op c.args.toList) = NOE := by
              unfold builtinF
              split <;> first | rfl | contradiction | simp_all
            rw [this] at he
            cases he
          · rename_i hnb
            cases hcl : c.callee with
            | builtin b => exact hnb b hcl
            | value f => simp [callOf, hcl] at hco
            | invoke r m => rw [hcl] at he; cases he
        case defer c => cases hno
      · rfl
    have hres := exec_ok (P := P) (ρ := a.eval) (op := op) (env := env) hcalm k' hx
    rw [he] at hres
    obtain ⟨ι', x, w', hr, hl, hv, hs, hg, hcl, hfr⟩ := hres
    refine .inl ⟨x, w', hr, ι', hl, hv, ?_, hg, hcl.unSt hd, ?_, ?_⟩
    · rw [(unSt_h wch st st1).1, (unSt_h wch st st1).2.1]; exact hs
    · rw [(unSt_h wch st st1).2.2, hfr, (watchSt_h wch st).2.2]
    · intro hw b hb
      rw [(unSt_h wch st st1).1]
      exact quiet hcl hw b hb

/-! ### the last of some numbers -/
open Classical in
noncomputable def lastP (A : Nat → Prop) : Nat → Option Nat
  | 0 => none
  | k + 1 => if A k then some k else lastP A k

theorem lastP_congr {A B : Nat → Prop} : ∀ m, (∀ p, p < m → (A p ↔ B p)) → lastP A m = lastP B m
  | 0, _ => rfl
  | m + 1, h => by
    simp only [lastP]
    rw [lastP_congr m fun p hp => h p (by omega)]
    by_cases ha : A m
    · rw [if_pos ha, if_pos ((h m (by omega)).1 ha)]
    · rw [if_neg ha, if_neg fun hb => ha ((h m (by omega)).2 hb)]

theorem lastP_some {A : Nat → Prop} {k : Nat} : ∀ m, lastP A m = some k → k < m ∧ A k ∧ ∀ p, k < p → p < m → ¬ A p
  | 0, h => by cases h
  | m + 1, h => by
    simp only [lastP] at h
    by_cases ha : A m
    · rw [if_pos ha] at h
      cases h
      exact ⟨by omega, ha, fun p h1 h2 => by omega⟩
    · rw [if_neg ha] at h
      obtain ⟨h1, h2, h3⟩ := lastP_some m h
      refine ⟨by omega, h2, fun p h4 h5 => ?_⟩
      by_cases hp : p = m
      · rw [hp]; exact ha
      · exact h3 p h4 (by omega)

theorem lastP_none {A : Nat → Prop} : ∀ m, lastP A m = none → ∀ p, p < m → ¬ A p
  | 0, _, p, hp => by omega
  | m + 1, h, p, hp => by
    simp only [lastP] at h
    by_cases ha : A m
    · rw [if_pos ha] at h; cases h
    · rw [if_neg ha] at h
      by_cases hpm : p = m
      · rw [hpm]; exact ha
      · exact lastP_none m h p (by omega)

theorem lastP_eq {A : Nat → Prop} {k m : Nat} (hk : k < m) (ha : A k) (hn : ∀ p, k < p → p < m → ¬ A p) : lastP A m = some k := by
  cases h : lastP A m with
  | none => exact absurd ha (lastP_none m h k hk)
  | some j =>
    obtain ⟨h1, h2, h3⟩ := lastP_some m h
    rcases Nat.lt_trichotomy j k with h4 | h4 | h4
    · exact absurd ha (h3 k h4 hk)
    · rw [h4]
    · exact absurd h2 (hn j h4 h1)

theorem lastP_low {A : Nat → Prop} {q : Nat} : ∀ m, q ≤ m → lastP (fun p => p < q ∧ A p) m = lastP A q
  | 0, h => by
    have : q = 0 := by omega
    subst this; rfl
  | m + 1, h => by
    by_cases hq : q = m + 1
    · subst hq
      exact lastP_congr _ fun p hp => ⟨fun h => h.2, fun h => ⟨hp, h⟩⟩
    · simp only [lastP]
      rw [if_neg (by omega)]
      exact lastP_low m (by omega)

/-! ### tables made of a rule -/
noncomputable def tab (f : Nat → Option AO) : Nat → T AO
  | 0 => .e
  | n + 1 => match f n with | some o => (setF (bitsR n)).run o (tab f n) | none => tab f n

theorem tab_get (f : Nat → Option AO) (b : Nat) : ∀ n, hget (tab f n) b = if b < n then f b else none
  | 0 => by simp [tab, hget_e]
  | n + 1 => by
    simp only [tab]
    cases hf : f n with
    | none =>
      simp only
      rw [tab_get f b n]
      by_cases hb : b = n
      · subst hb; simp [hf]
      · by_cases h2 : b < n
        · rw [if_pos h2, if_pos (by omega)]
        · rw [if_neg h2, if_neg (by omega)]
    | some o =>
      simp only
      rw [hget_set, tab_get f b n]
      by_cases hb : b = n
      · subst hb; simp [hf]
      · rw [if_neg hb]
        by_cases h2 : b < n
        · rw [if_pos h2, if_pos (by omega)]
        · rw [if_neg h2, if_neg (by omega)]

theorem Sim.same {ι : Inj} {h h' : T AO} {nx : Nat} {w : World} (k : Sim ι h nx w) (e : ∀ b, ι b ≠ .unborn → hget h' b = hget h b) : Sim ι h' nx w :=
  ⟨fun b B S hb => by
    obtain ⟨o, x, h1, h2, h3⟩ := k.obj b B S hb
    exact ⟨o, x, by rw [e b (by rw [hb]; simp)]; exact h1, h2, h3⟩,
   fun b hb o ho => k.gone b hb o (by rw [← e b (by rw [hb]; simp)]; exact ho), k.inj, k.born⟩

/-! ### the edges -/
theorem inU_bit (U t : Nat) : inU U t = U.testBit t := by
  rw [Bool.eq_iff_iff, inU, beqN, Nat.testBit_eq_decide_div_mod_eq, decide_eq_true_iff]
  rw [show Nat.shiftRight U t = U >>> t from rfl, Nat.shiftRight_eq_div_pow]
  exact Iff.rfl

def befOf (acc : List Nat) (o : Oper) : Nat := o.after.toList.foldl (fun s e => cond (bindsA e) (Nat.lor (Nat.lor s (Nat.pow 2 e.on)) (acc.getD e.on 0)) s) 0

theorem befores_snoc (l : List Oper) (o : Oper) : befores (l ++ [o]) = befores l ++ [befOf (befores l) o] := by
  unfold befores
  rw [List.foldl_append]
  rfl

theorem rev_ind {α : Type} {p : List α → Prop} (h0 : p []) (h1 : ∀ l a, p l → p (l ++ [a])) (l : List α) : p l := by
  have key : ∀ r : List α, p r.reverse := by
    intro r
    induction r with
    | nil => exact h0
    | cons a r ih => rw [List.reverse_cons]; exact h1 _ _ ih
  have := key l.reverse
  rwa [List.reverse_reverse] at this

theorem befores_length (l : List Oper) : (befores l).length = l.length := by
  refine rev_ind (p := fun l => (befores l).length = l.length) rfl (fun l o ih => ?_) l
  rw [befores_snoc, List.length_append, List.length_append, ih]; rfl

theorem befores_get (l : List Oper) : ∀ i o, l[i]? = some o → (befores l).getD i 0 = befOf ((befores l).take i) o := by
  refine rev_ind (p := fun l => ∀ i o, l[i]? = some o → (befores l).getD i 0 = befOf ((befores l).take i) o) (fun i o h => by simp at h) (fun l o ih i u h => ?_) l
  rw [befores_snoc]
  have hlen := befores_length l
  by_cases hi : i < l.length
  · rw [List.getElem?_append_left hi] at h
    have := ih i u h
    rw [List.getD_eq_getElem?_getD, List.getElem?_append_left (by omega), ← List.getD_eq_getElem?_getD, this]
    rw [List.take_append_of_le_length (by omega)]
  · rw [List.getElem?_append_right (by omega)] at h
    have hi0 : i - l.length = 0 := by
      cases hn : i - l.length with
      | zero => rfl
      | succ k => rw [hn] at h; simp at h
    rw [hi0] at h
    simp at h
    subst h
    have hi2 : i = l.length := by omega
    subst hi2
    rw [List.getD_eq_getElem?_getD, List.getElem?_append_right (by omega), hlen]
    simp only [Nat.sub_self, List.getElem?_cons_zero, Option.getD_some]
    rw [← hlen, List.take_left]

theorem befOf_bit (acc : List Nat) (j : Nat) : ∀ (l : List Edge) (s : Nat), inU (l.foldl (fun s e => cond (bindsA e) (Nat.lor (Nat.lor s (Nat.pow 2 e.on)) (acc.getD e.on 0)) s) s) j = true →
    inU s j = true ∨ ∃ e ∈ l, bindsA e = true ∧ (e.on = j ∨ inU (acc.getD e.on 0) j = true)
  | [], s, h => .inl h
  | e :: l, s, h => by
    rw [List.foldl_cons] at h
    rcases befOf_bit acc j l _ h with h1 | ⟨e', he, h2, h3⟩
    · cases hb : bindsA e
      · rw [hb] at h1
        exact .inl h1
      · rw [hb] at h1
        simp only [cond_true] at h1
        rw [inU_bit] at h1
        have h2 : ((s ||| 2 ^ e.on) ||| acc.getD e.on 0).testBit j = true := h1
        rw [Nat.testBit_or, Nat.testBit_or, Bool.or_eq_true, Bool.or_eq_true] at h2
        rcases h2 with (h2 | h2) | h2
        · exact .inl (by rw [inU_bit]; exact h2)
        · rw [Nat.testBit_two_pow] at h2
          exact .inr ⟨e, by simp, hb, .inl (by simpa using h2)⟩
        · exact .inr ⟨e, by simp, hb, .inr (by rw [inU_bit]; exact h2)⟩
    · exact .inr ⟨e', by simp [he], h2, h3⟩

def bs (ops : Array Oper) : List Nat := befores ops.toList

def Closed (ops : Array Oper) (S : Nat → Prop) : Prop := ∀ i o, S i → ops[i]? = some o → ∀ e ∈ o.after, bindsA e = true → S e.on
def Ready (ops : Array Oper) (S : Nat → Prop) (i : Nat) : Prop := ∃ o, ops[i]? = some o ∧ ∀ e ∈ o.after, bindsA e = true → S e.on

theorem bef_in {ops : Array Oper} {S : Nat → Prop} (hlow : ∀ i o, ops[i]? = some o → ∀ e ∈ o.after, bindsA e = true → e.on < i) (hc : Closed ops S) (j : Nat) : ∀ (m i : Nat), i < m → Ready ops S i → inU ((bs ops).getD i 0) j = true → S j
  | 0, i, hi, _, _ => by omega
  | m + 1, i, hi, hr, h => by
    obtain ⟨o, ho, hr⟩ := hr
    rw [bs, befores_get ops.toList i o (by rw [Array.getElem?_toList]; exact ho)] at h
    rcases befOf_bit _ j _ 0 h with h1 | ⟨e, he, hb, h1⟩
    · simp [inU_bit] at h1
    · have he' : e ∈ o.after := Array.mem_toList_iff.1 he
      have hlt := hlow i o ho e he' hb
      rcases h1 with h1 | h1
      · rw [← h1]; exact hr e he' hb
      · have hS := hr e he' hb
        have h2 : inU ((bs ops).getD e.on 0) j = true := by
          rw [List.getD_eq_getElem?_getD, List.getElem?_take, if_pos hlt, ← List.getD_eq_getElem?_getD] at h1
          exact h1
        obtain ⟨u, hu⟩ : ∃ u, ops[e.on]? = some u := by
          have : i < ops.size := (Array.getElem?_eq_some_iff.1 ho).1
          exact ⟨ops[e.on], by simp [Nat.lt_trans hlt this]⟩
        exact bef_in hlow hc j m e.on (by omega) ⟨u, hu, hc e.on u hS hu⟩ h2

end Go.Ev

namespace Go.Ev
open Go.RowKit

structure Ctx (P : Program) (call : CallF) (U N : Nat) (ops : Array Oper) (t : T AV) (ι0 : Inj) (w0 : World) (a0 : Act) (σ : Nat → St) (V : Nat → AV) (E : Nat → TE) (ex ab : Nat → Bool) : Prop where
  hcall : CallOK P call
  ok : orderOk P ops = true
  dst : ∀ o ∈ ops.toList, ∀ x, o.dst = some x → x < N
  tr : ∀ i, i < ops.size → ∃ o, TrAt P call U ops t (ab i) i (rsAt ops V i) (tbAt E i) (σ i) (ex i) (V i) (E i) (σ (i + 1)) o
  rel0 : Rel ι0 U N t [] [] (σ 0) a0 w0

section
variable {P : Program} {call : CallF} {U N : Nat} {ops : Array Oper} {t : T AV} {ι0 : Inj} {w0 : World} {a0 : Act} {σ : Nat → St} {V : Nat → AV} {E : Nat → TE} {ex ab : Nat → Bool}

/-! ### what 'orderOk' says -/
theorem ok_at (h : orderOk P ops = true) {i : Nat} {o : Oper} (hi : ops[i]? = some o) :
    (∀ e ∈ o.after, bindsA e = true → e.on < i) ∧ noDefer o.op = true ∧ (∀ cs b, o.op ≠ .select cs b) ∧
    ∀ j u, j < i → ops[j]? = some u → ordered (bs ops) i j = true ∨ (u.apart ops o = true ∧
      ((isWrite (clOf P u.op) && acts (clOf P o.op)) || (acts (clOf P u.op) && isWrite (clOf P o.op)) || (isMake (clOf P u.op) && acts (clOf P o.op))) = false) := by
  unfold orderOk at h
  simp only [List.all_eq_true, List.mem_range] at h
  have hlt : i < ops.size := (Array.getElem?_eq_some_iff.1 hi).1
  have h1 := h i hlt
  rw [hi] at h1
  simp only [Bool.and_eq_true, List.all_eq_true, List.mem_range] at h1
  obtain ⟨⟨h2, h3⟩, h4⟩ := h1
  refine ⟨fun e he hb => ?_, ?_, ?_, fun j u hj hu => ?_⟩
  · have := h2 e (Array.mem_toList_iff.2 he)
    rw [hb] at this
    simp only [cond_true] at this
    rw [bleN] at this
    omega
  · unfold noDefer
    split
    · rename_i c hc
      rw [hc] at h3; cases h3
    · rfl
  · intro cs b hc
    rw [hc] at h3; cases h3
  · have := h4 j hj
    rw [hu] at this
    simp only [Bool.or_eq_true, Bool.and_eq_true, Bool.not_eq_true'] at this
    rcases this with h5 | ⟨h5, h6⟩
    · exact .inl h5
    · exact .inr ⟨h5, h6⟩

theorem ordered_symm (b : List Nat) (i j : Nat) : ordered b i j = ordered b j i := by unfold ordered; rw [Bool.or_comm]

/-- two operations whose order is open -/
structure Free (P : Program) (ops : Array Oper) (o u : Oper) : Prop where
  d1 : ∀ d, u.dst = some d → d ∉ o.looksAt ops
  d2 : ∀ d, o.dst = some d → d ∉ u.looksAt ops
  d3 : ∀ d, u.dst = some d → o.dst ≠ some d
  w1 : ¬ (isWrite (clOf P u.op) = true ∧ acts (clOf P o.op) = true)
  w2 : ¬ (acts (clOf P u.op) = true ∧ isWrite (clOf P o.op) = true)

theorem sep (h : orderOk P ops = true) {i j : Nat} {o u : Oper} (hi : ops[i]? = some o) (hj : ops[j]? = some u) (hne : i ≠ j) :
    ordered (bs ops) i j = true ∨ (Free P ops o u ∧ (j < i → ¬ (isMake (clOf P u.op) = true ∧ acts (clOf P o.op) = true))) := by
  rcases Nat.lt_or_ge j i with hlt | hge
  · rcases (ok_at h hi).2.2.2 j u hlt hj with h1 | ⟨h1, h2⟩
    · exact .inl h1
    · obtain ⟨k1, k2, k3⟩ := Oper.apart_spec h1
      simp only [Bool.or_eq_false_iff, Bool.and_eq_false_iff] at h2
      obtain ⟨⟨h3, h4⟩, h5⟩ := h2
      refine .inr ⟨⟨k1, k3, k2, fun ⟨x, y⟩ => ?_, fun ⟨x, y⟩ => ?_⟩, fun _ ⟨x, y⟩ => ?_⟩
      · rcases h3 with h3 | h3
        · rw [x] at h3; cases h3
        · rw [y] at h3; cases h3
      · rcases h4 with h4 | h4
        · rw [x] at h4; cases h4
        · rw [y] at h4; cases h4
      · rcases h5 with h5 | h5
        · rw [x] at h5; cases h5
        · rw [y] at h5; cases h5
  · have hlt : i < j := by omega
    rcases (ok_at h hj).2.2.2 i o hlt hi with h1 | ⟨h1, h2⟩
    · exact .inl (by rw [ordered_symm]; exact h1)
    · obtain ⟨k1, k2, k3⟩ := Oper.apart_spec h1
      simp only [Bool.or_eq_false_iff, Bool.and_eq_false_iff] at h2
      obtain ⟨⟨h3, h4⟩, h5⟩ := h2
      refine .inr ⟨⟨k3, k1, fun d h1 h2 => k2 d h2 h1, fun ⟨x, y⟩ => ?_, fun ⟨x, y⟩ => ?_⟩, fun hh => by omega⟩
      · rcases h4 with h4 | h4
        · rw [y] at h4; cases h4
        · rw [x] at h4; cases h4
      · rcases h3 with h3 | h3
        · rw [y] at h3; cases h3
        · rw [x] at h3; cases h3

theorem op_lt (h : orderOk P ops = true) : ∀ i o, ops[i]? = some o → ∀ e ∈ o.after, bindsA e = true → e.on < i := fun i o hi => (ok_at h hi).1

theorem bit_lt (h : orderOk P ops = true) {i j : Nat} {o : Oper} (hi : ops[i]? = some o) (hb : inU ((bs ops).getD i 0) j = true) : j < i := by
  refine bef_in (S := fun p => p < i) (op_lt h) (fun k u hk hu e he hbe => ?_) j (i + 1) i (by omega) ⟨o, hi, op_lt h i o hi⟩ hb
  have := op_lt h k u hu e he hbe
  show e.on < i
  have hk : k < i := hk
  omega

/-- what has its place beside an operation that is about to run -/
theorem decided (h : orderOk P ops = true) {S : Nat → Prop} (hc : Closed ops S) {p q : Nat} {u o : Oper} (hp : ops[p]? = some u) (hq : ops[q]? = some o) (hr : Ready ops S q) (hn : ¬ S q) (ho : ordered (bs ops) q p = true) : S p ↔ p < q := by
  unfold ordered at ho
  rw [Bool.or_eq_true] at ho
  rcases ho with ho | ho
  · have h1 := bef_in (op_lt h) hc p (q + 1) q (by omega) hr ho
    exact ⟨fun _ => bit_lt h hq ho, fun _ => h1⟩
  · have hlt := bit_lt h hp ho
    refine ⟨fun hS => absurd (bef_in (op_lt h) hc q (p + 1) p (by omega) ⟨u, hp, hc p u hS hp⟩ ho) hn, fun h => by omega⟩

/-! ### the run in the order of the text -/
theorem canon_idx (x : Nat) : ∀ q, match lastP (fun p => dstAt ops p = some x) q with
    | some k => ∃ i, idx x (nsAt ops q) = some i ∧ (rsAt ops V q).getD i .bad = V k
    | none => idx x (nsAt ops q) = none
  | 0 => rfl
  | q + 1 => by
    have ih := canon_idx x q
    simp only [lastP]
    by_cases hd : dstAt ops q = some x
    · rw [if_pos hd]
      refine ⟨0, ?_, ?_⟩
      · simp only [nsAt, hd, pushN, idx, if_true]
      · simp only [rsAt, hd, pushV]; rfl
    · rw [if_neg hd]
      cases hd' : dstAt ops q with
      | none =>
        simp only [nsAt, rsAt, hd', pushN, pushV]
        exact ih
      | some d =>
        have hne : d ≠ x := fun e => hd (by rw [hd', e])
        simp only [nsAt, rsAt, hd', pushN, pushV, idx, if_neg hne]
        cases hl : lastP (fun p => dstAt ops p = some x) q with
        | none =>
          rw [hl] at ih
          simp only at ih ⊢
          rw [ih]; rfl
        | some k =>
          rw [hl] at ih
          simp only at ih ⊢
          obtain ⟨i, h1, h2⟩ := ih
          exact ⟨i + 1, by rw [h1]; rfl, by simpa using h2⟩

theorem canon_tmp (x q : Nat) : (opdF U (nsAt ops q) (.tmp x)).run ⟨t, rsAt ops V q⟩ = match lastP (fun p => dstAt ops p = some x) q with
    | some k => V k
    | none => cond (inU U x) (tget t x) .bad := by
  have h := canon_idx (ops := ops) (V := V) x q
  simp only [opdF, recF_eq]
  cases hl : lastP (fun p => dstAt ops p = some x) q with
  | some k =>
    rw [hl] at h
    simp only at h ⊢
    obtain ⟨i, h1, h2⟩ := h
    rw [h1]
    simp only [Option.map_some, lget_eq]
    exact h2
  | none =>
    rw [hl] at h
    simp only at h ⊢
    rw [h]
    simp only [Option.map_none]
    cases inU U x
    · rfl
    · simp only [cond_true, tget]
      cases (getF (bitsR x)).run t <;> rfl

/-- did an operation change what a number stands for? -/
def Chg (σ : Nat → St) (p b : Nat) : Prop := ((σ p).nx ≤ b ∧ b < (σ (p + 1)).nx) ∨ hget (σ (p + 1)).h b ≠ hget (σ p).h b

noncomputable def verOf (σ : Nat → St) (b : Nat) : Option Nat → Option AO
  | some k => hget (σ (k + 1)).h b
  | none => hget (σ 0).h b

noncomputable def cur (σ : Nat → St) (m : Nat) (S : Nat → Prop) (b : Nat) : Option AO := verOf σ b (lastP (fun p => S p ∧ Chg σ p b) m)

theorem cur_canon (b : Nat) : ∀ q, verOf σ b (lastP (fun p => Chg σ p b) q) = hget (σ q).h b
  | 0 => rfl
  | q + 1 => by
    simp only [lastP]
    by_cases hc : Chg σ q b
    · rw [if_pos hc]; rfl
    · rw [if_neg hc, cur_canon b q]
      have : ¬ (hget (σ (q + 1)).h b ≠ hget (σ q).h b) := fun h => hc (.inr h)
      exact (Classical.not_not.1 this).symm

/-- what an operation does to the table, as the run in the order of the text tells it -/
structure StF (P : Program) (σ : Nat → St) (ex : Nat → Bool) (ops : Array Oper) (p : Nat) (o : Oper) : Prop where
  nx : (σ p).nx ≤ (σ (p + 1)).nx
  above : ∀ b, (σ (p + 1)).nx ≤ b → hget (σ (p + 1)).h b = hget (σ p).h b
  fr : (σ (p + 1)).fr = (σ p).fr
  watched : watch P ops p o = true → ∀ b, b < (σ p).nx → hget (σ (p + 1)).h b = hget (σ p).h b
  calm : acts (clOf P o.op) = false → ∀ b, b < (σ p).nx → hget (σ (p + 1)).h b = hget (σ p).h b
  same : isMake (clOf P o.op) = false → acts (clOf P o.op) = false → σ (p + 1) = σ p

theorem rel_looks {ι : Inj} {a : Act} {w : World} {p : Nat} (r : Rel ι U N t (nsAt ops p) (rsAt ops V p) (σ p) a w) (x : Operand) : VR ι ((opdF U (nsAt ops p) x).run ⟨t, rsAt ops V p⟩) (a.eval x) := r.opd x

theorem opR_pure {op : Operand → OF} {wch : Bool} {o : Op} {env : Env} {st : St} {v : AV} {st' : St} (hO : OpR P op wch call o env st v st') (h : clOf P o = .pure) :
    st' = st ∧ callOf o = none ∧ ∀ st2, (compOp P op o).run env st2 = .ok v st2 := by
  obtain ⟨st1, hd, hO⟩ := hO
  have hco : callOf o = none := by
    cases hc : callOf o with
    | none => rfl
    | some x => have := callOf_other (P := P) hc; rw [h] at this; cases this
  rw [hco] at hO
  dsimp only at hO
  obtain ⟨h1, rfl⟩ := hO
  obtain ⟨h2, h3⟩ := pu_compOp (P := P) (op := op) (env := env) o h _ _ _ h1
  subst h2
  refine ⟨?_, hco, h3⟩
  cases wch <;> rfl

theorem opR_reads {op : Operand → OF} {o : Op} {env : Env} {st : St} {v : AV} {st' : St} (hO : OpR P op false call o env st v st') (h : clOf P o = .reads) :
    st' = st ∧ callOf o = none ∧ ∃ ty a, o = .load ty a ∧ (loadK P ty).run ((op a).run env) st.h = some v := by
  obtain ⟨st1, hd, hO⟩ := hO
  have hco : callOf o = none := by
    cases hc : callOf o with
    | none => rfl
    | some x => have := callOf_other (P := P) hc; rw [h] at this; cases this
  rw [hco] at hO
  dsimp only at hO
  obtain ⟨h1, rfl⟩ := hO
  cases o <;> simp only [clOf] at h <;> try (cases h; done)
  case load ty a =>
    obtain ⟨h2, h3⟩ := load_st (P := P) h1
    exact ⟨h2, hco, ty, a, rfl, h3⟩
  case call c =>
    exfalso
    split at h
    · split at h
      · split at h <;> cases h
      · cases h
    all_goals cases h

theorem opR_makes {op : Operand → OF} {o : Op} {env : Env} {st : St} {v : AV} {st' : St} (hO : OpR P op false call o env st v st') (h : clOf P o = .makes) :
    callOf o = none ∧ ∃ ob, st' = ⟨st.nx + 1, (setF (bitsR st.nx)).run ob st.h, st.dirty, st.fr⟩ ∧
      ∀ st2, st2.nx = st.nx → (compOp P op o).run env st2 = .ok v ⟨st2.nx + 1, (setF (bitsR st2.nx)).run ob st2.h, st2.dirty, st2.fr⟩ := by
  obtain ⟨st1, hd, hO⟩ := hO
  have hco : callOf o = none := by
    cases hc : callOf o with
    | none => rfl
    | some x => have := callOf_other (P := P) hc; rw [h] at this; cases this
  rw [hco] at hO
  dsimp only at hO
  obtain ⟨h1, rfl⟩ := hO
  obtain ⟨ob, h2, h3⟩ := mk_compOp (P := P) (op := op) (env := env) o h _ _ _ h1
  exact ⟨hco, ob, h2, h3⟩

theorem watch_cl {i : Nat} {o : Oper} {c : Cl} (h : clOf P o.op = c) (hc : c ≠ .other) : watch P ops i o = false := by
  cases hw : watch P ops i o
  · rfl
  · exact absurd ((watch_other hw).symm.trans h) (fun e => hc e.symm)

theorem cl_cases (c : Cl) : c = .pure ∨ c = .reads ∨ c = .makes ∨ acts c = true := by
  cases c
  · exact .inl rfl
  · exact .inr (.inl rfl)
  · exact .inr (.inr (.inl rfl))
  · exact .inr (.inr (.inr rfl))
  · exact .inr (.inr (.inr rfl))

theorem Ctx.step (c : Ctx P call U N ops t ι0 w0 a0 σ V E ex ab) {p : Nat} (hp : p < ops.size) {o : Oper} (ho : ops[p]? = some o) {ι : Inj} {a : Act} {w : World} (r : Rel ι U N t (nsAt ops p) (rsAt ops V p) (σ p) a w) :
    StF P σ ex ops p o ∧ ∃ ι' a' w', Rel ι' U N t (nsAt ops (p + 1)) (rsAt ops V (p + 1)) (σ (p + 1)) a' w' ∧ Le ι ι' ∧ Cleanly ι ι' (σ p) (σ (p + 1)) := by
  obtain ⟨o', htr⟩ := c.tr p hp
  have : o' = o := by have := htr.hop; rw [ho] at this; cases this; rfl
  subst this
  have hmem : o' ∈ ops.toList := Array.mem_toList_iff.2 (Array.mem_of_getElem? ho)
  have hd : dstAt ops p = o'.dst := by simp [dstAt, ho]
  have e1 : nsAt ops (p + 1) = pushN o'.dst (nsAt ops p) := by simp only [nsAt, hd]
  have e2 : rsAt ops V (p + 1) = (pushV o'.dst).run (V p) (rsAt ops V p) := by simp only [rsAt, hd]
  rw [e1, e2]
  cases hx : ex p
  · obtain ⟨h1, h2, h3⟩ := htr.skip hx
    rw [h3, h1]
    refine ⟨⟨by rw [h3]; exact Nat.le_refl _, fun b _ => by rw [h3], by rw [h3], fun _ b _ => by rw [h3], fun _ b _ => by rw [h3], fun _ _ => h3⟩, ι, a.put o'.dst undef, w, r.put (c.dst o' hmem) (undef_ok ι), Le.refl ι, Cleanly.refl ι _⟩
  · obtain ⟨h1, h2, h3⟩ := htr.run hx
    obtain ⟨x, w', ι', hl⟩ := (opR_runs c.hcall (ok_at c.ok ho).2.1 h1 r.sim fun x _ => r.opd x).ex
    refine ⟨⟨hl.cl.nx, hl.cl.above, hl.fr, hl.quiet, fun ha b hb => ?_, fun hm ha => ?_⟩, ι', a.put o'.dst x, w', ?_, hl.le, hl.cl⟩
    · rcases cl_cases (clOf P o'.op) with h4 | h4 | h4 | h4
      · rw [(opR_pure h1 h4).1]
      · rw [watch_cl h4 (by simp)] at h1
        rw [(opR_reads h1 h4).1]
      · rw [watch_cl h4 (by simp)] at h1
        obtain ⟨_, ob, h5, _⟩ := opR_makes h1 h4
        rw [h5]
        show hget ((setF (bitsR (σ p).nx)).run ob (σ p).h) b = _
        rw [hget_set, if_neg (by omega)]
      · rw [ha] at h4; cases h4
    · rcases cl_cases (clOf P o'.op) with h4 | h4 | h4 | h4
      · exact (opR_pure h1 h4).1
      · rw [watch_cl h4 (by simp)] at h1
        exact (opR_reads h1 h4).1
      · rw [h4] at hm; cases hm
      · rw [ha] at h4; cases h4
    · exact (r.mono hl.le hl.sim hl.fr).put (c.dst o' hmem) hl.v

theorem Ctx.can (c : Ctx P call U N ops t ι0 w0 a0 σ V E ex ab) : ∀ p, p ≤ ops.size → ∃ ι a w, Rel ι U N t (nsAt ops p) (rsAt ops V p) (σ p) a w ∧ Le ι0 ι ∧ Cleanly ι0 ι (σ 0) (σ p)
  | 0, _ => ⟨ι0, a0, w0, c.rel0, Le.refl ι0, Cleanly.refl ι0 _⟩
  | p + 1, hp => by
    obtain ⟨ι, a, w, r, hl, hc⟩ := c.can p (by omega)
    obtain ⟨_, ι', a', w', r', hl', hc'⟩ := c.step (by omega) (o := ops[p]) (by simp [show p < ops.size by omega]) r
    exact ⟨ι', a', w', r', hl.trans hl', hc.trans hc'⟩

theorem Ctx.stf (c : Ctx P call U N ops t ι0 w0 a0 σ V E ex ab) {p : Nat} {o : Oper} (ho : ops[p]? = some o) : StF P σ ex ops p o := by
  have hp : p < ops.size := (Array.getElem?_eq_some_iff.1 ho).1
  obtain ⟨ι, a, w, r, _⟩ := c.can p (by omega)
  exact (c.step hp ho r).1

theorem Ctx.nx_mono (c : Ctx P call U N ops t ι0 w0 a0 σ V E ex ab) {p : Nat} : ∀ q, p ≤ q → q ≤ ops.size → (σ p).nx ≤ (σ q).nx
  | 0, h, _ => by have : p = 0 := by omega
                  subst this; exact Nat.le_refl _
  | q + 1, h, hq => by
    by_cases hpq : p = q + 1
    · subst hpq; exact Nat.le_refl _
    · exact Nat.le_trans (c.nx_mono q (by omega) (by omega)) (c.stf (p := q) (o := ops[q]) (by simp [show q < ops.size by omega])).nx

/-- what an operation changes it changes by acting, unless it makes it -/
theorem Ctx.chg (c : Ctx P call U N ops t ι0 w0 a0 σ V E ex ab) {p b : Nat} {o : Oper} (ho : ops[p]? = some o) (h : Chg σ p b) (hb : b < (σ p).nx) : acts (clOf P o.op) = true ∧ watch P ops p o = false ∧ hget (σ (p + 1)).h b ≠ hget (σ p).h b := by
  have s := c.stf ho
  rcases h with ⟨h, _⟩ | h
  · omega
  · refine ⟨?_, ?_, h⟩
    · cases ha : acts (clOf P o.op)
      · exact absurd (s.calm ha b hb) h
      · rfl
    · cases ha : watch P ops p o
      · rfl
      · exact absurd (s.watched ha b hb) h

theorem Ctx.chg_lt (c : Ctx P call U N ops t ι0 w0 a0 σ V E ex ab) {p b : Nat} {o : Oper} (ho : ops[p]? = some o) (h : Chg σ p b) : b < (σ (p + 1)).nx := by
  rcases h with ⟨_, h⟩ | h
  · exact h
  · rcases Nat.lt_or_ge b (σ (p + 1)).nx with h1 | h1
    · exact h1
    · exact absurd ((c.stf ho).above b h1) h

end
end Go.Ev

namespace Go.Ev
open Go.RowKit

structure Inv (P : Program) (call : CallF) (U N : Nat) (ops : Array Oper) (t : T AV) (ι0 : Inj) (w0 : World) (a0 : Act) (σ : Nat → St) (V : Nat → AV) (ab : Nat → Bool) (S : Nat → Prop) (ι : Inj) (a : Act) (w : World) : Prop where
  size : N ≤ a.tmps.size
  ds : DRs ι (σ 0).fr a.defers
  le : Le ι0 ι
  grew : Grew ι0 w0 ι w
  slot : ∀ x, match lastP (fun p => S p ∧ dstAt ops p = some x) ops.size with
    | some k => VR ι (V k) (a.tmps.getD x undef)
    | none => inU U x = true → VR ι (tget t x) (a.tmps.getD x undef)
  sim : Sim ι (tab (cur σ ops.size S) (σ ops.size).nx) (σ ops.size).nx w
  birth : ∀ b, ι b ≠ .unborn → ι0 b ≠ .unborn ∨ ∃ p, p < ops.size ∧ S p ∧ (σ p).nx ≤ b ∧ b < (σ (p + 1)).nx
  born : ∀ p, p < ops.size → S p → ∀ b, (σ p).nx ≤ b → b < (σ (p + 1)).nx → ι b ≠ .unborn
  closed : Closed ops S
  live : ∀ p, S p → ab p = false

section
variable {P : Program} {call : CallF} {U N : Nat} {ops : Array Oper} {t : T AV} {ι0 : Inj} {w0 : World} {a0 : Act} {σ : Nat → St} {V : Nat → AV} {E : Nat → TE} {ex ab : Nat → Bool}
variable {S : Nat → Prop} {ι : Inj} {a : Act} {w : World}

theorem at_op {p : Nat} (hp : p < ops.size) : ops[p]? = some ops[p] := by simp [hp]

theorem Ctx.born0 (c : Ctx P call U N ops t ι0 w0 a0 σ V E ex ab) {b : Nat} (h : ι0 b ≠ .unborn) : b < (σ 0).nx := c.rel0.sim.born b h

/-- what was born is born too in the run in the order of the text -/
theorem Inv.canon (c : Ctx P call U N ops t ι0 w0 a0 σ V E ex ab) (I : Inv P call U N ops t ι0 w0 a0 σ V ab S ι a w) {b q : Nat} (hb : ι b ≠ .unborn) (hq : q ≤ ops.size) (hbq : b < (σ q).nx) {ιc : Inj} (hc : Cleanly ι0 ιc (σ 0) (σ q)) : ιc b ≠ .unborn := by
  rcases I.birth b hb with h | ⟨p, hp, hS, h1, h2⟩
  · exact hc.le b h
  · exact hc.n b (Nat.le_trans (c.nx_mono p (Nat.zero_le _) (by omega)) h1) hbq

/-- an operation in whose range a number lies is that which made it -/
theorem Inv.maker (c : Ctx P call U N ops t ι0 w0 a0 σ V E ex ab) (I : Inv P call U N ops t ι0 w0 a0 σ V ab S ι a w) {b p : Nat} (hb : ι b ≠ .unborn) (hp : p < ops.size) (h1 : (σ p).nx ≤ b) (h2 : b < (σ (p + 1)).nx) : S p := by
  rcases I.birth b hb with h | ⟨p', hp', hS, h3, h4⟩
  · have := c.born0 h
    have := c.nx_mono (p := 0) p (by omega) (by omega)
    omega
  · rcases Nat.lt_trichotomy p p' with h5 | h5 | h5
    · have := c.nx_mono (p := p + 1) p' (by omega) (by omega); omega
    · rw [h5]; exact hS
    · have := c.nx_mono (p := p' + 1) p (by omega) (by omega); omega

theorem Inv.looks (c : Ctx P call U N ops t ι0 w0 a0 σ V E ex ab) (I : Inv P call U N ops t ι0 w0 a0 σ V ab S ι a w) {q : Nat} {o : Oper} (ho : ops[q]? = some o) (hr : Ready ops S q) (hn : ¬ S q) {x : Nat} (hx : x ∈ o.looksAt ops) :
    VR ι ((opdF U (nsAt ops q) (.tmp x)).run ⟨t, rsAt ops V q⟩) (a.tmps.getD x undef) := by
  have hq : q < ops.size := (Array.getElem?_eq_some_iff.1 ho).1
  have e : lastP (fun p => S p ∧ dstAt ops p = some x) ops.size = lastP (fun p => dstAt ops p = some x) q := by
    rw [← lastP_low ops.size (Nat.le_of_lt hq)]
    refine lastP_congr _ fun p hp => ?_
    refine and_congr_left fun hd => ?_
    by_cases hpq : p = q
    · subst hpq
      exact ⟨fun h => absurd h hn, fun h => by omega⟩
    · have hu := at_op hp
      rcases sep c.ok ho hu (fun e => hpq e.symm) with h | ⟨h, _⟩
      · exact decided c.ok I.closed hu ho hr hn h
      · have hd' : (ops[p]).dst = some x := by simpa [dstAt, hu] using hd
        exact absurd hx (h.d1 x hd')
  have hs := I.slot x
  rw [canon_tmp, ← e]
  cases hl : lastP (fun p => S p ∧ dstAt ops p = some x) ops.size with
  | some k => rw [hl] at hs; exact hs
  | none =>
    rw [hl] at hs
    simp only at hs ⊢
    cases hu : inU U x
    · simp [VR]
    · exact hs hu

theorem Inv.opnd (c : Ctx P call U N ops t ι0 w0 a0 σ V E ex ab) (I : Inv P call U N ops t ι0 w0 a0 σ V ab S ι a w) {q : Nat} {o : Oper} (ho : ops[q]? = some o) (hr : Ready ops S q) (hn : ¬ S q) :
    ∀ x ∈ o.op.operands.toList, VR ι ((opdF U (nsAt ops q) x).run ⟨t, rsAt ops V q⟩) (a.eval x) := by
  intro x hx
  cases x with
  | tmp x =>
    have : x ∈ o.looksAt ops := List.mem_append_left _ (List.mem_filterMap.2 ⟨.tmp x, hx, rfl⟩)
    exact I.looks c ho hr hn this
  | const v => exact VR_ofV ι v
  | global g => simp [opdF, VR]
  | func f => simp only [opdF, VR, Act.eval]; exact ⟨#[], rfl, by simp [VRs]⟩

theorem Inv.want {x : Bool} (c : Ctx P call U N ops t ι0 w0 a0 σ V E ex ab) (I : Inv P call U N ops t ι0 w0 a0 σ V ab S ι a w) {q : Nat} {o : Oper} (ho : ops[q]? = some o) (hr : Ready ops S q) (hn : ¬ S q)
    (htr : match wantedF (opdF U (nsAt ops q)) ops o with | none => x = true | some wf => wf.run ⟨t, rsAt ops V q⟩ = some x) :
    Region.wanted o (yielded ops a.tmps) = x := by
  unfold wantedF at htr
  unfold Region.wanted
  cases hg : o.guard with
  | none => rw [hg] at htr; exact htr.symm
  | some jw =>
    obtain ⟨j, want⟩ := jw
    rw [hg] at htr
    simp only at htr ⊢
    cases hd : (ops[j]?).bind (·.dst) with
    | none => rw [hd] at htr; simp at htr
    | some d =>
      rw [hd] at htr
      simp only at htr
      have hv := I.looks c ho hr hn (x := d) (by simp [Oper.looksAt, hg, hd])
      generalize (opdF U (nsAt ops q) (.tmp d)).run ⟨t, rsAt ops V q⟩ = v at htr hv
      have hy : yielded ops a.tmps j = match a.tmps[d]? with | some (.bool b) => some b | _ => none := by
        unfold yielded; rw [hd]; rfl
      rw [hy]
      have hget : a.tmps.getD d undef = (a.tmps[d]?).getD undef := by simp [Array.getD_eq_getD_getElem?]
      rw [hget] at hv
      split at htr
      · rename_i b
        simp only [Option.some.injEq] at htr
        simp only [VR] at hv
        cases hq : a.tmps[d]? with
        | none => rw [hq] at hv; simp [undef] at hv
        | some y =>
          rw [hq] at hv
          simp only [Option.getD_some] at hv
          subst hv
          simp only
          rw [← htr]
          cases b <;> cases want <;> rfl
      · cases htr
      · rename_i h1 h2
        simp only [Option.some.injEq] at htr
        rw [← htr]
        have hnb := notBool hv (fun b e => h1 b e) (fun e => h2 e)
        cases hq : a.tmps[d]? with
        | none => rfl
        | some y =>
          rw [hq] at hnb
          simp only [Option.getD_some] at hnb
          cases y <;> first | rfl | (exact absurd rfl (hnb _))

theorem DRs.hide {ι ι0 : Inj} {n : Nat} (hn : ∀ b, ι0 b ≠ .unborn → b < n) : ∀ (ps : List (FuncId × List AV)) (l0 l : List Deferred), DRs ι0 ps l0 → DRs ι ps l → DRs (Ev.hide ι n) ps l
  | [], _, _, _, k => k
  | p :: ps, l0, l, k0, k => by
    simp only [DRs] at k0 k ⊢
    obtain ⟨cap, dargs, ds, rfl, h1, h2⟩ := k
    obtain ⟨cap0, dargs0, ds0, rfl, h10, h20⟩ := k0
    exact ⟨cap, dargs, ds, rfl, VRs.hide hn _ _ _ h10 h1, DRs.hide hn ps _ _ h20 h2⟩

def Add (S : Nat → Prop) (q : Nat) (p : Nat) : Prop := S p ∨ p = q

/-- what holds behind one more operation -/
theorem Inv.next (c : Ctx P call U N ops t ι0 w0 a0 σ V E ex ab) (I : Inv P call U N ops t ι0 w0 a0 σ V ab S ι a w) {q : Nat} {o : Oper} (ho : ops[q]? = some o) (hr : Ready ops S q) (hn : ¬ S q) (hab : ab q = false)
    {ι' : Inj} {x : Value} {w' : World} (hl : Le ι ι') (hg : Grew ι w ι' w') (hv : VR ι' (V q) x) (hs : Sim ι' (tab (cur σ ops.size (Add S q)) (σ ops.size).nx) (σ ops.size).nx w')
    (hb1 : ∀ b, ι' b ≠ .unborn → ι b ≠ .unborn ∨ ((σ q).nx ≤ b ∧ b < (σ (q + 1)).nx)) (hb2 : ∀ b, (σ q).nx ≤ b → b < (σ (q + 1)).nx → ι' b ≠ .unborn) :
    Inv P call U N ops t ι0 w0 a0 σ V ab (Add S q) ι' (a.put o.dst x) w' := by
  have hq : q < ops.size := (Array.getElem?_eq_some_iff.1 ho).1
  have hmem : o ∈ ops.toList := Array.mem_toList_iff.2 (Array.mem_of_getElem? ho)
  have hdq : dstAt ops q = o.dst := by simp [dstAt, ho]
  refine ⟨by rw [put_size]; exact I.size, by rw [put_defers]; exact DRs.mono hl _ _ I.ds, I.le.trans hl, I.grew.trans hg, fun y => ?_, hs, fun b hb => ?_, fun p hp hS b h1 h2 => ?_, fun i u hS hu e he hbe => ?_, fun p hS => hS.elim (I.live p) (fun e => e ▸ hab)⟩
  · by_cases hy : o.dst = some y
    · have e : lastP (fun p => Add S q p ∧ dstAt ops p = some y) ops.size = some q := by
        refine lastP_eq hq ⟨.inr rfl, by rw [hdq, hy]⟩ fun p h1 h2 ⟨h3, h4⟩ => ?_
        have hS : S p := h3.resolve_right (by omega)
        have hu := at_op h2
        rcases sep c.ok ho hu (by omega) with h | ⟨h, _⟩
        · have := (decided c.ok I.closed hu ho hr hn h).1 hS
          omega
        · have hd' : (ops[p]).dst = some y := by simpa [dstAt, hu] using h4
          exact h.d3 y hd' hy
      rw [e]
      simp only
      have hlt : y < a.tmps.size := Nat.lt_of_lt_of_le (c.dst o hmem y hy) I.size
      rw [hy, put_get a y x y hlt, if_pos rfl]
      exact hv
    · have e : lastP (fun p => Add S q p ∧ dstAt ops p = some y) ops.size = lastP (fun p => S p ∧ dstAt ops p = some y) ops.size := by
        refine lastP_congr _ fun p hp => and_congr_left fun hd => ?_
        refine ⟨fun h => h.resolve_right fun e => hy ?_, .inl⟩
        subst e
        rw [← hdq]; exact hd
      have hg : (a.put o.dst x).tmps.getD y undef = a.tmps.getD y undef := by
        cases hd : o.dst with
        | none => rfl
        | some d =>
          rw [put_get a d x y (Nat.lt_of_lt_of_le (c.dst o hmem d hd) I.size), if_neg (fun e => hy (by rw [hd, e]))]
      rw [e, hg]
      have := I.slot y
      cases hl' : lastP (fun p => S p ∧ dstAt ops p = some y) ops.size with
      | some k => rw [hl'] at this; exact VR.mono hl _ _ this
      | none => rw [hl'] at this; exact fun hu => VR.mono hl _ _ (this hu)
  · rcases hb1 b hb with h | h
    · rcases I.birth b h with h | ⟨p, h1, h2, h3⟩
      · exact .inl h
      · exact .inr ⟨p, h1, .inl h2, h3⟩
    · exact .inr ⟨q, hq, .inr rfl, h⟩
  · rcases hS with hS | hS
    · exact hl.born (I.born p hp hS b h1 h2)
    · subst hS; exact hb2 b h1 h2
  · rcases hS with hS | hS
    · exact .inl (I.closed i u hS hu e he hbe)
    · subst hS
      obtain ⟨o', ho', h⟩ := hr
      rw [ho'] at hu
      cases hu
      exact .inl (h e he hbe)

theorem cur_add_same {q b : Nat} (h : ¬ Chg σ q b) : cur σ ops.size (Add S q) b = cur σ ops.size S b := by
  unfold cur
  congr 1
  refine lastP_congr _ fun p hp => ?_
  refine and_congr_left fun hc => ?_
  exact ⟨fun h' => h'.resolve_right fun e => h (by rw [← e]; exact hc), .inl⟩

/-- an operation that changes nothing -/
theorem Inv.still (c : Ctx P call U N ops t ι0 w0 a0 σ V E ex ab) (I : Inv P call U N ops t ι0 w0 a0 σ V ab S ι a w) {q : Nat} {o : Oper} (ho : ops[q]? = some o) (hr : Ready ops S q) (hn : ¬ S q) (hab : ab q = false) (hsame : σ (q + 1) = σ q)
    {ι' : Inj} {x : Value} {w' : World} (hl : Le ι ι') (hg : Grew ι w ι' w') (hv : VR ι' (V q) x) (hs : Sim ι' (tab (cur σ ops.size S) (σ ops.size).nx) (σ ops.size).nx w') (hu : ∀ b, b < (σ ops.size).nx → ι b = .unborn → ι' b = .unborn) :
    Inv P call U N ops t ι0 w0 a0 σ V ab (Add S q) ι' (a.put o.dst x) w' := by
  refine I.next c ho hr hn hab hl hg hv ?_ (fun b hb => .inl fun h => hb (hu b (hs.born b hb) h)) (fun b h1 h2 => by rw [hsame] at h2; omega)
  refine hs.same fun b _ => ?_
  rw [tab_get, tab_get]
  split
  · refine cur_add_same fun h => ?_
    rcases h with h | h
    · rw [hsame] at h; omega
    · rw [hsame] at h; exact h rfl
  · rfl

/-! ### an operation that makes or acts: what it meets -/
/-- nothing has run that comes behind it and changed what it may see -/
theorem Inv.low (c : Ctx P call U N ops t ι0 w0 a0 σ V E ex ab) (I : Inv P call U N ops t ι0 w0 a0 σ V ab S ι a w) {q : Nat} {o : Oper} (ho : ops[q]? = some o) (hr : Ready ops S q) (hn : ¬ S q)
    (hk : isMake (clOf P o.op) = true ∨ acts (clOf P o.op) = true) {b p : Nat} (hp : p < ops.size) (hb : b < (σ (q + 1)).nx) (hS : S p) (hc : Chg σ p b) : p < q := by
  have hu := at_op hp
  rcases Nat.lt_trichotomy p q with h | h | h
  · exact h
  · subst h; exact absurd hS hn
  · exfalso
    have hmono := c.nx_mono (p := q + 1) p (by omega) (by omega)
    obtain ⟨h1, h2, h3⟩ := c.chg hu hc (by omega)
    rcases sep c.ok hu ho (by omega) with h4 | ⟨h4, h5⟩
    · rw [ordered_symm] at h4
      have := (decided c.ok I.closed hu ho hr hn h4).1 hS
      omega
    · rcases hk with hk | hk
      · exact h5 h ⟨hk, h1⟩
      · have hw1 := h4.w1
        have hw2 := h4.w2
        -- both are of the kind 'other': then the later one is watched
        have ho1 : isOther (clOf P (ops[p]).op) = true := by
          cases hcl : clOf P (ops[p]).op <;> rw [hcl] at h1 hw2 <;> simp_all [acts, isWrite, isOther]
        have ho2 : isOther (clOf P o.op) = true := by
          cases hcl : clOf P o.op <;> rw [hcl] at hk hw1 <;> simp_all [acts, isWrite, isOther]
        have hwt : watch P ops p ops[p] = true := by
          unfold watch
          simp only [Bool.and_eq_true, Bool.not_eq_true', ho1, true_and]
          rw [List.all_eq_false]
          refine ⟨q, by simp; omega, ?_⟩
          have hne : Nat.beq p q = false := by
            cases hbq : Nat.beq p q
            · rfl
            · rw [beqN] at hbq; omega
          have hno : ordered (befores ops.toList) p q = false := by
            cases hoo : ordered (befores ops.toList) p q
            · rfl
            · exfalso
              have hoo' : ordered (bs ops) q p = true := by rw [ordered_symm]; exact hoo
              have := (decided c.ok I.closed hu ho hr hn hoo').1 hS
              omega
          simp [ho, hne, ho2, hno]
        rw [hwt] at h2; cases h2

/-- what has come ahead of an acting operation, and changed what it may see, has run -/
theorem Inv.ahead (c : Ctx P call U N ops t ι0 w0 a0 σ V E ex ab) (I : Inv P call U N ops t ι0 w0 a0 σ V ab S ι a w) {q : Nat} {o : Oper} (ho : ops[q]? = some o) (hr : Ready ops S q) (hn : ¬ S q)
    (hk : acts (clOf P o.op) = true) {b p : Nat} (hb : ι b ≠ .unborn) (hpq : p < q) (hc : Chg σ p b) : S p := by
  have hq : q < ops.size := (Array.getElem?_eq_some_iff.1 ho).1
  have hp : p < ops.size := by omega
  have hu := at_op hp
  rcases Nat.lt_or_ge b (σ p).nx with h | h
  · obtain ⟨h1, h2, h3⟩ := c.chg hu hc h
    by_cases hoo : ordered (bs ops) q p = true
    · exact (decided c.ok I.closed hu ho hr hn hoo).2 hpq
    · exfalso
      obtain ⟨h4, _⟩ := (sep c.ok ho hu (by omega)).resolve_left hoo
      have hw1 := h4.w1
      have hw2 := h4.w2
      have ho1 : isOther (clOf P (ops[p]).op) = true := by
        cases hcl : clOf P (ops[p]).op <;> rw [hcl] at h1 hw1 <;> simp_all [acts, isWrite, isOther]
      have ho2 : isOther (clOf P o.op) = true := by
        cases hcl : clOf P o.op <;> rw [hcl] at hk hw2 <;> simp_all [acts, isWrite, isOther]
      have hwt : watch P ops p ops[p] = true := by
        unfold watch
        simp only [Bool.and_eq_true, Bool.not_eq_true', ho1, true_and]
        rw [List.all_eq_false]
        refine ⟨q, by simp; omega, ?_⟩
        have hne : Nat.beq p q = false := by
          cases hbq : Nat.beq p q
          · rfl
          · rw [beqN] at hbq; omega
        have hno : ordered (befores ops.toList) p q = false := by
          cases hoo2 : ordered (befores ops.toList) p q
          · rfl
          · exact absurd (by rw [ordered_symm]; exact hoo2) hoo
        simp [ho, hne, ho2, hno]
      rw [hwt] at h2; cases h2
  · exact I.maker c hb hp h (c.chg_lt hu hc)

end
end Go.Ev

namespace Go.Ev
open Go.RowKit

section
variable {P : Program} {call : CallF} {U N : Nat} {ops : Array Oper} {t : T AV} {ι0 : Inj} {w0 : World} {a0 : Act} {σ : Nat → St} {V : Nat → AV} {E : Nat → TE} {ex ab : Nat → Bool}
variable {S : Nat → Prop} {ι : Inj} {a : Act} {w : World}

/-- the numbers of what a version of an object holds -/
theorem Inv.bound (c : Ctx P call U N ops t ι0 w0 a0 σ V E ex ab) (I : Inv P call U N ops t ι0 w0 a0 σ V ab S ι a w) {b k : Nat} (hk : k ≤ ops.size) (hbk : b < (σ k).nx) {B T : Nat} (hb : ι b = .at B T)
    {o : AO} {x : Obj} (ho : hget (σ k).h b = some o) (hx : OR ι T o x) : obnd (σ k).nx o := by
  obtain ⟨ιc, ac, wc, r, _, hc⟩ := c.can k hk
  have hbc := I.canon c (by rw [hb]; simp) hk hbk hc
  cases hι : ιc b with
  | unborn => exact absurd hι hbc
  | dead =>
    have := r.sim.gone b hι o ho
    subst this
    exact hx.elim
  | «at» B' T' =>
    obtain ⟨o', x', h1, h2, h3⟩ := r.sim.obj b B' T' hι
    rw [ho] at h1
    cases h1
    exact ⟨ιc, T', x', r.sim.born, h3⟩

/-- what is seen by an operation that makes or acts -/
theorem Inv.seen (c : Ctx P call U N ops t ι0 w0 a0 σ V E ex ab) (I : Inv P call U N ops t ι0 w0 a0 σ V ab S ι a w) {q : Nat} {o : Oper} (ho : ops[q]? = some o) (hr : Ready ops S q) (hn : ¬ S q)
    (hk : isMake (clOf P o.op) = true ∨ acts (clOf P o.op) = true) {h2 : T AO} (hh : ∀ b, b < (σ q).nx → ι b ≠ .unborn → hget h2 b = cur σ ops.size S b) :
    Sim (hide ι (σ q).nx) h2 (σ q).nx w := by
  have hq : q < ops.size := (Array.getElem?_eq_some_iff.1 ho).1
  have hM := c.nx_mono (p := q) ops.size (by omega) (by omega)
  have hq1 := (c.stf ho).nx
  refine ⟨fun b B T hb => ?_, fun b hb o' ho' => ?_, fun b b' B T T' h1 h2 => ?_, fun b hb => ?_⟩
  · obtain ⟨hb1, hb2⟩ := hide_at hb
    obtain ⟨ob, x, h1, h3, h4⟩ := I.sim.obj b B T hb1
    rw [tab_get, if_pos (by omega)] at h1
    refine ⟨ob, x, by rw [hh b hb2 (by rw [hb1]; simp)]; exact h1, h3, ?_⟩
    have : obnd (σ q).nx ob := by
      unfold cur at h1
      cases hl : lastP (fun p => S p ∧ Chg σ p b) ops.size with
      | none =>
        rw [hl] at h1
        rcases Nat.lt_or_ge b (σ 0).nx with h0 | h0
        · exact (I.bound c (Nat.zero_le _) h0 hb1 h1 h4).mono (c.nx_mono q (Nat.zero_le _) (by omega))
        · exfalso
          rcases I.birth b (by rw [hb1]; simp) with h5 | ⟨p, h5, h6, h7⟩
          · have := c.born0 h5; omega
          · exact lastP_none _ hl p h5 ⟨h6, .inl h7⟩
      | some k =>
        rw [hl] at h1
        obtain ⟨h5, ⟨h6, h7⟩, _⟩ := lastP_some _ hl
        have h8 := I.low c ho hr hn hk h5 (by omega) h6 h7
        exact (I.bound c (k := k + 1) (by omega) (c.chg_lt (at_op h5) h7) hb1 h1 h4).mono (c.nx_mono q (by omega) (by omega))
    exact this.hide h4
  · unfold hide at hb
    split at hb
    · rename_i hlt
      rw [hh b hlt (by rw [hb]; simp)] at ho'
      exact I.sim.gone b hb o' (by rw [tab_get, if_pos (by omega)]; exact ho')
    · cases hb
  · exact I.sim.inj b b' B T T' (hide_at h1).1 (hide_at h2).1
  · unfold hide at hb
    split at hb
    · assumption
    · exact absurd rfl hb

theorem Inv.hidden (c : Ctx P call U N ops t ι0 w0 a0 σ V E ex ab) (I : Inv P call U N ops t ι0 w0 a0 σ V ab S ι a w) {q : Nat} {o : Oper} (ho : ops[q]? = some o) (hr : Ready ops S q) (hn : ¬ S q) :
    ∀ x ∈ o.op.operands.toList, VR (hide ι (σ q).nx) ((opdF U (nsAt ops q) x).run ⟨t, rsAt ops V q⟩) (a.eval x) := by
  intro x hx
  have h1 := I.opnd c ho hr hn x hx
  have hq : q < ops.size := (Array.getElem?_eq_some_iff.1 ho).1
  obtain ⟨ιc, ac, wc, r, _, _⟩ := c.can q (by omega)
  exact VR.hide r.sim.born _ _ _ (r.opd x) h1

/-- behind an operation that makes or acts -/
theorem Inv.merge (c : Ctx P call U N ops t ι0 w0 a0 σ V E ex ab) (I : Inv P call U N ops t ι0 w0 a0 σ V ab S ι a w) {q : Nat} {o : Oper} (ho : ops[q]? = some o) (hr : Ready ops S q) (hn : ¬ S q) (hab : ab q = false)
    {st2 st2' : St} (hn1 : st2.nx = (σ q).nx) (hn2 : st2'.nx = (σ (q + 1)).nx) {wch : Bool} {ι' : Inj} {x : Value} {w' : World} (L : Left (hide ι (σ q).nx) w wch st2 (V q) st2' ι' x w')
    (hh : ∀ b, b < (σ (q + 1)).nx → ι' b ≠ .unborn → (b < (σ q).nx → ι b ≠ .unborn) → hget st2'.h b = cur σ ops.size (Add S q) b) :
    ∃ ι2, Inv P call U N ops t ι0 w0 a0 σ V ab (Add S q) ι2 (a.put o.dst x) w' := by
  have hq : q < ops.size := (Array.getElem?_eq_some_iff.1 ho).1
  have hq1 := (c.stf ho).nx
  have hM := c.nx_mono (p := q + 1) ops.size (by omega) (by omega)
  have hu : ∀ b, b < (σ q).nx → ι b = .unborn → ι' b = .unborn := fun b hb hub => by
    refine L.cl.u b (by rw [hn1]; exact hb) ?_
    unfold hide; rw [if_pos hb]; exact hub
  have hnew : ∀ b, (σ q).nx ≤ b → b < (σ (q + 1)).nx → ι b = .unborn := fun b h1 h2 => by
    cases hb : ι b with
    | unborn => rfl
    | dead => exact absurd (I.maker c (by rw [hb]; simp) hq h1 h2) hn
    | «at» B T => exact absurd (I.maker c (by rw [hb]; simp) hq h1 h2) hn
  have hb' : ∀ b, ι' b ≠ .unborn → b < (σ (q + 1)).nx := fun b hb => by rw [← hn2]; exact L.sim.born b hb
  refine ⟨fun b => if b < (σ (q + 1)).nx then ι' b else ι b, I.next c ho hr hn hab ?_ ?_ ?_ ?_ ?_ ?_⟩
  · intro b hb
    by_cases h1 : b < (σ (q + 1)).nx
    · simp only [if_pos h1]
      rcases Nat.lt_or_ge b (σ q).nx with h2 | h2
      · have e : hide ι (σ q).nx b = ι b := by unfold hide; rw [if_pos h2]
        have := L.le b (by rw [e]; exact hb)
        rwa [e] at this
      · exact absurd (hnew b h2 h1) hb
    · simp only [if_neg h1]
      exact .inl trivial
  · refine ⟨L.grew.os, L.grew.tape, L.grew.output, L.grew.size, fun k hk hno => L.grew.keep k hk fun b T hb => hno b T (hide_at hb).1, fun b B T hb => ?_⟩
    by_cases h1 : b < (σ (q + 1)).nx
    · simp only [if_pos h1] at hb
      rcases L.grew.new b B T hb with ⟨d, T', h2⟩ | h2
      · exact .inl ⟨d, T', (hide_at h2).1⟩
      · exact .inr h2
    · simp only [if_neg h1] at hb
      exact .inl ⟨b, T, hb⟩
  · refine VR.mono (fun b hb => ?_) _ _ L.v
    simp only [if_pos (hb' b hb)]
    exact .inl trivial
  · refine ⟨fun b B T hb => ?_, fun b hb o' ho' => ?_, fun b b' B T T' h1 h2 => ?_, fun b hb => ?_⟩
    · by_cases h1 : b < (σ (q + 1)).nx
      · simp only [if_pos h1] at hb
        obtain ⟨ob, y, h2, h3, h4⟩ := L.sim.obj b B T hb
        refine ⟨ob, y, ?_, h3, OR.mono (fun b hb => ?_) _ _ h4⟩
        · rw [tab_get, if_pos (by omega), ← hh b h1 (by rw [hb]; simp) fun h5 h6 => by rw [hu b h5 h6] at hb; cases hb]
          exact h2
        · simp only [if_pos (hb' b hb)]
          exact .inl trivial
      · simp only [if_neg h1] at hb
        obtain ⟨ob, y, h2, h3, h4⟩ := I.sim.obj b B T hb
        have hbM : b < (σ ops.size).nx := I.sim.born b (by rw [hb]; simp)
        have hnc : ¬ Chg σ q b := fun h => h1 (c.chg_lt ho h)
        refine ⟨ob, y, ?_, ?_, OR.mono (fun d hd => ?_) _ _ h4⟩
        · rw [tab_get, if_pos hbM, cur_add_same hnc]
          rw [tab_get, if_pos hbM] at h2
          exact h2
        · rw [L.grew.keep B (I.sim.lt hb) fun d T' hd => ?_]
          · exact h3
          · obtain ⟨h5, h6⟩ := hide_at hd
            have := I.sim.inj d b B T' T h5 hb
            omega
        · by_cases h5 : d < (σ (q + 1)).nx
          · simp only [if_pos h5]
            rcases Nat.lt_or_ge d (σ q).nx with h2 | h2
            · have e : hide ι (σ q).nx d = ι d := by unfold hide; rw [if_pos h2]
              have := L.le d (by rw [e]; exact hd)
              rwa [e] at this
            · exact absurd (hnew d h2 h5) hd
          · simp only [if_neg h5]
            exact .inl trivial
    · by_cases h1 : b < (σ (q + 1)).nx
      · simp only [if_pos h1] at hb
        rw [tab_get, if_pos (by omega), ← hh b h1 (by rw [hb]; simp) fun h5 h6 => by rw [hu b h5 h6] at hb; cases hb] at ho'
        exact L.sim.gone b hb o' ho'
      · simp only [if_neg h1] at hb
        have hbM : b < (σ ops.size).nx := I.sim.born b (by rw [hb]; simp)
        have hnc : ¬ Chg σ q b := fun h => h1 (c.chg_lt ho h)
        rw [tab_get, if_pos hbM, cur_add_same hnc] at ho'
        exact I.sim.gone b hb o' (by rw [tab_get, if_pos hbM]; exact ho')
    · have mixed : ∀ b b' B T T', b < (σ (q + 1)).nx → ¬ b' < (σ (q + 1)).nx → ι' b = .at B T → ι b' = .at B T' → False := by
        intro b b' B T T' h3 h4 h5 h6
        have h7 := I.sim.lt h6
        rcases L.grew.new b B T h5 with ⟨d, T2, h8⟩ | h8
        · obtain ⟨h9, h10⟩ := hide_at h8
          have := I.sim.inj d b' B T2 T' h9 h6
          omega
        · omega
      by_cases h3 : b < (σ (q + 1)).nx <;> by_cases h4 : b' < (σ (q + 1)).nx
      · simp only [if_pos h3] at h1
        simp only [if_pos h4] at h2
        exact L.sim.inj b b' B T T' h1 h2
      · simp only [if_pos h3] at h1
        simp only [if_neg h4] at h2
        exact (mixed b b' B T T' h3 h4 h1 h2).elim
      · simp only [if_neg h3] at h1
        simp only [if_pos h4] at h2
        exact (mixed b' b B T' T h4 h3 h2 h1).elim
      · simp only [if_neg h3] at h1
        simp only [if_neg h4] at h2
        exact I.sim.inj b b' B T T' h1 h2
    · by_cases h1 : b < (σ (q + 1)).nx
      · omega
      · simp only [if_neg h1] at hb
        exact I.sim.born b hb
  · intro b hb
    by_cases h1 : b < (σ (q + 1)).nx
    · simp only [if_pos h1] at hb
      rcases Nat.lt_or_ge b (σ q).nx with h2 | h2
      · exact .inl fun h3 => hb (hu b h2 h3)
      · exact .inr ⟨h2, h1⟩
    · simp only [if_neg h1] at hb
      exact .inl hb
  · intro b h1 h2
    simp only [if_pos h2]
    exact L.cl.n b (by rw [hn1]; exact h1) (by rw [hn2]; exact h2)

/-- an operation that acts -/
theorem Inv.acting (c : Ctx P call U N ops t ι0 w0 a0 σ V E ex ab) (I : Inv P call U N ops t ι0 w0 a0 σ V ab S ι a w) {q : Nat} {o : Oper} (ho : ops[q]? = some o) (hr : Ready ops S q) (hn : ¬ S q) (hab : ab q = false)
    (hk : acts (clOf P o.op) = true) {wch : Bool} (hO : OpR P (opdF U (nsAt ops q)) wch call o.op ⟨t, rsAt ops V q⟩ (σ q) (V q) (σ (q + 1))) :
    Runs P o a w fun x w' => ∃ ι2, Inv P call U N ops t ι0 w0 a0 σ V ab (Add S q) ι2 (a.put o.dst x) w' := by
  have hq : q < ops.size := (Array.getElem?_eq_some_iff.1 ho).1
  have hq1 := (c.stf ho).nx
  have hcur : ∀ b, b < (σ q).nx → ι b ≠ .unborn → hget (σ q).h b = cur σ ops.size S b := fun b hb hub => by
    unfold cur
    rw [← cur_canon b q, ← lastP_low ops.size (Nat.le_of_lt hq)]
    congr 1
    refine lastP_congr _ fun p hp => and_congr_left fun hc => ?_
    exact ⟨fun h => I.ahead c ho hr hn hk hub h hc, fun h => I.low c ho hr hn (.inr hk) hp (by omega) h hc⟩
  have hsim := I.seen c ho hr hn (.inr hk) hcur
  have hruns := opR_runs c.hcall (ok_at c.ok ho).2.1 hO hsim (I.hidden c ho hr hn)
  have key : ∀ x w', (∃ ι', Left (hide ι (σ q).nx) w wch (σ q) (V q) (σ (q + 1)) ι' x w') → ∃ ι2, Inv P call U N ops t ι0 w0 a0 σ V ab (Add S q) ι2 (a.put o.dst x) w' := by
    intro x w' ⟨ι', L⟩
    refine I.merge c ho hr hn hab rfl rfl L fun b hb hb' hold => ?_
    unfold cur
    rw [← cur_canon b (q + 1), ← lastP_low ops.size (show q + 1 ≤ ops.size from hq)]
    congr 1
    refine lastP_congr _ fun p hp => and_congr_left fun hc => ⟨fun h => ?_, fun h => ?_⟩
    · by_cases hpq : p = q
      · exact .inr hpq
      · have hlt : p < q := by omega
        refine .inl (I.ahead c ho hr hn hk (hold ?_) hlt hc)
        have := c.chg_lt (at_op hp) hc
        have := c.nx_mono (p := p + 1) q (by omega) (by omega)
        omega
    · rcases h with h | h
      · have := I.low c ho hr hn (.inr hk) hp hb h hc
        omega
      · omega
  rcases hruns with ⟨x, w', h1, h2⟩ | ⟨f, vs, h1, h2⟩
  · exact .inl ⟨x, w', h1, key x w' h2⟩
  · exact .inr ⟨f, vs, h1, Calls.mono h2 fun e w' ⟨x, h3, h4⟩ => ⟨x, h3, key x w' h4⟩⟩

theorem Runs.mono {P : Program} {o : Oper} {a : Act} {w : World} {R R' : Value → World → Prop} (h : Runs P o a w R) (hR : ∀ x w', R x w' → R' x w') : Runs P o a w R' := by
  rcases h with ⟨x, w', h1, h2⟩ | ⟨f, vs, h1, h2⟩
  · exact .inl ⟨x, w', h1, hR x w' h2⟩
  · exact .inr ⟨f, vs, h1, Calls.mono h2 fun e w' ⟨x, h3, h4⟩ => ⟨x, h3, hR x w' h4⟩⟩

/-- an operation that makes a block -/
theorem Inv.making (c : Ctx P call U N ops t ι0 w0 a0 σ V E ex ab) (I : Inv P call U N ops t ι0 w0 a0 σ V ab S ι a w) {q : Nat} {o : Oper} (ho : ops[q]? = some o) (hr : Ready ops S q) (hn : ¬ S q) (hab : ab q = false)
    (hk : clOf P o.op = .makes) (hO : OpR P (opdF U (nsAt ops q)) false call o.op ⟨t, rsAt ops V q⟩ (σ q) (V q) (σ (q + 1))) :
    Runs P o a w fun x w' => ∃ ι2, Inv P call U N ops t ι0 w0 a0 σ V ab (Add S q) ι2 (a.put o.dst x) w' := by
  have hq : q < ops.size := (Array.getElem?_eq_some_iff.1 ho).1
  have hm : isMake (clOf P o.op) = true := by rw [hk]; rfl
  obtain ⟨hco, ob, h1, h2⟩ := opR_makes hO hk
  generalize hst : (⟨(σ q).nx, tab (cur σ ops.size S) (σ q).nx, 0, []⟩ : St) = st2
  have hnx : st2.nx = (σ q).nx := by rw [← hst]
  have hnx1 : (σ (q + 1)).nx = (σ q).nx + 1 := by rw [h1]
  have h3 := h2 st2 hnx
  have hO2 : OpR P (opdF U (nsAt ops q)) false call o.op ⟨t, rsAt ops V q⟩ st2 (V q) ⟨st2.nx + 1, (setF (bitsR st2.nx)).run ob st2.h, st2.dirty, st2.fr⟩ := by
    refine ⟨⟨st2.nx + 1, (setF (bitsR st2.nx)).run ob st2.h, st2.dirty, st2.fr⟩, fun h => (by cases h), ?_⟩
    rw [hco]
    exact ⟨h3, rfl⟩
  have hsim : Sim (hide ι (σ q).nx) st2.h st2.nx w := by
    rw [hnx]
    refine I.seen c ho hr hn (.inl hm) fun b hb _ => ?_
    rw [← hst]
    show hget (tab _ _) b = _
    rw [tab_get, if_pos hb]
  refine (opR_runs c.hcall (ok_at c.ok ho).2.1 hO2 hsim (I.hidden c ho hr hn)).mono ?_
  intro x w' ⟨ι', L⟩
  refine I.merge c ho hr hn hab hnx (by rw [hnx1]; show st2.nx + 1 = _; rw [hnx]) L fun b hb hb' hold => ?_
  show hget ((setF (bitsR st2.nx)).run ob st2.h) b = _
  rw [hget_set, hnx]
  by_cases hbq : b = (σ q).nx
  · rw [if_pos hbq]
    unfold cur
    have hchg : Chg σ q b := .inl ⟨by omega, hb⟩
    have e : lastP (fun p => Add S q p ∧ Chg σ p b) ops.size = some q := by
      refine lastP_eq hq ⟨.inr rfl, hchg⟩ fun p h4 h5 ⟨h6, h7⟩ => ?_
      have := I.low c ho hr hn (.inl hm) h5 hb (h6.resolve_right (by omega)) h7
      omega
    rw [e]
    show _ = hget (σ (q + 1)).h b
    rw [h1]
    show _ = hget ((setF (bitsR (σ q).nx)).run ob (σ q).h) b
    rw [hget_set, if_pos hbq]
  · rw [if_neg hbq]
    have hlt : b < (σ q).nx := by omega
    have hnc : ¬ Chg σ q b := fun h => by
      rcases h with h | h
      · omega
      · refine h ?_
        rw [h1]
        show hget ((setF (bitsR (σ q).nx)).run ob (σ q).h) b = _
        rw [hget_set, if_neg hbq]
    rw [cur_add_same hnc, ← hst]
    show hget (tab _ _) b = _
    rw [tab_get, if_pos hlt]

end
end Go.Ev
