/-
  The evaluator of runs, second part: code, calls, regions that draw their order; from a run to what a row asks.
-/
import Derived.Test.YtbpohnnpklbmeaaDoorSyA
import Derived.Recover
import Derived.Orders
import Derived.WalkKit
import Derived.ProofKit
import Derived.OpenShut
set_option linter.unusedVariables false
set_option linter.unusedSimpArgs false
namespace Go.Ev
open Go.RowKit

/-! ### slots -/
noncomputable def tget (t : T AV) (x : Nat) : AV := ((getF (bitsR x)).run t).getD undefA

def idx (x : Nat) : List Nat → Option Nat
  | [] => none
  | n :: ns => if n = x then some 0 else (idx x ns).map (· + 1)

theorem recF_from (x : Nat) : ∀ (ns : List Nat) (k : Nat),
    (List.rec (motive := fun _ => (Nat → Option OF)) (fun _ => none) (fun n _ ih i => cond (Nat.beq n x) (some ⟨fun env => lget .bad env.rs i⟩) (ih (Nat.succ i))) ns k : Option OF)
      = (idx x ns).map fun i => ⟨fun env => lget .bad env.rs (k + i)⟩
  | [], k => rfl
  | n :: ns, k => by
    show cond (Nat.beq n x) _ _ = _
    simp only [idx]
    cases h : Nat.beq n x
    · have : n ≠ x := fun e => by rw [← beqN, h] at e; cases e
      rw [if_neg this]
      refine (recF_from x ns (Nat.succ k)).trans ?_
      rw [Option.map_map]
      congr 1
      funext i
      simp only [Function.comp]
      congr 2
      funext env
      congr 1
      omega
    · rw [beqN] at h
      rw [if_pos h]
      rfl

theorem recF_eq (x : Nat) (ns : List Nat) : recF x ns = (idx x ns).map fun i => ⟨fun env => lget .bad env.rs i⟩ := by
  unfold recF
  rw [recF_from]
  congr 1
  funext i
  rw [Nat.zero_add]

def DRs (ι : Inj) : List (FuncId × List AV) → List Deferred → Prop
  | [], l => l = []
  | p :: ps, l => ∃ cap dargs ds, l = { target := .fn (.func p.1) cap, args := dargs } :: ds ∧ VRs ι p.2 (dargs ++ cap).toList ∧ DRs ι ps ds

theorem DRs.mono {ι ι' : Inj} (h : Le ι ι') : ∀ (ps : List (FuncId × List AV)) (l : List Deferred), DRs ι ps l → DRs ι' ps l
  | [], _, k => k
  | p :: ps, l, k => by
    simp only [DRs] at k ⊢
    obtain ⟨cap, dargs, ds, rfl, h1, h2⟩ := k
    exact ⟨cap, dargs, ds, rfl, VRs.mono h _ _ h1, DRs.mono h ps ds h2⟩

structure Rel (ι : Inj) (U N : Nat) (t : T AV) (ns : List Nat) (rs : List AV) (st : St) (a : Act) (w : World) : Prop where
  sim : Sim ι st.h st.nx w
  size : N ≤ a.tmps.size
  env : ∀ x, inU U x = true → idx x ns = none → VR ι (tget t x) (a.tmps.getD x undef)
  recs : ∀ x i, idx x ns = some i → VR ι (rs.getD i .bad) (a.tmps.getD x undef)
  len : ns.length = rs.length
  ds : DRs ι st.fr a.defers

section
variable {P : Program} {ι : Inj} {w : World} {st : St} {U N : Nat} {t : T AV} {ns : List Nat} {rs : List AV} {a : Act}

theorem Rel.opd (r : Rel ι U N t ns rs st a w) (x : Operand) : VR ι ((opdF U ns x).run ⟨t, rs⟩) (a.eval x) := by
  cases x with
  | tmp x =>
    simp only [opdF, recF_eq]
    cases h : idx x ns with
    | some i =>
      simp only [Option.map_some, lget_eq]
      exact r.recs x i h
    | none =>
      simp only [Option.map_none]
      cases hu : inU U x
      · simp [VR]
      · have := r.env x hu h
        simp only [cond, tget] at this ⊢
        cases hg : (getF (bitsR x)).run t <;> rw [hg] at this <;> exact this
  | const v => exact VR_ofV ι v
  | global g => simp [opdF, VR]
  | func f => simp only [opdF, VR, Act.eval]; exact ⟨#[], rfl, by simp [VRs]⟩

theorem Rel.mono (r : Rel ι U N t ns rs st a w) {ι' : Inj} (h : Le ι ι') {st' : St} {w' : World} (hs : Sim ι' st'.h st'.nx w') (hf : st'.fr = st.fr) : Rel ι' U N t ns rs st' a w' :=
  ⟨hs, r.size, fun x hu hx => VR.mono h _ _ (r.env x hu hx), fun x i hx => VR.mono h _ _ (r.recs x i hx), r.len, by rw [hf]; exact DRs.mono h _ _ r.ds⟩

theorem put_get (a : Act) (d : Nat) (v : Value) (x : Nat) (hd : d < a.tmps.size) : (a.put (some d) v).tmps.getD x undef = if d = x then v else a.tmps.getD x undef := by
  simp only [Act.put, Array.getD_eq_getD_getElem?, Array.getElem?_setIfInBounds]
  by_cases h : d = x
  · subst h; simp [hd]
  · simp [h]

theorem put_size (a : Act) (d : Option Nat) (v : Value) : (a.put d v).tmps.size = a.tmps.size := by
  cases d <;> simp [Act.put]
theorem put_defers (a : Act) (d : Option Nat) (v : Value) : (a.put d v).defers = a.defers := by cases d <;> rfl

/-- a slot is written -/
theorem Rel.put (r : Rel ι U N t ns rs st a w) {d : Option Nat} (hd : ∀ x, d = some x → x < N) {v : AV} {y : Value} (hv : VR ι v y) :
    Rel ι U N t (pushN d ns) ((pushV d).run v rs) st (a.put d y) w := by
  cases d with
  | none => exact r
  | some d =>
    have hlt : d < a.tmps.size := Nat.lt_of_lt_of_le (hd d rfl) r.size
    refine ⟨r.sim, by rw [put_size]; exact r.size, fun x hu hx => ?_, fun x i hx => ?_, by simp [pushN, pushV, r.len], by rw [put_defers]; exact r.ds⟩
    · rw [put_get a d y x hlt]
      simp only [pushN, idx] at hx
      split at hx
      · cases hx
      · rename_i hne
        rw [if_neg hne]
        exact r.env x hu (by simpa using hx)
    · rw [put_get a d y x hlt]
      simp only [pushN, idx] at hx
      split at hx
      · rename_i he
        rw [if_pos he]
        simp only [Option.some.injEq] at hx
        subst hx
        exact hv
      · rename_i hne
        rw [if_neg hne, Option.map_eq_some_iff] at *
        obtain ⟨j, hj, rfl⟩ := hx
        exact r.recs x j hj

theorem flush_get (U : Nat) : ∀ (ns : List Nat) (rs : List AV) (t : T AV), ns.length = rs.length → ∀ x, inU U x = true →
    tget ((flushF U ns).run rs t) x = match idx x ns with | some i => rs.getD i .bad | none => tget t x
  | [], rs, t, _, x, _ => rfl
  | n :: ns, [], t, h, x, _ => by simp at h
  | n :: ns, v :: rs, t, h, x, hx => by
    have ih := flush_get U ns rs t (by simpa using h) x hx
    have e : (flushF U (n :: ns)).run (v :: rs) t = cond (inU U n) ((setF (bitsR n)).run v ((flushF U ns).run rs t)) ((flushF U ns).run rs t) := by
      show (LF.run (cond (inU U n) _ _)) _ _ = _
      cases inU U n <;> rfl
    rw [e]
    simp only [idx]
    by_cases hn : n = x
    · subst hn
      rw [hx, if_pos rfl]
      simp only [cond, tget, get_set, if_true, Option.getD_some]
      rfl
    · rw [if_neg hn]
      have h2 : tget (cond (inU U n) ((setF (bitsR n)).run v ((flushF U ns).run rs t)) ((flushF U ns).run rs t)) x = tget ((flushF U ns).run rs t) x := by
        cases inU U n
        · rfl
        · simp only [cond, tget, get_set, if_neg (fun e => hn e.symm : ¬ x = n)]
      rw [h2, ih]
      cases idx x ns <;> rfl

theorem Rel.flush (r : Rel ι U N t ns rs st a w) : Rel ι U N ((flushF U ns).run rs t) [] [] st a w := by
  refine ⟨r.sim, r.size, fun x hu _ => ?_, fun x i hx => by simp [idx] at hx, rfl, r.ds⟩
  rw [flush_get U ns rs t r.len x hu]
  cases h : idx x ns with
  | none => exact r.env x hu h
  | some i => exact r.recs x i h

/-! ### operations of a region that stand in one order -/
def wpO (P : Program) (ops : Array Oper) (Q : Exit → Act → World → Prop) : List Nat → Act → World → Prop
  | [], a, w => Q .normal a w
  | i :: rest, a, w =>
    match ops[i]? with
    | none => wpO P ops Q rest a w
    | some o => if Region.wanted o (yielded ops a.tmps) then o.wp P a w (wpO P ops Q rest) Q else wpO P ops Q rest (a.put o.dst undef) w

theorem wpOps_of {ops : Array Oper} {Q : Exit → Act → World → Prop} : ∀ (l : List Nat) (a : Act) (w : World), wpO P ops Q l a w → wpOps P ops Q l a w
  | [], a, w, h => h
  | i :: l, a, w, h => by
    simp only [wpO] at h
    simp only [wpOps]
    split
    · rename_i ho
      rw [ho] at h
      exact wpOps_of l a w h
    · rename_i o ho
      simp only [ho] at h
      split
      · rename_i hw
        simp only [hw, if_true] at h
        exact .inl (Oper.wp_mono (fun a w => wpOps_of l a w) h)
      · rename_i hw
        simp only [hw, if_false] at h
        exact wpOps_of l _ w h

/-- what a call of a function does, if the evaluator tells it -/
def Enters (P : Program) (f : FuncId) : Prop := ∃ fn, P.funcs[f]? = some fn ∧ fn.body.isSome = true ∧ (fn.name == "runtime.NumGoroutine") = false

def Done (ι : Inj) (w : World) (st st' : St) (v : AV) (x : Value) (w' : World) : Prop :=
  ∃ ι', Le ι ι' ∧ VR ι' v x ∧ Sim ι' st'.h st'.nx w' ∧ Grew ι w ι' w' ∧ Cleanly ι ι' st st'

def CallOK (P : Program) (call : CallF) : Prop :=
  ∀ (f : FuncId) (args : List AV) (st : St) (ι : Inj) (w : World) (vs : Array Value), Sim ι st.h st.nx w → VRs ι args vs.toList →
    match call f args st with
    | .no => True
    | .ok v st' => Enters P f ∧ Calls P f vs w fun e w' => ∃ x, e = .returned x ∧ Done ι w st st' v x w'
    | .pn v st' => Enters P f ∧ Calls P f vs w fun e w' => ∃ x, e = .panicked [{ v := x, recovered := false }] ∧ Done ι w st st' v x w'

/-- what is to hold behind a run of the evaluator -/
def Post (ι : Inj) (U N : Nat) (w : World) (st : St) (r : R) (Q : Exit → Act → World → Prop) : Prop :=
  match r with
  | .no => False
  | .go t' st' => ∀ ι' a' w', Le ι ι' → Rel ι' U N t' [] [] st' a' w' → Grew ι w ι' w' → Cleanly ι ι' st st' → Q .normal a' w'
  | .ex id t' st' => ∀ ι' a' w', Le ι ι' → Rel ι' U N t' [] [] st' a' w' → Grew ι w ι' w' → Cleanly ι ι' st st' → Q (.exit id) a' w'
  | .rt t' st' => ∀ ι' a' w', Le ι ι' → Rel ι' U N t' [] [] st' a' w' → Grew ι w ι' w' → Cleanly ι ι' st st' → Q .ret a' w'
  | .pn v t' st' => ∀ ι' a' w' x, Le ι ι' → Rel ι' U N t' [] [] st' a' w' → Grew ι w ι' w' → Cleanly ι ι' st st' → VR ι' v x → Q (.panic [{ v := x, recovered := false }]) a' w'

theorem Post.step {ι' : Inj} {w' : World} {st' : St} {r : R} {Q : Exit → Act → World → Prop} (hl : Le ι ι') (hg : Grew ι w ι' w') (hc : Cleanly ι ι' st st') (h : Post ι U N w st r Q) : Post ι' U N w' st' r Q := by
  cases r with
  | no => exact h
  | go t s => exact fun ι2 a2 w2 l2 r2 g2 c2 => h ι2 a2 w2 (hl.trans l2) r2 (hg.trans g2) (hc.trans c2)
  | ex i t s => exact fun ι2 a2 w2 l2 r2 g2 c2 => h ι2 a2 w2 (hl.trans l2) r2 (hg.trans g2) (hc.trans c2)
  | rt t s => exact fun ι2 a2 w2 l2 r2 g2 c2 => h ι2 a2 w2 (hl.trans l2) r2 (hg.trans g2) (hc.trans c2)
  | pn v t s => exact fun ι2 a2 w2 x l2 r2 g2 c2 hv => h ι2 a2 w2 x (hl.trans l2) r2 (hg.trans g2) (hc.trans c2) hv

theorem call_run {o : Oper} {c : Call} {ff : Operand} (ho : o.op = .call c) (hc : c.callee = .value ff) {f : FuncId} {cv : Array Value} (hf : a.eval ff = .func (.func f) #[] cv) (he : Enters P f) :
    (execOp a.eval o).run P w = .ok (.enter f ((c.args.map a.eval) ++ cv)) w := by
  obtain ⟨fn, h1, h2, h3⟩ := he
  have h2' : fn.body.isNone = false := by cases hb : fn.body <;> simp [hb] at h2 ⊢
  simp only [execOp, ho, resolve, hc, hf, Deferred.ofValue, Sem.run_bind, Sem.run_pure, Result.andThen_ok, invoke, callFunc, run_program, h1, h3, h2']
  simp

theorem defer_run {o : Oper} {c : Call} {ff : Operand} (ho : o.op = .defer c) (hc : c.callee = .value ff) {f : FuncId} {cv : Array Value} (hf : a.eval ff = .func (.func f) #[] cv) :
    (execOp a.eval o).run P w = .ok (.defer { target := .fn (.func f) cv, args := c.args.map a.eval }) w := by
  simp only [execOp, ho, resolve, hc, hf, Deferred.ofValue, Sem.run_bind, Sem.run_pure, Result.andThen_ok]
  simp

/-- one operation -/
theorem step_ok {call : CallF} (hcall : CallOK P call) (r : Rel ι U N t ns rs st a w) {o : Oper} (hd : ∀ x, o.dst = some x → x < N) {next : RF} {n : Nat} {K : Act → World → Prop} {Q : Exit → Act → World → Prop}
    (hp : Post ι U N w st ((stepF P (opdF U ns) (flushF U ns) o next).run call n t rs st) Q)
    (hk : ∀ ι' rs' st' a' w', Le ι ι' → Grew ι w ι' w' → Cleanly ι ι' st st' → Rel ι' U N t (pushN o.dst ns) rs' st' a' w' →
      Post ι' U N w' st' (next.run call n t rs' st') Q → K a' w') :
    o.wp P a w K Q := by
  unfold stepF at hp
  unfold Oper.wp
  split at hp
  · -- a call
    rename_i f args hco
    have hcs : ∃ c, o.op = .call c ∧ c.callee = .value f ∧ args = c.args.toList := by
      unfold callOf at hco
      split at hco
      · rename_i c hoc
        split at hco
        · rename_i f' hf'
          cases hco
          exact ⟨c, hoc, hf', rfl⟩
        · cases hco
      · cases hco
    obtain ⟨c, hoc, hcf, rfl⟩ := hcs
    have hvf := r.opd f
    try dsimp only at hp
    generalize hfv : (opdF U ns f).run ⟨t, rs⟩ = fv at hp hvf
    cases fv <;> try (exact hp.elim)
    rename_i fid caps
    simp only [VR] at hvf
    obtain ⟨cv, hcv, hcaps⟩ := hvf
    simp only [lapp_eq, lmap_eq] at hp
    have hargs : VRs ι (c.args.toList.map (fun x => (opdF U ns x).run ⟨t, rs⟩) ++ caps) ((c.args.map a.eval) ++ cv).toList := by
      rw [Array.toList_append, Array.toList_map]
      exact (VRs.map_of _ fun x _ => r.opd x).append hcaps
    have hC := hcall fid _ st ι w ((c.args.map a.eval) ++ cv) r.sim hargs
    generalize call fid (c.args.toList.map (fun x => (opdF U ns x).run ⟨t, rs⟩) ++ caps) st = er at hp hC
    cases er with
    | no => exact hp.elim
    | ok v st' =>
      obtain ⟨hen, hcs⟩ := hC
      rw [call_run hoc hcf hcv hen]
      simp only [Oper.upon]
      refine Calls.mono hcs fun e w' he => ?_
      obtain ⟨x, rfl, ι', hl, hv, hs, hg, hcl⟩ := he
      have hcl' : Cleanly ι ι' st (back st st') := ⟨hcl.nx, hcl.dirty, hcl.keep, hcl.above, hcl.u, hcl.le, hcl.n⟩
      have r' := (r.mono hl (st' := back st st') hs rfl).put hd hv
      exact hk ι' _ _ _ _ hl hg hcl' r' (Post.step hl hg hcl' hp)
    | pn v st' =>
      obtain ⟨hen, hcs⟩ := hC
      rw [call_run hoc hcf hcv hen]
      simp only [Oper.upon]
      refine Calls.mono hcs fun e w' he => ?_
      obtain ⟨x, rfl, ι', hl, hv, hs, hg, hcl⟩ := he
      have hcl' : Cleanly ι ι' st (back st st') := ⟨hcl.nx, hcl.dirty, hcl.keep, hcl.above, hcl.u, hcl.le, hcl.n⟩
      have r' := (r.mono hl (st' := back st st') hs rfl).flush
      exact hp ι' _ _ x hl r' hg hcl' hv
  · rename_i hco
    try dsimp only at hp
    cases hcalm : calmOp o.op
    · -- a call is deferred
      cases ho : o.op <;> rw [ho] at hcalm hp hco <;> simp only [calmOp] at hcalm <;> try (cases hcalm; done)
      case call c =>
        exfalso
        simp only [compOp] at hp
        split at hcalm
        · rename_i b hb
          simp only [hb] at hp
          cases b <;> simp only [noRec] at hcalm <;> try (cases hcalm; done)
          have : builtinF P .recover c.argTypes (lmap (opdF U ns) c.args.toList) = NOE := by
            unfold builtinF
            split <;> first | rfl | contradiction | simp_all
          rw [this] at hp
          exact hp
        · rename_i hnb
          cases hcc : c.callee with
          | builtin b => exact hnb b hcc
          | value f => simp [callOf, hcc] at hco
          | invoke r m => rw [hcc] at hp; exact hp
      case defer c =>
        simp only [compOp] at hp
        cases hf : c.callee <;> rw [hf] at hp <;> try (exact hp.elim)
        · rename_i f
          have hvf := r.opd f
          try dsimp only at hp
          generalize hfv : (opdF U ns f).run ⟨t, rs⟩ = fv at hp hvf
          cases fv <;> try (exact hp.elim)
          rename_i fid caps
          simp only [VR] at hvf
          obtain ⟨cv, hcv, hcaps⟩ := hvf
          rw [defer_run ho hf hcv]
          simp only [Oper.upon]
          simp only [lapp_eq, lmap_eq] at hp
          have hargs : VRs ι (c.args.toList.map (fun x => (opdF U ns x).run ⟨t, rs⟩) ++ caps) ((c.args.map a.eval) ++ cv).toList := by
            rw [Array.toList_append, Array.toList_map]
            exact (VRs.map_of _ fun x _ => r.opd x).append hcaps
          have hcl : Cleanly ι ι st ⟨st.nx, st.h, st.dirty, List.cons (fid, c.args.toList.map (fun x => (opdF U ns x).run ⟨t, rs⟩) ++ caps) st.fr⟩ := ⟨Nat.le_refl _, Nat.le_refl _, fun _ _ _ => rfl, fun _ _ => rfl, fun _ _ h => h, fun _ h => h, fun _ h1 h2 => absurd h2 (Nat.not_lt.2 h1)⟩
          have r1 : Rel ι U N t ns rs ⟨st.nx, st.h, st.dirty, List.cons (fid, c.args.toList.map (fun x => (opdF U ns x).run ⟨t, rs⟩) ++ caps) st.fr⟩
              { a with defers := { target := .fn (.func fid) cv, args := c.args.map a.eval } :: a.defers } w :=
            ⟨r.sim, r.size, r.env, r.recs, r.len, by simp only [DRs]; exact ⟨cv, _, _, rfl, hargs, r.ds⟩⟩
          exact hk ι _ _ _ _ (Le.refl ι) (Grew.refl ι w) hcl (r1.put hd (undef_ok ι)) (Post.step (Le.refl ι) (Grew.refl ι w) hcl hp)
    · have hres := exec_ok (P := P) (ρ := a.eval) (op := opdF U ns) (env := ⟨t, rs⟩) hcalm r.sim (fun x _ => r.opd x)
      generalize (compOp P (opdF U ns) o.op).run ⟨t, rs⟩ st = er at hp hres
      cases er with
      | no => exact hp.elim
      | ok v st' =>
        obtain ⟨ι', x, w', hr, hl, hv, hs, hg, hcl, hfr⟩ := hres
        have r' := (r.mono hl hs hfr).put hd hv
        rcases hr with hr | ⟨hr, rfl⟩
        · rw [hr]
          exact hk ι' _ _ _ _ hl hg hcl r' (Post.step hl hg hcl hp)
        · rw [hr]
          exact hk ι' _ _ _ _ hl hg hcl r' (Post.step hl hg hcl hp)
      | pn v st' =>
        obtain ⟨rfl, x, hr, hv⟩ := hres
        rw [hr]
        exact hp ι a w x (Le.refl ι) r.flush (Grew.refl ι w) (Cleanly.refl ι st') hv

end
end Go.Ev

namespace Go.Ev
open Go.RowKit

section
variable {P : Program} {ι : Inj} {w : World} {st : St} {U N : Nat} {t : T AV} {ns : List Nat} {rs : List AV} {a : Act}

theorem notBool {v : AV} {x : Value} (h : VR ι v x) (h1 : ∀ b, v ≠ .bool b) (h2 : v ≠ .bad) (b : Bool) : x ≠ .bool b := by
  intro e
  subst e
  cases v <;> simp only [VR] at h
  case bool c => exact h1 c rfl
  case bad => exact h2 rfl
  all_goals
    first
    | (cases h; done)
    | (obtain ⟨_, h, _⟩ := h; cases h; done)
    | (obtain ⟨_, _, h, _⟩ := h; cases h; done)
    | (obtain ⟨_, _, _, _, h, _⟩ := h; cases h; done)

theorem wanted_ok (r : Rel ι U N t ns rs st a w) (ops : Array Oper) (o : Oper) :
    match wantedF (opdF U ns) ops o with
    | none => Region.wanted o (yielded ops a.tmps) = true
    | some wf => ∀ b, wf.run ⟨t, rs⟩ = some b → Region.wanted o (yielded ops a.tmps) = b := by
  unfold wantedF Region.wanted
  cases hg : o.guard with
  | none => rfl
  | some jw =>
    obtain ⟨j, want⟩ := jw
    simp only
    cases hd : (ops[j]?).bind (·.dst) with
    | none => simp
    | some d =>
      simp only
      intro b hb
      have hv := r.opd (.tmp d)
      simp only [Act.eval] at hv
      generalize (opdF U ns (.tmp d)).run ⟨t, rs⟩ = v at hb hv
      have hy : yielded ops a.tmps j = match a.tmps[d]? with | some (.bool b) => some b | _ => none := by
        unfold yielded; rw [hd]; rfl
      rw [hy]
      have hget : a.tmps.getD d undef = (a.tmps[d]?).getD undef := by simp [Array.getD_eq_getD_getElem?]
      rw [hget] at hv
      split at hb
      · rename_i c
        simp only [Option.some.injEq] at hb
        simp only [VR] at hv
        cases hq : a.tmps[d]? with
        | none => rw [hq] at hv; simp [undef] at hv
        | some x =>
          rw [hq] at hv
          simp only [Option.getD_some] at hv
          subst hv
          simp only
          subst hb
          cases c <;> cases want <;> rfl
      · cases hb
      · rename_i h1 h2
        simp only [Option.some.injEq] at hb
        subst hb
        have hn := notBool hv (fun b e => h1 b e) (fun e => h2 e)
        cases hq : a.tmps[d]? with
        | none => rfl
        | some x =>
          rw [hq] at hn
          simp only [Option.getD_some] at hn
          cases x <;> first | rfl | (exact absurd rfl (hn _))

theorem compOps_cons (U : Nat) (ops : Array Oper) (o : Oper) (l : List Oper) (ns : List Nat) :
    compOps P U ops (o :: l) ns = guardF (wantedF (opdF U ns) ops o) o.dst (stepF P (opdF U ns) (flushF U ns) o (compOps P U ops l (pushN o.dst ns))) (compOps P U ops l (pushN o.dst ns)) := rfl

theorem ops_ok {call : CallF} (hcall : CallOK P call) {n : Nat} (ops : Array Oper) {Q : Exit → Act → World → Prop} : ∀ (l : List Oper) (il : List Nat), il.map (fun i => ops[i]?) = l.map some → (∀ o ∈ l, ∀ x, o.dst = some x → x < N) →
    ∀ (ι : Inj) (ns : List Nat) (t : T AV) (rs : List AV) (st : St) (a : Act) (w : World), Rel ι U N t ns rs st a w → Post ι U N w st ((compOps P U ops l ns).run call n t rs st) Q → wpO P ops Q il a w
  | [], il, hil, _, ι, ns, t, rs, st, a, w, r, hp => by
    have : il = [] := by simpa using hil
    subst this
    exact hp ι a w (Le.refl ι) r.flush (Grew.refl ι w) (Cleanly.refl ι st)
  | o :: l, [], hil, _, ι, ns, t, rs, st, a, w, r, hp => by simp at hil
  | o :: l, i :: il, hil, hd, ι, ns, t, rs, st, a, w, r, hp => by
    simp only [List.map_cons, List.cons.injEq] at hil
    obtain ⟨hi, hil⟩ := hil
    have ih := ops_ok (Q := Q) hcall (n := n) ops l il hil (fun o ho => hd o (by simp [ho]))
    rw [compOps_cons] at hp
    simp only [wpO, hi]
    have hw := wanted_ok r ops o
    have hstep : Post ι U N w st ((stepF P (opdF U ns) (flushF U ns) o (compOps P U ops l (pushN o.dst ns))).run call n t rs st) Q → o.wp P a w (wpO P ops Q il) Q := fun hp =>
      step_ok hcall r (hd o (by simp)) hp fun ι' rs' st' a' w' _ _ _ r' hp' => ih ι' _ t rs' st' a' w' r' hp'
    unfold guardF at hp
    generalize wantedF (opdF U ns) ops o = wf at hp hw
    cases wf with
    | none =>
      simp only at hw
      rw [if_pos hw]
      exact hstep hp
    | some wf =>
      simp only at hw
      try dsimp only at hp
      cases hb : wf.run ⟨t, rs⟩ with
      | none => rw [hb] at hp; exact hp.elim
      | some b =>
        rw [hb] at hp
        have hwb := hw b hb
        cases b
        · rw [if_neg (by rw [hwb]; simp)]
          exact ih ι _ t _ st _ w (r.put (hd o (by simp)) (undef_ok ι)) hp
        · rw [if_pos hwb]
          exact hstep hp

/-! ### code -/
theorem wp_loop_k {c : Code} {Q : Exit → Act → World → Prop} (J : Nat → Act → World → Prop) (hz : ∀ a w, ¬ J 0 a w)
    (round : ∀ k a w, J (k + 1) a w → c.wp P (Exit.then (fun a' w' => J k a' w') Q) a w) {k0 : Nat} (h : J k0 a w) : (Code.loop c).wp P Q a w := by
  intro b k cs
  have key : ∀ n a w, J n a w → ∃ e a' w', Q e a' w' ∧ Arrives P (lone (b.at a (.code c :: .inLoop c :: k)) cs w) b k cs e a' w' := by
    intro n
    induction n with
    | zero => intro a w hJ; exact absurd hJ (hz a w)
    | succ n ih =>
      intro a w hJ
      obtain ⟨e, a₁, w₁, hq, harr⟩ := round n a w hJ b (.inLoop c :: k) cs
      cases e with
      | normal =>
        obtain ⟨e₂, a₂, w₂, hq₂, harr₂⟩ := ih a₁ w₁ hq
        exact ⟨e₂, a₂, w₂, hq₂, .of_steps (Steps.trans harr (.one step_inLoop)) harr₂⟩
      | exit id => exact ⟨_, a₁, w₁, hq, .pass (x := .inLoop c) rfl (fun _ _ => .inl (by simp)) harr⟩
      | goto l => exact ⟨_, a₁, w₁, hq, .pass (x := .inLoop c) rfl (fun _ _ => .inl (by simp)) harr⟩
      | ret => exact ⟨_, a₁, w₁, hq, .pass (x := .inLoop c) rfl (fun _ _ => .inl (by simp)) harr⟩
      | panic ch => exact ⟨_, a₁, w₁, hq, .pass (x := .inLoop c) rfl (fun _ _ => .inl (by simp)) harr⟩
      | outgrown => exact ⟨_, a₁, w₁, hq, .pass (x := .inLoop c) rfl (fun _ _ => .inl (by simp)) harr⟩
  obtain ⟨e, a', w', hq, harr⟩ := key _ a w h
  exact ⟨e, a', w', hq, .of_steps (.one step_loop) harr⟩

/-- what is shown elsewhere: a region that draws its order -/
def DrawOK (P : Program) : Prop :=
  ∀ (call : CallF), CallOK P call → ∀ (n : Nat) (U N : Nat) (ops : Array Oper), orderOk P ops = true → (∀ o ∈ ops.toList, ∀ x, o.dst = some x → x < N) →
    ∀ (ι : Inj) (t : T AV) (st : St) (a : Act) (w : World) (Q : Exit → Act → World → Prop) (id : Nat), Rel ι U N t [] [] st a w → Post ι U N w st ((drawF P U ops).run call n t [] [] st) Q → (Code.region id ops true).wp P Q a w

theorem lallB_eq {α : Type} (p : α → Bool) (l : List α) : lallB p l = l.all p := by
  induction l with
  | nil => rfl
  | cons a l ih => show cond (p a) (lallB p l) false = _; rw [ih]; cases h : p a <;> simp [h]

theorem dsts_region {id : Nat} {ops : Array Oper} {d : Bool} (h : dstsOK N (.region id ops d) = true) : ∀ o ∈ ops.toList, ∀ x, o.dst = some x → x < N := by
  change lallB _ ops.toList = true at h
  rw [lallB_eq, List.all_eq_true] at h
  intro o ho x hx
  have := h o ho
  rw [hx] at this
  simp only at this
  rw [bleN] at this
  exact this

theorem range_map (ops : Array Oper) : (List.range ops.size).map (fun i => ops[i]?) = ops.toList.map some := by
  apply List.ext_getElem
  · simp
  · intro i h1 h2
    simp at h1
    simp [h1]

theorem cond_and {a b : Bool} (h : cond a b false = true) : a = true ∧ b = true := by
  cases a
  · cases h
  · exact ⟨rfl, h⟩

theorem comp_ok {call : CallF} (hcall : CallOK P call) (hdraw : DrawOK P) {n : Nat} : ∀ (c : Code), dstsOK N c = true → ∀ (ι : Inj) (t : T AV) (st : St) (a : Act) (w : World) (Q : Exit → Act → World → Prop),
    Rel ι U N t [] [] st a w → Post ι U N w st ((comp P U c).run call n t st) Q → c.wp P Q a w := by
  intro c
  induction c with
  | skip => exact fun _ ι t st a w Q r hp => wp_skip (hp ι a w (Le.refl ι) r (Grew.refl ι w) (Cleanly.refl ι st))
  | region id ops d =>
    intro hd ι t st a w Q r hp
    have hdst := dsts_region hd
    cases d with
    | false =>
      refine wp_region (wpOps_of _ _ _ ?_)
      exact ops_ok hcall (n := n) ops ops.toList (List.range ops.size) (range_map ops) hdst ι [] t [] st a w r hp
    | true =>
      change Post ι U N w st ((cond (orderOk P ops) (⟨fun call n t st => (drawF P U ops).run call n t [] [] st⟩ : CF) NOC).run call n t st) Q at hp
      cases ho : orderOk P ops
      · rw [ho] at hp; exact hp.elim
      · rw [ho] at hp
        exact hdraw call hcall n U N ops ho hdst ι t st a w Q id r hp
  | seq x y ihx ihy =>
    intro hd ι t st a w Q r hp
    obtain ⟨hdx, hdy⟩ := cond_and (show cond (dstsOK N x) (dstsOK N y) false = true from hd)
    change Post ι U N w st (match (comp P U x).run call n t st with | .go env st => (comp P U y).run call n env st | r => r) Q at hp
    refine wp_seq (ihx hdx ι t st a w _ r ?_)
    generalize (comp P U x).run call n t st = rx at hp
    cases rx with
    | no => exact hp
    | go t' st' => exact fun ι' a' w' hl r' hg hc => ihy hdy ι' t' st' a' w' Q r' (Post.step hl hg hc hp)
    | ex i t' st' => exact hp
    | rt t' st' => exact hp
    | pn v t' st' => exact hp
  | cond x a1 b1 iha ihb =>
    intro hd ι t st a w Q r hp
    obtain ⟨hda, hdb⟩ := cond_and (show cond (dstsOK N a1) (dstsOK N b1) false = true from hd)
    change Post ι U N w st (match (opdF U [] x).run ⟨t, []⟩ with | .bool q => _root_.cond q ((comp P U a1).run call n t st) ((comp P U b1).run call n t st) | _ => .no) Q at hp
    have hv := r.opd x
    generalize (opdF U [] x).run ⟨t, []⟩ = v at hp hv
    cases v <;> try (exact hp.elim)
    rename_i q
    simp only [VR] at hv
    refine wp_cond hv ?_
    cases q
    · exact ihb hdb ι t st a w Q r hp
    · exact iha hda ι t st a w Q r hp
  | block id x ih =>
    intro hd ι t st a w Q r hp
    change Post ι U N w st (match (comp P U x).run call n t st with | .ex id' env st => _root_.cond (Nat.beq id' id) (.go env st) (.ex id' env st) | r => r) Q at hp
    refine wp_block (ih hd ι t st a w _ r ?_)
    generalize (comp P U x).run call n t st = rx at hp
    cases rx with
    | no => exact hp
    | go t' st' => exact hp
    | ex i t' st' =>
      intro ι' a' w' hl r' hg hc
      simp only at hp
      cases hb : Nat.beq i id
      · rw [hb] at hp
        have hne : ¬ i = id := fun e => by rw [← beqN, hb] at e; cases e
        simp only [Exit.inBlock, if_neg hne]
        exact hp ι' a' w' hl r' hg hc
      · rw [hb] at hp
        rw [beqN] at hb
        simp only [Exit.inBlock, if_pos hb]
        exact hp ι' a' w' hl r' hg hc
    | rt t' st' => exact hp
    | pn v t' st' => exact hp
  | loop x ih =>
    intro hd ι t st a w Q r hp
    change Post ι U N w st (loopR (comp P U x) call n n t st) Q at hp
    refine wp_loop_k (fun k a w => ∃ ι t st, Rel ι U N t [] [] st a w ∧ Post ι U N w st (loopR (comp P U x) call n k t st) Q) (fun a w h => ?_) (fun k a w h => ?_) ⟨ι, t, st, r, hp⟩
    · obtain ⟨ι, t, st, r, hp⟩ := h
      exact hp
    · obtain ⟨ι, t, st, r, hp⟩ := h
      refine ih hd ι t st a w _ r ?_
      change Post ι U N w st (match (comp P U x).run call n t st with | .go env st => loopR (comp P U x) call n k env st | r => r) Q at hp
      generalize (comp P U x).run call n t st = rx at hp
      cases rx with
      | no => exact hp
      | go t' st' => exact fun ι' a' w' hl r' hg hc => ⟨ι', t', st', r', Post.step hl hg hc hp⟩
      | ex i t' st' => exact hp
      | rt t' st' => exact hp
      | pn v t' st' => exact hp
  | rangeFunc f ps a1 b1 => exact fun _ ι t st a w Q r hp => hp.elim
  | exit id => exact fun _ ι t st a w Q r hp => wp_exit (hp ι a w (Le.refl ι) r (Grew.refl ι w) (Cleanly.refl ι st))
  | scope x => exact fun _ ι t st a w Q r hp => hp.elim
  | label l => exact fun _ ι t st a w Q r hp => hp.elim
  | goto l => exact fun _ ι t st a w Q r hp => hp.elim
  | ret => exact fun _ ι t st a w Q r hp => wp_ret (hp ι a w (Le.refl ι) r (Grew.refl ι w) (Cleanly.refl ι st))
  | _ => exact fun _ ι t st a w Q r hp => hp.elim

end
end Go.Ev

namespace Go.Ev
open Go.RowKit

section
variable {P : Program} {ι : Inj} {w : World} {st : St} {U N : Nat} {t : T AV} {a : Act}

/-! ### results -/
def resOf (tmps : Array Value) : ResultVar → Sem Value
  | .tmp t => pure (tmps.getD t undef)
  | .cell b t => do loadVar t (← asAddr (tmps.getD b undef))

theorem run_result {r : ResultVar} (h : Rel ι U N t [] [] st a w) {v : AV} (hv : (resultF P U r).run ⟨t, []⟩ st = some v) :
    ∃ x, (resOf a.tmps r).run P w = .ok x w ∧ VR ι v x := by
  cases r with
  | tmp x =>
    simp only [resultF, Option.some.injEq] at hv
    subst hv
    exact ⟨a.tmps.getD x undef, by simp [resOf], h.opd (.tmp x)⟩
  | cell b ty =>
    simp only [resultF] at hv
    have hop := h.opd (.tmp b)
    obtain ⟨x, hx, hvx⟩ := load_ok h.sim hop hv
    refine ⟨x, ?_, hvx⟩
    have hptr : ∃ bb o, (opdF U [] (.tmp b)).run ⟨t, []⟩ = .ptr bb o := by
      unfold loadK at hv
      split at hv
      · simp only at hv
        split at hv
        · rename_i bb o heq; exact ⟨bb, o, heq⟩
        · cases hv
      · simp only at hv
        split at hv
        · rename_i bb o heq; exact ⟨bb, o, heq⟩
        · cases hv
      · cases hv
    obtain ⟨bb, o, hp⟩ := hptr
    rw [hp] at hop
    simp only [VR] at hop
    obtain ⟨_, ad, had, _⟩ := hop
    simp only [Act.eval] at had hx
    rw [had] at hx
    simp only [Instr.loadAt, Instr.sureAddr, Sem.run_bind, Sem.run_pure, Result.andThen_ok] at hx
    simp only [resOf, had, asAddr, Sem.run_bind, Sem.run_pure, Result.andThen_ok]
    exact hx

theorem results_list (h : Rel ι U N t [] [] st a w) : ∀ (l : List ResultVar) (vs : List AV), resultsF P U l ⟨t, []⟩ st = some vs →
    ∃ xs : List Value, (l.mapM (resOf a.tmps)).run P w = .ok xs w ∧ VRs ι vs xs
  | [], vs, hv => by
    have : some ([] : List AV) = some vs := hv
    cases this
    exact ⟨[], by simp, by simp [VRs]⟩
  | r :: l, vs, hv => by
    change (match (resultF P U r).run ⟨t, []⟩ st, resultsF P U l ⟨t, []⟩ st with | some v, some vs => some (List.cons v vs) | _, _ => none) = some vs at hv
    cases h1 : (resultF P U r).run ⟨t, []⟩ st with
    | none => rw [h1] at hv; cases hv
    | some v =>
      cases h2 : resultsF P U l ⟨t, []⟩ st with
      | none => rw [h1, h2] at hv; cases hv
      | some vs' =>
        rw [h1, h2] at hv
        simp only [Option.some.injEq] at hv
        subst hv
        obtain ⟨x, hx, hvx⟩ := run_result h h1
        obtain ⟨xs, hxs, hvxs⟩ := results_list h l vs' h2
        refine ⟨x :: xs, ?_, by simp only [VRs]; exact ⟨x, xs, rfl, hvx, hvxs⟩⟩
        rw [List.mapM_cons]
        simp only [Sem.run_bind, hx, hxs, Result.andThen_ok, Sem.run_pure]

theorem results_def (fn : Func) (tmps : Array Value) : results fn tmps = (do let vs ← fn.results.mapM (resOf tmps); pure (if h : vs.size = 1 then vs[0] else .tuple vs)) := by
  unfold results
  congr 2

theorem results_ok (h : Rel ι U N t [] [] st a w) {fn : Func} {vs : List AV} (hv : resultsF P U fn.results.toList ⟨t, []⟩ st = some vs) :
    ∃ x, (results fn a.tmps).run P w = .ok x w ∧ VR ι (oneOf vs) x := by
  obtain ⟨xs, hxs, hvxs⟩ := results_list h _ _ hv
  refine ⟨if h : xs.toArray.size = 1 then xs.toArray[0] else .tuple xs.toArray, ?_, ?_⟩
  · rw [results_def, Array.mapM_eq_mapM_toList]
    simp only [Sem.run_bind, Sem.run_map]
    rw [hxs]
    simp
  · unfold oneOf
    split
    · rename_i v
      simp only [VRs] at hvxs
      obtain ⟨x, xs', rfl, hx, rfl⟩ := hvxs
      simpa using hx
    · rename_i vs' hne
      have hl := hvxs.length
      have : ¬ xs.toArray.size = 1 := by
        intro e
        rw [List.size_toArray, hl] at e
        match vs, e with
        | [v], _ => exact hne v rfl
      rw [dif_neg this]
      simp only [VR]
      exact ⟨_, rfl, by simpa using hvxs⟩

/-! ### entering -/
theorem argsE_get : ∀ (l : List AV) (i : Nat) (t : T AV) (x : Nat), tget (argsE l i t) x = if i ≤ x ∧ x < i + l.length then l.getD (x - i) .bad else tget t x
  | [], i, t, x => by
    have : ¬ (i ≤ x ∧ x < i + ([] : List AV).length) := by simp
    rw [if_neg this]; rfl
  | v :: l, i, t, x => by
    have e : argsE (v :: l) i t = argsE l (i + 1) ((setF (bitsR i)).run v t) := rfl
    rw [e, argsE_get l (i + 1)]
    by_cases h : x = i
    · subst h
      rw [if_neg (by omega), if_pos (by simp)]
      simp [tget, get_set]
    · by_cases h2 : i + 1 ≤ x ∧ x < i + 1 + l.length
      · rw [if_pos h2, if_pos (by simp; omega)]
        obtain ⟨k, hk⟩ : ∃ k, x - i = k + 1 := ⟨x - i - 1, by omega⟩
        have hk' : x - (i + 1) = k := by omega
        rw [hk, hk']; simp
      · rw [if_neg h2, if_neg (by simp; omega)]
        simp only [tget, get_set, if_neg h]

theorem entry_rel {args : List AV} {vs : Array Value} (hs : Sim ι st.h st.nx w) (hargs : VRs ι args vs.toList) (hfr : st.fr = []) :
    Rel ι U N (argsE args 0 .e) [] [] st { tmps := vs ++ Array.replicate (N - vs.size) undef, defers := [] } w := by
  have hl := hargs.length
  rw [Array.length_toList] at hl
  refine ⟨hs, by simp; omega, fun x hu _ => ?_, fun x i hx => by simp [idx] at hx, rfl, by rw [hfr]; simp [DRs]⟩
  rw [argsE_get]
  by_cases h : 0 ≤ x ∧ x < 0 + args.length
  · rw [if_pos h, Nat.sub_zero]
    have hx : x < vs.size := by omega
    have := hargs.get x (by omega)
    have e : (vs ++ Array.replicate (N - vs.size) undef).getD x undef = vs.toList.getD x undef := by
      simp [Array.getD_eq_getD_getElem?, Array.getElem?_append, hx, List.getD]
    rw [e]
    exact this
  · rw [if_neg h]
    have hx : ¬ x < vs.size := by omega
    have e : (vs ++ Array.replicate (N - vs.size) undef).getD x undef = undef := by
      simp only [Array.getD_eq_getD_getElem?, Array.getElem?_append, if_neg hx]
      by_cases h2 : x - vs.size < N - vs.size
      · simp [h2]
      · simp [h2]
    have e2 : tget (.e : T AV) x = undefA := by simp [tget, get_e]
    rw [e, e2]
    exact undef_ok ι

/-! ### leaving -/
def MdR (ι : Inj) : Md → FrameMode → Prop
  | .calm, u => u = .returning
  | .pan v, u => ∃ x, u = .panicking [{ v := x, recovered := false }] ∧ VR ι v x
  | .done, u => ∃ x, u = .panicking [{ v := x, recovered := true }]

theorem MdR.mono {ι ι' : Inj} (h : Le ι ι') {m : Md} {u : FrameMode} (k : MdR ι m u) : MdR ι' m u := by
  cases m with
  | calm => exact k
  | pan v => obtain ⟨x, e, hv⟩ := k; exact ⟨x, e, VR.mono h _ _ hv⟩
  | done => exact k

def Fin (ι : Inj) (w : World) (st : St) (r : ER) (R : Ending → World → Prop) : Prop :=
  match r with
  | .no => False
  | .ok v st' => ∀ x w', Done ι w st st' v x w' → R (.returned x) w'
  | .pn v st' => ∀ x w', Done ι w st st' v x w' → R (.panicked [{ v := x, recovered := false }]) w'

theorem Fin.step {ι' : Inj} {w' : World} {st' : St} {r : ER} {R : Ending → World → Prop} (hl : Le ι ι') (hg : Grew ι w ι' w') (hc : Cleanly ι ι' st st') (h : Fin ι w st r R) : Fin ι' w' st' r R := by
  cases r with
  | no => exact h
  | ok v s => exact fun x w2 ⟨ι2, l2, v2, s2, g2, c2⟩ => h x w2 ⟨ι2, hl.trans l2, v2, s2, hg.trans g2, hc.trans c2⟩
  | pn v s => exact fun x w2 ⟨ι2, l2, v2, s2, g2, c2⟩ => h x w2 ⟨ι2, hl.trans l2, v2, s2, hg.trans g2, hc.trans c2⟩

/-- what the evaluator tells of a call that was deferred -/
def DefOK (P : Program) (D : DF) : Prop :=
  ∀ (f : FuncId) (args : List AV) (m : Md) (st : St) (ι : Inj) (w : World) (vs : Array Value) (u : FrameMode), st.fr = [] → Sim ι st.h st.nx w → VRs ι args vs.toList → MdR ι m u →
    match D.run f args m st with
    | .no => True
    | .ok m' st' => Enters P f ∧ CallsD P f vs u w fun e u' w' => ∃ y ι', e = .returned y ∧ Le ι ι' ∧ MdR ι' m' u' ∧ Sim ι' st'.h st'.nx w' ∧ Grew ι w ι' w' ∧ Cleanly ι ι' st st'

theorem leave_ok {D : DF} (hD : DefOK P D) {fn : Func} {tmps : Array Value} {R : Ending → World → Prop} : ∀ (ds : List (FuncId × List AV)) (dl : List Deferred) (ι : Inj) (st : St) (w : World) (m : Md) (u : FrameMode),
    Rel ι U N t [] [] st ⟨tmps, []⟩ w → st.fr = [] → DRs ι ds dl → MdR ι m u → Fin ι w st (leaveF P U D fn.results.toList ds t st m) R → Leaves P fn tmps R dl u w
  | [], dl, ι, st, w, m, u, r, hfr, hd, hm, hf => by
    simp only [DRs] at hd
    subst hd
    cases m with
    | calm =>
      simp only [MdR] at hm
      subst hm
      change Fin ι w st (match resultsF P U fn.results.toList ⟨t, []⟩ st with | some vs => .ok (oneOf vs) st | none => .no) R at hf
      cases hv : resultsF P U fn.results.toList ⟨t, []⟩ st with
      | none => rw [hv] at hf; exact hf.elim
      | some vs =>
        rw [hv] at hf
        obtain ⟨x, hx, hvx⟩ := results_ok r hv
        exact ⟨x, hx, hf x w ⟨ι, Le.refl ι, hvx, r.sim, Grew.refl ι w, Cleanly.refl ι st⟩⟩
    | pan v =>
      obtain ⟨x, rfl, hvx⟩ := hm
      exact hf x w ⟨ι, Le.refl ι, hvx, r.sim, Grew.refl ι w, Cleanly.refl ι st⟩
    | done => exact hf.elim
  | d :: ds, dl, ι, st, w, m, u, r, hfr, hd, hm, hf => by
    simp only [DRs] at hd
    obtain ⟨cap, dargs, dl', rfl, hargs, hd'⟩ := hd
    change Fin ι w st (match D.run d.1 d.2 m st.bare with
      | .ok m' st' => (match m' with
        | .calm => leaveF P U D fn.results.toList ds t st'.bare .calm
        | .pan v => leaveF P U D fn.results.toList ds t st'.bare (.pan v)
        | .done => leaveF P U D fn.results.toList ds t st'.bare .calm)
      | .no => .no) R at hf
    have h1 := hD d.1 d.2 m st.bare ι w (dargs ++ cap) u rfl r.sim hargs hm
    generalize D.run d.1 d.2 m st.bare = dr at hf h1
    cases dr with
    | no => exact hf.elim
    | ok m' st' =>
      obtain ⟨hen, hcall⟩ := h1
      have hu : u ≠ .run := by
        cases m with
        | calm => simp only [MdR] at hm; rw [hm]; simp
        | pan v => obtain ⟨x, rfl, _⟩ := hm; simp
        | done => obtain ⟨x, rfl⟩ := hm; simp
      refine ⟨hu, .func d.1, cap, d.1, dargs ++ cap, rfl, ?_, ?_⟩
      · obtain ⟨fn', h1, h2, h3⟩ := hen
        have h2' : fn'.body.isNone = false := by cases hb : fn'.body <;> simp [hb] at h2 ⊢
        simp only [invoke, callFunc, Sem.run_bind, run_program, Result.andThen_ok, h1, h3, h2']
        simp
      · refine CallsD.mono hcall fun e u' w' he => ?_
        obtain ⟨y, ι', rfl, hl, hm', hs, hg, hcl⟩ := he
        have hcl' : Cleanly ι ι' st st'.bare := ⟨hcl.nx, hcl.dirty, hcl.keep, hcl.above, hcl.u, hcl.le, hcl.n⟩
        have r' : Rel ι' U N t [] [] st'.bare ⟨tmps, []⟩ w' := r.mono hl (st' := st'.bare) hs (by rw [hfr]; rfl)
        have hf' := Fin.step hl hg hcl' hf
        have hset : ∃ m2, MdR ι' m2 (settle u') ∧ Fin ι' w' st'.bare (leaveF P U D fn.results.toList ds t st'.bare m2) R := by
          cases m' with
          | calm =>
            simp only [MdR] at hm'
            subst hm'
            exact ⟨.calm, rfl, hf'⟩
          | pan v =>
            obtain ⟨x, rfl, hv⟩ := hm'
            exact ⟨.pan v, ⟨x, rfl, hv⟩, hf'⟩
          | done =>
            obtain ⟨x, rfl⟩ := hm'
            exact ⟨.calm, rfl, hf'⟩
        obtain ⟨m2, hm2, hf2⟩ := hset
        exact leave_ok hD ds dl' ι' st'.bare w' m2 (settle u') r' rfl (DRs.mono hl _ _ hd') hm2 hf2

end
end Go.Ev

namespace Go.Ev
open Go.RowKit

section
variable {P : Program} {ι : Inj} {w : World} {st : St} {U N : Nat} {t : T AV} {a : Act}

/-! ### deferred calls -/
theorem wpOpsS_of {ops : Array Oper} {Q : Exit → Act → List Frame → World → Prop} {cs : List Frame} : ∀ (l : List Nat) (a : Act) (w : World),
    wpO P ops (fun e a w => Q e a cs w) l a w → wpOpsS P ops Q l a cs w
  | [], a, w, h => h
  | i :: l, a, w, h => by
    simp only [wpO] at h
    simp only [wpOpsS]
    split
    · rename_i ho
      rw [ho] at h
      exact wpOpsS_of l a w h
    · rename_i o ho
      simp only [ho] at h
      split
      · rename_i hw
        rw [if_pos hw] at h
        unfold Oper.wp at h
        generalize (execOp a.eval o).run P w = r at h ⊢
        cases r with
        | halt x w' => cases x <;> exact h
        | ok n w' =>
          cases n <;> simp only [Oper.upon] at h ⊢
          case value v => exact wpOpsS_of l _ _ h
          case skip => exact wpOpsS_of l _ _ h
          case defer d => exact wpOpsS_of l _ _ h
          case enter f args =>
            refine Calls.mono h fun e w'' he => ?_
            cases e with
            | returned v => exact wpOpsS_of l _ _ he
            | panicked c => exact he
            | outgrown => exact he
          case row row args => exact Rows.mono h fun _ _ he => wpOpsS_of l _ _ he
      · rename_i hw
        rw [if_neg hw] at h
        exact wpOpsS_of l _ _ h

theorem rec_ok {o : Oper} (h : isRec o = true) : o.guard = none ∧ ∀ (ρ : Operand → Value) (w : World), (execOp ρ o).run P w = .ok .recover w := by
  unfold isRec at h
  split at h
  · rename_i c hc
    split at h
    · rename_i hb
      split at h
      · rename_i hg
        refine ⟨hg, fun ρ w => ?_⟩
        simp [execOp, hc, resolve, hb, invoke, builtin]
      · cases h
    · cases h
  · cases h

theorem rec_mode {m : Md} {u : FrameMode} (hm : MdR ι m u) (c : Frame) (cs : List Frame) (hc : c.mode = u) :
    ∃ x u', VR ι (recV m) x ∧ MdR ι (recM m) u' ∧
      (recoverD (c :: cs) = some (x, { c with mode := u' } :: cs) ∨ (recoverD (c :: cs) = none ∧ x = .nilIface ∧ { c with mode := u' } = c)) := by
  cases m with
  | calm =>
    simp only [MdR] at hm
    subst hm
    exact ⟨.nilIface, c.mode, by simp [recV, VR], hc, .inr ⟨by simp [recoverD, hc], rfl, rfl⟩⟩
  | pan v =>
    obtain ⟨x, rfl, hv⟩ := hm
    exact ⟨x, .panicking [{ v := x, recovered := true }], hv, ⟨x, rfl⟩, .inl (by simp [recoverD, hc])⟩
  | done =>
    obtain ⟨x, rfl⟩ := hm
    exact ⟨.nilIface, c.mode, by simp [recV, VR], ⟨x, hc⟩, .inr ⟨by simp [recoverD, hc], rfl, rfl⟩⟩

def DPost (ι : Inj) (w : World) (st : St) (r : DR) (e : Ending) (u' : FrameMode) (w' : World) : Prop :=
  ∃ m' st', r = .ok m' st' ∧ ∃ y ι', e = .returned y ∧ Le ι ι' ∧ MdR ι' m' u' ∧ Sim ι' st'.h st'.nx w' ∧ Grew ι w ι' w' ∧ Cleanly ι ι' st st'

theorem left_ok {fn : Func} {m : Md} {ι' : Inj} {st' : St} {w' : World} {r : Rel ι' U N t [] [] st' a w'} {c : Frame} {cs : List Frame} {u' : FrameMode} (hl : Le ι ι') (hg : Grew ι w ι' w') (hc : Cleanly ι ι' st st')
    (hm : MdR ι' m u') {dr : DR} (hdr : dr ≠ .no)
    (hdef : dr = (match st'.fr with | [] => (match resultsF P U fn.results.toList ⟨t, []⟩ st' with | some _ => .ok m st' | none => .no) | _ => .no)) :
    a.defers = [] ∧ ∃ u'', ({ c with mode := u' } :: cs) = ({ c with mode := u'' } :: cs : List Frame) ∧ ∃ v, (results fn a.tmps).run P w' = .ok v w' ∧ DPost ι w st dr (.returned v) u'' w' := by
  have hds := r.ds
  cases hfr : st'.fr with
  | cons d ds => rw [hfr] at hdef; exact absurd hdef hdr
  | nil =>
    rw [hfr] at hdef hds
    simp only [DRs] at hds
    cases hv : resultsF P U fn.results.toList ⟨t, []⟩ st' with
    | none => rw [hv] at hdef; exact absurd hdef hdr
    | some vs =>
      rw [hv] at hdef
      obtain ⟨x, hx, _⟩ := results_ok r hv
      exact ⟨hds, u', rfl, x, hx, m, st', hdef, x, ι', rfl, hl, hm, r.sim, hg, hc⟩

theorem hd_idx {ops : Array Oper} {o : Oper} {l : List Oper} (h : ops.toList = o :: l) : List.range ops.size = 0 :: (List.range' 1 l.length) ∧ ops[0]? = some o ∧ (List.range' 1 l.length).map (fun i => ops[i]?) = l.map some := by
  have hs : ops.size = l.length + 1 := by rw [← Array.length_toList, h]; rfl
  refine ⟨?_, ?_, ?_⟩
  · rw [hs, List.range_eq_range', List.range'_succ]
  · rw [← Array.getElem?_toList, h]; rfl
  · apply List.ext_getElem
    · simp
    · intro i h1 h2
      simp at h1
      simp only [List.getElem_map, List.getElem_range']
      rw [← Array.getElem?_toList, h, Nat.one_mul, Nat.add_comm]
      simp [h1]

theorem def_body {call : CallF} (hcall : CallOK P call) (hdraw : DrawOK P) {n : Nat} {fn : Func} {f : FuncId} {ops : Array Oper} {o : Oper} {l : List Oper} (hops : ops.toList = o :: l) (ho : isRec o = true)
    {id : Nat} {rest : Option Code} {B : CF} (hf : P.funcs[f]? = some fn) (hb : fn.body = some (match rest with | some c => .seq (.region id ops false) c | none => .region id ops false))
    (hB : match rest with | some c => dstsOK fn.ntmps c = true ∧ B = comp P U c | none => B = ⟨fun _ _ env st => .go env st⟩) (hd : ∀ o ∈ ops.toList, ∀ x, o.dst = some x → x < fn.ntmps)
    {args : List AV} {m : Md} {vs : Array Value} {u : FrameMode} (hfr : st.fr = []) (hs : Sim ι st.h st.nx w) (hargs : VRs ι args vs.toList) (hm : MdR ι m u)
    (hr : (compH P fn U o (compOps P U ops l (pushN o.dst [])) B).run call n args m st ≠ .no) :
    CallsD P f vs u w (DPost ι w st ((compH P fn U o (compOps P U ops l (pushN o.dst [])) B).run call n args m st)) := by
  obtain ⟨hg, hrec⟩ := rec_ok (P := P) ho
  obtain ⟨hrange, h0, hil⟩ := hd_idx hops
  refine callsD_of_wpS hf hb fun c₀ cs hc => ?_
  obtain ⟨x, u', hvx, hm', hrd⟩ := rec_mode hm c₀ cs hc
  generalize hres : (compH P fn U o (compOps P U ops l (pushN o.dst [])) B).run call n args m st = dr at hr ⊢
  have hres' : leftD P fn U (recM m) (match (compOps P U ops l (pushN o.dst [])).run call n (argsE args 0 .e) ((pushV o.dst).run (recV m) []) st with
    | .go env st => B.run call n env st
    | r => r) = dr := hres
  have r0 : Rel ι U fn.ntmps (argsE args 0 .e) [] [] st { tmps := vs ++ Array.replicate (fn.ntmps - vs.size) undef, defers := [] } w := entry_rel hs hargs hfr
  have r1 := r0.put (hd o (by rw [hops]; simp)) hvx
  have hcs : ∃ cs', cs' = { c₀ with mode := u' } :: cs ∧ ∀ (Q : Exit → Act → List Frame → World → Prop), wpOpsS P ops Q (List.range' 1 l.length) ({ tmps := vs ++ Array.replicate (fn.ntmps - vs.size) undef, defers := [] : Act }.put o.dst x) cs' w →
      wpOpsS P ops Q (List.range ops.size) { tmps := vs ++ Array.replicate (fn.ntmps - vs.size) undef, defers := [] } (c₀ :: cs) w := by
    refine ⟨_, rfl, fun Q h => ?_⟩
    rw [hrange]
    simp only [wpOpsS, h0]
    rw [if_pos (by simp [Region.wanted, hg])]
    rw [hrec]
    simp only
    rcases hrd with h1 | ⟨h1, rfl, h2⟩
    · rw [h1]; exact h
    · rw [h1]
      simp only
      rw [h2] at h
      exact h
  obtain ⟨cs', hcs', hcsW⟩ := hcs
  -- what is to hold at the end
  have fin : ∀ (r : R), leftD P fn U (recM m) r = dr → Post ι U fn.ntmps w st r (fun e a' w' => bodyPostS P fn c₀ cs (DPost ι w st dr) e a' cs' w') := by
    intro r hrr
    cases r with
    | no => exact (hr (by rw [← hrr]; rfl)).elim
    | go t' st' =>
      intro ι' a' w' hl r' hg' hc'
      have := left_ok (P := P) (ι := ι) (w := w) (st := st) (fn := fn) (r := r') (c := c₀) (cs := cs) (u' := u') hl hg' hc' (MdR.mono hl hm') (dr := dr) hr hrr.symm
      simp only [bodyPostS]
      obtain ⟨h1, u'', h2, h3⟩ := this
      exact ⟨h1, u'', by rw [hcs', h2], h3⟩
    | ex i t' st' => exact (hr (by rw [← hrr]; rfl)).elim
    | rt t' st' =>
      intro ι' a' w' hl r' hg' hc'
      have := left_ok (P := P) (ι := ι) (w := w) (st := st) (fn := fn) (r := r') (c := c₀) (cs := cs) (u' := u') hl hg' hc' (MdR.mono hl hm') (dr := dr) hr hrr.symm
      simp only [bodyPostS]
      obtain ⟨h1, u'', h2, h3⟩ := this
      exact ⟨h1, u'', by rw [hcs', h2], h3⟩
    | pn v t' st' => exact (hr (by rw [← hrr]; rfl)).elim
  cases rest with
  | none =>
    subst hB
    refine wpS_region (hcsW _ (wpOpsS_of _ _ _ ?_))
    refine ops_ok hcall (n := n) ops l _ hil (fun q hq => hd q (by rw [hops]; simp [hq])) ι _ _ _ st _ w r1 (fin _ ?_)
    rw [← hres']
    generalize (compOps P U ops l (pushN o.dst [])).run call n (argsE args 0 .e) ((pushV o.dst).run (recV m) []) st = r
    cases r <;> rfl
  | some c =>
    obtain ⟨hdc, rfl⟩ := hB
    refine wpS_seq (wpS_region (hcsW _ (wpOpsS_of _ _ _ ?_)))
    refine ops_ok hcall (n := n) ops l _ hil (fun q hq => hd q (by rw [hops]; simp [hq])) ι _ _ _ st _ w r1 ?_
    generalize (compOps P U ops l (pushN o.dst [])).run call n (argsE args 0 .e) ((pushV o.dst).run (recV m) []) st = r at hres'
    cases r with
    | no => exact (hr (by rw [← hres']; rfl)).elim
    | go t' st' =>
      intro ι' a' w' hl r' hg' hc'
      exact wpS_of_wp (comp_ok hcall hdraw c hdc ι' t' st' a' w' _ r' (Post.step hl hg' hc' (fin _ hres')))
    | ex i t' st' => exact fin _ hres'
    | rt t' st' => exact fin _ hres'
    | pn v t' st' => exact fin _ hres'

theorem okP_spec (h : okP P = true) {f : FuncId} {fn : Func} {c : Code} (hf : P.funcs[f]? = some fn) (hb : fn.body = some c) : dstsOK fn.ntmps c = true ∧ Enters P f := by
  unfold okP at h
  rw [lallB_eq, List.all_eq_true] at h
  have hm : fn ∈ P.funcs.toList := by
    rw [Array.getElem?_eq_some_iff] at hf
    obtain ⟨h1, h2⟩ := hf
    rw [← h2]; simp
  have := h fn hm
  rw [hb] at this
  obtain ⟨h1, h2⟩ := cond_and this
  refine ⟨h1, fn, hf, by rw [hb]; rfl, ?_⟩
  cases hq : fn.name == "runtime.NumGoroutine"
  · rfl
  · rw [hq] at h2; cases h2

theorem compD_ok (hok : okP P = true) {call : CallF} (hcall : CallOK P call) (hdraw : DrawOK P) (n : Nat) : DefOK P ⟨fun f args m st => (compD P f).run call n args m st⟩ := by
  intro f args m st ι w vs u hfr hs hargs hm
  have key : (compD P f).run call n args m st ≠ .no → Enters P f ∧ CallsD P f vs u w (DPost ι w st ((compD P f).run call n args m st)) := by
    intro hr
    unfold compD at hr ⊢
    cases hf : P.funcs[f]? with
    | none => rw [hf] at hr; exact absurd rfl hr
    | some fn =>
      rw [hf] at hr
      simp only at hr ⊢
      split at hr
      · rename_i id ops c hb
        obtain ⟨h1, h2⟩ := okP_spec hok hf hb
        refine ⟨h2, ?_⟩
        split at hr
        · rename_i o l hops
          cases ho : isRec o
          · rw [ho] at hr; exact absurd rfl hr
          · rw [ho] at hr
            simp only [cond_true] at hr ⊢
            obtain ⟨h3, h4⟩ := cond_and (show cond (dstsOK fn.ntmps (.region id ops false)) (dstsOK fn.ntmps c) false = true from h1)
            exact def_body hcall hdraw hops ho (rest := some c) hf hb ⟨h4, rfl⟩ (dsts_region h3) hfr hs hargs hm hr
        · exact absurd rfl hr
      · rename_i id ops hb
        obtain ⟨h1, h2⟩ := okP_spec hok hf hb
        refine ⟨h2, ?_⟩
        split at hr
        · rename_i o l hops
          cases ho : isRec o
          · rw [ho] at hr; exact absurd rfl hr
          · rw [ho] at hr
            simp only [cond_true] at hr ⊢
            exact def_body hcall hdraw hops ho (rest := none) hf hb rfl (dsts_region h1) hfr hs hargs hm hr
        · exact absurd rfl hr
      · exact absurd rfl hr
  show match (compD P f).run call n args m st with | .no => True | .ok m' st' => _
  generalize hdr : (compD P f).run call n args m st = dr at key
  cases dr with
  | no => trivial
  | ok m' st' =>
    obtain ⟨h1, h2⟩ := key (by simp)
    refine ⟨h1, CallsD.mono h2 fun e u' w' he => ?_⟩
    obtain ⟨m2, st2, e1, y, ι', e2, h3, h4, h5, h6, h7⟩ := he
    cases e1
    exact ⟨y, ι', e2, h3, h4, h5, h6, h7⟩

theorem Fin_post {ι : Inj} {w : World} {st : St} {r : ER} : (r = .no ∨ Fin ι w st r fun e w' => (∃ v st' x, r = .ok v st' ∧ e = .returned x ∧ Done ι w st st' v x w') ∨
    (∃ v st' x, r = .pn v st' ∧ e = .panicked [{ v := x, recovered := false }] ∧ Done ι w st st' v x w')) := by
  cases r with
  | no => exact .inl rfl
  | ok v st' => exact .inr fun x w' hd => .inl ⟨v, st', x, rfl, rfl, hd⟩
  | pn v st' => exact .inr fun x w' hd => .inr ⟨v, st', x, rfl, rfl, hd⟩

theorem compN_ok (hok : okP P = true) {call : CallF} (hcall : CallOK P call) (hdraw : DrawOK P) (n : Nat) : CallOK P (fun f args st => (compN P f).run call n args st) := by
  intro f args st ι w vs hs hargs
  show match (compN P f).run call n args st with | .no => True | .ok v st' => _ | .pn v st' => _
  generalize hr : (compN P f).run call n args st = r
  have key : r ≠ .no → Enters P f ∧ Calls P f vs w fun e w' => (∃ v st' x, r = .ok v st' ∧ e = .returned x ∧ Done ι w st st' v x w') ∨
    (∃ v st' x, r = .pn v st' ∧ e = .panicked [{ v := x, recovered := false }] ∧ Done ι w st st' v x w') := by
    intro hne
    unfold compN bodyOf at hr
    cases hf : P.funcs[f]? with
    | none => rw [hf] at hr; exact absurd hr.symm hne
    | some fn =>
      rw [hf] at hr
      simp only at hr
      cases hb : fn.body with
      | none => rw [hb] at hr; exact absurd hr.symm hne
      | some c =>
        rw [hb] at hr
        simp only at hr
        obtain ⟨h1, h2⟩ := okP_spec hok hf hb
        refine ⟨h2, calls_of_wp_defers hf hb ?_⟩
        have hfin := (Fin_post (ι := ι) (w := w) (st := st) (r := r)).resolve_left hne
        generalize hR : (fun e w' => (∃ v st' x, r = .ok v st' ∧ e = Ending.returned x ∧ Done ι w st st' v x w') ∨
          (∃ v st' x, r = .pn v st' ∧ e = Ending.panicked [{ v := x, recovered := false }] ∧ Done ι w st st' v x w')) = RR at hfin ⊢
        have hD := compD_ok hok hcall hdraw n
        have r0 : Rel ι (maskOf fn c) fn.ntmps (argsE args 0 .e) [] [] st.bare { tmps := vs ++ Array.replicate (fn.ntmps - vs.size) undef, defers := [] } w := entry_rel (st := st.bare) hs hargs rfl
        refine comp_ok hcall hdraw (n := n) c h1 ι _ st.bare _ w _ r0 ?_
        have hst : (⟨st.nx, st.h, st.dirty, []⟩ : St) = st.bare := rfl
        rw [hst] at hr
        generalize (comp P (maskOf fn c) c).run call n (argsE args 0 .e) st.bare = rc at hr
        have leave : ∀ (t' : T AV) (st' : St) (ι' : Inj) (a' : Act) (w' : World) (m : Md) (u : FrameMode), Le ι ι' → Rel ι' (maskOf fn c) fn.ntmps t' [] [] st' a' w' → Grew ι w ι' w' → Cleanly ι ι' st.bare st' → MdR ι' m u →
            leaveF P (maskOf fn c) ⟨fun f args m st => (compD P f).run call n args m st⟩ fn.results.toList st'.fr t' st'.bare m = r → Leaves P fn a'.tmps RR a'.defers u w' := by
          intro t' st' ι' a' w' m u hl r' hg hc hm hlr
          have r2 : Rel ι' (maskOf fn c) fn.ntmps t' [] [] st'.bare ⟨a'.tmps, []⟩ w' := ⟨r'.sim, r'.size, r'.env, r'.recs, r'.len, by simp [DRs, St.bare]⟩
          refine leave_ok hD st'.fr a'.defers ι' st'.bare w' m u r2 rfl r'.ds hm ?_
          rw [hlr]
          exact Fin.step hl hg (show Cleanly ι ι' st st'.bare from ⟨hc.nx, hc.dirty, hc.keep, hc.above, hc.u, hc.le, hc.n⟩) hfin
        cases rc with
        | no => exact absurd hr.symm hne
        | go t' st' => exact fun ι' a' w' hl r' hg hc => leave t' st' ι' a' w' .calm .returning hl r' hg hc rfl hr
        | ex i t' st' => exact absurd hr.symm hne
        | rt t' st' => exact fun ι' a' w' hl r' hg hc => leave t' st' ι' a' w' .calm .returning hl r' hg hc rfl hr
        | pn v t' st' => exact fun ι' a' w' x hl r' hg hc hv => leave t' st' ι' a' w' (.pan v) (.panicking [{ v := x, recovered := false }]) hl r' hg hc ⟨x, rfl, hv⟩ hr
  cases r with
  | no => trivial
  | ok v st' =>
    obtain ⟨h1, h2⟩ := key (by simp)
    refine ⟨h1, Calls.mono h2 fun e w' he => ?_⟩
    rcases he with ⟨v1, st1, x, e1, e2, hd⟩ | ⟨v1, st1, x, e1, _⟩
    · cases e1; exact ⟨x, e2, hd⟩
    · cases e1
  | pn v st' =>
    obtain ⟨h1, h2⟩ := key (by simp)
    refine ⟨h1, Calls.mono h2 fun e w' he => ?_⟩
    rcases he with ⟨v1, st1, x, e1, _⟩ | ⟨v1, st1, x, e1, e2, hd⟩
    · cases e1
    · cases e1; exact ⟨x, e2, hd⟩

theorem evCall_ok (hok : okP P = true) (hdraw : DrawOK P) (n : Nat) : ∀ d, CallOK P (evCall P n d)
  | 0 => fun f args st ι w vs _ _ => trivial
  | d + 1 => compN_ok hok (evCall_ok hok hdraw n d) hdraw n

/-- a closed run: what the evaluator says of a function without arguments that answers a bool holds in every world -/
theorem run_true (hok : okP P = true) (hdraw : DrawOK P) {n d : Nat} {f : FuncId} (h : isTrue (evCall P n d f [] st0) = true) (w : World) (hgl : Gl (fun _ => .unborn) w) :
    Calls P f #[] w fun e w' => e = .returned (.bool true) ∧ w'.os = w.os ∧ w'.tape = w.tape ∧ w'.output = w.output ∧ w.heap.size ≤ w'.heap.size ∧ ∀ k, k < w.heap.size → w'.heap[k]? = w.heap[k]? := by
  have hs : Sim (fun _ => .unborn) st0.h st0.nx w :=
    ⟨fun b B S e => (by cases e), fun b e => (by cases e), fun b b' B S S' e => (by cases e), fun b e => absurd rfl e, hgl⟩
  have hc := evCall_ok hok hdraw n d f [] st0 (fun _ => .unborn) w #[] hs (by simp [VRs])
  generalize evCall P n d f [] st0 = r at h hc
  cases r with
  | no => cases h
  | pn v st' => cases h
  | ok v st' =>
    obtain ⟨_, hcalls⟩ := hc
    refine Calls.mono hcalls fun e w' he => ?_
    obtain ⟨x, rfl, ι', _, hv, _, hg, _⟩ := he
    cases v <;> try (cases h; done)
    rename_i b
    have : b = true := h
    subst this
    simp only [VR] at hv
    subst hv
    exact ⟨rfl, hg.os, hg.tape, hg.output, hg.size, fun k hk => hg.keep k hk (fun b S e => by cases e)⟩

end
end Go.Ev

namespace Go.Ev
open Go.RowKit

/-! ### cells that are told to be the same -/
theorem eqCell_eq {x y : AV} (h : eqCell x y = true) : x = y := by
  unfold eqCell at h
  split at h
  all_goals try (split at h <;> try (cases h; done))
  · rename_i a _ b
    cases a <;> cases b <;> first | rfl | cases h
  · rename_i k a _ k' b
    obtain ⟨h1, h2⟩ := cond_and h
    rw [eqI_eq, decide_eq_true_iff] at h2
    rw [eqK_eq h1, h2]
  · obtain ⟨h1, h2⟩ := cond_and h
    rw [beqN] at h1 h2
    rw [h1, h2]
  · rfl
  · rename_i ex _ b' o' len' cap' sz' ex'
    obtain ⟨h1, g1⟩ := cond_and h
    obtain ⟨h2, g2⟩ := cond_and g1
    obtain ⟨h3, g3⟩ := cond_and g2
    obtain ⟨h4, g4⟩ := cond_and g3
    obtain ⟨h5, g5⟩ := cond_and g4
    clear h g1 g2 g3 g4
    rw [beqN] at h1 h2 h3 h4 h5
    subst h1; subst h2; subst h3; subst h4; subst h5
    cases ex <;> cases ex' <;> first | rfl | cases g5
  · rfl
  · rw [beqN] at h; rw [h]
  · rfl
  · rfl
  · rfl
  · cases h

theorem eqCellS_eq {x y : AV} (h : eqCellS x y = true) : x = y := by
  unfold eqCellS at h
  split at h
  · split at h <;> try (cases h; done)
    rw [strEq_eq, decide_eq_true_iff] at h
    rw [h]
  · exact eqCell_eq h

theorem eqCells_eq : ∀ {l r : List AV}, eqCells l r = true → l = r
  | [], r, h => by
    cases r with
    | nil => rfl
    | cons y r => cases h
  | x :: l, r, h => by
    cases r with
    | nil => cases h
    | cons y r =>
      obtain ⟨h1, h2⟩ := cond_and (show cond (eqCellS x y) (eqCells l r) false = true from h)
      rw [eqCellS_eq h1, eqCells_eq h2]

theorem eqAV_eq {x y : AV} (h : eqAV x y = true) : x = y := by
  unfold eqAV at h
  split at h
  · split at h <;> try (cases h; done)
    rw [eqCells_eq h]
  · exact eqCellS_eq h

/-! ### numbers that are hidden -/
def hide (ι : Inj) (n : Nat) : Inj := fun b => if b < n then ι b else .unborn

theorem hide_le (ι : Inj) (n : Nat) : Le (hide ι n) ι := fun b hb => by
  left
  unfold hide at hb ⊢
  split at hb
  · rename_i h; rw [if_pos h]
  · exact absurd rfl hb

theorem hide_at {ι : Inj} {n b B S : Nat} (h : hide ι n b = .at B S) : ι b = .at B S ∧ b < n := by
  unfold hide at h
  split at h
  · rename_i hb; exact ⟨h, hb⟩
  · cases h

theorem hide_mono {ι ι' : Inj} (h : Le ι ι') (n : Nat) : Le (hide ι n) (hide ι' n) := fun b hb => by
  unfold hide at hb ⊢
  split at hb
  · rename_i hn
    simp only [if_pos hn]
    exact h b hb
  · exact absurd rfl hb

mutual
theorem VR.hide {ι ι0 : Inj} {n : Nat} (hn : ∀ b, ι0 b ≠ .unborn → b < n) : ∀ (x : AV) (v0 v : Value), VR ι0 x v0 → VR ι x v → VR (hide ι n) x v
  | .bool _, _, _, _, k => k
  | .int _ _, _, _, _, k => k
  | .str _, _, _, _, k => k
  | .zstr _, _, _, _, k => k
  | .ptr b o, v0, v, k0, k => by
    simp only [VR] at k0 k ⊢
    have hb := hn b k0.1
    obtain ⟨h1, a, rfl, h2⟩ := k
    have e : Ev.hide ι n b = ι b := by simp [Ev.hide, hb]
    rw [e]
    exact ⟨h1, a, rfl, h2⟩
  | .nilp, _, _, _, k => k
  | .slice b o len cap sz ex, v0, v, k0, k => by
    simp only [VR] at k0 k ⊢
    have hb := hn b k0.1
    obtain ⟨h1, h2, a, C, rfl, h3, h4, h5⟩ := k
    have e : Ev.hide ι n b = ι b := by simp [Ev.hide, hb]
    rw [e]
    exact ⟨h1, h2, a, C, rfl, h3, h4, h5⟩
  | .nils, _, _, _, k => k
  | .map r, v0, v, k0, k => by
    simp only [VR] at k0 k ⊢
    have hb := hn r k0.1
    obtain ⟨h1, a, rfl, h2⟩ := k
    have e : Ev.hide ι n r = ι r := by simp [Ev.hide, hb]
    rw [e]
    exact ⟨h1, a, rfl, h2⟩
  | .nilm, _, _, _, k => k
  | .fn f caps, v0, v, k0, k => by
    simp only [VR] at k0 k ⊢
    obtain ⟨cv, rfl, hc⟩ := k
    obtain ⟨cv0, rfl, hc0⟩ := k0
    exact ⟨cv, rfl, VRs.hide hn caps _ _ hc0 hc⟩
  | .nilf, _, _, _, k => k
  | .iface t x, v0, v, k0, k => by
    simp only [VR] at k0 k ⊢
    obtain ⟨y, rfl, hy⟩ := k
    obtain ⟨y0, rfl, hy0⟩ := k0
    exact ⟨y, rfl, VR.hide hn x _ _ hy0 hy⟩
  | .nilif, _, _, _, k => k
  | .agg cs, v0, v, k0, k => by
    simp only [VR] at k0 k ⊢
    obtain ⟨cv, rfl, hc⟩ := k
    obtain ⟨cv0, rfl, hc0⟩ := k0
    exact ⟨cv, rfl, VRs.hide hn cs _ _ hc0 hc⟩
  | .tup cs, v0, v, k0, k => by
    simp only [VR] at k0 k ⊢
    obtain ⟨cv, rfl, hc⟩ := k
    obtain ⟨cv0, rfl, hc0⟩ := k0
    exact ⟨cv, rfl, VRs.hide hn cs _ _ hc0 hc⟩
  | .bad, _, _, _, k => k
theorem VRs.hide {ι ι0 : Inj} {n : Nat} (hn : ∀ b, ι0 b ≠ .unborn → b < n) : ∀ (xs : List AV) (vs0 vs : List Value), VRs ι0 xs vs0 → VRs ι xs vs → VRs (hide ι n) xs vs
  | [], _, _, _, k => k
  | x :: xs, l0, l, k0, k => by
    simp only [VRs] at k0 k ⊢
    obtain ⟨v, vs, rfl, h1, h2⟩ := k
    obtain ⟨v0, vs0, rfl, h10, h20⟩ := k0
    exact ⟨v, vs, rfl, VR.hide hn x _ _ h10 h1, VRs.hide hn xs _ _ h20 h2⟩
end

theorem MR.hide {ι ι0 : Inj} {n : Nat} (hn : ∀ b, ι0 b ≠ .unborn → b < n) : ∀ (es : List (AV × AV)) (l0 l : List MapEntry), MR ι0 es l0 → MR ι es l → MR (hide ι n) es l
  | [], _, _, _, k => k
  | e :: es, l0, l, k0, k => by
    simp only [MR] at k0 k ⊢
    obtain ⟨x, xs, rfl, h1, h2, h3⟩ := k
    obtain ⟨x0, xs0, rfl, h10, h20, h30⟩ := k0
    exact ⟨x, xs, rfl, VR.hide hn _ _ _ h10 h1, VR.hide hn _ _ _ h20 h2, MR.hide hn es _ _ h30 h3⟩

/-- of an object: its numbers lie below -/
def obnd (n : Nat) (o : AO) : Prop := ∃ ι0 S0 x0, (∀ b, ι0 b ≠ .unborn → b < n) ∧ OR ι0 S0 o x0
def vbnd (n : Nat) (v : AV) : Prop := ∃ ι0 x0, (∀ b, ι0 b ≠ .unborn → b < n) ∧ VR ι0 v x0

theorem vbnd.hide {n : Nat} {v : AV} (h : vbnd n v) {ι : Inj} {x : Value} (k : VR ι v x) : VR (hide ι n) v x := by
  obtain ⟨ι0, x0, hn, h0⟩ := h
  exact VR.hide hn v x0 x h0 k

theorem hide_hide {ι : Inj} {n m : Nat} (h : n ≤ m) : Le (hide ι n) (hide ι m) := fun b hb => by
  left
  unfold hide at hb ⊢
  split at hb
  · rename_i hn
    rw [if_pos hn, if_pos (by omega)]
  · exact absurd rfl hb

theorem vbnd.mono {n m : Nat} {v : AV} (h : vbnd n v) (hm : n ≤ m) : vbnd m v := by
  obtain ⟨ι0, x0, hn, h0⟩ := h
  exact ⟨ι0, x0, fun b hb => Nat.lt_of_lt_of_le (hn b hb) hm, h0⟩
theorem obnd.mono {n m : Nat} {o : AO} (h : obnd n o) (hm : n ≤ m) : obnd m o := by
  obtain ⟨ι0, S0, x0, hn, h0⟩ := h
  exact ⟨ι0, S0, x0, fun b hb => Nat.lt_of_lt_of_le (hn b hb) hm, h0⟩

theorem obnd.hide {n : Nat} {o : AO} (h : obnd n o) {ι : Inj} {S : Nat} {x : Obj} (k : OR ι S o x) : OR (hide ι n) S o x := by
  obtain ⟨ι0, S0, x0, hn, h0⟩ := h
  cases o with
  | row m zl z cs =>
    simp only [OR] at h0 k ⊢
    obtain ⟨c, elem, lo, hi, rfl, h1, h2, h3, h4⟩ := k
    obtain ⟨c0, elem0, lo0, hi0, rfl, _, _, _, h40⟩ := h0
    exact ⟨c, elem, lo, hi, rfl, h1, h2, h3, fun i hi => let ⟨a, v, b, d⟩ := h4 i hi; let ⟨_, v0, _, d0⟩ := h40 i hi; ⟨a, v, b, VR.hide hn _ _ _ d0 d⟩⟩
  | map es =>
    simp only [OR] at h0 k ⊢
    obtain ⟨ens, clock, rfl, hm⟩ := k
    obtain ⟨ens0, clock0, rfl, hm0⟩ := h0
    exact ⟨ens, clock, rfl, MR.hide hn _ _ _ hm0 hm⟩
  | iter s pos => exact k
  | dead => exact k

/-! ### operations that leave memory alone -/
def Pu (F : St → ER) : Prop := ∀ st v st', F st = .ok v st' → st' = st ∧ ∀ st2, F st2 = .ok v st2

theorem Pu.no : Pu fun _ => .no := fun st v st' h => by cases h
theorem Pu.ok (v : AV) : Pu fun st => .ok v st := fun st v' st' h => by cases h; exact ⟨rfl, fun _ => rfl⟩
theorem Pu.cond {b : Bool} {F G : St → ER} (hF : Pu F) (hG : Pu G) : Pu fun st => cond b (F st) (G st) := by cases b <;> assumption
theorem Pu.bool {x : AV} {F : Bool → St → ER} (h : ∀ b, Pu (F b)) : Pu fun st => onBool x fun b => F b st := by
  cases x <;> first | exact h _ | exact Pu.no
theorem Pu.ptr {x : AV} {F : Nat → Nat → St → ER} (h : ∀ b o, Pu (F b o)) : Pu fun st => onPtr x fun b o => F b o st := by
  cases x <;> first | exact h _ _ | exact Pu.no
theorem Pu.agg {x : AV} {F : List AV → St → ER} (h : ∀ b, Pu (F b)) : Pu fun st => onAgg x fun b => F b st := by
  cases x <;> first | exact h _ | exact Pu.no
theorem Pu.str {x : AV} {F : List Nat → St → ER} (h : ∀ b, Pu (F b)) : Pu fun st => onStr x fun b => F b st := by
  cases x <;> first | exact h _ | exact Pu.no
theorem Pu.some {α : Type} {x : Option α} {F : α → St → ER} (h : ∀ b, Pu (F b)) : Pu fun st => onSome x fun b => F b st := by
  cases x <;> first | exact h _ | exact Pu.no
theorem Pu.nat {x : AV} {F : Nat → St → ER} (h : ∀ b, Pu (F b)) : Pu fun st => onNat x fun b => F b st := by
  unfold onNat
  split
  · simp only [force_eq]; exact h _
  · exact Pu.no
theorem Pu.force {n : Nat} {F : Nat → St → ER} (h : ∀ b, Pu (F b)) : Pu fun st => force n fun b => F b st := by
  simp only [force_eq]; exact h _
theorem Pu.opt {x : Option OF} {d : Nat} {env : Env} {F : Nat → St → ER} (h : ∀ b, Pu (F b)) : Pu fun st => optF x d env fun b => F b st := by
  cases x
  · exact h _
  · exact Pu.nat h

end Go.Ev

namespace Go.Ev
open Go.RowKit

/-! ### operations that leave memory alone, or make one block -/
theorem Pu.mk {v : AV} {F : St → ER} (h : ∀ st, F st = .ok v st) : Pu F := fun st x st' e => by
  rw [h] at e; cases e; exact ⟨rfl, fun st2 => h st2⟩
theorem Pu.of_eq {F G : St → ER} (h : ∀ st, F st = G st) (k : Pu G) : Pu F := by
  have : F = G := funext h
  rw [this]; exact k

section
variable {P : Program} {op : Operand → OF} {env : Env}

theorem pu_build (t : TypeId) (ps : List (Nat × OF)) : Pu fun st => (buildF P t ps).run env st := by
  unfold buildF
  split
  · rename_i z fields _ _
    cases fields.toList.all fun f => (Ev.sizeOf P f.type).isSome
    · exact Pu.no
    · exact Pu.some fun _ => Pu.ok _
  · split
    · exact Pu.some fun _ => Pu.ok _
    · exact Pu.no
  · exact Pu.no

theorem pu_nilCheck (x : OF) : Pu fun st => (nilCheckF x).run env st := by
  unfold nilCheckF
  dsimp only
  generalize x.run env = v
  cases v <;> first | exact Pu.no | exact Pu.ok _

theorem pu_binOp (b : BinOp) (t : TypeId) (c : Bool) (x y : OF) : Pu fun st => (binOpF P b t c x y).run env st := by
  unfold binOpF
  split
  · split <;> first | exact Pu.no | exact Pu.some fun _ => Pu.ok _
  · split
    · dsimp only
      generalize x.run env = u; generalize y.run env = v
      cases u <;> cases v <;> first | exact Pu.no | exact Pu.some fun _ => Pu.ok _
    · dsimp only
      generalize x.run env = u; generalize y.run env = v
      cases u <;> cases v <;> first | exact Pu.no | exact Pu.some fun _ => Pu.ok _
    · dsimp only
      generalize x.run env = u; generalize y.run env = v
      cases u <;> cases v <;> first | exact Pu.no | exact Pu.cond (Pu.some fun _ => Pu.ok _) Pu.no
  · dsimp only
    generalize x.run env = u; generalize y.run env = v
    cases u <;> cases v <;> first | exact Pu.no | exact Pu.some fun _ => Pu.ok _
  · cases P.eqGuardType P.depth t
    · simp only [cond_false]
      split <;> first | exact Pu.no | exact Pu.some fun _ => Pu.ok _
    · exact Pu.no

theorem pu_unOp (b : UnOp) (x : OF) : Pu fun st => (unOpF b x).run env st := by
  unfold unOpF
  split
  · dsimp only
    generalize x.run env = v
    cases v <;> first | exact Pu.no | exact Pu.ok _
  · dsimp only
    generalize x.run env = v
    cases v <;> first | exact Pu.no | exact Pu.some fun _ => Pu.ok _
  · exact Pu.bool fun _ => Pu.ok _
  · exact Pu.no

theorem pu_slice (t : TypeId) (x : OF) (lo hi mx : Option OF) : Pu fun st => (sliceF P t x lo hi mx).run env st := by
  unfold sliceF
  split
  · split
    · exact Pu.str fun s => Pu.force fun n => Pu.opt fun l => Pu.opt fun h => Pu.cond (Pu.cond (Pu.ok _) Pu.no) Pu.no
    · exact Pu.no
  · split
    · split
      · dsimp only
        generalize x.run env = v
        cases v
        case nils => exact Pu.opt fun l => Pu.opt fun h => Pu.cond (Pu.cond (Pu.ok _) Pu.no) Pu.no
        case slice => exact Pu.opt fun l => Pu.opt fun h => Pu.cond (Pu.cond (Pu.cond (Pu.force fun k => Pu.force fun o => Pu.force fun c => Pu.ok _) Pu.no) Pu.no) Pu.no
        all_goals exact Pu.no
      · split
        · exact Pu.no
        · dsimp only
          generalize x.run env = v
          cases v
          case slice => exact Pu.opt fun l => Pu.nat fun h => Pu.nat fun m => Pu.cond (Pu.cond (Pu.cond (Pu.force fun k => Pu.force fun o => Pu.force fun c => Pu.ok _) Pu.no) Pu.no) Pu.no
          all_goals exact Pu.no
    · exact Pu.no
  · split
    · split
      · exact Pu.ptr fun b o => Pu.opt fun l => Pu.opt fun h => Pu.cond (Pu.cond (Pu.force fun k => Pu.force fun o => Pu.force fun c => Pu.ok _) Pu.no) Pu.no
      · exact Pu.no
    · exact Pu.no
  · exact Pu.no

theorem pu_fieldAddr (s : TypeId) (x : OF) (f : Nat) : Pu fun st => (fieldAddrF P s x f).run env st := by
  unfold fieldAddrF
  split
  · split
    · split
      · exact Pu.ptr fun b o => Pu.force fun o => Pu.ok _
      · exact Pu.no
    · exact Pu.no
  · exact Pu.no
theorem pu_field (s : TypeId) (x : OF) (f : Nat) : Pu fun st => (fieldF P s x f).run env st := by
  unfold fieldF
  split
  · split
    · exact Pu.agg fun cs => Pu.some fun v => Pu.ok _
    · exact Pu.no
  · exact Pu.no
theorem pu_indexAddr (t : TypeId) (x i : OF) : Pu fun st => (indexAddrF P t x i).run env st := by
  unfold indexAddrF
  split
  · split
    · exact Pu.ptr fun b o => Pu.nat fun i => Pu.cond (Pu.force fun o => Pu.ok _) Pu.no
    · exact Pu.no
  · split
    · dsimp only
      generalize x.run env = v
      cases v
      case slice => exact Pu.nat fun i => Pu.cond (Pu.force fun o => Pu.ok _) Pu.no
      all_goals exact Pu.no
    · exact Pu.no
  · exact Pu.no
theorem pu_index (t : TypeId) (x i : OF) : Pu fun st => (indexF P t x i).run env st := by
  unfold indexF
  split
  · split
    · exact Pu.agg fun cs => Pu.nat fun i => Pu.cond (Pu.some fun v => Pu.ok _) Pu.no
    · exact Pu.no
  · exact Pu.str fun s => Pu.nat fun i => Pu.cond (Pu.ok _) Pu.no
  · exact Pu.no

theorem pu_builtin (b : Builtin) (hb : b = .cap ∨ b = .min ∨ b = .max) (ts : Array TypeId) (l : List OF) : Pu fun st => (builtinF P b ts l).run env st := by
  unfold builtinF
  split
  · rcases hb with h | h | h <;> cases h
  · unfold capF
    split
    · dsimp only
      rename_i x _ _ _ _ _ _
      generalize OF.run _ env = v
      cases v
      case nils => exact Pu.ok _
      case slice b o n c sz ex => cases ex <;> first | exact Pu.no | exact Pu.ok _
      all_goals exact Pu.no
    · exact Pu.no
  · rcases hb with h | h | h <;> cases h
  · rcases hb with h | h | h <;> cases h
  · exact Pu.some fun v => Pu.ok _
  · exact Pu.some fun v => Pu.ok _
  · exact Pu.no

theorem pu_len (ts : Array TypeId) (l : List OF) (h : ∀ t r, ts.toList = t :: r → ∀ k e, P.underlying t ≠ some (.map k e)) : Pu fun st => (builtinF P .len ts l).run env st := by
  unfold builtinF
  split
  · rename_i x t r ht
    unfold lenF
    split
    · dsimp only
      generalize OF.run _ env = v
      cases v
      case str => exact Pu.force fun _ => Pu.ok _
      case zstr => exact Pu.ok _
      all_goals exact Pu.no
    · exact Pu.ok _
    · dsimp only
      generalize OF.run _ env = v
      cases v
      case nils => exact Pu.ok _
      case slice => exact Pu.ok _
      all_goals exact Pu.no
    · rename_i hu
      exact absurd hu (h _ _ ht _ _)
    · exact Pu.no
  all_goals first | exact Pu.no | contradiction

theorem pu_compOp (o : Op) (h : clOf P o = .pure) : Pu fun st => (compOp P op o).run env st := by
  cases o <;> simp only [clOf] at h <;> try (cases h; done)
  case move x => exact Pu.ok _
  case assign x => exact Pu.ok _
  case pick c a b => exact Pu.bool fun q => Pu.ok _
  case build t ps => exact pu_build t _
  case nilCheck x => exact pu_nilCheck _
  case binOp b t x y s => exact pu_binOp _ _ _ _ _
  case unOp b t x => exact pu_unOp _ _
  case makeInterface t x =>
    simp only [compOp]
    split
    · exact Pu.no
    · exact Pu.ok _
    · exact Pu.no
  case makeFunc f first caps =>
    cases f
    case func f =>
      simp only [compOp]
      split
      · exact Pu.ok _
      · exact Pu.no
    all_goals exact Pu.no
  case slice t x lo hi mx => exact pu_slice _ _ _ _ _
  case fieldAddr s x f => exact pu_fieldAddr _ _ _
  case field s x f => exact pu_field _ _ _
  case indexAddr t x i => exact pu_indexAddr _ _ _
  case index t x i => exact pu_index _ _ _
  case extract x i =>
    simp only [compOp]
    generalize (op x).run env = v
    cases v
    case tup => exact Pu.cond (Pu.ok _) Pu.no
    all_goals exact Pu.no
  case call c =>
    split at h
    · rename_i hc
      simp only [compOp, hc]
      split at h
      · rename_i t r ht
        split at h
        · cases h
        · rename_i hnm
          refine pu_len _ _ fun t' r' ht' k e hm => ?_
          rw [ht] at ht'
          cases ht'
          exact hnm k e hm
      · cases h
    · rename_i hc
      simp only [compOp, hc]
      exact pu_builtin _ (.inl rfl) _ _
    · rename_i hc
      simp only [compOp, hc]
      exact pu_builtin _ (.inr (.inl rfl)) _ _
    · rename_i hc
      simp only [compOp, hc]
      exact pu_builtin _ (.inr (.inr rfl)) _ _
    · cases h

/-- an operation that makes one block, whatever there is -/
def Mk (F : St → ER) : Prop := ∀ st v st', F st = .ok v st' → ∃ o, st' = ⟨st.nx + 1, (setF (bitsR st.nx)).run o st.h, st.dirty, st.fr⟩ ∧
  ∀ st2, st2.nx = st.nx → F st2 = .ok v ⟨st2.nx + 1, (setF (bitsR st2.nx)).run o st2.h, st2.dirty, st2.fr⟩

theorem Mk.no : Mk fun _ => .no := fun st v st' h => by cases h
theorem Mk.cond {b : Bool} {F G : St → ER} (hF : Mk F) (hG : Mk G) : Mk fun st => cond b (F st) (G st) := by cases b <;> assumption
theorem Mk.some {α : Type} {x : Option α} {F : α → St → ER} (h : ∀ b, Mk (F b)) : Mk fun st => onSome x fun b => F b st := by
  cases x <;> first | exact h _ | exact Mk.no
theorem Mk.nat {x : AV} {F : Nat → St → ER} (h : ∀ b, Mk (F b)) : Mk fun st => onNat x fun b => F b st := by
  unfold onNat
  split
  · simp only [force_eq]; exact h _
  · exact Mk.no
theorem Mk.force {n : Nat} {F : Nat → St → ER} (h : ∀ b, Mk (F b)) : Mk fun st => force n fun b => F b st := by
  simp only [force_eq]; exact h _
theorem Mk.alloc (o : AO) (f : Nat → AV) : Mk fun st => st.alloc o fun b st => .ok (f b) st := fun st v st' h => by
  simp only [St.alloc, force_eq] at h
  cases h
  refine ⟨o, rfl, fun st2 h2 => ?_⟩
  simp only [St.alloc, force_eq, h2]
theorem Mk.row (l : List AV) : Mk fun st => newRow st l := by
  unfold newRow
  exact Mk.force fun n => Mk.alloc _ _

theorem mk_compOp (o : Op) (h : clOf P o = .makes) : Mk fun st => (compOp P op o).run env st := by
  cases o <;> simp only [clOf] at h <;> try (cases h; done)
  case alloc t =>
    simp only [compOp]
    cases zeroCells P t with
    | none => exact Mk.no
    | some z =>
      dsimp only
      cases lall AV.cell z
      · exact Mk.no
      · exact Mk.row _
  case box t x => exact Mk.cond (Mk.row _) Mk.no
  case buildSlice t n ps =>
    simp only [compOp]
    unfold buildSliceF
    split
    · split
      · generalize cond _ _ false = cc
        cases cc
        · exact Mk.no
        · exact Mk.some fun cells => Mk.cond (Mk.force fun n => Mk.alloc _ _) Mk.no
      · exact Mk.no
    · exact Mk.no
  case makeMap t r =>
    cases r with
    | none => exact Mk.alloc _ _
    | some r => exact Mk.no
  case makeSlice t l c =>
    simp only [compOp]
    unfold makeSliceF
    split
    · split
      · generalize cond _ _ false = cc
        cases cc
        · exact Mk.no
        · exact Mk.nat fun l => Mk.nat fun c => Mk.cond (Mk.cond (Mk.cond (Mk.force fun n => Mk.alloc _ _) Mk.no) Mk.no) Mk.no
      · exact Mk.no
    · exact Mk.no
  case call c =>
    exfalso
    split at h
    · split at h
      · split at h <;> cases h
      · cases h
    all_goals cases h

/-- a load -/
theorem load_st {t : TypeId} {x : OF} {st st' : St} {v : AV} (h : (loadF P t x).run env st = .ok v st') : st' = st ∧ (loadK P t).run (x.run env) st.h = some v := by
  unfold loadF at h
  dsimp only at h
  cases hk : (loadK P t).run (x.run env) st.h with
  | none => rw [hk] at h; cases h
  | some u => rw [hk] at h; cases h; exact ⟨rfl, rfl⟩

theorem loadK_obj {t : TypeId} {b o : Nat} {h h2 : T AO} (e : hget h b = hget h2 b) : (loadK P t).run (.ptr b o) h = (loadK P t).run (.ptr b o) h2 := by
  unfold loadK
  split
  · simp only [e]
  · simp only [e]
  · rfl

theorem loadK_ptr {t : TypeId} {a v : AV} {h : T AO} (e : (loadK P t).run a h = some v) : ∃ b o, a = .ptr b o := by
  unfold loadK at e
  split at e
  · cases a <;> first | (cases e; done) | exact ⟨_, _, rfl⟩
  · cases a <;> first | (cases e; done) | exact ⟨_, _, rfl⟩
  · cases e

end

/-! ### what one operation of such a region does -/
def watchSt (w : Bool) (st : St) : St := cond w (stW st) st
def unSt (w : Bool) (st st1 : St) : St := cond w ⟨st1.nx, st1.h, st.dirty, st1.fr⟩ st1

theorem unW_eq {st st1 : St} {k : St → R} : unW st st1 k = cond (Nat.ble st.nx st1.dirty) (k ⟨st1.nx, st1.h, st.dirty, st1.fr⟩) .no := by
  simp only [unW, force_eq]

def OpR (P : Program) (op : Operand → OF) (w : Bool) (call : CallF) (o : Op) (env : Env) (st : St) (v : AV) (st' : St) : Prop :=
  ∃ st1, (w = true → st.nx ≤ st1.dirty) ∧
    match callOf o with
    | some (f, args) => ∃ fid caps, (op f).run env = .fn fid caps ∧ call fid (lapp (lmap (fun x => (op x).run env) args) caps) (watchSt w st) = .ok v st1 ∧ st' = back st (unSt w st st1)
    | none => (compOp P op o).run env (watchSt w st) = .ok v st1 ∧ st' = unSt w st st1

def teOf (P : Program) (op : Operand → OF) (o : Op) (env : Env) (v : AV) (st st' : St) : TE :=
  match clOf P o with
  | .pure => .none
  | .makes => .none
  | .reads => (match o with | .load _ a => .rd ((op a).run env) v | _ => .none)
  | .writes => .wr st.h st'.h
  | .other => .wr st.h st'.h

theorem callOf_other {P : Program} {o : Op} {x : Operand × List Operand} (h : callOf o = some x) : clOf P o = .other := by
  unfold callOf at h
  split at h
  · rename_i c
    split at h
    · rename_i f hf
      simp only [clOf, hf]
    · cases h
  · cases h

/-- a call that panics -/
def OpP (op : Operand → OF) (call : CallF) (o : Op) (env : Env) (st : St) (v : AV) (st' : St) : Prop :=
  ∃ f args fid caps st1, callOf o = some (f, args) ∧ (op f).run env = .fn fid caps ∧ call fid (lapp (lmap (fun x => (op x).run env) args) caps) st = .pn v st1 ∧ st' = back st st1

theorem opD_ok {P : Program} {op : Operand → OF} {w : Bool} {call : CallF} {o : Op} {env : Env} {st : St} {k : AV → TE → St → R} {kp : AV → St → R} (hw : w = true → clOf P o = .other)
    (h : (opD P op w o).run call env st k kp ≠ .no) : (∃ v st', OpR P op w call o env st v st' ∧ (opD P op w o).run call env st k kp = k v (teOf P op o env v st st') st') ∨
      (∃ v st', OpP op call o env st v st' ∧ (opD P op w o).run call env st k kp = kp v st') := by
  unfold opD at h ⊢
  unfold OpR OpP
  cases hc : callOf o with
  | some x =>
    obtain ⟨f, args⟩ := x
    rw [hc] at h
    have ho := callOf_other (P := P) hc
    dsimp only at h ⊢
    cases w
    · simp only [cond_false] at h ⊢
      cases hf : (op f).run env <;> rw [hf] at h <;> try (exact absurd rfl h)
      rename_i fid caps
      dsimp only at h ⊢
      cases he : call fid (lapp (lmap (fun x => (op x).run env) args) caps) st with
      | no => rw [he] at h; exact absurd rfl h
      | pn v s => exact .inr ⟨v, back st s, ⟨f, args, fid, caps, s, rfl, hf, he, rfl⟩, rfl⟩
      | ok v s =>
        refine .inl ⟨v, back st s, ⟨s, (fun h => by cases h), fid, caps, rfl, he, rfl⟩, ?_⟩
        simp only [teOf, ho]; rfl
    · simp only [cond_true] at h ⊢
      cases hf : (op f).run env <;> rw [hf] at h <;> try (exact absurd rfl h)
      rename_i fid caps
      dsimp only at h ⊢
      cases he : call fid (lapp (lmap (fun x => (op x).run env) args) caps) (stW st) with
      | no => rw [he] at h; exact absurd rfl h
      | pn v s => rw [he] at h; exact absurd rfl h
      | ok v s =>
        rw [he] at h
        dsimp only at h ⊢
        rw [unW_eq] at h ⊢
        cases hb : Nat.ble st.nx s.dirty
        · rw [hb] at h; exact absurd rfl h
        · rw [bleN] at hb
          refine .inl ⟨v, back st ⟨s.nx, s.h, st.dirty, s.fr⟩, ⟨s, fun _ => hb, fid, caps, rfl, he, rfl⟩, ?_⟩
          simp only [teOf, ho]; rfl
  | none =>
    rw [hc] at h
    have plain : ∀ (w : Bool) (te : AV → T AO → T AO → Env → TE), (w = false) → (∀ v st', te v st.h st'.h env = teOf P op o env v st st') → (plainD P op o te).run call env st k kp ≠ .no →
        ∃ v st', (∃ st1, (w = true → st.nx ≤ st1.dirty) ∧ (compOp P op o).run env (watchSt w st) = .ok v st1 ∧ st' = unSt w st st1) ∧ (plainD P op o te).run call env st k kp = k v (teOf P op o env v st st') st' := by
      intro w te hw hte hne
      subst hw
      unfold plainD at hne ⊢
      dsimp only at hne ⊢
      cases he : (compOp P op o).run env st with
      | no => rw [he] at hne; exact absurd rfl hne
      | pn v s => rw [he] at hne; exact absurd rfl hne
      | ok v s =>
        refine ⟨v, s, ⟨s, (fun h => by cases h), he, rfl⟩, ?_⟩
        dsimp only
        rw [hte]
    dsimp only at h ⊢
    have hwf : clOf P o ≠ .other → w = false := fun hne => by
      cases w
      · rfl
      · exact absurd (hw rfl) hne
    left
    split at h
    · rename_i hcl
      exact plain w _ (hwf (by rw [hcl]; simp)) (fun v st' => by simp only [teOf, hcl]) h
    · rename_i hcl
      exact plain w _ (hwf (by rw [hcl]; simp)) (fun v st' => by simp only [teOf, hcl]) h
    · rename_i hcl
      exact plain w _ (hwf (by rw [hcl]; simp)) (fun v st' => by simp only [teOf, hcl]) h
    · exact absurd rfl h
    · rename_i hcl
      exact plain w _ (hwf (by rw [hcl]; simp)) (fun v st' => by simp only [teOf, hcl]) h
    · rename_i o2 c2 o1 hcl
      cases w
      · simp only [cond_false] at h ⊢
        exact plain false _ rfl (fun v st' => by simp only [teOf, hcl]) h
      · simp only [cond_true] at h ⊢
        cases he : (compOp P op o2).run env (stW st) with
        | no => rw [he] at h; exact absurd rfl h
        | pn v s => rw [he] at h; exact absurd rfl h
        | ok v s =>
          rw [he] at h
          dsimp only at h ⊢
          rw [unW_eq] at h ⊢
          cases hb : Nat.ble st.nx s.dirty
          · rw [hb] at h; exact absurd rfl h
          · rw [bleN] at hb
            refine ⟨v, ⟨s.nx, s.h, st.dirty, s.fr⟩, ⟨s, fun _ => hb, he, rfl⟩, ?_⟩
            simp only [teOf, hcl]; rfl

/-! ### the trace of a region in the order of its text -/
def dstAt (ops : Array Oper) (p : Nat) : Option Tmp := (ops[p]?).bind (·.dst)
def nsAt (ops : Array Oper) : Nat → List Nat
  | 0 => []
  | p + 1 => pushN (dstAt ops p) (nsAt ops p)
def rsAt (ops : Array Oper) (V : Nat → AV) : Nat → List AV
  | 0 => []
  | p + 1 => (pushV (dstAt ops p)).run (V p) (rsAt ops V p)
def tbAt (E : Nat → TE) : Nat → List TE
  | 0 => []
  | p + 1 => E p :: tbAt E p
def esAt : Nat → List Nat
  | 0 => []
  | p + 1 => p :: esAt p

theorem rsAt_congr {ops : Array Oper} {V W : Nat → AV} : ∀ p, (∀ i, i < p → V i = W i) → rsAt ops V p = rsAt ops W p
  | 0, _ => rfl
  | p + 1, h => by simp only [rsAt]; rw [h p (by omega), rsAt_congr p fun i hi => h i (by omega)]
theorem tbAt_congr {V W : Nat → TE} : ∀ p, (∀ i, i < p → V i = W i) → tbAt V p = tbAt W p
  | 0, _ => rfl
  | p + 1, h => by simp only [tbAt]; rw [h p (by omega), tbAt_congr p fun i hi => h i (by omega)]

structure TrAt (P : Program) (call : CallF) (U : Nat) (ops : Array Oper) (t : T AV) (ab : Bool) (p : Nat) (rs : List AV) (tb : List TE) (s : St) (x : Bool) (v : AV) (te : TE) (s' : St) (o : Oper) : Prop where
  hop : ops[p]? = some o
  out : ab = true → x = false
  want : ab = false → match wantedF (opdF U (nsAt ops p)) ops o with | none => x = true | some wf => wf.run ⟨t, rs⟩ = some x
  run : x = true → OpR P (opdF U (nsAt ops p)) (watch P ops p o) call o.op ⟨t, rs⟩ s v s' ∧ te = teOf P (opdF U (nsAt ops p)) o.op ⟨t, rs⟩ v s s' ∧ held P (loadT o.op) te tb (partners P ops (esAt p) p o) = true
  skip : x = false → v = undefA ∧ te = .none ∧ s' = s

theorem watch_other {P : Program} {ops : Array Oper} {i : Nat} {o : Oper} (h : watch P ops i o = true) : clOf P o.op = .other := by
  unfold watch at h
  simp only [Bool.and_eq_true] at h
  have := h.1
  unfold isOther at this
  split at this
  · assumption
  · cases this

/-- what a run of such operations comes to: they all have run, or one has panicked -/
def Traced (P : Program) (call : CallF) (n U : Nat) (ops : Array Oper) (t : T AV) (fin : List Nat → RD) (pan : Nat → List Nat → List Nat → AV → St → RD) (abs : Nat → Bool) (p : Nat) (V0 : Nat → AV) (E0 : Nat → TE) (st : St) (r : R) : Prop :=
  ∃ (σ : Nat → St) (V : Nat → AV) (E : Nat → TE) (ex : Nat → Bool) (m : Nat), (∀ i, i < p → V i = V0 i) ∧ (∀ i, i < p → E i = E0 i) ∧ σ p = st ∧ p ≤ m ∧
    (∀ i, p ≤ i → i < m → ∃ o, TrAt P call U ops t (abs i) i (rsAt ops V i) (tbAt E i) (σ i) (ex i) (V i) (E i) (σ (i + 1)) o) ∧
    ((m = ops.size ∧ r = (fin (nsAt ops m)).run call n t (rsAt ops V m) (tbAt E m) (σ m)) ∨
     (m < ops.size ∧ ∃ o v st', ops[m]? = some o ∧ abs m = false ∧ (match wantedF (opdF U (nsAt ops m)) ops o with | none => True | some wf => wf.run ⟨t, rsAt ops V m⟩ = some true) ∧
        OpP (opdF U (nsAt ops m)) call o.op ⟨t, rsAt ops V m⟩ (σ m) v st' ∧ r = (pan m (esAt m) (nsAt ops m) v st').run call n t (rsAt ops V m) (tbAt E m) (σ m)))

theorem seq_trace {P : Program} {call : CallF} {n U : Nat} {ops : Array Oper} {t : T AV} (fin : List Nat → RD) (pan : Nat → List Nat → List Nat → AV → St → RD) (abs : Nat → Bool) : ∀ (k p : Nat), p + k = ops.size → ∀ (V0 : Nat → AV) (E0 : Nat → TE) (st : St),
    (seqD P U ops fin pan abs (List.range' p k) (esAt p) (nsAt ops p)).run call n t (rsAt ops V0 p) (tbAt E0 p) st ≠ .no →
    Traced P call n U ops t fin pan abs p V0 E0 st ((seqD P U ops fin pan abs (List.range' p k) (esAt p) (nsAt ops p)).run call n t (rsAt ops V0 p) (tbAt E0 p) st)
  | 0, p, hp, V0, E0, st, h => by
    have : p = ops.size := by omega
    subst this
    exact ⟨fun _ => st, V0, E0, fun _ => true, ops.size, fun _ _ => rfl, fun _ _ => rfl, rfl, Nat.le_refl _, fun i h1 h2 => by omega, .inl ⟨rfl, rfl⟩⟩
  | k + 1, p, hp, V0, E0, st, h => by
    have hlt : p < ops.size := by omega
    obtain ⟨o, ho⟩ : ∃ o, ops[p]? = some o := ⟨ops[p], by simp [hlt]⟩
    have hd : dstAt ops p = o.dst := by simp [dstAt, ho]
    have e : seqD P U ops fin pan abs (List.range' p (k + 1)) (esAt p) (nsAt ops p) =
        cond (abs p) (skipD o.dst (seqD P U ops fin pan abs (List.range' (p + 1) k) (esAt (p + 1)) (nsAt ops (p + 1))))
          (guardD (wantedF (opdF U (nsAt ops p)) ops o) o.dst
            (stepD P (opdF U (nsAt ops p)) (watch P ops p o) (partners P ops (esAt p) p o) o (seqD P U ops fin pan abs (List.range' (p + 1) k) (esAt (p + 1)) (nsAt ops (p + 1))) (pan p (esAt p) (nsAt ops p)))
            (seqD P U ops fin pan abs (List.range' (p + 1) k) (esAt (p + 1)) (nsAt ops (p + 1)))) := by
      have e1 : seqD P U ops fin pan abs (p :: List.range' (p + 1) k) (esAt p) (nsAt ops p) = (match ops[p]? with
        | some o => cond (abs p) (skipD o.dst (seqD P U ops fin pan abs (List.range' (p + 1) k) (p :: esAt p) (pushN o.dst (nsAt ops p))))
          (guardD (wantedF (opdF U (nsAt ops p)) ops o) o.dst
            (stepD P (opdF U (nsAt ops p)) (watch P ops p o) (partners P ops (esAt p) p o) o (seqD P U ops fin pan abs (List.range' (p + 1) k) (p :: esAt p) (pushN o.dst (nsAt ops p))) (pan p (esAt p) (nsAt ops p)))
            (seqD P U ops fin pan abs (List.range' (p + 1) k) (p :: esAt p) (pushN o.dst (nsAt ops p))))
        | none => NORD) := rfl
      rw [List.range'_succ, e1, ho]
      simp only [esAt, nsAt, hd]
    rw [e] at h ⊢
    -- what follows the operation
    have follow : ∀ (x : Bool) (v : AV) (te : TE) (st' : St), TrAt P call U ops t (abs p) p (rsAt ops V0 p) (tbAt E0 p) st x v te st' o →
        (seqD P U ops fin pan abs (List.range' (p + 1) k) (esAt (p + 1)) (nsAt ops (p + 1))).run call n t ((pushV o.dst).run v (rsAt ops V0 p)) (List.cons te (tbAt E0 p)) st' ≠ .no →
        Traced P call n U ops t fin pan abs p V0 E0 st ((seqD P U ops fin pan abs (List.range' (p + 1) k) (esAt (p + 1)) (nsAt ops (p + 1))).run call n t ((pushV o.dst).run v (rsAt ops V0 p)) (List.cons te (tbAt E0 p)) st') := by
      intro x v te st' htr hne
      have hV : ∀ i, i < p → (fun i => if i = p then v else V0 i) i = V0 i := fun i hi => by simp only; rw [if_neg (by omega)]
      have hE : ∀ i, i < p → (fun i => if i = p then te else E0 i) i = E0 i := fun i hi => by simp only; rw [if_neg (by omega)]
      have h1 : rsAt ops (fun i => if i = p then v else V0 i) (p + 1) = (pushV o.dst).run v (rsAt ops V0 p) := by
        simp only [rsAt, hd, if_true]
        rw [rsAt_congr p hV]
      have h2 : tbAt (fun i => if i = p then te else E0 i) (p + 1) = te :: tbAt E0 p := by
        simp only [tbAt, if_true]
        rw [tbAt_congr p hE]
      rw [← h1, ← h2] at hne ⊢
      obtain ⟨σ, V, E, ex, m, k1, k2, k3, k6, k4, k5⟩ := seq_trace fin pan abs k (p + 1) (by omega) _ _ st' hne
      have g1 : ∀ i, i < p → V i = V0 i := fun i hi => (k1 i (by omega)).trans (hV i hi)
      have g2 : ∀ i, i < p → E i = E0 i := fun i hi => (k2 i (by omega)).trans (hE i hi)
      refine ⟨fun i => if i = p then st else σ i, V, E, fun i => if i = p then x else ex i, m, g1, g2, by simp, by omega, fun i hi hi2 => ?_, ?_⟩
      · by_cases hip : i = p
        · subst hip
          refine ⟨o, ?_⟩
          simp only [if_true]
          rw [if_neg (by omega), k3, rsAt_congr i g1, tbAt_congr i g2, k1 i (by omega), k2 i (by omega)]
          simpa using htr
        · simp only [if_neg hip]
          rw [if_neg (by omega)]
          exact k4 i (by omega) hi2
      · simp only
        rw [if_neg (by omega)]
        exact k5
    -- the operation itself
    have step : abs p = false → (stepD P (opdF U (nsAt ops p)) (watch P ops p o) (partners P ops (esAt p) p o) o (seqD P U ops fin pan abs (List.range' (p + 1) k) (esAt (p + 1)) (nsAt ops (p + 1))) (pan p (esAt p) (nsAt ops p))).run call n t (rsAt ops V0 p) (tbAt E0 p) st ≠ .no →
        (match wantedF (opdF U (nsAt ops p)) ops o with | none => true = true | some wf => wf.run ⟨t, rsAt ops V0 p⟩ = some true) →
        Traced P call n U ops t fin pan abs p V0 E0 st ((stepD P (opdF U (nsAt ops p)) (watch P ops p o) (partners P ops (esAt p) p o) o (seqD P U ops fin pan abs (List.range' (p + 1) k) (esAt (p + 1)) (nsAt ops (p + 1))) (pan p (esAt p) (nsAt ops p))).run call n t (rsAt ops V0 p) (tbAt E0 p) st) := by
      intro hab hne hw
      unfold stepD at hne ⊢
      dsimp only at hne ⊢
      rcases opD_ok (fun hwt => watch_other hwt) hne with ⟨v, st', hO, hk⟩ | ⟨v, st', hO, hk⟩
      · rw [hk] at hne ⊢
        try dsimp only at hne ⊢
        cases hh : held P (loadT o.op) (teOf P (opdF U (nsAt ops p)) o.op ⟨t, rsAt ops V0 p⟩ v st st') (tbAt E0 p) (partners P ops (esAt p) p o)
        · rw [hh] at hne; exact absurd rfl hne
        · rw [hh] at hne
          exact follow true v _ st' ⟨ho, (fun h => by simp_all), fun _ => hw, fun _ => ⟨hO, rfl, hh⟩, (fun h => by cases h)⟩ hne
      · rw [hk]
        refine ⟨fun _ => st, V0, E0, fun _ => true, p, fun _ _ => rfl, fun _ _ => rfl, rfl, Nat.le_refl _, fun i h1 h2 => by omega, .inr ⟨hlt, o, v, st', ho, hab, ?_, hO, rfl⟩⟩
        split at hw
        · trivial
        · exact hw
    cases hab : abs p
    · rw [hab] at h
      simp only [cond_false] at h ⊢
      unfold guardD at h ⊢
      cases hwf : wantedF (opdF U (nsAt ops p)) ops o with
      | none =>
        rw [hwf] at h step
        exact step hab h rfl
      | some wf =>
        rw [hwf] at h step
        simp only at h ⊢ step
        cases hb : wf.run ⟨t, rsAt ops V0 p⟩ with
        | none => rw [hb] at h; exact absurd rfl h
        | some b =>
          rw [hb] at h step
          dsimp only at h ⊢
          cases b
          · exact follow false undefA .none st ⟨ho, (fun h => by simp_all), (fun _ => by rw [hwf]; exact hb), (fun h => by cases h), fun _ => ⟨rfl, rfl, rfl⟩⟩ h
          · exact step hab h rfl
    · rw [hab] at h
      exact follow false undefA .none st ⟨ho, fun _ => rfl, (fun h => by simp_all), (fun h => by cases h), fun _ => ⟨rfl, rfl, rfl⟩⟩ h

end Go.Ev

namespace Go.Ev
open Go.RowKit

/-! ### what a run of one operation comes to -/
def Runs (P : Program) (o : Oper) (a : Act) (w : World) (R : Value → World → Prop) : Prop :=
  (∃ x w', ((execOp a.eval o).run P w = .ok (.value x) w' ∨ ((execOp a.eval o).run P w = .ok .skip w' ∧ x = undef)) ∧ R x w') ∨
  (∃ f vs, (execOp a.eval o).run P w = .ok (.enter f vs) w ∧ Calls P f vs w fun e w' => ∃ x, e = .returned x ∧ R x w')

theorem Runs.wp {P : Program} {o : Oper} {a : Act} {w : World} {R : Value → World → Prop} (h : Runs P o a w R) {K : Act → World → Prop} {Q : Exit → Act → World → Prop}
    (hk : ∀ x w', R x w' → K (a.put o.dst x) w') : o.wp P a w K Q := by
  unfold Oper.wp
  rcases h with ⟨x, w', h1, hR⟩ | ⟨f, vs, h1, h2⟩
  · rcases h1 with h1 | ⟨h1, rfl⟩
    · rw [h1]; exact hk x w' hR
    · rw [h1]; exact hk undef w' hR
  · rw [h1]
    exact Calls.mono h2 fun e w' he => by
      obtain ⟨x, rfl, hR⟩ := he
      exact hk x w' hR

theorem Runs.ex {P : Program} {o : Oper} {a : Act} {w : World} {R : Value → World → Prop} (h : Runs P o a w R) : ∃ x w', R x w' := by
  rcases h with ⟨x, w', _, hR⟩ | ⟨f, vs, _, h2⟩
  · exact ⟨x, w', hR⟩
  · obtain ⟨e, w', _, ⟨x, _, hR⟩, _⟩ := h2 []
    exact ⟨x, w', hR⟩

def noDefer (o : Op) : Bool := match o with | .defer _ => false | _ => true

theorem unSt_h (w : Bool) (st st1 : St) : (unSt w st st1).h = st1.h ∧ (unSt w st st1).nx = st1.nx ∧ (unSt w st st1).fr = st1.fr := by cases w <;> exact ⟨rfl, rfl, rfl⟩
theorem watchSt_h (w : Bool) (st : St) : (watchSt w st).h = st.h ∧ (watchSt w st).nx = st.nx ∧ (watchSt w st).fr = st.fr := by cases w <;> exact ⟨rfl, rfl, rfl⟩

theorem Cleanly.unSt {ι ι' : Inj} {w : Bool} {st st1 : St} (h : Cleanly ι ι' (watchSt w st) st1) (hd : w = true → st.nx ≤ st1.dirty) : Cleanly ι ι' st (unSt w st st1) := by
  cases w
  · exact h
  · have hd := hd rfl
    exact ⟨h.nx, Nat.le_refl _, fun b hb _ => h.keep b hb (Nat.lt_of_lt_of_le hb hd), h.above, h.u, h.le, h.n⟩

/-- what an operation leaves behind -/
structure Left (ι : Inj) (w : World) (wch : Bool) (st : St) (v : AV) (st' : St) (ι' : Inj) (x : Value) (w' : World) : Prop where
  le : Le ι ι'
  v : VR ι' v x
  sim : Sim ι' st'.h st'.nx w'
  grew : Grew ι w ι' w'
  cl : Cleanly ι ι' st st'
  fr : st'.fr = st.fr
  quiet : wch = true → ∀ b, b < st.nx → hget st'.h b = hget st.h b

theorem opR_runs {P : Program} {call : CallF} (hcall : CallOK P call) {ι : Inj} {w : World} {o : Oper} {a : Act} {op : Operand → OF} {wch : Bool} {env : Env} {st : St} {v : AV} {st' : St}
    (hno : noDefer o.op = true) (hO : OpR P op wch call o.op env st v st') (k : Sim ι st.h st.nx w) (hx : ∀ x ∈ o.op.operands.toList, VR ι ((op x).run env) (a.eval x)) :
    Runs P o a w fun x w' => ∃ ι', Left ι w wch st v st' ι' x w' := by
  obtain ⟨st1, hd, hO⟩ := hO
  have k' : Sim ι (watchSt wch st).h (watchSt wch st).nx w := by rw [(watchSt_h wch st).1, (watchSt_h wch st).2.1]; exact k
  have quiet : ∀ {ι' : Inj}, Cleanly ι ι' (watchSt wch st) st1 → wch = true → ∀ b, b < st.nx → hget st1.h b = hget st.h b := by
    intro ι' hcl hw b hb
    have h1 := hd hw
    subst hw
    exact hcl.keep b hb (Nat.lt_of_lt_of_le hb h1)
  cases hco : callOf o.op with
  | some p =>
    obtain ⟨f, args⟩ := p
    rw [hco] at hO
    dsimp only at hO
    obtain ⟨fid, caps, hfv, he, rfl⟩ := hO
    have hcs : ∃ c, o.op = .call c ∧ c.callee = .value f ∧ args = c.args.toList := by
      unfold callOf at hco
      split at hco
      · rename_i c hoc
        split at hco
        · rename_i f' hf'
          cases hco
          exact ⟨c, hoc, hf', rfl⟩
        · cases hco
      · cases hco
    obtain ⟨c, hoc, hcf, rfl⟩ := hcs
    rw [hoc] at hx
    have hvf := hx f (by simp [Op.operands, Call.operands, hcf])
    rw [hfv] at hvf
    simp only [VR] at hvf
    obtain ⟨cv, hcv, hcaps⟩ := hvf
    simp only [lapp_eq, lmap_eq] at he
    have hargs : VRs ι (c.args.toList.map (fun x => (op x).run env) ++ caps) ((c.args.map a.eval) ++ cv).toList := by
      rw [Array.toList_append, Array.toList_map]
      exact (VRs.map_of _ fun x hxm => hx x (by simp [Op.operands, Call.operands]; right; simpa using hxm)).append hcaps
    have hC := hcall fid _ (watchSt wch st) ι w ((c.args.map a.eval) ++ cv) k' hargs
    rw [he] at hC
    obtain ⟨hen, hcs⟩ := hC
    refine .inr ⟨fid, (c.args.map a.eval) ++ cv, call_run hoc hcf hcv hen, Calls.mono hcs fun e w' he => ?_⟩
    obtain ⟨x, rfl, ι', hl, hv, hs, hg, hcl⟩ := he
    refine ⟨x, rfl, ι', hl, hv, ?_, hg, ?_, rfl, ?_⟩
    · show Sim ι' (unSt wch st st1).h (unSt wch st st1).nx w'
      rw [(unSt_h wch st st1).1, (unSt_h wch st st1).2.1]; exact hs
    · have := hcl.unSt hd
      exact ⟨this.nx, this.dirty, this.keep, this.above, this.u, this.le, this.n⟩
    · intro hw b hb
      show hget (unSt wch st st1).h b = _
      rw [(unSt_h wch st st1).1]
      exact quiet hcl hw b hb
  | none =>
    rw [hco] at hO
    dsimp only at hO
    obtain ⟨he, rfl⟩ := hO
    have hcalm : calmOp o.op = true := by
      cases hcc : calmOp o.op
      · exfalso
        cases ho : o.op <;> rw [ho] at hcc hno hco he <;> simp only [calmOp] at hcc <;> try (cases hcc; done)
        case call c =>
          simp only [compOp] at he
          split at hcc
          · rename_i b hb
            simp only [hb] at he
            cases b <;> simp only [noRec] at hcc <;> try (cases hcc; done)
            have : builtinF P .recover c.argTypes (lmap op c.args.toList) = NOE := by
              unfold builtinF
              split <;> first | rfl | contradiction | simp_all
            rw [this] at he
            cases he
          · rename_i hnb
            cases hcl : c.callee with
            | builtin b => exact hnb b hcl
            | value f => simp [callOf, hcl] at hco
            | invoke r m => rw [hcl] at he; cases he
        case defer c => cases hno
      · rfl
    have hres := exec_ok (P := P) (ρ := a.eval) (op := op) (env := env) hcalm k' hx
    rw [he] at hres
    obtain ⟨ι', x, w', hr, hl, hv, hs, hg, hcl, hfr⟩ := hres
    refine .inl ⟨x, w', hr, ι', hl, hv, ?_, hg, hcl.unSt hd, ?_, ?_⟩
    · rw [(unSt_h wch st st1).1, (unSt_h wch st st1).2.1]; exact hs
    · rw [(unSt_h wch st st1).2.2, hfr, (watchSt_h wch st).2.2]
    · intro hw b hb
      rw [(unSt_h wch st st1).1]
      exact quiet hcl hw b hb

/-! ### the last of some numbers -/
open Classical in
noncomputable def lastP (A : Nat → Prop) : Nat → Option Nat
  | 0 => none
  | k + 1 => if A k then some k else lastP A k

theorem lastP_congr {A B : Nat → Prop} : ∀ m, (∀ p, p < m → (A p ↔ B p)) → lastP A m = lastP B m
  | 0, _ => rfl
  | m + 1, h => by
    simp only [lastP]
    rw [lastP_congr m fun p hp => h p (by omega)]
    by_cases ha : A m
    · rw [if_pos ha, if_pos ((h m (by omega)).1 ha)]
    · rw [if_neg ha, if_neg fun hb => ha ((h m (by omega)).2 hb)]

theorem lastP_some {A : Nat → Prop} {k : Nat} : ∀ m, lastP A m = some k → k < m ∧ A k ∧ ∀ p, k < p → p < m → ¬ A p
  | 0, h => by cases h
  | m + 1, h => by
    simp only [lastP] at h
    by_cases ha : A m
    · rw [if_pos ha] at h
      cases h
      exact ⟨by omega, ha, fun p h1 h2 => by omega⟩
    · rw [if_neg ha] at h
      obtain ⟨h1, h2, h3⟩ := lastP_some m h
      refine ⟨by omega, h2, fun p h4 h5 => ?_⟩
      by_cases hp : p = m
      · rw [hp]; exact ha
      · exact h3 p h4 (by omega)

theorem lastP_none {A : Nat → Prop} : ∀ m, lastP A m = none → ∀ p, p < m → ¬ A p
  | 0, _, p, hp => by omega
  | m + 1, h, p, hp => by
    simp only [lastP] at h
    by_cases ha : A m
    · rw [if_pos ha] at h; cases h
    · rw [if_neg ha] at h
      by_cases hpm : p = m
      · rw [hpm]; exact ha
      · exact lastP_none m h p (by omega)

theorem lastP_eq {A : Nat → Prop} {k m : Nat} (hk : k < m) (ha : A k) (hn : ∀ p, k < p → p < m → ¬ A p) : lastP A m = some k := by
  cases h : lastP A m with
  | none => exact absurd ha (lastP_none m h k hk)
  | some j =>
    obtain ⟨h1, h2, h3⟩ := lastP_some m h
    rcases Nat.lt_trichotomy j k with h4 | h4 | h4
    · exact absurd ha (h3 k h4 hk)
    · rw [h4]
    · exact absurd h2 (hn j h4 h1)

theorem lastP_low {A : Nat → Prop} {q : Nat} : ∀ m, q ≤ m → lastP (fun p => p < q ∧ A p) m = lastP A q
  | 0, h => by
    have : q = 0 := by omega
    subst this; rfl
  | m + 1, h => by
    by_cases hq : q = m + 1
    · subst hq
      exact lastP_congr _ fun p hp => ⟨fun h => h.2, fun h => ⟨hp, h⟩⟩
    · simp only [lastP]
      rw [if_neg (by omega)]
      exact lastP_low m (by omega)

/-! ### tables made of a rule -/
noncomputable def tab (f : Nat → Option AO) : Nat → T AO
  | 0 => .e
  | n + 1 => match f n with | some o => (setF (bitsR n)).run o (tab f n) | none => tab f n

theorem tab_get (f : Nat → Option AO) (b : Nat) : ∀ n, hget (tab f n) b = if b < n then f b else none
  | 0 => by simp [tab, hget_e]
  | n + 1 => by
    simp only [tab]
    cases hf : f n with
    | none =>
      simp only
      rw [tab_get f b n]
      by_cases hb : b = n
      · subst hb; simp [hf]
      · by_cases h2 : b < n
        · rw [if_pos h2, if_pos (by omega)]
        · rw [if_neg h2, if_neg (by omega)]
    | some o =>
      simp only
      rw [hget_set, tab_get f b n]
      by_cases hb : b = n
      · subst hb; simp [hf]
      · rw [if_neg hb]
        by_cases h2 : b < n
        · rw [if_pos h2, if_pos (by omega)]
        · rw [if_neg h2, if_neg (by omega)]

theorem Sim.same {ι : Inj} {h h' : T AO} {nx : Nat} {w : World} (k : Sim ι h nx w) (e : ∀ b, ι b ≠ .unborn → hget h' b = hget h b) : Sim ι h' nx w :=
  ⟨fun b B S hb => by
    obtain ⟨o, x, h1, h2, h3⟩ := k.obj b B S hb
    exact ⟨o, x, by rw [e b (by rw [hb]; simp)]; exact h1, h2, h3⟩,
   fun b hb o ho => k.gone b hb o (by rw [← e b (by rw [hb]; simp)]; exact ho), k.inj, k.born, k.glob⟩

/-! ### the edges -/
theorem inU_bit (U t : Nat) : inU U t = U.testBit t := by
  rw [Bool.eq_iff_iff, inU, beqN, Nat.testBit_eq_decide_div_mod_eq, decide_eq_true_iff]
  rw [show Nat.shiftRight U t = U >>> t from rfl, Nat.shiftRight_eq_div_pow]
  exact Iff.rfl

def befOf (acc : List Nat) (o : Oper) : Nat := o.after.toList.foldl (fun s e => cond (bindsA e) (Nat.lor (Nat.lor s (Nat.pow 2 e.on)) (acc.getD e.on 0)) s) 0

theorem befores_snoc (l : List Oper) (o : Oper) : befores (l ++ [o]) = befores l ++ [befOf (befores l) o] := by
  unfold befores
  rw [List.foldl_append]
  rfl

theorem rev_ind {α : Type} {p : List α → Prop} (h0 : p []) (h1 : ∀ l a, p l → p (l ++ [a])) (l : List α) : p l := by
  have key : ∀ r : List α, p r.reverse := by
    intro r
    induction r with
    | nil => exact h0
    | cons a r ih => rw [List.reverse_cons]; exact h1 _ _ ih
  have := key l.reverse
  rwa [List.reverse_reverse] at this

theorem befores_length (l : List Oper) : (befores l).length = l.length := by
  refine rev_ind (p := fun l => (befores l).length = l.length) rfl (fun l o ih => ?_) l
  rw [befores_snoc, List.length_append, List.length_append, ih]; rfl

theorem befores_get (l : List Oper) : ∀ i o, l[i]? = some o → (befores l).getD i 0 = befOf ((befores l).take i) o := by
  refine rev_ind (p := fun l => ∀ i o, l[i]? = some o → (befores l).getD i 0 = befOf ((befores l).take i) o) (fun i o h => by simp at h) (fun l o ih i u h => ?_) l
  rw [befores_snoc]
  have hlen := befores_length l
  by_cases hi : i < l.length
  · rw [List.getElem?_append_left hi] at h
    have := ih i u h
    rw [List.getD_eq_getElem?_getD, List.getElem?_append_left (by omega), ← List.getD_eq_getElem?_getD, this]
    rw [List.take_append_of_le_length (by omega)]
  · rw [List.getElem?_append_right (by omega)] at h
    have hi0 : i - l.length = 0 := by
      cases hn : i - l.length with
      | zero => rfl
      | succ k => rw [hn] at h; simp at h
    rw [hi0] at h
    simp at h
    subst h
    have hi2 : i = l.length := by omega
    subst hi2
    rw [List.getD_eq_getElem?_getD, List.getElem?_append_right (by omega), hlen]
    simp only [Nat.sub_self, List.getElem?_cons_zero, Option.getD_some]
    rw [← hlen, List.take_left]

theorem befOf_bit (acc : List Nat) (j : Nat) : ∀ (l : List Edge) (s : Nat), inU (l.foldl (fun s e => cond (bindsA e) (Nat.lor (Nat.lor s (Nat.pow 2 e.on)) (acc.getD e.on 0)) s) s) j = true →
    inU s j = true ∨ ∃ e ∈ l, bindsA e = true ∧ (e.on = j ∨ inU (acc.getD e.on 0) j = true)
  | [], s, h => .inl h
  | e :: l, s, h => by
    rw [List.foldl_cons] at h
    rcases befOf_bit acc j l _ h with h1 | ⟨e', he, h2, h3⟩
    · cases hb : bindsA e
      · rw [hb] at h1
        exact .inl h1
      · rw [hb] at h1
        simp only [cond_true] at h1
        rw [inU_bit] at h1
        have h2 : ((s ||| 2 ^ e.on) ||| acc.getD e.on 0).testBit j = true := h1
        rw [Nat.testBit_or, Nat.testBit_or, Bool.or_eq_true, Bool.or_eq_true] at h2
        rcases h2 with (h2 | h2) | h2
        · exact .inl (by rw [inU_bit]; exact h2)
        · rw [Nat.testBit_two_pow] at h2
          exact .inr ⟨e, by simp, hb, .inl (by simpa using h2)⟩
        · exact .inr ⟨e, by simp, hb, .inr (by rw [inU_bit]; exact h2)⟩
    · exact .inr ⟨e', by simp [he], h2, h3⟩

def bs (ops : Array Oper) : List Nat := befores ops.toList

def Closed (ops : Array Oper) (S : Nat → Prop) : Prop := ∀ i o, S i → ops[i]? = some o → ∀ e ∈ o.after, bindsA e = true → S e.on
def Ready (ops : Array Oper) (S : Nat → Prop) (i : Nat) : Prop := ∃ o, ops[i]? = some o ∧ ∀ e ∈ o.after, bindsA e = true → S e.on

theorem bef_in {ops : Array Oper} {S : Nat → Prop} (hlow : ∀ i o, ops[i]? = some o → ∀ e ∈ o.after, bindsA e = true → e.on < i) (hc : Closed ops S) (j : Nat) : ∀ (m i : Nat), i < m → Ready ops S i → inU ((bs ops).getD i 0) j = true → S j
  | 0, i, hi, _, _ => by omega
  | m + 1, i, hi, hr, h => by
    obtain ⟨o, ho, hr⟩ := hr
    rw [bs, befores_get ops.toList i o (by rw [Array.getElem?_toList]; exact ho)] at h
    rcases befOf_bit _ j _ 0 h with h1 | ⟨e, he, hb, h1⟩
    · simp [inU_bit] at h1
    · have he' : e ∈ o.after := Array.mem_toList_iff.1 he
      have hlt := hlow i o ho e he' hb
      rcases h1 with h1 | h1
      · rw [← h1]; exact hr e he' hb
      · have hS := hr e he' hb
        have h2 : inU ((bs ops).getD e.on 0) j = true := by
          rw [List.getD_eq_getElem?_getD, List.getElem?_take, if_pos hlt, ← List.getD_eq_getElem?_getD] at h1
          exact h1
        obtain ⟨u, hu⟩ : ∃ u, ops[e.on]? = some u := by
          have : i < ops.size := (Array.getElem?_eq_some_iff.1 ho).1
          exact ⟨ops[e.on], by simp [Nat.lt_trans hlt this]⟩
        exact bef_in hlow hc j m e.on (by omega) ⟨u, hu, hc e.on u hS hu⟩ h2

end Go.Ev

namespace Go.Ev
open Go.RowKit

structure Ctx (P : Program) (call : CallF) (U N : Nat) (ops : Array Oper) (t : T AV) (ι0 : Inj) (w0 : World) (a0 : Act) (σ : Nat → St) (V : Nat → AV) (E : Nat → TE) (ex ab : Nat → Bool) : Prop where
  hcall : CallOK P call
  ok : orderOk P ops = true
  dst : ∀ o ∈ ops.toList, ∀ x, o.dst = some x → x < N
  tr : ∀ i, i < ops.size → ∃ o, TrAt P call U ops t (ab i) i (rsAt ops V i) (tbAt E i) (σ i) (ex i) (V i) (E i) (σ (i + 1)) o
  rel0 : Rel ι0 U N t [] [] (σ 0) a0 w0

section
variable {P : Program} {call : CallF} {U N : Nat} {ops : Array Oper} {t : T AV} {ι0 : Inj} {w0 : World} {a0 : Act} {σ : Nat → St} {V : Nat → AV} {E : Nat → TE} {ex ab : Nat → Bool}

/-! ### what 'orderOk' says -/
theorem ok_at (h : orderOk P ops = true) {i : Nat} {o : Oper} (hi : ops[i]? = some o) :
    (∀ e ∈ o.after, bindsA e = true → e.on < i) ∧ noDefer o.op = true ∧ (∀ cs b, o.op ≠ .select cs b) ∧
    ∀ j u, j < i → ops[j]? = some u → ordered (bs ops) i j = true ∨ (u.apart ops o = true ∧
      ((isWrite (clOf P u.op) && acts (clOf P o.op)) || (acts (clOf P u.op) && isWrite (clOf P o.op)) || (isMake (clOf P u.op) && acts (clOf P o.op))) = false) := by
  unfold orderOk at h
  simp only [List.all_eq_true, List.mem_range] at h
  have hlt : i < ops.size := (Array.getElem?_eq_some_iff.1 hi).1
  have h1 := h i hlt
  rw [hi] at h1
  simp only [Bool.and_eq_true, List.all_eq_true, List.mem_range] at h1
  obtain ⟨⟨h2, h3⟩, h4⟩ := h1
  refine ⟨fun e he hb => ?_, ?_, ?_, fun j u hj hu => ?_⟩
  · have := h2 e (Array.mem_toList_iff.2 he)
    rw [hb] at this
    simp only [cond_true] at this
    rw [bleN] at this
    omega
  · unfold noDefer
    split
    · rename_i c hc
      rw [hc] at h3; cases h3
    · rfl
  · intro cs b hc
    rw [hc] at h3; cases h3
  · have := h4 j hj
    rw [hu] at this
    simp only [Bool.or_eq_true, Bool.and_eq_true, Bool.not_eq_true'] at this
    rcases this with h5 | ⟨h5, h6⟩
    · exact .inl h5
    · exact .inr ⟨h5, h6⟩

theorem ordered_symm (b : List Nat) (i j : Nat) : ordered b i j = ordered b j i := by unfold ordered; rw [Bool.or_comm]

/-- two operations whose order is open -/
structure Free (P : Program) (ops : Array Oper) (o u : Oper) : Prop where
  d1 : ∀ d, u.dst = some d → d ∉ o.looksAt ops
  d2 : ∀ d, o.dst = some d → d ∉ u.looksAt ops
  d3 : ∀ d, u.dst = some d → o.dst ≠ some d
  w1 : ¬ (isWrite (clOf P u.op) = true ∧ acts (clOf P o.op) = true)
  w2 : ¬ (acts (clOf P u.op) = true ∧ isWrite (clOf P o.op) = true)

theorem sep (h : orderOk P ops = true) {i j : Nat} {o u : Oper} (hi : ops[i]? = some o) (hj : ops[j]? = some u) (hne : i ≠ j) :
    ordered (bs ops) i j = true ∨ (Free P ops o u ∧ (j < i → ¬ (isMake (clOf P u.op) = true ∧ acts (clOf P o.op) = true))) := by
  rcases Nat.lt_or_ge j i with hlt | hge
  · rcases (ok_at h hi).2.2.2 j u hlt hj with h1 | ⟨h1, h2⟩
    · exact .inl h1
    · obtain ⟨k1, k2, k3⟩ := Oper.apart_spec h1
      simp only [Bool.or_eq_false_iff, Bool.and_eq_false_iff] at h2
      obtain ⟨⟨h3, h4⟩, h5⟩ := h2
      refine .inr ⟨⟨k1, k3, k2, fun ⟨x, y⟩ => ?_, fun ⟨x, y⟩ => ?_⟩, fun _ ⟨x, y⟩ => ?_⟩
      · rcases h3 with h3 | h3
        · rw [x] at h3; cases h3
        · rw [y] at h3; cases h3
      · rcases h4 with h4 | h4
        · rw [x] at h4; cases h4
        · rw [y] at h4; cases h4
      · rcases h5 with h5 | h5
        · rw [x] at h5; cases h5
        · rw [y] at h5; cases h5
  · have hlt : i < j := by omega
    rcases (ok_at h hj).2.2.2 i o hlt hi with h1 | ⟨h1, h2⟩
    · exact .inl (by rw [ordered_symm]; exact h1)
    · obtain ⟨k1, k2, k3⟩ := Oper.apart_spec h1
      simp only [Bool.or_eq_false_iff, Bool.and_eq_false_iff] at h2
      obtain ⟨⟨h3, h4⟩, h5⟩ := h2
      refine .inr ⟨⟨k3, k1, fun d h1 h2 => k2 d h2 h1, fun ⟨x, y⟩ => ?_, fun ⟨x, y⟩ => ?_⟩, fun hh => by omega⟩
      · rcases h4 with h4 | h4
        · rw [y] at h4; cases h4
        · rw [x] at h4; cases h4
      · rcases h3 with h3 | h3
        · rw [y] at h3; cases h3
        · rw [x] at h3; cases h3

theorem op_lt (h : orderOk P ops = true) : ∀ i o, ops[i]? = some o → ∀ e ∈ o.after, bindsA e = true → e.on < i := fun i o hi => (ok_at h hi).1

theorem bit_lt (h : orderOk P ops = true) {i j : Nat} {o : Oper} (hi : ops[i]? = some o) (hb : inU ((bs ops).getD i 0) j = true) : j < i := by
  refine bef_in (S := fun p => p < i) (op_lt h) (fun k u hk hu e he hbe => ?_) j (i + 1) i (by omega) ⟨o, hi, op_lt h i o hi⟩ hb
  have := op_lt h k u hu e he hbe
  show e.on < i
  have hk : k < i := hk
  omega

/-- what has its place beside an operation that is about to run -/
theorem decided (h : orderOk P ops = true) {S : Nat → Prop} (hc : Closed ops S) {p q : Nat} {u o : Oper} (hp : ops[p]? = some u) (hq : ops[q]? = some o) (hr : Ready ops S q) (hn : ¬ S q) (ho : ordered (bs ops) q p = true) : S p ↔ p < q := by
  unfold ordered at ho
  rw [Bool.or_eq_true] at ho
  rcases ho with ho | ho
  · have h1 := bef_in (op_lt h) hc p (q + 1) q (by omega) hr ho
    exact ⟨fun _ => bit_lt h hq ho, fun _ => h1⟩
  · have hlt := bit_lt h hp ho
    refine ⟨fun hS => absurd (bef_in (op_lt h) hc q (p + 1) p (by omega) ⟨u, hp, hc p u hS hp⟩ ho) hn, fun h => by omega⟩

/-! ### the run in the order of the text -/
theorem canon_idx (x : Nat) : ∀ q, match lastP (fun p => dstAt ops p = some x) q with
    | some k => ∃ i, idx x (nsAt ops q) = some i ∧ (rsAt ops V q).getD i .bad = V k
    | none => idx x (nsAt ops q) = none
  | 0 => rfl
  | q + 1 => by
    have ih := canon_idx x q
    simp only [lastP]
    by_cases hd : dstAt ops q = some x
    · rw [if_pos hd]
      refine ⟨0, ?_, ?_⟩
      · simp only [nsAt, hd, pushN, idx, if_true]
      · simp only [rsAt, hd, pushV]; rfl
    · rw [if_neg hd]
      cases hd' : dstAt ops q with
      | none =>
        simp only [nsAt, rsAt, hd', pushN, pushV]
        exact ih
      | some d =>
        have hne : d ≠ x := fun e => hd (by rw [hd', e])
        simp only [nsAt, rsAt, hd', pushN, pushV, idx, if_neg hne]
        cases hl : lastP (fun p => dstAt ops p = some x) q with
        | none =>
          rw [hl] at ih
          simp only at ih ⊢
          rw [ih]; rfl
        | some k =>
          rw [hl] at ih
          simp only at ih ⊢
          obtain ⟨i, h1, h2⟩ := ih
          exact ⟨i + 1, by rw [h1]; rfl, by simpa using h2⟩

theorem canon_tmp (x q : Nat) : (opdF U (nsAt ops q) (.tmp x)).run ⟨t, rsAt ops V q⟩ = match lastP (fun p => dstAt ops p = some x) q with
    | some k => V k
    | none => cond (inU U x) (tget t x) .bad := by
  have h := canon_idx (ops := ops) (V := V) x q
  simp only [opdF, recF_eq]
  cases hl : lastP (fun p => dstAt ops p = some x) q with
  | some k =>
    rw [hl] at h
    simp only at h ⊢
    obtain ⟨i, h1, h2⟩ := h
    rw [h1]
    simp only [Option.map_some, lget_eq]
    exact h2
  | none =>
    rw [hl] at h
    simp only at h ⊢
    rw [h]
    simp only [Option.map_none]
    cases inU U x
    · rfl
    · simp only [cond_true, tget]
      cases (getF (bitsR x)).run t <;> rfl

/-- did an operation change what a number stands for? -/
def Chg (σ : Nat → St) (p b : Nat) : Prop := ((σ p).nx ≤ b ∧ b < (σ (p + 1)).nx) ∨ hget (σ (p + 1)).h b ≠ hget (σ p).h b

noncomputable def verOf (σ : Nat → St) (b : Nat) : Option Nat → Option AO
  | some k => hget (σ (k + 1)).h b
  | none => hget (σ 0).h b

noncomputable def cur (σ : Nat → St) (m : Nat) (S : Nat → Prop) (b : Nat) : Option AO := verOf σ b (lastP (fun p => S p ∧ Chg σ p b) m)

theorem cur_canon (b : Nat) : ∀ q, verOf σ b (lastP (fun p => Chg σ p b) q) = hget (σ q).h b
  | 0 => rfl
  | q + 1 => by
    simp only [lastP]
    by_cases hc : Chg σ q b
    · rw [if_pos hc]; rfl
    · rw [if_neg hc, cur_canon b q]
      have : ¬ (hget (σ (q + 1)).h b ≠ hget (σ q).h b) := fun h => hc (.inr h)
      exact (Classical.not_not.1 this).symm

/-- what an operation does to the table, as the run in the order of the text tells it -/
structure StF (P : Program) (σ : Nat → St) (ex : Nat → Bool) (ops : Array Oper) (p : Nat) (o : Oper) : Prop where
  nx : (σ p).nx ≤ (σ (p + 1)).nx
  above : ∀ b, (σ (p + 1)).nx ≤ b → hget (σ (p + 1)).h b = hget (σ p).h b
  fr : (σ (p + 1)).fr = (σ p).fr
  watched : watch P ops p o = true → ∀ b, b < (σ p).nx → hget (σ (p + 1)).h b = hget (σ p).h b
  calm : acts (clOf P o.op) = false → ∀ b, b < (σ p).nx → hget (σ (p + 1)).h b = hget (σ p).h b
  same : isMake (clOf P o.op) = false → acts (clOf P o.op) = false → σ (p + 1) = σ p

theorem rel_looks {ι : Inj} {a : Act} {w : World} {p : Nat} (r : Rel ι U N t (nsAt ops p) (rsAt ops V p) (σ p) a w) (x : Operand) : VR ι ((opdF U (nsAt ops p) x).run ⟨t, rsAt ops V p⟩) (a.eval x) := r.opd x

theorem opR_pure {op : Operand → OF} {wch : Bool} {o : Op} {env : Env} {st : St} {v : AV} {st' : St} (hO : OpR P op wch call o env st v st') (h : clOf P o = .pure) :
    st' = st ∧ callOf o = none ∧ ∀ st2, (compOp P op o).run env st2 = .ok v st2 := by
  obtain ⟨st1, hd, hO⟩ := hO
  have hco : callOf o = none := by
    cases hc : callOf o with
    | none => rfl
    | some x => have := callOf_other (P := P) hc; rw [h] at this; cases this
  rw [hco] at hO
  dsimp only at hO
  obtain ⟨h1, rfl⟩ := hO
  obtain ⟨h2, h3⟩ := pu_compOp (P := P) (op := op) (env := env) o h _ _ _ h1
  subst h2
  refine ⟨?_, hco, h3⟩
  cases wch <;> rfl

theorem opR_reads {op : Operand → OF} {o : Op} {env : Env} {st : St} {v : AV} {st' : St} (hO : OpR P op false call o env st v st') (h : clOf P o = .reads) :
    st' = st ∧ callOf o = none ∧ ∃ ty a, o = .load ty a ∧ (loadK P ty).run ((op a).run env) st.h = some v := by
  obtain ⟨st1, hd, hO⟩ := hO
  have hco : callOf o = none := by
    cases hc : callOf o with
    | none => rfl
    | some x => have := callOf_other (P := P) hc; rw [h] at this; cases this
  rw [hco] at hO
  dsimp only at hO
  obtain ⟨h1, rfl⟩ := hO
  cases o <;> simp only [clOf] at h <;> try (cases h; done)
  case load ty a =>
    obtain ⟨h2, h3⟩ := load_st (P := P) h1
    exact ⟨h2, hco, ty, a, rfl, h3⟩
  case call c =>
    exfalso
    split at h
    · split at h
      · split at h <;> cases h
      · cases h
    all_goals cases h

theorem opR_makes {op : Operand → OF} {o : Op} {env : Env} {st : St} {v : AV} {st' : St} (hO : OpR P op false call o env st v st') (h : clOf P o = .makes) :
    callOf o = none ∧ ∃ ob, st' = ⟨st.nx + 1, (setF (bitsR st.nx)).run ob st.h, st.dirty, st.fr⟩ ∧
      ∀ st2, st2.nx = st.nx → (compOp P op o).run env st2 = .ok v ⟨st2.nx + 1, (setF (bitsR st2.nx)).run ob st2.h, st2.dirty, st2.fr⟩ := by
  obtain ⟨st1, hd, hO⟩ := hO
  have hco : callOf o = none := by
    cases hc : callOf o with
    | none => rfl
    | some x => have := callOf_other (P := P) hc; rw [h] at this; cases this
  rw [hco] at hO
  dsimp only at hO
  obtain ⟨h1, rfl⟩ := hO
  obtain ⟨ob, h2, h3⟩ := mk_compOp (P := P) (op := op) (env := env) o h _ _ _ h1
  exact ⟨hco, ob, h2, h3⟩

theorem watch_cl {i : Nat} {o : Oper} {c : Cl} (h : clOf P o.op = c) (hc : c ≠ .other) : watch P ops i o = false := by
  cases hw : watch P ops i o
  · rfl
  · exact absurd ((watch_other hw).symm.trans h) (fun e => hc e.symm)

theorem cl_cases (c : Cl) : c = .pure ∨ c = .reads ∨ c = .makes ∨ acts c = true := by
  cases c
  · exact .inl rfl
  · exact .inr (.inl rfl)
  · exact .inr (.inr (.inl rfl))
  · exact .inr (.inr (.inr rfl))
  · exact .inr (.inr (.inr rfl))

theorem Ctx.step (c : Ctx P call U N ops t ι0 w0 a0 σ V E ex ab) {p : Nat} (hp : p < ops.size) {o : Oper} (ho : ops[p]? = some o) {ι : Inj} {a : Act} {w : World} (r : Rel ι U N t (nsAt ops p) (rsAt ops V p) (σ p) a w) :
    StF P σ ex ops p o ∧ ∃ ι' a' w', Rel ι' U N t (nsAt ops (p + 1)) (rsAt ops V (p + 1)) (σ (p + 1)) a' w' ∧ Le ι ι' ∧ Cleanly ι ι' (σ p) (σ (p + 1)) := by
  obtain ⟨o', htr⟩ := c.tr p hp
  have : o' = o := by have := htr.hop; rw [ho] at this; cases this; rfl
  subst this
  have hmem : o' ∈ ops.toList := Array.mem_toList_iff.2 (Array.mem_of_getElem? ho)
  have hd : dstAt ops p = o'.dst := by simp [dstAt, ho]
  have e1 : nsAt ops (p + 1) = pushN o'.dst (nsAt ops p) := by simp only [nsAt, hd]
  have e2 : rsAt ops V (p + 1) = (pushV o'.dst).run (V p) (rsAt ops V p) := by simp only [rsAt, hd]
  rw [e1, e2]
  cases hx : ex p
  · obtain ⟨h1, h2, h3⟩ := htr.skip hx
    rw [h3, h1]
    refine ⟨⟨by rw [h3]; exact Nat.le_refl _, fun b _ => by rw [h3], by rw [h3], fun _ b _ => by rw [h3], fun _ b _ => by rw [h3], fun _ _ => h3⟩, ι, a.put o'.dst undef, w, r.put (c.dst o' hmem) (undef_ok ι), Le.refl ι, Cleanly.refl ι _⟩
  · obtain ⟨h1, h2, h3⟩ := htr.run hx
    obtain ⟨x, w', ι', hl⟩ := (opR_runs c.hcall (ok_at c.ok ho).2.1 h1 r.sim fun x _ => r.opd x).ex
    refine ⟨⟨hl.cl.nx, hl.cl.above, hl.fr, hl.quiet, fun ha b hb => ?_, fun hm ha => ?_⟩, ι', a.put o'.dst x, w', ?_, hl.le, hl.cl⟩
    · rcases cl_cases (clOf P o'.op) with h4 | h4 | h4 | h4
      · rw [(opR_pure h1 h4).1]
      · rw [watch_cl h4 (by simp)] at h1
        rw [(opR_reads h1 h4).1]
      · rw [watch_cl h4 (by simp)] at h1
        obtain ⟨_, ob, h5, _⟩ := opR_makes h1 h4
        rw [h5]
        show hget ((setF (bitsR (σ p).nx)).run ob (σ p).h) b = _
        rw [hget_set, if_neg (by omega)]
      · rw [ha] at h4; cases h4
    · rcases cl_cases (clOf P o'.op) with h4 | h4 | h4 | h4
      · exact (opR_pure h1 h4).1
      · rw [watch_cl h4 (by simp)] at h1
        exact (opR_reads h1 h4).1
      · rw [h4] at hm; cases hm
      · rw [ha] at h4; cases h4
    · exact (r.mono hl.le hl.sim hl.fr).put (c.dst o' hmem) hl.v

theorem Ctx.can (c : Ctx P call U N ops t ι0 w0 a0 σ V E ex ab) : ∀ p, p ≤ ops.size → ∃ ι a w, Rel ι U N t (nsAt ops p) (rsAt ops V p) (σ p) a w ∧ Le ι0 ι ∧ Cleanly ι0 ι (σ 0) (σ p)
  | 0, _ => ⟨ι0, a0, w0, c.rel0, Le.refl ι0, Cleanly.refl ι0 _⟩
  | p + 1, hp => by
    obtain ⟨ι, a, w, r, hl, hc⟩ := c.can p (by omega)
    obtain ⟨_, ι', a', w', r', hl', hc'⟩ := c.step (by omega) (o := ops[p]) (by simp [show p < ops.size by omega]) r
    exact ⟨ι', a', w', r', hl.trans hl', hc.trans hc'⟩

theorem Ctx.stf (c : Ctx P call U N ops t ι0 w0 a0 σ V E ex ab) {p : Nat} {o : Oper} (ho : ops[p]? = some o) : StF P σ ex ops p o := by
  have hp : p < ops.size := (Array.getElem?_eq_some_iff.1 ho).1
  obtain ⟨ι, a, w, r, _⟩ := c.can p (by omega)
  exact (c.step hp ho r).1

theorem Ctx.nx_mono (c : Ctx P call U N ops t ι0 w0 a0 σ V E ex ab) {p : Nat} : ∀ q, p ≤ q → q ≤ ops.size → (σ p).nx ≤ (σ q).nx
  | 0, h, _ => by have : p = 0 := by omega
                  subst this; exact Nat.le_refl _
  | q + 1, h, hq => by
    by_cases hpq : p = q + 1
    · subst hpq; exact Nat.le_refl _
    · exact Nat.le_trans (c.nx_mono q (by omega) (by omega)) (c.stf (p := q) (o := ops[q]) (by simp [show q < ops.size by omega])).nx

/-- what an operation changes it changes by acting, unless it makes it -/
theorem Ctx.chg (c : Ctx P call U N ops t ι0 w0 a0 σ V E ex ab) {p b : Nat} {o : Oper} (ho : ops[p]? = some o) (h : Chg σ p b) (hb : b < (σ p).nx) : acts (clOf P o.op) = true ∧ watch P ops p o = false ∧ hget (σ (p + 1)).h b ≠ hget (σ p).h b := by
  have s := c.stf ho
  rcases h with ⟨h, _⟩ | h
  · omega
  · refine ⟨?_, ?_, h⟩
    · cases ha : acts (clOf P o.op)
      · exact absurd (s.calm ha b hb) h
      · rfl
    · cases ha : watch P ops p o
      · rfl
      · exact absurd (s.watched ha b hb) h

theorem Ctx.chg_lt (c : Ctx P call U N ops t ι0 w0 a0 σ V E ex ab) {p b : Nat} {o : Oper} (ho : ops[p]? = some o) (h : Chg σ p b) : b < (σ (p + 1)).nx := by
  rcases h with ⟨_, h⟩ | h
  · exact h
  · rcases Nat.lt_or_ge b (σ (p + 1)).nx with h1 | h1
    · exact h1
    · exact absurd ((c.stf ho).above b h1) h

end
end Go.Ev

namespace Go.Ev
open Go.RowKit

structure Inv (P : Program) (call : CallF) (U N : Nat) (ops : Array Oper) (t : T AV) (ι0 : Inj) (w0 : World) (a0 : Act) (σ : Nat → St) (V : Nat → AV) (ab : Nat → Bool) (S : Nat → Prop) (ι : Inj) (a : Act) (w : World) : Prop where
  size : N ≤ a.tmps.size
  ds : DRs ι (σ 0).fr a.defers
  le : Le ι0 ι
  grew : Grew ι0 w0 ι w
  slot : ∀ x, match lastP (fun p => S p ∧ dstAt ops p = some x) ops.size with
    | some k => VR ι (V k) (a.tmps.getD x undef)
    | none => inU U x = true → VR ι (tget t x) (a.tmps.getD x undef)
  sim : Sim ι (tab (cur σ ops.size S) (σ ops.size).nx) (σ ops.size).nx w
  birth : ∀ b, ι b ≠ .unborn → ι0 b ≠ .unborn ∨ ∃ p, p < ops.size ∧ S p ∧ (σ p).nx ≤ b ∧ b < (σ (p + 1)).nx
  born : ∀ p, p < ops.size → S p → ∀ b, (σ p).nx ≤ b → b < (σ (p + 1)).nx → ι b ≠ .unborn
  closed : Closed ops S
  live : ∀ p, S p → ab p = false

section
variable {P : Program} {call : CallF} {U N : Nat} {ops : Array Oper} {t : T AV} {ι0 : Inj} {w0 : World} {a0 : Act} {σ : Nat → St} {V : Nat → AV} {E : Nat → TE} {ex ab : Nat → Bool}
variable {S : Nat → Prop} {ι : Inj} {a : Act} {w : World}

theorem at_op {p : Nat} (hp : p < ops.size) : ops[p]? = some ops[p] := by simp [hp]

theorem Ctx.born0 (c : Ctx P call U N ops t ι0 w0 a0 σ V E ex ab) {b : Nat} (h : ι0 b ≠ .unborn) : b < (σ 0).nx := c.rel0.sim.born b h

/-- what was born is born too in the run in the order of the text -/
theorem Inv.canon (c : Ctx P call U N ops t ι0 w0 a0 σ V E ex ab) (I : Inv P call U N ops t ι0 w0 a0 σ V ab S ι a w) {b q : Nat} (hb : ι b ≠ .unborn) (hq : q ≤ ops.size) (hbq : b < (σ q).nx) {ιc : Inj} (hc : Cleanly ι0 ιc (σ 0) (σ q)) : ιc b ≠ .unborn := by
  rcases I.birth b hb with h | ⟨p, hp, hS, h1, h2⟩
  · exact hc.le b h
  · exact hc.n b (Nat.le_trans (c.nx_mono p (Nat.zero_le _) (by omega)) h1) hbq

/-- an operation in whose range a number lies is that which made it -/
theorem Inv.maker (c : Ctx P call U N ops t ι0 w0 a0 σ V E ex ab) (I : Inv P call U N ops t ι0 w0 a0 σ V ab S ι a w) {b p : Nat} (hb : ι b ≠ .unborn) (hp : p < ops.size) (h1 : (σ p).nx ≤ b) (h2 : b < (σ (p + 1)).nx) : S p := by
  rcases I.birth b hb with h | ⟨p', hp', hS, h3, h4⟩
  · have := c.born0 h
    have := c.nx_mono (p := 0) p (by omega) (by omega)
    omega
  · rcases Nat.lt_trichotomy p p' with h5 | h5 | h5
    · have := c.nx_mono (p := p + 1) p' (by omega) (by omega); omega
    · rw [h5]; exact hS
    · have := c.nx_mono (p := p' + 1) p (by omega) (by omega); omega

theorem Inv.looks (c : Ctx P call U N ops t ι0 w0 a0 σ V E ex ab) (I : Inv P call U N ops t ι0 w0 a0 σ V ab S ι a w) {q : Nat} {o : Oper} (ho : ops[q]? = some o) (hr : Ready ops S q) (hn : ¬ S q) {x : Nat} (hx : x ∈ o.looksAt ops) :
    VR ι ((opdF U (nsAt ops q) (.tmp x)).run ⟨t, rsAt ops V q⟩) (a.tmps.getD x undef) := by
  have hq : q < ops.size := (Array.getElem?_eq_some_iff.1 ho).1
  have e : lastP (fun p => S p ∧ dstAt ops p = some x) ops.size = lastP (fun p => dstAt ops p = some x) q := by
    rw [← lastP_low ops.size (Nat.le_of_lt hq)]
    refine lastP_congr _ fun p hp => ?_
    refine and_congr_left fun hd => ?_
    by_cases hpq : p = q
    · subst hpq
      exact ⟨fun h => absurd h hn, fun h => by omega⟩
    · have hu := at_op hp
      rcases sep c.ok ho hu (fun e => hpq e.symm) with h | ⟨h, _⟩
      · exact decided c.ok I.closed hu ho hr hn h
      · have hd' : (ops[p]).dst = some x := by simpa [dstAt, hu] using hd
        exact absurd hx (h.d1 x hd')
  have hs := I.slot x
  rw [canon_tmp, ← e]
  cases hl : lastP (fun p => S p ∧ dstAt ops p = some x) ops.size with
  | some k => rw [hl] at hs; exact hs
  | none =>
    rw [hl] at hs
    simp only at hs ⊢
    cases hu : inU U x
    · simp [VR]
    · exact hs hu

theorem Inv.opnd (c : Ctx P call U N ops t ι0 w0 a0 σ V E ex ab) (I : Inv P call U N ops t ι0 w0 a0 σ V ab S ι a w) {q : Nat} {o : Oper} (ho : ops[q]? = some o) (hr : Ready ops S q) (hn : ¬ S q) :
    ∀ x ∈ o.op.operands.toList, VR ι ((opdF U (nsAt ops q) x).run ⟨t, rsAt ops V q⟩) (a.eval x) := by
  intro x hx
  cases x with
  | tmp x =>
    have : x ∈ o.looksAt ops := List.mem_append_left _ (List.mem_filterMap.2 ⟨.tmp x, hx, rfl⟩)
    exact I.looks c ho hr hn this
  | const v => exact VR_ofV ι v
  | global g => simp [opdF, VR]
  | func f => simp only [opdF, VR, Act.eval]; exact ⟨#[], rfl, by simp [VRs]⟩

theorem Inv.want {x : Bool} (c : Ctx P call U N ops t ι0 w0 a0 σ V E ex ab) (I : Inv P call U N ops t ι0 w0 a0 σ V ab S ι a w) {q : Nat} {o : Oper} (ho : ops[q]? = some o) (hr : Ready ops S q) (hn : ¬ S q)
    (htr : match wantedF (opdF U (nsAt ops q)) ops o with | none => x = true | some wf => wf.run ⟨t, rsAt ops V q⟩ = some x) :
    Region.wanted o (yielded ops a.tmps) = x := by
  unfold wantedF at htr
  unfold Region.wanted
  cases hg : o.guard with
  | none => rw [hg] at htr; exact htr.symm
  | some jw =>
    obtain ⟨j, want⟩ := jw
    rw [hg] at htr
    simp only at htr ⊢
    cases hd : (ops[j]?).bind (·.dst) with
    | none => rw [hd] at htr; simp at htr
    | some d =>
      rw [hd] at htr
      simp only at htr
      have hv := I.looks c ho hr hn (x := d) (by simp [Oper.looksAt, hg, hd])
      generalize (opdF U (nsAt ops q) (.tmp d)).run ⟨t, rsAt ops V q⟩ = v at htr hv
      have hy : yielded ops a.tmps j = match a.tmps[d]? with | some (.bool b) => some b | _ => none := by
        unfold yielded; rw [hd]; rfl
      rw [hy]
      have hget : a.tmps.getD d undef = (a.tmps[d]?).getD undef := by simp [Array.getD_eq_getD_getElem?]
      rw [hget] at hv
      split at htr
      · rename_i b
        simp only [Option.some.injEq] at htr
        simp only [VR] at hv
        cases hq : a.tmps[d]? with
        | none => rw [hq] at hv; simp [undef] at hv
        | some y =>
          rw [hq] at hv
          simp only [Option.getD_some] at hv
          subst hv
          simp only
          rw [← htr]
          cases b <;> cases want <;> rfl
      · cases htr
      · rename_i h1 h2
        simp only [Option.some.injEq] at htr
        rw [← htr]
        have hnb := notBool hv (fun b e => h1 b e) (fun e => h2 e)
        cases hq : a.tmps[d]? with
        | none => rfl
        | some y =>
          rw [hq] at hnb
          simp only [Option.getD_some] at hnb
          cases y <;> first | rfl | (exact absurd rfl (hnb _))

theorem DRs.hide {ι ι0 : Inj} {n : Nat} (hn : ∀ b, ι0 b ≠ .unborn → b < n) : ∀ (ps : List (FuncId × List AV)) (l0 l : List Deferred), DRs ι0 ps l0 → DRs ι ps l → DRs (Ev.hide ι n) ps l
  | [], _, _, _, k => k
  | p :: ps, l0, l, k0, k => by
    simp only [DRs] at k0 k ⊢
    obtain ⟨cap, dargs, ds, rfl, h1, h2⟩ := k
    obtain ⟨cap0, dargs0, ds0, rfl, h10, h20⟩ := k0
    exact ⟨cap, dargs, ds, rfl, VRs.hide hn _ _ _ h10 h1, DRs.hide hn ps _ _ h20 h2⟩

def Add (S : Nat → Prop) (q : Nat) (p : Nat) : Prop := S p ∨ p = q

/-- what holds behind one more operation -/
theorem Inv.next (c : Ctx P call U N ops t ι0 w0 a0 σ V E ex ab) (I : Inv P call U N ops t ι0 w0 a0 σ V ab S ι a w) {q : Nat} {o : Oper} (ho : ops[q]? = some o) (hr : Ready ops S q) (hn : ¬ S q) (hab : ab q = false)
    {ι' : Inj} {x : Value} {w' : World} (hl : Le ι ι') (hg : Grew ι w ι' w') (hv : VR ι' (V q) x) (hs : Sim ι' (tab (cur σ ops.size (Add S q)) (σ ops.size).nx) (σ ops.size).nx w')
    (hb1 : ∀ b, ι' b ≠ .unborn → ι b ≠ .unborn ∨ ((σ q).nx ≤ b ∧ b < (σ (q + 1)).nx)) (hb2 : ∀ b, (σ q).nx ≤ b → b < (σ (q + 1)).nx → ι' b ≠ .unborn) :
    Inv P call U N ops t ι0 w0 a0 σ V ab (Add S q) ι' (a.put o.dst x) w' := by
  have hq : q < ops.size := (Array.getElem?_eq_some_iff.1 ho).1
  have hmem : o ∈ ops.toList := Array.mem_toList_iff.2 (Array.mem_of_getElem? ho)
  have hdq : dstAt ops q = o.dst := by simp [dstAt, ho]
  refine ⟨by rw [put_size]; exact I.size, by rw [put_defers]; exact DRs.mono hl _ _ I.ds, I.le.trans hl, I.grew.trans hg, fun y => ?_, hs, fun b hb => ?_, fun p hp hS b h1 h2 => ?_, fun i u hS hu e he hbe => ?_, fun p hS => hS.elim (I.live p) (fun e => e ▸ hab)⟩
  · by_cases hy : o.dst = some y
    · have e : lastP (fun p => Add S q p ∧ dstAt ops p = some y) ops.size = some q := by
        refine lastP_eq hq ⟨.inr rfl, by rw [hdq, hy]⟩ fun p h1 h2 ⟨h3, h4⟩ => ?_
        have hS : S p := h3.resolve_right (by omega)
        have hu := at_op h2
        rcases sep c.ok ho hu (by omega) with h | ⟨h, _⟩
        · have := (decided c.ok I.closed hu ho hr hn h).1 hS
          omega
        · have hd' : (ops[p]).dst = some y := by simpa [dstAt, hu] using h4
          exact h.d3 y hd' hy
      rw [e]
      simp only
      have hlt : y < a.tmps.size := Nat.lt_of_lt_of_le (c.dst o hmem y hy) I.size
      rw [hy, put_get a y x y hlt, if_pos rfl]
      exact hv
    · have e : lastP (fun p => Add S q p ∧ dstAt ops p = some y) ops.size = lastP (fun p => S p ∧ dstAt ops p = some y) ops.size := by
        refine lastP_congr _ fun p hp => and_congr_left fun hd => ?_
        refine ⟨fun h => h.resolve_right fun e => hy ?_, .inl⟩
        subst e
        rw [← hdq]; exact hd
      have hg : (a.put o.dst x).tmps.getD y undef = a.tmps.getD y undef := by
        cases hd : o.dst with
        | none => rfl
        | some d =>
          rw [put_get a d x y (Nat.lt_of_lt_of_le (c.dst o hmem d hd) I.size), if_neg (fun e => hy (by rw [hd, e]))]
      rw [e, hg]
      have := I.slot y
      cases hl' : lastP (fun p => S p ∧ dstAt ops p = some y) ops.size with
      | some k => rw [hl'] at this; exact VR.mono hl _ _ this
      | none => rw [hl'] at this; exact fun hu => VR.mono hl _ _ (this hu)
  · rcases hb1 b hb with h | h
    · rcases I.birth b h with h | ⟨p, h1, h2, h3⟩
      · exact .inl h
      · exact .inr ⟨p, h1, .inl h2, h3⟩
    · exact .inr ⟨q, hq, .inr rfl, h⟩
  · rcases hS with hS | hS
    · exact hl.born (I.born p hp hS b h1 h2)
    · subst hS; exact hb2 b h1 h2
  · rcases hS with hS | hS
    · exact .inl (I.closed i u hS hu e he hbe)
    · subst hS
      obtain ⟨o', ho', h⟩ := hr
      rw [ho'] at hu
      cases hu
      exact .inl (h e he hbe)

theorem cur_add_same {q b : Nat} (h : ¬ Chg σ q b) : cur σ ops.size (Add S q) b = cur σ ops.size S b := by
  unfold cur
  congr 1
  refine lastP_congr _ fun p hp => ?_
  refine and_congr_left fun hc => ?_
  exact ⟨fun h' => h'.resolve_right fun e => h (by rw [← e]; exact hc), .inl⟩

/-- an operation that changes nothing -/
theorem Inv.still (c : Ctx P call U N ops t ι0 w0 a0 σ V E ex ab) (I : Inv P call U N ops t ι0 w0 a0 σ V ab S ι a w) {q : Nat} {o : Oper} (ho : ops[q]? = some o) (hr : Ready ops S q) (hn : ¬ S q) (hab : ab q = false) (hsame : σ (q + 1) = σ q)
    {ι' : Inj} {x : Value} {w' : World} (hl : Le ι ι') (hg : Grew ι w ι' w') (hv : VR ι' (V q) x) (hs : Sim ι' (tab (cur σ ops.size S) (σ ops.size).nx) (σ ops.size).nx w') (hu : ∀ b, b < (σ ops.size).nx → ι b = .unborn → ι' b = .unborn) :
    Inv P call U N ops t ι0 w0 a0 σ V ab (Add S q) ι' (a.put o.dst x) w' := by
  refine I.next c ho hr hn hab hl hg hv ?_ (fun b hb => .inl fun h => hb (hu b (hs.born b hb) h)) (fun b h1 h2 => by rw [hsame] at h2; omega)
  refine hs.same fun b _ => ?_
  rw [tab_get, tab_get]
  split
  · refine cur_add_same fun h => ?_
    rcases h with h | h
    · rw [hsame] at h; omega
    · rw [hsame] at h; exact h rfl
  · rfl

/-! ### an operation that makes or acts: what it meets -/
/-- nothing has run that comes behind it and changed what it may see -/
theorem Inv.low (c : Ctx P call U N ops t ι0 w0 a0 σ V E ex ab) (I : Inv P call U N ops t ι0 w0 a0 σ V ab S ι a w) {q : Nat} {o : Oper} (ho : ops[q]? = some o) (hr : Ready ops S q) (hn : ¬ S q)
    (hk : isMake (clOf P o.op) = true ∨ acts (clOf P o.op) = true) {b p : Nat} (hp : p < ops.size) (hb : b < (σ (q + 1)).nx) (hS : S p) (hc : Chg σ p b) : p < q := by
  have hu := at_op hp
  rcases Nat.lt_trichotomy p q with h | h | h
  · exact h
  · subst h; exact absurd hS hn
  · exfalso
    have hmono := c.nx_mono (p := q + 1) p (by omega) (by omega)
    obtain ⟨h1, h2, h3⟩ := c.chg hu hc (by omega)
    rcases sep c.ok hu ho (by omega) with h4 | ⟨h4, h5⟩
    · rw [ordered_symm] at h4
      have := (decided c.ok I.closed hu ho hr hn h4).1 hS
      omega
    · rcases hk with hk | hk
      · exact h5 h ⟨hk, h1⟩
      · have hw1 := h4.w1
        have hw2 := h4.w2
        -- both are of the kind 'other': then the later one is watched
        have ho1 : isOther (clOf P (ops[p]).op) = true := by
          cases hcl : clOf P (ops[p]).op <;> rw [hcl] at h1 hw2 <;> simp_all [acts, isWrite, isOther]
        have ho2 : isOther (clOf P o.op) = true := by
          cases hcl : clOf P o.op <;> rw [hcl] at hk hw1 <;> simp_all [acts, isWrite, isOther]
        have hwt : watch P ops p ops[p] = true := by
          unfold watch
          simp only [Bool.and_eq_true, Bool.not_eq_true', ho1, true_and]
          rw [List.all_eq_false]
          refine ⟨q, by simp; omega, ?_⟩
          have hne : Nat.beq p q = false := by
            cases hbq : Nat.beq p q
            · rfl
            · rw [beqN] at hbq; omega
          have hno : ordered (befores ops.toList) p q = false := by
            cases hoo : ordered (befores ops.toList) p q
            · rfl
            · exfalso
              have hoo' : ordered (bs ops) q p = true := by rw [ordered_symm]; exact hoo
              have := (decided c.ok I.closed hu ho hr hn hoo').1 hS
              omega
          simp [ho, hne, ho2, hno]
        rw [hwt] at h2; cases h2

/-- what has come ahead of an acting operation, and changed what it may see, has run -/
theorem Inv.ahead (c : Ctx P call U N ops t ι0 w0 a0 σ V E ex ab) (I : Inv P call U N ops t ι0 w0 a0 σ V ab S ι a w) {q : Nat} {o : Oper} (ho : ops[q]? = some o) (hr : Ready ops S q) (hn : ¬ S q)
    (hk : acts (clOf P o.op) = true) {b p : Nat} (hb : ι b ≠ .unborn) (hpq : p < q) (hc : Chg σ p b) : S p := by
  have hq : q < ops.size := (Array.getElem?_eq_some_iff.1 ho).1
  have hp : p < ops.size := by omega
  have hu := at_op hp
  rcases Nat.lt_or_ge b (σ p).nx with h | h
  · obtain ⟨h1, h2, h3⟩ := c.chg hu hc h
    by_cases hoo : ordered (bs ops) q p = true
    · exact (decided c.ok I.closed hu ho hr hn hoo).2 hpq
    · exfalso
      obtain ⟨h4, _⟩ := (sep c.ok ho hu (by omega)).resolve_left hoo
      have hw1 := h4.w1
      have hw2 := h4.w2
      have ho1 : isOther (clOf P (ops[p]).op) = true := by
        cases hcl : clOf P (ops[p]).op <;> rw [hcl] at h1 hw1 <;> simp_all [acts, isWrite, isOther]
      have ho2 : isOther (clOf P o.op) = true := by
        cases hcl : clOf P o.op <;> rw [hcl] at hk hw2 <;> simp_all [acts, isWrite, isOther]
      have hwt : watch P ops p ops[p] = true := by
        unfold watch
        simp only [Bool.and_eq_true, Bool.not_eq_true', ho1, true_and]
        rw [List.all_eq_false]
        refine ⟨q, by simp; omega, ?_⟩
        have hne : Nat.beq p q = false := by
          cases hbq : Nat.beq p q
          · rfl
          · rw [beqN] at hbq; omega
        have hno : ordered (befores ops.toList) p q = false := by
          cases hoo2 : ordered (befores ops.toList) p q
          · rfl
          · exact absurd (by rw [ordered_symm]; exact hoo2) hoo
        simp [ho, hne, ho2, hno]
      rw [hwt] at h2; cases h2
  · exact I.maker c hb hp h (c.chg_lt hu hc)

end
end Go.Ev

namespace Go.Ev
open Go.RowKit

section
variable {P : Program} {call : CallF} {U N : Nat} {ops : Array Oper} {t : T AV} {ι0 : Inj} {w0 : World} {a0 : Act} {σ : Nat → St} {V : Nat → AV} {E : Nat → TE} {ex ab : Nat → Bool}
variable {S : Nat → Prop} {ι : Inj} {a : Act} {w : World}

/-- the numbers of what a version of an object holds -/
theorem Inv.bound (c : Ctx P call U N ops t ι0 w0 a0 σ V E ex ab) (I : Inv P call U N ops t ι0 w0 a0 σ V ab S ι a w) {b k : Nat} (hk : k ≤ ops.size) (hbk : b < (σ k).nx) {B T : Nat} (hb : ι b = .at B T)
    {o : AO} {x : Obj} (ho : hget (σ k).h b = some o) (hx : OR ι T o x) : obnd (σ k).nx o := by
  obtain ⟨ιc, ac, wc, r, _, hc⟩ := c.can k hk
  have hbc := I.canon c (by rw [hb]; simp) hk hbk hc
  cases hι : ιc b with
  | unborn => exact absurd hι hbc
  | dead =>
    have := r.sim.gone b hι o ho
    subst this
    exact hx.elim
  | «at» B' T' =>
    obtain ⟨o', x', h1, h2, h3⟩ := r.sim.obj b B' T' hι
    rw [ho] at h1
    cases h1
    exact ⟨ιc, T', x', r.sim.born, h3⟩

/-- what is seen by an operation that makes or acts -/
theorem Inv.seen (c : Ctx P call U N ops t ι0 w0 a0 σ V E ex ab) (I : Inv P call U N ops t ι0 w0 a0 σ V ab S ι a w) {q : Nat} {o : Oper} (ho : ops[q]? = some o) (hr : Ready ops S q) (hn : ¬ S q)
    (hk : isMake (clOf P o.op) = true ∨ acts (clOf P o.op) = true) {h2 : T AO} (hh : ∀ b, b < (σ q).nx → ι b ≠ .unborn → hget h2 b = cur σ ops.size S b) :
    Sim (hide ι (σ q).nx) h2 (σ q).nx w := by
  have hq : q < ops.size := (Array.getElem?_eq_some_iff.1 ho).1
  have hM := c.nx_mono (p := q) ops.size (by omega) (by omega)
  have hq1 := (c.stf ho).nx
  refine ⟨fun b B T hb => ?_, fun b hb o' ho' => ?_, fun b b' B T T' h1 h2 => ?_, fun b hb => ?_, ⟨I.sim.glob.1, fun b S' e => I.sim.glob.2 b S' (hide_at e).1⟩⟩
  · obtain ⟨hb1, hb2⟩ := hide_at hb
    obtain ⟨ob, x, h1, h3, h4⟩ := I.sim.obj b B T hb1
    rw [tab_get, if_pos (by omega)] at h1
    refine ⟨ob, x, by rw [hh b hb2 (by rw [hb1]; simp)]; exact h1, h3, ?_⟩
    have : obnd (σ q).nx ob := by
      unfold cur at h1
      cases hl : lastP (fun p => S p ∧ Chg σ p b) ops.size with
      | none =>
        rw [hl] at h1
        rcases Nat.lt_or_ge b (σ 0).nx with h0 | h0
        · exact (I.bound c (Nat.zero_le _) h0 hb1 h1 h4).mono (c.nx_mono q (Nat.zero_le _) (by omega))
        · exfalso
          rcases I.birth b (by rw [hb1]; simp) with h5 | ⟨p, h5, h6, h7⟩
          · have := c.born0 h5; omega
          · exact lastP_none _ hl p h5 ⟨h6, .inl h7⟩
      | some k =>
        rw [hl] at h1
        obtain ⟨h5, ⟨h6, h7⟩, _⟩ := lastP_some _ hl
        have h8 := I.low c ho hr hn hk h5 (by omega) h6 h7
        exact (I.bound c (k := k + 1) (by omega) (c.chg_lt (at_op h5) h7) hb1 h1 h4).mono (c.nx_mono q (by omega) (by omega))
    exact this.hide h4
  · unfold hide at hb
    split at hb
    · rename_i hlt
      rw [hh b hlt (by rw [hb]; simp)] at ho'
      exact I.sim.gone b hb o' (by rw [tab_get, if_pos (by omega)]; exact ho')
    · cases hb
  · exact I.sim.inj b b' B T T' (hide_at h1).1 (hide_at h2).1
  · unfold hide at hb
    split at hb
    · assumption
    · exact absurd rfl hb

theorem Inv.hidden (c : Ctx P call U N ops t ι0 w0 a0 σ V E ex ab) (I : Inv P call U N ops t ι0 w0 a0 σ V ab S ι a w) {q : Nat} {o : Oper} (ho : ops[q]? = some o) (hr : Ready ops S q) (hn : ¬ S q) :
    ∀ x ∈ o.op.operands.toList, VR (hide ι (σ q).nx) ((opdF U (nsAt ops q) x).run ⟨t, rsAt ops V q⟩) (a.eval x) := by
  intro x hx
  have h1 := I.opnd c ho hr hn x hx
  have hq : q < ops.size := (Array.getElem?_eq_some_iff.1 ho).1
  obtain ⟨ιc, ac, wc, r, _, _⟩ := c.can q (by omega)
  exact VR.hide r.sim.born _ _ _ (r.opd x) h1

/-- behind an operation that makes or acts -/
theorem Inv.merge (c : Ctx P call U N ops t ι0 w0 a0 σ V E ex ab) (I : Inv P call U N ops t ι0 w0 a0 σ V ab S ι a w) {q : Nat} {o : Oper} (ho : ops[q]? = some o) (hr : Ready ops S q) (hn : ¬ S q) (hab : ab q = false)
    {st2 st2' : St} (hn1 : st2.nx = (σ q).nx) (hn2 : st2'.nx = (σ (q + 1)).nx) {wch : Bool} {ι' : Inj} {x : Value} {w' : World} (L : Left (hide ι (σ q).nx) w wch st2 (V q) st2' ι' x w')
    (hh : ∀ b, b < (σ (q + 1)).nx → ι' b ≠ .unborn → (b < (σ q).nx → ι b ≠ .unborn) → hget st2'.h b = cur σ ops.size (Add S q) b) :
    ∃ ι2, Inv P call U N ops t ι0 w0 a0 σ V ab (Add S q) ι2 (a.put o.dst x) w' := by
  have hq : q < ops.size := (Array.getElem?_eq_some_iff.1 ho).1
  have hq1 := (c.stf ho).nx
  have hM := c.nx_mono (p := q + 1) ops.size (by omega) (by omega)
  have hu : ∀ b, b < (σ q).nx → ι b = .unborn → ι' b = .unborn := fun b hb hub => by
    refine L.cl.u b (by rw [hn1]; exact hb) ?_
    unfold hide; rw [if_pos hb]; exact hub
  have hnew : ∀ b, (σ q).nx ≤ b → b < (σ (q + 1)).nx → ι b = .unborn := fun b h1 h2 => by
    cases hb : ι b with
    | unborn => rfl
    | dead => exact absurd (I.maker c (by rw [hb]; simp) hq h1 h2) hn
    | «at» B T => exact absurd (I.maker c (by rw [hb]; simp) hq h1 h2) hn
  have hb' : ∀ b, ι' b ≠ .unborn → b < (σ (q + 1)).nx := fun b hb => by rw [← hn2]; exact L.sim.born b hb
  refine ⟨fun b => if b < (σ (q + 1)).nx then ι' b else ι b, I.next c ho hr hn hab ?_ ?_ ?_ ?_ ?_ ?_⟩
  · intro b hb
    by_cases h1 : b < (σ (q + 1)).nx
    · simp only [if_pos h1]
      rcases Nat.lt_or_ge b (σ q).nx with h2 | h2
      · have e : hide ι (σ q).nx b = ι b := by unfold hide; rw [if_pos h2]
        have := L.le b (by rw [e]; exact hb)
        rwa [e] at this
      · exact absurd (hnew b h2 h1) hb
    · simp only [if_neg h1]
      exact .inl trivial
  · refine ⟨L.grew.os, L.grew.tape, L.grew.output, L.grew.size, fun k hk hno => L.grew.keep k hk fun b T hb => hno b T (hide_at hb).1, fun b B T hb => ?_⟩
    by_cases h1 : b < (σ (q + 1)).nx
    · simp only [if_pos h1] at hb
      rcases L.grew.new b B T hb with ⟨d, T', h2⟩ | h2
      · exact .inl ⟨d, T', (hide_at h2).1⟩
      · exact .inr h2
    · simp only [if_neg h1] at hb
      exact .inl ⟨b, T, hb⟩
  · refine VR.mono (fun b hb => ?_) _ _ L.v
    simp only [if_pos (hb' b hb)]
    exact .inl trivial
  · refine ⟨fun b B T hb => ?_, fun b hb o' ho' => ?_, fun b b' B T T' h1 h2 => ?_, fun b hb => ?_, ⟨L.sim.glob.1, fun b T hb => by
      by_cases h1 : b < (σ (q + 1)).nx
      · simp only [if_pos h1] at hb; exact L.sim.glob.2 b T hb
      · simp only [if_neg h1] at hb; exact I.sim.glob.2 b T hb⟩⟩
    · by_cases h1 : b < (σ (q + 1)).nx
      · simp only [if_pos h1] at hb
        obtain ⟨ob, y, h2, h3, h4⟩ := L.sim.obj b B T hb
        refine ⟨ob, y, ?_, h3, OR.mono (fun b hb => ?_) _ _ h4⟩
        · rw [tab_get, if_pos (by omega), ← hh b h1 (by rw [hb]; simp) fun h5 h6 => by rw [hu b h5 h6] at hb; cases hb]
          exact h2
        · simp only [if_pos (hb' b hb)]
          exact .inl trivial
      · simp only [if_neg h1] at hb
        obtain ⟨ob, y, h2, h3, h4⟩ := I.sim.obj b B T hb
        have hbM : b < (σ ops.size).nx := I.sim.born b (by rw [hb]; simp)
        have hnc : ¬ Chg σ q b := fun h => h1 (c.chg_lt ho h)
        refine ⟨ob, y, ?_, ?_, OR.mono (fun d hd => ?_) _ _ h4⟩
        · rw [tab_get, if_pos hbM, cur_add_same hnc]
          rw [tab_get, if_pos hbM] at h2
          exact h2
        · rw [L.grew.keep B (I.sim.lt hb) fun d T' hd => ?_]
          · exact h3
          · obtain ⟨h5, h6⟩ := hide_at hd
            have := I.sim.inj d b B T' T h5 hb
            omega
        · by_cases h5 : d < (σ (q + 1)).nx
          · simp only [if_pos h5]
            rcases Nat.lt_or_ge d (σ q).nx with h2 | h2
            · have e : hide ι (σ q).nx d = ι d := by unfold hide; rw [if_pos h2]
              have := L.le d (by rw [e]; exact hd)
              rwa [e] at this
            · exact absurd (hnew d h2 h5) hd
          · simp only [if_neg h5]
            exact .inl trivial
    · by_cases h1 : b < (σ (q + 1)).nx
      · simp only [if_pos h1] at hb
        rw [tab_get, if_pos (by omega), ← hh b h1 (by rw [hb]; simp) fun h5 h6 => by rw [hu b h5 h6] at hb; cases hb] at ho'
        exact L.sim.gone b hb o' ho'
      · simp only [if_neg h1] at hb
        have hbM : b < (σ ops.size).nx := I.sim.born b (by rw [hb]; simp)
        have hnc : ¬ Chg σ q b := fun h => h1 (c.chg_lt ho h)
        rw [tab_get, if_pos hbM, cur_add_same hnc] at ho'
        exact I.sim.gone b hb o' (by rw [tab_get, if_pos hbM]; exact ho')
    · have mixed : ∀ b b' B T T', b < (σ (q + 1)).nx → ¬ b' < (σ (q + 1)).nx → ι' b = .at B T → ι b' = .at B T' → False := by
        intro b b' B T T' h3 h4 h5 h6
        have h7 := I.sim.lt h6
        rcases L.grew.new b B T h5 with ⟨d, T2, h8⟩ | h8
        · obtain ⟨h9, h10⟩ := hide_at h8
          have := I.sim.inj d b' B T2 T' h9 h6
          omega
        · omega
      by_cases h3 : b < (σ (q + 1)).nx <;> by_cases h4 : b' < (σ (q + 1)).nx
      · simp only [if_pos h3] at h1
        simp only [if_pos h4] at h2
        exact L.sim.inj b b' B T T' h1 h2
      · simp only [if_pos h3] at h1
        simp only [if_neg h4] at h2
        exact (mixed b b' B T T' h3 h4 h1 h2).elim
      · simp only [if_neg h3] at h1
        simp only [if_pos h4] at h2
        exact (mixed b' b B T' T h4 h3 h2 h1).elim
      · simp only [if_neg h3] at h1
        simp only [if_neg h4] at h2
        exact I.sim.inj b b' B T T' h1 h2
    · by_cases h1 : b < (σ (q + 1)).nx
      · omega
      · simp only [if_neg h1] at hb
        exact I.sim.born b hb
  · intro b hb
    by_cases h1 : b < (σ (q + 1)).nx
    · simp only [if_pos h1] at hb
      rcases Nat.lt_or_ge b (σ q).nx with h2 | h2
      · exact .inl fun h3 => hb (hu b h2 h3)
      · exact .inr ⟨h2, h1⟩
    · simp only [if_neg h1] at hb
      exact .inl hb
  · intro b h1 h2
    simp only [if_pos h2]
    exact L.cl.n b (by rw [hn1]; exact h1) (by rw [hn2]; exact h2)

/-- an operation that acts -/
theorem Inv.acting (c : Ctx P call U N ops t ι0 w0 a0 σ V E ex ab) (I : Inv P call U N ops t ι0 w0 a0 σ V ab S ι a w) {q : Nat} {o : Oper} (ho : ops[q]? = some o) (hr : Ready ops S q) (hn : ¬ S q) (hab : ab q = false)
    (hk : acts (clOf P o.op) = true) {wch : Bool} (hO : OpR P (opdF U (nsAt ops q)) wch call o.op ⟨t, rsAt ops V q⟩ (σ q) (V q) (σ (q + 1))) :
    Runs P o a w fun x w' => ∃ ι2, Inv P call U N ops t ι0 w0 a0 σ V ab (Add S q) ι2 (a.put o.dst x) w' := by
  have hq : q < ops.size := (Array.getElem?_eq_some_iff.1 ho).1
  have hq1 := (c.stf ho).nx
  have hcur : ∀ b, b < (σ q).nx → ι b ≠ .unborn → hget (σ q).h b = cur σ ops.size S b := fun b hb hub => by
    unfold cur
    rw [← cur_canon b q, ← lastP_low ops.size (Nat.le_of_lt hq)]
    congr 1
    refine lastP_congr _ fun p hp => and_congr_left fun hc => ?_
    exact ⟨fun h => I.ahead c ho hr hn hk hub h hc, fun h => I.low c ho hr hn (.inr hk) hp (by omega) h hc⟩
  have hsim := I.seen c ho hr hn (.inr hk) hcur
  have hruns := opR_runs c.hcall (ok_at c.ok ho).2.1 hO hsim (I.hidden c ho hr hn)
  have key : ∀ x w', (∃ ι', Left (hide ι (σ q).nx) w wch (σ q) (V q) (σ (q + 1)) ι' x w') → ∃ ι2, Inv P call U N ops t ι0 w0 a0 σ V ab (Add S q) ι2 (a.put o.dst x) w' := by
    intro x w' ⟨ι', L⟩
    refine I.merge c ho hr hn hab rfl rfl L fun b hb hb' hold => ?_
    unfold cur
    rw [← cur_canon b (q + 1), ← lastP_low ops.size (show q + 1 ≤ ops.size from hq)]
    congr 1
    refine lastP_congr _ fun p hp => and_congr_left fun hc => ⟨fun h => ?_, fun h => ?_⟩
    · by_cases hpq : p = q
      · exact .inr hpq
      · have hlt : p < q := by omega
        refine .inl (I.ahead c ho hr hn hk (hold ?_) hlt hc)
        have := c.chg_lt (at_op hp) hc
        have := c.nx_mono (p := p + 1) q (by omega) (by omega)
        omega
    · rcases h with h | h
      · have := I.low c ho hr hn (.inr hk) hp hb h hc
        omega
      · omega
  rcases hruns with ⟨x, w', h1, h2⟩ | ⟨f, vs, h1, h2⟩
  · exact .inl ⟨x, w', h1, key x w' h2⟩
  · exact .inr ⟨f, vs, h1, Calls.mono h2 fun e w' ⟨x, h3, h4⟩ => ⟨x, h3, key x w' h4⟩⟩

theorem Runs.mono {P : Program} {o : Oper} {a : Act} {w : World} {R R' : Value → World → Prop} (h : Runs P o a w R) (hR : ∀ x w', R x w' → R' x w') : Runs P o a w R' := by
  rcases h with ⟨x, w', h1, h2⟩ | ⟨f, vs, h1, h2⟩
  · exact .inl ⟨x, w', h1, hR x w' h2⟩
  · exact .inr ⟨f, vs, h1, Calls.mono h2 fun e w' ⟨x, h3, h4⟩ => ⟨x, h3, hR x w' h4⟩⟩

/-- an operation that makes a block -/
theorem Inv.making (c : Ctx P call U N ops t ι0 w0 a0 σ V E ex ab) (I : Inv P call U N ops t ι0 w0 a0 σ V ab S ι a w) {q : Nat} {o : Oper} (ho : ops[q]? = some o) (hr : Ready ops S q) (hn : ¬ S q) (hab : ab q = false)
    (hk : clOf P o.op = .makes) (hO : OpR P (opdF U (nsAt ops q)) false call o.op ⟨t, rsAt ops V q⟩ (σ q) (V q) (σ (q + 1))) :
    Runs P o a w fun x w' => ∃ ι2, Inv P call U N ops t ι0 w0 a0 σ V ab (Add S q) ι2 (a.put o.dst x) w' := by
  have hq : q < ops.size := (Array.getElem?_eq_some_iff.1 ho).1
  have hm : isMake (clOf P o.op) = true := by rw [hk]; rfl
  obtain ⟨hco, ob, h1, h2⟩ := opR_makes hO hk
  generalize hst : (⟨(σ q).nx, tab (cur σ ops.size S) (σ q).nx, 0, []⟩ : St) = st2
  have hnx : st2.nx = (σ q).nx := by rw [← hst]
  have hnx1 : (σ (q + 1)).nx = (σ q).nx + 1 := by rw [h1]
  have h3 := h2 st2 hnx
  have hO2 : OpR P (opdF U (nsAt ops q)) false call o.op ⟨t, rsAt ops V q⟩ st2 (V q) ⟨st2.nx + 1, (setF (bitsR st2.nx)).run ob st2.h, st2.dirty, st2.fr⟩ := by
    refine ⟨⟨st2.nx + 1, (setF (bitsR st2.nx)).run ob st2.h, st2.dirty, st2.fr⟩, fun h => (by cases h), ?_⟩
    rw [hco]
    exact ⟨h3, rfl⟩
  have hsim : Sim (hide ι (σ q).nx) st2.h st2.nx w := by
    rw [hnx]
    refine I.seen c ho hr hn (.inl hm) fun b hb _ => ?_
    rw [← hst]
    show hget (tab _ _) b = _
    rw [tab_get, if_pos hb]
  refine (opR_runs c.hcall (ok_at c.ok ho).2.1 hO2 hsim (I.hidden c ho hr hn)).mono ?_
  intro x w' ⟨ι', L⟩
  refine I.merge c ho hr hn hab hnx (by rw [hnx1]; show st2.nx + 1 = _; rw [hnx]) L fun b hb hb' hold => ?_
  show hget ((setF (bitsR st2.nx)).run ob st2.h) b = _
  rw [hget_set, hnx]
  by_cases hbq : b = (σ q).nx
  · rw [if_pos hbq]
    unfold cur
    have hchg : Chg σ q b := .inl ⟨by omega, hb⟩
    have e : lastP (fun p => Add S q p ∧ Chg σ p b) ops.size = some q := by
      refine lastP_eq hq ⟨.inr rfl, hchg⟩ fun p h4 h5 ⟨h6, h7⟩ => ?_
      have := I.low c ho hr hn (.inl hm) h5 hb (h6.resolve_right (by omega)) h7
      omega
    rw [e]
    show _ = hget (σ (q + 1)).h b
    rw [h1]
    show _ = hget ((setF (bitsR (σ q).nx)).run ob (σ q).h) b
    rw [hget_set, if_pos hbq]
  · rw [if_neg hbq]
    have hlt : b < (σ q).nx := by omega
    have hnc : ¬ Chg σ q b := fun h => by
      rcases h with h | h
      · omega
      · refine h ?_
        rw [h1]
        show hget ((setF (bitsR (σ q).nx)).run ob (σ q).h) b = _
        rw [hget_set, if_neg hbq]
    rw [cur_add_same hnc, ← hst]
    show hget (tab _ _) b = _
    rw [tab_get, if_pos hlt]

end
end Go.Ev

namespace Go.Ev
open Go.RowKit

/-- what is asked of one pair -/
noncomputable def pairOk (P : Program) (t : TypeId) (x : TE) (tb : List TE) (p : Nat × TypeId) : Bool :=
  match x with
  | .rd a v => (match lget .none tb p.1 with | .wr pre post => cond (sameAt P t a v pre) (sameAt P t a v post) false | .rd _ _ => false | .none => true)
  | .wr pre post => (match lget .none tb p.1 with | .rd a v => cond (sameAt P p.2 a v pre) (sameAt P p.2 a v post) false | .wr _ _ => false | .none => true)
  | .none => true

theorem held_cons {P : Program} {t : TypeId} {x : TE} {tb : List TE} (y : Nat × TypeId) (l : List (Nat × TypeId)) : held P t x tb (y :: l) = cond (pairOk P t x tb y) (held P t x tb l) false := by
  cases x <;> rfl

theorem held_at {P : Program} {t : TypeId} {x : TE} {tb : List TE} : ∀ {l : List (Nat × TypeId)}, held P t x tb l = true → ∀ {p : Nat × TypeId}, p ∈ l → pairOk P t x tb p = true
  | [], _, p, hm => by simp at hm
  | y :: l, h, p, hm => by
    rw [held_cons] at h
    obtain ⟨h1, h2⟩ := cond_and h
    rcases List.mem_cons.1 hm with rfl | hm
    · exact h1
    · exact held_at h2 hm

theorem es_get : ∀ i k, k < i → (esAt i)[k]? = some (i - 1 - k)
  | 0, k, h => by omega
  | i + 1, 0, h => by simp [esAt]
  | i + 1, k + 1, h => by
    simp only [esAt, List.getElem?_cons_succ]
    rw [es_get i k (by omega)]
    congr 1
    omega
theorem tb_get {E : Nat → TE} : ∀ i k, k < i → lget .none (tbAt E i) k = E (i - 1 - k)
  | 0, k, h => by omega
  | i + 1, 0, h => by simp [tbAt]
  | i + 1, k + 1, h => by
    have := tb_get (E := E) i k (by omega)
    simp only [lget_eq, tbAt, List.getD_cons_succ] at this ⊢
    rw [this]
    congr 1
    omega

theorem same_load {P : Program} {t : TypeId} {a v : AV} {h : T AO} (e : sameAt P t a v h = true) : (loadK P t).run a h = some v := by
  unfold sameAt at e
  split at e
  · rename_i u hu
    rw [hu, eqAV_eq e]
  · cases e

section
variable {P : Program} {call : CallF} {U N : Nat} {ops : Array Oper} {t : T AV} {ι0 : Inj} {w0 : World} {a0 : Act} {σ : Nat → St} {V : Nat → AV} {E : Nat → TE} {ex ab : Nat → Bool}
variable {S : Nat → Prop} {ι : Inj} {a : Act} {w : World}

theorem Ctx.tr_at (c : Ctx P call U N ops t ι0 w0 a0 σ V E ex ab) {p : Nat} {o : Oper} (ho : ops[p]? = some o) : TrAt P call U ops t (ab p) p (rsAt ops V p) (tbAt E p) (σ p) (ex p) (V p) (E p) (σ (p + 1)) o := by
  obtain ⟨o', htr⟩ := c.tr p (Array.getElem?_eq_some_iff.1 ho).1
  have : o' = o := by have := htr.hop; rw [ho] at this; cases this; rfl
  rw [← this]; exact htr

theorem Ctx.te_act (c : Ctx P call U N ops t ι0 w0 a0 σ V E ex ab) {p b : Nat} {o : Oper} (ho : ops[p]? = some o) (ha : acts (clOf P o.op) = true) (hne : hget (σ (p + 1)).h b ≠ hget (σ p).h b) :
    ex p = true ∧ E p = .wr (σ p).h (σ (p + 1)).h := by
  have htr := c.tr_at ho
  cases hx : ex p
  · exact absurd (by rw [(htr.skip hx).2.2]) hne
  · refine ⟨rfl, ?_⟩
    rw [(htr.run hx).2.1]
    unfold teOf
    cases hcl : clOf P o.op <;> rw [hcl] at ha <;> first | rfl | cases ha

/-- a load, and what acts beside it -/
theorem Ctx.pair (c : Ctx P call U N ops t ι0 w0 a0 σ V E ex ab) {i j : Nat} {o u : Oper} (hi : ops[i]? = some o) (hj : ops[j]? = some u) (hji : j < i) (hx : ex i = true) (hno : ordered (bs ops) i j = false)
    (hk : (reads (clOf P u.op) = true ∧ acts (clOf P o.op) = true) ∨ (acts (clOf P u.op) = true ∧ reads (clOf P o.op) = true)) :
    (match E i with
      | .rd a v => (match E j with | .wr pre post => cond (sameAt P (loadT o.op) a v pre) (sameAt P (loadT o.op) a v post) false | .rd _ _ => false | .none => true)
      | .wr pre post => (match E j with | .rd a v => cond (sameAt P (loadT u.op) a v pre) (sameAt P (loadT u.op) a v post) false | .wr _ _ => false | .none => true)
      | .none => true) = true := by
  have htr := c.tr_at hi
  have hheld := (htr.run hx).2.2
  have hmem : (i - 1 - j, loadT u.op) ∈ partners P ops (esAt i) i o := by
    unfold partners
    rw [List.mem_filterMap]
    refine ⟨(j, i - 1 - j), ?_, ?_⟩
    · rw [List.mem_zipIdx_iff_getElem?]
      show (esAt i)[i - 1 - j]? = some j
      rw [es_get i _ (by omega)]
      congr 1
      omega
    · simp only [hj]
      have hb : (((reads (clOf P u.op) && acts (clOf P o.op)) || (acts (clOf P u.op) && reads (clOf P o.op))) && !ordered (befores ops.toList) i j) = true := by
        have : ordered (befores ops.toList) i j = false := hno
        rw [this]
        rcases hk with ⟨h1, h2⟩ | ⟨h1, h2⟩ <;> simp [h1, h2]
      rw [hb]
      simp only [cond_true, loadT]
  have h := held_at hheld hmem
  unfold pairOk at h
  simp only at h
  rw [tb_get i _ (by omega)] at h
  have e : i - 1 - (i - 1 - j) = j := by omega
  rw [e] at h
  exact h

theorem Inv.loading (c : Ctx P call U N ops t ι0 w0 a0 σ V E ex ab) (I : Inv P call U N ops t ι0 w0 a0 σ V ab S ι a w) {q : Nat} {o : Oper} (ho : ops[q]? = some o) (hr : Ready ops S q) (hn : ¬ S q)
    (hx : ex q = true) {ty : TypeId} {ad : Operand} (hop : o.op = .load ty ad) (hv : (loadK P ty).run ((opdF U (nsAt ops q) ad).run ⟨t, rsAt ops V q⟩) (σ q).h = some (V q)) :
    (loadK P ty).run ((opdF U (nsAt ops q) ad).run ⟨t, rsAt ops V q⟩) (tab (cur σ ops.size S) (σ ops.size).nx) = some (V q) := by
  have hq : q < ops.size := (Array.getElem?_eq_some_iff.1 ho).1
  have hvr := I.opnd c ho hr hn ad (by rw [hop]; simp [Op.operands])
  have hE : E q = .rd ((opdF U (nsAt ops q) ad).run ⟨t, rsAt ops V q⟩) (V q) := by
    rw [((c.tr_at ho).run hx).2.1, hop]; rfl
  obtain ⟨ιc, ac, wc, r, _, _⟩ := c.can q (by omega)
  have hvc := r.opd ad
  generalize (opdF U (nsAt ops q) ad).run ⟨t, rsAt ops V q⟩ = addr at hv hvr hE hvc ⊢
  obtain ⟨b, off, rfl⟩ := loadK_ptr (P := P) hv
  have hb : ι b ≠ .unborn := by simp only [VR] at hvr; exact hvr.1
  have hbq : b < (σ q).nx := r.sim.born b (by simp only [VR] at hvc; exact hvc.1)
  have hM := c.nx_mono (p := q) ops.size (by omega) (by omega)
  have hrd : reads (clOf P o.op) = true := by rw [hop]; rfl
  have hty : loadT o.op = ty := by rw [hop]; rfl
  -- what is not ordered, and changed it, changed it to the same
  have both : ∀ p, p < ops.size → p ≠ q → (S p ↔ ¬ p < q) → Chg σ p b → (loadK P ty).run (.ptr b off) (σ p).h = some (V q) ∧ (loadK P ty).run (.ptr b off) (σ (p + 1)).h = some (V q) := by
    intro p hp hpq hS hc
    have hu := at_op hp
    have hbp : b < (σ p).nx := by
      rcases Nat.lt_or_ge b (σ p).nx with h | h
      · exact h
      · exfalso
        have hlt := c.chg_lt hu hc
        have h1 := I.maker c hb hp h hlt
        have h2 := hS.1 h1
        have := c.nx_mono (p := q) p (by omega) (by omega)
        omega
    obtain ⟨h1, h2, h3⟩ := c.chg hu hc hbp
    obtain ⟨hxp, hEp⟩ := c.te_act hu h1 h3
    have hno : ordered (bs ops) q p = false := by
      cases hoo : ordered (bs ops) q p
      · rfl
      · have := decided c.ok I.closed hu ho hr hn hoo
        exfalso
        by_cases hlt : p < q
        · exact hS.1 (this.2 hlt) hlt
        · exact hlt (this.1 (hS.2 hlt))
    by_cases hlt : p < q
    · have h := c.pair ho hu hlt hx hno (.inr ⟨h1, hrd⟩)
      rw [hE, hEp] at h
      simp only [hty] at h
      obtain ⟨h4, h5⟩ := cond_and h
      exact ⟨same_load h4, same_load h5⟩
    · have h := c.pair hu ho (by omega) hxp (by rw [ordered_symm]; exact hno) (.inl ⟨hrd, h1⟩)
      rw [hE, hEp] at h
      simp only [hty] at h
      obtain ⟨h4, h5⟩ := cond_and h
      exact ⟨same_load h4, same_load h5⟩
  have stay : ∀ p, ¬ Chg σ p b → (loadK P ty).run (.ptr b off) (σ (p + 1)).h = (loadK P ty).run (.ptr b off) (σ p).h := fun p h => by
    refine loadK_obj ?_
    exact Classical.not_not.1 fun h2 => h (.inr h2)
  -- going back from its own place
  have down : ∀ d k, k + d = q → (∀ p, k ≤ p → p < q → Chg σ p b → ¬ S p) → (loadK P ty).run (.ptr b off) (σ k).h = some (V q) := by
    intro d
    induction d with
    | zero => intro k hk _; have : k = q := by omega
              rw [this]; exact hv
    | succ d ih =>
      intro k hk hno
      by_cases hc : Chg σ k b
      · have hns := hno k (Nat.le_refl _) (by omega) hc
        exact (both k (by omega) (by omega) ⟨fun h => absurd h hns, fun h => absurd (by omega : k < q) h⟩ hc).1
      · rw [← stay k hc]
        exact ih (k + 1) (by omega) fun p h1 h2 => hno p (by omega) h2
  have goal : ∀ h2 : T AO, hget h2 b = cur σ ops.size S b → (loadK P ty).run (.ptr b off) h2 = some (V q) := by
    intro h2 hh
    unfold cur at hh
    cases hl : lastP (fun p => S p ∧ Chg σ p b) ops.size with
    | none =>
      rw [hl] at hh
      rw [loadK_obj (h2 := (σ 0).h) hh]
      exact down q 0 (by omega) fun p _ h1 h3 h4 => lastP_none _ hl p (by omega) ⟨h4, h3⟩
    | some k =>
      rw [hl] at hh
      obtain ⟨h3, ⟨h4, h5⟩, h6⟩ := lastP_some _ hl
      rw [loadK_obj (h2 := (σ (k + 1)).h) hh]
      rcases Nat.lt_trichotomy k q with h7 | h7 | h7
      · exact down (q - (k + 1)) (k + 1) (by omega) fun p h8 h9 h10 h11 => h6 p (by omega) (by omega) ⟨h11, h10⟩
      · subst h7; exact absurd h4 hn
      · exact (both k h3 (by omega) ⟨fun _ => by omega, fun _ => h4⟩ h5).2
  refine goal _ ?_
  rw [tab_get, if_pos (by omega)]

/-- an operation runs whose turn may have come -/
theorem Inv.step (c : Ctx P call U N ops t ι0 w0 a0 σ V E ex ab) (I : Inv P call U N ops t ι0 w0 a0 σ V ab S ι a w) {q : Nat} {o : Oper} (ho : ops[q]? = some o) (hr : Ready ops S q) (hn : ¬ S q) (hab : ab q = false) {K : Act → World → Prop} {Q : Exit → Act → World → Prop}
    (hk : ∀ ι' a' w', Inv P call U N ops t ι0 w0 a0 σ V ab (Add S q) ι' a' w' → K a' w') : wpOp P ops Q q K a w := by
  have htr := c.tr_at ho
  have hw := I.want c ho hr hn (htr.want hab)
  have still : ∀ ι' x w', V q = undefA → σ (q + 1) = σ q → x = undef → w' = w → ι' = ι → Inv P call U N ops t ι0 w0 a0 σ V ab (Add S q) ι' (a.put o.dst x) w' := by
    intro ι' x w' h1 h2 h3 h4 h5
    subst h3; subst h4; subst h5
    exact I.still c ho hr hn hab h2 (Le.refl _) (Grew.refl _ _) (by rw [h1]; exact undef_ok _) I.sim fun _ _ h => h
  unfold wpOp
  simp only [ho]
  cases hx : ex q
  · rw [hw, hx]
    simp only [Bool.false_eq_true, if_false]
    obtain ⟨h1, h2, h3⟩ := htr.skip hx
    exact hk ι _ _ (still ι undef w h1 h3 rfl rfl rfl)
  · rw [hw, hx]
    simp only [if_true]
    left
    obtain ⟨hO, hE, _⟩ := htr.run hx
    have done : Runs P o a w (fun x w' => ∃ ι2, Inv P call U N ops t ι0 w0 a0 σ V ab (Add S q) ι2 (a.put o.dst x) w') → o.wp P a w K Q := fun h =>
      h.wp fun x w' ⟨ι2, h2⟩ => hk ι2 _ _ h2
    -- where memory is left alone
    have quiet : σ (q + 1) = σ q → callOf o.op = none → (compOp P (opdF U (nsAt ops q)) o.op).run ⟨t, rsAt ops V q⟩ ⟨(σ ops.size).nx, tab (cur σ ops.size S) (σ ops.size).nx, 0, []⟩ = .ok (V q) ⟨(σ ops.size).nx, tab (cur σ ops.size S) (σ ops.size).nx, 0, []⟩ →
        Runs P o a w (fun x w' => ∃ ι2, Inv P call U N ops t ι0 w0 a0 σ V ab (Add S q) ι2 (a.put o.dst x) w') := by
      intro hs hco he
      have hO2 : OpR P (opdF U (nsAt ops q)) false call o.op ⟨t, rsAt ops V q⟩ ⟨(σ ops.size).nx, tab (cur σ ops.size S) (σ ops.size).nx, 0, []⟩ (V q) ⟨(σ ops.size).nx, tab (cur σ ops.size S) (σ ops.size).nx, 0, []⟩ := by
        refine ⟨⟨(σ ops.size).nx, tab (cur σ ops.size S) (σ ops.size).nx, 0, []⟩, fun h => (by cases h), ?_⟩
        rw [hco]
        exact ⟨he, rfl⟩
      refine (opR_runs c.hcall (ok_at c.ok ho).2.1 hO2 I.sim (I.opnd c ho hr hn)).mono ?_
      intro x w' ⟨ι', L⟩
      exact ⟨ι', I.still c ho hr hn hab hs L.le L.grew L.v L.sim L.cl.u⟩
    rcases cl_cases (clOf P o.op) with h4 | h4 | h4 | h4
    · obtain ⟨h1, h2, h3⟩ := opR_pure hO h4
      exact done (quiet h1 h2 (h3 _))
    · rw [watch_cl h4 (by simp)] at hO
      obtain ⟨h1, h2, ty, ad, h3, h5⟩ := opR_reads hO h4
      refine done (quiet h1 h2 ?_)
      have := I.loading c ho hr hn hx h3 h5
      rw [h3]
      show (loadF P ty (opdF U (nsAt ops q) ad)).run _ _ = _
      unfold loadF
      dsimp only
      rw [this]
    · rw [watch_cl h4 (by simp)] at hO
      exact done (I.making c ho hr hn hab h4 hO)
    · exact done (I.acting c ho hr hn hab h4 hO)

/-- all have run -/
theorem Inv.last (c : Ctx P call U N ops t ι0 w0 a0 σ V E ex ab) (I : Inv P call U N ops t ι0 w0 a0 σ V ab S ι a w) (hall : ∀ p, p < ops.size → S p) :
    Rel ι U N ((flushF U (nsAt ops ops.size)).run (rsAt ops V ops.size) t) [] [] (σ ops.size) a w ∧ Cleanly ι0 ι (σ 0) (σ ops.size) := by
  obtain ⟨ιc, ac, wc, r, _, hc⟩ := c.can ops.size (Nat.le_refl _)
  have hslot := I.slot
  have e : ∀ x, lastP (fun p => S p ∧ dstAt ops p = some x) ops.size = lastP (fun p => dstAt ops p = some x) ops.size := fun x =>
    lastP_congr _ fun p hp => ⟨fun h => h.2, fun h => ⟨hall p hp, h⟩⟩
  have hfr : ∀ q, q ≤ ops.size → (σ q).fr = (σ 0).fr := by
    intro q
    induction q with
    | zero => intro _; rfl
    | succ q ih => intro hq; rw [(c.stf (at_op (by omega : q < ops.size))).fr]; exact ih (by omega)
  have r2 : Rel ι U N t (nsAt ops ops.size) (rsAt ops V ops.size) (σ ops.size) a w := by
    refine ⟨?_, I.size, fun x hu hi => ?_, fun x i hi => ?_, r.len, by rw [hfr _ (Nat.le_refl _)]; exact I.ds⟩
    · refine I.sim.same fun b hb => ?_
      rw [tab_get, if_pos (I.sim.born b hb)]
      unfold cur
      rw [← cur_canon b ops.size]
      congr 1
      exact lastP_congr _ fun p hp => ⟨fun h => ⟨hall p hp, h⟩, fun h => h.2⟩
    · have h1 := canon_idx (ops := ops) (V := V) x ops.size
      have h2 := hslot x
      rw [e x] at h2
      cases hl : lastP (fun p => dstAt ops p = some x) ops.size with
      | none => rw [hl] at h2; exact h2 hu
      | some k =>
        rw [hl] at h1
        obtain ⟨i, h3, _⟩ := h1
        rw [hi] at h3; cases h3
    · have h1 := canon_idx (ops := ops) (V := V) x ops.size
      have h2 := hslot x
      rw [e x] at h2
      cases hl : lastP (fun p => dstAt ops p = some x) ops.size with
      | none => rw [hl] at h1; simp only at h1; rw [h1] at hi; cases hi
      | some k =>
        rw [hl] at h1 h2
        obtain ⟨i', h3, h4⟩ := h1
        rw [hi] at h3
        cases h3
        rw [h4]; exact h2
  refine ⟨r2.flush, hc.nx, hc.dirty, hc.keep, hc.above, fun b hb hu => ?_, fun b hb => I.le.born hb, fun b h1 h2 => ?_⟩
  · cases hι : ι b with
    | unborn => rfl
    | dead | «at» =>
      rcases I.birth b (by rw [hι]; simp) with h | ⟨p, hp, _, h3, _⟩
      · exact absurd hu h
      · have := c.nx_mono (p := 0) p (by omega) (by omega)
        omega
  · have find : ∀ q, q ≤ ops.size → b < (σ q).nx → ∃ p, p < q ∧ (σ p).nx ≤ b ∧ b < (σ (p + 1)).nx := by
      intro q
      induction q with
      | zero => intro _ h; omega
      | succ q ih =>
        intro hq h
        rcases Nat.lt_or_ge b (σ q).nx with h3 | h3
        · obtain ⟨p, h4, h5⟩ := ih (by omega) h3
          exact ⟨p, by omega, h5⟩
        · exact ⟨q, by omega, h3, h⟩
    obtain ⟨p, h3, h4, h5⟩ := find ops.size (Nat.le_refl _) h2
    exact I.born p h3 (hall p h3) b h4 h5

end

theorem binds_eq (e : Edge) : Region.binds .any e = bindsA e := by
  unfold Region.binds bindsA
  cases e.ground <;> rfl

/-- what has run, as the machine keeps it -/
def In (listed : Array Bool) (p : Nat) : Prop := listed.getD p false = true

theorem In_set {listed : Array Bool} {q : Nat} (hq : q < listed.size) : In (listed.setIfInBounds q true) = Add (In listed) q := by
  funext p
  unfold In Add
  refine propext ?_
  by_cases h : p = q
  · subst h
    simp [hq]
  · rw [getD_set_ne false (fun e => h e.symm)]
    simp [In, h]

def left (listed : Array Bool) : Nat := (List.range listed.size).countP fun p => !listed.getD p false

theorem wpAny_inv {P : Program} {call : CallF} {U N : Nat} {ops : Array Oper} {t : T AV} {ι0 : Inj} {w0 : World} {a0 : Act} {σ : Nat → St} {V : Nat → AV} {E : Nat → TE} {ex ab : Nat → Bool}
    (c : Ctx P call U N ops t ι0 w0 a0 σ V E ex ab) {Q : Exit → Act → World → Prop}
    (hQ : ∀ ι a w, Inv P call U N ops t ι0 w0 a0 σ V ab (fun p => p < ops.size) ι a w → Q .normal a w)
    (hP : ∀ q S ι a w K, q < ops.size → Inv P call U N ops t ι0 w0 a0 σ V ab S ι a w → ¬ S q → Ready ops S q → ab q = true → wpOp P ops Q q K a w) :
    ∀ (fuel : Nat) (listed : Array Bool) (a : Act) (w : World), listed.size = ops.size → left listed ≤ fuel →
      (∃ ι, Inv P call U N ops t ι0 w0 a0 σ V ab (In listed) ι a w) → wpAny P .any ops Q fuel listed a w := by
  have hready : ∀ (listed : Array Bool), listed.size = ops.size → ∀ j ∈ Region.ready .any ops listed, j < ops.size ∧ ¬ In listed j ∧ Ready ops (In listed) j := by
    intro listed hs j hj
    obtain ⟨h0, o, ho, h1⟩ := mem_ready.1 hj
    have hlt : j < ops.size := (Array.getElem?_eq_some_iff.1 ho).1
    refine ⟨hlt, ?_, o, ho, fun e he hb => h1 e he (by rw [binds_eq]; exact hb)⟩
    unfold In
    have hls : j < listed.size := by omega
    simp [hls] at h0 ⊢
    exact h0
  have hend : ∀ (listed : Array Bool), listed.size = ops.size → Region.ready .any ops listed = [] → ∀ p, p < ops.size → In listed p := by
    intro listed hs hr p
    induction p using Nat.strongRecOn with
    | ind p ih =>
      intro hp
      cases hin : listed.getD p false
      · exfalso
        have hmem : p ∈ Region.ready .any ops listed := by
          rw [mem_ready]
          have ho := at_op hp
          refine ⟨?_, ops[p], ho, fun e he hb => ?_⟩
          · have hls : p < listed.size := by omega
            simp [hls] at hin ⊢
            exact hin
          · have hlt := op_lt c.ok p _ ho e he (by rw [← binds_eq]; exact hb)
            exact ih e.on hlt (by omega)
        rw [hr] at hmem
        cases hmem
      · exact hin
  have hfin : ∀ (listed : Array Bool), listed.size = ops.size → (∀ p, p < ops.size → In listed p) → ∀ a w, (∃ ι, Inv P call U N ops t ι0 w0 a0 σ V ab (In listed) ι a w) → Q .normal a w := by
    intro listed hs hall a w ⟨ι, I⟩
    have : In listed = fun p => p < ops.size := by
      funext p
      refine propext ⟨fun h => ?_, hall p⟩
      unfold In at h
      rcases Nat.lt_or_ge p listed.size with h1 | h1
      · omega
      · simp [Array.getElem?_eq_none h1] at h
    rw [this] at I
    exact hQ ι a w I
  intro fuel
  induction fuel with
  | zero =>
    intro listed a w hs hl hI
    have hall : ∀ p, p < ops.size → In listed p := by
      intro p hp
      unfold left at hl
      have : (List.range listed.size).countP (fun p => !listed.getD p false) = 0 := by omega
      rw [List.countP_eq_zero] at this
      have := this p (by simp; omega)
      unfold In
      simpa using this
    refine ⟨?_, hfin listed hs hall a w hI⟩
    cases hr : Region.ready .any ops listed with
    | nil => rfl
    | cons j l =>
      have := hready listed hs j (by rw [hr]; simp)
      exact absurd (hall j this.1) this.2.1
  | succ fuel ih =>
    intro listed a w hs hl hI
    refine ⟨fun hr => hfin listed hs (hend listed hs hr) a w hI, fun j hj => ?_⟩
    obtain ⟨h1, h2, h3⟩ := hready listed hs j hj
    obtain ⟨ι, I⟩ := hI
    cases hab : ab j
    case true => exact hP j _ ι a w _ h1 I h2 h3 hab
    refine I.step c (at_op h1) h3 h2 hab fun ι' a' w' I' => ?_
    refine ih (listed.setIfInBounds j true) a' w' (by simp [hs]) ?_ ⟨ι', by rw [In_set (by omega)]; exact I'⟩
    unfold left at hl ⊢
    have hlt : (List.range (listed.setIfInBounds j true).size).countP (fun p => !(listed.setIfInBounds j true).getD p false) < (List.range listed.size).countP (fun p => !listed.getD p false) := by
      have hsz : (listed.setIfInBounds j true).size = listed.size := by simp
      rw [hsz]
      have hjs : j < listed.size := by omega
      have key : ∀ n, (List.range n).countP (fun p => !(listed.setIfInBounds j true).getD p false) + (if j < n then 1 else 0) = (List.range n).countP (fun p => !listed.getD p false) := by
        intro n
        induction n with
        | zero => simp
        | succ n ihn =>
          rw [List.range_succ, List.countP_append, List.countP_append]
          by_cases hjn : j = n
          · subst hjn
            have e1 : (listed.setIfInBounds j true).getD j false = true := by simp [hjs]
            have e2 : listed.getD j false = false := by
              cases hg : listed.getD j false
              · rfl
              · exact absurd hg h2
            rw [if_neg (Nat.lt_irrefl _)] at ihn
            rw [if_pos (Nat.lt_succ_self _)]
            rw [List.countP_singleton, List.countP_singleton, e1, e2]
            simp only [Bool.not_true, Bool.not_false, if_true, Bool.false_eq_true, if_false]
            omega
          · rw [List.countP_singleton, List.countP_singleton, getD_set_ne false hjn]
            have : (if j < n + 1 then 1 else 0) = (if j < n then 1 else 0) := by
              by_cases h : j < n
              · rw [if_pos h, if_pos (by omega)]
              · rw [if_neg h, if_neg (by omega)]
            rw [this]
            omega
      have := key listed.size
      rw [if_pos hjs] at this
      omega
    omega

theorem In_none {n : Nat} (p : Nat) : ¬ In (Array.replicate n false) p := by
  unfold In
  by_cases h : p < n <;> simp [h]

/-- nothing has run yet -/
theorem Inv.first {P : Program} {call : CallF} {U N : Nat} {ops : Array Oper} {t : T AV} {ι0 : Inj} {w0 : World} {a0 : Act} {σ : Nat → St} {V : Nat → AV} {E : Nat → TE} {ex ab : Nat → Bool}
    (c : Ctx P call U N ops t ι0 w0 a0 σ V E ex ab) : Inv P call U N ops t ι0 w0 a0 σ V ab (In (Array.replicate ops.size false)) ι0 a0 w0 := by
  have hr0 := c.rel0
  have hnone : ∀ (A : Nat → Prop) m, lastP (fun p => In (Array.replicate ops.size false) p ∧ A p) m = none := by
    intro A m
    cases hl : lastP (fun p => In (Array.replicate ops.size false) p ∧ A p) m with
    | none => rfl
    | some k => exact absurd (lastP_some _ hl).2.1.1 (In_none k)
  refine ⟨hr0.size, hr0.ds, Le.refl _, Grew.refl _ _, fun x => ?_, ?_, fun b hb => .inl hb, fun p _ h => absurd h (In_none p), fun i o h => absurd h (In_none i), fun p h => absurd h (In_none p)⟩
  · rw [hnone]
    exact fun hu => hr0.env x hu rfl
  · have hmono := c.nx_mono (p := 0) ops.size (Nat.zero_le _) (Nat.le_refl _)
    have : Sim ι0 (tab (cur σ ops.size (In (Array.replicate ops.size false))) (σ ops.size).nx) (σ 0).nx w0 := by
      refine hr0.sim.same fun b hb => ?_
      have := hr0.sim.born b hb
      rw [tab_get, if_pos (by omega)]
      unfold cur
      rw [hnone]; rfl
    exact ⟨this.obj, this.gone, this.inj, fun b hb => Nat.lt_of_lt_of_le (this.born b hb) hmono, this.glob⟩

theorem left_le (n : Nat) : left (Array.replicate n false) ≤ n := by
  unfold left
  refine Nat.le_trans List.countP_le_length ?_
  simp

/-- what a panic leaves -/
theorem Inv.panics {P : Program} {call : CallF} {U N : Nat} {ops : Array Oper} {t : T AV} {ι0 : Inj} {w0 : World} {a0 : Act} {σ : Nat → St} {V : Nat → AV} {E : Nat → TE} {ex ab : Nat → Bool}
    {S : Nat → Prop} {ι : Inj} {a : Act} {w : World}
    (c : Ctx P call U N ops t ι0 w0 a0 σ V E ex ab) (I : Inv P call U N ops t ι0 w0 a0 σ V ab S ι a w) {q : Nat} {o : Oper} (ho : ops[q]? = some o) (hr : Ready ops S q) (hn : ¬ S q) (hexq : ex q = false)
    (hout : ∀ p, p < ops.size → ab p = false → dstOut U ops p = true)
    (hahead : ∀ p, p < q → ∀ u, ops[p]? = some u → (isMake (clOf P u.op) || acts (clOf P u.op)) = true → inU ((befores ops.toList).getD q 0) p = true)
    (hwant : match wantedF (opdF U (nsAt ops q)) ops o with | none => True | some wf => wf.run ⟨t, rsAt ops V q⟩ = some true)
    {v : AV} {st' : St} (hO : OpP (opdF U (nsAt ops q)) call o.op ⟨t, rsAt ops V q⟩ (σ q) v st') {K : Act → World → Prop} {Q : Exit → Act → World → Prop}
    (hQ : Post ι0 U N w0 (σ 0) (.pn v t st') Q) : wpOp P ops Q q K a w := by
  have hq : q < ops.size := (Array.getElem?_eq_some_iff.1 ho).1
  obtain ⟨f, args, fid, caps, st1, hco, hfv, he, rfl⟩ := hO
  have hcl := callOf_other (P := P) hco
  have hact : acts (clOf P o.op) = true := by rw [hcl]; rfl
  have hcur : ∀ b, b < (σ q).nx → ι b ≠ .unborn → hget (σ q).h b = cur σ ops.size S b := fun b hb hub => by
    unfold cur
    rw [← cur_canon b q, ← lastP_low ops.size (Nat.le_of_lt hq)]
    congr 1
    refine lastP_congr _ fun p hp => and_congr_left fun hc => ?_
    exact ⟨fun h => I.ahead c ho hr hn hact hub h hc, fun h => I.low c ho hr hn (.inr hact) hp (by have := (c.stf ho).nx; omega) h hc⟩
  have hsim := I.seen c ho hr hn (.inr hact) hcur
  have hx := I.hidden c ho hr hn
  have hw : Region.wanted o (yielded ops a.tmps) = true := by
    have : match wantedF (opdF U (nsAt ops q)) ops o with | none => true = true | some wf => wf.run ⟨t, rsAt ops V q⟩ = some true := by
      split at hwant
      · rfl
      · exact hwant
    exact I.want c ho hr hn this
  unfold wpOp
  simp only [ho]
  rw [hw]
  simp only [if_true]
  left
  have hcs : ∃ c, o.op = .call c ∧ c.callee = .value f ∧ args = c.args.toList := by
    unfold callOf at hco
    split at hco
    · rename_i c hoc
      split at hco
      · rename_i f' hf'
        cases hco
        exact ⟨c, hoc, hf', rfl⟩
      · cases hco
    · cases hco
  obtain ⟨cl, hoc, hcf, rfl⟩ := hcs
  rw [hoc] at hx
  have hvf := hx f (by simp [Op.operands, Call.operands, hcf])
  rw [hfv] at hvf
  simp only [VR] at hvf
  obtain ⟨cv, hcv, hcaps⟩ := hvf
  simp only [lapp_eq, lmap_eq] at he
  have hargs : VRs (hide ι (σ q).nx) (cl.args.toList.map (fun x => (opdF U (nsAt ops q) x).run ⟨t, rsAt ops V q⟩) ++ caps) ((cl.args.map a.eval) ++ cv).toList := by
    rw [Array.toList_append, Array.toList_map]
    exact (VRs.map_of _ fun x hxm => hx x (by simp [Op.operands, Call.operands]; right; simpa using hxm)).append hcaps
  have hC := c.hcall fid _ (σ q) (hide ι (σ q).nx) w ((cl.args.map a.eval) ++ cv) hsim hargs
  rw [he] at hC
  obtain ⟨hen, hcs⟩ := hC
  unfold Oper.wp
  rw [call_run hoc hcf hcv hen]
  simp only [Oper.upon]
  refine Calls.mono hcs fun e w' he => ?_
  obtain ⟨x, rfl, ι', hl, hv, hs, hg, hcl'⟩ := he
  obtain ⟨ιc, ac, wc, r, _, hcc⟩ := c.can q (by omega)
  have hle0 : Le ι0 (hide ι (σ q).nx) := fun b hb => by
    have h1 := c.born0 hb
    have h2 := c.nx_mono (p := 0) q (Nat.zero_le _) (by omega)
    unfold hide
    rw [if_pos (by omega)]
    exact I.le b hb
  have hgrew : Grew ι0 w0 ι' w' := by
    refine ⟨hg.os.trans I.grew.os, hg.tape.trans I.grew.tape, hg.output.trans I.grew.output, Nat.le_trans I.grew.size hg.size, fun k hk hno => ?_, fun b B T hb => ?_⟩
    · rw [hg.keep k (Nat.lt_of_lt_of_le hk I.grew.size) fun b T hb => ?_]
      · exact I.grew.keep k hk hno
      · rcases I.grew.new b k T (hide_at hb).1 with ⟨d, T', h3⟩ | h3
        · exact hno d T' h3
        · omega
    · rcases hg.new b B T hb with ⟨d, T', h3⟩ | h3
      · exact I.grew.new d B T' (hide_at h3).1
      · exact .inr (Nat.le_trans I.grew.size h3)
  have hbornq : ∀ b, (σ 0).nx ≤ b → b < (σ q).nx → ι b ≠ .unborn := by
    intro b h1 h2
    have find : ∀ k, k ≤ q → b < (σ k).nx → ∃ p, p < k ∧ (σ p).nx ≤ b ∧ b < (σ (p + 1)).nx := by
      intro k
      induction k with
      | zero => intro _ h; omega
      | succ k ih =>
        intro hk h
        rcases Nat.lt_or_ge b (σ k).nx with h3 | h3
        · obtain ⟨p, h4, h5⟩ := ih (by omega) h3
          exact ⟨p, by omega, h5⟩
        · exact ⟨k, by omega, h3, h⟩
    obtain ⟨p, h3, h4, h5⟩ := find q (Nat.le_refl _) h2
    have hu := at_op (show p < ops.size by omega)
    have hma : (isMake (clOf P (ops[p]).op) || acts (clOf P (ops[p]).op)) = true := by
      cases hm : isMake (clOf P (ops[p]).op)
      · cases ha : acts (clOf P (ops[p]).op)
        · have := (c.stf hu).same hm ha
          rw [this] at h5
          omega
        · rfl
      · rfl
    have hbit := hahead p h3 _ hu hma
    have hS : S p := bef_in (op_lt c.ok) I.closed p (q + 1) q (by omega) hr hbit
    exact I.born p (by omega) hS b h4 h5
  have hnxq := c.nx_mono (p := 0) q (Nat.zero_le _) (by omega)
  have hclean : Cleanly ι0 ι' (σ 0) (back (σ q) st1) := by
    have hmid : Cleanly ι0 (hide ι (σ q).nx) (σ 0) (σ q) := by
      refine ⟨hcc.nx, hcc.dirty, hcc.keep, hcc.above, fun b hb hu => ?_, fun b hb => ?_, fun b h1 h2 => ?_⟩
      · unfold hide
        split
        · cases hι : ι b with
          | unborn => rfl
          | dead | «at» =>
            rcases I.birth b (by rw [hι]; simp) with h | ⟨p, hp, _, h3, _⟩
            · exact absurd hu h
            · have := c.nx_mono (p := 0) p (by omega) (by omega)
              omega
        · rfl
      · exact hle0.born hb
      · unfold hide
        rw [if_pos h2]
        exact hbornq b h1 h2
    have := hmid.trans hcl'
    exact ⟨this.nx, this.dirty, this.keep, this.above, this.u, this.le, this.n⟩
  refine hQ ι' a w' x (hle0.trans hl) ?_ hgrew hclean hv
  have hfr : (back (σ q) st1).fr = (σ 0).fr := by
    have key : ∀ k, k ≤ ops.size → (σ k).fr = (σ 0).fr := by
      intro k
      induction k with
      | zero => intro _; rfl
      | succ k ih => intro hk; rw [(c.stf (at_op (by omega : k < ops.size))).fr]; exact ih (by omega)
    exact key q (by omega)
  refine ⟨hs, I.size, fun y hy _ => ?_, fun y i hi => (by simp [idx] at hi), rfl, ?_⟩
  · have hsl := I.slot y
    have : lastP (fun p => S p ∧ dstAt ops p = some y) ops.size = none := by
      cases hl' : lastP (fun p => S p ∧ dstAt ops p = some y) ops.size with
      | none => rfl
      | some k =>
        exfalso
        obtain ⟨h1, ⟨h2, h3⟩, _⟩ := lastP_some _ hl'
        have h4 := hout k h1 (I.live k h2)
        have hu := at_op h1
        unfold dstOut at h4
        rw [hu] at h4
        have h5 : (ops[k]).dst = some y := by simpa [dstAt, hu] using h3
        simp only [h5] at h4
        rw [hy] at h4
        cases h4
    rw [this] at hsl
    have h6 := hsl hy
    -- the slot was there before the region, so it knows no later number
    have h7 : VR ι0 (tget t y) (a0.tmps.getD y undef) := c.rel0.env y hy rfl
    have h8 : VR (hide ι (σ q).nx) (tget t y) (a.tmps.getD y undef) := VR.hide (fun b hb => Nat.lt_of_lt_of_le (c.born0 hb) hnxq) _ _ _ h7 h6
    exact VR.mono hl _ _ h8
  · rw [hfr]
    exact DRs.mono hl _ _ (DRs.hide (fun b hb => Nat.lt_of_lt_of_le (c.born0 hb) hnxq) _ _ _ c.rel0.ds I.ds)

/-- a region that draws its order -/
theorem draw_ok {P : Program} (hm : P.follows .mixedOrders = true) : DrawOK P := by
  intro call hcall n U N ops hok hdst ι t st a w Q id r hp
  have hne : (drawF P U ops).run call n t [] [] st ≠ .no := by
    intro h
    rw [h] at hp
    exact hp
  unfold drawF at hne hp
  rw [List.range_eq_range'] at hne hp
  have htr := seq_trace (P := P) (call := call) (n := n) (U := U) (ops := ops) (t := t) (finD U) (panD P U ops) (fun _ => false) ops.size 0 (by omega) (fun _ => .bad) (fun _ => .none) st hne
  have hr0 : ∀ s : St, s = st → Rel ι U N t [] [] s a { w with drawn := w.drawn + 1 } := fun s hs => by
    rw [hs]
    exact ⟨r.sim.drew, r.size, r.env, r.recs, r.len, r.ds⟩
  obtain ⟨σ, V, E, ex, m, _, _, h3, _, h4, h5⟩ := htr
  have e0 : (seqD P U ops (finD U) (panD P U ops) (fun _ => false) (List.range' 0 ops.size) (esAt 0) (nsAt ops 0)).run call n t (rsAt ops (fun _ => .bad) 0) (tbAt (fun _ => .none) 0) st
      = (seqD P U ops (finD U) (panD P U ops) (fun _ => false) (List.range' 0 ops.size) [] []).run call n t [] [] st := rfl
  rw [e0] at h5
  rcases h5 with ⟨rfl, h5⟩ | ⟨hmlt, o, v, st', ho, _, hwant, hO, h5⟩
  · rw [h5] at hp
    have c : Ctx P call U N ops t ι { w with drawn := w.drawn + 1 } a σ V E ex (fun _ => false) := ⟨hcall, hok, hdst, fun i hi => h4 i (Nat.zero_le _) hi, hr0 _ h3⟩
    refine wp_region_any hm (wpAny_inv c ?_ ?_ ops.size _ a _ (by simp) (left_le _) ⟨ι, Inv.first c⟩)
    · intro ι' a' w' I
      obtain ⟨hr, hc⟩ := I.last c fun p hp => hp
      rw [h3] at hc
      exact hp ι' a' w' I.le hr ((Grew.drew ι w).trans I.grew) hc
    · intro q S ι' a' w' K _ _ _ _ h
      cases h
  · -- one operation panics
    rw [h5] at hp
    unfold panD at hp
    generalize hpo : panOk P U ops m = po at hp
    cases po
    · exact hp.elim
    simp only [cond_true] at hp
    have e1 : Nat.sub ops.size m = ops.size - m := rfl
    rw [e1] at hp
    generalize hrr : (seqD P U ops (finD U) (fun _ _ _ _ _ => NORD) (absOf ops m) (List.range' m (ops.size - m)) (esAt m) (nsAt ops m)).run call n t (rsAt ops V m) (tbAt E m) (σ m) = rr at hp
    have hgo : ∃ t2 s2, rr = .go t2 s2 := by
      cases rr <;> first | exact ⟨_, _, rfl⟩ | exact hp.elim
    obtain ⟨t2, s2, rfl⟩ := hgo
    simp only at hp
    have htr2 := seq_trace (P := P) (call := call) (n := n) (U := U) (ops := ops) (t := t) (finD U) (fun _ _ _ _ _ => NORD) (absOf ops m) (ops.size - m) m (by omega) V E (σ m) (by rw [hrr]; simp)
    rw [hrr] at htr2
    obtain ⟨σ2, V2, E2, ex2, m2, g1, g2, g3, g4, g5, g6⟩ := htr2
    have hm2 : m2 = ops.size := by
      rcases g6 with ⟨h, _⟩ | ⟨_, o2, v2, s3, _, _, _, _, h⟩
      · exact h
      · cases h
    subst hm2
    have habs : absOf ops m m = true := by
      unfold absOf
      have : Nat.beq m m = true := by rw [beqN]
      rw [this]; rfl
    have hlow : ∀ k, k < m → absOf ops m k = false := by
      intro k hk
      unfold absOf
      rw [Bool.or_eq_false_iff]
      refine ⟨?_, ?_⟩
      · cases hb : Nat.beq k m
        · rfl
        · rw [beqN] at hb; omega
      · cases hb : inU ((befores ops.toList).getD k 0) m
        · rfl
        · have := bit_lt hok (at_op (show k < ops.size by omega)) hb
          omega
    -- the two runs as one
    have c : Ctx P call U N ops t ι { w with drawn := w.drawn + 1 } a (fun i => if i ≤ m then σ i else σ2 i) V2 E2 (fun i => if i < m then ex i else ex2 i) (absOf ops m) := by
      refine ⟨hcall, hok, hdst, fun i hi => ?_, ?_⟩
      · by_cases him : i < m
        · obtain ⟨o1, k1⟩ := h4 i (Nat.zero_le _) him
          refine ⟨o1, ?_⟩
          rw [hlow i him]
          simp only [if_pos him, if_pos (Nat.le_of_lt him), if_pos (show i + 1 ≤ m from him)]
          rw [rsAt_congr i fun j hj => g1 j (by omega), tbAt_congr i fun j hj => g2 j (by omega), g1 i him, g2 i him]
          exact k1
        · obtain ⟨o1, k1⟩ := g5 i (by omega) hi
          refine ⟨o1, ?_⟩
          simp only [if_neg him, if_neg (show ¬ i + 1 ≤ m by omega)]
          have : (if i ≤ m then σ i else σ2 i) = σ2 i := by
            by_cases h : i ≤ m
            · have : i = m := by omega
              rw [if_pos h, this, g3]
            · rw [if_neg h]
          rw [this]
          exact k1
      · have : (if 0 ≤ m then σ 0 else σ2 0) = st := by rw [if_pos (Nat.zero_le _), h3]
        exact hr0 _ this
    have hV : ∀ j, j < m → V2 j = V j := g1
    refine wp_region_any hm (wpAny_inv c ?_ ?_ ops.size _ a _ (by simp) (left_le _) ⟨ι, Inv.first c⟩)
    · intro ι' a' w' I
      have := I.live m hmlt
      rw [habs] at this
      cases this
    · intro q S ι' a' w' K hq I hn hr habq
      have hqm : q = m := by
        unfold absOf at habq
        rw [Bool.or_eq_true] at habq
        rcases habq with h | h
        · rw [beqN] at h; exact h
        · exfalso
          have hS : S m := bef_in (op_lt hok) I.closed m (q + 1) q (by omega) hr h
          have := I.live m hS
          rw [habs] at this
          cases this
      subst hqm
      unfold panOk at hpo
      rw [Bool.and_eq_true, List.all_eq_true, List.all_eq_true] at hpo
      obtain ⟨hpo1, hpo2⟩ := hpo
      have hex : (if q < q then ex q else ex2 q) = false := by
        rw [if_neg (Nat.lt_irrefl _)]
        obtain ⟨o1, k1⟩ := g5 q (Nat.le_refl _) hmlt
        exact k1.out habs
      refine I.panics c ho hr hn (by simpa using hex) (fun p hp1 hp2 => ?_) (fun p hp1 u hu hma => ?_) ?_ (v := v) (st' := st') ?_ ?_
      · have := hpo1 p (by simp; exact hp1)
        rw [hp2] at this
        simpa using this
      · have := hpo2 p (by simp; exact hp1)
        rw [hu] at this
        simp only [Bool.or_eq_true, Bool.not_eq_true'] at this
        rcases this with h | h
        · exact h
        · rw [hma] at h; cases h
      · rw [rsAt_congr q hV]
        exact hwant
      · rw [rsAt_congr q hV]
        simp only [Nat.le_refl, if_true]
        exact hO
      · have e2 : (if 0 ≤ q then σ 0 else σ2 0) = st := by rw [if_pos (Nat.zero_le _), h3]
        show Post ι U N _ (if 0 ≤ q then σ 0 else σ2 0) _ Q
        rw [e2]
        exact Post.step (Le.refl ι) (Grew.drew ι w) (Cleanly.refl ι st) hp

end Go.Ev

namespace Go.Ev
open Go.ChangeShapes Go.WideShapes Go.ChangeAt Go.RowKit

/-! ### from a run to what a row asks -/
theorem kept_but {W W' : World} (h1 : W'.os = W.os) (h2 : W'.output = W.output) (h3 : ∀ k, k < W.heap.size → W'.heap[k]? = W.heap[k]?) (may : MemPlace → Prop) : W.keptBut W' may := by
  refine ⟨h1, h2, fun i hi => ?_⟩
  rw [h3 i hi]
  cases h : W.heap[i]? with
  | none => rfl
  | some o =>
    cases o <;> first | exact ⟨rfl, rfl, rfl, fun _ _ => rfl⟩ | exact .inr ⟨rfl, rfl⟩ | rfl

theorem frozen_old {W W' : World} (h3 : ∀ k, k < W.heap.size → W'.heap[k]? = W.heap[k]?) {a : Addr} (ha : a.block < W.heap.size) : W'.frozen? a = W.frozen? a := by
  unfold World.frozen?
  rw [h3 a.block ha]

theorem post_kept {H : Type} {enc : TypeId × Value → H} {P : Program} {f : Func} {s : ChangeSpec} {apart fresh handsOn again : Bool} {W W' : World} {args : Array Value} {v : Value} {ds gs : List (DataW H)} {before pa pv : List MemPlace}
    (hW : DataW.Whole enc P f.params.toList s.vars apart W args.toList ds gs before)
    (hres : ∀ (b : Nat) (sp : Nat → Bool) (hd : Bool), DataW.TrodAll enc P W' b sp hd f.resultTypes.toList (v.resultList f.resultTypes.size) (s.fn H (ds ++ gs)).results [])
    (hargs : ∀ sp : Nat → Bool, (∀ p ∈ before, sp p.block = true) → DataW.TrodAll enc P W' 0 sp true f.params.toList args.toList (s.fn H (ds ++ gs)).args pa)
    (hvars : ∀ sp : Nat → Bool, (∀ p ∈ before, sp p.block = true) → DataW.TrodVars enc P W' sp s.vars (s.fn H (ds ++ gs)).vars pv)
    (hps : before = pa ++ pv) (hos : W'.os = W.os) (hout : W'.output = W.output) (hk : ∀ k, k < W.heap.size → W'.heap[k]? = W.heap[k]?)
    (hok : ∀ (j : Nat) (t : TypeId) (r : Value), f.resultTypes[j]? = some t → (v.resultList f.resultTypes.size)[j]? = some r → Value.okWide P W' .any 0 t r) :
    s.post enc P f apart fresh handsOn again W args v W' := by
  have hlt : ∀ p ∈ before, p.block < W.heap.size := fun p hp => hW.lt p hp
  have hold : ∀ p ∈ before, (fun b => decide (b < W.heap.size)) p.block = true := fun p hp => by simpa using hlt p hp
  refine ⟨ds, gs, before, [], pa, pv, hW, hres _ _ _, hargs _ hold, hvars _ hold, kept_but hos hout hk _, fun _ => ?_⟩
  obtain ⟨_, _, _, _, _, hz, hn⟩ := hW
  refine ⟨hok, _, _, ([] ++ pa) ++ pv, ⟨[] ++ pa, pv, trodAll_append (hargs _ (fun _ _ => rfl)) (hres _ _ _), hvars _ (fun _ _ => rfl), rfl, ?_, ?_⟩, ?_⟩
  · intro b off hp
    have hp' : MemPlace.cell b off ∈ before := by rw [hps]; simpa using hp
    rw [frozen_old hk (hlt _ hp')]
    exact hz b off hp'
  · intro ha
    have := hn ha
    rw [hps] at this
    simpa using this
  · intro p hp _
    rw [hps]
    simpa using hp

end Go.Ev

namespace Go.Sy
open Go.Ev Go.RowKit

/-! ### operations with what the tables say of their types -/
inductive A where
  | t (x : Nat)
  | c (v : AV)

inductive Ins where
  | mv (x : A)
  | pick (c a b : A)
  | alloc (z : List AV)
  | box (x : A)
  | build (z : List AV) (ps : List ((Nat × Nat) × A))
  | buildS (len s : Nat) (z : List AV) (ps : List ((Nat × Nat) × A))
  | ld1 (a : A)
  | ldA (k : Nat) (a : A)
  | st (k : Nat) (a x : A)
  | nilc (x : A)
  | bin (op : BinOp) (x y : A)
  | shf (op : BinOp) (x y : A)
  | strb (op : BinOp) (x y : A)
  | gen (op : BinOp) (t : TypeId) (c : Bool) (x y : A)
  | un (op : UnOp) (x : A)
  | cvt (k : IntKind) (x : A)
  | conv (s d : TypeId) (x : A)
  | iface (t : TypeId) (x : A)
  | fn (f : FuncId) (caps : List A)
  | mkMap
  | mkS (size bytes : Nat) (z : List AV) (l c : A)
  | slStr (x : A) (lo hi : Option A)
  | slS (sz : Nat) (x : A) (lo hi : Option A)
  | slA (n sz : Nat) (x : A) (lo hi : Option A)
  | sl3 (t : TypeId) (x : A) (lo hi mx : Option A)
  | fad (off : Nat) (x : A)
  | fld1 (off : Nat) (x : A)
  | fldA (off s : Nat) (x : A)
  | idxA (n s : Nat) (x i : A)
  | idxS (s : Nat) (x i : A)
  | ixA1 (n s : Nat) (x i : A)
  | ixAA (n s : Nat) (x i : A)
  | ixStr (x i : A)
  | look (t : TypeId) (m k : A) (ok : Bool)
  | upd (t : TypeId) (m k v : A)
  | range (x : A)
  | next (x : A)
  | assert (x : A) (t : TypeId)
  | ext (x : A) (i : Nat)
  | len (x : A)
  | lenS (x : A)
  | lenM (x : A)
  | app (size bytes : Nat) (s x : A)
  | bi (b : Builtin) (ts : Array TypeId) (l : List A)
  | pan (x : A)

def O (v : AV) : OF := ⟨fun _ => v⟩
def E0 : Env := ⟨.e, []⟩

noncomputable def fillP (cells : List AV) : List ((Nat × Nat) × AV) → Option (List AV)
  | [] => some cells
  | ((off, size), v) :: rest =>
    cond v.plain (cond (Nat.beq (llen v.cells) size) (cond (Nat.ble (Nat.add off size) (llen cells))
      (fillP (lapp (ltake cells off) (lapp v.cells (ldrop cells (Nat.add off size)))) rest) none) none) none

noncomputable def optA (x : Option AV) (d : Nat) (k : Nat → ER) : ER :=
  match x with
  | none => k d
  | some v => onNat v k

noncomputable def row1 (a : AV) (st : St) (k : Nat → Nat → Nat → List AV → T AV → ER) : ER :=
  onPtr a fun b o => onRow (hget st.h b) fun n zl z cs => k o n zl z cs

section
variable (P : Program) (ρ : A → AV)

noncomputable def execI (i : Ins) (st : St) : ER :=
  match i with
  | .mv x => .ok (ρ x) st
  | .pick c a b => onBool (ρ c) fun q => .ok (cond q (ρ a) (ρ b)) st
  | .alloc z => Ev.newRow st z
  | .box x => cond (lall AV.cell (ρ x).cells) (Ev.newRow st (ρ x).cells) .no
  | .build z ps => onSome (fillP z (ps.map fun p => (p.1, ρ p.2))) fun cs => .ok (.agg cs) st
  | .buildS len s z ps => onSome (fillP (repeatC z len) (ps.map fun p => (p.1, ρ p.2))) fun cells =>
      cond (lall AV.cell cells) (force (llen cells) fun n => st.alloc (.row n n cells .e) fun b st => .ok (.slice b 0 len len s true) st) .no
  | .ld1 a => onPtr (ρ a) fun b o => onRow (hget st.h b) fun n zl z cs => cond (Nat.ble (Nat.succ o) n) (.ok (rowCell zl z cs o) st) .no
  | .ldA k a => onPtr (ρ a) fun b o => onRow (hget st.h b) fun n zl z cs => cond (Nat.ble (Nat.add o k) n) (.ok (.agg (rowCells zl z cs k o)) st) .no
  | .st k a x => onPtr (ρ a) fun b o => onRow (hget st.h b) fun n zl z cs =>
      cond (Nat.beq (llen (ρ x).cells) k) (cond (Nat.ble (Nat.add o k) n) (cond (lall AV.cell (ρ x).cells)
        (st.put b (.row n zl z (setCells (ρ x).cells cs o)) fun st => .ok undefA st) .no) .no) .no
  | .nilc x => (nilCheckF (O (ρ x))).run E0 st
  | .bin op x y => match ρ x, ρ y with
      | .int k a, .int k' b => cond (eqK k k') (onSome ((arithF op).run k a b) fun v => .ok v st) .no
      | _, _ => .no
  | .shf op x y => match ρ x, ρ y with | .int k a, .int _ b => onSome (shiftI op k a b) fun v => .ok v st | _, _ => .no
  | .strb op x y => match ρ x, ρ y with | .str a, .str b => onSome (strOp op a b) fun v => .ok v st | _, _ => .no
  | .gen op t c x y => (binOpF P op t c (O (ρ x)) (O (ρ y))).run E0 st
  | .un op x => (unOpF op (O (ρ x))).run E0 st
  | .cvt k x => match ρ x with | .int _ n => .ok (.int k (wrapI k n)) st | _ => .no
  | .conv s d x => (convertF P s d (O (ρ x))).run E0 st
  | .iface t x => .ok (.iface t (ρ x)) st
  | .fn f caps => .ok (.fn f (caps.map ρ)) st
  | .mkMap => st.alloc (.map []) fun b st => .ok (.map b) st
  | .mkS size bytes z l c => onNat (ρ l) fun l => onNat (ρ c) fun c =>
        cond (Nat.ble l c) (cond (Nat.ble (Nat.mul bytes c) 140737488355328) (cond (Nat.ble c 9223372036854775807)
          (force (Nat.mul c size) fun n => st.alloc (.row n size z .e) fun b st => .ok (.slice b 0 l c size true) st) .no) .no) .no
  | .slStr x lo hi => onStr (ρ x) fun s => force (llen s) fun n => optA (lo.map ρ) 0 fun l => optA (hi.map ρ) n fun h =>
        cond (Nat.ble l h) (cond (Nat.ble h n) (.ok (.str (ltake (ldrop s l) (Nat.sub h l))) st) .no) .no
  | .slS sz x lo hi => match ρ x with
      | .nils => optA (lo.map ρ) 0 fun l => optA (hi.map ρ) 0 fun h => cond (Nat.beq l 0) (cond (Nat.beq h 0) (.ok .nils st) .no) .no
      | .slice b o len cap sz' ex => optA (lo.map ρ) 0 fun l => optA (hi.map ρ) len fun h =>
          cond (Nat.beq sz' sz) (cond (Nat.ble l h) (cond (Nat.ble h cap) (force (Nat.sub h l) fun k => force (Nat.add o (Nat.mul l sz)) fun o => force (Nat.sub cap l) fun c => .ok (.slice b o k c sz ex) st) .no) .no) .no
      | _ => .no
  | .slA n sz x lo hi => onPtr (ρ x) fun b o => optA (lo.map ρ) 0 fun l => optA (hi.map ρ) n fun h =>
        cond (Nat.ble l h) (cond (Nat.ble h n)
          (force (Nat.sub h l) fun k => force (Nat.add o (Nat.mul l sz)) fun o => force (Nat.sub n l) fun c => .ok (.slice b o k c sz true) st) .no) .no
  | .sl3 t x lo hi mx => (sliceF P t (O (ρ x)) (lo.map fun a => O (ρ a)) (hi.map fun a => O (ρ a)) (mx.map fun a => O (ρ a))).run E0 st
  | .fad off x => onPtr (ρ x) fun b o => force (Nat.add o off) fun o => .ok (.ptr b o) st
  | .fld1 off x => onAgg (ρ x) fun cs => cond (Nat.ble (Nat.succ off) (llen cs)) (.ok (lget .bad cs off) st) .no
  | .fldA off s x => onAgg (ρ x) fun cs => .ok (.agg (ltake (ldrop cs off) s)) st
  | .idxA n s x i => onPtr (ρ x) fun b o => onNat (ρ i) fun i => cond (Nat.ble (Nat.succ i) n) (force (Nat.add o (Nat.mul i s)) fun o => .ok (.ptr b o) st) .no
  | .idxS s x i => match ρ x with
      | .slice b o len _ _ _ => onNat (ρ i) fun i => cond (Nat.ble (Nat.succ i) len) (force (Nat.add o (Nat.mul i s)) fun o => .ok (.ptr b o) st) .no
      | _ => .no
  | .ixA1 n s x i => onAgg (ρ x) fun cs => onNat (ρ i) fun i => cond (Nat.ble (Nat.succ i) n) (cond (Nat.ble (Nat.succ (Nat.mul i s)) (llen cs)) (.ok (lget .bad cs (Nat.mul i s)) st) .no) .no
  | .ixAA n s x i => onAgg (ρ x) fun cs => onNat (ρ i) fun i => cond (Nat.ble (Nat.succ i) n) (.ok (.agg (ltake (ldrop cs (Nat.mul i s)) s)) st) .no
  | .ixStr x i => onStr (ρ x) fun s => onNat (ρ i) fun i => cond (Nat.ble (Nat.succ i) (llen s)) (.ok (.int .u8 (.ofNat (lget 0 s i))) st) .no
  | .look t m k ok => (lookupF P t (O (ρ m)) (O (ρ k)) ok).run E0 st
  | .upd t m k v => (mapUpdateF P t (O (ρ m)) (O (ρ k)) (O (ρ v))).run E0 st
  | .range x => onStr (ρ x) fun s => st.alloc (.iter s 0) fun b st => .ok (.ptr b 0) st
  | .next x => (nextF (O (ρ x))).run E0 st
  | .assert x t => (assertF P (O (ρ x)) t).run E0 st
  | .ext x i => match ρ x with | .tup vs => cond (Nat.ble (Nat.succ i) (llen vs)) (.ok (lget .bad vs i) st) .no | _ => .no
  | .lenS x => match ρ x with
      | .str s => force (llen s) fun n => .ok (.int .i64 (.ofNat n)) st
      | .zstr n => .ok (.int .i64 (.ofNat n)) st
      | _ => .no
  | .len x => match ρ x with
      | .nils => .ok (.int .i64 (.ofNat 0)) st
      | .slice _ _ n _ _ _ => .ok (.int .i64 (.ofNat n)) st
      | _ => .no
  | .lenM x => match ρ x with | .nilm => .ok (.int .i64 (.ofNat 0)) st | .map r => onMap (hget st.h r) fun es => force (llen es) fun n => .ok (.int .i64 (.ofNat n)) st | _ => .no
  | .app size bytes s x => onLen (ρ x) fun n => firstCells st size n (ρ x) fun news => appendWith st size bytes (ρ s) n news
  | .bi b ts l => (builtinF P b ts (l.map fun a => O (ρ a))).run E0 st
  | .pan x => match ρ x with | .iface t v => .pn (.iface t v) st | _ => .no

end

/-! ### lowering -/
def lowA : Operand → Option A
  | .tmp x => some (.t x)
  | .const v => some (.c (ofV v))
  | .func f => some (.c (.fn f []))
  | .global _ => none

def A.val (op : Operand → OF) (env : Env) : A → AV
  | .t x => (op (.tmp x)).run env
  | .c v => v

/-- operands are looked up as they should -/
structure Fair (op : Operand → OF) (env : Env) : Prop where
  const : ∀ v, (op (.const v)).run env = ofV v
  func : ∀ f, (op (.func f)).run env = .fn f []

theorem lowA_ok {op : Operand → OF} {env : Env} (hf : Fair op env) {x : Operand} {a : A} (h : lowA x = some a) : (op x).run env = a.val op env := by
  cases x with
  | tmp x => cases h; rfl
  | const v => cases h; exact hf.const v
  | func f => cases h; exact hf.func f
  | global g => cases h

def lowAs : List Operand → Option (List A)
  | [] => some []
  | x :: l => match lowA x, lowAs l with | some a, some ays => some (a :: ays) | _, _ => none

theorem lowAs_ok {op : Operand → OF} {env : Env} (hf : Fair op env) : ∀ {l : List Operand} {ays : List A}, lowAs l = some ays → l.map (fun x => (op x).run env) = ays.map (A.val op env)
  | [], ays, h => by cases h; rfl
  | x :: l, ays, h => by
    unfold lowAs at h
    cases h1 : lowA x with
    | none => rw [h1] at h; cases h
    | some a =>
      cases h2 : lowAs l with
      | none => rw [h1, h2] at h; cases h
      | some bs =>
        rw [h1, h2] at h
        cases h
        simp only [List.map_cons]
        rw [lowA_ok hf h1, lowAs_ok hf h2]

def lowPs (place : Nat → Option (Nat × Nat)) : List (Nat × Operand) → Option (List ((Nat × Nat) × A))
  | [] => some []
  | (i, x) :: l => match place i, lowA x, lowPs place l with | some p, some a, some ays => some ((p, a) :: ays) | _, _, _ => none

theorem lowPs_ok {op : Operand → OF} {env : Env} (hf : Fair op env) {place : Nat → Option (Nat × Nat)} : ∀ {l : List (Nat × Operand)} {ays : List ((Nat × Nat) × A)} (cells : List AV), lowPs place l = some ays →
    fillA cells place (partsF env (lmap (fun p => (p.1, op p.2)) l)) = fillP cells (ays.map fun p => (p.1, p.2.val op env))
  | [], ays, cells, h => by cases h; rfl
  | (i, x) :: l, ays, cells, h => by
    unfold lowPs at h
    cases h0 : place i with
    | none => rw [h0] at h; cases h
    | some p =>
      cases h1 : lowA x with
      | none => rw [h0, h1] at h; cases h
      | some a =>
        cases h2 : lowPs place l with
        | none => rw [h0, h1, h2] at h; cases h
        | some bs =>
          rw [h0, h1, h2] at h
          cases h
          have e : partsF env (lmap (fun p => (p.1, op p.2)) ((i, x) :: l)) = (i, (op x).run env) :: partsF env (lmap (fun p => (p.1, op p.2)) l) := rfl
          rw [e]
          simp only [fillA, h0, List.map_cons, fillP]
          rw [lowA_ok hf h1]
          simp only [lowPs_ok hf _ h2]

def lowO : Option Operand → Option (Option A)
  | none => some none
  | some x => (lowA x).map some

theorem lowO_ok {op : Operand → OF} {env : Env} (hf : Fair op env) {x : Option Operand} {a : Option A} (h : lowO x = some a) : (x.map fun x => (op x).run env) = a.map (A.val op env) := by
  cases x with
  | none => cases h; rfl
  | some x =>
    simp only [lowO, Option.map_eq_some_iff] at h
    obtain ⟨b, h1, rfl⟩ := h
    simp [lowA_ok hf h1]

theorem optF_ok {op : Operand → OF} {env : Env} (hf : Fair op env) {x : Option Operand} {a : Option A} (h : lowO x = some a) (d : Nat) (k : Nat → ER) :
    optF (x.map op) d env k = optA (a.map (A.val op env)) d k := by
  rw [← lowO_ok hf h]
  cases x <;> rfl

noncomputable def lowOp (P : Program) (o : Op) : Option Ins :=
  match o with
  | .move x => (lowA x).map .mv
  | .assign x => (lowA x).map .mv
  | .pick c a b => (lowA c).bind fun c => (lowA a).bind fun a => (lowA b).map fun b => .pick c a b
  | .alloc t => (zeroCells P t).bind fun z => cond (lall AV.cell z) (some (.alloc z)) none
  | .box _ x => (lowA x).map .box
  | .build t ps => (zeroCells P t).bind fun z => (match P.underlying t with
      | some (.struct fields) => cond (fields.toList.all fun f => (Ev.sizeOf P f.type).isSome) ((lowPs (places P fields) ps.toList).map fun ps => .build z ps) none
      | some (.array _ e) => (Ev.sizeOf P e).bind fun s => (lowPs (fun i => some (Nat.mul i s, s)) ps.toList).map fun ps => .build z ps
      | _ => none)
  | .buildSlice t n ps => (Ev.elemOf P t).bind fun e => (Ev.sizeOf P e).bind fun s => (zeroCells P e).bind fun z =>
      cond (cond (Nat.ble (Nat.mul n s) 16777216) (Nat.beq (llen z) s) false) ((lowPs (fun i => some (Nat.mul i s, s)) ps.toList).map fun ps => .buildS n s z ps) none
  | .load t a => (lowA a).bind fun a => (match Ev.isAgg P t, Ev.sizeOf P t with
      | some true, some k => some (.ldA k a)
      | some false, some _ => some (.ld1 a)
      | _, _ => none)
  | .store t a x => (lowA a).bind fun a => (lowA x).bind fun x => (Ev.sizeOf P t).map fun k => .st k a x
  | .nilCheck x => (lowA x).map .nilc
  | .binOp b t x y _ => (lowA x).bind fun a => (lowA y).map fun a' => (match P.underlying t with
      | some (.int _) => (match b with | .shl => .shf b a a' | .shr => .shf b a a' | _ => .bin b a a')
      | some .string => .strb b a a'
      | _ => .gen b t (Region.isConst x || Region.isConst y) a a')
  | .unOp b _ x => (lowA x).map fun x => .un b x
  | .convert s d x => (lowA x).map fun x => (match P.underlying s, P.underlying d with
      | some (.int _), some (.int k) => .cvt k x
      | _, _ => .conv s d x)
  | .makeInterface t x => (lowA x).bind fun x => (match P.underlying t with | some (.interface _) => none | some _ => some (.iface t x) | none => none)
  | .makeFunc (.func f) first caps => (match first.toList with | [] => (lowAs caps.toList).map fun l => .fn f l | _ => none)
  | .makeMap _ none => some .mkMap
  | .makeSlice t l c => (lowA l).bind fun l => (lowA c).bind fun c => (Ev.elemOf P t).bind fun e => (P.info? e).bind fun i => (zeroCells P e).bind fun z =>
      cond (cond (lall AV.cell z) (Nat.beq (llen z) i.size) false) (some (.mkS i.size i.bytes z l c)) none
  | .slice t x lo hi mx => (lowA x).bind fun x => (lowO lo).bind fun lo => (lowO hi).bind fun hi => (match mx with
      | some mx => (lowA mx).map fun mx => .sl3 t x lo hi (some mx)
      | none => (match P.underlying t with
        | some .string => some (.slStr x lo hi)
        | some (.slice e) => (Ev.sizeOf P e).map fun sz => .slS sz x lo hi
        | some (.array n e) => (Ev.sizeOf P e).map fun sz => .slA n sz x lo hi
        | _ => none))
  | .fieldAddr s x f => (lowA x).bind fun x => (match P.underlying s with
      | some (.struct fields) => (fields[f]?).bind fun f => (match Ev.sizeOf P f.type with | some (_ + 1) => some (.fad f.offset x) | _ => none)
      | _ => none)
  | .field s x f => (lowA x).bind fun x => (match P.underlying s with
      | some (.struct fields) => (fields[f]?).bind fun f => (match Ev.isAgg P f.type, Ev.sizeOf P f.type with
        | some true, some s => some (.fldA f.offset s x)
        | some false, _ => some (.fld1 f.offset x)
        | _, _ => none)
      | _ => none)
  | .indexAddr t x i => (lowA x).bind fun x => (lowA i).bind fun i => (match P.underlying t with
      | some (.array n e) => (Ev.sizeOf P e).map fun s => .idxA n s x i
      | some (.slice e) => (Ev.sizeOf P e).map fun s => .idxS s x i
      | _ => none)
  | .index t x i => (lowA x).bind fun x => (lowA i).bind fun i => (match P.underlying t with
      | some (.array n e) => (match Ev.isAgg P e, Ev.sizeOf P e with
        | some true, some s => some (.ixAA n s x i)
        | some false, some s => some (.ixA1 n s x i)
        | _, _ => none)
      | some .string => some (.ixStr x i)
      | _ => none)
  | .lookup t m k ok => (lowA m).bind fun m => (lowA k).map fun k => .look t m k ok
  | .mapUpdate t m k v => (lowA m).bind fun m => (lowA k).bind fun k => (lowA v).map fun v => .upd t m k v
  | .range t x => (lowA x).bind fun x => (match P.underlying t with | some .string => some (.range x) | _ => none)
  | .next it true => (lowA it).map .next
  | .typeAssert x _ t true => (lowA x).map fun x => .assert x t
  | .extract x i => (lowA x).map fun x => .ext x i
  | .call c => (match c.callee with
      | .builtin b => (lowAs c.args.toList).bind fun l => (match b, l, c.argTypes.toList with
        | .len, [x], t :: _ => (match P.underlying t with
          | some .string => some (.lenS x)
          | some (.slice _) => some (.len x)
          | some (.map _ _) => some (.lenM x)
          | _ => some (.bi b c.argTypes l))
        | .append, [s, x], t :: u :: _ => (Ev.elemOf P t).bind fun e => (P.info? e).bind fun i => (zeroCells P e).bind fun z =>
            cond (cond (lall AV.cell z) (Nat.beq (llen z) i.size) false) (match P.underlying u with
              | some (.slice _) => some (.app i.size i.bytes s x)
              | some .string => some (.app i.size i.bytes s x)
              | _ => some (.bi b c.argTypes l)) none
        | _, _, _ => some (.bi b c.argTypes l))
      | _ => none)
  | .panic x => (lowA x).map .pan
  | _ => none

end Go.Sy

namespace Go.Sy
open Go.Ev Go.RowKit

section
variable {P : Program} {op : Operand → OF} {env : Env} {st : St}

theorem bind_some {α β : Type} {x : Option α} {f : α → Option β} {b : β} (h : x.bind f = some b) : ∃ a, x = some a ∧ f a = some b := by
  cases x with
  | none => cases h
  | some a => exact ⟨a, rfl, h⟩
theorem map_some {α β : Type} {x : Option α} {f : α → β} {b : β} (h : x.map f = some b) : ∃ a, x = some a ∧ f a = b := by
  cases x with
  | none => cases h
  | some a => cases h; exact ⟨a, rfl, rfl⟩
theorem cond_some {b : Bool} {α : Type} {x : Option α} {y : α} (h : cond b x none = some y) : b = true ∧ x = some y := by
  cases b
  · cases h
  · exact ⟨rfl, h⟩

theorem loadF_agg {t : TypeId} {k : Nat} {a : OF} (h1 : Ev.isAgg P t = some true) (h2 : Ev.sizeOf P t = some k) :
    (loadF P t a).run env st = onPtr (a.run env) fun b o => onRow (hget st.h b) fun n zl z cs => cond (Nat.ble (Nat.add o k) n) (.ok (.agg (rowCells zl z cs k o)) st) .no := by
  unfold loadF loadK
  rw [h1, h2]
  dsimp only
  generalize a.run env = v
  cases v <;> try rfl
  rename_i b o
  simp only [onPtr, onRow]
  cases hget st.h b with
  | none => rfl
  | some ob =>
    cases ob <;> try rfl
    rename_i n zl z cs
    dsimp only
    cases Nat.ble (Nat.add o k) n <;> rfl
theorem loadF_one {t : TypeId} {k : Nat} {a : OF} (h1 : Ev.isAgg P t = some false) (h2 : Ev.sizeOf P t = some k) :
    (loadF P t a).run env st = onPtr (a.run env) fun b o => onRow (hget st.h b) fun n zl z cs => cond (Nat.ble (Nat.succ o) n) (.ok (rowCell zl z cs o) st) .no := by
  unfold loadF loadK
  rw [h1, h2]
  dsimp only
  generalize a.run env = v
  cases v <;> try rfl
  rename_i b o
  simp only [onPtr, onRow]
  cases hget st.h b with
  | none => rfl
  | some ob =>
    cases ob <;> try rfl
    rename_i n zl z cs
    dsimp only
    cases Nat.ble (Nat.succ o) n <;> rfl

theorem lookupF_O (t : TypeId) (m k : OF) (ok : Bool) : (lookupF P t m k ok).run env st = (lookupF P t (O (m.run env)) (O (k.run env)) ok).run E0 st := by
  unfold lookupF
  split
  · split <;> rfl
  · rfl
theorem mapUpdateF_O (t : TypeId) (m k v : OF) : (mapUpdateF P t m k v).run env st = (mapUpdateF P t (O (m.run env)) (O (k.run env)) (O (v.run env))).run E0 st := by
  unfold mapUpdateF
  split <;> rfl
theorem nextF_O (x : OF) : (nextF x).run env st = (nextF (O (x.run env))).run E0 st := rfl
theorem nilCheckF_O (x : OF) : (nilCheckF x).run env st = (nilCheckF (O (x.run env))).run E0 st := rfl
theorem assertF_O (x : OF) (t : TypeId) : (assertF P x t).run env st = (assertF P (O (x.run env)) t).run E0 st := by
  unfold assertF
  split
  · rfl
  · split <;> rfl
theorem unOpF_O (b : UnOp) (x : OF) : (unOpF b x).run env st = (unOpF b (O (x.run env))).run E0 st := by
  unfold unOpF
  cases b <;> rfl
theorem convertF_O (s d : TypeId) (x : OF) : (convertF P s d x).run env st = (convertF P s d (O (x.run env))).run E0 st := by
  unfold convertF
  split
  · rfl
  · rfl
  · split <;> rfl
  · split <;> rfl
  · rfl
theorem binOpF_O (b : BinOp) (t : TypeId) (c : Bool) (x y : OF) : (binOpF P b t c x y).run env st = (binOpF P b t c (O (x.run env)) (O (y.run env))).run E0 st := by
  unfold binOpF
  split
  · split <;> rfl
  · split <;> rfl
  · rfl
  · cases P.eqGuardType P.depth t
    · simp only [cond_false]
      split <;> rfl
    · rfl
theorem optF_O (x : Option OF) (d : Nat) (k : Nat → ER) : optF (x.map fun a => O (a.run env)) d E0 k = optF x d env k := by
  cases x <;> rfl
theorem sliceF_O (t : TypeId) (x : OF) (lo hi mx : Option OF) :
    (sliceF P t x lo hi mx).run env st = (sliceF P t (O (x.run env)) (lo.map fun a => O (a.run env)) (hi.map fun a => O (a.run env)) (mx.map fun a => O (a.run env))).run E0 st := by
  unfold sliceF
  cases mx <;> cases hi <;> cases lo <;> simp only [Option.map_some, Option.map_none]
  all_goals
    split
    · rfl
    · split <;> rfl
    · split <;> rfl
    · rfl
theorem lenF_O (t : TypeId) (x : OF) : (lenF P t x).run env st = (lenF P t (O (x.run env))).run E0 st := by
  unfold lenF
  split <;> rfl
theorem capF_O (t : TypeId) (x : OF) : (capF P t x).run env st = (capF P t (O (x.run env))).run E0 st := by
  unfold capF
  split <;> rfl
theorem appendF_O (t u : TypeId) (s x : OF) : (appendF P t u s x).run env st = (appendF P t u (O (s.run env)) (O (x.run env))).run E0 st := by
  unfold appendF
  split
  · split
    · generalize cond _ _ false = cc
      cases cc
      · rfl
      · simp only [cond_true]
        split <;> rfl
    · rfl
  · rfl
theorem copyF_O (t : TypeId) (s x : OF) : (copyF P t s x).run env st = (copyF P t (O (s.run env)) (O (x.run env))).run E0 st := by
  unfold copyF
  split
  · split <;> rfl
  · rfl
theorem lmap_O (l : List OF) : lmap (fun x : OF => x.run E0) (l.map fun a => O (a.run env)) = lmap (fun x : OF => x.run env) l := by
  rw [lmap_eq, lmap_eq, List.map_map]; rfl

theorem builtinF_O (b : Builtin) (ts : Array TypeId) (l : List OF) : (builtinF P b ts l).run env st = (builtinF P b ts (l.map fun a => O (a.run env))).run E0 st := by
  unfold builtinF
  cases b
  case len => rcases l with _ | ⟨x, _ | ⟨y, l⟩⟩ <;> cases ts.toList <;> first | rfl | exact lenF_O _ _
  case cap => rcases l with _ | ⟨x, _ | ⟨y, l⟩⟩ <;> cases ts.toList <;> first | rfl | exact capF_O _ _
  case append => rcases l with _ | ⟨x, _ | ⟨y, _ | ⟨z, l⟩⟩⟩ <;> rcases ts.toList with _ | ⟨t, _ | ⟨u, r⟩⟩ <;> first | rfl | exact appendF_O _ _ _ _
  case copy => rcases l with _ | ⟨x, _ | ⟨y, _ | ⟨z, l⟩⟩⟩ <;> cases ts.toList <;> first | rfl | exact copyF_O _ _ _
  case min =>
    cases l with
    | nil => rfl
    | cons x l =>
      show (onSome (foldA min2 (x.run env) (lmap (fun x : OF => x.run env) l)) fun v => ER.ok v st) = onSome (foldA min2 (x.run env) (lmap (fun x : OF => x.run E0) (l.map fun a => O (a.run env)))) fun v => ER.ok v st
      rw [lmap_O]
  case max =>
    cases l with
    | nil => rfl
    | cons x l =>
      show (onSome (foldA max2 (x.run env) (lmap (fun x : OF => x.run env) l)) fun v => ER.ok v st) = onSome (foldA max2 (x.run env) (lmap (fun x : OF => x.run E0) (l.map fun a => O (a.run env)))) fun v => ER.ok v st
      rw [lmap_O]
  all_goals (rcases l with _ | ⟨x, _ | ⟨y, _ | ⟨z, l⟩⟩⟩ <;> rfl)

theorem lowOp_ok (hf : Fair op env) {o : Op} {i : Ins} (h : lowOp P o = some i) : (compOp P op o).run env st = execI P (A.val op env) i st := by
  cases o <;> simp only [lowOp] at h <;> try (cases h; done)
  case move x => obtain ⟨a, h1, rfl⟩ := map_some h; simp only [compOp, execI, lowA_ok hf h1]
  case assign x => obtain ⟨a, h1, rfl⟩ := map_some h; simp only [compOp, execI, lowA_ok hf h1]
  case pick c a b =>
    obtain ⟨c', h1, h⟩ := bind_some h
    obtain ⟨a', h2, h⟩ := bind_some h
    obtain ⟨b', h3, rfl⟩ := map_some h
    simp only [compOp, execI, lowA_ok hf h1, lowA_ok hf h2, lowA_ok hf h3]
    try rfl
  case alloc t =>
    obtain ⟨z, h1, h⟩ := bind_some h
    obtain ⟨h2, h⟩ := cond_some h
    cases h
    simp only [compOp, execI, h1, h2, cond_true]
    try rfl
  case box t x => obtain ⟨a, h1, rfl⟩ := map_some h; simp only [compOp, execI, lowA_ok hf h1]
  case build t ps =>
    obtain ⟨z, h1, h⟩ := bind_some h
    simp only [compOp, buildF, h1]
    split at h
    · rename_i fields hu
      obtain ⟨h2, h⟩ := cond_some h
      obtain ⟨l, h3, rfl⟩ := map_some h
      simp only [hu, h2, cond_true, execI]
      rw [lowPs_ok hf z h3]
    · rename_i n e hu
      obtain ⟨s, h2, h⟩ := bind_some h
      obtain ⟨l, h3, rfl⟩ := map_some h
      simp only [hu, h2, execI]
      rw [lowPs_ok hf z h3]
    · cases h
  case buildSlice t n ps =>
    obtain ⟨e, h1, h⟩ := bind_some h
    obtain ⟨s, h2, h⟩ := bind_some h
    obtain ⟨z, h3, h⟩ := bind_some h
    obtain ⟨h4, h⟩ := cond_some h
    obtain ⟨l, h5, rfl⟩ := map_some h
    simp only [compOp, buildSliceF, h1, h2, h3, h4, cond_true, execI]
    try rfl
    rw [lowPs_ok hf _ h5]
  case load t a =>
    obtain ⟨a', h1, h⟩ := bind_some h
    simp only [compOp]
    split at h
    · rename_i k h2 h3
      cases h
      rw [loadF_agg h2 h3, lowA_ok hf h1]; rfl
    · rename_i k h2 h3
      cases h
      rw [loadF_one h2 h3, lowA_ok hf h1]; rfl
    · cases h
  case store t a x =>
    obtain ⟨a', h1, h⟩ := bind_some h
    obtain ⟨x', h2, h⟩ := bind_some h
    obtain ⟨k, h3, rfl⟩ := map_some h
    simp only [compOp, storeF, h3, execI, lowA_ok hf h1, lowA_ok hf h2]
    try rfl
  case nilCheck x =>
    obtain ⟨a, h1, rfl⟩ := map_some h
    simp only [compOp, execI]
    try rfl
    rw [nilCheckF_O, lowA_ok hf h1]
  case binOp b t x y c =>
    obtain ⟨a, h1, h⟩ := bind_some h
    obtain ⟨a', h2, rfl⟩ := map_some h
    simp only [compOp]
    split
    · rename_i k hu
      split
      · simp only [binOpF, hu, execI, lowA_ok hf h1, lowA_ok hf h2]
        try rfl
      · simp only [binOpF, hu, execI, lowA_ok hf h1, lowA_ok hf h2]
        try rfl
      · rename_i hn1 hn2
        unfold binOpF
        rw [hu]
        dsimp only
        cases b <;> first | (exact absurd rfl hn1) | (exact absurd rfl hn2) | (simp only [execI, lowA_ok hf h1, lowA_ok hf h2]; try rfl)
    · rename_i hu
      simp only [binOpF, hu, execI, lowA_ok hf h1, lowA_ok hf h2]
      try rfl
      try rfl
    · simp only [execI]
      rw [binOpF_O, lowA_ok hf h1, lowA_ok hf h2]
  case unOp b t x =>
    obtain ⟨a, h1, rfl⟩ := map_some h
    simp only [compOp, execI]
    try rfl
    rw [unOpF_O, lowA_ok hf h1]
  case convert s d x =>
    obtain ⟨a, h1, rfl⟩ := map_some h
    simp only [compOp]
    split
    · rename_i k1 k2 hu1 hu2
      simp only [convertF, hu1, hu2, execI, lowA_ok hf h1]
      try rfl
    · simp only [execI]
      rw [convertF_O, lowA_ok hf h1]
  case makeInterface t x =>
    obtain ⟨a, h1, h⟩ := bind_some h
    simp only [compOp]
    split at h
    · cases h
    · rename_i hu hn
      cases h
      split
      · rename_i hu2
        rw [hu2] at hn
        cases hn
        exact absurd rfl (hu _)
      · simp only [execI, lowA_ok hf h1]
      · rename_i hu2
        rw [hu2] at hn; cases hn
    · cases h
  case makeFunc f first caps =>
    cases f <;> simp only [lowOp] at h <;> try (cases h; done)
    split at h
    · rename_i hfst
      obtain ⟨l, h1, rfl⟩ := map_some h
      simp only [compOp, hfst, execI, lmap_eq, lowAs_ok hf h1]
      try rfl
    · cases h
  case makeMap t r =>
    cases r <;> simp only [lowOp] at h <;> try (cases h; done)
    cases h
    rfl
  case makeSlice t l c =>
    obtain ⟨l', h1, h⟩ := bind_some h
    obtain ⟨c', h2, h⟩ := bind_some h
    obtain ⟨e, h3, h⟩ := bind_some h
    obtain ⟨i, h4, h⟩ := bind_some h
    obtain ⟨z, h5, h⟩ := bind_some h
    obtain ⟨h6, h⟩ := cond_some h
    cases h
    simp only [compOp, makeSliceF, h3, h4, h5, h6, cond_true, execI, lowA_ok hf h1, lowA_ok hf h2]
    try rfl
  case slice t x lo hi mx =>
    obtain ⟨x', h1, h⟩ := bind_some h
    obtain ⟨lo', h2, h⟩ := bind_some h
    obtain ⟨hi', h3, h⟩ := bind_some h
    simp only [compOp]
    cases mx with
    | some mx =>
      obtain ⟨mx', h4, rfl⟩ := map_some h
      rw [sliceF_O]
      simp only [execI, lowA_ok hf h1, Option.map_map, Option.map_some, lowA_ok hf h4]
      have e1 : (lo.map ((fun a => O (a.run env)) ∘ op)) = lo'.map fun a => O (A.val op env a) := by
        have := congrArg (Option.map O) (lowO_ok hf h2)
        simpa [Option.map_map, Function.comp_def] using this
      have e2 : (hi.map ((fun a => O (a.run env)) ∘ op)) = hi'.map fun a => O (A.val op env a) := by
        have := congrArg (Option.map O) (lowO_ok hf h3)
        simpa [Option.map_map, Function.comp_def] using this
      rw [e1, e2]
    | none =>
      simp only [Option.map_none]
      dsimp only at h
      split at h
      · rename_i hu
        cases h
        simp only [sliceF, hu, execI, lowA_ok hf h1, optF_ok hf h2, optF_ok hf h3]
        try rfl
      · rename_i e hu
        obtain ⟨sz, h5, rfl⟩ := map_some h
        simp only [sliceF, hu, h5, execI, lowA_ok hf h1, optF_ok hf h2, optF_ok hf h3]
        try rfl
      · rename_i n e hu
        obtain ⟨sz, h5, rfl⟩ := map_some h
        simp only [sliceF, hu, h5, execI, lowA_ok hf h1, optF_ok hf h2, optF_ok hf h3]
        try rfl
      · cases h
  case fieldAddr s x f =>
    obtain ⟨x', h1, h⟩ := bind_some h
    split at h
    · rename_i fields hu
      obtain ⟨fl, h2, h⟩ := bind_some h
      split at h
      · rename_i n h3
        cases h
        simp only [compOp, fieldAddrF, hu, h2, h3, execI, lowA_ok hf h1]
        try rfl
      · cases h
    · cases h
  case field s x f =>
    obtain ⟨x', h1, h⟩ := bind_some h
    split at h
    · rename_i fields hu
      obtain ⟨fl, h2, h⟩ := bind_some h
      split at h
      · rename_i s' h3 h4
        cases h
        simp only [compOp, fieldF, hu, h2, execI, lowA_ok hf h1, partA, h3, h4, Option.bind_some, cond_true, Option.map_some]
        try rfl
        try rfl
      · rename_i h3
        cases h
        simp only [compOp, fieldF, hu, h2, execI, lowA_ok hf h1, partA, h3, Option.bind_some, cond_false]
        try rfl
        congr 1
        funext cs
        cases Nat.ble (Nat.succ fl.offset) (llen cs) <;> rfl
      · cases h
    · cases h
  case indexAddr t x i =>
    obtain ⟨x', h1, h⟩ := bind_some h
    obtain ⟨i', h2, h⟩ := bind_some h
    split at h
    · rename_i n e hu
      obtain ⟨s, h3, rfl⟩ := map_some h
      simp only [compOp, indexAddrF, hu, h3, execI, lowA_ok hf h1, lowA_ok hf h2]
      try rfl
    · rename_i e hu
      obtain ⟨s, h3, rfl⟩ := map_some h
      simp only [compOp, indexAddrF, hu, h3, execI, lowA_ok hf h1, lowA_ok hf h2]
      try rfl
    · cases h
  case index t x i =>
    obtain ⟨x', h1, h⟩ := bind_some h
    obtain ⟨i', h2, h⟩ := bind_some h
    split at h
    · rename_i n e hu
      split at h
      · rename_i s h3 h4
        cases h
        simp only [compOp, indexF, hu, h4, execI, lowA_ok hf h1, lowA_ok hf h2, partA, h3, Option.bind_some, cond_true, Option.map_some]
        try rfl
        try rfl
      · rename_i s h3 h4
        cases h
        simp only [compOp, indexF, hu, h4, execI, lowA_ok hf h1, lowA_ok hf h2, partA, h3, Option.bind_some, cond_false]
        try rfl
        congr 1
        funext cs
        congr 1
        funext j
        congr 1
        cases Nat.ble (Nat.succ (Nat.mul j s)) (llen cs) <;> rfl
      · cases h
    · rename_i hu
      cases h
      simp only [compOp, indexF, hu, execI, lowA_ok hf h1, lowA_ok hf h2]
      try rfl
    · cases h
  case lookup t m k ok =>
    obtain ⟨m', h1, h⟩ := bind_some h
    obtain ⟨k', h2, rfl⟩ := map_some h
    simp only [compOp, execI]
    try rfl
    rw [lookupF_O, lowA_ok hf h1, lowA_ok hf h2]
  case mapUpdate t m k v =>
    obtain ⟨m', h1, h⟩ := bind_some h
    obtain ⟨k', h2, h⟩ := bind_some h
    obtain ⟨v', h3, rfl⟩ := map_some h
    simp only [compOp, execI]
    try rfl
    rw [mapUpdateF_O, lowA_ok hf h1, lowA_ok hf h2, lowA_ok hf h3]
  case range t x =>
    obtain ⟨x', h1, h⟩ := bind_some h
    split at h
    · rename_i hu
      cases h
      simp only [compOp, hu, execI, lowA_ok hf h1]
      try rfl
    · cases h
  case next it s =>
    cases s <;> simp only [lowOp] at h <;> try (cases h; done)
    obtain ⟨x', h1, rfl⟩ := map_some h
    simp only [compOp, execI]
    try rfl
    rw [nextF_O, lowA_ok hf h1]
  case panic x =>
    obtain ⟨a, h1, rfl⟩ := Go.Sy.map_some h
    simp only [compOp, execI, lowA_ok hf h1]
    try rfl
  case typeAssert x s t ok =>
    cases ok <;> simp only [lowOp] at h <;> try (cases h; done)
    obtain ⟨x', h1, rfl⟩ := map_some h
    simp only [compOp, execI]
    try rfl
    rw [assertF_O, lowA_ok hf h1]
  case extract x i =>
    obtain ⟨x', h1, rfl⟩ := map_some h
    simp only [compOp, execI, lowA_ok hf h1]
    try rfl
  case call c =>
    split at h
    · rename_i b hb
      obtain ⟨l, h1, h⟩ := bind_some h
      have hl := lowAs_ok hf h1
      have gen : (compOp P op (.call c)).run env st = (builtinF P b c.argTypes (l.map fun a => O (A.val op env a))).run E0 st := by
        simp only [compOp, hb]
        rw [builtinF_O, lmap_eq, List.map_map]
        congr 2
        have := congrArg (List.map O) hl
        simpa [List.map_map, Function.comp_def] using this
      rw [gen]
      split at h
      · rename_i x t r hts hts2
        have hb1 : ∀ v : AV, (builtinF P .len c.argTypes [O v]).run E0 st = (lenF P t (O v)).run E0 st := by
          intro v
          unfold builtinF
          rw [hts]
        simp only [List.map_cons, List.map_nil]
        split at h
        · rename_i hu
          cases h
          rw [hb1]
          unfold lenF
          rw [hu]; rfl
        · rename_i e hu
          cases h
          rw [hb1]
          unfold lenF
          rw [hu]; rfl
        · rename_i k e hu
          cases h
          rw [hb1]
          unfold lenF
          rw [hu]; rfl
        · cases h; rfl
      · rename_i s x t u r hts hts2
        obtain ⟨e, h2, h⟩ := bind_some h
        obtain ⟨i', h3, h⟩ := bind_some h
        obtain ⟨z, h4, h⟩ := bind_some h
        obtain ⟨h5, h⟩ := cond_some h
        have hb1 : ∀ v v' : AV, (builtinF P .append c.argTypes [O v, O v']).run E0 st = (appendF P t u (O v) (O v')).run E0 st := by
          intro v v'
          unfold builtinF
          rw [hts]
        simp only [List.map_cons, List.map_nil]
        split at h
        · rename_i e' hu
          cases h
          rw [hb1]
          unfold appendF
          simp only [h2, h3, h4, h5, cond_true, hu]
          rfl
        · rename_i hu
          cases h
          rw [hb1]
          unfold appendF
          simp only [h2, h3, h4, h5, cond_true, hu]
          rfl
        · cases h; rfl
      · cases h; rfl
    · cases h

end
end Go.Sy

namespace Go.Sy
open Go.Ev Go.RowKit

/-! ### code with what the tables say -/
inductive IC where
  | i (i : Ins)
  | call (f : A) (l : List A)

structure Stp where
  dst : Option Nat
  keep : Bool
  g : Option (Nat × Bool)
  k : IC

structure DStp where
  s : Stp
  te : Option (Option A)
  lt : TypeId
  prt : List (Nat × TypeId)

inductive Cmd where
  | skip
  | ops (l : List Stp)
  | dops (l : List DStp)
  | seq (a b : Cmd)
  | cond (x : A) (a b : Cmd)
  | block (id : Nat) (c : Cmd)
  | loop (c : Cmd)
  | exit (id : Nat)
  | ret

inductive RV where
  | t (x : Nat)
  | c1 (a : Nat)
  | cA (a k : Nat)

structure FD where
  ps : List Nat
  body : Cmd
  res : List RV

noncomputable def lowK (P : Program) (o : Op) : Option IC :=
  match callOf o with
  | some (f, args) => (lowA f).bind fun f => (lowAs args).map fun l => .call f l
  | none => (lowOp P o).map .i

def lowG (ops : Array Oper) (o : Oper) : Option (Option (Nat × Bool)) :=
  match o.guard with
  | none => some none
  | some (j, want) => ((ops[j]?).bind (·.dst)).map fun d => some (d, want)

noncomputable def lowStp (P : Program) (U : Nat) (ops : Array Oper) (o : Oper) : Option Stp :=
  (lowK P o.op).bind fun k => (lowG ops o).map fun g => ⟨o.dst, match o.dst with | some d => inU U d | none => false, g, k⟩

noncomputable def lowOps (P : Program) (U : Nat) (ops : Array Oper) : List Oper → Option (List Stp)
  | [] => some []
  | o :: l => (lowStp P U ops o).bind fun s => (lowOps P U ops l).map fun l => s :: l

def lowT (P : Program) (o : Op) : Option (Option (Option A)) :=
  match clOf P o with
  | .pure => some none
  | .makes => some none
  | .reads => (match o with | .load _ a => (lowA a).map fun a => some (some a) | _ => none)
  | .writes => some (some none)
  | .other => some (some none)

noncomputable def lowD (P : Program) (U : Nat) (ops : Array Oper) : Nat → List Oper → Option (List DStp)
  | _, [] => some []
  | i, o :: l => cond (watch P ops i o) none ((lowStp P U ops o).bind fun s => (lowT P o.op).bind fun te => (lowD P U ops (i + 1) l).map fun l => ⟨s, te, loadT o.op, Ev.partners P ops (esAt i) i o⟩ :: l)

noncomputable def calm (P : Program) (ops : Array Oper) : Nat → List Oper → Bool
  | _, [] => true
  | i, o :: l => cond (watch P ops i o) false (cond (Ev.partners P ops (esAt i) i o).isEmpty (calm P ops (i + 1) l) false)

noncomputable def lowC (P : Program) (U : Nat) : Code → Option Cmd
  | .skip => some .skip
  | .region _ ops d => (match d with
    | false => (lowOps P U ops ops.toList).map .ops
    | true => cond (orderOk P ops) (cond (calm P ops 0 ops.toList) ((lowOps P U ops ops.toList).map .ops) ((lowD P U ops 0 ops.toList).map .dops)) none)
  | .seq a b => (lowC P U a).bind fun a => (lowC P U b).map fun b => .seq a b
  | .cond x a b => (lowA x).bind fun x => (lowC P U a).bind fun a => (lowC P U b).map fun b => .cond x a b
  | .block id a => (lowC P U a).map fun a => .block id a
  | .loop a => (lowC P U a).map fun a => .loop a
  | .exit id => some (.exit id)
  | .ret => some .ret
  | _ => none

noncomputable def lowR (P : Program) : ResultVar → Option RV
  | .tmp t => some (.t t)
  | .cell a t => (match Ev.isAgg P t, Ev.sizeOf P t with
    | some true, some k => some (.cA a k)
    | some false, some _ => some (.c1 a)
    | _, _ => none)

noncomputable def lowRs (P : Program) : List ResultVar → Option (List RV)
  | [] => some []
  | r :: l => (lowR P r).bind fun r => (lowRs P l).map fun l => r :: l

noncomputable def lowF (P : Program) (f : FuncId) : Option FD :=
  match P.funcs[f]? with
  | some fn => (match fn.body with
    | some c => (lowC P (maskOf fn c) c).bind fun b => (lowRs P fn.results.toList).map fun r => ⟨(List.range (fn.params.size + fn.nfree)).filter (inU (maskOf fn c)), b, r⟩
    | none => none)
  | none => none

/-! ### slots -/
abbrev Sl := List (Nat × AV)
def look (x : Nat) : Sl → AV
  | [] => .bad
  | (k, v) :: L => cond (Nat.beq k x) v (look x L)
def has (x : Nat) : Sl → Bool
  | [] => false
  | (k, _) :: L => cond (Nat.beq k x) true (has x L)

structure En where
  l : Sl
  g : Sl

def En.look (e : En) (x : Nat) : AV := cond (has x e.l) (Sy.look x e.l) (Sy.look x e.g)
def En.has (e : En) (x : Nat) : Bool := cond (Sy.has x e.l) true (Sy.has x e.g)
def vl (e : En) : A → AV
  | .t x => e.look x
  | .c v => v
def okA (e : En) : A → Bool
  | .t x => e.has x
  | .c _ => true
def pushE (dst : Option Nat) (keep : Bool) (v : AV) (e : En) : En :=
  match dst with
  | some d => ⟨(d, v) :: e.l, cond keep ((d, v) :: e.g) e.g⟩
  | none => e

def oA (x : Option A) : List A := match x with | some a => [a] | none => []

def insA : Ins → List A
  | .mv x => [x] | .pick c a b => [c, a, b] | .alloc _ => [] | .box x => [x] | .build _ ps => ps.map (·.2) | .buildS _ _ _ ps => ps.map (·.2)
  | .ld1 a => [a] | .ldA _ a => [a] | .st _ a x => [a, x] | .nilc x => [x] | .bin _ x y => [x, y] | .shf _ x y => [x, y] | .strb _ x y => [x, y] | .gen _ _ _ x y => [x, y]
  | .un _ x => [x] | .cvt _ x => [x] | .conv _ _ x => [x] | .iface _ x => [x] | .fn _ l => l | .mkMap => [] | .mkS _ _ _ l c => [l, c]
  | .slStr x lo hi => x :: (oA lo ++ oA hi) | .slS _ x lo hi => x :: (oA lo ++ oA hi) | .slA _ _ x lo hi => x :: (oA lo ++ oA hi) | .sl3 _ x lo hi mx => x :: (oA lo ++ oA hi ++ oA mx)
  | .fad _ x => [x] | .fld1 _ x => [x] | .fldA _ _ x => [x] | .idxA _ _ x i => [x, i] | .idxS _ x i => [x, i] | .ixA1 _ _ x i => [x, i] | .ixAA _ _ x i => [x, i] | .ixStr x i => [x, i]
  | .look _ m k _ => [m, k] | .upd _ m k v => [m, k, v] | .range x => [x] | .next x => [x] | .assert x _ => [x] | .ext x _ => [x] | .len x => [x] | .lenS x => [x] | .lenM x => [x]
  | .app _ _ s x => [s, x] | .bi _ _ l => l | .pan x => [x]

/-- a proposition; what its type names isn't looked into by simp -/
abbrev Res {α : Sort _} (_ : α) : Type := Prop

def onER (r : ER) (K : AV → St → Prop) : Res K :=
  match r with
  | .ok v st => K v st
  | _ => False

def wI (P : Program) (i : Ins) (e : En) (st : St) (K : AV → St → Prop) : Res (i, K) :=
  (insA i).all (okA e) = true ∧ onER (execI P (vl e) i st) K

/-! ### fuel enough -/
noncomputable def evC (P : Program) (base : CallF) (n : Nat) : Nat → CallF
  | 0 => fun _ _ _ => .no
  | d + 1 => fun f args st => match base f args st with
    | .no => (compN P f).run (evC P base n d) n args st
    | r => r

theorem evC_ok {P : Program} (hok : okP P = true) (hdraw : DrawOK P) {base : CallF} (hb : CallOK P base) (n : Nat) : ∀ d, CallOK P (evC P base n d)
  | 0 => fun f args st ι w vs _ _ => trivial
  | d + 1 => fun f args st ι w vs hs hv => by
    have h1 := hb f args st ι w vs hs hv
    have h2 := compN_ok hok (evC_ok hok hdraw hb n d) hdraw n f args st ι w vs hs hv
    show match evC P base n (d + 1) f args st with | .no => True | .ok v st' => _ | .pn v st' => _
    simp only [evC]
    cases hr : base f args st with
    | no => exact h2
    | ok v st' => rw [hr] at h1; exact h1
    | pn v st' => rw [hr] at h1; exact h1

def CW (P : Program) (base : CallF) (f : FuncId) (args : List AV) (st : St) (K : AV → St → Prop) : Res K :=
  ∃ v st', (∃ N D, ∀ n, N ≤ n → ∀ d, D ≤ d → evC P base n d f args st = .ok v st') ∧ K v st'

theorem CW.mono {P : Program} {base : CallF} {f : FuncId} {args : List AV} {st : St} {K K' : AV → St → Prop} (h : CW P base f args st K) (hk : ∀ v st', K v st' → K' v st') : CW P base f args st K' := by
  obtain ⟨v, st', h1, h2⟩ := h
  exact ⟨v, st', h1, hk v st' h2⟩

section
variable (P : Program) (base : CallF)

def wCall (f : A) (l : List A) (e : En) (st : St) (K : AV → St → Prop) : Res K :=
  okA e f = true ∧ l.all (okA e) = true ∧ (match vl e f with
    | .fn f caps => CW P base f (l.map (vl e) ++ caps) st fun v st' => K v (back st st')
    | _ => False)

def wK (k : IC) (e : En) (st : St) (K : AV → St → Prop) : Res (k, K) :=
  match k with
  | .i i => wI P i e st K
  | .call f l => wCall P base f l e st K

def gW (g : Option (Nat × Bool)) (e : En) (a b : Prop) : Res (a, b) :=
  match g with
  | none => a
  | some (x, want) => e.has x = true ∧ (match e.look x with | .bool q => (match q == want with | true => a | false => b) | .bad => False | _ => b)

def wO : (l : List Stp) → En → St → (K : En → St → Prop) → Res (l, K)
  | [], e, st, K => K e st
  | s :: l, e, st, K => gW s.g e (wK P base s.k e st fun v st' => wO l (pushE s.dst s.keep v e) st' K) (wO l (pushE s.dst s.keep undefA e) st K)

def teW (te : Option (Option A)) (e : En) (v : AV) (st st' : St) : TE :=
  match te with
  | none => .none
  | some none => .wr st.h st'.h
  | some (some a) => .rd (vl e a) v

def wD : (l : List DStp) → En → List TE → St → (K : En → St → Prop) → Res (l, K)
  | [], e, tb, st, K => K e st
  | s :: l, e, tb, st, K => gW s.s.g e
      (wK P base s.s.k e st fun v st' => held P s.lt (teW s.te e v st st') tb s.prt = true ∧ wD l (pushE s.s.dst s.s.keep v e) (teW s.te e v st st' :: tb) st' K)
      (wD l (pushE s.s.dst s.s.keep undefA e) (.none :: tb) st K)

inductive Out where
  | go (L : Sl) (st : St)
  | ex (id : Nat) (L : Sl) (st : St)
  | rt (L : Sl) (st : St)

def seqQ (k : Sl → St → Prop) (Q : Out → Prop) : Out → Res (k, Q)
  | .go L st => k L st
  | o => Q o
def blockQ (id : Nat) (Q : Out → Prop) : Out → Res Q
  | .ex i L st => cond (Nat.beq i id) (Q (.go L st)) (Q (.ex i L st))
  | o => Q o

def condW (v : AV) (a b : Prop) : Res (a, b) := match v with | .bool true => a | .bool false => b | _ => False

def wLoop (w : Sl → St → (Out → Prop) → Prop) : Nat → Sl → St → (Out → Prop) → Prop
  | 0, _, _, _ => False
  | n + 1, L, st, Q => w L st (seqQ (fun L' st' => wLoop w n L' st' Q) Q)

def wC : (c : Cmd) → Sl → St → (Q : Out → Prop) → Res (c, Q)
  | .skip, L, st, Q => Q (.go L st)
  | .ops l, L, st, Q => wO P base l ⟨[], L⟩ st fun e st' => Q (.go e.g st')
  | .dops l, L, st, Q => wD P base l ⟨[], L⟩ [] st fun e st' => Q (.go e.g st')
  | .seq a b, L, st, Q => wC a L st (seqQ (fun L' st' => wC b L' st' Q) Q)
  | .cond x a b, L, st, Q => okA ⟨[], L⟩ x = true ∧ condW (vl ⟨[], L⟩ x) (wC a L st Q) (wC b L st Q)
  | .block id a, L, st, Q => wC a L st (blockQ id Q)
  | .loop a, L, st, Q => ∃ n, wLoop (wC a) n L st Q
  | .exit id, L, st, Q => Q (.ex id L st)
  | .ret, L, st, Q => Q (.rt L st)

def resW (r : RV) (L : Sl) (st : St) (K : AV → Prop) : Res K :=
  match r with
  | .t x => has x L = true ∧ K (look x L)
  | .c1 a => has a L = true ∧ onER (execI P (fun _ => look a L) (.ld1 (.t a)) st) fun v _ => K v
  | .cA a k => has a L = true ∧ onER (execI P (fun _ => look a L) (.ldA k (.t a)) st) fun v _ => K v

def resWs : (l : List RV) → Sl → St → (K : List AV → Prop) → Res (l, K)
  | [], L, st, K => K []
  | r :: l, L, st, K => resW P r L st fun v => resWs l L st fun vs => K (v :: vs)

def endQ (res : List RV) (K : AV → St → Prop) : Out → Res K
  | .go L st => resWs P res L st fun vs => K (oneOf vs) st.bare
  | .rt L st => resWs P res L st fun vs => K (oneOf vs) st.bare
  | .ex _ _ _ => False

def entry (ps : List Nat) (args : List AV) : Sl := ps.map fun i => (i, args.getD i undefA)

end
end Go.Sy

namespace Go.Sy
open Go.Ev Go.RowKit

/-! ### what an operation hangs on -/
theorem map_ps {ρ ρ' : A → AV} {ps : List ((Nat × Nat) × A)} (h : ∀ a ∈ ps.map (·.2), ρ a = ρ' a) : (ps.map fun p => (p.1, ρ p.2)) = ps.map fun p => (p.1, ρ' p.2) :=
  List.map_congr_left fun p hp => by rw [h p.2 (List.mem_map.2 ⟨p, hp, rfl⟩)]
theorem map_oA {ρ ρ' : A → AV} {x : Option A} (h : ∀ a ∈ oA x, ρ a = ρ' a) : x.map ρ = x.map ρ' := by
  cases x with
  | none => rfl
  | some a => simp [h a (by simp [oA])]
theorem map_oO {ρ ρ' : A → AV} {x : Option A} (h : ∀ a ∈ oA x, ρ a = ρ' a) : (x.map fun a => O (ρ a)) = x.map fun a => O (ρ' a) := by
  cases x with
  | none => rfl
  | some a => simp [h a (by simp [oA])]

theorem execI_congr {P : Program} {ρ ρ' : A → AV} {i : Ins} {st : St} (h : ∀ a ∈ insA i, ρ a = ρ' a) : execI P ρ i st = execI P ρ' i st := by
  cases i <;> simp only [insA] at h <;> simp only [execI]
  case build z ps => rw [map_ps h]
  case buildS len s z ps => rw [map_ps h]
  case fn f l => rw [List.map_congr_left h]
  case bi b ts l =>
    have : (l.map fun a => O (ρ a)) = l.map fun a => O (ρ' a) := List.map_congr_left fun a ha => by rw [h a ha]
    rw [this]
  case slStr x lo hi => rw [h x (by simp), map_oA (x := lo) fun a ha => h a (by simp [ha]), map_oA (x := hi) fun a ha => h a (by simp [ha])]
  case slS sz x lo hi => rw [h x (by simp), map_oA (x := lo) fun a ha => h a (by simp [ha]), map_oA (x := hi) fun a ha => h a (by simp [ha])]
  case slA n sz x lo hi => rw [h x (by simp), map_oA (x := lo) fun a ha => h a (by simp [ha]), map_oA (x := hi) fun a ha => h a (by simp [ha])]
  case sl3 t x lo hi mx => rw [h x (by simp), map_oO (x := lo) fun a ha => h a (by simp [ha]), map_oO (x := hi) fun a ha => h a (by simp [ha]), map_oO (x := mx) fun a ha => h a (by simp [ha])]
  all_goals
    first
    | rfl
    | (simp only [List.mem_cons, List.mem_singleton, List.not_mem_nil, or_false, forall_eq_or_imp, forall_eq] at h
       first
       | (obtain ⟨h1, h2, h3⟩ := h; rw [h1, h2, h3]; done)
       | (obtain ⟨h1, h2⟩ := h; rw [h1, h2]; done)
       | (rw [h]; done))

/-! ### what a frame has deferred stays -/
def Fr1 (F : St → ER) : Prop := ∀ st v st', F st = .ok v st' → st'.fr = st.fr

theorem Fr1.no : Fr1 fun _ => .no := fun st v st' h => by cases h
theorem Fr1.pn {f : St → AV} : Fr1 fun st => .pn (f st) st := fun st v st' h => by cases h
theorem Fr1.ok (v : AV) : Fr1 fun st => .ok v st := fun st v' st' h => by cases h; rfl
theorem Fr1.cond {b : Bool} {F G : St → ER} (hF : Fr1 F) (hG : Fr1 G) : Fr1 fun st => cond b (F st) (G st) := by cases b <;> assumption
theorem Fr1.bool {x : AV} {F : Bool → St → ER} (h : ∀ b, Fr1 (F b)) : Fr1 fun st => onBool x fun b => F b st := by
  cases x <;> first | exact h _ | exact Fr1.no
theorem Fr1.ptr {x : AV} {F : Nat → Nat → St → ER} (h : ∀ b o, Fr1 (F b o)) : Fr1 fun st => onPtr x fun b o => F b o st := by
  cases x <;> first | exact h _ _ | exact Fr1.no
theorem Fr1.agg {x : AV} {F : List AV → St → ER} (h : ∀ b, Fr1 (F b)) : Fr1 fun st => onAgg x fun b => F b st := by
  cases x <;> first | exact h _ | exact Fr1.no
theorem Fr1.str {x : AV} {F : List Nat → St → ER} (h : ∀ b, Fr1 (F b)) : Fr1 fun st => onStr x fun b => F b st := by
  cases x <;> first | exact h _ | exact Fr1.no
theorem Fr1.some {α : Type} {x : Option α} {F : α → St → ER} (h : ∀ b, Fr1 (F b)) : Fr1 fun st => onSome x fun b => F b st := by
  cases x <;> first | exact h _ | exact Fr1.no
theorem Fr1.nat {x : AV} {F : Nat → St → ER} (h : ∀ b, Fr1 (F b)) : Fr1 fun st => onNat x fun b => F b st := by
  unfold onNat
  split
  · simp only [force_eq]; exact h _
  · exact Fr1.no
theorem Fr1.len {x : AV} {F : Nat → St → ER} (h : ∀ b, Fr1 (F b)) : Fr1 fun st => onLen x fun b => F b st := by
  unfold onLen
  split
  · exact h _
  · exact h _
  · simp only [force_eq]; exact h _
  · exact Fr1.no
theorem Fr1.force {n : Nat} {F : Nat → St → ER} (h : ∀ b, Fr1 (F b)) : Fr1 fun st => force n fun b => F b st := by
  simp only [force_eq]; exact h _
theorem Fr1.optF {x : Option OF} {d : Nat} {env : Env} {F : Nat → St → ER} (h : ∀ b, Fr1 (F b)) : Fr1 fun st => optF x d env fun b => F b st := by
  cases x
  · exact h _
  · exact Fr1.nat h
theorem Fr1.optA {x : Option AV} {d : Nat} {F : Nat → St → ER} (h : ∀ b, Fr1 (F b)) : Fr1 fun st => optA x d fun b => F b st := by
  cases x
  · exact h _
  · exact Fr1.nat h
theorem Fr1.row {b : Nat} {F : Nat → Nat → List AV → T AV → St → ER} (h : ∀ n zl z cs, Fr1 (F n zl z cs)) : Fr1 fun st => onRow (hget st.h b) fun n zl z cs => F n zl z cs st := fun st v st' e => by
  dsimp only at e
  cases hg : hget st.h b with
  | none => rw [hg] at e; cases e
  | some o =>
    rw [hg] at e
    cases o <;> first | (cases e; done) | exact h _ _ _ _ st v st' e
theorem Fr1.map {b : Nat} {F : List (AV × AV) → St → ER} (h : ∀ es, Fr1 (F es)) : Fr1 fun st => onMap (hget st.h b) fun es => F es st := fun st v st' e => by
  dsimp only at e
  cases hg : hget st.h b with
  | none => rw [hg] at e; cases e
  | some o =>
    rw [hg] at e
    cases o <;> first | (cases e; done) | exact h _ st v st' e
theorem Fr1.alloc (o : AO) {F : Nat → AV} : Fr1 fun st => st.alloc o fun b st => .ok (F b) st := fun st v st' h => by
  dsimp only at h
  rw [St.alloc_eq] at h
  cases h; rfl
theorem Fr1.put (b : Nat) (o : AO) {F : St → ER} (hF : Fr1 F) : Fr1 fun st => st.put b o F := fun st v st' h => by
  dsimp only at h
  rw [St.put_eq] at h
  have := hF _ v st' h
  exact this
theorem Fr1.newRow (l : List AV) : Fr1 fun st => Ev.newRow st l := by
  unfold Ev.newRow
  exact Fr1.force fun n => Fr1.alloc _
theorem Fr1.cells {size n : Nat} {x : AV} {F : List AV → St → ER} (h : ∀ l, Fr1 (F l)) : Fr1 fun st => firstCells st size n x fun l => F l st := by
  unfold firstCells
  cases x
  case slice => exact Fr1.row fun m zl z cs => Fr1.force fun c => Fr1.cond (h _) Fr1.no
  case nils => exact h _
  case str => exact h _
  all_goals exact Fr1.no
theorem Fr1.app (size bytes : Nat) (s : AV) (n : Nat) (news : List AV) : Fr1 fun st => appendWith st size bytes s n news := by
  unfold appendWith
  refine Fr1.cond ?_ Fr1.no
  cases s
  case nils => exact Fr1.cond (Fr1.ok _) (Fr1.cond (Fr1.cond (Fr1.force fun m => Fr1.alloc _) Fr1.no) Fr1.no)
  case slice b o sl cap sz ex =>
    refine Fr1.force fun need => Fr1.row fun m zl z cs => Fr1.cond (Fr1.cond (Fr1.ok _) (Fr1.cond (Fr1.put _ _ (Fr1.ok _)) Fr1.no)) (Fr1.cond (Fr1.cond ?_ Fr1.no) Fr1.no)
    exact Fr1.cond (Fr1.force fun k => Fr1.cond (Fr1.force fun t => Fr1.alloc _) Fr1.no) (Fr1.cond (Fr1.cond (Fr1.cond (Fr1.put _ _ (Fr1.force fun t => Fr1.alloc _)) Fr1.no) Fr1.no) Fr1.no)
  all_goals exact Fr1.no
theorem Fr1.of_pu {F : St → ER} (h : Pu F) : Fr1 F := fun st v st' e => by rw [(h st v st' e).1]

theorem execI_fr (P : Program) (ρ : A → AV) (i : Ins) : Fr1 fun st => execI P ρ i st := by
  cases i
  case mv x => exact Fr1.ok _
  case pick c a b => exact Fr1.bool fun q => Fr1.ok _
  case alloc z => exact Fr1.newRow _
  case box x => exact Fr1.cond (Fr1.newRow _) Fr1.no
  case build z ps => exact Fr1.some fun cs => Fr1.ok _
  case buildS len s z ps => exact Fr1.some fun cells => Fr1.cond (Fr1.force fun n => Fr1.alloc _) Fr1.no
  case ld1 a => exact Fr1.ptr fun b o => Fr1.row fun n zl z cs => Fr1.cond (Fr1.ok _) Fr1.no
  case ldA k a => exact Fr1.ptr fun b o => Fr1.row fun n zl z cs => Fr1.cond (Fr1.ok _) Fr1.no
  case st k a x => exact Fr1.ptr fun b o => Fr1.row fun n zl z cs => Fr1.cond (Fr1.cond (Fr1.cond (Fr1.put _ _ (Fr1.ok _)) Fr1.no) Fr1.no) Fr1.no
  case nilc x => exact Fr1.of_pu (pu_nilCheck _)
  case bin op x y =>
    simp only [execI]
    generalize ρ x = u; generalize ρ y = v
    cases u <;> cases v <;> first | exact Fr1.no | exact Fr1.cond (Fr1.some fun _ => Fr1.ok _) Fr1.no
  case shf op x y =>
    simp only [execI]
    generalize ρ x = u; generalize ρ y = v
    cases u <;> cases v <;> first | exact Fr1.no | exact Fr1.some fun _ => Fr1.ok _
  case strb op x y =>
    simp only [execI]
    generalize ρ x = u; generalize ρ y = v
    cases u <;> cases v <;> first | exact Fr1.no | exact Fr1.some fun _ => Fr1.ok _
  case gen op t c x y => exact Fr1.of_pu (pu_binOp _ _ _ _ _)
  case un op x => exact Fr1.of_pu (pu_unOp _ _)
  case cvt k x =>
    simp only [execI]
    generalize ρ x = u
    cases u <;> first | exact Fr1.no | exact Fr1.ok _
  case conv s d x =>
    simp only [execI]
    unfold convertF
    split
    · dsimp only [O]
      generalize ρ x = u
      cases u <;> first | exact Fr1.no | exact Fr1.ok _
    · exact Fr1.str fun s => Fr1.ok _
    · split
      · dsimp only [O]
        generalize ρ x = u
        cases u
        case nils => exact Fr1.ok _
        case slice b o len cap sz ex =>
          refine Fr1.row fun n zl z cs => Fr1.cond (Fr1.cond (Fr1.some fun s => Fr1.ok _) ?_) Fr1.no
          split
          · exact Fr1.cond (Fr1.ok _) Fr1.no
          · exact Fr1.no
        all_goals exact Fr1.no
      · exact Fr1.no
    · split
      · exact Fr1.str fun s => Fr1.force fun n => Fr1.alloc _
      · exact Fr1.no
    · exact Fr1.no
  case iface t x => exact Fr1.ok _
  case fn f l => exact Fr1.ok _
  case mkMap => exact Fr1.alloc _
  case mkS size bytes z l c => exact Fr1.nat fun l => Fr1.nat fun c => Fr1.cond (Fr1.cond (Fr1.cond (Fr1.force fun n => Fr1.alloc _) Fr1.no) Fr1.no) Fr1.no
  case slStr x lo hi => exact Fr1.str fun s => Fr1.force fun n => Fr1.optA fun l => Fr1.optA fun h => Fr1.cond (Fr1.cond (Fr1.ok _) Fr1.no) Fr1.no
  case slS sz x lo hi =>
    simp only [execI]
    generalize ρ x = u
    cases u
    case nils => exact Fr1.optA fun l => Fr1.optA fun h => Fr1.cond (Fr1.cond (Fr1.ok _) Fr1.no) Fr1.no
    case slice => exact Fr1.optA fun l => Fr1.optA fun h => Fr1.cond (Fr1.cond (Fr1.cond (Fr1.force fun _ => Fr1.force fun _ => Fr1.force fun _ => Fr1.ok _) Fr1.no) Fr1.no) Fr1.no
    all_goals exact Fr1.no
  case slA n sz x lo hi => exact Fr1.ptr fun b o => Fr1.optA fun l => Fr1.optA fun h => Fr1.cond (Fr1.cond (Fr1.force fun _ => Fr1.force fun _ => Fr1.force fun _ => Fr1.ok _) Fr1.no) Fr1.no
  case sl3 t x lo hi mx => exact Fr1.of_pu (pu_slice _ _ _ _ _)
  case fad off x => exact Fr1.ptr fun b o => Fr1.force fun _ => Fr1.ok _
  case fld1 off x => exact Fr1.agg fun cs => Fr1.cond (Fr1.ok _) Fr1.no
  case fldA off s x => exact Fr1.agg fun cs => Fr1.ok _
  case idxA n s x i => exact Fr1.ptr fun b o => Fr1.nat fun i => Fr1.cond (Fr1.force fun _ => Fr1.ok _) Fr1.no
  case idxS s x i =>
    simp only [execI]
    generalize ρ x = u
    cases u
    case slice => exact Fr1.nat fun i => Fr1.cond (Fr1.force fun _ => Fr1.ok _) Fr1.no
    all_goals exact Fr1.no
  case ixA1 n s x i => exact Fr1.agg fun cs => Fr1.nat fun i => Fr1.cond (Fr1.cond (Fr1.ok _) Fr1.no) Fr1.no
  case ixAA n s x i => exact Fr1.agg fun cs => Fr1.nat fun i => Fr1.cond (Fr1.ok _) Fr1.no
  case ixStr x i => exact Fr1.str fun s => Fr1.nat fun i => Fr1.cond (Fr1.ok _) Fr1.no
  case look t m k ok =>
    simp only [execI]
    unfold lookupF
    split
    · split
      · dsimp only [O]
        generalize ρ m = u
        cases u
        case nilm => exact Fr1.cond (Fr1.ok _) Fr1.no
        case map r =>
          refine Fr1.cond (Fr1.map fun es => Fr1.some fun o => ?_) Fr1.no
          cases o <;> exact Fr1.ok _
        all_goals exact Fr1.no
      · exact Fr1.no
    · exact Fr1.no
  case upd t m k v =>
    simp only [execI]
    unfold mapUpdateF
    split
    · dsimp only [O]
      generalize ρ m = u
      cases u
      case map r => exact Fr1.cond (Fr1.map fun es => Fr1.some fun es => Fr1.put _ _ (Fr1.ok _)) Fr1.no
      all_goals exact Fr1.no
    · exact Fr1.no
  case range x => exact Fr1.str fun s => Fr1.alloc _
  case next x =>
    intro st v st' h
    simp only [execI, nextF] at h
    generalize (O (ρ x)).run E0 = u at h
    cases u <;> try (cases h; done)
    rename_i r o
    simp only [onPtr] at h
    cases hb : Nat.beq o 0
    · rw [hb] at h; cases h
    · rw [hb] at h
      simp only [cond_true] at h
      split at h
      · rename_i s pos hg
        cases hb2 : Nat.ble (llen s) pos
        · rw [hb2] at h
          simp only [cond_false, force_eq] at h
          generalize Nat.ble (lget 0 s pos) 127 = q at h
          cases q
          · cases h
          · simp only [cond_true, St.put_eq] at h
            cases h; rfl
        · rw [hb2] at h; cases h; rfl
      · cases h
  case assert x t =>
    simp only [execI]
    unfold assertF
    split
    · exact Fr1.no
    · split
      · dsimp only [O]
        generalize ρ x = u
        cases u
        case nilif => exact Fr1.ok _
        case iface => exact Fr1.some fun b => Fr1.cond (Fr1.ok _) (Fr1.ok _)
        all_goals exact Fr1.no
      · dsimp only [O]
        generalize ρ x = u
        cases u
        case nilif => exact Fr1.ok _
        case iface => exact Fr1.cond (Fr1.ok _) (Fr1.ok _)
        all_goals exact Fr1.no
      · exact Fr1.no
  case pan x =>
    simp only [execI]
    generalize ρ x = u
    cases u
    case iface t v => exact Fr1.pn (f := fun _ => .iface t v)
    all_goals exact Fr1.no
  case ext x i =>
    simp only [execI]
    generalize ρ x = u
    cases u
    case tup => exact Fr1.cond (Fr1.ok _) Fr1.no
    all_goals exact Fr1.no
  case len x =>
    simp only [execI]
    generalize ρ x = u
    cases u
    case nils => exact Fr1.ok _
    case slice => exact Fr1.ok _
    all_goals exact Fr1.no
  case lenS x =>
    simp only [execI]
    generalize ρ x = u
    cases u
    case str => exact Fr1.force fun _ => Fr1.ok _
    case zstr => exact Fr1.ok _
    all_goals exact Fr1.no
  case lenM x =>
    simp only [execI]
    generalize ρ x = u
    cases u
    case nilm => exact Fr1.ok _
    case map => exact Fr1.map fun es => Fr1.force fun _ => Fr1.ok _
    all_goals exact Fr1.no
  case app size bytes s x => exact Fr1.len fun n => Fr1.cells fun l => Fr1.app _ _ _ _ _
  case bi b ts l =>
    simp only [execI]
    unfold builtinF
    split
    · unfold lenF
      split
      · dsimp only
        generalize OF.run _ E0 = v
        cases v
        case str => exact Fr1.force fun _ => Fr1.ok _
        case zstr => exact Fr1.ok _
        all_goals exact Fr1.no
      · exact Fr1.ok _
      · dsimp only
        generalize OF.run _ E0 = v
        cases v
        case nils => exact Fr1.ok _
        case slice => exact Fr1.ok _
        all_goals exact Fr1.no
      · dsimp only
        generalize OF.run _ E0 = v
        cases v
        case nilm => exact Fr1.ok _
        case map => exact Fr1.map fun es => Fr1.force fun _ => Fr1.ok _
        all_goals exact Fr1.no
      · exact Fr1.no
    · unfold capF
      split
      · dsimp only
        generalize OF.run _ E0 = v
        cases v
        case nils => exact Fr1.ok _
        case slice b o n c sz ex => cases ex <;> first | exact Fr1.no | exact Fr1.ok _
        all_goals exact Fr1.no
      · exact Fr1.no
    · unfold appendF
      split
      · split
        · generalize cond _ _ false = cc
          cases cc
          · exact Fr1.no
          · simp only [cond_true]
            split
            · exact Fr1.nat fun n => Fr1.cond (Fr1.cond (Fr1.app _ _ _ _ _) Fr1.no) Fr1.no
            · exact Fr1.len fun n => Fr1.cells fun l => Fr1.app _ _ _ _ _
            · exact Fr1.len fun n => Fr1.cells fun l => Fr1.app _ _ _ _ _
            · exact Fr1.no
        · exact Fr1.no
      · exact Fr1.no
    · unfold copyF
      split
      · split
        · refine Fr1.len fun n0 => ?_
          generalize OF.run _ E0 = v
          cases v
          case nils => exact Fr1.ok _
          case slice => exact Fr1.force fun n => Fr1.cells fun cells => Fr1.row fun m zl z cs => Fr1.cond (Fr1.put _ _ (Fr1.ok _)) Fr1.no
          all_goals exact Fr1.no
        · exact Fr1.no
      · exact Fr1.no
    · exact Fr1.some fun v => Fr1.ok _
    · exact Fr1.some fun v => Fr1.ok _
    · exact Fr1.no

end Go.Sy

namespace Go.Sy
open Go.Ev Go.RowKit

structure HasO (U : Nat) (ns : List Nat) (t : T AV) (rs : List AV) (e : En) : Prop where
  l : ∀ x, has x e.l = true → (opdF U ns (.tmp x)).run ⟨t, rs⟩ = look x e.l
  g : ∀ x, has x e.g = true → inU U x = true ∧ (opdF U ns (.tmp x)).run ⟨t, rs⟩ = look x e.g
  len : ns.length = rs.length

def HasT (U : Nat) (t : T AV) (L : Sl) : Prop := ∀ x, has x L = true → inU U x = true ∧ tget t x = look x L

section
variable {P : Program} {base : CallF} {U : Nat} {ns : List Nat} {t : T AV} {rs : List AV} {e : En} {st : St}

theorem opd_eq (U : Nat) (ns : List Nat) (t : T AV) (rs : List AV) (x : Nat) : (opdF U ns (.tmp x)).run ⟨t, rs⟩ = match idx x ns with
    | some i => rs.getD i .bad
    | none => cond (inU U x) (tget t x) .bad := by
  simp only [opdF, recF_eq]
  cases idx x ns with
  | some i => simp only [Option.map_some, lget_eq]
  | none =>
    simp only [Option.map_none]
    cases inU U x
    · rfl
    · simp only [cond_true, tget]
      cases (getF (bitsR x)).run t <;> rfl

theorem HasO.of_t {L : Sl} (h : HasT U t L) : HasO U [] t [] ⟨[], L⟩ := by
  refine ⟨(fun x hx => by cases hx), fun x hx => ?_, rfl⟩
  obtain ⟨h1, h2⟩ := h x hx
  refine ⟨h1, ?_⟩
  rw [opd_eq]
  simp only [idx, h1, cond_true, h2]

theorem HasO.val (h : HasO U ns t rs e) {a : A} (ha : okA e a = true) : A.val (opdF U ns) ⟨t, rs⟩ a = vl e a := by
  cases a with
  | c v => rfl
  | t x =>
    simp only [okA, En.has] at ha
    simp only [A.val, vl, En.look]
    cases hl : has x e.l
    · rw [hl] at ha
      exact (h.g x ha).2
    · exact h.l x hl

theorem fair (U : Nat) (ns : List Nat) (t : T AV) (rs : List AV) : Fair (opdF U ns) ⟨t, rs⟩ := ⟨fun _ => rfl, fun _ => rfl⟩

theorem opd_push (d : Nat) (v : AV) (x : Nat) : (opdF U (pushN (some d) ns) (.tmp x)).run ⟨t, (pushV (some d)).run v rs⟩ = if d = x then v else (opdF U ns (.tmp x)).run ⟨t, rs⟩ := by
  rw [opd_eq, opd_eq]
  simp only [pushN, pushV, idx]
  by_cases h : d = x
  · rw [if_pos h, if_pos h]; rfl
  · rw [if_neg h, if_neg h]
    cases idx x ns with
    | none => rfl
    | some i => simp

theorem has_cons (k : Nat) (v : AV) (L : Sl) (x : Nat) : has x ((k, v) :: L) = (decide (k = x) || has x L) := by
  simp only [has]
  by_cases h : k = x
  · have : Nat.beq k x = true := by rw [beqN]; exact h
    rw [this]; simp [h]
  · have : Nat.beq k x = false := by
      cases hb : Nat.beq k x
      · rfl
      · rw [beqN] at hb; exact absurd hb h
    rw [this]; simp [h]
theorem look_cons (k : Nat) (v : AV) (L : Sl) (x : Nat) : look x ((k, v) :: L) = if k = x then v else look x L := by
  simp only [look]
  by_cases h : k = x
  · have : Nat.beq k x = true := by rw [beqN]; exact h
    rw [this, if_pos h]; rfl
  · have : Nat.beq k x = false := by
      cases hb : Nat.beq k x
      · rfl
      · rw [beqN] at hb; exact absurd hb h
    rw [this, if_neg h]; rfl

theorem HasO.push (h : HasO U ns t rs e) (dst : Option Nat) (v : AV) :
    HasO U (pushN dst ns) t ((pushV dst).run v rs) (pushE dst (match dst with | some d => inU U d | none => false) v e) := by
  cases dst with
  | none => exact h
  | some d =>
    simp only [pushE]
    refine ⟨fun x hx => ?_, fun x hx => ?_, by simp [pushN, pushV, h.len]⟩
    · rw [opd_push, look_cons]
      rw [has_cons] at hx
      by_cases hd : d = x
      · rw [if_pos hd, if_pos hd]
      · rw [if_neg hd, if_neg hd]
        simp [hd] at hx
        exact h.l x hx
    · rw [opd_push]
      cases hk : inU U d
      · rw [hk] at hx
        simp only [cond_false] at hx ⊢
        obtain ⟨h1, h2⟩ := h.g x hx
        have : ¬ d = x := fun e => by rw [e, h1] at hk; cases hk
        rw [if_neg this]
        exact ⟨h1, h2⟩
      · rw [hk] at hx
        simp only [cond_true] at hx ⊢
        rw [look_cons]
        rw [has_cons] at hx
        by_cases hd : d = x
        · rw [if_pos hd, if_pos hd]
          exact ⟨by rw [← hd]; exact hk, rfl⟩
        · rw [if_neg hd, if_neg hd]
          simp [hd] at hx
          exact h.g x hx

theorem HasO.flush (h : HasO U ns t rs e) : HasT U ((flushF U ns).run rs t) e.g := by
  intro x hx
  obtain ⟨h1, h2⟩ := h.g x hx
  refine ⟨h1, ?_⟩
  rw [flush_get U ns rs t h.len x h1]
  rw [opd_eq, h1] at h2
  cases hi : idx x ns with
  | none => rw [hi] at h2; exact h2
  | some i => rw [hi] at h2; exact h2

/-! ### one operation -/
theorem wI_ok (h : HasO U ns t rs e) {o : Op} {i : Ins} (hl : lowOp P o = some i) {K : AV → St → Prop} (hw : wI P i e st K) :
    ∃ v st', (compOp P (opdF U ns) o).run ⟨t, rs⟩ st = .ok v st' ∧ st'.fr = st.fr ∧ K v st' := by
  obtain ⟨h1, h2⟩ := hw
  rw [lowOp_ok (fair U ns t rs) hl, execI_congr (ρ' := vl e) fun a ha => h.val (by rw [List.all_eq_true] at h1; exact h1 a ha)]
  unfold onER at h2
  cases hr : execI P (vl e) i st with
  | no => rw [hr] at h2; exact h2.elim
  | pn v s => rw [hr] at h2; exact h2.elim
  | ok v s => rw [hr] at h2; exact ⟨v, s, rfl, execI_fr P _ i st v s hr, h2⟩

theorem gW_ok (h : HasO U ns t rs e) {ops : Array Oper} {o : Oper} {g : Option (Nat × Bool)} (hl : lowG ops o = some g) {a b : Prop} (hw : gW g e a b) :
    (wantedF (opdF U ns) ops o = none ∧ a) ∨ ∃ wf, wantedF (opdF U ns) ops o = some wf ∧ ((wf.run ⟨t, rs⟩ = some true ∧ a) ∨ (wf.run ⟨t, rs⟩ = some false ∧ b)) := by
  unfold lowG at hl
  unfold wantedF
  cases hg : o.guard with
  | none =>
    rw [hg] at hl
    cases hl
    exact .inl ⟨rfl, hw⟩
  | some jw =>
    obtain ⟨j, want⟩ := jw
    rw [hg] at hl
    obtain ⟨d, h1, rfl⟩ := Go.Sy.map_some hl
    right
    simp only [h1]
    obtain ⟨h2, h3⟩ := hw
    have hv := h.val (a := .t d) h2
    simp only [A.val, vl] at hv
    refine ⟨_, rfl, ?_⟩
    dsimp only
    rw [hv]
    cases hk : e.look d <;> rw [hk] at h3 <;> first | (exact h3.elim; done) | (exact .inr ⟨rfl, h3⟩; done) | skip
    rename_i q
    cases q <;> cases want <;> simp at h3 ⊢ <;> exact h3

theorem HasO.fn (h : HasO U ns t rs e) {f : Operand} {fa : A} {args : List Operand} {l : List A} (h1 : lowA f = some fa) (h2 : lowAs args = some l) (h3 : okA e fa = true) (h4 : l.all (okA e) = true) :
    (opdF U ns f).run ⟨t, rs⟩ = vl e fa ∧ args.map (fun x => (opdF U ns x).run ⟨t, rs⟩) = l.map (vl e) := by
  refine ⟨(lowA_ok (fair U ns t rs) h1).trans (h.val h3), (lowAs_ok (fair U ns t rs) h2).trans (List.map_congr_left fun a ha => h.val ?_)⟩
  rw [List.all_eq_true] at h4
  exact h4 a ha

/-- what one step comes to -/
theorem wK_ok (h : HasO U ns t rs e) {o : Op} {k : IC} (hl : lowK P o = some k) {K : AV → St → Prop} (hw : wK P base k e st K) :
    (∃ v st', callOf o = none ∧ (compOp P (opdF U ns) o).run ⟨t, rs⟩ st = .ok v st' ∧ st'.fr = st.fr ∧ K v st') ∨
    (∃ f args fid caps v st1 N D, callOf o = some (f, args) ∧ (opdF U ns f).run ⟨t, rs⟩ = .fn fid caps ∧
      (∀ n, N ≤ n → ∀ d, D ≤ d → evC P base n d fid (lapp (lmap (fun x => (opdF U ns x).run ⟨t, rs⟩) args) caps) st = .ok v st1) ∧ K v (back st st1)) := by
  unfold lowK at hl
  cases hc : callOf o with
  | none =>
    rw [hc] at hl
    obtain ⟨i, h1, rfl⟩ := Go.Sy.map_some hl
    obtain ⟨v, st', h2, h3, h4⟩ := wI_ok h h1 hw
    exact .inl ⟨v, st', rfl, h2, h3, h4⟩
  | some p =>
    obtain ⟨f, args⟩ := p
    rw [hc] at hl
    obtain ⟨fa, h1, hl⟩ := bind_some hl
    obtain ⟨l, h2, rfl⟩ := Go.Sy.map_some hl
    obtain ⟨h3, h4, h5⟩ := hw
    obtain ⟨h6, h7⟩ := h.fn h1 h2 h3 h4
    right
    cases hv : vl e fa <;> rw [hv] at h5 <;> try (exact h5.elim)
    rename_i fid caps
    obtain ⟨v, st1, ⟨N, D, h8⟩, h9⟩ := h5
    refine ⟨f, args, fid, caps, v, st1, N, D, rfl, h6.trans hv, fun n hn d hd => ?_, h9⟩
    rw [lapp_eq, lmap_eq, h7]
    exact h8 n hn d hd

theorem guardF_none {dst : Option Tmp} {a b : RF} : guardF none dst a b = a := rfl

theorem wO_ok {ops : Array Oper} : ∀ (lo : List Oper) (l : List Stp) (ns : List Nat) (rs : List AV) (e : En) (st : St) (K : En → St → Prop), lowOps P U ops lo = some l → HasO U ns t rs e → wO P base l e st K →
    ∃ t' st' N D, (∀ n, N ≤ n → ∀ d, D ≤ d → (compOps P U ops lo ns).run (evC P base n d) n t rs st = .go t' st') ∧ st'.fr = st.fr ∧ ∃ e', HasT U t' e'.g ∧ K e' st'
  | [], l, ns, rs, e, st, K, hl, h, hw => by
    cases hl
    exact ⟨_, st, 0, 0, fun _ _ _ _ => rfl, rfl, e, h.flush, hw⟩
  | o :: lo, l, ns, rs, e, st, K, hl, h, hw => by
    obtain ⟨s, h1, hl⟩ := bind_some hl
    obtain ⟨l', h2, rfl⟩ := Go.Sy.map_some hl
    obtain ⟨k, h3, h1⟩ := bind_some h1
    obtain ⟨g, h4, rfl⟩ := Go.Sy.map_some h1
    have step : wK P base k e st (fun v st' => wO P base l' (pushE o.dst (match o.dst with | some d => inU U d | none => false) v e) st' K) →
        ∃ t' st' N D, (∀ n, N ≤ n → ∀ d, D ≤ d → (stepF P (opdF U ns) (flushF U ns) o (compOps P U ops lo (pushN o.dst ns))).run (evC P base n d) n t rs st = .go t' st') ∧ st'.fr = st.fr ∧ ∃ e', HasT U t' e'.g ∧ K e' st' := by
      intro hk
      rcases wK_ok h h3 hk with ⟨v, st1, k1, k2, k3, k4⟩ | ⟨f, args, fid, caps, v, st1, N1, D1, k1, k2, k3, k4⟩
      · obtain ⟨t', st', N, D, m1, m2, m3⟩ := wO_ok lo l' _ _ _ _ K h2 (h.push o.dst v) k4
        refine ⟨t', st', N, D, fun n hn d hd => ?_, m2.trans k3, m3⟩
        unfold stepF
        rw [k1]
        dsimp only
        rw [k2]
        exact m1 n hn d hd
      · obtain ⟨t', st', N, D, m1, m2, m3⟩ := wO_ok lo l' _ _ _ _ K h2 (h.push o.dst v) k4
        refine ⟨t', st', max N1 N, max D1 D, fun n hn d hd => ?_, m2, m3⟩
        unfold stepF
        rw [k1]
        dsimp only
        rw [k2]
        dsimp only
        rw [k3 n (Nat.le_trans (Nat.le_max_left _ _) hn) d (Nat.le_trans (Nat.le_max_left _ _) hd)]
        exact m1 n (Nat.le_trans (Nat.le_max_right _ _) hn) d (Nat.le_trans (Nat.le_max_right _ _) hd)
    rw [compOps_cons]
    rcases gW_ok h h4 hw with ⟨q1, q2⟩ | ⟨wf, q1, ⟨q2, q3⟩ | ⟨q2, q3⟩⟩
    · rw [q1]
      exact step q2
    · rw [q1]
      obtain ⟨t', st', N, D, m1, m2, m3⟩ := step q3
      refine ⟨t', st', N, D, fun n hn d hd => ?_, m2, m3⟩
      simp only [guardF]
      rw [q2]
      exact m1 n hn d hd
    · rw [q1]
      obtain ⟨t', st', N, D, m1, m2, m3⟩ := wO_ok lo l' _ _ _ _ K h2 (h.push o.dst undefA) q3
      refine ⟨t', st', N, D, fun n hn d hd => ?_, m2, m3⟩
      simp only [guardF]
      rw [q2]
      exact m1 n hn d hd

/-! ### drawn regions -/
theorem seqD_cons {ops : Array Oper} {fin : List Nat → RD} {pan : Nat → List Nat → List Nat → AV → St → RD} {abs : Nat → Bool} (i : Nat) (l es ns : List Nat) {o : Oper} (ho : ops[i]? = some o) :
    seqD P U ops fin pan abs (i :: l) es ns = cond (abs i) (skipD o.dst (seqD P U ops fin pan abs l (i :: es) (pushN o.dst ns)))
      (guardD (wantedF (opdF U ns) ops o) o.dst (stepD P (opdF U ns) (watch P ops i o) (Ev.partners P ops es i o) o (seqD P U ops fin pan abs l (i :: es) (pushN o.dst ns)) (pan i es ns))
        (seqD P U ops fin pan abs l (i :: es) (pushN o.dst ns))) := by
  have : seqD P U ops fin pan abs (i :: l) es ns = (match ops[i]? with
    | some o => cond (abs i) (skipD o.dst (seqD P U ops fin pan abs l (i :: es) (pushN o.dst ns)))
      (guardD (wantedF (opdF U ns) ops o) o.dst (stepD P (opdF U ns) (watch P ops i o) (Ev.partners P ops es i o) o (seqD P U ops fin pan abs l (i :: es) (pushN o.dst ns)) (pan i es ns))
        (seqD P U ops fin pan abs l (i :: es) (pushN o.dst ns)))
    | none => NORD) := rfl
  rw [this, ho]

theorem opD_run {op : Operand → OF} {o : Op} {env : Env} {v : AV} {st' : St} {call : CallF} {k : AV → TE → St → R} {kp : AV → St → R} (hc : callOf o = none) (he : (compOp P op o).run env st = .ok v st') (hr : clOf P o = .reads → ∃ ty a, o = .load ty a) :
    (opD P op false o).run call env st k kp = k v (teOf P op o env v st st') st' := by
  unfold opD teOf
  rw [hc]
  dsimp only
  cases hcl : clOf P o
  case reads =>
    obtain ⟨ty, a, rfl⟩ := hr hcl
    simp only [plainD]
    rw [he]
  all_goals
    simp only [plainD, cond_false]
    rw [he]

theorem reads_load {o : Op} (h : clOf P o = .reads) : ∃ ty a, o = .load ty a := by
  cases o <;> simp only [clOf] at h <;> try (cases h; done)
  case load ty a => exact ⟨ty, a, rfl⟩
  case call c =>
    exfalso
    split at h
    · split at h
      · split at h <;> cases h
      · cases h
    all_goals cases h

theorem opD_call {op : Operand → OF} {o : Op} {env : Env} {v : AV} {st1 : St} {call : CallF} {k : AV → TE → St → R} {kp : AV → St → R} {f : Operand} {args : List Operand} {fid : FuncId} {caps : List AV} (hc : callOf o = some (f, args))
    (hf : (op f).run env = .fn fid caps) (he : call fid (lapp (lmap (fun x => (op x).run env) args) caps) st = .ok v st1) :
    (opD P op false o).run call env st k kp = k v (.wr st.h (back st st1).h) (back st st1) := by
  unfold opD
  rw [hc]
  simp only [cond_false]
  rw [hf]
  dsimp only
  rw [he]
  rfl

/-- one step in a drawn region -/
theorem stepD_ok (h : HasO U ns t rs e) {o : Oper} {k : IC} (hl : lowK P o.op = some k) {next : RD} {pan : AV → St → RD} {prt : List (Nat × TypeId)} {tb : List TE} {K : AV → St → Prop}
    (hk : wK P base k e st K) {R' : R → Prop}
    (hn : ∀ v st', K v st' → st'.fr = st.fr → held P (loadT o.op) (teOf P (opdF U ns) o.op ⟨t, rs⟩ v st st') tb prt = true ∧
      ∃ r N D, R' r ∧ ∀ n, N ≤ n → ∀ d, D ≤ d → next.run (evC P base n d) n t ((pushV o.dst).run v rs) (List.cons (teOf P (opdF U ns) o.op ⟨t, rs⟩ v st st') tb) st' = r) :
    ∃ r N D, R' r ∧ ∀ n, N ≤ n → ∀ d, D ≤ d → (stepD P (opdF U ns) false prt o next pan).run (evC P base n d) n t rs tb st = r := by
  rcases wK_ok h hl hk with ⟨v, st1, k1, k2, k3, k4⟩ | ⟨f, args, fid, caps, v, st1, N1, D1, k1, k2, k3, k4⟩
  · obtain ⟨h1, r, N, D, h2, h3⟩ := hn v st1 k4 k3
    refine ⟨r, N, D, h2, fun n hn' d hd => ?_⟩
    unfold stepD
    dsimp only
    rw [opD_run k1 k2 reads_load, h1]
    exact h3 n hn' d hd
  · obtain ⟨h1, r, N, D, h2, h3⟩ := hn v (back st st1) k4 rfl
    refine ⟨r, max N1 N, max D1 D, h2, fun n hn' d hd => ?_⟩
    have hte : teOf P (opdF U ns) o.op ⟨t, rs⟩ v st (back st st1) = .wr st.h (back st st1).h := by
      unfold teOf
      rw [callOf_other (P := P) k1]
    unfold stepD
    dsimp only
    rw [opD_call k1 k2 (k3 n (Nat.le_trans (Nat.le_max_left _ _) hn') d (Nat.le_trans (Nat.le_max_left _ _) hd))]
    rw [hte] at h1 h3
    rw [h1]
    exact h3 n (Nat.le_trans (Nat.le_max_right _ _) hn') d (Nat.le_trans (Nat.le_max_right _ _) hd)

theorem drop_cons {ops : Array Oper} {i : Nat} {o : Oper} {lo : List Oper} (h : ops.toList.drop i = o :: lo) : ops[i]? = some o ∧ ops.toList.drop (i + 1) = lo ∧ i < ops.size := by
  have h1 : ops.toList[i]? = some o := by
    have := congrArg (fun l => l[0]?) h
    simpa using this
  have h2 : ops[i]? = some o := by rw [← Array.getElem?_toList]; exact h1
  refine ⟨h2, ?_, (Array.getElem?_eq_some_iff.1 h2).1⟩
  have := congrArg List.tail h
  simpa [List.tail_drop] using this

theorem wD_ok {ops : Array Oper} {pan : Nat → List Nat → List Nat → AV → St → RD} : ∀ (lo : List Oper) (i : Nat) (l : List DStp) (ns : List Nat) (rs : List AV) (tb : List TE) (e : En) (st : St) (K : En → St → Prop), ops.toList.drop i = lo → lowD P U ops i lo = some l → HasO U ns t rs e → wD P base l e tb st K →
    ∃ r N D, (∃ t' st', r = .go t' st' ∧ st'.fr = st.fr ∧ ∃ e', HasT U t' e'.g ∧ K e' st') ∧ ∀ n, N ≤ n → ∀ d, D ≤ d → (seqD P U ops (finD U) pan (fun _ => false) (List.range' i (ops.size - i)) (esAt i) ns).run (evC P base n d) n t rs tb st = r
  | [], i, l, ns, rs, tb, e, st, K, hdr, hl, h, hw => by
    cases hl
    have : ops.size - i = 0 := by
      have := congrArg List.length hdr
      simpa using this
    rw [this]
    exact ⟨_, 0, 0, ⟨_, st, rfl, rfl, e, h.flush, hw⟩, fun _ _ _ _ => rfl⟩
  | o :: lo, i, l, ns, rs, tb, e, st, K, hdr, hl, h, hw => by
    obtain ⟨ho, hdr', hlt⟩ := drop_cons hdr
    unfold lowD at hl
    cases hwt : watch P ops i o
    case true => rw [hwt] at hl; cases hl
    rw [hwt] at hl
    simp only [cond_false] at hl
    obtain ⟨s, h1, hl⟩ := bind_some hl
    obtain ⟨te, h5, hl⟩ := bind_some hl
    obtain ⟨l', h2, rfl⟩ := Go.Sy.map_some hl
    obtain ⟨k, h3, h1⟩ := bind_some h1
    obtain ⟨g, h4, rfl⟩ := Go.Sy.map_some h1
    have hte : ∀ v st', (∀ a, te = some (some a) → okA e a = true) → teOf P (opdF U ns) o.op ⟨t, rs⟩ v st st' = teW te e v st st' := by
      intro v st' hok
      unfold lowT at h5
      unfold teOf
      cases hcl : clOf P o.op <;> rw [hcl] at h5 <;> try (cases h5; rfl)
      obtain ⟨ty, a, hop⟩ := reads_load hcl
      rw [hop] at h5 ⊢
      obtain ⟨a', h6, rfl⟩ := Go.Sy.map_some h5
      simp only [teW]
      rw [lowA_ok (fair U ns t rs) h6, h.val (hok a' rfl)]
    have hokr : wK P base k e st (fun v st' => held P (loadT o.op) (teW te e v st st') tb (Ev.partners P ops (esAt i) i o) = true ∧ wD P base l' (pushE o.dst (match o.dst with | some d => inU U d | none => false) v e) (teW te e v st st' :: tb) st' K) → ∀ a, te = some (some a) → okA e a = true := by
      intro hk a ha
      unfold lowT at h5
      cases hcl : clOf P o.op <;> rw [hcl] at h5 <;> try (cases h5; cases ha; done)
      obtain ⟨ty, ad, hop⟩ := reads_load hcl
      rw [hop] at h5 h3
      obtain ⟨a', h6, rfl⟩ := Go.Sy.map_some h5
      cases ha
      have : callOf (Op.load ty ad) = none := rfl
      unfold lowK at h3
      rw [this] at h3
      obtain ⟨ins, h7, rfl⟩ := Go.Sy.map_some h3
      simp only [lowOp] at h7
      obtain ⟨a2, h8, h9⟩ := bind_some h7
      rw [h6] at h8
      cases h8
      have hcov := hk.1
      split at h9
      · cases h9; simpa [insA] using hcov
      · cases h9; simpa [insA] using hcov
      · cases h9
    have hr : List.range' i (ops.size - i) = i :: List.range' (i + 1) (ops.size - (i + 1)) := by
      have : ops.size - i = (ops.size - (i + 1)) + 1 := by omega
      rw [this, List.range'_succ]
    have step : wK P base k e st (fun v st' => held P (loadT o.op) (teW te e v st st') tb (Ev.partners P ops (esAt i) i o) = true ∧ wD P base l' (pushE o.dst (match o.dst with | some d => inU U d | none => false) v e) (teW te e v st st' :: tb) st' K) →
        ∃ r N D, (∃ t' st', r = .go t' st' ∧ st'.fr = st.fr ∧ ∃ e', HasT U t' e'.g ∧ K e' st') ∧ ∀ n, N ≤ n → ∀ d, D ≤ d →
          (stepD P (opdF U ns) false (Ev.partners P ops (esAt i) i o) o (seqD P U ops (finD U) pan (fun _ => false) (List.range' (i + 1) (ops.size - (i + 1))) (esAt (i + 1)) (pushN o.dst ns)) (pan i (esAt i) ns)).run (evC P base n d) n t rs tb st = r := by
      intro hk
      have hok := hokr hk
      refine stepD_ok h h3 hk fun v st' hK hfr => ?_
      rw [hte v st' hok]
      refine ⟨hK.1, ?_⟩
      obtain ⟨r, N, D, ⟨t', s', m1, m2, m3⟩, m4⟩ := wD_ok lo (i + 1) l' _ _ _ _ _ K hdr' h2 (h.push o.dst v) hK.2
      exact ⟨r, N, D, ⟨t', s', m1, m2.trans hfr, m3⟩, m4⟩
    rw [hr, seqD_cons i _ _ _ ho, hwt]
    simp only [cond_false]
    rcases gW_ok h h4 hw with ⟨q1, q2⟩ | ⟨wf, q1, ⟨q2, q3⟩ | ⟨q2, q3⟩⟩
    · rw [q1]
      exact step q2
    · rw [q1]
      obtain ⟨r, N, D, m1, m2⟩ := step q3
      refine ⟨r, N, D, m1, fun n hn d hd => ?_⟩
      simp only [guardD]
      rw [q2]
      exact m2 n hn d hd
    · rw [q1]
      obtain ⟨r, N, D, m1, m2⟩ := wD_ok (pan := pan) lo (i + 1) l' _ _ _ _ _ K hdr' h2 (h.push o.dst undefA) q3
      refine ⟨r, N, D, m1, fun n hn d hd => ?_⟩
      simp only [guardD]
      rw [q2]
      exact m2 n hn d hd

/-- a drawn region in which nothing has to be held together -/
theorem wOd_ok {ops : Array Oper} {pan : Nat → List Nat → List Nat → AV → St → RD} : ∀ (lo : List Oper) (i : Nat) (l : List Stp) (ns : List Nat) (rs : List AV) (tb : List TE) (e : En) (st : St) (K : En → St → Prop), ops.toList.drop i = lo → calm P ops i lo = true → lowOps P U ops lo = some l → HasO U ns t rs e → wO P base l e st K →
    ∃ r N D, (∃ t' st', r = .go t' st' ∧ st'.fr = st.fr ∧ ∃ e', HasT U t' e'.g ∧ K e' st') ∧ ∀ n, N ≤ n → ∀ d, D ≤ d → (seqD P U ops (finD U) pan (fun _ => false) (List.range' i (ops.size - i)) (esAt i) ns).run (evC P base n d) n t rs tb st = r
  | [], i, l, ns, rs, tb, e, st, K, hdr, hcalm, hl, h, hw => by
    cases hl
    have : ops.size - i = 0 := by
      have := congrArg List.length hdr
      simpa using this
    rw [this]
    exact ⟨_, 0, 0, ⟨_, st, rfl, rfl, e, h.flush, hw⟩, fun _ _ _ _ => rfl⟩
  | o :: lo, i, l, ns, rs, tb, e, st, K, hdr, hcalm, hl, h, hw => by
    obtain ⟨ho, hdr', hlt⟩ := drop_cons hdr
    unfold calm at hcalm
    cases hwt : watch P ops i o
    case true => rw [hwt] at hcalm; cases hcalm
    rw [hwt] at hcalm
    simp only [cond_false] at hcalm
    obtain ⟨hpe, hcalm⟩ := cond_and hcalm
    have hpe' : Ev.partners P ops (esAt i) i o = [] := by simpa using hpe
    obtain ⟨s, h1, hl⟩ := bind_some hl
    obtain ⟨l', h2, rfl⟩ := Go.Sy.map_some hl
    obtain ⟨k, h3, h1⟩ := bind_some h1
    obtain ⟨g, h4, rfl⟩ := Go.Sy.map_some h1
    have hr : List.range' i (ops.size - i) = i :: List.range' (i + 1) (ops.size - (i + 1)) := by
      have : ops.size - i = (ops.size - (i + 1)) + 1 := by omega
      rw [this, List.range'_succ]
    have step : wK P base k e st (fun v st' => wO P base l' (pushE o.dst (match o.dst with | some d => inU U d | none => false) v e) st' K) →
        ∃ r N D, (∃ t' st', r = .go t' st' ∧ st'.fr = st.fr ∧ ∃ e', HasT U t' e'.g ∧ K e' st') ∧ ∀ n, N ≤ n → ∀ d, D ≤ d →
          (stepD P (opdF U ns) false (Ev.partners P ops (esAt i) i o) o (seqD P U ops (finD U) pan (fun _ => false) (List.range' (i + 1) (ops.size - (i + 1))) (esAt (i + 1)) (pushN o.dst ns)) (pan i (esAt i) ns)).run (evC P base n d) n t rs tb st = r := by
      intro hk
      refine stepD_ok h h3 hk fun v st' hK hfr => ?_
      rw [hpe']
      refine ⟨rfl, ?_⟩
      obtain ⟨r, N, D, ⟨t', s', m1, m2, m3⟩, m4⟩ := wOd_ok lo (i + 1) l' _ _ _ _ _ K hdr' hcalm h2 (h.push o.dst v) hK
      exact ⟨r, N, D, ⟨t', s', m1, m2.trans hfr, m3⟩, m4⟩
    rw [hr, seqD_cons i _ _ _ ho, hwt]
    simp only [cond_false]
    rcases gW_ok h h4 hw with ⟨q1, q2⟩ | ⟨wf, q1, ⟨q2, q3⟩ | ⟨q2, q3⟩⟩
    · rw [q1]
      exact step q2
    · rw [q1]
      obtain ⟨r, N, D, m1, m2⟩ := step q3
      refine ⟨r, N, D, m1, fun n hn d hd => ?_⟩
      simp only [guardD]
      rw [q2]
      exact m2 n hn d hd
    · rw [q1]
      obtain ⟨r, N, D, m1, m2⟩ := wOd_ok (pan := pan) lo (i + 1) l' _ _ _ _ _ K hdr' hcalm h2 (h.push o.dst undefA) q3
      refine ⟨r, N, D, m1, fun n hn d hd => ?_⟩
      simp only [guardD]
      rw [q2]
      exact m2 n hn d hd

end
end Go.Sy
