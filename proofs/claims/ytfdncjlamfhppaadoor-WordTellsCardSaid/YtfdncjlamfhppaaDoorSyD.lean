/-
  Contracts: the code lowered, what it does told by rules, and the contracts of the functions that the law reaches.
-/
import Derived.Test.YtfdncjlamfhppaaDoorSyC
set_option linter.unusedVariables false
set_option linter.unusedSimpArgs false
section
set_option maxRecDepth 100000
namespace Go.Sy
open Go.Ev Go.Proofs
variable {base : CallF}

def keptL : List (List Nat) := [[101, 110, 117, 109], [118, 97, 114], [98, 111, 111, 108], [112, 114, 111, 99, 101, 115, 115], [119, 104, 101, 110], [100, 111], [116, 114, 117, 101], [102, 97, 108, 115, 101], [88], [70], [71], [85], [82], [89], [90], [79], [72], [83], [84]]
def kept (l : List Nat) : Bool := decide (l ∈ keptL)

theorem Kept_ok (hb : ∀ args st, base 12 args st = .no) (l : List Nat) (st : St) (K : AV → St → Prop) (hK : K (.bool (kept l)) st.bare) : CW Tryd.prog base 12 [.str l] st K := by
  unfold kept at hK
  refine fn_rule l12 (hb _ _) ?_
  simp only [c12, entry, List.map_cons, List.map_nil, List.getD_cons_zero, List.getD_cons_succ]
  unfold b12
  by_cases h : l ∈ keptL
  · rw [decide_eq_true h] at hK
    simp only [keptL, List.mem_cons, List.not_mem_nil, or_false] at h
    rcases h with h | h | h | h | h | h | h | h | h | h | h | h | h | h | h | h | h | h | h
    all_goals
      rw [h]
      simp (disch := first | assumption | decide | omega) only [r_skip, r_ops, r_seq, r_block, r_exit, r_ret, r_condo, r_seqgo, r_seqex, r_seqrt, r_blockgo, r_blockrt, r_blockex, r_blockne, r_condt, r_condf, r_nil, r_cons0, r_cons1, r_gtt, r_gtf, r_gft, r_gff, r_gu, r_onc, r_onl, r_onls, r_ong, r_ongs, r_push0, r_push1, r_push2, r_as0, r_as1, r_call0, r_call, r_endrt, r_endgo, r_res0, r_res1, r_one1, r_one2, r_one3, i_mv, i_pick, i_box, i_ld1, i_ldA, i_st, i_nilc, i_bin, i_shf, i_strb, i_gen, i_un, i_cvt, i_fad, i_fld1, i_fldA, i_idxA, i_idxS, i_ixA1, i_ixStr, i_ext, i_len, i_lenS, i_slStr1, i_slStr2, i_slStr3, i_call, v_ok, v_pickt, v_pickf, v_not, v_lss_t, v_lss_f, v_gtr_t, v_gtr_f, v_leq_t, v_leq_f, v_geq_t, v_geq_f, v_eql_t, v_eql_f, v_neq_t, v_neq_f, v_streq_t, v_streq_f, v_lenS, v_len, v_len0, v_ixStr, v_ixStr0, v_idxS, v_ld1, bare_bare, back_self, back_bare, Bool.not_true, Bool.not_false, List.cons_append, List.nil_append, List.append_nil]
      exact hK
  · rw [decide_eq_false h] at hK
    simp only [keptL, List.mem_cons, List.not_mem_nil, or_false, not_or] at h
    obtain ⟨h1, h2, h3, h4, h5, h6, h7, h8, h9, h10, h11, h12, h13, h14, h15, h16, h17, h18, h19⟩ := h
    simp (disch := first | assumption | decide | omega) only [r_skip, r_ops, r_seq, r_block, r_exit, r_ret, r_condo, r_seqgo, r_seqex, r_seqrt, r_blockgo, r_blockrt, r_blockex, r_blockne, r_condt, r_condf, r_nil, r_cons0, r_cons1, r_gtt, r_gtf, r_gft, r_gff, r_gu, r_onc, r_onl, r_onls, r_ong, r_ongs, r_push0, r_push1, r_push2, r_as0, r_as1, r_call0, r_call, r_endrt, r_endgo, r_res0, r_res1, r_one1, r_one2, r_one3, i_mv, i_pick, i_box, i_ld1, i_ldA, i_st, i_nilc, i_bin, i_shf, i_strb, i_gen, i_un, i_cvt, i_fad, i_fld1, i_fldA, i_idxA, i_idxS, i_ixA1, i_ixStr, i_ext, i_len, i_lenS, i_slStr1, i_slStr2, i_slStr3, i_call, v_ok, v_pickt, v_pickf, v_not, v_lss_t, v_lss_f, v_gtr_t, v_gtr_f, v_leq_t, v_leq_f, v_geq_t, v_geq_f, v_eql_t, v_eql_f, v_neq_t, v_neq_f, v_streq_t, v_streq_f, v_lenS, v_len, v_len0, v_ixStr, v_ixStr0, v_idxS, v_ld1, bare_bare, back_self, back_bare, Bool.not_true, Bool.not_false, List.cons_append, List.nil_append, List.append_nil]
    exact hK

theorem one_ok (hb : ∀ args st, base 22 args st = .no) (l : List Nat) (xs : List (List Nat)) (b o cap : Nat) (ex : Bool) (st : St) (hn : xs.length ≤ 9223372036854775807)
    (hlen : o + xs.length ≤ rlen st.h b) (hat : ∀ i, i < xs.length → rat st.h b (o + i) = .str (xs.getD i [])) (K : AV → St → Prop) (hK : K (.bool (decide (l ∈ xs))) st.bare) : CW Tryd.prog base 22 [.str l, .slice b o xs.length cap 1 ex] st K := by
  refine fn_rule l22 (hb _ _) ?_
  simp only [c22, entry, List.map_cons, List.map_nil, List.getD_cons_zero, List.getD_cons_succ]
  unfold b22
  simp (disch := first | assumption | decide | omega) only [r_skip, r_ops, r_seq, r_block, r_exit, r_ret, r_condo, r_seqgo, r_seqex, r_seqrt, r_blockgo, r_blockrt, r_blockex, r_blockne, r_condt, r_condf, r_nil, r_cons0, r_cons1, r_gtt, r_gtf, r_gft, r_gff, r_gu, r_onc, r_onl, r_onls, r_ong, r_ongs, r_push0, r_push1, r_push2, r_as0, r_as1, r_call0, r_call, r_endrt, r_endgo, r_res0, r_res1, r_one1, r_one2, r_one3, i_mv, i_pick, i_box, i_ld1, i_ldA, i_st, i_nilc, i_bin, i_shf, i_strb, i_gen, i_un, i_cvt, i_fad, i_fld1, i_fldA, i_idxA, i_idxS, i_ixA1, i_ixStr, i_ext, i_len, i_lenS, i_slStr1, i_slStr2, i_slStr3, i_call, v_ok, v_pickt, v_pickf, v_not, v_lss_t, v_lss_f, v_gtr_t, v_gtr_f, v_leq_t, v_leq_f, v_geq_t, v_geq_f, v_eql_t, v_eql_f, v_neq_t, v_neq_f, v_streq_t, v_streq_f, v_lenS, v_len, v_len0, v_ixStr, v_ixStr0, v_idxS, v_ld1, bare_bare, back_self, back_bare, Bool.not_true, Bool.not_false, List.cons_append, List.nil_append, List.append_nil]
  refine wC_loopH (fun m L s => ∃ k : Nat, k ≤ xs.length ∧ m = xs.length - k ∧ s = st.bare ∧ Has L 0 (.str l) ∧ Has L 7 (.slice b o xs.length cap 1 ex) ∧ Has L 8 (.int .i64 (xs.length : Int)) ∧ Has L 9 (.int .i64 (k : Int)) ∧ ∀ j, j < k → l ≠ xs.getD j []) ?_ xs.length ?_
  · rintro m L s ⟨k, hk, rfl, rfl, h0, h7, h8, h9, hp⟩
    unfold Hold
    by_cases hlt : k < xs.length
    · have e1 : rat st.bare.h b (o + k * 1) = .str (xs.getD k []) := by rw [Nat.mul_one]; exact hat k hlt
      have e2 : o + k * 1 < rlen st.bare.h b := by show _ < rlen st.h b; omega
      by_cases hq : l = xs.getD k []
      · have hq' : xs.getD k [] = l := hq.symm
        simp (disch := first | assumption | decide | omega) only [r_onh h0, r_onh h7, r_onh h8, r_onh h9, e1, r_skip, r_ops, r_seq, r_block, r_exit, r_ret, r_condo, r_seqgo, r_seqex, r_seqrt, r_blockgo, r_blockrt, r_blockex, r_blockne, r_condt, r_condf, r_nil, r_cons0, r_cons1, r_gtt, r_gtf, r_gft, r_gff, r_gu, r_onc, r_onl, r_onls, r_ong, r_ongs, r_push0, r_push1, r_push2, r_as0, r_as1, r_call0, r_call, r_endrt, r_endgo, r_res0, r_res1, r_one1, r_one2, r_one3, i_mv, i_pick, i_box, i_ld1, i_ldA, i_st, i_nilc, i_bin, i_shf, i_strb, i_gen, i_un, i_cvt, i_fad, i_fld1, i_fldA, i_idxA, i_idxS, i_ixA1, i_ixStr, i_ext, i_len, i_lenS, i_slStr1, i_slStr2, i_slStr3, i_call, v_ok, v_pickt, v_pickf, v_not, v_lss_t, v_lss_f, v_gtr_t, v_gtr_f, v_leq_t, v_leq_f, v_geq_t, v_geq_f, v_eql_t, v_eql_f, v_neq_t, v_neq_f, v_streq_t, v_streq_f, v_lenS, v_len, v_len0, v_ixStr, v_ixStr0, v_idxS, v_ld1, bare_bare, back_self, back_bare, Bool.not_true, Bool.not_false, List.cons_append, List.nil_append, List.append_nil]
        have hin : l ∈ xs := by rw [hq, List.getD_eq_getElem?_getD, List.getElem?_eq_getElem hlt]; exact List.getElem_mem hlt
        rw [decide_eq_true hin] at hK
        exact hK
      · have hq' : xs.getD k [] ≠ l := fun e => hq e.symm
        simp (disch := first | assumption | decide | omega) only [r_onh h0, r_onh h7, r_onh h8, r_onh h9, e1, v_addN, r_skip, r_ops, r_seq, r_block, r_exit, r_ret, r_condo, r_seqgo, r_seqex, r_seqrt, r_blockgo, r_blockrt, r_blockex, r_blockne, r_condt, r_condf, r_nil, r_cons0, r_cons1, r_gtt, r_gtf, r_gft, r_gff, r_gu, r_onc, r_onl, r_onls, r_ong, r_ongs, r_push0, r_push1, r_push2, r_as0, r_as1, r_call0, r_call, r_endrt, r_endgo, r_res0, r_res1, r_one1, r_one2, r_one3, i_mv, i_pick, i_box, i_ld1, i_ldA, i_st, i_nilc, i_bin, i_shf, i_strb, i_gen, i_un, i_cvt, i_fad, i_fld1, i_fldA, i_idxA, i_idxS, i_ixA1, i_ixStr, i_ext, i_len, i_lenS, i_slStr1, i_slStr2, i_slStr3, i_call, v_ok, v_pickt, v_pickf, v_not, v_lss_t, v_lss_f, v_gtr_t, v_gtr_f, v_leq_t, v_leq_f, v_geq_t, v_geq_f, v_eql_t, v_eql_f, v_neq_t, v_neq_f, v_streq_t, v_streq_f, v_lenS, v_len, v_len0, v_ixStr, v_ixStr0, v_idxS, v_ld1, bare_bare, back_self, back_bare, Bool.not_true, Bool.not_false, List.cons_append, List.nil_append, List.append_nil]
        refine ⟨xs.length - (k + 1), by omega, k + 1, by omega, rfl, ?_⟩
        simp (disch := decide) only [z0, h_here, h_skip, h0, h7, h8, true_and]
        intro j hj
        by_cases hjk : j = k
        · rw [hjk]; exact hq
        · exact hp j (by omega)
    · simp (disch := first | assumption | decide | omega) only [r_onh h0, r_onh h7, r_onh h8, r_onh h9, r_skip, r_ops, r_seq, r_block, r_exit, r_ret, r_condo, r_seqgo, r_seqex, r_seqrt, r_blockgo, r_blockrt, r_blockex, r_blockne, r_condt, r_condf, r_nil, r_cons0, r_cons1, r_gtt, r_gtf, r_gft, r_gff, r_gu, r_onc, r_onl, r_onls, r_ong, r_ongs, r_push0, r_push1, r_push2, r_as0, r_as1, r_call0, r_call, r_endrt, r_endgo, r_res0, r_res1, r_one1, r_one2, r_one3, i_mv, i_pick, i_box, i_ld1, i_ldA, i_st, i_nilc, i_bin, i_shf, i_strb, i_gen, i_un, i_cvt, i_fad, i_fld1, i_fldA, i_idxA, i_idxS, i_ixA1, i_ixStr, i_ext, i_len, i_lenS, i_slStr1, i_slStr2, i_slStr3, i_call, v_ok, v_pickt, v_pickf, v_not, v_lss_t, v_lss_f, v_gtr_t, v_gtr_f, v_leq_t, v_leq_f, v_geq_t, v_geq_f, v_eql_t, v_eql_f, v_neq_t, v_neq_f, v_streq_t, v_streq_f, v_lenS, v_len, v_len0, v_ixStr, v_ixStr0, v_idxS, v_ld1, bare_bare, back_self, back_bare, Bool.not_true, Bool.not_false, List.cons_append, List.nil_append, List.append_nil]
      have hnin : ¬ l ∈ xs := by
        intro hin
        obtain ⟨i, hi, he⟩ := List.mem_iff_getElem.1 hin
        exact hp i (by omega) (by rw [List.getD_eq_getElem?_getD, List.getElem?_eq_getElem hi]; exact he.symm)
      rw [decide_eq_false hnin] at hK
      exact hK
  · refine ⟨0, by omega, by omega, rfl, ?_⟩
    simp (disch := decide) only [z0, h_here, h_skip, true_and]
    exact fun j hj => by omega

theorem keptL_cells (i : Nat) (h : i < 19) : (keptL.map AV.str).getD i .bad = .str (keptL.getD i []) := by
  have h' : i < keptL.length := h
  simp [List.getD_eq_getElem?_getD, List.getElem?_map, List.getElem?_eq_getElem h']
def psK : List ((Nat × Nat) × AV) := [((0, 1), (.str [101, 110, 117, 109])), ((1, 1), (.str [118, 97, 114])), ((2, 1), (.str [98, 111, 111, 108])), ((3, 1), (.str [112, 114, 111, 99, 101, 115, 115])), ((4, 1), (.str [119, 104, 101, 110])), ((5, 1), (.str [100, 111])), ((6, 1), (.str [116, 114, 117, 101])), ((7, 1), (.str [102, 97, 108, 115, 101])), ((8, 1), (.str [88])), ((9, 1), (.str [70])), ((10, 1), (.str [71])), ((11, 1), (.str [85])), ((12, 1), (.str [82])), ((13, 1), (.str [89])), ((14, 1), (.str [90])), ((15, 1), (.str [79])), ((16, 1), (.str [72])), ((17, 1), (.str [83])), ((18, 1), (.str [84]))]
theorem fillK : fillP (repeatC [.str []] 19) psK = some (keptL.map .str) := by kernel_rfl
theorem cellK : lall AV.cell (keptL.map AV.str) = true := by kernel_rfl
theorem bK (e : En) (st : St) (K : AV → St → Prop) : wK Tryd.prog base (.i (.buildS 19 1 [(.str [])] [((0, 1), (.c (.str [101, 110, 117, 109]))), ((1, 1), (.c (.str [118, 97, 114]))), ((2, 1), (.c (.str [98, 111, 111, 108]))), ((3, 1), (.c (.str [112, 114, 111, 99, 101, 115, 115]))), ((4, 1), (.c (.str [119, 104, 101, 110]))), ((5, 1), (.c (.str [100, 111]))), ((6, 1), (.c (.str [116, 114, 117, 101]))), ((7, 1), (.c (.str [102, 97, 108, 115, 101]))), ((8, 1), (.c (.str [88]))), ((9, 1), (.c (.str [70]))), ((10, 1), (.c (.str [71]))), ((11, 1), (.c (.str [85]))), ((12, 1), (.c (.str [82]))), ((13, 1), (.c (.str [89]))), ((14, 1), (.c (.str [90]))), ((15, 1), (.c (.str [79]))), ((16, 1), (.c (.str [72]))), ((17, 1), (.c (.str [83]))), ((18, 1), (.c (.str [84])))])) e st K =
    K (.slice st.nx 0 19 19 1 true) ⟨st.nx + 1, (setF (bitsR st.nx)).run (.row 19 19 (keptL.map AV.str) .e) st.h, st.dirty, st.fr⟩ := by
  have h := i_buildSc (P := Tryd.prog) (base := base) (e := e) (st := st) (K := K) 19 1 [.str []] psK
  refine Eq.trans (show _ = wK Tryd.prog base (.i (.buildS 19 1 [.str []] (psK.map fun p => (p.1, .c p.2)))) e st K from rfl) (h.trans ?_)
  simp only [buildSV, fillK, onSome, cellK, cond_true, force_eq, llen_eq, St.alloc_eq, onER]
  rfl

theorem refKept_ok (hb : ∀ f args st, f = 13 ∨ f = 22 → base f args st = .no) (l : List Nat) (st : St) (K : AV → St → Prop) (hK : ∀ st', Ext st st' → K (.bool (kept l)) st') : CW Tryd.prog base 13 [.str l] st K := by
  refine fn_rule l13 (hb _ _ _ (by simp)) ?_
  simp only [c13, entry, List.map_cons, List.map_nil, List.getD_cons_zero, List.getD_cons_succ]
  unfold b13
  simp (disch := first | assumption | decide | omega) only [bK, r_skip, r_ops, r_seq, r_block, r_exit, r_ret, r_condo, r_seqgo, r_seqex, r_seqrt, r_blockgo, r_blockrt, r_blockex, r_blockne, r_condt, r_condf, r_nil, r_cons0, r_cons1, r_gtt, r_gtf, r_gft, r_gff, r_gu, r_onc, r_onl, r_onls, r_ong, r_ongs, r_push0, r_push1, r_push2, r_as0, r_as1, r_call0, r_call, r_endrt, r_endgo, r_res0, r_res1, r_one1, r_one2, r_one3, i_mv, i_pick, i_box, i_ld1, i_ldA, i_st, i_nilc, i_bin, i_shf, i_strb, i_gen, i_un, i_cvt, i_fad, i_fld1, i_fldA, i_idxA, i_idxS, i_ixA1, i_ixStr, i_ext, i_len, i_lenS, i_slStr1, i_slStr2, i_slStr3, i_call, v_ok, v_pickt, v_pickf, v_not, v_lss_t, v_lss_f, v_gtr_t, v_gtr_f, v_leq_t, v_leq_f, v_geq_t, v_geq_f, v_eql_t, v_eql_f, v_neq_t, v_neq_f, v_streq_t, v_streq_f, v_lenS, v_len, v_len0, v_ixStr, v_ixStr0, v_idxS, v_ld1, bare_bare, back_self, back_bare, Bool.not_true, Bool.not_false, List.cons_append, List.nil_append, List.append_nil]
  refine one_ok (fun a s => hb _ a s (by simp)) l keptL _ 0 19 true _ (by decide) ?_ ?_ _ ?_
  · rw [rlen_row, if_pos rfl]
    decide
  · intro i hi
    have hi' : i < 19 := hi
    rw [rat_row, if_pos rfl, rowCell_eq, get_e]
    show (keptL.map AV.str).getD ((0 + i) % 19) .bad = _
    rw [Nat.zero_add, Nat.mod_eq_of_lt hi']
    exact keptL_cells i hi'
  · simp (disch := first | assumption | decide | omega) only [r_skip, r_ops, r_seq, r_block, r_exit, r_ret, r_condo, r_seqgo, r_seqex, r_seqrt, r_blockgo, r_blockrt, r_blockex, r_blockne, r_condt, r_condf, r_nil, r_cons0, r_cons1, r_gtt, r_gtf, r_gft, r_gff, r_gu, r_onc, r_onl, r_onls, r_ong, r_ongs, r_push0, r_push1, r_push2, r_as0, r_as1, r_call0, r_call, r_endrt, r_endgo, r_res0, r_res1, r_one1, r_one2, r_one3, i_mv, i_pick, i_box, i_ld1, i_ldA, i_st, i_nilc, i_bin, i_shf, i_strb, i_gen, i_un, i_cvt, i_fad, i_fld1, i_fldA, i_idxA, i_idxS, i_ixA1, i_ixStr, i_ext, i_len, i_lenS, i_slStr1, i_slStr2, i_slStr3, i_call, v_ok, v_pickt, v_pickf, v_not, v_lss_t, v_lss_f, v_gtr_t, v_gtr_f, v_leq_t, v_leq_f, v_geq_t, v_geq_f, v_eql_t, v_eql_f, v_neq_t, v_neq_f, v_streq_t, v_streq_f, v_lenS, v_len, v_len0, v_ixStr, v_ixStr0, v_idxS, v_ld1, bare_bare, back_self, back_bare, Bool.not_true, Bool.not_false, List.cons_append, List.nil_append, List.append_nil]
    refine hK _ ⟨Nat.le_succ _, rfl, fun c hc => ?_⟩
    show hget ((setF (bitsR st.nx)).run _ st.h) c = _
    rw [hget_set, if_neg (by omega)]
end Go.Sy
end

section
set_option maxRecDepth 100000
namespace Go.Sy
open Go.Ev Go.Proofs
variable {base : CallF}

def okAt (l : List Nat) (j : Nat) : Bool := isLetter (l.getD j 0) || (decide (j ≠ 0) && (isDigit (l.getD j 0) || decide (l.getD j 0 = 95)))
def NameP (l : List Nat) : Prop := 0 < l.length ∧ l.length ≤ 32 ∧ kept l = false ∧ ∀ j, j < l.length → okAt l j = true
open Classical in
noncomputable def nm (l : List Nat) : Bool := decide (NameP l)
theorem nm_t {l : List Nat} (h : NameP l) : nm l = true := by simp [nm, h]
theorem nm_f {l : List Nat} (h : ¬ NameP l) : nm l = false := by simp [nm, h]

theorem lead_all {l : List Nat} {p : Nat → Bool} (h : lead p l = l.length) : ∀ j, j < l.length → p (l.getD j 0) = true := by
  induction l with
  | nil => intro j hj; simp at hj
  | cons c l ih =>
    intro j hj
    simp only [lead, List.length_cons] at h
    by_cases hc : p c = true
    · rw [if_pos hc] at h
      cases j with
      | zero => simpa using hc
      | succ j => simpa using ih (by omega) j (by simpa using hj)
    · rw [if_neg hc] at h; omega
theorem all_lead {l : List Nat} {p : Nat → Bool} (h : ∀ j, j < l.length → p (l.getD j 0) = true) : lead p l = l.length := lead_at (Nat.le_refl _) h (.inl rfl)

theorem Name_ok (hb : ∀ f args st, f ∈ [12, 14, 23, 24, 25, 30] → base f args st = .no) (l : List Nat) (hl : l.length ≤ 9223372036854775807) (h256 : ∀ c ∈ l, c < 256) (st : St) (K : AV → St → Prop) (hK : K (.bool (nm l)) st.bare) : CW Tryd.prog base 14 [.str l] st K := by
  refine fn_rule l14 (hb _ _ _ (by simp)) ?_
  simp only [c14, entry, List.map_cons, List.map_nil, List.getD_cons_zero, List.getD_cons_succ]
  unfold b14
  by_cases h0 : l = []
  · rw [nm_f (by rintro ⟨h, _⟩; simp [h0] at h)] at hK
    simp (disch := first | assumption | decide | omega) only [r_skip, r_ops, r_seq, r_block, r_exit, r_ret, r_condo, r_seqgo, r_seqex, r_seqrt, r_blockgo, r_blockrt, r_blockex, r_blockne, r_condt, r_condf, r_nil, r_cons0, r_cons1, r_gtt, r_gtf, r_gft, r_gff, r_gu, r_onc, r_onl, r_onls, r_ong, r_ongs, r_push0, r_push1, r_push2, r_as0, r_as1, r_call0, r_call, r_endrt, r_endgo, r_res0, r_res1, r_one1, r_one2, r_one3, i_mv, i_pick, i_box, i_ld1, i_ldA, i_st, i_nilc, i_bin, i_shf, i_strb, i_gen, i_un, i_cvt, i_fad, i_fld1, i_fldA, i_idxA, i_idxS, i_ixA1, i_ixStr, i_ext, i_len, i_lenS, i_slStr1, i_slStr2, i_slStr3, i_call, v_ok, v_pickt, v_pickf, v_not, v_lss_t, v_lss_f, v_gtr_t, v_gtr_f, v_leq_t, v_leq_f, v_geq_t, v_geq_f, v_eql_t, v_eql_f, v_neq_t, v_neq_f, v_streq_t, v_streq_f, v_lenS, v_len, v_len0, v_ixStr, v_ixStr0, v_idxS, v_ld1, bare_bare, back_self, back_bare, Bool.not_true, Bool.not_false, List.cons_append, List.nil_append, List.append_nil]
    exact hK
  · have hpos : 0 < l.length := List.length_pos_iff.2 h0
    by_cases h1 : l.length ≤ 32
    · simp (disch := first | assumption | decide | omega) only [r_skip, r_ops, r_seq, r_block, r_exit, r_ret, r_condo, r_seqgo, r_seqex, r_seqrt, r_blockgo, r_blockrt, r_blockex, r_blockne, r_condt, r_condf, r_nil, r_cons0, r_cons1, r_gtt, r_gtf, r_gft, r_gff, r_gu, r_onc, r_onl, r_onls, r_ong, r_ongs, r_push0, r_push1, r_push2, r_as0, r_as1, r_call0, r_call, r_endrt, r_endgo, r_res0, r_res1, r_one1, r_one2, r_one3, i_mv, i_pick, i_box, i_ld1, i_ldA, i_st, i_nilc, i_bin, i_shf, i_strb, i_gen, i_un, i_cvt, i_fad, i_fld1, i_fldA, i_idxA, i_idxS, i_ixA1, i_ixStr, i_ext, i_len, i_lenS, i_slStr1, i_slStr2, i_slStr3, i_call, v_ok, v_pickt, v_pickf, v_not, v_lss_t, v_lss_f, v_gtr_t, v_gtr_f, v_leq_t, v_leq_f, v_geq_t, v_geq_f, v_eql_t, v_eql_f, v_neq_t, v_neq_f, v_streq_t, v_streq_f, v_lenS, v_len, v_len0, v_ixStr, v_ixStr0, v_idxS, v_ld1, bare_bare, back_self, back_bare, Bool.not_true, Bool.not_false, List.cons_append, List.nil_append, List.append_nil]
      refine letter_ok (fun a s => hb _ a s (by simp)) _ _ _ ?_
      cases h2 : isLetter (l.getD 0 0)
      · rw [nm_f (by rintro ⟨_, _, _, h⟩; have := h 0 hpos; simp only [okAt, h2] at this; simp at this)] at hK
        simp (disch := first | assumption | decide | omega) only [r_skip, r_ops, r_seq, r_block, r_exit, r_ret, r_condo, r_seqgo, r_seqex, r_seqrt, r_blockgo, r_blockrt, r_blockex, r_blockne, r_condt, r_condf, r_nil, r_cons0, r_cons1, r_gtt, r_gtf, r_gft, r_gff, r_gu, r_onc, r_onl, r_onls, r_ong, r_ongs, r_push0, r_push1, r_push2, r_as0, r_as1, r_call0, r_call, r_endrt, r_endgo, r_res0, r_res1, r_one1, r_one2, r_one3, i_mv, i_pick, i_box, i_ld1, i_ldA, i_st, i_nilc, i_bin, i_shf, i_strb, i_gen, i_un, i_cvt, i_fad, i_fld1, i_fldA, i_idxA, i_idxS, i_ixA1, i_ixStr, i_ext, i_len, i_lenS, i_slStr1, i_slStr2, i_slStr3, i_call, v_ok, v_pickt, v_pickf, v_not, v_lss_t, v_lss_f, v_gtr_t, v_gtr_f, v_leq_t, v_leq_f, v_geq_t, v_geq_f, v_eql_t, v_eql_f, v_neq_t, v_neq_f, v_streq_t, v_streq_f, v_lenS, v_len, v_len0, v_ixStr, v_ixStr0, v_idxS, v_ld1, bare_bare, back_self, back_bare, Bool.not_true, Bool.not_false, List.cons_append, List.nil_append, List.append_nil]
        exact hK
      · simp (disch := first | assumption | decide | omega) only [r_skip, r_ops, r_seq, r_block, r_exit, r_ret, r_condo, r_seqgo, r_seqex, r_seqrt, r_blockgo, r_blockrt, r_blockex, r_blockne, r_condt, r_condf, r_nil, r_cons0, r_cons1, r_gtt, r_gtf, r_gft, r_gff, r_gu, r_onc, r_onl, r_onls, r_ong, r_ongs, r_push0, r_push1, r_push2, r_as0, r_as1, r_call0, r_call, r_endrt, r_endgo, r_res0, r_res1, r_one1, r_one2, r_one3, i_mv, i_pick, i_box, i_ld1, i_ldA, i_st, i_nilc, i_bin, i_shf, i_strb, i_gen, i_un, i_cvt, i_fad, i_fld1, i_fldA, i_idxA, i_idxS, i_ixA1, i_ixStr, i_ext, i_len, i_lenS, i_slStr1, i_slStr2, i_slStr3, i_call, v_ok, v_pickt, v_pickf, v_not, v_lss_t, v_lss_f, v_gtr_t, v_gtr_f, v_leq_t, v_leq_f, v_geq_t, v_geq_f, v_eql_t, v_eql_f, v_neq_t, v_neq_f, v_streq_t, v_streq_f, v_lenS, v_len, v_len0, v_ixStr, v_ixStr0, v_idxS, v_ld1, bare_bare, back_self, back_bare, Bool.not_true, Bool.not_false, List.cons_append, List.nil_append, List.append_nil]
        refine Kept_ok (fun a s => hb _ a s (by simp)) _ _ _ ?_
        cases h3 : kept l
        · simp (disch := first | assumption | decide | omega) only [r_skip, r_ops, r_seq, r_block, r_exit, r_ret, r_condo, r_seqgo, r_seqex, r_seqrt, r_blockgo, r_blockrt, r_blockex, r_blockne, r_condt, r_condf, r_nil, r_cons0, r_cons1, r_gtt, r_gtf, r_gft, r_gff, r_gu, r_onc, r_onl, r_onls, r_ong, r_ongs, r_push0, r_push1, r_push2, r_as0, r_as1, r_call0, r_call, r_endrt, r_endgo, r_res0, r_res1, r_one1, r_one2, r_one3, i_mv, i_pick, i_box, i_ld1, i_ldA, i_st, i_nilc, i_bin, i_shf, i_strb, i_gen, i_un, i_cvt, i_fad, i_fld1, i_fldA, i_idxA, i_idxS, i_ixA1, i_ixStr, i_ext, i_len, i_lenS, i_slStr1, i_slStr2, i_slStr3, i_call, v_ok, v_pickt, v_pickf, v_not, v_lss_t, v_lss_f, v_gtr_t, v_gtr_f, v_leq_t, v_leq_f, v_geq_t, v_geq_f, v_eql_t, v_eql_f, v_neq_t, v_neq_f, v_streq_t, v_streq_f, v_lenS, v_len, v_len0, v_ixStr, v_ixStr0, v_idxS, v_ld1, bare_bare, back_self, back_bare, Bool.not_true, Bool.not_false, List.cons_append, List.nil_append, List.append_nil]
          refine run_ok (fun a s => hb _ a s (by simp)) l hl h256 25 [] isInner ?_ _ _ ?_
          · intro c s K2 _ hk2
            refine inner_ok (fun f a s hf => hb _ a s ?_) c s K2 hk2
            rcases hf with rfl | rfl | rfl <;> simp
          · by_cases h4 : lead isInner l = l.length
            · have h5 := lead_all h4
              rw [nm_t ⟨hpos, h1, h3, fun j hj => by
                have := h5 j hj
                unfold isInner at this
                unfold okAt
                by_cases hj0 : j = 0
                · rw [hj0, h2]; rfl
                · simp [hj0]
                  simp at this
                  exact this.elim (fun h => h.elim .inl (fun h => .inr (.inl h))) (fun h => .inr (.inr h))⟩] at hK
              simp (disch := first | assumption | decide | omega) only [r_skip, r_ops, r_seq, r_block, r_exit, r_ret, r_condo, r_seqgo, r_seqex, r_seqrt, r_blockgo, r_blockrt, r_blockex, r_blockne, r_condt, r_condf, r_nil, r_cons0, r_cons1, r_gtt, r_gtf, r_gft, r_gff, r_gu, r_onc, r_onl, r_onls, r_ong, r_ongs, r_push0, r_push1, r_push2, r_as0, r_as1, r_call0, r_call, r_endrt, r_endgo, r_res0, r_res1, r_one1, r_one2, r_one3, i_mv, i_pick, i_box, i_ld1, i_ldA, i_st, i_nilc, i_bin, i_shf, i_strb, i_gen, i_un, i_cvt, i_fad, i_fld1, i_fldA, i_idxA, i_idxS, i_ixA1, i_ixStr, i_ext, i_len, i_lenS, i_slStr1, i_slStr2, i_slStr3, i_call, v_ok, v_pickt, v_pickf, v_not, v_lss_t, v_lss_f, v_gtr_t, v_gtr_f, v_leq_t, v_leq_f, v_geq_t, v_geq_f, v_eql_t, v_eql_f, v_neq_t, v_neq_f, v_streq_t, v_streq_f, v_lenS, v_len, v_len0, v_ixStr, v_ixStr0, v_idxS, v_ld1, bare_bare, back_self, back_bare, Bool.not_true, Bool.not_false, List.cons_append, List.nil_append, List.append_nil]
              exact hK
            · rw [nm_f (by
                rintro ⟨_, _, _, h⟩
                refine h4 (all_lead fun j hj => ?_)
                have := h j hj
                unfold okAt at this
                unfold isInner
                simp at this ⊢
                rcases this with h | ⟨_, h | h⟩
                · exact .inl (.inl h)
                · exact .inl (.inr h)
                · exact .inr h)] at hK
              have h5 := lead_le isInner l
              simp (disch := first | assumption | decide | omega) only [r_skip, r_ops, r_seq, r_block, r_exit, r_ret, r_condo, r_seqgo, r_seqex, r_seqrt, r_blockgo, r_blockrt, r_blockex, r_blockne, r_condt, r_condf, r_nil, r_cons0, r_cons1, r_gtt, r_gtf, r_gft, r_gff, r_gu, r_onc, r_onl, r_onls, r_ong, r_ongs, r_push0, r_push1, r_push2, r_as0, r_as1, r_call0, r_call, r_endrt, r_endgo, r_res0, r_res1, r_one1, r_one2, r_one3, i_mv, i_pick, i_box, i_ld1, i_ldA, i_st, i_nilc, i_bin, i_shf, i_strb, i_gen, i_un, i_cvt, i_fad, i_fld1, i_fldA, i_idxA, i_idxS, i_ixA1, i_ixStr, i_ext, i_len, i_lenS, i_slStr1, i_slStr2, i_slStr3, i_call, v_ok, v_pickt, v_pickf, v_not, v_lss_t, v_lss_f, v_gtr_t, v_gtr_f, v_leq_t, v_leq_f, v_geq_t, v_geq_f, v_eql_t, v_eql_f, v_neq_t, v_neq_f, v_streq_t, v_streq_f, v_lenS, v_len, v_len0, v_ixStr, v_ixStr0, v_idxS, v_ld1, bare_bare, back_self, back_bare, Bool.not_true, Bool.not_false, List.cons_append, List.nil_append, List.append_nil]
              exact hK
        · rw [nm_f (by rintro ⟨_, _, h, _⟩; rw [h3] at h; cases h)] at hK
          simp (disch := first | assumption | decide | omega) only [r_skip, r_ops, r_seq, r_block, r_exit, r_ret, r_condo, r_seqgo, r_seqex, r_seqrt, r_blockgo, r_blockrt, r_blockex, r_blockne, r_condt, r_condf, r_nil, r_cons0, r_cons1, r_gtt, r_gtf, r_gft, r_gff, r_gu, r_onc, r_onl, r_onls, r_ong, r_ongs, r_push0, r_push1, r_push2, r_as0, r_as1, r_call0, r_call, r_endrt, r_endgo, r_res0, r_res1, r_one1, r_one2, r_one3, i_mv, i_pick, i_box, i_ld1, i_ldA, i_st, i_nilc, i_bin, i_shf, i_strb, i_gen, i_un, i_cvt, i_fad, i_fld1, i_fldA, i_idxA, i_idxS, i_ixA1, i_ixStr, i_ext, i_len, i_lenS, i_slStr1, i_slStr2, i_slStr3, i_call, v_ok, v_pickt, v_pickf, v_not, v_lss_t, v_lss_f, v_gtr_t, v_gtr_f, v_leq_t, v_leq_f, v_geq_t, v_geq_f, v_eql_t, v_eql_f, v_neq_t, v_neq_f, v_streq_t, v_streq_f, v_lenS, v_len, v_len0, v_ixStr, v_ixStr0, v_idxS, v_ld1, bare_bare, back_self, back_bare, Bool.not_true, Bool.not_false, List.cons_append, List.nil_append, List.append_nil]
          exact hK
    · rw [nm_f (by rintro ⟨_, h, _⟩; exact h1 h)] at hK
      simp (disch := first | assumption | decide | omega) only [r_skip, r_ops, r_seq, r_block, r_exit, r_ret, r_condo, r_seqgo, r_seqex, r_seqrt, r_blockgo, r_blockrt, r_blockex, r_blockne, r_condt, r_condf, r_nil, r_cons0, r_cons1, r_gtt, r_gtf, r_gft, r_gff, r_gu, r_onc, r_onl, r_onls, r_ong, r_ongs, r_push0, r_push1, r_push2, r_as0, r_as1, r_call0, r_call, r_endrt, r_endgo, r_res0, r_res1, r_one1, r_one2, r_one3, i_mv, i_pick, i_box, i_ld1, i_ldA, i_st, i_nilc, i_bin, i_shf, i_strb, i_gen, i_un, i_cvt, i_fad, i_fld1, i_fldA, i_idxA, i_idxS, i_ixA1, i_ixStr, i_ext, i_len, i_lenS, i_slStr1, i_slStr2, i_slStr3, i_call, v_ok, v_pickt, v_pickf, v_not, v_lss_t, v_lss_f, v_gtr_t, v_gtr_f, v_leq_t, v_leq_f, v_geq_t, v_geq_f, v_eql_t, v_eql_f, v_neq_t, v_neq_f, v_streq_t, v_streq_f, v_lenS, v_len, v_len0, v_ixStr, v_ixStr0, v_idxS, v_ld1, bare_bare, back_self, back_bare, Bool.not_true, Bool.not_false, List.cons_append, List.nil_append, List.append_nil]
      exact hK

theorem refName_ok (hb : ∀ f args st, f ∈ [13, 15, 20, 21, 22] → base f args st = .no) (l : List Nat) (hl : l.length ≤ 9223372036854775807) (h256 : ∀ c ∈ l, c < 256) (st : St) (K : AV → St → Prop) (hK : ∀ st', Ext st st' → K (.bool (nm l)) st') : CW Tryd.prog base 15 [.str l] st K := by
  refine fn_rule l15 (hb _ _ _ (by simp)) ?_
  simp only [c15, entry, List.map_cons, List.map_nil, List.getD_cons_zero, List.getD_cons_succ]
  unfold b15
  simp (disch := first | assumption | decide | omega) only [r_skip, r_ops, r_seq, r_block, r_exit, r_ret, r_condo, r_seqgo, r_seqex, r_seqrt, r_blockgo, r_blockrt, r_blockex, r_blockne, r_condt, r_condf, r_nil, r_cons0, r_cons1, r_gtt, r_gtf, r_gft, r_gff, r_gu, r_onc, r_onl, r_onls, r_ong, r_ongs, r_push0, r_push1, r_push2, r_as0, r_as1, r_call0, r_call, r_endrt, r_endgo, r_res0, r_res1, r_one1, r_one2, r_one3, i_mv, i_pick, i_box, i_ld1, i_ldA, i_st, i_nilc, i_bin, i_shf, i_strb, i_gen, i_un, i_cvt, i_fad, i_fld1, i_fldA, i_idxA, i_idxS, i_ixA1, i_ixStr, i_ext, i_len, i_lenS, i_slStr1, i_slStr2, i_slStr3, i_call, v_ok, v_pickt, v_pickf, v_not, v_lss_t, v_lss_f, v_gtr_t, v_gtr_f, v_leq_t, v_leq_f, v_geq_t, v_geq_f, v_eql_t, v_eql_f, v_neq_t, v_neq_f, v_streq_t, v_streq_f, v_lenS, v_len, v_len0, v_ixStr, v_ixStr0, v_idxS, v_ld1, bare_bare, back_self, back_bare, Bool.not_true, Bool.not_false, List.cons_append, List.nil_append, List.append_nil]
  refine wC_loopH (fun m L s => ∃ k : Nat, k ≤ l.length ∧ m = l.length - k ∧ s = st.bare ∧ Has L 0 (.str l) ∧ Has L 3 (.int .i64 (k : Int)) ∧ ∀ j, j < k → okAt l j = true) ?_ l.length ?_
  · rintro m L s ⟨k, hk, rfl, rfl, h0, h3, hp⟩
    unfold Hold
    by_cases hlt : k < l.length
    · simp (disch := first | assumption | decide | omega) only [r_onh h0, r_onh h3, r_skip, r_ops, r_seq, r_block, r_exit, r_ret, r_condo, r_seqgo, r_seqex, r_seqrt, r_blockgo, r_blockrt, r_blockex, r_blockne, r_condt, r_condf, r_nil, r_cons0, r_cons1, r_gtt, r_gtf, r_gft, r_gff, r_gu, r_onc, r_onl, r_onls, r_ong, r_ongs, r_push0, r_push1, r_push2, r_as0, r_as1, r_call0, r_call, r_endrt, r_endgo, r_res0, r_res1, r_one1, r_one2, r_one3, i_mv, i_pick, i_box, i_ld1, i_ldA, i_st, i_nilc, i_bin, i_shf, i_strb, i_gen, i_un, i_cvt, i_fad, i_fld1, i_fldA, i_idxA, i_idxS, i_ixA1, i_ixStr, i_ext, i_len, i_lenS, i_slStr1, i_slStr2, i_slStr3, i_call, v_ok, v_pickt, v_pickf, v_not, v_lss_t, v_lss_f, v_gtr_t, v_gtr_f, v_leq_t, v_leq_f, v_geq_t, v_geq_f, v_eql_t, v_eql_f, v_neq_t, v_neq_f, v_streq_t, v_streq_f, v_lenS, v_len, v_len0, v_ixStr, v_ixStr0, v_idxS, v_ld1, bare_bare, back_self, back_bare, Bool.not_true, Bool.not_false, List.cons_append, List.nil_append, List.append_nil]
      refine Letter_ok (fun a s => hb _ a s (by simp)) _ _ _ ?_
      have bad : okAt l k = false → K (.bool false) st.bare := fun h => by
        have := hK _ (Ext.bare st)
        rw [nm_f (by rintro ⟨_, _, _, h'⟩; have := h' k hlt; rw [h] at this; cases this)] at this
        exact this
      have good : okAt l k = true → ∃ k', k' < l.length - k ∧ ∃ k_1, k_1 ≤ l.length ∧ k' = l.length - k_1 ∧ True ∧ ∀ j, j < k_1 → okAt l j = true := fun h => by
        refine ⟨l.length - (k + 1), by omega, k + 1, by omega, rfl, trivial, fun j hj => ?_⟩
        by_cases hjk : j = k
        · rw [hjk]; exact h
        · exact hp j (by omega)
      cases h1 : isLetter (l.getD k 0)
      · by_cases hk0 : k = 0
        · have hz : (k : Int) = 0 := by omega
          simp (disch := first | assumption | decide | omega) only [r_onh h0, r_onh h3, r_skip, r_ops, r_seq, r_block, r_exit, r_ret, r_condo, r_seqgo, r_seqex, r_seqrt, r_blockgo, r_blockrt, r_blockex, r_blockne, r_condt, r_condf, r_nil, r_cons0, r_cons1, r_gtt, r_gtf, r_gft, r_gff, r_gu, r_onc, r_onl, r_onls, r_ong, r_ongs, r_push0, r_push1, r_push2, r_as0, r_as1, r_call0, r_call, r_endrt, r_endgo, r_res0, r_res1, r_one1, r_one2, r_one3, i_mv, i_pick, i_box, i_ld1, i_ldA, i_st, i_nilc, i_bin, i_shf, i_strb, i_gen, i_un, i_cvt, i_fad, i_fld1, i_fldA, i_idxA, i_idxS, i_ixA1, i_ixStr, i_ext, i_len, i_lenS, i_slStr1, i_slStr2, i_slStr3, i_call, v_ok, v_pickt, v_pickf, v_not, v_lss_t, v_lss_f, v_gtr_t, v_gtr_f, v_leq_t, v_leq_f, v_geq_t, v_geq_f, v_eql_t, v_eql_f, v_neq_t, v_neq_f, v_streq_t, v_streq_f, v_lenS, v_len, v_len0, v_ixStr, v_ixStr0, v_idxS, v_ld1, bare_bare, back_self, back_bare, Bool.not_true, Bool.not_false, List.cons_append, List.nil_append, List.append_nil]
          exact bad (by simp [okAt, h1, hk0] at h1 ⊢; exact h1)
        · have hz : (k : Int) ≠ 0 := by omega
          simp (disch := first | assumption | decide | omega) only [r_onh h0, r_onh h3, r_skip, r_ops, r_seq, r_block, r_exit, r_ret, r_condo, r_seqgo, r_seqex, r_seqrt, r_blockgo, r_blockrt, r_blockex, r_blockne, r_condt, r_condf, r_nil, r_cons0, r_cons1, r_gtt, r_gtf, r_gft, r_gff, r_gu, r_onc, r_onl, r_onls, r_ong, r_ongs, r_push0, r_push1, r_push2, r_as0, r_as1, r_call0, r_call, r_endrt, r_endgo, r_res0, r_res1, r_one1, r_one2, r_one3, i_mv, i_pick, i_box, i_ld1, i_ldA, i_st, i_nilc, i_bin, i_shf, i_strb, i_gen, i_un, i_cvt, i_fad, i_fld1, i_fldA, i_idxA, i_idxS, i_ixA1, i_ixStr, i_ext, i_len, i_lenS, i_slStr1, i_slStr2, i_slStr3, i_call, v_ok, v_pickt, v_pickf, v_not, v_lss_t, v_lss_f, v_gtr_t, v_gtr_f, v_leq_t, v_leq_f, v_geq_t, v_geq_f, v_eql_t, v_eql_f, v_neq_t, v_neq_f, v_streq_t, v_streq_f, v_lenS, v_len, v_len0, v_ixStr, v_ixStr0, v_idxS, v_ld1, bare_bare, back_self, back_bare, Bool.not_true, Bool.not_false, List.cons_append, List.nil_append, List.append_nil]
          refine Digit_ok (fun a s => hb _ a s (by simp)) _ _ _ ?_
          cases h2 : isDigit (l.getD k 0)
          · by_cases h95 : l.getD k 0 = 95
            · simp (disch := first | assumption | decide | omega) only [r_onh h0, r_onh h3, v_addN, r_skip, r_ops, r_seq, r_block, r_exit, r_ret, r_condo, r_seqgo, r_seqex, r_seqrt, r_blockgo, r_blockrt, r_blockex, r_blockne, r_condt, r_condf, r_nil, r_cons0, r_cons1, r_gtt, r_gtf, r_gft, r_gff, r_gu, r_onc, r_onl, r_onls, r_ong, r_ongs, r_push0, r_push1, r_push2, r_as0, r_as1, r_call0, r_call, r_endrt, r_endgo, r_res0, r_res1, r_one1, r_one2, r_one3, i_mv, i_pick, i_box, i_ld1, i_ldA, i_st, i_nilc, i_bin, i_shf, i_strb, i_gen, i_un, i_cvt, i_fad, i_fld1, i_fldA, i_idxA, i_idxS, i_ixA1, i_ixStr, i_ext, i_len, i_lenS, i_slStr1, i_slStr2, i_slStr3, i_call, v_ok, v_pickt, v_pickf, v_not, v_lss_t, v_lss_f, v_gtr_t, v_gtr_f, v_leq_t, v_leq_f, v_geq_t, v_geq_f, v_eql_t, v_eql_f, v_neq_t, v_neq_f, v_streq_t, v_streq_f, v_lenS, v_len, v_len0, v_ixStr, v_ixStr0, v_idxS, v_ld1, bare_bare, back_self, back_bare, Bool.not_true, Bool.not_false, List.cons_append, List.nil_append, List.append_nil]
              refine ⟨l.length - (k + 1), by omega, k + 1, by omega, rfl, ?_⟩
              simp (disch := decide) only [z0, h_here, h_skip, h0, true_and]
              intro j hj
              by_cases hjk : j = k
              · rw [hjk]; simp only [okAt, h95, decide_true, Bool.or_true, Bool.and_true]; simp [hk0]
              · exact hp j (by omega)
            · simp (disch := first | assumption | decide | omega) only [r_onh h0, r_onh h3, r_skip, r_ops, r_seq, r_block, r_exit, r_ret, r_condo, r_seqgo, r_seqex, r_seqrt, r_blockgo, r_blockrt, r_blockex, r_blockne, r_condt, r_condf, r_nil, r_cons0, r_cons1, r_gtt, r_gtf, r_gft, r_gff, r_gu, r_onc, r_onl, r_onls, r_ong, r_ongs, r_push0, r_push1, r_push2, r_as0, r_as1, r_call0, r_call, r_endrt, r_endgo, r_res0, r_res1, r_one1, r_one2, r_one3, i_mv, i_pick, i_box, i_ld1, i_ldA, i_st, i_nilc, i_bin, i_shf, i_strb, i_gen, i_un, i_cvt, i_fad, i_fld1, i_fldA, i_idxA, i_idxS, i_ixA1, i_ixStr, i_ext, i_len, i_lenS, i_slStr1, i_slStr2, i_slStr3, i_call, v_ok, v_pickt, v_pickf, v_not, v_lss_t, v_lss_f, v_gtr_t, v_gtr_f, v_leq_t, v_leq_f, v_geq_t, v_geq_f, v_eql_t, v_eql_f, v_neq_t, v_neq_f, v_streq_t, v_streq_f, v_lenS, v_len, v_len0, v_ixStr, v_ixStr0, v_idxS, v_ld1, bare_bare, back_self, back_bare, Bool.not_true, Bool.not_false, List.cons_append, List.nil_append, List.append_nil]
              exact bad (by simp only [okAt, h1, h2, h95, decide_false]; simp)
          · simp (disch := first | assumption | decide | omega) only [r_onh h0, r_onh h3, v_addN, r_skip, r_ops, r_seq, r_block, r_exit, r_ret, r_condo, r_seqgo, r_seqex, r_seqrt, r_blockgo, r_blockrt, r_blockex, r_blockne, r_condt, r_condf, r_nil, r_cons0, r_cons1, r_gtt, r_gtf, r_gft, r_gff, r_gu, r_onc, r_onl, r_onls, r_ong, r_ongs, r_push0, r_push1, r_push2, r_as0, r_as1, r_call0, r_call, r_endrt, r_endgo, r_res0, r_res1, r_one1, r_one2, r_one3, i_mv, i_pick, i_box, i_ld1, i_ldA, i_st, i_nilc, i_bin, i_shf, i_strb, i_gen, i_un, i_cvt, i_fad, i_fld1, i_fldA, i_idxA, i_idxS, i_ixA1, i_ixStr, i_ext, i_len, i_lenS, i_slStr1, i_slStr2, i_slStr3, i_call, v_ok, v_pickt, v_pickf, v_not, v_lss_t, v_lss_f, v_gtr_t, v_gtr_f, v_leq_t, v_leq_f, v_geq_t, v_geq_f, v_eql_t, v_eql_f, v_neq_t, v_neq_f, v_streq_t, v_streq_f, v_lenS, v_len, v_len0, v_ixStr, v_ixStr0, v_idxS, v_ld1, bare_bare, back_self, back_bare, Bool.not_true, Bool.not_false, List.cons_append, List.nil_append, List.append_nil]
            refine ⟨l.length - (k + 1), by omega, k + 1, by omega, rfl, ?_⟩
            simp (disch := decide) only [z0, h_here, h_skip, h0, true_and]
            intro j hj
            by_cases hjk : j = k
            · rw [hjk]; simp only [okAt, h2]; simp [hk0]
            · exact hp j (by omega)
      · simp (disch := first | assumption | decide | omega) only [r_onh h0, r_onh h3, v_addN, r_skip, r_ops, r_seq, r_block, r_exit, r_ret, r_condo, r_seqgo, r_seqex, r_seqrt, r_blockgo, r_blockrt, r_blockex, r_blockne, r_condt, r_condf, r_nil, r_cons0, r_cons1, r_gtt, r_gtf, r_gft, r_gff, r_gu, r_onc, r_onl, r_onls, r_ong, r_ongs, r_push0, r_push1, r_push2, r_as0, r_as1, r_call0, r_call, r_endrt, r_endgo, r_res0, r_res1, r_one1, r_one2, r_one3, i_mv, i_pick, i_box, i_ld1, i_ldA, i_st, i_nilc, i_bin, i_shf, i_strb, i_gen, i_un, i_cvt, i_fad, i_fld1, i_fldA, i_idxA, i_idxS, i_ixA1, i_ixStr, i_ext, i_len, i_lenS, i_slStr1, i_slStr2, i_slStr3, i_call, v_ok, v_pickt, v_pickf, v_not, v_lss_t, v_lss_f, v_gtr_t, v_gtr_f, v_leq_t, v_leq_f, v_geq_t, v_geq_f, v_eql_t, v_eql_f, v_neq_t, v_neq_f, v_streq_t, v_streq_f, v_lenS, v_len, v_len0, v_ixStr, v_ixStr0, v_idxS, v_ld1, bare_bare, back_self, back_bare, Bool.not_true, Bool.not_false, List.cons_append, List.nil_append, List.append_nil]
        refine ⟨l.length - (k + 1), by omega, k + 1, by omega, rfl, ?_⟩
        simp (disch := decide) only [z0, h_here, h_skip, h0, true_and]
        intro j hj
        by_cases hjk : j = k
        · rw [hjk]; simp only [okAt, h1]; simp
        · exact hp j (by omega)
    · by_cases hpos : 0 < l.length
      · by_cases h32 : l.length ≤ 32
        · simp (disch := first | assumption | decide | omega) only [r_onh h0, r_onh h3, r_skip, r_ops, r_seq, r_block, r_exit, r_ret, r_condo, r_seqgo, r_seqex, r_seqrt, r_blockgo, r_blockrt, r_blockex, r_blockne, r_condt, r_condf, r_nil, r_cons0, r_cons1, r_gtt, r_gtf, r_gft, r_gff, r_gu, r_onc, r_onl, r_onls, r_ong, r_ongs, r_push0, r_push1, r_push2, r_as0, r_as1, r_call0, r_call, r_endrt, r_endgo, r_res0, r_res1, r_one1, r_one2, r_one3, i_mv, i_pick, i_box, i_ld1, i_ldA, i_st, i_nilc, i_bin, i_shf, i_strb, i_gen, i_un, i_cvt, i_fad, i_fld1, i_fldA, i_idxA, i_idxS, i_ixA1, i_ixStr, i_ext, i_len, i_lenS, i_slStr1, i_slStr2, i_slStr3, i_call, v_ok, v_pickt, v_pickf, v_not, v_lss_t, v_lss_f, v_gtr_t, v_gtr_f, v_leq_t, v_leq_f, v_geq_t, v_geq_f, v_eql_t, v_eql_f, v_neq_t, v_neq_f, v_streq_t, v_streq_f, v_lenS, v_len, v_len0, v_ixStr, v_ixStr0, v_idxS, v_ld1, bare_bare, back_self, back_bare, Bool.not_true, Bool.not_false, List.cons_append, List.nil_append, List.append_nil]
          refine refKept_ok (fun f a s hf => hb _ a s (by rcases hf with rfl | rfl <;> simp)) l _ _ fun st' he => ?_
          cases hkp : kept l
          · have := hK ⟨st'.nx, st'.h, st'.dirty, []⟩ ⟨he.nx, rfl, he.keep⟩
            rw [nm_t ⟨hpos, h32, hkp, fun j hj => hp j (by omega)⟩] at this
            simp (disch := first | assumption | decide | omega) only [r_skip, r_ops, r_seq, r_block, r_exit, r_ret, r_condo, r_seqgo, r_seqex, r_seqrt, r_blockgo, r_blockrt, r_blockex, r_blockne, r_condt, r_condf, r_nil, r_cons0, r_cons1, r_gtt, r_gtf, r_gft, r_gff, r_gu, r_onc, r_onl, r_onls, r_ong, r_ongs, r_push0, r_push1, r_push2, r_as0, r_as1, r_call0, r_call, r_endrt, r_endgo, r_res0, r_res1, r_one1, r_one2, r_one3, i_mv, i_pick, i_box, i_ld1, i_ldA, i_st, i_nilc, i_bin, i_shf, i_strb, i_gen, i_un, i_cvt, i_fad, i_fld1, i_fldA, i_idxA, i_idxS, i_ixA1, i_ixStr, i_ext, i_len, i_lenS, i_slStr1, i_slStr2, i_slStr3, i_call, v_ok, v_pickt, v_pickf, v_not, v_lss_t, v_lss_f, v_gtr_t, v_gtr_f, v_leq_t, v_leq_f, v_geq_t, v_geq_f, v_eql_t, v_eql_f, v_neq_t, v_neq_f, v_streq_t, v_streq_f, v_lenS, v_len, v_len0, v_ixStr, v_ixStr0, v_idxS, v_ld1, bare_bare, back_self, back_bare, Bool.not_true, Bool.not_false, List.cons_append, List.nil_append, List.append_nil]
            exact this
          · have := hK ⟨st'.nx, st'.h, st'.dirty, []⟩ ⟨he.nx, rfl, he.keep⟩
            rw [nm_f (by rintro ⟨_, _, h, _⟩; rw [hkp] at h; cases h)] at this
            simp (disch := first | assumption | decide | omega) only [r_skip, r_ops, r_seq, r_block, r_exit, r_ret, r_condo, r_seqgo, r_seqex, r_seqrt, r_blockgo, r_blockrt, r_blockex, r_blockne, r_condt, r_condf, r_nil, r_cons0, r_cons1, r_gtt, r_gtf, r_gft, r_gff, r_gu, r_onc, r_onl, r_onls, r_ong, r_ongs, r_push0, r_push1, r_push2, r_as0, r_as1, r_call0, r_call, r_endrt, r_endgo, r_res0, r_res1, r_one1, r_one2, r_one3, i_mv, i_pick, i_box, i_ld1, i_ldA, i_st, i_nilc, i_bin, i_shf, i_strb, i_gen, i_un, i_cvt, i_fad, i_fld1, i_fldA, i_idxA, i_idxS, i_ixA1, i_ixStr, i_ext, i_len, i_lenS, i_slStr1, i_slStr2, i_slStr3, i_call, v_ok, v_pickt, v_pickf, v_not, v_lss_t, v_lss_f, v_gtr_t, v_gtr_f, v_leq_t, v_leq_f, v_geq_t, v_geq_f, v_eql_t, v_eql_f, v_neq_t, v_neq_f, v_streq_t, v_streq_f, v_lenS, v_len, v_len0, v_ixStr, v_ixStr0, v_idxS, v_ld1, bare_bare, back_self, back_bare, Bool.not_true, Bool.not_false, List.cons_append, List.nil_append, List.append_nil]
            exact this
        · have := hK _ (Ext.bare st)
          rw [nm_f (by rintro ⟨_, h, _⟩; exact h32 h)] at this
          simp (disch := first | assumption | decide | omega) only [r_onh h0, r_onh h3, r_skip, r_ops, r_seq, r_block, r_exit, r_ret, r_condo, r_seqgo, r_seqex, r_seqrt, r_blockgo, r_blockrt, r_blockex, r_blockne, r_condt, r_condf, r_nil, r_cons0, r_cons1, r_gtt, r_gtf, r_gft, r_gff, r_gu, r_onc, r_onl, r_onls, r_ong, r_ongs, r_push0, r_push1, r_push2, r_as0, r_as1, r_call0, r_call, r_endrt, r_endgo, r_res0, r_res1, r_one1, r_one2, r_one3, i_mv, i_pick, i_box, i_ld1, i_ldA, i_st, i_nilc, i_bin, i_shf, i_strb, i_gen, i_un, i_cvt, i_fad, i_fld1, i_fldA, i_idxA, i_idxS, i_ixA1, i_ixStr, i_ext, i_len, i_lenS, i_slStr1, i_slStr2, i_slStr3, i_call, v_ok, v_pickt, v_pickf, v_not, v_lss_t, v_lss_f, v_gtr_t, v_gtr_f, v_leq_t, v_leq_f, v_geq_t, v_geq_f, v_eql_t, v_eql_f, v_neq_t, v_neq_f, v_streq_t, v_streq_f, v_lenS, v_len, v_len0, v_ixStr, v_ixStr0, v_idxS, v_ld1, bare_bare, back_self, back_bare, Bool.not_true, Bool.not_false, List.cons_append, List.nil_append, List.append_nil]
          exact this
      · have := hK _ (Ext.bare st)
        rw [nm_f (by rintro ⟨h, _⟩; exact hpos h)] at this
        simp (disch := first | assumption | decide | omega) only [r_onh h0, r_onh h3, r_skip, r_ops, r_seq, r_block, r_exit, r_ret, r_condo, r_seqgo, r_seqex, r_seqrt, r_blockgo, r_blockrt, r_blockex, r_blockne, r_condt, r_condf, r_nil, r_cons0, r_cons1, r_gtt, r_gtf, r_gft, r_gff, r_gu, r_onc, r_onl, r_onls, r_ong, r_ongs, r_push0, r_push1, r_push2, r_as0, r_as1, r_call0, r_call, r_endrt, r_endgo, r_res0, r_res1, r_one1, r_one2, r_one3, i_mv, i_pick, i_box, i_ld1, i_ldA, i_st, i_nilc, i_bin, i_shf, i_strb, i_gen, i_un, i_cvt, i_fad, i_fld1, i_fldA, i_idxA, i_idxS, i_ixA1, i_ixStr, i_ext, i_len, i_lenS, i_slStr1, i_slStr2, i_slStr3, i_call, v_ok, v_pickt, v_pickf, v_not, v_lss_t, v_lss_f, v_gtr_t, v_gtr_f, v_leq_t, v_leq_f, v_geq_t, v_geq_f, v_eql_t, v_eql_f, v_neq_t, v_neq_f, v_streq_t, v_streq_f, v_lenS, v_len, v_len0, v_ixStr, v_ixStr0, v_idxS, v_ld1, bare_bare, back_self, back_bare, Bool.not_true, Bool.not_false, List.cons_append, List.nil_append, List.append_nil]
        exact this
  · refine ⟨0, by omega, by omega, rfl, ?_⟩
    simp (disch := decide) only [z0, h_here, h_skip, true_and]
    exact fun j hj => by omega

theorem gen4 (a b : Bool) (st : St) (K : AV → St → Prop) : onER (genV Tryd.prog .eql 4 false (.bool a) (.bool b) st) K = K (.bool (a == b)) st := by
  have : genV Tryd.prog .eql 4 false (.bool a) (.bool b) st = .ok (.bool (a == b)) st := by
    cases a <;> cases b <;> kernel_rfl
  rw [this]; rfl

theorem tells_ok (hb : ∀ f args st, f ≠ 9 → base f args st = .no) (h9 : ∀ st, base 9 [] st = .ok (.bool true) st) (l : List Nat) (hl : l.length ≤ 9223372036854775807) (h256 : ∀ c ∈ l, c < 256) (st : St) : CW Tryd.prog base 7 [.str l] st fun v st' => v = .bool true ∧ Ext st st' := by
  refine fn_rule l7 (hb _ _ _ (by decide)) ?_
  simp only [c7, entry, List.map_cons, List.map_nil, List.getD_cons_zero, List.getD_cons_succ]
  unfold b7
  simp (disch := first | assumption | decide | omega) only [r_skip, r_ops, r_seq, r_block, r_exit, r_ret, r_condo, r_seqgo, r_seqex, r_seqrt, r_blockgo, r_blockrt, r_blockex, r_blockne, r_condt, r_condf, r_nil, r_cons0, r_cons1, r_gtt, r_gtf, r_gft, r_gff, r_gu, r_onc, r_onl, r_onls, r_ong, r_ongs, r_push0, r_push1, r_push2, r_as0, r_as1, r_call0, r_call, r_endrt, r_endgo, r_res0, r_res1, r_one1, r_one2, r_one3, i_mv, i_pick, i_box, i_ld1, i_ldA, i_st, i_nilc, i_bin, i_shf, i_strb, i_gen, i_un, i_cvt, i_fad, i_fld1, i_fldA, i_idxA, i_idxS, i_ixA1, i_ixStr, i_ext, i_len, i_lenS, i_slStr1, i_slStr2, i_slStr3, i_call, v_ok, v_pickt, v_pickf, v_not, v_lss_t, v_lss_f, v_gtr_t, v_gtr_f, v_leq_t, v_leq_f, v_geq_t, v_geq_f, v_eql_t, v_eql_f, v_neq_t, v_neq_f, v_streq_t, v_streq_f, v_lenS, v_len, v_len0, v_ixStr, v_ixStr0, v_idxS, v_ld1, bare_bare, back_self, back_bare, Bool.not_true, Bool.not_false, List.cons_append, List.nil_append, List.append_nil]
  refine base_rule (h9 _) ?_
  simp (disch := first | assumption | decide | omega) only [r_skip, r_ops, r_seq, r_block, r_exit, r_ret, r_condo, r_seqgo, r_seqex, r_seqrt, r_blockgo, r_blockrt, r_blockex, r_blockne, r_condt, r_condf, r_nil, r_cons0, r_cons1, r_gtt, r_gtf, r_gft, r_gff, r_gu, r_onc, r_onl, r_onls, r_ong, r_ongs, r_push0, r_push1, r_push2, r_as0, r_as1, r_call0, r_call, r_endrt, r_endgo, r_res0, r_res1, r_one1, r_one2, r_one3, i_mv, i_pick, i_box, i_ld1, i_ldA, i_st, i_nilc, i_bin, i_shf, i_strb, i_gen, i_un, i_cvt, i_fad, i_fld1, i_fldA, i_idxA, i_idxS, i_ixA1, i_ixStr, i_ext, i_len, i_lenS, i_slStr1, i_slStr2, i_slStr3, i_call, v_ok, v_pickt, v_pickf, v_not, v_lss_t, v_lss_f, v_gtr_t, v_gtr_f, v_leq_t, v_leq_f, v_geq_t, v_geq_f, v_eql_t, v_eql_f, v_neq_t, v_neq_f, v_streq_t, v_streq_f, v_lenS, v_len, v_len0, v_ixStr, v_ixStr0, v_idxS, v_ld1, bare_bare, back_self, back_bare, Bool.not_true, Bool.not_false, List.cons_append, List.nil_append, List.append_nil]
  refine Kept_ok (fun a s => hb _ a s (by decide)) _ _ _ ?_
  simp (disch := first | assumption | decide | omega) only [r_skip, r_ops, r_seq, r_block, r_exit, r_ret, r_condo, r_seqgo, r_seqex, r_seqrt, r_blockgo, r_blockrt, r_blockex, r_blockne, r_condt, r_condf, r_nil, r_cons0, r_cons1, r_gtt, r_gtf, r_gft, r_gff, r_gu, r_onc, r_onl, r_onls, r_ong, r_ongs, r_push0, r_push1, r_push2, r_as0, r_as1, r_call0, r_call, r_endrt, r_endgo, r_res0, r_res1, r_one1, r_one2, r_one3, i_mv, i_pick, i_box, i_ld1, i_ldA, i_st, i_nilc, i_bin, i_shf, i_strb, i_gen, i_un, i_cvt, i_fad, i_fld1, i_fldA, i_idxA, i_idxS, i_ixA1, i_ixStr, i_ext, i_len, i_lenS, i_slStr1, i_slStr2, i_slStr3, i_call, v_ok, v_pickt, v_pickf, v_not, v_lss_t, v_lss_f, v_gtr_t, v_gtr_f, v_leq_t, v_leq_f, v_geq_t, v_geq_f, v_eql_t, v_eql_f, v_neq_t, v_neq_f, v_streq_t, v_streq_f, v_lenS, v_len, v_len0, v_ixStr, v_ixStr0, v_idxS, v_ld1, bare_bare, back_self, back_bare, Bool.not_true, Bool.not_false, List.cons_append, List.nil_append, List.append_nil]
  refine refKept_ok (fun f a s hf => hb _ a s (by rcases hf with rfl | rfl <;> decide)) l _ _ fun s1 e1 => ?_
  simp (disch := first | assumption | decide | omega) only [gen4, beq_self_eq_true, r_skip, r_ops, r_seq, r_block, r_exit, r_ret, r_condo, r_seqgo, r_seqex, r_seqrt, r_blockgo, r_blockrt, r_blockex, r_blockne, r_condt, r_condf, r_nil, r_cons0, r_cons1, r_gtt, r_gtf, r_gft, r_gff, r_gu, r_onc, r_onl, r_onls, r_ong, r_ongs, r_push0, r_push1, r_push2, r_as0, r_as1, r_call0, r_call, r_endrt, r_endgo, r_res0, r_res1, r_one1, r_one2, r_one3, i_mv, i_pick, i_box, i_ld1, i_ldA, i_st, i_nilc, i_bin, i_shf, i_strb, i_gen, i_un, i_cvt, i_fad, i_fld1, i_fldA, i_idxA, i_idxS, i_ixA1, i_ixStr, i_ext, i_len, i_lenS, i_slStr1, i_slStr2, i_slStr3, i_call, v_ok, v_pickt, v_pickf, v_not, v_lss_t, v_lss_f, v_gtr_t, v_gtr_f, v_leq_t, v_leq_f, v_geq_t, v_geq_f, v_eql_t, v_eql_f, v_neq_t, v_neq_f, v_streq_t, v_streq_f, v_lenS, v_len, v_len0, v_ixStr, v_ixStr0, v_idxS, v_ld1, bare_bare, back_self, back_bare, Bool.not_true, Bool.not_false, List.cons_append, List.nil_append, List.append_nil]
  refine Name_ok (fun f a s hf => hb _ a s (by intro h; subst h; simp at hf)) l hl h256 _ _ ?_
  simp (disch := first | assumption | decide | omega) only [r_skip, r_ops, r_seq, r_block, r_exit, r_ret, r_condo, r_seqgo, r_seqex, r_seqrt, r_blockgo, r_blockrt, r_blockex, r_blockne, r_condt, r_condf, r_nil, r_cons0, r_cons1, r_gtt, r_gtf, r_gft, r_gff, r_gu, r_onc, r_onl, r_onls, r_ong, r_ongs, r_push0, r_push1, r_push2, r_as0, r_as1, r_call0, r_call, r_endrt, r_endgo, r_res0, r_res1, r_one1, r_one2, r_one3, i_mv, i_pick, i_box, i_ld1, i_ldA, i_st, i_nilc, i_bin, i_shf, i_strb, i_gen, i_un, i_cvt, i_fad, i_fld1, i_fldA, i_idxA, i_idxS, i_ixA1, i_ixStr, i_ext, i_len, i_lenS, i_slStr1, i_slStr2, i_slStr3, i_call, v_ok, v_pickt, v_pickf, v_not, v_lss_t, v_lss_f, v_gtr_t, v_gtr_f, v_leq_t, v_leq_f, v_geq_t, v_geq_f, v_eql_t, v_eql_f, v_neq_t, v_neq_f, v_streq_t, v_streq_f, v_lenS, v_len, v_len0, v_ixStr, v_ixStr0, v_idxS, v_ld1, bare_bare, back_self, back_bare, Bool.not_true, Bool.not_false, List.cons_append, List.nil_append, List.append_nil]
  refine refName_ok (fun f a s hf => hb _ a s (by intro h; subst h; simp at hf)) l hl h256 _ _ fun s2 e2 => ?_
  simp (disch := first | assumption | decide | omega) only [gen4, beq_self_eq_true, r_skip, r_ops, r_seq, r_block, r_exit, r_ret, r_condo, r_seqgo, r_seqex, r_seqrt, r_blockgo, r_blockrt, r_blockex, r_blockne, r_condt, r_condf, r_nil, r_cons0, r_cons1, r_gtt, r_gtf, r_gft, r_gff, r_gu, r_onc, r_onl, r_onls, r_ong, r_ongs, r_push0, r_push1, r_push2, r_as0, r_as1, r_call0, r_call, r_endrt, r_endgo, r_res0, r_res1, r_one1, r_one2, r_one3, i_mv, i_pick, i_box, i_ld1, i_ldA, i_st, i_nilc, i_bin, i_shf, i_strb, i_gen, i_un, i_cvt, i_fad, i_fld1, i_fldA, i_idxA, i_idxS, i_ixA1, i_ixStr, i_ext, i_len, i_lenS, i_slStr1, i_slStr2, i_slStr3, i_call, v_ok, v_pickt, v_pickf, v_not, v_lss_t, v_lss_f, v_gtr_t, v_gtr_f, v_leq_t, v_leq_f, v_geq_t, v_geq_f, v_eql_t, v_eql_f, v_neq_t, v_neq_f, v_streq_t, v_streq_f, v_lenS, v_len, v_len0, v_ixStr, v_ixStr0, v_idxS, v_ld1, bare_bare, back_self, back_bare, Bool.not_true, Bool.not_false, List.cons_append, List.nil_append, List.append_nil]
  have e3 : Ext (back st.bare s1) s2 := e2
  exact ⟨trivial, ⟨Nat.le_trans e1.nx e3.nx, rfl, fun b hb => (e3.keep b (Nat.lt_of_lt_of_le hb e1.nx)).trans (e1.keep b hb)⟩⟩
end Go.Sy
end

section
set_option maxRecDepth 100000
namespace Go.Sy
open Go.Ev Go.Proofs

theorem tryd_okP : okP Tryd.prog = true := by kernel_rfl
theorem tryd_mixed : Tryd.prog.follows .mixedOrders = true := by kernel_rfl
theorem runs9 : isTrue (evCall Tryd.prog 100000 200 9 [] st0) = true := by kernel_rfl

/-- the words the program lists are alive: told by its run, once -/
def base9 : CallF := fun f args st => match args with
  | [] => cond (Nat.beq f 9) (.ok (.bool true) st) .no
  | _ :: _ => .no
theorem base9_no (f : FuncId) (args : List AV) (st : St) (h : f ≠ 9) : base9 f args st = .no := by
  have : Nat.beq f 9 = false := by
    cases hb : Nat.beq f 9
    · rfl
    · exact absurd (Nat.eq_of_beq_eq_true hb) h
  cases args with
  | nil => simp only [base9, this, cond_false]
  | cons a l => rfl
theorem base9_ok : CallOK Tryd.prog base9 := by
  intro f args st ι w vs hs hv
  cases args with
  | cons a l => trivial
  | nil =>
    by_cases hf : f = 9
    · subst hf
      have hvs : vs = #[] := by
        have : vs.toList = [] := by simpa [VRs] using hv
        simpa using this
      subst hvs
      have hb : Tryd.f9.body.isSome = true := by kernel_rfl
      obtain ⟨c, hc⟩ := Option.isSome_iff_exists.1 hb
      refine ⟨(okP_spec tryd_okP Tryd.func9 hc).2, Calls.mono (run_true tryd_okP (draw_ok tryd_mixed) runs9 w) fun e w' ⟨he, hos, ht, ho, hsz, hk⟩ => ⟨_, he, ι, Le.refl ι, ?_, ?_, ?_, Cleanly.refl ι st⟩⟩
      · simp only [VR]
      · exact ⟨fun b B S e => by
          obtain ⟨o, x, h1, h2, h3⟩ := hs.obj b B S e
          exact ⟨o, x, h1, (hk B (hs.lt e)).trans h2, h3⟩, hs.gone, hs.inj, hs.born⟩
      · exact ⟨hos, ht, ho, hsz, fun k hk' _ => hk k hk', fun b B S e => .inl ⟨b, S, e⟩⟩
    · rw [base9_no f [] st hf]
      trivial

theorem bytes_lt (s : ByteArray) : ∀ c ∈ s.data.toList.map UInt8.toNat, c < 256 := by
  intro c hc
  obtain ⟨b, _, rfl⟩ := List.mem_map.1 hc
  exact b.toNat_lt

/-- what a call of the law does, at every string -/
theorem tells_calls (s : ByteArray) (hl : s.size ≤ 9223372036854775807) (w : World) :
    Calls Tryd.prog 7 #[.string s] w fun e w' => e = .returned (.bool true) ∧ w'.os = w.os ∧ w'.tape = w.tape ∧ w'.output = w.output ∧ w.heap.size ≤ w'.heap.size ∧ ∀ k, k < w.heap.size → w'.heap[k]? = w.heap[k]? := by
  have hs : Sim (fun _ => .unborn) st0.h st0.nx w :=
    ⟨fun b B S e => (by cases e), fun b e => (by cases e), fun b b' B S S' e => (by cases e), fun b e => absurd rfl e⟩
  have hll : (s.data.toList.map UInt8.toNat).length ≤ 9223372036854775807 := by
    rw [List.length_map, Array.length_toList]; exact hl
  have h := CW.calls tryd_okP (draw_ok tryd_mixed) base9_ok
    (tells_ok (base := base9) (fun f args st => base9_no f args st) (fun _ => rfl) (s.data.toList.map UInt8.toNat) hll (bytes_lt s) st0) (ι := fun _ => .unborn) (w := w) (vs := #[.string s]) hs
    (by simp only [VRs]; exact ⟨_, _, rfl, by simp only [VR]; exact ⟨s, rfl, rfl⟩, rfl⟩)
  refine Calls.mono h fun e w' ⟨v, x, st', he, hK, ι', _, hv, _, hg, _⟩ => ?_
  rw [hK.1] at hv
  simp only [VR] at hv
  rw [hv] at he
  exact ⟨he, hg.os, hg.tape, hg.output, hg.size, fun k hk => hg.keep k hk (fun b S e => by cases e)⟩

end Go.Sy
end
