/-
  Contracts: the code lowered, what it does told by rules, and the contracts of the functions that the law reaches.
-/
import Derived.Test.YtbpohnnpklbmeaaGreatDoorSyC
import Derived.Test.YtbpohnnpklbmeaaGreatDoorProg
import Derived.KernelRfl
import Derived.ChangeArms
set_option linter.unusedVariables false
set_option linter.unusedSimpArgs false
open Int renaming reduceToNat → Qaa, natCast_zero → Qam, zero_add → Qaq, ofNat → Qbg, eq_ofNat_of_zero_le → Qbs, natCast_nonneg → Qce
open Nat renaming reduceAdd → Qab, reduceSub → Qac, reduceMul → Qad, reduceBEq → Qae, ble → Qao, le_refl → Qap, beq → Qas, mul → Qat, le_trans → Qau, succ → QaB, add → QaE, le_max_right → QaF, le_max_left → QaI, mul_le_mul_right → QaK, zero_le → QaM, lt_of_lt_of_le → QaN, zero_add → QaO, lt_or_ge → QaS, sub → Qbd, sub_zero → Qbh, not_lt_zero → Qbl, succ_pos → Qbq, add_mul → Qbr, zero_mul → Qbu, succ_mul → Qbv, le_of_eq → QbI, mod_eq_of_lt → QbJ, succ_lt_succ → QbL, add_assoc → QbO, lt_irrefl → Qcb, min_eq_left → Qcd, add_zero → Qci, ne_of_lt → Qck, add_comm → Qcq, le_of_lt → Qcr, lt_trichotomy → Qcu, le_succ_of_le → Qcv
open Go.Proofs.Tryz renaming prog → Qaf
open List renaming getD_cons_zero → Qag, getD_cons_succ → Qah, map_cons → Qai, map_nil → Qaj, length_cons → Qak, length_append → Qal, length_nil → Qan, getElem?_eq_getElem → Qav, cons_append → Qaw, getElem_mem → Qax, all_eq_true → Qaz, getD_eq_getElem?_getD → QaC, take_length → QaD, nil_append → QaG, range' → QaH, length_take → QaJ, getD → QaL, length_map → QaP, length_drop → QaQ, range → QaT, eq_nil_of_length_eq_zero → QaV, append_assoc → QaW, cons → QaX, take_zero → Qbe, all_cons → Qbf, append_nil → Qbi, all_append → Qbj, mem_append → Qbk, mem_map → Qbn, getElem_cons_zero → Qbo, getElem_cons_succ → Qbp, mem_cons → Qbt, map_congr_left → Qbw, take_append_drop → Qby, range'_succ → Qbz, drop_zero → QbA, getElem_cons_drop → QbD, map_map → QbG, mem_iff_getElem → QbH, getElem?_take → QbM, mem_singleton → QbN, getElem?_append_right → QbP, getElem?_map → QbQ, mem_of_mem_take → QbR, getElem?_append_left → QbT, mem_cons_of_mem → QbU, drop_drop → QbV, ext_getElem → QbW, map_toArray → QbX, take_succ_cons → QbY, length_pos_iff → QbZ, getElem?_drop → Qcc, map_append → Qcf, take_add_one → Qcg, foldl_append → Qch, countP_singleton → Qcj, drop_length → Qcm, foldr_cons → Qcp, take_take → Qcs
open Bool renaming and_eq_true → Qar, eq_iff_iff → QaU, false_eq_true → QaY, or_eq_true → QaZ, not_eq_true' → Qbc, true_eq_false → QbF, or_eq_false_iff → QbS
open Array renaming length_toList → Qay, getElem?_eq_some_iff → QaA, replicate → Qbb, getD_eq_getD_getElem? → QbB, getElem?_toList → QbE, toList_map → QbK, getElem?_setIfInBounds_ne → Qca, mem_toList_iff → Qcl, toList_append → Qcn, getElem?_eq_getElem → Qco
open Option renaming map_some → QaR, getD_some → Qba, bind_some → Qbm, map_none → Qbx, map_eq_some_iff → QbC
open Function renaming comp_def → Qct
noncomputable section
set_option maxRecDepth 100000
namespace Go.Sy
open Go.Ev Go.Proofs
variable {base:Bs}
inductive SR (α:Type) where
 | ok (x:α) (j:Nat)
 | er (t:Tk)
def Nbs (ts:List Tk):Prop:=∀ i,(tk ts i).num≤1000000
def AnS {α:Type}(base:Bs)(f:FuncId)(c xs:List AV)(ts:List Tk)(d:Nat)(enc:α->AV):SR α->Prop
 | .ok x j=>PM Qaf base f c xs (.ok (enc x)) (pC ts j d)
 | .er t=>∃ i' d',PM Qaf base f c xs (.pn (er t)) (pC ts i' d')
def SK {α:Type}(ts:List Tk)(d:Nat)(enc:α->AV)(r:SR α)(v:AV)(s:St):Prop:=match r with | .ok y j=>G1 3 (pC ts j d) (enc y) v s | .er _=>False
def SP {α:Type}(ts:List Tk)(r:SR α)(v:AV)(s:St):Prop:=match r with | .ok _ _=>False | .er t=>∃ i' d',G1 3 (pC ts i' d') (er t) v s
theorem G6 {α:Type}(ts:List Tk)(d:Nat)(enc:α->AV)(y:α)(j:Nat)(v:AV)(s:St):SK ts d enc (.ok y j) v s=G1 3 (pC ts j d) (enc y) v s:=nr rfl
theorem zb {α:Type}(ts:List Tk)(t:Tk)(v:AV)(s:St):SP (α:=α) ts (.er t) v s = ∃ i' d',G1 3 (pC ts i' d') (er t) v s:=nr rfl
theorem wL {α:Type}{f:FuncId}{F:XF}(hl:jD Qaf f=some F)(hnd:F.body.nd=true)(hm:base.pur f=3){xs:List AV}{ts:List Tk}{i d:Nat}{enc:α->AV}{r:SR α}
  (h:xC Qaf base F.body (jm F.ps (.ptr 0 0 :: xs)) (nw st0 (pC ts i d)) (QK Qaf F.res (SK ts d enc r)) λv _ s=>SP ts r v s.bare):AnS base f (pC ts i d) xs ts d enc r:=by
 rw [←K0] at h;obtain ⟨q,he,hq⟩:=XL (st:=YI (pC ts i d)) (K:=SK ts d enc r) (Kp:=SP ts r) hl hnd h;cases r with
 | ok y j=>
  refine PM.of hm rfl ⟨q,he,?_⟩;cases q <;> first | exact hq | exact hq.elim
 | er t=>
  cases q with
  | no=>exact hq.elim
  | ok v s=>exact (hq:False).elim
  | pn v s=>
   obtain ⟨i',d',hq⟩:=(hq:∃ i' d',G1 3 (pC ts i' d') (er t) v s);exact ⟨i',d',PM.of hm rfl ⟨_,he,hq⟩⟩
def Yj (ts:List Tk)(i:Nat):SR Int:=
 if isM (tk ts i) [[45]]=true then (if (tk ts (i+1)).kind=2 then .ok (-((tk ts (i+1)).num:Int)) (i+2) else .er (tk ts (i+1)))
 else (if (tk ts i).kind=2 then .ok ((tk ts i).num:Int) (i+1) else .er (tk ts i))
theorem jaw (hb:NB base){ts:List Tk}(W:Wds ts)(N:Nbs ts){i d:Nat}(hi:i<ts.length):AnS base 128 (pC ts i d) [] ts d (λn=>.int .i64 n) (Yj ts i):=by
 have wl:=W.len;have T:=Yd hb hi (d:=d) (by omega) [[45]] (cs:=[.str [45]]) (n:=1) rfl rfl (by decide);unfold Yj;by_cases c1:isM (tk ts i) [[45]]=true
 ·rw [if_pos c1];have hi1:=W.isM hi c1;have hN:=λst p=>@Yk base hb ts (i+1) d hi1 st p;have hn:=N (i+1);by_cases k2:(tk ts (i+1)).kind=2
  ·rw [if_pos k2];have k2':((tk ts (i+1)).kind:Int)=2:=by omega
   show PM _ _ _ _ _ _ _;unfold pC at *;refine jZ jdi (by rfl) (hb.pur 128 3 (by decide)) rfl ?_;simp only [HQ,jm,Qai,Qaj,Qag,Qah];unfold HP;try dsimp only [oo,oO,ot,oT,os,og,oh,oc,on,oN,oP]
   repeat' (first | (apply jc <;> intro _) | simp (disch:=first | exact dzD | fail) only [T,c1,hN,k2',jd,Tk.cells_R,rzZ,Qab,Qac,Qad,Qaa,Qae])
   (refine G1.done ?_ (by rfl) (by rfl) ?_; (· (first | exact cyD | fail)); (· first | exact vyD | skip))
  ·rw [if_neg k2];have k2':¬ ((tk ts (i+1)).kind:Int)=2:=by omega
   refine ⟨i+1,d,?_⟩;unfold pC at *;refine jZ jdi (by rfl) (hb.pur 128 3 (by decide)) rfl ?_;simp only [HQ,jm,Qai,Qaj,Qag,Qah];unfold HP;try dsimp only [oo,oO,ot,oT,os,og,oh,oc,on,oN,oP]
   repeat' (first | (apply jc <;> intro _) | simp (disch:=first | exact dzD | fail) only [T,c1,hN,k2',JP hb,jd,Tk.cells_R,rzZ,Qab,Qac,Qad,Qaa,Qae])
   (refine G1.done ?_ (by rfl) (by rfl) ?_; (· (first | exact cyD | fail)); (· first | exact vyD | skip))
 ·rw [if_neg c1];have hN:=λst p=>@Yk base hb ts i d hi st p;have hn:=N i;by_cases k2:(tk ts i).kind=2
  ·rw [if_pos k2];have k2':((tk ts i).kind:Int)=2:=by omega
   show PM _ _ _ _ _ _ _;unfold pC at *;refine jZ jdi (by rfl) (hb.pur 128 3 (by decide)) rfl ?_;simp only [HQ,jm,Qai,Qaj,Qag,Qah];unfold HP;try dsimp only [oo,oO,ot,oT,os,og,oh,oc,on,oN,oP]
   repeat' (first | (apply jc <;> intro _) | simp (disch:=first | exact dzD | fail) only [T,c1,hN,k2',jd,Tk.cells_R,rzZ,Qab,Qac,Qad,Qaa,Qae])
   (refine G1.done ?_ (by rfl) (by rfl) ?_; (· (first | exact cyD | fail)); (· first | exact vyD | skip))
  ·rw [if_neg k2];have k2':¬ ((tk ts i).kind:Int)=2:=by omega
   refine ⟨i,d,?_⟩;unfold pC at *;refine jZ jdi (by rfl) (hb.pur 128 3 (by decide)) rfl ?_;simp only [HQ,jm,Qai,Qaj,Qag,Qah];unfold HP;try dsimp only [oo,oO,ot,oT,os,og,oh,oc,on,oN,oP]
   repeat' (first | (apply jc <;> intro _) | simp (disch:=first | exact dzD | fail) only [T,c1,hN,k2',JP hb,jd,Tk.cells_R,rzZ,Qab,Qac,Qad,Qaa,Qae])
   (refine G1.done ?_ (by rfl) (by rfl) ?_; (· (first | exact cyD | fail)); (· first | exact vyD | skip))
structure EnumT where
 name:List Nat
 vals:List (List Nat)
 line:Int
 col:Int
def enE (e:EnumT):List AV:=[.str e.name,.lst e.vals.length (e.vals.map .str),.int .i64 (e.line:Int),.int .i64 (e.col:Int)]
def X9 (ts:List Tk):Nat->Nat->List (List Nat)->SR (List (List Nat))
 | 0,i,_=>.er (tk ts i)
 | n+1,i,vs=>if (tk ts i).kind=1 then
   (if 32≤vs.length then .er (tk ts i)
    else if isM (tk ts (i+1)) [[44]]=true then X9 ts n (i+2) (vs ++ [(tk ts i).text])
    else if isM (tk ts (i+1)) [[125]]=true then .ok (vs ++ [(tk ts i).text]) (i+2)
    else .er (tk ts (i+1)))
  else .er (tk ts i)
def ZN (ts:List Tk)(i:Nat):SR EnumT:=
 if (tk ts i).kind=1 then
  (if isM (tk ts (i+1)) [[123]]=true then (match X9 ts ts.length (i+2) [] with
    | .ok vs j=>.ok ⟨(tk ts i).text,vs,(tk ts i).line,(tk ts i).col⟩ j
    | .er t=>.er t)
   else .er (tk ts (i+1)))
 else .er (tk ts i)
end Go.Sy
end
noncomputable section
set_option maxRecDepth 100000
namespace Go.Sy
open Go.Ev Go.Proofs
variable {base:Bs}
theorem ZX (hb:NB base){n:Nat}(h:n<32)(t:Tk):Tot base 77 [.int .i64 (n:Int),.agg t.cells] (.tup []):=by
 have:=jfB hb n t;rw [if_neg (by omega)] at this;exact this
theorem ZY (hb:NB base){n:Nat}(h:32≤n)(t:Tk):Ret base 77 [.int .i64 (n:Int),.agg t.cells] (.pn (er t)):=by
 have:=jfB hb n t;rw [if_pos h] at this;exact this
theorem jo0:Go.Ev.isAgg Qaf 91=some false:=by kernel_rfl
theorem joZ:Go.Ev.sizeOf Qaf 91=some 1:=by kernel_rfl
theorem KJ {b o:Nat}{v:AV}{h:T AO}(ho:o<qo h b)(hv:rat h b o=v)(hc:eqs v=true):(jX Qaf 91 (.ptr b o) v h=true)=True:=eq_true (Qa jo0 joZ ho hv hc)
theorem Lv.eqs {lo hi n z:Nat}{s:St}{v:AV}{cs:List AV}(h:Lv lo hi s v n cs z):Go.Sy.eqs v=true:=by
 rcases h with ⟨rfl,_⟩ | ⟨b,rfl,_⟩ <;> rfl
theorem Lv.cell {lo hi n z:Nat}{s:St}{v:AV}{cs:List AV}(h:Lv lo hi s v n cs z):v.cell=true:=by
 rcases h with ⟨rfl,_⟩ | ⟨b,rfl,_⟩ <;> rfl
theorem Lv.cells {lo hi n z:Nat}{s:St}{v:AV}{cs:List AV}(h:Lv lo hi s v n cs z):v.cells=[v]:=by
 rcases h with ⟨rfl,_⟩ | ⟨b,rfl,_⟩ <;> rfl
theorem Lv.plain {lo hi n z:Nat}{s:St}{v:AV}{cs:List AV}(h:Lv lo hi s v n cs z):v.plain=true:=by
 rcases h with ⟨rfl,_⟩ | ⟨b,rfl,_⟩ <;> rfl
theorem Lv.len {lo hi n z:Nat}{s:St}{v:AV}{cs:List AV}(h:Lv lo hi s v n cs z)(st:St)(K:AV->St->Prop):jk (jaF v st) K=K (.int .i64 (n:Int)) st:=by
 rcases h with ⟨rfl,rfl,_⟩ | ⟨b,rfl,_⟩
 ·exact jab
 ·exact jdl ..
theorem jB (z:Nat)(v:AV)(s:St):(apv z v s).cells=[apv z v s]:=by unfold apv; split <;> rfl
theorem jI (z:Nat)(v:AV)(s:St):(apv z v s).plain=true:=by unfold apv; split <;> rfl
theorem jL (z:Nat)(v:AV)(s:St)(l:List AV):lall AV.cell (apv z v s :: l)=lall AV.cell l:=by unfold apv; split <;> rfl
set_option maxHeartbeats 4000000 in
theorem jn7 (hb:NB base){ts:List Tk}(W:Wds ts){i d:Nat}(hi:i<ts.length):AnS base 78 (pC ts i d) [] ts d (λe=>.agg (enE e)) (ZN ts i):=by
 have wl:=W.len;have N:=λst p=>@vY base hb ts i d hi (by omega) st p;unfold ZN;by_cases k1:(tk ts i).kind=1
 ·rw [if_pos k1];have hi1:i+1<ts.length:=W.next i hi (by omega)
  have M:=λst p=>@Qd base hb ts (i+1) d hi1 (by omega) [123] st p;by_cases c1:isM (tk ts (i+1)) [[123]]=true
  ·rw [if_pos c1];have hi2:=W.isM hi1 c1;suffices h:∀ r:SR EnumT,(match X9 ts ts.length (i+2) [] with
    | .ok vs j=>SR.ok ⟨(tk ts i).text,vs,(tk ts i).line,(tk ts i).col⟩ j
    | .er t=>.er t:SR EnumT)=r->AnS base 78 (pC ts i d) [] ts d (λe=>.agg (enE e)) r from h _ rfl
   intro r hr;refine wL x78 (by rfl) (hb.pur 78 3 (by decide)) ?_;simp only [y78,jm,Qai,Qaj,Qag,Qah];unfold z78;try dsimp only [oo,oO,ot,oT,os,og,oh,oc,on,oN,oP]
   unfold pC at *;repeat' (first | (apply jc <;> intro _) | simp (disch:=first | exact dzD | fail) only [N,k1,M,c1,jd,Tk.cells_R,rzZ,Qab,Qac,Qad,Qaa,Qae])
   refine vN λu hu=>?_;have n0:u.nx=4:=by rw [hu]; rfl
   have C0:Cl u 0 (pC ts (i+2) d):=by
    rw [hu]; unfold pC
    (first | exact cyD | fail)
   have C1:Cl u 1 [.str [],.nils,.int .i64 0,.int .i64 0]:=by
    rw [hu]
    (first | exact cyD | fail)
   have C3:Cl u 3 [.str (tk ts i).text,.nils,.int .i64 ((tk ts i).line:Int),.int .i64 ((tk ts i).col:Int)]:=by
    rw [hu]
    (first | exact cyD | fail)
   clear hu N M;generalize (tk ts i).text=nm at *;generalize (tk ts i).line=ln at *;generalize (tk ts i).col=co at *;refine zo (λmm L s=>∃ (m i':Nat) (vs:List (List Nat)) (v:AV),mm=m∧ts.length≤i'+m∧i'<ts.length∧(match X9 ts m i' vs with | .ok vs j=>SR.ok ⟨nm,vs,ln,co⟩ j | .er t=>.er t:SR EnumT)=r∧4≤s.nx∧Cl s 0 (pC ts i' d)∧Cl s 1 [.str [],.nils,.int .i64 0,.int .i64 0]∧Cl s 3 [.str nm,v,.int .i64 (ln:Int),.int .i64 (co:Int)]∧Lv 4 s.nx s v vs.length (vs.map .str) 1∧Has L 0 (.ptr 0 0)∧Has L 2 (.ptr 1 0)∧Has L 4 (.ptr 3 0)) ?_ ts.length ?_
   ·rintro m L s ⟨_,i',vs,v,rfl,hm,hi',hl,n0,C0,C1,C3,V,i0,i2,i4⟩;clear hr;cases m with
    | zero=>omega
    | succ m=>
    unfold X9 at hl;obtain ⟨q,hq⟩:∃ q,q=s.nx:=⟨_,rfl⟩;rw [←hq] at V;have hq':q≤s.nx:=QbI hq;have hN:=λst p=>@Yk base hb ts i' d hi' st p;have hM:=λst p=>@vY base hb ts i' d hi' (by omega) st p;have L0:=C0.lt;have L1:=C1.lt;have L3:=C3.lt;have ve:=V.eqs;have g3:rat s.h 3 1=v:=C3.cell 1 (QbL (Qbq 2));have vl:=V.len;by_cases k1:(tk ts i').kind=1
    ·rw [if_pos k1] at hl;have k1':((tk ts i').kind:Int)=1:=by omega
     have hi1:i'+1<ts.length:=W.next i' hi' (by omega)
     by_cases h32:32≤vs.length
     ·rw [if_pos h32] at hl;subst hl;have R:=ZY hb h32 (tk ts i');unfold pC at *
      (have zz:=aI @g3 (aI C0.r (aI C1.r C3.r)); (repeat' (first | (apply jc <;> intro _) | simp (disch:=first | exact qK | fail) only [ja i0,ja i2,ja i4,hN,k1',vl,R,KJ,ve,zb,C0.q,C1.q,C3.q,g3,C0.r,C1.r,C3.r,jd,Tk.cells_R,rzZ,Qab,Qac,Qad,Qaa,Qae])); (all_goals (clear zz)))
      refine ⟨i',d,?_⟩;unfold pC
      (refine G1.done ?_ (by rfl) (by rfl) ?_; (· (have zz:=aI C0.q (aI C1.q (aI C3.q (aI C0.r (aI C1.r C3.r)))); first | exact qf | fail)); (· first | exact vyD | skip))
     ·rw [if_neg h32] at hl;have R:=ZX hb (show vs.length<32 by omega) (tk ts i');have T:=Yd hb hi1 (d:=d) (by omega) [[44]] (cs:=[.str [44]]) (n:=1) rfl rfl (by decide);have M:=λst p=>@Qd base hb ts (i'+1) d hi1 (by omega) [125] st p;have A:=λst bv xc xx K h hv=>@Q4 4 q vs.length 1 st v (vs.map .str) K 16 bv xc xx h (by decide) (by omega) (by omega) hv;have V2:∀ st m',Lv 4 q st v vs.length (vs.map .str) 1->4≤st.nx->m'=st.nx+1->Lv 4 m' (aps v st [.str (tk ts i').text]) (apv 1 v st) (vs ++ [(tk ts i').text]).length ((vs ++ [(tk ts i').text]).map .str) 1:=λst m' h h2 h3=>by
       rw [Qal,Qcf];exact h.put rfl h2 h3
      unfold pC at *
      (have zz:=aI @g3 (aI V.ln (aI V.rts (aI @jC (aI @jE (aI @jG (aI @V (aI @ve (aI @jB (aI @jI (aI @jL (aI C0.r (aI C1.r C3.r)))))))))))); (repeat' (first | (apply jc <;> intro _) | simp (disch:=first | exact qK | fail) only [ja i0,ja i2,ja i4,hN,hM,k1,k1',vl,R,KJ,ve,A,V.at,jB,C0.q,C1.q,C3.q,g3,V.ln,V.rts,jC,jE,jG,V,ve,jB,jI,jL,C0.r,C1.r,C3.r,jd,Tk.cells_R,rzZ,Qab,Qac,Qad,Qaa,Qae])); (all_goals (clear zz)))
      rw [T _ 0 (s.nx+1+1) 1 true (by (have zz:=aI C0.q (aI C1.q (aI C3.q (aI @g3 (aI V.ln (aI V.rts (aI C0.r (aI C1.r C3.r))))))); first | exact qf | fail)) (by (have zz:=aI C0.q (aI C1.q (aI C3.q (aI @g3 (aI V.ln (aI V.rts (aI C0.r (aI C1.r C3.r))))))); first | exact qf | fail)) (by omega)]
      (have zz:=aI @g3 (aI V.ln (aI V.rts (aI @jB (aI @jI (aI @jL (aI C0.r (aI C1.r C3.r))))))); (repeat' (first | (apply jc <;> intro _) | simp (disch:=first | exact qK | fail) only [ja i0,ja i2,ja i4,M,V.at,jB,G6,zb,C0.q,C1.q,C3.q,g3,V.ln,V.rts,jB,jI,jL,C0.r,C1.r,C3.r,jd,Tk.cells_R,rzZ,Qab,Qac,Qad,Qaa,Qae])); (all_goals (clear zz)))
      ·rename_i c;rw [if_pos c] at hl;have hi2:=W.isM hi1 c;refine ⟨m,by omega,m,i'+1+1,vs ++ [(tk ts i').text],?v,rfl,by omega,hi2,hl,by omega,?c0,?c1,?c3,?lv,?has⟩;case lv=>
        refine Lv.up (hi:=s.nx+2) ?_ (by omega);simp (disch:=first | omega | (simp only [jg,jh,jj,jl]; omega)) only [jC,jE,jG];refine V2 _ _ ?_ ?_ ?_;all_goals first | (simp only [jg,jh]; done) | (simp only [jg,jh]; omega) | (simp (disch:=first | omega | (simp only [jg,jh]; omega)) only [jC,jE]; exact V)
       case c0=>(have zz:=aI C0.q (aI C1.q (aI C3.q (aI @g3 (aI V.ln (aI V.rts (aI @jB (aI @jI (aI @jL (aI C0.r (aI C1.r C3.r)))))))))); first | exact qf | fail)
       case c1=>(have zz:=aI C0.q (aI C1.q (aI C3.q (aI @g3 (aI V.ln (aI V.rts (aI @jB (aI @jI (aI @jL (aI C0.r (aI C1.r C3.r)))))))))); first | exact qf | fail)
       case c3=>(have zz:=aI C0.q (aI C1.q (aI C3.q (aI @g3 (aI V.ln (aI V.rts (aI @jB (aI @jI (aI @jL (aI C0.r (aI C1.r C3.r)))))))))); first | exact qf | fail)
       case has=>simp (disch:=decide) only [Qam,Qaq,z0,z1,je,jb,and_true,true_and,i0,i2,i4]
      ·rename_i c c2;rw [if_neg c,if_pos c2] at hl;have hl:SR.ok (⟨nm,vs ++ [(tk ts i').text],ln,co⟩:EnumT) (i'+2)=r:=hl;subst hl;show G1 3 (pC ts (i'+2) d) (.agg (enE ⟨nm,vs ++ [(tk ts i').text],ln,co⟩)) _ _;refine G1.done ?_ (by rfl) (by rfl) (FzD.agg (.cons (.pc rfl) (.cons (Lv.fz (lo:=4) (hi:=s.nx+2) (z:=1) ?_ (by decide) (vR _)) (.cons (.pc rfl) (.cons (.pc rfl) .nil)))))
       ·unfold pC
        (have zz:=aI C0.q (aI C1.q (aI C3.q (aI @g3 (aI V.ln (aI V.rts (aI @jB (aI @jI (aI @jL (aI C0.r (aI C1.r C3.r)))))))))); first | exact qf | fail)
       ·simp (disch:=first | omega | (simp only [jg,jh,jj,jl]; omega)) only [jF,jC,jE,jG];refine V2 _ _ ?_ ?_ ?_;all_goals first | (simp only [jg,jh]; done) | (simp only [jg,jh]; omega) | (simp (disch:=first | omega | (simp only [jg,jh]; omega)) only [jC,jE]; exact V)
      ·rename_i c c2;rw [if_neg c,if_neg c2] at hl;have hl:SR.er (tk ts (i'+1))=r:=hl;subst hl;refine ⟨i'+1,d,?_⟩;unfold pC
       (refine G1.done ?_ (by rfl) (by rfl) ?_; (· (have zz:=aI C0.q (aI C1.q (aI C3.q (aI @g3 (aI V.ln (aI V.rts (aI @jB (aI @jI (aI @jL (aI C0.r (aI C1.r C3.r)))))))))); first | exact qf | fail)); (· first | exact vyD | skip))
    ·rw [if_neg k1] at hl;have k1':¬ ((tk ts i').kind:Int)=1:=by omega
     subst hl;unfold pC at *
     (have zz:=aI @g3 (aI C0.r (aI C1.r C3.r)); (repeat' (first | (apply jc <;> intro _) | simp (disch:=first | exact qK | fail) only [ja i0,ja i2,ja i4,hN,hM,k1,k1',KJ,ve,zb,C0.q,C1.q,C3.q,g3,C0.r,C1.r,C3.r,jd,Tk.cells_R,rzZ,Qab,Qac,Qad,Qaa,Qae])); (all_goals (clear zz)))
     refine ⟨i',d,?_⟩;unfold pC
     (refine G1.done ?_ (by rfl) (by rfl) ?_; (· (have zz:=aI C0.q (aI C1.q (aI C3.q (aI C0.r (aI C1.r C3.r)))); first | exact qf | fail)); (· first | exact vyD | skip))
   ·refine ⟨ts.length,i+2,[],.nils,rfl,by omega,hi2,hr,by omega,C0,C1,C3,Lv.nil,?_⟩;simp (disch:=decide) only [Qam,Qaq,z0,z1,je,jb,and_true,true_and]
  ·rw [if_neg c1];refine ⟨i+1,d,?_⟩;unfold pC at *;refine jZ x78 (by rfl) (hb.pur 78 3 (by decide)) rfl ?_;simp only [y78,jm,Qai,Qaj,Qag,Qah];unfold z78;try dsimp only [oo,oO,ot,oT,os,og,oh,oc,on,oN,oP]
   repeat' (first | (apply jc <;> intro _) | simp (disch:=first | exact dzD | fail) only [N,k1,M,c1,jd,Tk.cells_R,rzZ,Qab,Qac,Qad,Qaa,Qae])
   (refine G1.done ?_ (by rfl) (by rfl) ?_; (· (first | exact cyD | fail)); (· first | exact vyD | skip))
 ·rw [if_neg k1];refine ⟨i,d,?_⟩;unfold pC at *;refine jZ x78 (by rfl) (hb.pur 78 3 (by decide)) rfl ?_;simp only [y78,jm,Qai,Qaj,Qag,Qah];unfold z78;try dsimp only [oo,oO,ot,oT,os,og,oh,oc,on,oN,oP]
  repeat' (first | (apply jc <;> intro _) | simp (disch:=first | exact dzD | fail) only [N,k1,jd,Tk.cells_R,rzZ,Qab,Qac,Qad,Qaa,Qae])
  (refine G1.done ?_ (by rfl) (by rfl) ?_; (· (first | exact cyD | fail)); (· first | exact vyD | skip))
end Go.Sy
end
noncomputable section
set_option maxRecDepth 100000
namespace Go.Sy
open Go.Ev Go.Proofs
variable {base:Bs}
structure DeclT where
 name:List Nat
 ty:List Nat
 lo:Int
 hi:Int
 begins:List Ex
 line:Int
 col:Int
def qc (d:DeclT):List AV:=[.str d.name,.str d.ty,.int .i64 d.lo,.int .i64 d.hi,.lst d.begins.length (fl eE d.begins),.int .i64 (d.line:Int),.int .i64 (d.col:Int)]
def uv (ts:List Tk)(i:Nat):SR (List Nat×Int×Int):=
 if isM (tk ts i) [[98,111,111,108]]=true then .ok ([98,111,111,108],0,0) (i+1)
 else if (tk ts i).kind=1 then .ok ((tk ts i).text,0,0) (i+1)
 else match Yj ts i with
  | .er t=>.er t
  | .ok lo j=>if isM (tk ts j) [[46,46]]=true then (match Yj ts (j+1) with
   | .er t=>.er t
   | .ok hi k=>.ok ([],lo,hi) k) else .er (tk ts j)
def vK (ts:List Tk)(i:Nat):SR (List Ex):=
 if isM (tk ts i) [[61]]=true then (match yI ts (i+1) with
  | .er t=>.er t
  | .ok x j=>if isM (tk ts j) [[59]]=true then .ok [x] (j+1) else .er (tk ts j))
 else if isM (tk ts i) [[59]]=true then .ok [] (i+1) else .er (tk ts i)
def ZP (ts:List Tk)(i:Nat):SR DeclT:=
 if (tk ts i).kind=1 then
  (if isM (tk ts (i+1)) [[58]]=true then (match uv ts (i+2) with
    | .er t=>.er t
    | .ok y j=>(match vK ts j with
     | .er t=>.er t
     | .ok bs k=>.ok ⟨(tk ts i).text,y.1,y.2.1,y.2.2,bs,(tk ts i).line,(tk ts i).col⟩ k))
   else .er (tk ts (i+1)))
 else .er (tk ts i)
def zD:List AV:=[.str [],.str [],.int .i64 0,.int .i64 0,.nils,.int .i64 0,.int .i64 0]
theorem jpm {m d b cap:Nat}{s:St}{ks:List Ex}{ex:Bool}{cs:List AV}(C:Cl s b cs)(hc:cs=fl eE ks)(hm:m≤b):FzD m (d+3) s (.slice b 0 ks.length cap 6 ex) (.lst ks.length (fl eE ks)):=by
 subst hc;have hl:=zU zJ ks;refine FzD.slice C.rw_ (QbI hl.symm) hm ?_;rw [←hl,QaD];exact .pc (zg qQ ks)
set_option maxHeartbeats 4000000 in
theorem jek (hb:NB base){ts:List Tk}(W:Wds ts){j:Nat}(hj:j<ts.length){nm ty:List Nat}{lo hi:Int}{ln co:Nat}{r:SR DeclT}
  (hr:(match vK ts j with | .er t=>SR.er t | .ok bs k=>.ok ⟨nm,ty,lo,hi,bs,ln,co⟩ k)=r) {L:Sl} {s:St} (n0:4≤s.nx) (C0:Cl s 0 (pC ts j 0)) (C1:Cl s 1 zD)
  (C3:Cl s 3 [.str nm,.str ty,.int .i64 lo,.int .i64 hi,.nils,.int .i64 (ln:Int),.int .i64 (co:Int)]) (i0:Has L 0 (.ptr 0 0)) (i2:Has L 2 (.ptr 1 0)) (i4:Has L 4 (.ptr 3 0)) :
  xC Qaf base jhl L s (QK Qaf y79.res (SK ts 0 (λd=>.agg (qc d)) r)) λv _ s=>SP ts r v s.bare:=by
 have wl:=W.len;have L0:=C0.lt;have L1:=C1.lt;have L3:=C3.lt;have T:=Yd hb hj (d:=0) (by omega) [[61]] (cs:=[.str [61]]) (n:=1) rfl rfl (by decide);unfold vK at hr;unfold jhl zD pC at *;try dsimp only [oo,oO,ot,oT,os,og,oh,oc,on,oN,oP]
 simp only [y79];by_cases c1:isM (tk ts j) [[61]]=true
 ·rw [if_pos c1] at hr;have hj1:=W.isM hj c1;have A:=Vd hb W hj1;cases hw:yI ts (j+1) with
  | er t=>
   rw [hw] at hr A;have hr:SR.er t=r:=hr;subst hr;obtain ⟨i',d',A⟩:=A;have E:∀ st p,Cl st p (pC ts (j+1) 0)->∀ K Kp,XB Qaf base 48 [.ptr p 0] st K Kp=_:=λst p C K Kp=>A.xb C rfl (λst=>hb.no 48 (by decide) _ _) K Kp;unfold pC at *
   (have zz:=aI C0.r (aI C1.r C3.r); (repeat' (first | (apply jc <;> intro _) | simp (disch:=first | exact qK | fail) only [ja i0,ja i2,ja i4,T,c1,E,zb,C0.q,C1.q,C3.q,C0.r,C1.r,C3.r,jd,Tk.cells_R,rzZ,Qab,Qac,Qad,Qaa,Qae])); (all_goals (clear zz)))
   refine ⟨i',d',?_⟩;unfold pC
   (refine G1.done ?_ (by rfl) (by rfl) ?_; (· (have zz:=aI C0.q (aI C1.q (aI C3.q (aI C0.r (aI C1.r C3.r)))); first | exact qf | fail)); (· first | exact vyD | skip))
  | ok x q=>
   rw [hw] at hr A;have A:PM _ _ _ _ _ _ _:=A;have E:∀ st p,Cl st p (pC ts (j+1) 0)->∀ K Kp,XB Qaf base 48 [.ptr p 0] st K Kp=_:=λst p C K Kp=>A.xb C rfl (λst=>hb.no 48 (by decide) _ _) K Kp;have hq:q<ts.length:=(yy W hj1 hw).2.1;have M:=λst p=>@Qd base hb ts q 0 hq (by omega) [59] st p;unfold pC at *
   (have zz:=aI C0.r (aI C1.r C3.r); (repeat' (first | (apply jc <;> intro _) | simp (disch:=first | exact qK | fail) only [ja i0,ja i2,ja i4,T,c1,E,M,zb,G6,C0.q,C1.q,C3.q,C0.r,C1.r,C3.r,jd,Tk.cells_R,rzZ,Qab,Qac,Qad,Qaa,Qae])); (all_goals (clear zz)))
   ·rename_i c2;dsimp only at hr;rw [if_pos c2] at hr;have hr:SR.ok (⟨nm,ty,lo,hi,[x],ln,co⟩:DeclT) (q+1)=r:=hr;subst hr;show G1 3 (pC ts (q+1) 0) (.agg (qc ⟨nm,ty,lo,hi,[x],ln,co⟩)) _ _;refine G1.done ?_ (by rfl) (by rfl) (FzD.agg (.cons (.pc rfl) (.cons (.pc rfl) (.cons (.pc rfl) (.cons (.pc rfl) (.cons (jpm (ks:=[x]) (cs:=eE x) ?_ (by rw [Jl]) (by omega)) (.pc rfl)))))))
    ·unfold pC
     (have zz:=aI C0.q (aI C1.q (aI C3.q (aI C0.r (aI C1.r C3.r)))); first | exact qf | fail)
    ·(have zz:=aI C0.q (aI C1.q (aI C3.q (aI C0.r (aI C1.r C3.r)))); first | exact qf | fail)
   ·rename_i c2;dsimp only at hr;rw [if_neg c2] at hr;have hr:SR.er (tk ts q)=r:=hr;subst hr;refine ⟨q,0,?_⟩;unfold pC
    (refine G1.done ?_ (by rfl) (by rfl) ?_; (· (have zz:=aI C0.q (aI C1.q (aI C3.q (aI C0.r (aI C1.r C3.r)))); first | exact qf | fail)); (· first | exact vyD | skip))
 ·rw [if_neg c1] at hr;have M:=λst p=>@Qd base hb ts j 0 hj (by omega) [59] st p;unfold pC at *
  (have zz:=aI C0.r (aI C1.r C3.r); (repeat' (first | (apply jc <;> intro _) | simp (disch:=first | exact qK | fail) only [ja i0,ja i2,ja i4,T,c1,M,zb,G6,C0.q,C1.q,C3.q,C0.r,C1.r,C3.r,jd,Tk.cells_R,rzZ,Qab,Qac,Qad,Qaa,Qae])); (all_goals (clear zz)))
  ·rename_i c2;rw [if_pos c2] at hr;have hr:SR.ok (⟨nm,ty,lo,hi,[],ln,co⟩:DeclT) (j+1)=r:=hr;subst hr;show G1 3 (pC ts (j+1) 0) (.agg (qc ⟨nm,ty,lo,hi,[],ln,co⟩)) _ _;refine G1.done ?_ (by rfl) (by rfl) (FzD.agg (.cons (.pc rfl) (.cons (.pc rfl) (.cons (.pc rfl) (.cons (.pc rfl) (.cons .nils (.pc rfl)))))));unfold pC
   (have zz:=aI C0.q (aI C1.q (aI C3.q (aI C0.r (aI C1.r C3.r)))); first | exact qf | fail)
  ·rename_i c2;rw [if_neg c2] at hr;have hr:SR.er (tk ts j)=r:=hr;subst hr;refine ⟨j,0,?_⟩;unfold pC
   (refine G1.done ?_ (by rfl) (by rfl) ?_; (· (have zz:=aI C0.q (aI C1.q (aI C3.q (aI C0.r (aI C1.r C3.r)))); first | exact qf | fail)); (· first | exact vyD | skip))
end Go.Sy
end
noncomputable section
set_option maxRecDepth 100000
namespace Go.Sy
open Go.Ev Go.Proofs
variable {base:Bs}
theorem kr {ts:List Tk}(W:Wds ts){i j:Nat}{n:Int}(hi:i<ts.length)(h:Yj ts i=.ok n j):j<ts.length:=by
 unfold Yj at h;by_cases c:isM (tk ts i) [[45]]=true
 ·rw [if_pos c] at h;have h1:=W.isM hi c;by_cases k:(tk ts (i+1)).kind=2
  ·rw [if_pos k] at h; cases h; exact W.next _ h1 (by omega)
  ·rw [if_neg k] at h; cases h
 ·rw [if_neg c] at h;by_cases k:(tk ts i).kind=2
  ·rw [if_pos k] at h; cases h; exact W.next _ hi (by omega)
  ·rw [if_neg k] at h; cases h
set_option maxHeartbeats 4000000 in
theorem jpv (hb:NB base){ts:List Tk}(W:Wds ts)(N:Nbs ts){i:Nat}(hi:i<ts.length){nm:List Nat}{ln co:Nat}{r:SR DeclT}
  (hr:(match uv ts i with | .er t=>SR.er t | .ok y j=>(match vK ts j with | .er t=>.er t | .ok bs k=>.ok ⟨nm,y.1,y.2.1,y.2.2,bs,ln,co⟩ k))=r) {L:Sl} {s:St} (n0:4≤s.nx) (C0:Cl s 0 (pC ts i 0)) (C1:Cl s 1 zD)
  (C3:Cl s 3 [.str nm,.str [],.int .i64 0,.int .i64 0,.nils,.int .i64 (ln:Int),.int .i64 (co:Int)]) (i0:Has L 0 (.ptr 0 0)) (i2:Has L 2 (.ptr 1 0)) (i4:Has L 4 (.ptr 3 0)) :
  xC Qaf base jhm L s (QK Qaf y79.res (SK ts 0 (λd=>.agg (qc d)) r)) λv _ s=>SP ts r v s.bare:=by
 have wl:=W.len;have L0:=C0.lt;have L1:=C1.lt;have L3:=C3.lt;have T:=Yd hb hi (d:=0) (by omega) [[98,111,111,108]] (cs:=[.str [98,111,111,108]]) (n:=1) rfl rfl (by decide);have hN:=λst p=>@Yk base hb ts i 0 hi st p;have hM:=λst p=>@vY base hb ts i 0 hi (by omega) st p;unfold uv at hr;unfold jhm zD pC at *;try dsimp only [oo,oO,ot,oT,os,og,oh,oc,on,oN,oP]
 by_cases c1:isM (tk ts i) [[98,111,111,108]]=true
 ·rw [if_pos c1] at hr;have hi1:=W.isM hi c1
  (have zz:=aI C0.r (aI C1.r C3.r); (repeat' (first | (apply jc <;> intro _) | simp (disch:=first | exact qK | fail) only [ja i0,ja i2,ja i4,T,c1,C0.q,C1.q,C3.q,C0.r,C1.r,C3.r,jd,Tk.cells_R,rzZ,Qab,Qac,Qad,Qaa,Qae])); (all_goals (clear zz)))
  refine jek hb W hi1 hr ?_ ?_ ?_ ?_ ?_ ?_ ?_
  ·simp only [jg,jh,jl]; omega
  ·unfold pC
   (have zz:=aI C0.q (aI C1.q (aI C3.q (aI C0.r (aI C1.r C3.r)))); first | exact qf | fail)
  ·unfold zD
   (have zz:=aI C0.q (aI C1.q (aI C3.q (aI C0.r (aI C1.r C3.r)))); first | exact qf | fail)
  ·(have zz:=aI C0.q (aI C1.q (aI C3.q (aI C0.r (aI C1.r C3.r)))); first | exact qf | fail)
  ·simp (disch:=decide) only [Qam,Qaq,z0,z1,je,jb,and_true,true_and,i0]
  ·simp (disch:=decide) only [Qam,Qaq,z0,z1,je,jb,and_true,true_and,i2]
  ·simp (disch:=decide) only [Qam,Qaq,z0,z1,je,jb,and_true,true_and,i4]
 rw [if_neg c1] at hr;by_cases k1:(tk ts i).kind=1
 ·rw [if_pos k1] at hr;have k1':((tk ts i).kind:Int)=1:=by omega
  have hi1:i+1<ts.length:=W.next i hi (by omega)
  (have zz:=aI C0.r (aI C1.r C3.r); (repeat' (first | (apply jc <;> intro _) | simp (disch:=first | exact qK | fail) only [ja i0,ja i2,ja i4,T,c1,k1,k1',hN,hM,C0.q,C1.q,C3.q,C0.r,C1.r,C3.r,jd,Tk.cells_R,rzZ,Qab,Qac,Qad,Qaa,Qae])); (all_goals (clear zz)))
  refine jek hb W hi1 hr ?_ ?_ ?_ ?_ ?_ ?_ ?_
  ·simp only [jg,jh,jl]; omega
  ·unfold pC
   (have zz:=aI C0.q (aI C1.q (aI C3.q (aI C0.r (aI C1.r C3.r)))); first | exact qf | fail)
  ·unfold zD
   (have zz:=aI C0.q (aI C1.q (aI C3.q (aI C0.r (aI C1.r C3.r)))); first | exact qf | fail)
  ·(have zz:=aI C0.q (aI C1.q (aI C3.q (aI C0.r (aI C1.r C3.r)))); first | exact qf | fail)
  ·simp (disch:=decide) only [Qam,Qaq,z0,z1,je,jb,and_true,true_and,i0]
  ·simp (disch:=decide) only [Qam,Qaq,z0,z1,je,jb,and_true,true_and,i2]
  ·simp (disch:=decide) only [Qam,Qaq,z0,z1,je,jb,and_true,true_and,i4]
 rw [if_neg k1] at hr;have k1':¬ ((tk ts i).kind:Int)=1:=by omega
 have A:=jaw hb W N hi (d:=0);cases hn:Yj ts i with
 | er t=>
  rw [hn] at hr A;have hr:SR.er t=r:=hr;subst hr;obtain ⟨i',d',A⟩:=A;have E:∀ st p,Cl st p (pC ts i 0)->∀ K Kp,XB Qaf base 128 [.ptr p 0] st K Kp=_:=λst p C K Kp=>A.xb C rfl (λst=>hb.no 128 (by decide) _ _) K Kp;unfold pC at *
  (have zz:=aI C0.r (aI C1.r C3.r); (repeat' (first | (apply jc <;> intro _) | simp (disch:=first | exact qK | fail) only [ja i0,ja i2,ja i4,T,c1,k1',hN,E,zb,C0.q,C1.q,C3.q,C0.r,C1.r,C3.r,jd,Tk.cells_R,rzZ,Qab,Qac,Qad,Qaa,Qae])); (all_goals (clear zz)))
  refine ⟨i',d',?_⟩;unfold pC
  (refine G1.done ?_ (by rfl) (by rfl) ?_; (· (have zz:=aI C0.q (aI C1.q (aI C3.q (aI C0.r (aI C1.r C3.r)))); first | exact qf | fail)); (· first | exact vyD | skip))
 | ok lo j=>
  rw [hn] at hr A;dsimp only at hr;have A:PM _ _ _ _ _ _ _:=A;have hj:j<ts.length:=kr W hi hn;have E:∀ st p,Cl st p (pC ts i 0)->∀ K Kp,XB Qaf base 128 [.ptr p 0] st K Kp=_:=λst p C K Kp=>A.xb C rfl (λst=>hb.no 128 (by decide) _ _) K Kp;have M:=λst p=>@Qd base hb ts j 0 hj (by omega) [46,46] st p;by_cases c2:isM (tk ts j) [[46,46]]=true
  ·rw [if_pos c2] at hr;have hj1:=W.isM hj c2;have B:=jaw hb W N hj1 (d:=0);cases hn2:Yj ts (j+1) with
   | er t=>
    rw [hn2] at hr B;have hr:SR.er t=r:=hr;subst hr;obtain ⟨i',d',B⟩:=B;have F:∀ st p,Cl st p (pC ts (j+1) 0)->∀ K Kp,XB Qaf base 128 [.ptr p 0] st K Kp=_:=λst p C K Kp=>B.xb C rfl (λst=>hb.no 128 (by decide) _ _) K Kp;unfold pC at *
    (have zz:=aI C0.r (aI C1.r C3.r); (repeat' (first | (apply jc <;> intro _) | simp (disch:=first | exact qK | fail) only [ja i0,ja i2,ja i4,T,c1,k1',hN,E,F,M,c2,zb,C0.q,C1.q,C3.q,C0.r,C1.r,C3.r,jd,Tk.cells_R,rzZ,Qab,Qac,Qad,Qaa,Qae])); (all_goals (clear zz)))
    refine ⟨i',d',?_⟩;unfold pC
    (refine G1.done ?_ (by rfl) (by rfl) ?_; (· (have zz:=aI C0.q (aI C1.q (aI C3.q (aI C0.r (aI C1.r C3.r)))); first | exact qf | fail)); (· first | exact vyD | skip))
   | ok h2 k=>
    rw [hn2] at hr B;have hk:k<ts.length:=kr W hj1 hn2;have B:PM _ _ _ _ _ _ _:=B;have F:∀ st p,Cl st p (pC ts (j+1) 0)->∀ K Kp,XB Qaf base 128 [.ptr p 0] st K Kp=_:=λst p C K Kp=>B.xb C rfl (λst=>hb.no 128 (by decide) _ _) K Kp;unfold pC at *
    (have zz:=aI C0.r (aI C1.r C3.r); (repeat' (first | (apply jc <;> intro _) | simp (disch:=first | exact qK | fail) only [ja i0,ja i2,ja i4,T,c1,k1',hN,E,F,M,c2,C0.q,C1.q,C3.q,C0.r,C1.r,C3.r,jd,Tk.cells_R,rzZ,Qab,Qac,Qad,Qaa,Qae])); (all_goals (clear zz)))
    refine jek hb W hk hr ?_ ?_ ?_ ?_ ?_ ?_ ?_
    ·simp only [jg,jh,jl]; omega
    ·unfold pC
     (have zz:=aI C0.q (aI C1.q (aI C3.q (aI C0.r (aI C1.r C3.r)))); first | exact qf | fail)
    ·unfold zD
     (have zz:=aI C0.q (aI C1.q (aI C3.q (aI C0.r (aI C1.r C3.r)))); first | exact qf | fail)
    ·(have zz:=aI C0.q (aI C1.q (aI C3.q (aI C0.r (aI C1.r C3.r)))); first | exact qf | fail)
    ·simp (disch:=decide) only [Qam,Qaq,z0,z1,je,jb,and_true,true_and,i0]
    ·simp (disch:=decide) only [Qam,Qaq,z0,z1,je,jb,and_true,true_and,i2]
    ·simp (disch:=decide) only [Qam,Qaq,z0,z1,je,jb,and_true,true_and,i4]
  ·rw [if_neg c2] at hr;have hr:SR.er (tk ts j)=r:=hr;subst hr;unfold pC at *
   (have zz:=aI C0.r (aI C1.r C3.r); (repeat' (first | (apply jc <;> intro _) | simp (disch:=first | exact qK | fail) only [ja i0,ja i2,ja i4,T,c1,k1',hN,E,M,c2,zb,C0.q,C1.q,C3.q,C0.r,C1.r,C3.r,jd,Tk.cells_R,rzZ,Qab,Qac,Qad,Qaa,Qae])); (all_goals (clear zz)))
   refine ⟨j,0,?_⟩;unfold pC
   (refine G1.done ?_ (by rfl) (by rfl) ?_; (· (have zz:=aI C0.q (aI C1.q (aI C3.q (aI C0.r (aI C1.r C3.r)))); first | exact qf | fail)); (· first | exact vyD | skip))
set_option maxHeartbeats 4000000 in
theorem jod (hb:NB base){ts:List Tk}(W:Wds ts)(N:Nbs ts){i:Nat}(hi:i<ts.length):AnS base 79 (pC ts i 0) [] ts 0 (λd=>.agg (qc d)) (ZP ts i):=by
 have wl:=W.len;have hM:=λst p=>@vY base hb ts i 0 hi (by omega) st p;unfold ZP;by_cases k1:(tk ts i).kind=1
 ·rw [if_pos k1];have hi1:i+1<ts.length:=W.next i hi (by omega)
  have M:=λst p=>@Qd base hb ts (i+1) 0 hi1 (by omega) [58] st p;by_cases c1:isM (tk ts (i+1)) [[58]]=true
  ·rw [if_pos c1];have hi2:=W.isM hi1 c1;suffices h:∀ r:SR DeclT,(match uv ts (i+2) with | .er t=>SR.er t | .ok y j=>(match vK ts j with | .er t=>.er t | .ok bs k=>.ok ⟨(tk ts i).text,y.1,y.2.1,y.2.2,bs,(tk ts i).line,(tk ts i).col⟩ k))=r->AnS base 79 (pC ts i 0) [] ts 0 (λd=>.agg (qc d)) r from h _ rfl
   intro r hr;refine wL x79 (by rfl) (hb.pur 79 3 (by decide)) ?_;simp only [y79,jm,Qai,Qaj,Qag,Qah];unfold z79;try dsimp only [oo,oO,ot,oT,os,og,oh,oc,on,oN,oP]
   unfold pC at *;repeat' (first | (apply jc <;> intro _) | simp (disch:=first | exact dzD | fail) only [hM,k1,M,c1,jd,Tk.cells_R,rzZ,Qab,Qac,Qad,Qaa,Qae])
   refine jpv hb W N hi2 hr ?_ ?_ ?_ ?_ ?_ ?_ ?_
   ·simp only [jg,jh,jl,q8]; omega
   ·unfold pC
    (first | exact cyD | fail)
   ·unfold zD
    (first | exact cyD | fail)
   ·(first | exact cyD | fail)
   ·simp (disch:=decide) only [Qam,Qaq,z0,z1,je,jb,and_true,true_and]
   ·simp (disch:=decide) only [Qam,Qaq,z0,z1,je,jb,and_true,true_and]
   ·simp (disch:=decide) only [Qam,Qaq,z0,z1,je,jb,and_true,true_and]
  ·rw [if_neg c1];refine ⟨i+1,0,?_⟩;unfold pC at *;refine jZ x79 (by rfl) (hb.pur 79 3 (by decide)) rfl ?_;simp only [y79,jm,Qai,Qaj,Qag,Qah];unfold z79;try dsimp only [oo,oO,ot,oT,os,og,oh,oc,on,oN,oP]
   repeat' (first | (apply jc <;> intro _) | simp (disch:=first | exact dzD | fail) only [hM,k1,M,c1,jd,Tk.cells_R,rzZ,Qab,Qac,Qad,Qaa,Qae])
   (refine G1.done ?_ (by rfl) (by rfl) ?_; (· (first | exact cyD | fail)); (· first | exact vyD | skip))
 ·rw [if_neg k1];refine ⟨i,0,?_⟩;unfold pC at *;refine jZ x79 (by rfl) (hb.pur 79 3 (by decide)) rfl ?_;simp only [y79,jm,Qai,Qaj,Qag,Qah];unfold z79;try dsimp only [oo,oO,ot,oT,os,og,oh,oc,on,oN,oP]
  repeat' (first | (apply jc <;> intro _) | simp (disch:=first | exact dzD | fail) only [hM,k1,jd,Tk.cells_R,rzZ,Qab,Qac,Qad,Qaa,Qae])
  (refine G1.done ?_ (by rfl) (by rfl) ?_; (· (first | exact cyD | fail)); (· first | exact vyD | skip))
end Go.Sy
end
noncomputable section
set_option maxRecDepth 100000
namespace Go.Sy
open Go.Ev Go.Proofs
variable {base:Bs}
structure AsT where
 name:List Nat
 to:Ex
 line:Int
 col:Int
def asE (a:AsT):List AV:=.str a.name :: (eE a.to ++ [.int .i64 (a.line:Int),.int .i64 (a.col:Int)])
theorem Za (a:AsT):(asE a).length=9:=nr (by simp [asE,zJ])
theorem J9 (a:AsT):(asE a).all pc=true:=nr (by simp [asE,qQ,pc])
theorem Ko (a:AsT):lall AV.cell (asE a)=true:=nr (by unfold asE; rw [qv]; rfl)
structure RuleT where
 when:Ex
 acts:List AsT
def ruE (r:RuleT):List AV:=eE r.when ++ [.lst r.acts.length (fl asE r.acts)]
def Xw (ts:List Tk):Nat->Nat->List AsT->SR (List AsT)
 | 0,i,_=>.er (tk ts i)
 | n+1,i,vs=>if (tk ts i).kind=1 then
   (if 32≤vs.length then .er (tk ts i)
    else if isM (tk ts (i+1)) [[58,61]]=true then (match yI ts (i+2) with
     | .er t=>.er t
     | .ok x j=>
      if isM (tk ts j) [[44]]=true then Xw ts n (j+1) (vs ++ [⟨(tk ts i).text,x,(tk ts i).line,(tk ts i).col⟩])
      else if isM (tk ts j) [[59]]=true then .ok (vs ++ [⟨(tk ts i).text,x,(tk ts i).line,(tk ts i).col⟩]) (j+1)
      else .er (tk ts j))
    else .er (tk ts (i+1)))
  else .er (tk ts i)
def YV (ts:List Tk)(i:Nat):SR RuleT:=
 match yI ts i with
 | .er t=>.er t
 | .ok x j=>if isM (tk ts j) [[100,111]]=true then (match Xw ts ts.length (j+1) [] with
   | .ok vs k=>.ok ⟨x,vs⟩ k
   | .er t=>.er t)
  else .er (tk ts j)
theorem jm0:Go.Ev.isAgg Qaf 101=some false:=by kernel_rfl
theorem jmZ:Go.Ev.sizeOf Qaf 101=some 1:=by kernel_rfl
theorem G4 {b o:Nat}{v:AV}{h:T AO}(ho:o<qo h b)(hv:rat h b o=v)(hc:eqs v=true):(jX Qaf 101 (.ptr b o) v h=true)=True:=eq_true (Qa jm0 jmZ ho hv hc)
theorem sm3 {b o:Nat}{v:AV}{h:T AO}(ho:o<qo h b)(hv:rat h b o=v)(hc:eqs v=true):(jX Qaf 3 (.ptr b o) v h=true)=True:=eq_true (Qa jmY jmX ho hv hc)
set_option maxHeartbeats 4000000 in
theorem jni (hb:NB base){ts:List Tk}(W:Wds ts){i:Nat}(hi:i<ts.length):AnS base 129 (pC ts i 0) [] ts 0 (λe=>.agg (ruE e)) (YV ts i):=by
 have wl:=W.len;have A:=Vd hb W hi;unfold YV;cases hw:yI ts i with
 | er t=>
  rw [hw] at A;obtain ⟨i',d',A⟩:=A;have E:∀ st p,Cl st p (pC ts i 0)->∀ K Kp,XB Qaf base 48 [.ptr p 0] st K Kp=_:=λst p C K Kp=>A.xb C rfl (λst=>hb.no 48 (by decide) _ _) K Kp;refine ⟨i',d',?_⟩;unfold pC at *;refine jZ jhE (by rfl) (hb.pur 129 3 (by decide)) rfl ?_;simp only [jde,jm,Qai,Qaj,Qag,Qah];unfold jdb;try dsimp only [oo,oO,ot,oT,os,og,oh,oc,on,oN,oP]
  repeat' (first | (apply jc <;> intro _) | simp (disch:=first | exact dzD | fail) only [E,jd,Tk.cells_R,rzZ,Qab,Qac,Qad,Qaa,Qae])
  (refine G1.done ?_ (by rfl) (by rfl) ?_; (· (first | exact cyD | fail)); (· first | exact vyD | skip))
 | ok x j=>
  rw [hw] at A;have A:PM _ _ _ _ _ _ _:=A;rw [qv] at A;have hj:j<ts.length:=(yy W hi hw).2.1;have E:∀ st p,Cl st p (pC ts i 0)->∀ K Kp,XB Qaf base 48 [.ptr p 0] st K Kp=_:=λst p C K Kp=>A.xb C rfl (λst=>hb.no 48 (by decide) _ _) K Kp;have M:=λst p=>@Qd base hb ts j 0 hj (by omega) [100,111] st p;dsimp only;by_cases c1:isM (tk ts j) [[100,111]]=true
  ·rw [if_pos c1];have hj1:=W.isM hj c1;suffices h:∀ r:SR RuleT,(match Xw ts ts.length (j+1) [] with | .ok vs k=>SR.ok ⟨x,vs⟩ k | .er t=>.er t)=r->AnS base 129 (pC ts i 0) [] ts 0 (λe=>.agg (ruE e)) r from h _ rfl
   intro r hr;refine wL jhE (by rfl) (hb.pur 129 3 (by decide)) ?_;simp only [jde,jm,Qai,Qaj,Qag,Qah];unfold jdb;try dsimp only [oo,oO,ot,oT,os,og,oh,oc,on,oN,oP]
   unfold pC at *;repeat' (first | (apply jc <;> intro _) | simp (disch:=first | exact dzD | fail) only [E,M,c1,jd,Tk.cells_R,rzZ,Qab,Qac,Qad,Qaa,Qae])
   refine vN λu hu=>?_;have n0:u.nx=3:=by rw [hu]; rfl
   have C0:Cl u 0 (pC ts (j+1) 0):=by
    rw [hu]; unfold pC
    (first | exact cyD | fail)
   have C1:Cl u 1 [.int .i64 0,.int .i64 0,.str [],.nils,.int .i64 0,.int .i64 0,.nils]:=by
    rw [hu]
    (first | exact cyD | fail)
   have C2:Cl u 2 [.int .i64 x.op,.int .i64 x.num,.str x.name,.lst x.kids.length (fl eE x.kids),.int .i64 x.line,.int .i64 x.col,.nils]:=by
    rw [hu]
    (first | exact cyD | fail)
   clear hu E M A;refine zo (λmm L s=>∃ (m i':Nat) (vs:List AsT) (v:AV),mm=m∧ts.length≤i'+m∧i'<ts.length∧(match Xw ts m i' vs with | .ok vs k=>SR.ok ⟨x,vs⟩ k | .er t=>.er t:SR RuleT)=r∧3≤s.nx∧Cl s 0 (pC ts i' 0)∧Cl s 1 [.int .i64 0,.int .i64 0,.str [],.nils,.int .i64 0,.int .i64 0,.nils]∧Cl s 2 [.int .i64 x.op,.int .i64 x.num,.str x.name,.lst x.kids.length (fl eE x.kids),.int .i64 x.line,.int .i64 x.col,v]∧Lv 3 s.nx s v vs.length (fl asE vs) 9∧Has L 0 (.ptr 0 0)∧Has L 2 (.ptr 1 0)∧Has L 3 (.ptr 2 0)) ?_ ts.length ?_
   ·rintro m L s ⟨_,i',vs,v,rfl,hm,hi',hl,n0,C0,C1,C2,V,i0,i2,i3⟩;clear hr;cases m with
    | zero=>omega
    | succ m=>
    unfold Xw at hl;obtain ⟨q0,hq0⟩:∃ q,q=s.nx:=⟨_,rfl⟩;rw [←hq0] at V;have hq':q0≤s.nx:=QbI hq0;have hN:=λst p=>@Yk base hb ts i' 0 hi' st p;have hM:=λst p=>@vY base hb ts i' 0 hi' (by omega) st p;have L0:=C0.lt;have L1:=C1.lt;have L2:=C2.lt;have ve:=V.eqs;have g3:rat s.h 2 6=v:=C2.cell 6 (by simp);have vl:=V.len;by_cases k1:(tk ts i').kind=1
    ·rw [if_pos k1] at hl;have k1':((tk ts i').kind:Int)=1:=by omega
     have hi1:i'+1<ts.length:=W.next i' hi' (by omega)
     by_cases h32:32≤vs.length
     ·rw [if_pos h32] at hl;have hl:SR.er (tk ts i')=r:=hl;subst hl;have R:=ZY hb h32 (tk ts i');unfold pC at *
      (have zz:=aI @g3 (aI C0.r (aI C1.r C2.r)); (repeat' (first | (apply jc <;> intro _) | simp (disch:=first | exact qK | fail) only [ja i0,ja i2,ja i3,hN,k1',vl,R,G4,ve,zb,C0.q,C1.q,C2.q,g3,C0.r,C1.r,C2.r,jd,Tk.cells_R,rzZ,Qab,Qac,Qad,Qaa,Qae])); (all_goals (clear zz)))
      refine ⟨i',0,?_⟩;unfold pC
      (refine G1.done ?_ (by rfl) (by rfl) ?_; (· (have zz:=aI C0.q (aI C1.q (aI C2.q (aI C0.r (aI C1.r C2.r)))); first | exact qf | fail)); (· first | exact vyD | skip))
     ·rw [if_neg h32] at hl;have R:=ZX hb (show vs.length<32 by omega) (tk ts i');have M1:=λst p=>@Qd base hb ts (i'+1) 0 hi1 (by omega) [58,61] st p;by_cases c2:isM (tk ts (i'+1)) [[58,61]]=true
      ·rw [if_pos c2] at hl;have hi2:=W.isM hi1 c2;have A:=Vd hb W hi2;cases hw2:yI ts (i'+2) with
       | er t=>
        rw [hw2] at hl A;have hl:SR.er t=r:=hl;subst hl;obtain ⟨i2',d2,A⟩:=A;have E:∀ st p,Cl st p (pC ts (i'+2) 0)->∀ K Kp,XB Qaf base 48 [.ptr p 0] st K Kp=_:=λst p C K Kp=>A.xb C rfl (λst=>hb.no 48 (by decide) _ _) K Kp;unfold pC at *
        (have zz:=aI @g3 (aI @yx (aI @yw (aI C0.r (aI C1.r C2.r)))); (repeat' (first | (apply jc <;> intro _) | simp (disch:=first | exact qK | fail) only [ja i0,ja i2,ja i3,hN,hM,k1,k1',vl,R,M1,c2,E,G4,sm9,sm3,ve,zb,XN,Wk,Wj (base:=base),C0.q,C1.q,C2.q,g3,yx,yw,C0.r,C1.r,C2.r,jd,Tk.cells_R,rzZ,Qab,Qac,Qad,Qaa,Qae])); (all_goals (clear zz)))
        refine ⟨i2',d2,?_⟩;unfold pC
        (refine G1.done ?_ (by rfl) (by rfl) ?_; (· (have zz:=aI C0.q (aI C1.q (aI C2.q (aI C0.r (aI C1.r C2.r)))); first | exact qf | fail)); (· first | exact vyD | skip))
       | ok y q=>
        rw [hw2] at hl A;dsimp only at hl;have A:PM _ _ _ _ _ _ _:=A;rw [qv] at A;have hq:q<ts.length:=(yy W hi2 hw2).2.1;have hq2:i'+3≤q:=(yy W hi2 hw2).1;have E:∀ st p,Cl st p (pC ts (i'+2) 0)->∀ K Kp,XB Qaf base 48 [.ptr p 0] st K Kp=_:=λst p C K Kp=>A.xb C rfl (λst=>hb.no 48 (by decide) _ _) K Kp;have T:=Yd hb hq (d:=0) (by omega) [[44]] (cs:=[.str [44]]) (n:=1) rfl rfl (by decide);have M:=λst p=>@Qd base hb ts q 0 hq (by omega) [59] st p;have Ap:=λst bv xc xx K h hv=>@Q4 3 q0 vs.length 9 st v (fl asE vs) K 104 bv xc xx h (by decide) (by omega) (by omega) hv;obtain ⟨a,hav⟩:∃ a:AsT,a=⟨(tk ts i').text,y,(tk ts i').line,(tk ts i').col⟩:=⟨_,rfl⟩;rw [←hav] at hl;have ea:asE a=[.str (tk ts i').text,.int .i64 y.op,.int .i64 y.num,.str y.name,.lst y.kids.length (fl eE y.kids),.int .i64 y.line,.int .i64 y.col,.int .i64 ((tk ts i').line:Int),.int .i64 ((tk ts i').col:Int)]:=by rw [hav]; unfold asE; rw [qv]; rfl
        have V2:∀ st m',Lv 3 q0 st v vs.length (fl asE vs) 9->3≤st.nx->m'=st.nx+1->Lv 3 m' (aps v st [.str (tk ts i').text,.int .i64 y.op,.int .i64 y.num,.str y.name,.lst y.kids.length (fl eE y.kids),.int .i64 y.line,.int .i64 y.col,.int .i64 ((tk ts i').line:Int),.int .i64 ((tk ts i').col:Int)]) (apv 9 v st) (vs ++ [a]).length (fl asE (vs ++ [a])) 9:=λst m' h h2 h3=>by
         rw [Qal,QI,Jl,ea];exact h.put rfl h2 h3
        unfold pC at *
        (have zz:=aI @g3 (aI @yx (aI @yw (aI V.ln (aI V.rts (aI @jC (aI @jE (aI @jG (aI @V (aI @jB (aI @jI (aI @jL (aI C0.r (aI C1.r C2.r))))))))))))); (repeat' (first | (apply jc <;> intro _) | simp (disch:=first | exact qK | fail) only [ja i0,ja i2,ja i3,hN,hM,k1,k1',vl,R,M1,c2,E,G4,sm9,sm3,ve,Ap,V.at,jB,C0.q,C1.q,C2.q,g3,yx,yw,V.ln,V.rts,jC,jE,jG,V,jB,jI,jL,C0.r,C1.r,C2.r,jd,Tk.cells_R,rzZ,Qab,Qac,Qad,Qaa,Qae])); (all_goals (clear zz)))
        rw [T _ 0 (s.nx+1+1+1) 1 true (by (have zz:=aI C0.q (aI C1.q (aI C2.q (aI @g3 (aI V.ln (aI V.rts (aI @jB (aI @jI (aI @jL (aI C0.r (aI C1.r C2.r)))))))))); first | exact qf | fail)) (by (have zz:=aI C0.q (aI C1.q (aI C2.q (aI @g3 (aI V.ln (aI V.rts (aI @jB (aI @jI (aI @jL (aI C0.r (aI C1.r C2.r)))))))))); first | exact qf | fail)) (by omega)]
        (have zz:=aI @g3 (aI V.ln (aI V.rts (aI @jB (aI @jI (aI @jL (aI C0.r (aI C1.r C2.r))))))); (repeat' (first | (apply jc <;> intro _) | simp (disch:=first | exact qK | fail) only [ja i0,ja i2,ja i3,M,V.at,jB,C0.q,C1.q,C2.q,g3,V.ln,V.rts,jB,jI,jL,C0.r,C1.r,C2.r,jd,Tk.cells_R,rzZ,Qab,Qac,Qad,Qaa,Qae])); (all_goals (clear zz)))
        ·rename_i c;rw [if_pos c] at hl;have hi2':=W.isM hq c;refine ⟨m,by omega,m,q+1,vs ++ [a],?v,rfl,by omega,hi2',hl,by omega,?c0,?c1,?c2,?lv,?has⟩;case lv=>
          refine Lv.up (hi:=s.nx+3) ?_ (by omega);simp (disch:=first | omega | (simp only [jg,jh,jj,jl]; omega)) only [jC,jE,jG];refine V2 _ _ ?_ ?_ ?_;all_goals first | (simp only [jg,jh]; done) | (simp only [jg,jh]; omega) | (simp (disch:=first | omega | (simp only [jg,jh]; omega)) only [jC,jE]; exact V)
         case c0=>(have zz:=aI C0.q (aI C1.q (aI C2.q (aI @g3 (aI V.ln (aI V.rts (aI @jB (aI @jI (aI @jL (aI C0.r (aI C1.r C2.r)))))))))); first | exact qf | fail)
         case c1=>(have zz:=aI C0.q (aI C1.q (aI C2.q (aI @g3 (aI V.ln (aI V.rts (aI @jB (aI @jI (aI @jL (aI C0.r (aI C1.r C2.r)))))))))); first | exact qf | fail)
         case c2=>(have zz:=aI C0.q (aI C1.q (aI C2.q (aI @g3 (aI V.ln (aI V.rts (aI @jB (aI @jI (aI @jL (aI C0.r (aI C1.r C2.r)))))))))); first | exact qf | fail)
         case has=>simp (disch:=decide) only [Qam,Qaq,z0,z1,je,jb,and_true,true_and,i0,i2,i3]
        ·rename_i c c4;rw [if_neg c,if_pos c4] at hl;have hl:SR.ok (⟨x,vs ++ [a]⟩:RuleT) (q+1)=r:=hl;subst hl;show G1 3 (pC ts (q+1) 0) (.agg (ruE ⟨x,vs ++ [a]⟩)) _ _;rw [show ruE ⟨x,vs ++ [a]⟩=[.int .i64 x.op,.int .i64 x.num,.str x.name,.lst x.kids.length (fl eE x.kids),.int .i64 x.line,.int .i64 x.col,.lst (vs ++ [a]).length (fl asE (vs ++ [a]))] by unfold ruE; rw [qv]; rfl];refine G1.done ?_ (by rfl) (by rfl) (FzD.agg (.cons (.pc rfl) (.cons (.pc rfl) (.cons (.pc rfl) (.cons (.pc rfl) (.cons (.pc rfl) (.cons (.pc rfl) (.cons (Lv.fz (lo:=3) (hi:=s.nx+3) (z:=9) ?_ (by decide) (zg J9 _)) .nil))))))))
         ·unfold pC
          (have zz:=aI C0.q (aI C1.q (aI C2.q (aI @g3 (aI V.ln (aI V.rts (aI @jB (aI @jI (aI @jL (aI C0.r (aI C1.r C2.r)))))))))); first | exact qf | fail)
         ·simp (disch:=first | omega | (simp only [jg,jh,jj,jl]; omega)) only [jF,jC,jE,jG];refine V2 _ _ ?_ ?_ ?_;all_goals first | (simp only [jg,jh]; done) | (simp only [jg,jh]; omega) | (simp (disch:=first | omega | (simp only [jg,jh]; omega)) only [jC,jE]; exact V)
        ·rename_i c c4;rw [if_neg c,if_neg c4] at hl;have hl:SR.er (tk ts q)=r:=hl;subst hl;refine ⟨q,0,?_⟩;unfold pC
         (refine G1.done ?_ (by rfl) (by rfl) ?_; (· (have zz:=aI C0.q (aI C1.q (aI C2.q (aI @g3 (aI V.ln (aI V.rts (aI @jB (aI @jI (aI @jL (aI C0.r (aI C1.r C2.r)))))))))); first | exact qf | fail)); (· first | exact vyD | skip))
      ·rw [if_neg c2] at hl;have hl:SR.er (tk ts (i'+1))=r:=hl;subst hl;unfold pC at *
       (have zz:=aI @g3 (aI C0.r (aI C1.r C2.r)); (repeat' (first | (apply jc <;> intro _) | simp (disch:=first | exact qK | fail) only [ja i0,ja i2,ja i3,hN,hM,k1,k1',vl,R,M1,c2,G4,ve,zb,C0.q,C1.q,C2.q,g3,C0.r,C1.r,C2.r,jd,Tk.cells_R,rzZ,Qab,Qac,Qad,Qaa,Qae])); (all_goals (clear zz)))
       refine ⟨i'+1,0,?_⟩;unfold pC
       (refine G1.done ?_ (by rfl) (by rfl) ?_; (· (have zz:=aI C0.q (aI C1.q (aI C2.q (aI C0.r (aI C1.r C2.r)))); first | exact qf | fail)); (· first | exact vyD | skip))
    ·rw [if_neg k1] at hl;have k1':¬ ((tk ts i').kind:Int)=1:=by omega
     have hl:SR.er (tk ts i')=r:=hl;subst hl;unfold pC at *
     (have zz:=aI @g3 (aI C0.r (aI C1.r C2.r)); (repeat' (first | (apply jc <;> intro _) | simp (disch:=first | exact qK | fail) only [ja i0,ja i2,ja i3,hN,hM,k1,k1',zb,C0.q,C1.q,C2.q,g3,C0.r,C1.r,C2.r,jd,Tk.cells_R,rzZ,Qab,Qac,Qad,Qaa,Qae])); (all_goals (clear zz)))
     refine ⟨i',0,?_⟩;unfold pC
     (refine G1.done ?_ (by rfl) (by rfl) ?_; (· (have zz:=aI C0.q (aI C1.q (aI C2.q (aI C0.r (aI C1.r C2.r)))); first | exact qf | fail)); (· first | exact vyD | skip))
   ·refine ⟨ts.length,j+1,[],.nils,rfl,by omega,hj1,hr,by omega,C0,C1,C2,Lv.nil,?_⟩;simp (disch:=decide) only [Qam,Qaq,z0,z1,je,jb,and_true,true_and]
  ·rw [if_neg c1];refine ⟨j,0,?_⟩;unfold pC at *;refine jZ jhE (by rfl) (hb.pur 129 3 (by decide)) rfl ?_;simp only [jde,jm,Qai,Qaj,Qag,Qah];unfold jdb;try dsimp only [oo,oO,ot,oT,os,og,oh,oc,on,oN,oP]
   repeat' (first | (apply jc <;> intro _) | simp (disch:=first | exact dzD | fail) only [E,M,c1,jd,Tk.cells_R,rzZ,Qab,Qac,Qad,Qaa,Qae])
   (refine G1.done ?_ (by rfl) (by rfl) ?_; (· (first | exact cyD | fail)); (· first | exact vyD | skip))
end Go.Sy
end
noncomputable section
set_option maxRecDepth 100000
namespace Go.Sy
open Go.Ev Go.Proofs
variable {base:Bs}
theorem Wu (r:RuleT):ruE r=[.int .i64 r.when.op,.int .i64 r.when.num,.str r.when.name,.lst r.when.kids.length (fl eE r.when.kids),.int .i64 r.when.line,.int .i64 r.when.col,.lst r.acts.length (fl asE r.acts)]:=by unfold ruE; rw [qv]; rfl
theorem ZC (r:RuleT):(ruE r).length=7:=nr (by rw [Wu]; rfl)
theorem wT (r:RuleT):(ruE r).all pc=true:=nr (by rw [Wu]; rfl)
theorem jc5 {ts:List Tk}(W:Wds ts):∀ n i vs ws j,i<ts.length->Xw ts n i vs=.ok ws j->i≤j∧j<ts.length
 | 0,i,vs,ws,j,_,h=>by simp [Xw] at h
 | n+1,i,vs,ws,j,hi,h=>by
  unfold Xw at h;split at h
  ·rename_i k1;have hi1:i+1<ts.length:=W.next i hi (by omega)
   split at h
   ·cases h
   ·split at h
    ·rename_i c;have hi2:=W.isM hi1 c;cases hw:yI ts (i+2) with
     | er t=>rw [hw] at h; cases h
     | ok x q=>
      rw [hw] at h;dsimp only at h;have g:=yy W hi2 hw;split at h
      ·rename_i c2;have:=jc5 W n (q+1) _ ws j (W.isM g.2.1 c2) h;have:=g.1;exact ⟨by omega,by omega⟩
      ·split at h
       ·rename_i c3;cases h;have:=W.isM g.2.1 c3;have:=g.1;exact ⟨by omega,by omega⟩
       ·cases h
    ·cases h
  ·cases h
theorem KO {ts:List Tk}(W:Wds ts){i j:Nat}{r:RuleT}(hi:i<ts.length)(h:YV ts i=.ok r j):i<j∧j<ts.length:=by
 unfold YV at h;cases hw:yI ts i with
 | er t=>rw [hw] at h; cases h
 | ok x q=>
  rw [hw] at h;dsimp only at h;have g:=yy W hi hw;split at h
  ·rename_i c;have hq1:=W.isM g.2.1 c;cases ha:Xw ts ts.length (q+1) [] with
   | er t=>rw [ha] at h; cases h
   | ok vs k=>
    rw [ha] at h;cases h;have:=jc5 W _ _ _ _ _ hq1 ha;have:=g.1;exact ⟨by omega,by omega⟩
  ·cases h
structure ProcT where
 name:List Nat
 rules:List RuleT
 line:Int
 col:Int
def prE (p:ProcT):List AV:=[.str p.name,.lst p.rules.length (fl ruE p.rules),.int .i64 (p.line:Int),.int .i64 (p.col:Int)]
def Qx (ts:List Tk):Nat->Nat->List RuleT->SR (List RuleT)
 | 0,i,_=>.er (tk ts i)
 | n+1,i,vs=>if isM (tk ts i) [[119,104,101,110]]=true then
   (if 32≤vs.length then .er (tk ts i) else match YV ts (i+1) with
    | .er t=>.er t
    | .ok r j=>Qx ts n j (vs ++ [r]))
  else if isM (tk ts i) [[125]]=true then .ok vs (i+1) else .er (tk ts i)
def ZD (ts:List Tk)(i:Nat):SR ProcT:=
 if (tk ts i).kind=1 then
  (if isM (tk ts (i+1)) [[123]]=true then (match Qx ts ts.length (i+2) [] with
    | .ok vs j=>.ok ⟨(tk ts i).text,vs,(tk ts i).line,(tk ts i).col⟩ j
    | .er t=>.er t)
   else .er (tk ts (i+1)))
 else .er (tk ts i)
theorem joY:Go.Ev.isAgg Qaf 96=some false:=by kernel_rfl
theorem joX:Go.Ev.sizeOf Qaf 96=some 1:=by kernel_rfl
theorem jna {b o:Nat}{v:AV}{h:T AO}(ho:o<qo h b)(hv:rat h b o=v)(hc:eqs v=true):(jX Qaf 96 (.ptr b o) v h=true)=True:=eq_true (Qa joY joX ho hv hc)
set_option maxHeartbeats 4000000 in
theorem jns (hb:NB base){ts:List Tk}(W:Wds ts){i:Nat}(hi:i<ts.length):AnS base 80 (pC ts i 0) [] ts 0 (λe=>.agg (prE e)) (ZD ts i):=by
 have wl:=W.len;have N:=λst p=>@vY base hb ts i 0 hi (by omega) st p;unfold ZD;by_cases k1:(tk ts i).kind=1
 ·rw [if_pos k1];have hi1:i+1<ts.length:=W.next i hi (by omega)
  have M:=λst p=>@Qd base hb ts (i+1) 0 hi1 (by omega) [123] st p;by_cases c1:isM (tk ts (i+1)) [[123]]=true
  ·rw [if_pos c1];have hi2:=W.isM hi1 c1;suffices h:∀ r:SR ProcT,(match Qx ts ts.length (i+2) [] with
    | .ok vs j=>SR.ok ⟨(tk ts i).text,vs,(tk ts i).line,(tk ts i).col⟩ j
    | .er t=>.er t:SR ProcT)=r->AnS base 80 (pC ts i 0) [] ts 0 (λe=>.agg (prE e)) r from h _ rfl
   intro r hr;refine wL x80 (by rfl) (hb.pur 80 3 (by decide)) ?_;simp only [y80,jm,Qai,Qaj,Qag,Qah];unfold z80;try dsimp only [oo,oO,ot,oT,os,og,oh,oc,on,oN,oP]
   unfold pC at *;repeat' (first | (apply jc <;> intro _) | simp (disch:=first | exact dzD | fail) only [N,k1,M,c1,jd,Tk.cells_R,rzZ,Qab,Qac,Qad,Qaa,Qae])
   refine vN λu hu=>?_;have n0:u.nx=4:=by rw [hu]; rfl
   have C0:Cl u 0 (pC ts (i+2) 0):=by
    rw [hu]; unfold pC
    (first | exact cyD | fail)
   have C1:Cl u 1 [.str [],.nils,.int .i64 0,.int .i64 0]:=by
    rw [hu]
    (first | exact cyD | fail)
   have C3:Cl u 3 [.str (tk ts i).text,.nils,.int .i64 ((tk ts i).line:Int),.int .i64 ((tk ts i).col:Int)]:=by
    rw [hu]
    (first | exact cyD | fail)
   clear hu N M;generalize (tk ts i).text=nm at *;generalize (tk ts i).line=ln at *;generalize (tk ts i).col=co at *;refine zo (λmm L s=>∃ (m i':Nat) (vs:List RuleT) (v:AV),mm=m∧ts.length≤i'+m∧i'<ts.length∧(match Qx ts m i' vs with | .ok vs j=>SR.ok ⟨nm,vs,ln,co⟩ j | .er t=>.er t:SR ProcT)=r∧4≤s.nx∧Cl s 0 (pC ts i' 0)∧Cl s 1 [.str [],.nils,.int .i64 0,.int .i64 0]∧Cl s 3 [.str nm,v,.int .i64 (ln:Int),.int .i64 (co:Int)]∧Lv 4 s.nx s v vs.length (fl ruE vs) 7∧Has L 0 (.ptr 0 0)∧Has L 2 (.ptr 1 0)∧Has L 4 (.ptr 3 0)) ?_ ts.length ?_
   ·rintro m L s ⟨_,i',vs,v,rfl,hm,hi',hl,n0,C0,C1,C3,V,i0,i2,i4⟩;clear hr;cases m with
    | zero=>omega
    | succ m=>
    unfold Qx at hl;obtain ⟨q,hq⟩:∃ q,q=s.nx:=⟨_,rfl⟩;rw [←hq] at V;have hq':q≤s.nx:=QbI hq;have T:=Yd hb hi' (d:=0) (by omega) [[119,104,101,110]] (cs:=[.str [119,104,101,110]]) (n:=1) rfl rfl (by decide);have L0:=C0.lt;have L1:=C1.lt;have L3:=C3.lt;have ve:=V.eqs;have g3:rat s.h 3 1=v:=C3.cell 1 (QbL (Qbq 2));have vl:=V.len;have vc:∀ l,lall AV.cell (v :: l)=lall AV.cell l:=λl=>by show cond v.cell _ false=_; rw [V.cell]; rfl
    by_cases c2:isM (tk ts i') [[119,104,101,110]]=true
    ·rw [if_pos c2] at hl;have hi1:=W.isM hi' c2;by_cases h32:32≤vs.length
     ·rw [if_pos h32] at hl;have hl:SR.er (tk ts i')=r:=hl;subst hl;have R:=ZY hb h32 (tk ts i');unfold pC at *
      (have zz:=aI @g3 (aI C0.r (aI C1.r C3.r)); (repeat' (first | (apply jc <;> intro _) | simp (disch:=first | exact qK | fail) only [ja i0,ja i2,ja i4,T,c2,vl,R,g3,zb,C0.q,C1.q,C3.q,g3,C0.r,C1.r,C3.r,jd,Tk.cells_R,rzZ,Qab,Qac,Qad,Qaa,Qae])); (all_goals (clear zz)))
      refine ⟨i'+1,0,?_⟩;unfold pC
      (refine G1.done ?_ (by rfl) (by rfl) ?_; (· (have zz:=aI C0.q (aI C1.q (aI C3.q (aI C0.r (aI C1.r C3.r)))); first | exact qf | fail)); (· first | exact vyD | skip))
     ·rw [if_neg h32] at hl;have R:=ZX hb (show vs.length<32 by omega) (tk ts i');have A:=jni hb W hi1;cases hw:YV ts (i'+1) with
      | er t=>
       rw [hw] at hl A;have hl:SR.er t=r:=hl;subst hl;obtain ⟨i2',d2,A⟩:=A;have E:∀ st p,Cl st p (pC ts (i'+1) 0)->∀ K Kp,XB Qaf base 129 [.ptr p 0] st K Kp=_:=λst p C K Kp=>A.xb C rfl (λst=>hb.no 129 (by decide) _ _) K Kp;unfold pC at *
       (have zz:=aI @g3 (aI C0.r (aI C1.r C3.r)); (repeat' (first | (apply jc <;> intro _) | simp (disch:=first | exact qK | fail) only [ja i0,ja i2,ja i4,T,c2,vl,R,g3,E,jna,ve,zb,C0.q,C1.q,C3.q,g3,C0.r,C1.r,C3.r,jd,Tk.cells_R,rzZ,Qab,Qac,Qad,Qaa,Qae])); (all_goals (clear zz)))
       refine ⟨i2',d2,?_⟩;unfold pC
       (refine G1.done ?_ (by rfl) (by rfl) ?_; (· (have zz:=aI C0.q (aI C1.q (aI C3.q (aI C0.r (aI C1.r C3.r)))); first | exact qf | fail)); (· first | exact vyD | skip))
      | ok a j=>
       rw [hw] at hl A;dsimp only at hl;have A:PM _ _ _ _ _ _ _:=A;have A:PM Qaf base 129 (pC ts (i'+1) 0) [] (.ok (.agg [.int .i64 a.when.op,.int .i64 a.when.num,.str a.when.name,.lst a.when.kids.length (fl eE a.when.kids),.int .i64 a.when.line,.int .i64 a.when.col,.lst a.acts.length (fl asE a.acts)])) (pC ts j 0):=by rw [←Wu]; exact A
       have hj:=KO W hi1 hw;have E:∀ st p,Cl st p (pC ts (i'+1) 0)->∀ K Kp,XB Qaf base 129 [.ptr p 0] st K Kp=_:=λst p C K Kp=>A.xb C rfl (λst=>hb.no 129 (by decide) _ _) K Kp;have Ap:=λst bv xc xx K h hv=>@Q4 4 q vs.length 7 st v (fl ruE vs) K 96 bv xc xx h (by decide) (by omega) (by omega) hv;have V2:∀ st m',Lv 4 q st v vs.length (fl ruE vs) 7->4≤st.nx->m'=st.nx+1->Lv 4 m' (aps v st [.int .i64 a.when.op,.int .i64 a.when.num,.str a.when.name,.lst a.when.kids.length (fl eE a.when.kids),.int .i64 a.when.line,.int .i64 a.when.col,.lst a.acts.length (fl asE a.acts)]) (apv 7 v st) (vs ++ [a]).length (fl ruE (vs ++ [a])) 7:=λst m' h h2 h3=>by
        rw [Qal,QI,Jl,Wu a];exact h.put rfl h2 h3
       unfold pC at *
       (have zz:=aI @g3 (aI V.ln (aI V.rts (aI @jC (aI @jE (aI @jG (aI @V (aI @jB (aI @jI (aI @jL (aI C0.r (aI C1.r C3.r))))))))))); (repeat' (first | (apply jc <;> intro _) | simp (disch:=first | exact qK | fail) only [ja i0,ja i2,ja i4,T,c2,vl,R,g3,E,jna,ve,Ap,V.at,jB,C0.q,C1.q,C3.q,g3,V.ln,V.rts,jC,jE,jG,V,jB,jI,jL,C0.r,C1.r,C3.r,jd,Tk.cells_R,rzZ,Qab,Qac,Qad,Qaa,Qae])); (all_goals (clear zz)))
       refine ⟨m,by omega,m,j,vs ++ [a],?v,rfl,by omega,hj.2,hl,by omega,?c0,?c1,?c3,?lv,?has⟩;case lv=>
        refine Lv.up (hi:=s.nx+4) ?_ (by omega);refine V2 _ _ ?_ ?_ ?_;all_goals first | (simp only [jg,jh,jl]; done) | (simp only [jg,jh,jl]; omega) | (simp (disch:=first | omega | (simp only [jg,jh,jl]; omega)) only [jC,jE,jG]; exact V)
       case c0=>(have zz:=aI C0.q (aI C1.q (aI C3.q (aI @g3 (aI V.ln (aI V.rts (aI @jB (aI @jI (aI @jL (aI C0.r (aI C1.r C3.r)))))))))); first | exact qf | fail)
       case c1=>(have zz:=aI C0.q (aI C1.q (aI C3.q (aI @g3 (aI V.ln (aI V.rts (aI @jB (aI @jI (aI @jL (aI C0.r (aI C1.r C3.r)))))))))); first | exact qf | fail)
       case c3=>(have zz:=aI C0.q (aI C1.q (aI C3.q (aI @g3 (aI V.ln (aI V.rts (aI @jB (aI @jI (aI @jL (aI C0.r (aI C1.r C3.r)))))))))); first | exact qf | fail)
       case has=>simp (disch:=decide) only [Qam,Qaq,z0,z1,je,jb,and_true,true_and,i0,i2,i4]
    ·rw [if_neg c2] at hl;have M:=λst p=>@Qd base hb ts i' 0 hi' (by omega) [125] st p;unfold pC at *
     (have zz:=aI @g3 (aI @vc (aI C0.r (aI C1.r C3.r))); (repeat' (first | (apply jc <;> intro _) | simp (disch:=first | exact qK | fail) only [ja i0,ja i2,ja i4,T,c2,M,g3,C0.q,C1.q,C3.q,g3,vc,C0.r,C1.r,C3.r,jd,Tk.cells_R,rzZ,Qab,Qac,Qad,Qaa,Qae])); (all_goals (clear zz)))
     ·rename_i c4;rw [if_pos c4] at hl;have hl:SR.ok (⟨nm,vs,ln,co⟩:ProcT) (i'+1)=r:=hl;subst hl;show G1 3 (pC ts (i'+1) 0) (.agg (prE ⟨nm,vs,ln,co⟩)) _ _;refine G1.done ?_ (by rfl) (by rfl) (FzD.agg (.cons (.pc rfl) (.cons (Lv.fz (lo:=4) (hi:=q) (z:=7) ?_ (by decide) (zg wT _)) (.cons (.pc rfl) (.cons (.pc rfl) .nil)))))
      ·unfold pC
       (have zz:=aI C0.q (aI C1.q (aI C3.q (aI @g3 (aI V.ln (aI V.rts (aI @jB (aI @jI (aI @jL (aI C0.r (aI C1.r C3.r)))))))))); first | exact qf | fail)
      ·simp (disch:=first | omega | (simp only [jg,jh,jl]; omega)) only [jF,jC,jE,jG];exact V
     ·rename_i c4;rw [if_neg c4] at hl;have hl:SR.er (tk ts i')=r:=hl;subst hl;refine ⟨i',0,?_⟩;unfold pC
      (refine G1.done ?_ (by rfl) (by rfl) ?_; (· (have zz:=aI C0.q (aI C1.q (aI C3.q (aI @g3 (aI V.ln (aI V.rts (aI @jB (aI @jI (aI @jL (aI C0.r (aI C1.r C3.r)))))))))); first | exact qf | fail)); (· first | exact vyD | skip))
   ·refine ⟨ts.length,i+2,[],.nils,rfl,by omega,hi2,hr,by omega,C0,C1,C3,Lv.nil,?_⟩;simp (disch:=decide) only [Qam,Qaq,z0,z1,je,jb,and_true,true_and]
  ·rw [if_neg c1];refine ⟨i+1,0,?_⟩;unfold pC at *;refine jZ x80 (by rfl) (hb.pur 80 3 (by decide)) rfl ?_;simp only [y80,jm,Qai,Qaj,Qag,Qah];unfold z80;try dsimp only [oo,oO,ot,oT,os,og,oh,oc,on,oN,oP]
   repeat' (first | (apply jc <;> intro _) | simp (disch:=first | exact dzD | fail) only [N,k1,M,c1,jd,Tk.cells_R,rzZ,Qab,Qac,Qad,Qaa,Qae])
   (refine G1.done ?_ (by rfl) (by rfl) ?_; (· (first | exact cyD | fail)); (· first | exact vyD | skip))
 ·rw [if_neg k1];refine ⟨i,0,?_⟩;unfold pC at *;refine jZ x80 (by rfl) (hb.pur 80 3 (by decide)) rfl ?_;simp only [y80,jm,Qai,Qaj,Qag,Qah];unfold z80;try dsimp only [oo,oO,ot,oT,os,og,oh,oc,on,oN,oP]
  repeat' (first | (apply jc <;> intro _) | simp (disch:=first | exact dzD | fail) only [N,k1,jd,Tk.cells_R,rzZ,Qab,Qac,Qad,Qaa,Qae])
  (refine G1.done ?_ (by rfl) (by rfl) ?_; (· (first | exact cyD | fail)); (· first | exact vyD | skip))
end Go.Sy
end
noncomputable section
set_option maxRecDepth 100000
namespace Go.Sy
open Go.Ev Go.Proofs
variable {base:Bs}
def Df:AV->AV->Prop
 | .slice b _ _ _ _ _,.slice c _ _ _ _ _=>c≠b
 | _,_=>True
theorem Lv.apsD {lo hi n z:Nat}{s:St}{v w:AV}{cs news:List AV}(V:Lv lo hi s w n cs z)(h:Df v w):Lv lo hi (Go.Sy.aps v s news) w n cs z:=by
 rcases V with ⟨rfl,h2,h3⟩ | ⟨b,rfl,h2,h3,h4,h5,h6⟩
 ·exact .inl ⟨rfl,h2,h3⟩
 ·refine .inr ⟨b,rfl,h2,h3,?_,h5,h6⟩;unfold Go.Sy.aps;split
  ·exact h4.apO h
  ·exact h4.nw news
theorem Df.put {lo hi n z z':Nat}{s t:St}{v w:AV}{cs:List AV}(V:Lv lo hi s w n cs z)(h:hi≤t.nx):Df (apv z' v t) w∧Df w (apv z' v t):=by
 rcases V with ⟨rfl,h2,h3⟩ | ⟨b,rfl,h2,h3,h4,h5,h6⟩
 ·unfold apv; split <;> exact ⟨trivial,trivial⟩
 ·unfold apv; split <;> exact ⟨by show b≠t.nx; omega,by show t.nx≠b; omega⟩
structure SrcT where
 enums:List EnumT
 vars:List DeclT
 procs:List ProcT
def srE (m:SrcT):List AV:=[.lst m.enums.length (fl enE m.enums),.lst m.vars.length (fl qc m.vars),.lst m.procs.length (fl prE m.procs)]
def YA (ts:List Tk):Nat->Nat->SrcT->SR SrcT
 | 0,i,_=>.er (tk ts i)
 | n+1,i,m=>if isM (tk ts i) [[101,110,117,109],[118,97,114],[112,114,111,99,101,115,115]]=true then
   (if (tk ts i).text=[101,110,117,109] then
    (if 32≤m.enums.length then .er (tk ts i) else match ZN ts (i+1) with
     | .er t=>.er t
     | .ok e j=>YA ts n j { m with enums:=m.enums ++ [e] })
   else if (tk ts i).text=[118,97,114] then
    (if 32≤m.vars.length then .er (tk ts i) else match ZP ts (i+1) with
     | .er t=>.er t
     | .ok e j=>YA ts n j { m with vars:=m.vars ++ [e] })
   else (if 32≤m.procs.length then .er (tk ts i) else match ZD ts (i+1) with
     | .er t=>.er t
     | .ok e j=>YA ts n j { m with procs:=m.procs ++ [e] }))
  else if (tk ts i).kind=5 then .ok m i else .er (tk ts i)
theorem jb1 {ts:List Tk}(W:Wds ts):∀ n i vs ws j,i<ts.length->X9 ts n i vs=.ok ws j->i≤j∧j<ts.length
 | 0,i,vs,ws,j,_,h=>by simp [X9] at h
 | n+1,i,vs,ws,j,hi,h=>by
  unfold X9 at h;split at h
  ·rename_i k1;have hi1:i+1<ts.length:=W.next i hi (by omega)
   split at h
   ·cases h
   ·split at h
    ·rename_i c;have hi2:=W.isM hi1 c;have:=jb1 W n (i+2) _ ws j hi2 h;exact ⟨by omega,by omega⟩
    ·split at h
     ·rename_i c;cases h;have:=W.isM hi1 c;exact ⟨by omega,this⟩
     ·cases h
  ·cases h
theorem jcO {ts:List Tk}(W:Wds ts){i j:Nat}{e:EnumT}(hi:i<ts.length)(h:ZN ts i=.ok e j):i<j∧j<ts.length:=by
 unfold ZN at h;split at h
 ·rename_i k1;have hi1:i+1<ts.length:=W.next i hi (by omega)
  split at h
  ·rename_i c;have hi2:=W.isM hi1 c;cases hv:X9 ts ts.length (i+2) [] with
   | er t=>rw [hv] at h; cases h
   | ok vs k=>
    rw [hv] at h;cases h;have:=jb1 W _ _ _ _ _ hi2 hv;exact ⟨by omega,by omega⟩
  ·cases h
 ·cases h
theorem jah {ts:List Tk}(W:Wds ts):∀ n i vs ws j,i<ts.length->Qx ts n i vs=.ok ws j->i≤j∧j<ts.length
 | 0,i,vs,ws,j,_,h=>by simp [Qx] at h
 | n+1,i,vs,ws,j,hi,h=>by
  unfold Qx at h;split at h
  ·rename_i c;have hi1:=W.isM hi c;split at h
   ·cases h
   ·cases hr:YV ts (i+1) with
    | er t=>rw [hr] at h; cases h
    | ok r k=>
     rw [hr] at h;dsimp only at h;have g:=KO W hi1 hr;have:=jah W n k _ ws j g.2 h;exact ⟨by omega,by omega⟩
  ·split at h
   ·rename_i c;cases h;exact ⟨by omega,W.isM hi c⟩
   ·cases h
theorem jcn {ts:List Tk}(W:Wds ts){i j:Nat}{e:ProcT}(hi:i<ts.length)(h:ZD ts i=.ok e j):i<j∧j<ts.length:=by
 unfold ZD at h;split at h
 ·rename_i k1;have hi1:i+1<ts.length:=W.next i hi (by omega)
  split at h
  ·rename_i c;have hi2:=W.isM hi1 c;cases hv:Qx ts ts.length (i+2) [] with
   | er t=>rw [hv] at h; cases h
   | ok vs k=>
    rw [hv] at h;cases h;have:=jah W _ _ _ _ _ hi2 hv;exact ⟨by omega,by omega⟩
  ·cases h
 ·cases h
theorem jfU {ts:List Tk}(W:Wds ts){i j:Nat}{n:Int}(h:Yj ts i=.ok n j):i<j:=by
 unfold Yj at h;split at h
 ·split at h
  ·cases h; omega
  ·cases h
 ·split at h
  ·cases h; omega
  ·cases h
theorem jfj {ts:List Tk}(W:Wds ts){i j:Nat}{y:List Nat×Int×Int}(hi:i<ts.length)(h:uv ts i=.ok y j):i<j∧j<ts.length:=by
 unfold uv at h;split at h
 ·rename_i c;cases h;exact ⟨by omega,W.isM hi c⟩
 ·split at h
  ·rename_i k1;cases h;exact ⟨by omega,W.next i hi (by omega)⟩
  ·cases hn:Yj ts i with
   | er t=>rw [hn] at h; cases h
   | ok lo k=>
    rw [hn] at h;dsimp only at h;have g:=kr W hi hn;have g1:=jfU W hn;split at h
    ·rename_i c;have hk1:=W.isM g c;cases hn2:Yj ts (k+1) with
     | er t=>rw [hn2] at h; cases h
     | ok h2 q=>
      rw [hn2] at h;cases h;have:=kr W hk1 hn2;have:=jfU W hn2;exact ⟨by omega,by omega⟩
    ·cases h
theorem jov {ts:List Tk}(W:Wds ts){i j:Nat}{bs:List Ex}(hi:i<ts.length)(h:vK ts i=.ok bs j):i<j∧j<ts.length:=by
 unfold vK at h;split at h
 ·rename_i c;have hi1:=W.isM hi c;cases hw:yI ts (i+1) with
  | er t=>rw [hw] at h; cases h
  | ok x k=>
   rw [hw] at h;dsimp only at h;have g:=yy W hi1 hw;split at h
   ·rename_i c2;cases h;have:=W.isM g.2.1 c2;have:=g.1;exact ⟨by omega,by omega⟩
   ·cases h
 ·split at h
  ·rename_i c;cases h;exact ⟨by omega,W.isM hi c⟩
  ·cases h
theorem jcS {ts:List Tk}(W:Wds ts){i j:Nat}{e:DeclT}(hi:i<ts.length)(h:ZP ts i=.ok e j):i<j∧j<ts.length:=by
 unfold ZP at h;split at h
 ·rename_i k1;have hi1:i+1<ts.length:=W.next i hi (by omega)
  split at h
  ·rename_i c;have hi2:=W.isM hi1 c;cases ht:uv ts (i+2) with
   | er t=>rw [ht] at h; cases h
   | ok y k=>
    rw [ht] at h;dsimp only at h;have g:=jfj W hi2 ht;cases hv:vK ts k with
    | er t=>rw [hv] at h; cases h
    | ok bs q=>
     rw [hv] at h;cases h;have:=jov W g.2 hv;exact ⟨by omega,by omega⟩
  ·cases h
 ·cases h
end Go.Sy
end
noncomputable section
set_option maxRecDepth 100000
namespace Go.Sy
open Go.Ev Go.Proofs
variable {base:Bs}
theorem Jr (e:EnumT):(enE e).all pc=true:=by
 have:∀ l:List (List Nat),(l.map AV.str).all pc=true:=vR;show ([AV.str e.name,.lst e.vals.length (e.vals.map .str),.int .i64 (e.line:Int),.int .i64 (e.col:Int)]).all pc=true;simp [pc]
theorem zP (e:DeclT):(qc e).all pc=true:=by
 show ([AV.str e.name,.str e.ty,.int .i64 e.lo,.int .i64 e.hi,.lst e.begins.length (fl eE e.begins),.int .i64 (e.line:Int),.int .i64 (e.col:Int)]).all pc=true;simp [pc]
theorem U9 (e:ProcT):(prE e).all pc=true:=by
 show ([AV.str e.name,.lst e.rules.length (fl ruE e.rules),.int .i64 (e.line:Int),.int .i64 (e.col:Int)]).all pc=true;simp [pc]
theorem Df.symm {v w:AV}(h:Df v w):Df w v:=by
 unfold Df at *;split at h <;> first | exact λe=>h e.symm | (cases v <;> cases w <;> first | trivial | (rename_i h2; exact absurd rfl (h2 _ _ _ _ _ _ _ _ _ _ _ _ rfl)))
theorem jpg:Go.Ev.isAgg Qaf 23=some false:=by kernel_rfl
theorem jpf:Go.Ev.sizeOf Qaf 23=some 1:=by kernel_rfl
theorem KK {b o:Nat}{v:AV}{h:T AO}(ho:o<qo h b)(hv:rat h b o=v)(hc:eqs v=true):(jX Qaf 23 (.ptr b o) v h=true)=True:=eq_true (Qa jpg jpf ho hv hc)
theorem jpe:Go.Ev.isAgg Qaf 24=some false:=by kernel_rfl
theorem jpd:Go.Ev.sizeOf Qaf 24=some 1:=by kernel_rfl
theorem jnd {b o:Nat}{v:AV}{h:T AO}(ho:o<qo h b)(hv:rat h b o=v)(hc:eqs v=true):(jX Qaf 24 (.ptr b o) v h=true)=True:=eq_true (Qa jpe jpd ho hv hc)
theorem jpc:Go.Ev.isAgg Qaf 25=some false:=by kernel_rfl
theorem jpb:Go.Ev.sizeOf Qaf 25=some 1:=by kernel_rfl
theorem jnc {b o:Nat}{v:AV}{h:T AO}(ho:o<qo h b)(hv:rat h b o=v)(hc:eqs v=true):(jX Qaf 25 (.ptr b o) v h=true)=True:=eq_true (Qa jpc jpb ho hv hc)
set_option maxHeartbeats 8000000 in
theorem jhP (hb:NB base){ts:List Tk}(W:Wds ts)(NN:Nbs ts){i:Nat}(hi:i<ts.length):AnS base 37 (pC ts i 0) [] ts 0 (λe=>.agg (srE e)) (YA ts ts.length i ⟨[],[],[]⟩):=by
 have wl:=W.len;suffices h:∀ r:SR SrcT,YA ts ts.length i ⟨[],[],[]⟩=r->AnS base 37 (pC ts i 0) [] ts 0 (λe=>.agg (srE e)) r from h _ rfl
 intro r hr;refine wL x37 (by rfl) (hb.pur 37 3 (by decide)) ?_;simp only [y37,jm,Qai,Qaj,Qag,Qah];unfold z37;try dsimp only [oo,oO,ot,oT,os,og,oh,oc,on,oN,oP]
 unfold pC at *;repeat' (first | (apply jc <;> intro _) | simp (disch:=first | exact dzD | fail) only [jd,Tk.cells_R,rzZ,Qab,Qac,Qad,Qaa,Qae])
 refine vN λu hu=>?_;have n0:u.nx=3:=by rw [hu]; rfl
 have C0:Cl u 0 (pC ts i 0):=by
  rw [hu]; unfold pC
  (first | exact cyD | fail)
 have C1:Cl u 1 [.nils,.nils,.nils]:=by
  rw [hu]
  (first | exact cyD | fail)
 have C2:Cl u 2 [.nils,.nils,.nils]:=by
  rw [hu]
  (first | exact cyD | fail)
 clear hu;refine zo (λmm L s=>∃ (m i':Nat) (x:SrcT) (v1 v2 v3:AV),mm=m∧ts.length≤i'+m∧i'<ts.length∧YA ts m i' x=r∧3≤s.nx∧Cl s 0 (pC ts i' 0)∧Cl s 1 [.nils,.nils,.nils]∧Cl s 2 [v1,v2,v3]∧Lv 3 s.nx s v1 x.enums.length (fl enE x.enums) 4∧Lv 3 s.nx s v2 x.vars.length (fl qc x.vars) 7∧Lv 3 s.nx s v3 x.procs.length (fl prE x.procs) 4∧Df v1 v2∧Df v1 v3∧Df v2 v3∧Has L 0 (.ptr 0 0)∧Has L 2 (.ptr 1 0)∧Has L 3 (.ptr 2 0)) ?_ ts.length ?_
 ·rintro m L s ⟨_,i',x,v1,v2,v3,rfl,hm,hi',hl,n0,C0,C1,C2,V1,V2,V3,D12,D13,D23,i0,i2,i3⟩;clear hr;cases m with
  | zero=>omega
  | succ m=>
  unfold YA at hl;obtain ⟨q,hq⟩:∃ q,q=s.nx:=⟨_,rfl⟩;rw [←hq] at V1 V2 V3;have hq':q≤s.nx:=QbI hq;have T:=Yd hb hi' (d:=0) (by omega) [[101,110,117,109],[118,97,114],[112,114,111,99,101,115,115]] (cs:=[.str [101,110,117,109],.str [118,97,114],.str [112,114,111,99,101,115,115]]) (n:=3) rfl rfl (by decide);have L0:=C0.lt;have L1:=C1.lt;have L2:=C2.lt;have ve1:=V1.eqs;have ve2:=V2.eqs;have ve3:=V3.eqs;have g1:rat s.h 2 0=v1:=C2.cell 0 (Qbq 2);have g2:rat s.h 2 1=v2:=C2.cell 1 (QbL (Qbq 1));have g3:rat s.h 2 2=v3:=C2.cell 2 (QbL (QbL (Qbq 0)));have vl1:=V1.len;have vl2:=V2.len;have vl3:=V3.len;have vc1:∀ l,lall AV.cell (v1 :: l)=lall AV.cell l:=λl=>by show cond v1.cell _ false=_; rw [V1.cell]; rfl
  have vc2:∀ l,lall AV.cell (v2 :: l)=lall AV.cell l:=λl=>by show cond v2.cell _ false=_; rw [V2.cell]; rfl
  have vc3:∀ l,lall AV.cell (v3 :: l)=lall AV.cell l:=λl=>by show cond v3.cell _ false=_; rw [V3.cell]; rfl
  by_cases c2:isM (tk ts i') [[101,110,117,109],[118,97,114],[112,114,111,99,101,115,115]]=true
  ·rw [if_pos c2] at hl;have hi1:=W.isM hi' c2;by_cases t1:(tk ts i').text=[101,110,117,109]
   ·rw [if_pos t1] at hl;by_cases h32:32≤x.enums.length
    ·rw [if_pos h32] at hl;have hl:SR.er (tk ts i')=r:=hl;subst hl;have R:=ZY hb h32 (tk ts i');unfold pC at *
     (have zz:=aI @g1 (aI C0.r (aI C1.r C2.r)); (repeat' (first | (apply jc <;> intro _) | simp (disch:=first | exact qK | fail) only [ja i0,ja i2,ja i3,T,c2,t1,vl1,R,g1,zb,C0.q,C1.q,C2.q,g1,C0.r,C1.r,C2.r,jd,Tk.cells_R,rzZ,Qab,Qac,Qad,Qaa,Qae])); (all_goals (clear zz)))
     refine ⟨i'+1,0,?_⟩;unfold pC
     (refine G1.done ?_ (by rfl) (by rfl) ?_; (· (have zz:=aI C0.q (aI C1.q (aI C2.q (aI C0.r (aI C1.r C2.r)))); first | exact qf | fail)); (· first | exact vyD | skip))
    ·rw [if_neg h32] at hl;have R:=ZX hb (show x.enums.length<32 by omega) (tk ts i');have A:=jn7 hb W (d:=0) hi1;cases hw:ZN ts (i'+1) with
     | er t=>
      rw [hw] at hl A;have hl:SR.er t=r:=hl;subst hl;obtain ⟨i2',d2,A⟩:=A;have E:∀ st p,Cl st p (pC ts (i'+1) 0)->∀ K Kp,XB Qaf base 78 [.ptr p 0] st K Kp=_:=λst p C K Kp=>A.xb C rfl (λst=>hb.no 78 (by decide) _ _) K Kp;unfold pC at *
      (have zz:=aI @g1 (aI C0.r (aI C1.r C2.r)); (repeat' (first | (apply jc <;> intro _) | simp (disch:=first | exact qK | fail) only [ja i0,ja i2,ja i3,T,c2,t1,vl1,R,g1,E,KK,ve1,zb,C0.q,C1.q,C2.q,g1,C0.r,C1.r,C2.r,jd,Tk.cells_R,rzZ,Qab,Qac,Qad,Qaa,Qae])); (all_goals (clear zz)))
      refine ⟨i2',d2,?_⟩;unfold pC
      (refine G1.done ?_ (by rfl) (by rfl) ?_; (· (have zz:=aI C0.q (aI C1.q (aI C2.q (aI C0.r (aI C1.r C2.r)))); first | exact qf | fail)); (· first | exact vyD | skip))
     | ok a j=>
      rw [hw] at hl A;dsimp only at hl;have A:PM Qaf base 78 (pC ts (i'+1) 0) [] (.ok (.agg [.str a.name,.lst a.vals.length (a.vals.map .str),.int .i64 (a.line:Int),.int .i64 (a.col:Int)])) (pC ts j 0):=A;have hj:=jcO W hi1 hw;have E:∀ st p,Cl st p (pC ts (i'+1) 0)->∀ K Kp,XB Qaf base 78 [.ptr p 0] st K Kp=_:=λst p C K Kp=>A.xb C rfl (λst=>hb.no 78 (by decide) _ _) K Kp;have Ap:=λst bv xc xx K h hv=>@Q4 3 q x.enums.length 4 st v1 (fl enE x.enums) K 56 bv xc xx h (by decide) (by omega) (by omega) hv;have VP:∀ st m',Lv 3 q st v1 x.enums.length (fl enE x.enums) 4->3≤st.nx->m'=st.nx+1->Lv 3 m' (aps v1 st [.str a.name,.lst a.vals.length (a.vals.map .str),.int .i64 (a.line:Int),.int .i64 (a.col:Int)]) (apv 4 v1 st) (x.enums ++ [a]).length (fl enE (x.enums ++ [a])) 4:=λst m' h h2 h3=>by
       rw [Qal,QI,Jl];exact h.put rfl h2 h3
      unfold pC at *
      (have zz:=aI @g1 (aI V1.ln (aI V1.rts (aI @jC (aI @jE (aI @jG (aI @V1 (aI @jB (aI @jI (aI @jL (aI C0.r (aI C1.r C2.r))))))))))); (repeat' (first | (apply jc <;> intro _) | simp (disch:=first | exact qK | fail) only [ja i0,ja i2,ja i3,T,c2,t1,vl1,R,g1,E,KK,ve1,Ap,V1.at,jB,C0.q,C1.q,C2.q,g1,V1.ln,V1.rts,jC,jE,jG,V1,jB,jI,jL,C0.r,C1.r,C2.r,jd,Tk.cells_R,rzZ,Qab,Qac,Qad,Qaa,Qae])); (all_goals (clear zz)))
      refine ⟨m,by omega,m,j,{ x with enums:=x.enums ++ [a] },?v1,v2,v3,rfl,by omega,hj.2,hl,by omega,?c0,?c1,?c2,?lv1,?lv2,?lv3,?d12,?d13,?d23,?has⟩;case lv1=>
       refine Lv.up (hi:=s.nx+4) ?_ (by omega);refine VP _ _ ?_ ?_ ?_;all_goals first | (simp only [jg,jh,jl]; done) | (simp only [jg,jh,jl]; omega) | (simp (disch:=first | omega | (simp only [jg,jh,jl]; omega)) only [jC,jE,jG]; exact V1)
      case lv2=>
       refine Lv.up (hi:=q) ?_ (by omega);simp (disch:=first | omega | (simp only [jg,jh,jl]; omega)) only [jC,jE,jG];refine Lv.apsD ?_ D12;simp (disch:=first | omega | (simp only [jg,jh,jl]; omega)) only [jC,jE,jG];exact V2
      case d12=>exact (Df.put V2 (by simp only [jg,jh,jl]; omega)).1
      case lv3=>
       refine Lv.up (hi:=q) ?_ (by omega);simp (disch:=first | omega | (simp only [jg,jh,jl]; omega)) only [jC,jE,jG];refine Lv.apsD ?_ D13;simp (disch:=first | omega | (simp only [jg,jh,jl]; omega)) only [jC,jE,jG];exact V3
      case d13=>exact (Df.put V3 (by simp only [jg,jh,jl]; omega)).1
      case d23=>exact D23
      case c0=>(have zz:=aI C0.q (aI C1.q (aI C2.q (aI @g1 (aI @g2 (aI @g3 (aI V1.ln (aI V1.rts (aI @jB (aI @jI (aI @jL (aI C0.r (aI C1.r C2.r)))))))))))); first | exact qf | fail)
      case c1=>(have zz:=aI C0.q (aI C1.q (aI C2.q (aI @g1 (aI @g2 (aI @g3 (aI V1.ln (aI V1.rts (aI @jB (aI @jI (aI @jL (aI C0.r (aI C1.r C2.r)))))))))))); first | exact qf | fail)
      case c2=>(have zz:=aI C0.q (aI C1.q (aI C2.q (aI @g1 (aI @g2 (aI @g3 (aI V1.ln (aI V1.rts (aI @jB (aI @jI (aI @jL (aI C0.r (aI C1.r C2.r)))))))))))); first | exact qf | fail)
      case has=>simp (disch:=decide) only [Qam,Qaq,z0,z1,je,jb,and_true,true_and,i0,i2,i3]
   ·rw [if_neg t1] at hl;by_cases t2:(tk ts i').text=[118,97,114]
    ·rw [if_pos t2] at hl;by_cases h32:32≤x.vars.length
     ·rw [if_pos h32] at hl;have hl:SR.er (tk ts i')=r:=hl;subst hl;have R:=ZY hb h32 (tk ts i');unfold pC at *
      (have zz:=aI @g2 (aI C0.r (aI C1.r C2.r)); (repeat' (first | (apply jc <;> intro _) | simp (disch:=first | exact qK | fail) only [ja i0,ja i2,ja i3,T,c2,t1,t2,vl2,R,g2,zb,C0.q,C1.q,C2.q,g2,C0.r,C1.r,C2.r,jd,Tk.cells_R,rzZ,Qab,Qac,Qad,Qaa,Qae])); (all_goals (clear zz)))
      refine ⟨i'+1,0,?_⟩;unfold pC
      (refine G1.done ?_ (by rfl) (by rfl) ?_; (· (have zz:=aI C0.q (aI C1.q (aI C2.q (aI C0.r (aI C1.r C2.r)))); first | exact qf | fail)); (· first | exact vyD | skip))
     ·rw [if_neg h32] at hl;have R:=ZX hb (show x.vars.length<32 by omega) (tk ts i');have A:=jod hb W NN hi1;cases hw:ZP ts (i'+1) with
      | er t=>
       rw [hw] at hl A;have hl:SR.er t=r:=hl;subst hl;obtain ⟨i2',d2,A⟩:=A;have E:∀ st p,Cl st p (pC ts (i'+1) 0)->∀ K Kp,XB Qaf base 79 [.ptr p 0] st K Kp=_:=λst p C K Kp=>A.xb C rfl (λst=>hb.no 79 (by decide) _ _) K Kp;unfold pC at *
       (have zz:=aI @g2 (aI C0.r (aI C1.r C2.r)); (repeat' (first | (apply jc <;> intro _) | simp (disch:=first | exact qK | fail) only [ja i0,ja i2,ja i3,T,c2,t1,t2,vl2,R,g2,E,jnd,ve2,zb,C0.q,C1.q,C2.q,g2,C0.r,C1.r,C2.r,jd,Tk.cells_R,rzZ,Qab,Qac,Qad,Qaa,Qae])); (all_goals (clear zz)))
       refine ⟨i2',d2,?_⟩;unfold pC
       (refine G1.done ?_ (by rfl) (by rfl) ?_; (· (have zz:=aI C0.q (aI C1.q (aI C2.q (aI C0.r (aI C1.r C2.r)))); first | exact qf | fail)); (· first | exact vyD | skip))
      | ok a j=>
       rw [hw] at hl A;dsimp only at hl;have A:PM Qaf base 79 (pC ts (i'+1) 0) [] (.ok (.agg [.str a.name,.str a.ty,.int .i64 a.lo,.int .i64 a.hi,.lst a.begins.length (fl eE a.begins),.int .i64 (a.line:Int),.int .i64 (a.col:Int)])) (pC ts j 0):=A;have hj:=jcS W hi1 hw;have E:∀ st p,Cl st p (pC ts (i'+1) 0)->∀ K Kp,XB Qaf base 79 [.ptr p 0] st K Kp=_:=λst p C K Kp=>A.xb C rfl (λst=>hb.no 79 (by decide) _ _) K Kp;have Ap:=λst bv xc xx K h hv=>@Q4 3 q x.vars.length 7 st v2 (fl qc x.vars) K 88 bv xc xx h (by decide) (by omega) (by omega) hv;have VP:∀ st m',Lv 3 q st v2 x.vars.length (fl qc x.vars) 7->3≤st.nx->m'=st.nx+1->Lv 3 m' (aps v2 st [.str a.name,.str a.ty,.int .i64 a.lo,.int .i64 a.hi,.lst a.begins.length (fl eE a.begins),.int .i64 (a.line:Int),.int .i64 (a.col:Int)]) (apv 7 v2 st) (x.vars ++ [a]).length (fl qc (x.vars ++ [a])) 7:=λst m' h h2 h3=>by
        rw [Qal,QI,Jl];exact h.put rfl h2 h3
       unfold pC at *
       (have zz:=aI @g2 (aI V2.ln (aI V2.rts (aI @jC (aI @jE (aI @jG (aI @V2 (aI @jB (aI @jI (aI @jL (aI C0.r (aI C1.r C2.r))))))))))); (repeat' (first | (apply jc <;> intro _) | simp (disch:=first | exact qK | fail) only [ja i0,ja i2,ja i3,T,c2,t1,t2,vl2,R,g2,E,jnd,ve2,Ap,V2.at,jB,C0.q,C1.q,C2.q,g2,V2.ln,V2.rts,jC,jE,jG,V2,jB,jI,jL,C0.r,C1.r,C2.r,jd,Tk.cells_R,rzZ,Qab,Qac,Qad,Qaa,Qae])); (all_goals (clear zz)))
       refine ⟨m,by omega,m,j,{ x with vars:=x.vars ++ [a] },v1,?v2,v3,rfl,by omega,hj.2,hl,by omega,?c0,?c1,?c2,?lv1,?lv2,?lv3,?d12,?d13,?d23,?has⟩;case lv2=>
        refine Lv.up (hi:=s.nx+4) ?_ (by omega);refine VP _ _ ?_ ?_ ?_;all_goals first | (simp only [jg,jh,jl]; done) | (simp only [jg,jh,jl]; omega) | (simp (disch:=first | omega | (simp only [jg,jh,jl]; omega)) only [jC,jE,jG]; exact V2)
       case lv1=>
        refine Lv.up (hi:=q) ?_ (by omega);simp (disch:=first | omega | (simp only [jg,jh,jl]; omega)) only [jC,jE,jG];refine Lv.apsD ?_ D12.symm;simp (disch:=first | omega | (simp only [jg,jh,jl]; omega)) only [jC,jE,jG];exact V1
       case d12=>exact (Df.put V1 (by simp only [jg,jh,jl]; omega)).2
       case lv3=>
        refine Lv.up (hi:=q) ?_ (by omega);simp (disch:=first | omega | (simp only [jg,jh,jl]; omega)) only [jC,jE,jG];refine Lv.apsD ?_ D23;simp (disch:=first | omega | (simp only [jg,jh,jl]; omega)) only [jC,jE,jG];exact V3
       case d23=>exact (Df.put V3 (by simp only [jg,jh,jl]; omega)).1
       case d13=>exact D13
       case c0=>(have zz:=aI C0.q (aI C1.q (aI C2.q (aI @g1 (aI @g2 (aI @g3 (aI V2.ln (aI V2.rts (aI @jB (aI @jI (aI @jL (aI C0.r (aI C1.r C2.r)))))))))))); first | exact qf | fail)
       case c1=>(have zz:=aI C0.q (aI C1.q (aI C2.q (aI @g1 (aI @g2 (aI @g3 (aI V2.ln (aI V2.rts (aI @jB (aI @jI (aI @jL (aI C0.r (aI C1.r C2.r)))))))))))); first | exact qf | fail)
       case c2=>(have zz:=aI C0.q (aI C1.q (aI C2.q (aI @g1 (aI @g2 (aI @g3 (aI V2.ln (aI V2.rts (aI @jB (aI @jI (aI @jL (aI C0.r (aI C1.r C2.r)))))))))))); first | exact qf | fail)
       case has=>simp (disch:=decide) only [Qam,Qaq,z0,z1,je,jb,and_true,true_and,i0,i2,i3]
    ·rw [if_neg t2] at hl;by_cases h32:32≤x.procs.length
     ·rw [if_pos h32] at hl;have hl:SR.er (tk ts i')=r:=hl;subst hl;have R:=ZY hb h32 (tk ts i');unfold pC at *
      (have zz:=aI @g3 (aI C0.r (aI C1.r C2.r)); (repeat' (first | (apply jc <;> intro _) | simp (disch:=first | exact qK | fail) only [ja i0,ja i2,ja i3,T,c2,t1,t2,vl3,R,g3,zb,C0.q,C1.q,C2.q,g3,C0.r,C1.r,C2.r,jd,Tk.cells_R,rzZ,Qab,Qac,Qad,Qaa,Qae])); (all_goals (clear zz)))
      refine ⟨i'+1,0,?_⟩;unfold pC
      (refine G1.done ?_ (by rfl) (by rfl) ?_; (· (have zz:=aI C0.q (aI C1.q (aI C2.q (aI C0.r (aI C1.r C2.r)))); first | exact qf | fail)); (· first | exact vyD | skip))
     ·rw [if_neg h32] at hl;have R:=ZX hb (show x.procs.length<32 by omega) (tk ts i');have A:=jns hb W hi1;cases hw:ZD ts (i'+1) with
      | er t=>
       rw [hw] at hl A;have hl:SR.er t=r:=hl;subst hl;obtain ⟨i2',d2,A⟩:=A;have E:∀ st p,Cl st p (pC ts (i'+1) 0)->∀ K Kp,XB Qaf base 80 [.ptr p 0] st K Kp=_:=λst p C K Kp=>A.xb C rfl (λst=>hb.no 80 (by decide) _ _) K Kp;unfold pC at *
       (have zz:=aI @g3 (aI C0.r (aI C1.r C2.r)); (repeat' (first | (apply jc <;> intro _) | simp (disch:=first | exact qK | fail) only [ja i0,ja i2,ja i3,T,c2,t1,t2,vl3,R,g3,E,jnc,ve3,zb,C0.q,C1.q,C2.q,g3,C0.r,C1.r,C2.r,jd,Tk.cells_R,rzZ,Qab,Qac,Qad,Qaa,Qae])); (all_goals (clear zz)))
       refine ⟨i2',d2,?_⟩;unfold pC
       (refine G1.done ?_ (by rfl) (by rfl) ?_; (· (have zz:=aI C0.q (aI C1.q (aI C2.q (aI C0.r (aI C1.r C2.r)))); first | exact qf | fail)); (· first | exact vyD | skip))
      | ok a j=>
       rw [hw] at hl A;dsimp only at hl;have A:PM Qaf base 80 (pC ts (i'+1) 0) [] (.ok (.agg [.str a.name,.lst a.rules.length (fl ruE a.rules),.int .i64 (a.line:Int),.int .i64 (a.col:Int)])) (pC ts j 0):=A;have hj:=jcn W hi1 hw;have E:∀ st p,Cl st p (pC ts (i'+1) 0)->∀ K Kp,XB Qaf base 80 [.ptr p 0] st K Kp=_:=λst p C K Kp=>A.xb C rfl (λst=>hb.no 80 (by decide) _ _) K Kp;have Ap:=λst bv xc xx K h hv=>@Q4 3 q x.procs.length 4 st v3 (fl prE x.procs) K 56 bv xc xx h (by decide) (by omega) (by omega) hv;have VP:∀ st m',Lv 3 q st v3 x.procs.length (fl prE x.procs) 4->3≤st.nx->m'=st.nx+1->Lv 3 m' (aps v3 st [.str a.name,.lst a.rules.length (fl ruE a.rules),.int .i64 (a.line:Int),.int .i64 (a.col:Int)]) (apv 4 v3 st) (x.procs ++ [a]).length (fl prE (x.procs ++ [a])) 4:=λst m' h h2 h3=>by
        rw [Qal,QI,Jl];exact h.put rfl h2 h3
       unfold pC at *
       (have zz:=aI @g3 (aI V3.ln (aI V3.rts (aI @jC (aI @jE (aI @jG (aI @V3 (aI @jB (aI @jI (aI @jL (aI C0.r (aI C1.r C2.r))))))))))); (repeat' (first | (apply jc <;> intro _) | simp (disch:=first | exact qK | fail) only [ja i0,ja i2,ja i3,T,c2,t1,t2,vl3,R,g3,E,jnc,ve3,Ap,V3.at,jB,C0.q,C1.q,C2.q,g3,V3.ln,V3.rts,jC,jE,jG,V3,jB,jI,jL,C0.r,C1.r,C2.r,jd,Tk.cells_R,rzZ,Qab,Qac,Qad,Qaa,Qae])); (all_goals (clear zz)))
       refine ⟨m,by omega,m,j,{ x with procs:=x.procs ++ [a] },v1,v2,?v3,rfl,by omega,hj.2,hl,by omega,?c0,?c1,?c2,?lv1,?lv2,?lv3,?d12,?d13,?d23,?has⟩;case lv3=>
        refine Lv.up (hi:=s.nx+4) ?_ (by omega);refine VP _ _ ?_ ?_ ?_;all_goals first | (simp only [jg,jh,jl]; done) | (simp only [jg,jh,jl]; omega) | (simp (disch:=first | omega | (simp only [jg,jh,jl]; omega)) only [jC,jE,jG]; exact V3)
       case lv1=>
        refine Lv.up (hi:=q) ?_ (by omega);simp (disch:=first | omega | (simp only [jg,jh,jl]; omega)) only [jC,jE,jG];refine Lv.apsD ?_ D13.symm;simp (disch:=first | omega | (simp only [jg,jh,jl]; omega)) only [jC,jE,jG];exact V1
       case d13=>exact (Df.put V1 (by simp only [jg,jh,jl]; omega)).2
       case lv2=>
        refine Lv.up (hi:=q) ?_ (by omega);simp (disch:=first | omega | (simp only [jg,jh,jl]; omega)) only [jC,jE,jG];refine Lv.apsD ?_ D23.symm;simp (disch:=first | omega | (simp only [jg,jh,jl]; omega)) only [jC,jE,jG];exact V2
       case d23=>exact (Df.put V2 (by simp only [jg,jh,jl]; omega)).2
       case d12=>exact D12
       case c0=>(have zz:=aI C0.q (aI C1.q (aI C2.q (aI @g1 (aI @g2 (aI @g3 (aI V3.ln (aI V3.rts (aI @jB (aI @jI (aI @jL (aI C0.r (aI C1.r C2.r)))))))))))); first | exact qf | fail)
       case c1=>(have zz:=aI C0.q (aI C1.q (aI C2.q (aI @g1 (aI @g2 (aI @g3 (aI V3.ln (aI V3.rts (aI @jB (aI @jI (aI @jL (aI C0.r (aI C1.r C2.r)))))))))))); first | exact qf | fail)
       case c2=>(have zz:=aI C0.q (aI C1.q (aI C2.q (aI @g1 (aI @g2 (aI @g3 (aI V3.ln (aI V3.rts (aI @jB (aI @jI (aI @jL (aI C0.r (aI C1.r C2.r)))))))))))); first | exact qf | fail)
       case has=>simp (disch:=decide) only [Qam,Qaq,z0,z1,je,jb,and_true,true_and,i0,i2,i3]
  ·rw [if_neg c2] at hl;by_cases k5:(tk ts i').kind=5
   ·rw [if_pos k5] at hl;have hl:SR.ok x i'=r:=hl;subst hl;have k5':((tk ts i').kind:Int)=5:=by omega
    unfold pC at *
    (have zz:=aI @g1 (aI @g2 (aI @g3 (aI @vc1 (aI @vc2 (aI @vc3 (aI C0.r (aI C1.r C2.r))))))); (repeat' (first | (apply jc <;> intro _) | simp (disch:=first | exact qK | fail) only [ja i0,ja i2,ja i3,T,c2,k5',g1,g2,g3,G6,C0.q,C1.q,C2.q,g1,g2,g3,vc1,vc2,vc3,C0.r,C1.r,C2.r,jd,Tk.cells_R,rzZ,Qab,Qac,Qad,Qaa,Qae])); (all_goals (clear zz)))
    show G1 3 (pC ts i' 0) (.agg (srE x)) _ _;refine G1.done ?_ (by rfl) (by rfl) (FzD.agg (.cons (Lv.fz (lo:=3) (hi:=q) (z:=4) ?_ (by decide) (zg Jr _)) (.cons (Lv.fz (lo:=3) (hi:=q) (z:=7) ?_ (by decide) (zg zP _)) (.cons (Lv.fz (lo:=3) (hi:=q) (z:=4) ?_ (by decide) (zg U9 _)) .nil))))
    ·unfold pC
     (have zz:=aI C0.q (aI C1.q (aI C2.q (aI @g1 (aI @g2 (aI @g3 (aI C0.r (aI C1.r C2.r))))))); first | exact qf | fail)
    all_goals simp (disch:=first | omega | (simp only [jg,jh,jl]; omega)) only [jF,jC,jE,jG]
    ·exact V1
    ·exact V2
    ·exact V3
   ·rw [if_neg k5] at hl;have hl:SR.er (tk ts i')=r:=hl;subst hl;have k5':¬ ((tk ts i').kind:Int)=5:=by omega
    unfold pC at *
    (have zz:=aI @g1 (aI C0.r (aI C1.r C2.r)); (repeat' (first | (apply jc <;> intro _) | simp (disch:=first | exact qK | fail) only [ja i0,ja i2,ja i3,T,c2,k5',g1,JP hb,zb,C0.q,C1.q,C2.q,g1,C0.r,C1.r,C2.r,jd,Tk.cells_R,rzZ,Qab,Qac,Qad,Qaa,Qae])); (all_goals (clear zz)))
    refine ⟨i',0,?_⟩;unfold pC
    (refine G1.done ?_ (by rfl) (by rfl) ?_; (· (have zz:=aI C0.q (aI C1.q (aI C2.q (aI C0.r (aI C1.r C2.r)))); first | exact qf | fail)); (· first | exact vyD | skip))
 ·refine ⟨ts.length,i,⟨[],[],[]⟩,.nils,.nils,.nils,rfl,by omega,hi,hr,by omega,C0,C1,C2,Lv.nil,Lv.nil,Lv.nil,trivial,trivial,trivial,?_⟩;simp (disch:=decide) only [Qam,Qaq,z0,z1,je,jb,and_true,true_and]
end Go.Sy
end
noncomputable section
set_option maxRecDepth 100000
namespace Go.Sy
open Go.Ev Go.Proofs
variable {base:Bs}
theorem jpa:Go.Ev.isAgg Qaf 27=some true:=by kernel_rfl
theorem jo9:Go.Ev.sizeOf Qaf 27=some 3:=by kernel_rfl
theorem jdn {b:Nat}{h:T AO}(ho:0+3≤qo h b)(hv:rats h b 0 3=[.nils,.nils,.nils]):(jX Qaf 27 (.ptr b 0) (.agg [.nils,.nils,.nils]) h=true)=True:=eq_true (Zc jpa jo9 (by decide) ho hv rfl)
def Wq:SrcT:=⟨[],[],[]⟩
def zG (l:List Nat):SrcT×(Nat×Nat×Nat):=
 if (qi l).2.1≠0 then (Wq,(qi l).2) else match YA (qi l).1 (qi l).1.length 0 Wq with
  | .er t=>(Wq,(151,t.line,t.col))
  | .ok m j=>(m,(0,0,0))
theorem US (m:SrcT):(srE m).all pc=true:=by
 show ([AV.lst m.enums.length (fl enE m.enums),.lst m.vars.length (fl qc m.vars),.lst m.procs.length (fl prE m.procs)]).all pc=true;simp [pc]
theorem jcb {s:St}{q:Nat×Nat×Nat}{ds:List AV}(h2:ds=zn q):G0 (.tup [.agg (srE Wq),.agg (zn q)]) (.tup [.agg [.nils,.nils,.nils],.agg ds]) s:=by
 subst h2;exact FzD.tup (.cons (.agg (.cons FzD.nils (.cons FzD.nils (.cons FzD.nils .nil)))) (.cons (.agg (.pc (by rfl))) .nil))
theorem jkk {s:St}{m:SrcT}{q:Nat×Nat×Nat}{cs ds:List AV}(h:cs=srE m)(h2:ds=zn q):G0 (.tup [.agg (srE m),.agg (zn q)]) (.tup [.agg cs,.agg ds]) s:=by
 subst h h2;exact FzD.tup (.cons (.agg (.pc (US m))) (.cons (.agg (.pc (by rfl))) .nil))
set_option maxHeartbeats 4000000 in
theorem jiM (hb:NB base)(hP:PI base)(l:List Nat)(hl:l.length≤9223372036854775807)(hW:(qi l).2.1=0->Wds (qi l).1∧(qi l).1≠[]∧(qi l).2=(0,0,0))(hN:(qi l).2.1=0->Nbs (qi l).1) :
  Tot base 9 [.str l] (.tup [.agg (srE (zG l).1),.agg (zn (zG l).2)]):=by
 refine hb.tot ?_ rfl rfl;refine uC x9 (hb.pur 9 1 (by decide)) ?_;simp only [y9,jm,Qai,Qaj,Qag,Qah];unfold z9;try dsimp only [oo,oO,ot,oT,os,og,oh,oc,on,oN,oP]
 have hC:=jj6 hb hP l hl;have f0:(zn (qi l).2)=[.int .i64 ((qi l).2.1:Int),.int .i64 ((qi l).2.2.1:Int),.int .i64 ((qi l).2.2.2:Int)]:=rfl;by_cases he:(qi l).2.1=0
 ·obtain ⟨W,hne,hz⟩:=hW he;have NN:=hN he;have hi:0<(qi l).1.length:=QbZ.2 hne;have A:=jhP hb W NN hi;unfold zG;rw [if_neg (by simp [he])];rw [hz] at hC;have s0:Wq=⟨[],[],[]⟩:=rfl;rw [←s0] at A;generalize (qi l).1=ts at *;have fz:zn (0,0,0)=[.int .i64 0,.int .i64 0,.int .i64 0]:=rfl;rw [fz] at hC;cases hr:YA ts ts.length 0 Wq with
  | er t=>
   rw [hr] at A;obtain ⟨i',d',A⟩:=A;have E:∀ st p,Cl st p [.lst ts.length (fl Tk.cells ts),.int .i64 0,.int .i64 0]->∀ K Kp,XB Qaf base 37 [.ptr p 0] st K Kp=_:=λst p C K Kp=>A.xb C rfl (λst=>hb.no 37 (by decide) _ _) K Kp;unfold pC at *;repeat' (first | (apply jc <;> intro _) | simp (disch:=first | exact dzD | fail) only [hC,E,Zu,JK (f:=36) (vs:=[.ptr 1 0]),Jf (f:=36) (vs:=[.ptr 1 0]),Xx,wH,uF,Yf,jdn,XN,Wk,Wj (base:=base),jd,Tk.cells_R,rzZ,Qab,Qac,Qad,Qaa,Qae])
   exact jcb rfl
  | ok m j=>
   rw [hr] at A;have A:PM Qaf base 37 (pC ts 0 0) [] (.ok (.agg [.lst m.enums.length (fl enE m.enums),.lst m.vars.length (fl qc m.vars),.lst m.procs.length (fl prE m.procs)])) (pC ts j 0):=A;have E:∀ st p,Cl st p [.lst ts.length (fl Tk.cells ts),.int .i64 0,.int .i64 0]->∀ K Kp,XB Qaf base 37 [.ptr p 0] st K Kp=_:=λst p C K Kp=>A.xb C rfl (λst=>hb.no 37 (by decide) _ _) K Kp;dsimp only;unfold pC at *;repeat' (first | (apply jc <;> intro _) | simp (disch:=first | exact dzD | fail) only [hC,E,Zu,JK (f:=36) (vs:=[.ptr 1 0]),Jf (f:=36) (vs:=[.ptr 1 0]),Xx,wH,uF,Yf,jdn,XN,Wk,Wj (base:=base),jd,Tk.cells_R,rzZ,Qab,Qac,Qad,Qaa,Qae])
   exact jkk rfl rfl
 ·have he':¬ ((qi l).2.1:Int)=0:=by omega
  unfold zG;rw [if_pos he];rw [f0] at hC;generalize (qi l).1=ts at *;repeat' (first | (apply jc <;> intro _) | simp (disch:=first | exact dzD | fail) only [hC,he',Zu,JK (f:=36) (vs:=[.ptr 1 0]),Jf (f:=36) (vs:=[.ptr 1 0]),Xx,wH,uF,Yf,jdn,jd,Tk.cells_R,rzZ,Qab,Qac,Qad,Qaa,Qae])
  exact jcb rfl
end Go.Sy
end
noncomputable section
set_option maxRecDepth 100000
namespace Go.Sy
open Go.Ev Go.Proofs
theorem jdG {r:List Nat}{p:Nat×Nat}{n:Nat}{t:Tk}(h:yC r p=(0,t,n)):t.text.length≤r.length∧t.num≤1000000:=by
 cases r with
 | nil=>simp [yC] at h; obtain ⟨h1,h2⟩:=h; subst h1; simp
 | cons x r'=>
  unfold yC at h;simp only at h;split at h
  ·split at h
   ·simp at h
   ·simp only [Prod.mk.injEq] at h;obtain ⟨_,h1,h2⟩:=h;subst h1;exact ⟨by simp only [QaJ]; omega,by simp⟩
  ·split at h
   ·split at h
    ·simp at h
    ·rename_i hh;simp only [Prod.mk.injEq] at h;obtain ⟨_,h1,h2⟩:=h;subst h1;exact ⟨by simp only [QaJ]; omega,by dsimp only; omega⟩
   ·split at h
    ·simp at h
    ·simp only [Prod.mk.injEq] at h;obtain ⟨_,h1,h2⟩:=h;subst h1;exact ⟨by simp only [QaJ]; omega,by simp⟩
structure Goods (n:Nat)(ts:List Tk):Prop where
 ne:ts≠[]
 len:ts.length≤n+1
 tok:∀ t∈ts,t.text.length≤n∧t.num≤1000000
 fin:∀ i,i<ts.length->((tk ts i).kind=5↔i+1=ts.length)
theorem jgT (k:Nat):∀ (r:List Nat) (p:Nat×Nat),r.length≤k->(Jm r p).2.1=0->(Jm r p).2=(0,0,0)∧Goods r.length (Jm r p).1:=by
 induction k with
 | zero=>
  intro r p hr;have:r=[]:=QaV (by omega);subst this;have hx:yC (([]:List Nat).drop (j1 [])) (j2 p (([]:List Nat).take (j1 [])))=(0,⟨5,[],0,(j2 p (([]:List Nat).take (j1 []))).1,(j2 p (([]:List Nat).take (j1 []))).2⟩,0):=by simp only [List.drop_nil]; rfl
  rw [Z9 _ p hx,if_neg (by simp),if_pos rfl];intro _;refine ⟨rfl,by simp,by simp,by simp,λi hi=>?_⟩;have:i=0:=by simp at hi; omega
  subst this;simp [tk]
 | succ k ih=>
  intro r p hr;have hg:=VH r;generalize hx:yC (r.drop (j1 r)) (j2 p (r.take (j1 r)))=x;obtain ⟨e,t,n⟩:=x;rw [Z9 r p hx];by_cases he:e=0
  ·subst he;rw [if_neg (by simp)];have hk:=kv hx;have hgd:=jdG hx;have hle:=Un hx;simp only [QaQ] at hgd hle;by_cases hn:n=0
   ·rw [if_pos hn];intro _;refine ⟨rfl,by simp,by simp,?_,λi hi=>?_⟩
    ·intro t' ht';have:t'=t:=by simpa using ht'
     subst this;exact ⟨by omega,hgd.2⟩
    ·have:i=0:=by simp at hi; omega
     subst this;have:=hk.1.2 hn;simpa [tk] using this
   ·rw [if_neg hn];have hl:((r.drop (j1 r)).drop n).length≤k:=by simp only [QaQ]; omega
    have hI:=ih ((r.drop (j1 r)).drop n) (j2 (j2 p (r.take (j1 r))) ((r.drop (j1 r)).take n)) hl;generalize hq:Jm ((r.drop (j1 r)).drop n) (j2 (j2 p (r.take (j1 r))) ((r.drop (j1 r)).take n))=q at hI ⊢;by_cases hf:q.2.1=0
    ·rw [if_neg (by simp [hf])];intro _;obtain ⟨h1,h2⟩:=hI hf;have hl2:((r.drop (j1 r)).drop n).length+1≤r.length:=by simp only [QaQ]; omega
     generalize ((r.drop (j1 r)).drop n).length=m at *;have h3:=h2.len;refine ⟨h1,by simp,by simp only [Qak]; omega,?_,λi hi=>?_⟩
     ·intro t' ht';rcases Qbt.1 ht' with rfl | ht'
      ·exact ⟨by omega,hgd.2⟩
      ·have:=h2.tok t' ht';exact ⟨by omega,this.2⟩
     ·cases i with
      | zero=>
       have hk5:t.kind≠5:=λh=>hn (hk.1.1 h);have:=QbZ.2 h2.ne;show t.kind=5↔0+1=q.1.length+1;constructor
       ·intro h; exact absurd h hk5
       ·intro h; omega
      | succ i=>
       show (tk q.1 i).kind=5↔i+1+1=q.1.length+1;have:=h2.fin i (by simpa using hi);constructor
       ·intro h; have:=this.1 h; omega
       ·intro h; exact this.2 (by omega)
    ·rw [if_pos hf];intro h;exact absurd h hf
  ·rw [if_pos he];intro h;exact absurd h he
theorem GA {l:List Nat}(h:(qi l).2.1=0):l.length≤65536∧(qi l).2=(0,0,0)∧Goods l.length (qi l).1:=by
 unfold qi at *;by_cases hl:65536<l.length
 ·rw [if_pos hl] at h; cases h
 ·rw [if_neg hl] at h ⊢;obtain ⟨h1,h2⟩:=jgT l.length l (1,1) (Qap _) h;exact ⟨by omega,h1,h2⟩
theorem jje {ts:List Tk}{i:Nat}(h:ts.length≤i):tk ts i=⟨0,[],0,0,0⟩:=by simp [tk,QaL,h]
theorem jfm {ts:List Tk}{i:Nat}(h:i<ts.length):tk ts i∈ts:=by rw [←jjf h]; exact Qax h
theorem Goods.wds {n:Nat}{ts:List Tk}(h:Goods n ts)(hn:n≤65536):Wds ts where
 len:=by have:=h.len; omega
 next:=λi hi hk=>by
  have:=h.fin i hi;rcases QaS (i+1) ts.length with h2 | h2
  ·exact h2
  ·exact absurd (this.2 (by omega)) hk
 txt:=λi=>by
  rcases QaS i ts.length with h2 | h2
  ·have:=(h.tok _ (jfm h2)).1; omega
  ·rw [jje h2]; simp
theorem Goods.nbs {n:Nat}{ts:List Tk}(h:Goods n ts):Nbs ts:=λi=>by
 rcases QaS i ts.length with h2 | h2
 ·exact (h.tok _ (jfm h2)).2
 ·rw [jje h2]; simp
theorem Kf {l:List Nat}(h:(qi l).2.1=0):Wds (qi l).1∧(qi l).1≠[]∧(qi l).2=(0,0,0):=
 let ⟨h1,h2,h3⟩:=GA h
 ⟨h3.wds h1,h3.ne,h2⟩
theorem jgS {l:List Nat}(h:(qi l).2.1=0):Nbs (qi l).1:=(GA h).2.2.nbs
end Go.Sy
end
noncomputable section
set_option maxRecDepth 100000
namespace Go.Sy
open Go.Ev Go.Proofs
def jlD:XC:=(.seq (.ops [(oO 4 (.mv (.c (.bool false))))]) (.seq (.seq (.ops [(oT 7 1),(oO 8 (.len (.t 7))),(oO 9 (.mv (.c (.int .i64 0))))]) (.block 0 (.loop (.seq (.ops [(oO 10 (.bin .lss (.t 9) (.t 8)))]) (.seq (.cond (.t 10) .skip (.exit 0)) (.seq (.block 1 (.seq (.ops [(oo 11 (.idxS 1 (.t 7) (.t 9))),(oo 12 (.ld1 (.t 11))),(oT 6 12)]) (.seq (.ops [(ot 13 6),(ot 14 0),(oO 15 (.strb .eql (.t 13) (.t 14)))]) (.cond (.t 15) (.seq (.ops [(oO 4 (.mv (.c (.bool true))))]) .ret) .skip)))) (.ops [(oo 16 (.bin .add (.t 9) (.c (.int .i64 1)))),(oT 9 16)]))))))) (.seq (.ops [(oO 4 (.mv (.c (.bool false))))]) .ret)))
def jml:XF:=⟨[0,1],jlD,[(.t 4)]⟩
theorem jp2:jD Qaf 130=some jml:=by kernel_rfl
def z84:XC:=(.seq (.ops [(oO 2 (.mv (.c (.bool false))))]) (.seq (.ops [(ot 3 0),(oo 4 (.buildS 19 1 [(.str [])] [((0,1),(.c (.str [101,110,117,109]))),((1,1),(.c (.str [118,97,114]))),((2,1),(.c (.str [98,111,111,108]))),((3,1),(.c (.str [112,114,111,99,101,115,115]))),((4,1),(.c (.str [119,104,101,110]))),((5,1),(.c (.str [100,111]))),((6,1),(.c (.str [116,114,117,101]))),((7,1),(.c (.str [102,97,108,115,101]))),((8,1),(.c (.str [88]))),((9,1),(.c (.str [70]))),((10,1),(.c (.str [71]))),((11,1),(.c (.str [85]))),((12,1),(.c (.str [82]))),((13,1),(.c (.str [89]))),((14,1),(.c (.str [90]))),((15,1),(.c (.str [79]))),((16,1),(.c (.str [72]))),((17,1),(.c (.str [83]))),((18,1),(.c (.str [84])))])),(oc 5 130 [(.t 3),(.t 4)]),(oT 2 5)]) .ret))
def y84:XF:=⟨[0],z84,[(.t 2)]⟩
theorem x84:jD Qaf 84=some y84:=by kernel_rfl
def z83:XC:=(.seq (.ops [(oO 2 (.mv (.c (.bool false))))]) (.seq (.ops [(ot 3 0),(oo 4 (.bin .geq (.t 3) (.c (.int .u8 97)))),(ot 5 4),(og 6 5 (.mv (.t 0))),(og 7 5 (.bin .leq (.t 6) (.c (.int .u8 122)))),(oo 8 (.pick (.t 5) (.t 7) (.c (.bool false)))),(ot 9 8),(oh 10 9 (.mv (.t 0))),(oh 11 9 (.bin .geq (.t 10) (.c (.int .u8 65)))),(oh 12 9 (.mv (.t 11))),(og 13 12 (.mv (.t 0))),(og 14 12 (.bin .leq (.t 13) (.c (.int .u8 90)))),(oh 15 9 (.pick (.t 12) (.t 14) (.c (.bool false)))),(oo 16 (.pick (.t 9) (.c (.bool true)) (.t 15))),(oT 2 16)]) .ret))
def y83:XF:=⟨[0],z83,[(.t 2)]⟩
theorem x83:jD Qaf 83=some y83:=by kernel_rfl
def z85:XC:=(.seq (.ops [(oO 2 (.mv (.c (.bool false))))]) (.seq (.ops [(ot 3 0),(oo 4 (.bin .geq (.t 3) (.c (.int .u8 48)))),(ot 5 4),(og 6 5 (.mv (.t 0))),(og 7 5 (.bin .leq (.t 6) (.c (.int .u8 57)))),(oo 8 (.pick (.t 5) (.t 7) (.c (.bool false)))),(oT 2 8)]) .ret))
def y85:XF:=⟨[0],z85,[(.t 2)]⟩
theorem x85:jD Qaf 85=some y85:=by kernel_rfl
def z56:XC:=(.seq (.ops [(oO 2 (.mv (.c (.bool false))))]) (.seq (.seq (.ops [(oO 3 (.mv (.c (.int .i64 0))))]) (.block 0 (.loop (.seq (.seq (.ops [(ot 4 3),(ot 5 0),(oo 6 (.lenS (.t 5))),(oO 7 (.bin .lss (.t 4) (.t 6)))]) (.cond (.t 7) .skip (.exit 0))) (.seq (.block 1 (.seq (.ops [(ot 10 0),(ot 11 3),(oo 12 (.ixStr (.t 10) (.t 11))),(oc 13 83 [(.t 12)]),(oo 14 (.un .not (.t 13))),(ot 15 14),(og 16 15 (.mv (.t 3))),(og 17 15 (.bin .eql (.t 16) (.c (.int .i64 0)))),(og 18 15 (.mv (.t 17))),(oh 19 18 (.mv (.t 0))),(oh 20 18 (.mv (.t 3))),(oh 21 18 (.ixStr (.t 19) (.t 20))),⟨(some 22),false,(some (18,false)),(.call (.c (.fn 85 [])) [(.t 21)])⟩,(oh 23 18 (.un .not (.t 22))),(oh 24 18 (.mv (.t 23))),(og 25 24 (.mv (.t 0))),(og 26 24 (.mv (.t 3))),(og 27 24 (.ixStr (.t 25) (.t 26))),(og 28 24 (.bin .neq (.t 27) (.c (.int .u8 95)))),(oh 29 18 (.pick (.t 24) (.t 28) (.c (.bool false)))),(og 30 15 (.pick (.t 18) (.c (.bool true)) (.t 29))),(oO 31 (.pick (.t 15) (.t 30) (.c (.bool false))))]) (.cond (.t 31) (.seq (.ops [(oO 2 (.mv (.c (.bool false))))]) .ret) .skip))) (.ops [(ot 8 3),(oo 9 (.bin .add (.t 8) (.c (.int .i64 1)))),(oT 3 9)])))))) (.seq (.ops [(ot 32 0),(oo 33 (.lenS (.t 32))),(oo 34 (.bin .gtr (.t 33) (.c (.int .i64 0)))),(ot 35 34),(og 36 35 (.mv (.t 0))),(og 37 35 (.lenS (.t 36))),(og 38 35 (.bin .leq (.t 37) (.c (.int .i64 32)))),(oo 39 (.pick (.t 35) (.t 38) (.c (.bool false)))),(ot 40 39),(og 41 40 (.mv (.t 0))),⟨(some 42),false,(some (40,true)),(.call (.c (.fn 84 [])) [(.t 41)])⟩,(og 43 40 (.un .not (.t 42))),(oo 44 (.pick (.t 40) (.t 43) (.c (.bool false)))),(oT 2 44)]) .ret)))
def y56:XF:=⟨[0],z56,[(.t 2)]⟩
theorem x56:jD Qaf 56=some y56:=by kernel_rfl
def z16:XC:=(.seq (.ops [(oO 1 (.box (.t 0))),(oO 2 (.mv (.c (.str []))))]) (.seq (.seq (.ops [(oo 3 (.fad 3 (.t 1))),(oo 4 (.ld1 (.t 3))),(oo 5 (.len (.t 4))),(oO 6 (.bin .eql (.t 5) (.c (.int .i64 2))))]) (.cond (.t 6) (.seq (.dops [(oP (oo 7 (.fad 3 (.t 1)))),(⟨(oo 8 (.ld1 (.t 7))),(some (some (.t 7))),35,[]⟩,none),(oP (oo 9 (.idxS 6 (.t 8) (.c (.int .i64 0))))),(⟨(oo 10 (.ldA 6 (.t 9))),(some (some (.t 9))),37,[]⟩,none),(⟨(oc 11 51 [(.t 10)]),(some none),0,[]⟩,(some [(on 11),(on 12),⟨(oo 13 (.fad 0 (.t 1))),none,0,[]⟩,⟨(oo 14 (.ld1 (.t 13))),(some (some (.t 13))),3,[(2,0)]⟩,(on 15),(on 16),(on 17),⟨(oo 18 (.fad 3 (.t 1))),none,0,[]⟩,⟨(oo 19 (.ld1 (.t 18))),(some (some (.t 18))),35,[(3,0),(7,0)]⟩,⟨(oo 20 (.idxS 6 (.t 19) (.c (.int .i64 1)))),none,0,[]⟩,⟨(oo 21 (.ldA 6 (.t 20))),(some (some (.t 20))),37,[(5,0),(9,0)]⟩,(on 22),(on 23),⟨(oO 2 (.mv (.c (.tup [])))),none,0,[]⟩])),(oP (oo 12 (.strb .add (.t 11) (.c (.str [32]))))),(oP (oo 13 (.fad 0 (.t 1)))),(⟨(oo 14 (.ld1 (.t 13))),(some (some (.t 13))),3,[(2,0)]⟩,none),(⟨(oc 15 52 [(.t 14)]),(some none),0,[]⟩,(some [(on 15),(on 16),(on 17),⟨(oo 18 (.fad 3 (.t 1))),none,0,[]⟩,⟨(oo 19 (.ld1 (.t 18))),(some (some (.t 18))),35,[(3,0),(7,0)]⟩,⟨(oo 20 (.idxS 6 (.t 19) (.c (.int .i64 1)))),none,0,[]⟩,⟨(oo 21 (.ldA 6 (.t 20))),(some (some (.t 20))),37,[(5,0),(9,0)]⟩,(on 22),(on 23),⟨(oO 2 (.mv (.c (.tup [])))),none,0,[]⟩])),(oP (oo 16 (.strb .add (.t 12) (.t 15)))),(oP (oo 17 (.strb .add (.t 16) (.c (.str [32]))))),(oP (oo 18 (.fad 3 (.t 1)))),(⟨(oo 19 (.ld1 (.t 18))),(some (some (.t 18))),35,[(3,0),(7,0)]⟩,none),(oP (oo 20 (.idxS 6 (.t 19) (.c (.int .i64 1))))),(⟨(oo 21 (.ldA 6 (.t 20))),(some (some (.t 20))),37,[(5,0),(9,0)]⟩,none),(⟨(oc 22 51 [(.t 21)]),(some none),0,[]⟩,(some [])),(oP (oo 23 (.strb .add (.t 17) (.t 22)))),(oP (oT 2 23))]) .ret) .skip)) (.seq (.seq (.ops [(oo 24 (.fad 3 (.t 1))),(oo 25 (.ld1 (.t 24))),(oo 26 (.len (.t 25))),(oO 27 (.bin .eql (.t 26) (.c (.int .i64 1))))]) (.cond (.t 27) (.seq (.seq (.ops [(oo 28 (.fad 0 (.t 1))),(oo 29 (.ld1 (.t 28))),(oO 30 (.bin .gtr (.t 29) (.c (.int .i64 6))))]) (.cond (.t 30) (.seq (.dops [(oP (oo 31 (.fad 0 (.t 1)))),(⟨(oo 32 (.ld1 (.t 31))),(some (some (.t 31))),3,[]⟩,none),(⟨(oc 33 52 [(.t 32)]),(some none),0,[]⟩,(some [(on 33),(on 34),⟨(oo 35 (.fad 3 (.t 1))),none,0,[]⟩,⟨(oo 36 (.ld1 (.t 35))),(some (some (.t 35))),35,[(2,0)]⟩,⟨(oo 37 (.idxS 6 (.t 36) (.c (.int .i64 0)))),none,0,[]⟩,⟨(oo 38 (.ldA 6 (.t 37))),(some (some (.t 37))),37,[(4,0)]⟩,(on 39),(on 40),⟨(oO 2 (.mv (.c (.tup [])))),none,0,[]⟩])),(oP (oo 34 (.strb .add (.t 33) (.c (.str [32]))))),(oP (oo 35 (.fad 3 (.t 1)))),(⟨(oo 36 (.ld1 (.t 35))),(some (some (.t 35))),35,[(2,0)]⟩,none),(oP (oo 37 (.idxS 6 (.t 36) (.c (.int .i64 0))))),(⟨(oo 38 (.ldA 6 (.t 37))),(some (some (.t 37))),37,[(4,0)]⟩,none),(⟨(oc 39 51 [(.t 38)]),(some none),0,[]⟩,(some [])),(oP (oo 40 (.strb .add (.t 34) (.t 39)))),(oP (oT 2 40))]) .ret) .skip)) (.seq (.dops [(oP (oo 41 (.fad 0 (.t 1)))),(⟨(oo 42 (.ld1 (.t 41))),(some (some (.t 41))),3,[]⟩,none),(⟨(oc 43 52 [(.t 42)]),(some none),0,[]⟩,(some [(on 43),⟨(oo 44 (.fad 3 (.t 1))),none,0,[]⟩,⟨(oo 45 (.ld1 (.t 44))),(some (some (.t 44))),35,[(1,0)]⟩,⟨(oo 46 (.idxS 6 (.t 45) (.c (.int .i64 0)))),none,0,[]⟩,⟨(oo 47 (.ldA 6 (.t 46))),(some (some (.t 46))),37,[(3,0)]⟩,(on 48),(on 49),⟨(oO 2 (.mv (.c (.tup [])))),none,0,[]⟩])),(oP (oo 44 (.fad 3 (.t 1)))),(⟨(oo 45 (.ld1 (.t 44))),(some (some (.t 44))),35,[(1,0)]⟩,none),(oP (oo 46 (.idxS 6 (.t 45) (.c (.int .i64 0))))),(⟨(oo 47 (.ldA 6 (.t 46))),(some (some (.t 46))),37,[(3,0)]⟩,none),(⟨(oc 48 51 [(.t 47)]),(some none),0,[]⟩,(some [])),(oP (oo 49 (.strb .add (.t 43) (.t 48)))),(oP (oT 2 49))]) .ret)) .skip)) (.seq (.seq (.ops [(oo 50 (.fad 0 (.t 1))),(oo 51 (.ld1 (.t 50))),(oO 52 (.bin .eql (.t 51) (.c (.int .i64 1))))]) (.cond (.t 52) (.seq (.ops [(oo 53 (.fad 1 (.t 1))),(oo 54 (.ld1 (.t 53))),(oc 55 53 [(.t 54)]),(oT 2 55)]) .ret) .skip)) (.seq (.seq (.ops [(oo 56 (.fad 0 (.t 1))),(oo 57 (.ld1 (.t 56))),(oO 58 (.bin .eql (.t 57) (.c (.int .i64 2))))]) (.cond (.t 58) (.seq (.seq (.ops [(oo 59 (.fad 1 (.t 1))),(oo 60 (.ld1 (.t 59))),(oO 61 (.bin .eql (.t 60) (.c (.int .i64 1))))]) (.cond (.t 61) (.seq (.ops [(oO 2 (.mv (.c (.str [116,114,117,101]))))]) .ret) .skip)) (.seq (.ops [(oO 2 (.mv (.c (.str [102,97,108,115,101]))))]) .ret)) .skip)) (.seq (.ops [(oo 62 (.fad 2 (.t 1))),(oo 63 (.ld1 (.t 62))),(oT 2 63)]) .ret))))))
def y16:XF:=⟨[0],z16,[(.t 2)]⟩
theorem x16:jD Qaf 16=some y16:=by kernel_rfl
def z51:XC:=(.seq (.ops [(oO 1 (.box (.t 0))),(oO 2 (.mv (.c (.str []))))]) (.seq (.seq (.ops [(oo 3 (.fad 3 (.t 1))),(oo 4 (.ld1 (.t 3))),(oo 5 (.len (.t 4))),(oO 6 (.bin .eql (.t 5) (.c (.int .i64 0))))]) (.cond (.t 6) (.seq (.ops [(oo 7 (.ldA 6 (.t 1))),(oc 8 16 [(.t 7)]),(oT 2 8)]) .ret) .skip)) (.seq (.ops [(oo 9 (.ldA 6 (.t 1))),(oc 10 16 [(.t 9)]),(oo 11 (.strb .add (.c (.str [40])) (.t 10))),(oo 12 (.strb .add (.t 11) (.c (.str [41])))),(oT 2 12)]) .ret)))
def y51:XF:=⟨[0],z51,[(.t 2)]⟩
theorem x51:jD Qaf 51=some y51:=by kernel_rfl
def z53:XC:=(.seq (.ops [(oO 2 (.mv (.c (.str []))))]) (.seq (.seq (.ops [(ot 3 0),(oO 4 (.bin .lss (.t 3) (.c (.int .i64 0))))]) (.cond (.t 4) (.seq (.ops [(ot 5 0),(oo 6 (.un .neg (.t 5))),(oc 7 53 [(.t 6)]),(oo 8 (.strb .add (.c (.str [45])) (.t 7))),(oT 2 8)]) .ret) .skip)) (.seq (.seq (.ops [(ot 9 0),(oO 10 (.bin .lss (.t 9) (.c (.int .i64 10))))]) (.cond (.t 10) (.seq (.ops [(ot 11 0),(ot 12 0),(oo 13 (.bin .add (.t 12) (.c (.int .i64 1)))),(oo 14 (.slStr (.c (.str [48,49,50,51,52,53,54,55,56,57])) (some (.t 11)) (some (.t 13)))),(oT 2 14)]) .ret) .skip)) (.seq (.cops [((ot 15 0),none),((oo 16 (.bin .quo (.t 15) (.c (.int .i64 10)))),none),((oc 17 53 [(.t 16)]),(some [(on 17),⟨(ot 18 0),none,0,[]⟩,⟨(oo 19 (.bin .rem (.t 18) (.c (.int .i64 10)))),none,0,[]⟩,⟨(ot 20 0),none,0,[]⟩,⟨(oo 21 (.bin .rem (.t 20) (.c (.int .i64 10)))),none,0,[]⟩,⟨(oo 22 (.bin .add (.t 21) (.c (.int .i64 1)))),none,0,[]⟩,⟨(oo 23 (.slStr (.c (.str [48,49,50,51,52,53,54,55,56,57])) (some (.t 19)) (some (.t 22)))),none,0,[]⟩,(on 24),⟨(oO 2 (.mv (.c (.tup [])))),none,0,[]⟩])),((ot 18 0),none),((oo 19 (.bin .rem (.t 18) (.c (.int .i64 10)))),none),((ot 20 0),none),((oo 21 (.bin .rem (.t 20) (.c (.int .i64 10)))),none),((oo 22 (.bin .add (.t 21) (.c (.int .i64 1)))),none),((oo 23 (.slStr (.c (.str [48,49,50,51,52,53,54,55,56,57])) (some (.t 19)) (some (.t 22)))),none),((oo 24 (.strb .add (.t 17) (.t 23))),none),((oT 2 24),none)]) .ret))))
def y53:XF:=⟨[0],z53,[(.t 2)]⟩
theorem x53:jD Qaf 53=some y53:=by kernel_rfl
def z18:XC:=(.seq (.ops [(oO 1 (.box (.t 0))),(oO 2 (.mv (.c (.str [])))),(oO 3 (.mv (.c (.int .i64 0))))]) (.seq (.ops [(oO 4 (.mv (.c (.str []))))]) (.seq (.seq (.ops [(oo 19 (.fad 0 (.t 1))),(oo 20 (.ld1 (.t 19))),(oo 21 (.len (.t 20))),(oo 22 (.bin .gtr (.t 21) (.c (.int .i64 32)))),(ot 23 22),(oh 24 23 (.fad 1 (.t 1))),(oh 25 23 (.ld1 (.t 24))),(oh 26 23 (.len (.t 25))),(oh 27 23 (.bin .gtr (.t 26) (.c (.int .i64 32)))),(oo 28 (.pick (.t 23) (.c (.bool true)) (.t 27))),(ot 29 28),(oh 30 29 (.fad 2 (.t 1))),(oh 31 29 (.ld1 (.t 30))),(oh 32 29 (.len (.t 31))),(oh 33 29 (.bin .gtr (.t 32) (.c (.int .i64 32)))),(oO 34 (.pick (.t 29) (.c (.bool true)) (.t 33)))]) (.cond (.t 34) (.seq (.ops [(oO 2 (.mv (.c (.str [])))),(oO 3 (.mv (.c (.int .i64 141))))]) .ret) .skip)) (.seq (.seq (.ops [(oo 35 (.fad 0 (.t 1))),(oO 36 (.ld1 (.t 35))),(oO 37 (.len (.t 36))),(oO 38 (.mv (.c (.int .i64 0))))]) (.block 0 (.loop (.seq (.ops [(oO 39 (.bin .lss (.t 38) (.t 37)))]) (.seq (.cond (.t 39) .skip (.exit 0)) (.seq (.block 1 (.seq (.ops [(oo 40 (.idxS 4 (.t 36) (.t 38))),(oo 41 (.ldA 4 (.t 40))),(oO 6 (.alloc [(.str []),.nils,(.int .i64 0),(.int .i64 0)])),(os (.st 4 (.t 6) (.t 41)))]) (.seq (.ops [(oo 43 (.ldA 4 (.t 6))),(oc 44 54 [(.t 43)]),(ot 42 44),(oo 45 (.ext (.t 42) 0)),(oo 46 (.ext (.t 42) 1)),(oT 7 45),(oT 8 46)]) (.seq (.seq (.ops [(ot 47 8),(oO 48 (.un .not (.t 47)))]) (.cond (.t 48) (.seq (.ops [(oO 2 (.mv (.c (.str [])))),(oO 3 (.mv (.c (.int .i64 141))))]) .ret) .skip)) (.ops [(ot 49 4),(ot 50 7),(oo 51 (.strb .add (.t 49) (.t 50))),(oT 4 51)]))))) (.ops [(oo 52 (.bin .add (.t 38) (.c (.int .i64 1)))),(oT 38 52)]))))))) (.seq (.seq (.ops [(oo 53 (.fad 1 (.t 1))),(oO 54 (.ld1 (.t 53))),(oO 55 (.len (.t 54))),(oO 56 (.mv (.c (.int .i64 0))))]) (.block 2 (.loop (.seq (.ops [(oO 57 (.bin .lss (.t 56) (.t 55)))]) (.seq (.cond (.t 57) .skip (.exit 2)) (.seq (.block 3 (.seq (.ops [(oo 58 (.idxS 7 (.t 54) (.t 56))),(oo 59 (.ldA 7 (.t 58))),(oO 10 (.alloc [(.str []),(.str []),(.int .i64 0),(.int .i64 0),.nils,(.int .i64 0),(.int .i64 0)])),(os (.st 7 (.t 10) (.t 59)))]) (.seq (.ops [(oo 61 (.ldA 7 (.t 10))),(oc 62 55 [(.t 61)]),(ot 60 62),(oo 63 (.ext (.t 60) 0)),(oo 64 (.ext (.t 60) 1)),(oT 11 63),(oT 12 64)]) (.seq (.seq (.ops [(ot 65 12),(oO 66 (.un .not (.t 65)))]) (.cond (.t 66) (.seq (.ops [(oO 2 (.mv (.c (.str [])))),(oO 3 (.mv (.c (.int .i64 141))))]) .ret) .skip)) (.ops [(ot 67 4),(ot 68 11),(oo 69 (.strb .add (.t 67) (.t 68))),(oT 4 69)]))))) (.ops [(oo 70 (.bin .add (.t 56) (.c (.int .i64 1)))),(oT 56 70)]))))))) (.seq (.seq (.ops [(oo 71 (.fad 2 (.t 1))),(oO 72 (.ld1 (.t 71))),(oO 73 (.len (.t 72))),(oO 74 (.mv (.c (.int .i64 0))))]) (.block 4 (.loop (.seq (.ops [(oO 75 (.bin .lss (.t 74) (.t 73)))]) (.seq (.cond (.t 75) .skip (.exit 4)) (.seq (.block 5 (.seq (.ops [(oo 76 (.idxS 4 (.t 72) (.t 74))),(oo 77 (.ldA 4 (.t 76))),(oO 14 (.alloc [(.str []),.nils,(.int .i64 0),(.int .i64 0)])),(os (.st 4 (.t 14) (.t 77)))]) (.seq (.seq (.ops [(oo 78 (.fad 0 (.t 14))),(oo 79 (.ld1 (.t 78))),(oc 80 56 [(.t 79)]),(oo 81 (.un .not (.t 80))),(ot 82 81),(oh 83 82 (.fad 1 (.t 14))),(oh 84 82 (.ld1 (.t 83))),(oh 85 82 (.len (.t 84))),(oh 86 82 (.bin .gtr (.t 85) (.c (.int .i64 32)))),(oO 87 (.pick (.t 82) (.c (.bool true)) (.t 86)))]) (.cond (.t 87) (.seq (.ops [(oO 2 (.mv (.c (.str [])))),(oO 3 (.mv (.c (.int .i64 141))))]) .ret) .skip)) (.seq (.ops [(ot 88 4),(oo 89 (.fad 0 (.t 14))),(oo 90 (.ld1 (.t 89))),(oo 91 (.strb .add (.c (.str [112,114,111,99,101,115,115,32])) (.t 90))),(oo 92 (.strb .add (.t 91) (.c (.str [32,123,10])))),(oo 93 (.strb .add (.t 88) (.t 92))),(oT 4 93)]) (.seq (.seq (.ops [(oo 94 (.fad 1 (.t 14))),(oO 95 (.ld1 (.t 94))),(oO 96 (.len (.t 95))),(oO 97 (.mv (.c (.int .i64 0))))]) (.block 6 (.loop (.seq (.ops [(oO 98 (.bin .lss (.t 97) (.t 96)))]) (.seq (.cond (.t 98) .skip (.exit 6)) (.seq (.block 7 (.seq (.ops [(oo 99 (.idxS 7 (.t 95) (.t 97))),(oo 100 (.ldA 7 (.t 99))),(oO 16 (.alloc [(.int .i64 0),(.int .i64 0),(.str []),.nils,(.int .i64 0),(.int .i64 0),.nils])),(os (.st 7 (.t 16) (.t 100)))]) (.seq (.ops [(oo 102 (.ldA 7 (.t 16))),(oc 103 57 [(.t 102)]),(ot 101 103),(oo 104 (.ext (.t 101) 0)),(oo 105 (.ext (.t 101) 1)),(oT 17 104),(oT 18 105)]) (.seq (.seq (.ops [(ot 106 18),(oO 107 (.un .not (.t 106)))]) (.cond (.t 107) (.seq (.ops [(oO 2 (.mv (.c (.str [])))),(oO 3 (.mv (.c (.int .i64 141))))]) .ret) .skip)) (.ops [(ot 108 4),(ot 109 17),(oo 110 (.strb .add (.t 108) (.t 109))),(oT 4 110)]))))) (.ops [(oo 111 (.bin .add (.t 97) (.c (.int .i64 1)))),(oT 97 111)]))))))) (.ops [(ot 112 4),(oo 113 (.strb .add (.t 112) (.c (.str [125,10])))),(oT 4 113)])))))) (.ops [(oo 114 (.bin .add (.t 74) (.c (.int .i64 1)))),(oT 74 114)]))))))) (.seq (.ops [(ot 115 4),(oT 2 115),(oO 3 (.mv (.c (.int .i64 0))))]) .ret)))))))
def y18:XF:=⟨[0],z18,[(.t 2),(.t 3)]⟩
theorem x18:jD Qaf 18=some y18:=by kernel_rfl
def z54:XC:=(.seq (.ops [(oO 1 (.box (.t 0))),(oO 2 (.mv (.c (.str [])))),(oO 3 (.mv (.c (.bool false))))]) (.seq (.seq (.ops [(oo 7 (.fad 0 (.t 1))),(oo 8 (.ld1 (.t 7))),(oc 9 56 [(.t 8)]),(oo 10 (.un .not (.t 9))),(ot 11 10),(oh 12 11 (.fad 1 (.t 1))),(oh 13 11 (.ld1 (.t 12))),(oh 14 11 (.len (.t 13))),(oh 15 11 (.bin .lss (.t 14) (.c (.int .i64 1)))),(oo 16 (.pick (.t 11) (.c (.bool true)) (.t 15))),(ot 17 16),(oh 18 17 (.fad 1 (.t 1))),(oh 19 17 (.ld1 (.t 18))),(oh 20 17 (.len (.t 19))),(oh 21 17 (.bin .gtr (.t 20) (.c (.int .i64 32)))),(oO 22 (.pick (.t 17) (.c (.bool true)) (.t 21)))]) (.cond (.t 22) (.seq (.ops [(oO 2 (.mv (.c (.str [])))),(oO 3 (.mv (.c (.bool false))))]) .ret) .skip)) (.seq (.ops [(oo 23 (.fad 0 (.t 1))),(oo 24 (.ld1 (.t 23))),(oo 25 (.strb .add (.c (.str [101,110,117,109,32])) (.t 24))),(oo 26 (.strb .add (.t 25) (.c (.str [32,123,32])))),(oT 4 26)]) (.seq (.seq (.ops [(oo 27 (.fad 1 (.t 1))),(oO 28 (.ld1 (.t 27))),(oO 29 (.len (.t 28))),(oO 30 (.mv (.c (.int .i64 0))))]) (.block 0 (.loop (.seq (.ops [(oO 31 (.bin .lss (.t 30) (.t 29)))]) (.seq (.cond (.t 31) .skip (.exit 0)) (.seq (.block 1 (.seq (.ops [(ot 32 30),(oo 33 (.idxS 1 (.t 28) (.t 30))),(oo 34 (.ld1 (.t 33))),(oT 5 32),(oT 6 34)]) (.seq (.seq (.ops [(ot 35 6),(oc 36 56 [(.t 35)]),(oO 37 (.un .not (.t 36)))]) (.cond (.t 37) (.seq (.ops [(oO 2 (.mv (.c (.str [])))),(oO 3 (.mv (.c (.bool false))))]) .ret) .skip)) (.seq (.seq (.ops [(ot 38 5),(oO 39 (.bin .gtr (.t 38) (.c (.int .i64 0))))]) (.cond (.t 39) (.ops [(ot 40 4),(oo 41 (.strb .add (.t 40) (.c (.str [44,32])))),(oT 4 41)]) .skip)) (.ops [(ot 42 4),(ot 43 6),(oo 44 (.strb .add (.t 42) (.t 43))),(oT 4 44)]))))) (.ops [(oo 45 (.bin .add (.t 30) (.c (.int .i64 1)))),(oT 30 45)]))))))) (.seq (.ops [(ot 46 4),(oo 47 (.strb .add (.t 46) (.c (.str [32,125,10])))),(oT 2 47),(oO 3 (.mv (.c (.bool true))))]) .ret)))))
def y54:XF:=⟨[0],z54,[(.t 2),(.t 3)]⟩
theorem x54:jD Qaf 54=some y54:=by kernel_rfl
def jhq:XC:=(.seq (.seq (.ops [(oo 57 (.fad 4 (.t 1))),(oo 58 (.ld1 (.t 57))),(oo 59 (.len (.t 58))),(oo 60 (.bin .gtr (.t 59) (.c (.int .i64 1)))),(ot 61 60),(oh 62 61 (.fad 0 (.t 1))),(oh 63 61 (.ld1 (.t 62))),⟨(some 64),false,(some (61,false)),(.call (.c (.fn 56 [])) [(.t 63)])⟩,(oh 65 61 (.un .not (.t 64))),(oO 66 (.pick (.t 61) (.c (.bool true)) (.t 65)))]) (.cond (.t 66) (.seq (.ops [(oO 2 (.mv (.c (.str [])))),(oO 3 (.mv (.c (.bool false))))]) .ret) .skip)) (.seq (.seq (.ops [(oo 67 (.fad 4 (.t 1))),(oO 68 (.ld1 (.t 67))),(oO 69 (.len (.t 68))),(oO 70 (.mv (.c (.int .i64 0))))]) (.block 0 (.loop (.seq (.ops [(oO 71 (.bin .lss (.t 70) (.t 69)))]) (.seq (.cond (.t 71) .skip (.exit 0)) (.seq (.block 1 (.seq (.ops [(oo 72 (.idxS 6 (.t 68) (.t 70))),(oo 73 (.ldA 6 (.t 72))),(oO 6 (.alloc [(.int .i64 0),(.int .i64 0),(.str []),.nils,(.int .i64 0),(.int .i64 0)])),(os (.st 6 (.t 6) (.t 73)))]) (.seq (.seq (.ops [(oo 74 (.ldA 6 (.t 6))),(oc 75 12 [(.t 74)]),(oO 76 (.un .not (.t 75)))]) (.cond (.t 76) (.seq (.ops [(oO 2 (.mv (.c (.str [])))),(oO 3 (.mv (.c (.bool false))))]) .ret) .skip)) (.ops [(ot 77 4),(oo 78 (.ldA 6 (.t 6))),(oc 79 16 [(.t 78)]),(oo 80 (.strb .add (.c (.str [32,61,32])) (.t 79))),(oo 81 (.strb .add (.t 77) (.t 80))),(oT 4 81)])))) (.ops [(oo 82 (.bin .add (.t 70) (.c (.int .i64 1)))),(oT 70 82)]))))))) (.seq (.ops [(ot 83 4),(oo 84 (.strb .add (.t 83) (.c (.str [59,10])))),(oT 2 84),(oO 3 (.mv (.c (.bool true))))]) .ret)))
def z55:XC:=(.seq (.ops [(oO 1 (.box (.t 0))),(oO 2 (.mv (.c (.str [])))),(oO 3 (.mv (.c (.bool false))))]) (.seq (.ops [(oo 7 (.fad 0 (.t 1))),(oo 8 (.ld1 (.t 7))),(oo 9 (.strb .add (.c (.str [118,97,114,32])) (.t 8))),(oo 10 (.strb .add (.t 9) (.c (.str [32,58,32])))),(oT 4 10)]) (.seq (.seq (.ops [(oo 11 (.fad 1 (.t 1))),(oo 12 (.ld1 (.t 11))),(oO 13 (.strb .eql (.t 12) (.c (.str []))))]) (.cond (.t 13) (.seq (.seq (.ops [(oo 14 (.fad 2 (.t 1))),(oo 15 (.ld1 (.t 14))),(oc 16 96 [(.t 15)]),(oo 17 (.un .not (.t 16))),(ot 18 17),(oh 19 18 (.fad 3 (.t 1))),(oh 20 18 (.ld1 (.t 19))),⟨(some 21),false,(some (18,false)),(.call (.c (.fn 96 [])) [(.t 20)])⟩,(oh 22 18 (.un .not (.t 21))),(oO 23 (.pick (.t 18) (.c (.bool true)) (.t 22)))]) (.cond (.t 23) (.seq (.ops [(oO 2 (.mv (.c (.str [])))),(oO 3 (.mv (.c (.bool false))))]) .ret) .skip)) (.dops [(oP (ot 24 4)),(oP (oo 25 (.fad 2 (.t 1)))),(⟨(oo 26 (.ld1 (.t 25))),(some (some (.t 25))),2,[]⟩,none),(⟨(oc 27 53 [(.t 26)]),(some none),0,[]⟩,(some [(on 27),(on 28),⟨(oo 29 (.fad 3 (.t 1))),none,0,[]⟩,⟨(oo 30 (.ld1 (.t 29))),(some (some (.t 29))),2,[(2,0)]⟩,(on 31),(on 32),(on 33),⟨(oO 4 (.mv (.c (.tup [])))),none,0,[]⟩])),(oP (oo 28 (.strb .add (.t 27) (.c (.str [46,46]))))),(oP (oo 29 (.fad 3 (.t 1)))),(⟨(oo 30 (.ld1 (.t 29))),(some (some (.t 29))),2,[(2,0)]⟩,none),(⟨(oc 31 53 [(.t 30)]),(some none),0,[]⟩,(some [])),(oP (oo 32 (.strb .add (.t 28) (.t 31)))),(oP (oo 33 (.strb .add (.t 24) (.t 32)))),(oP (oT 4 33))])) (.seq (.seq (.ops [(oo 34 (.fad 2 (.t 1))),(oo 35 (.ld1 (.t 34))),(oo 36 (.bin .neq (.t 35) (.c (.int .i64 0)))),(ot 37 36),(oh 38 37 (.fad 3 (.t 1))),(oh 39 37 (.ld1 (.t 38))),(oh 40 37 (.bin .neq (.t 39) (.c (.int .i64 0)))),(oo 41 (.pick (.t 37) (.c (.bool true)) (.t 40))),(ot 42 41),(oh 43 42 (.fad 1 (.t 1))),(oh 44 42 (.ld1 (.t 43))),(oh 45 42 (.strb .neq (.t 44) (.c (.str [98,111,111,108])))),(oh 46 42 (.mv (.t 45))),(og 47 46 (.fad 1 (.t 1))),(og 48 46 (.ld1 (.t 47))),⟨(some 49),false,(some (46,true)),(.call (.c (.fn 56 [])) [(.t 48)])⟩,(og 50 46 (.un .not (.t 49))),(oh 51 42 (.pick (.t 46) (.t 50) (.c (.bool false)))),(oO 52 (.pick (.t 42) (.c (.bool true)) (.t 51)))]) (.cond (.t 52) (.seq (.ops [(oO 2 (.mv (.c (.str [])))),(oO 3 (.mv (.c (.bool false))))]) .ret) .skip)) (.ops [(ot 53 4),(oo 54 (.fad 1 (.t 1))),(oo 55 (.ld1 (.t 54))),(oo 56 (.strb .add (.t 53) (.t 55))),(oT 4 56)])))) jhq)))
def y55:XF:=⟨[0],z55,[(.t 2),(.t 3)]⟩
theorem x55:jD Qaf 55=some y55:=by kernel_rfl
def z57:XC:=(.seq (.ops [(oO 1 (.box (.t 0))),(oO 2 (.mv (.c (.str [])))),(oO 3 (.mv (.c (.bool false))))]) (.seq (.seq (.ops [(oo 7 (.fad 0 (.t 1))),(oo 8 (.ldA 6 (.t 7))),(oc 9 12 [(.t 8)]),(oo 10 (.un .not (.t 9))),(ot 11 10),(oh 12 11 (.fad 6 (.t 1))),(oh 13 11 (.ld1 (.t 12))),(oh 14 11 (.len (.t 13))),(oh 15 11 (.bin .lss (.t 14) (.c (.int .i64 1)))),(oo 16 (.pick (.t 11) (.c (.bool true)) (.t 15))),(ot 17 16),(oh 18 17 (.fad 6 (.t 1))),(oh 19 17 (.ld1 (.t 18))),(oh 20 17 (.len (.t 19))),(oh 21 17 (.bin .gtr (.t 20) (.c (.int .i64 32)))),(oO 22 (.pick (.t 17) (.c (.bool true)) (.t 21)))]) (.cond (.t 22) (.seq (.ops [(oO 2 (.mv (.c (.str [])))),(oO 3 (.mv (.c (.bool false))))]) .ret) .skip)) (.seq (.ops [(oo 23 (.fad 0 (.t 1))),(oo 24 (.ldA 6 (.t 23))),(oc 25 16 [(.t 24)]),(oo 26 (.strb .add (.c (.str [32,32,119,104,101,110,32])) (.t 25))),(oo 27 (.strb .add (.t 26) (.c (.str [32,100,111,32])))),(oT 4 27)]) (.seq (.seq (.ops [(oo 28 (.fad 6 (.t 1))),(oO 29 (.ld1 (.t 28))),(oO 30 (.len (.t 29))),(oO 31 (.mv (.c (.int .i64 0))))]) (.block 0 (.loop (.seq (.ops [(oO 32 (.bin .lss (.t 31) (.t 30)))]) (.seq (.cond (.t 32) .skip (.exit 0)) (.seq (.block 1 (.seq (.ops [(ot 33 31),(oo 34 (.idxS 9 (.t 29) (.t 31))),(oo 35 (.ldA 9 (.t 34))),(oO 6 (.alloc [(.str []),(.int .i64 0),(.int .i64 0),(.str []),.nils,(.int .i64 0),(.int .i64 0),(.int .i64 0),(.int .i64 0)])),(oT 5 33),(os (.st 9 (.t 6) (.t 35)))]) (.seq (.seq (.ops [(oo 36 (.fad 0 (.t 6))),(oo 37 (.ld1 (.t 36))),(oc 38 56 [(.t 37)]),(oo 39 (.un .not (.t 38))),(ot 40 39),(oh 41 40 (.fad 1 (.t 6))),(oh 42 40 (.ldA 6 (.t 41))),⟨(some 43),false,(some (40,false)),(.call (.c (.fn 12 [])) [(.t 42)])⟩,(oh 44 40 (.un .not (.t 43))),(oO 45 (.pick (.t 40) (.c (.bool true)) (.t 44)))]) (.cond (.t 45) (.seq (.ops [(oO 2 (.mv (.c (.str [])))),(oO 3 (.mv (.c (.bool false))))]) .ret) .skip)) (.seq (.seq (.ops [(ot 46 5),(oO 47 (.bin .gtr (.t 46) (.c (.int .i64 0))))]) (.cond (.t 47) (.ops [(ot 48 4),(oo 49 (.strb .add (.t 48) (.c (.str [44,32])))),(oT 4 49)]) .skip)) (.dops [(oP (ot 50 4)),(oP (oo 51 (.fad 0 (.t 6)))),(⟨(oo 52 (.ld1 (.t 51))),(some (some (.t 51))),9,[]⟩,none),(oP (oo 53 (.strb .add (.t 52) (.c (.str [32,58,61,32]))))),(oP (oo 54 (.fad 1 (.t 6)))),(⟨(oo 55 (.ldA 6 (.t 54))),(some (some (.t 54))),37,[]⟩,none),(⟨(oc 56 16 [(.t 55)]),(some none),0,[(3,9)]⟩,(some [])),(oP (oo 57 (.strb .add (.t 53) (.t 56)))),(oP (oo 58 (.strb .add (.t 50) (.t 57)))),(oP (oT 4 58))]))))) (.ops [(oo 59 (.bin .add (.t 31) (.c (.int .i64 1)))),(oT 31 59)]))))))) (.seq (.ops [(ot 60 4),(oo 61 (.strb .add (.t 60) (.c (.str [59,10])))),(oT 2 61),(oO 3 (.mv (.c (.bool true))))]) .ret)))))
def y57:XF:=⟨[0],z57,[(.t 2),(.t 3)]⟩
theorem x57:jD Qaf 57=some y57:=by kernel_rfl
def z20:XC:=(.seq (.ops [(oO 2 (.box (.t 0))),(oO 3 (.box (.t 1))),(oO 4 (.mv (.c (.bool false))))]) (.seq (.seq (.ops [(oo 17 (.fad 0 (.t 2))),(oo 18 (.ld1 (.t 17))),(oo 19 (.len (.t 18))),(oo 20 (.fad 0 (.t 3))),(oo 21 (.ld1 (.t 20))),(oo 22 (.len (.t 21))),(oo 23 (.bin .neq (.t 19) (.t 22))),(ot 24 23),(oh 25 24 (.fad 1 (.t 2))),(oh 26 24 (.ld1 (.t 25))),(oh 27 24 (.len (.t 26))),(oh 28 24 (.fad 1 (.t 3))),(oh 29 24 (.ld1 (.t 28))),(oh 30 24 (.len (.t 29))),(oh 31 24 (.bin .neq (.t 27) (.t 30))),(oo 32 (.pick (.t 24) (.c (.bool true)) (.t 31))),(ot 33 32),(oh 34 33 (.fad 2 (.t 2))),(oh 35 33 (.ld1 (.t 34))),(oh 36 33 (.len (.t 35))),(oh 37 33 (.fad 2 (.t 3))),(oh 38 33 (.ld1 (.t 37))),(oh 39 33 (.len (.t 38))),(oh 40 33 (.bin .neq (.t 36) (.t 39))),(oO 41 (.pick (.t 33) (.c (.bool true)) (.t 40)))]) (.cond (.t 41) (.seq (.ops [(oO 4 (.mv (.c (.bool false))))]) .ret) .skip)) (.seq (.seq (.ops [(oo 42 (.fad 0 (.t 2))),(oO 43 (.ld1 (.t 42))),(oO 44 (.len (.t 43))),(oO 45 (.mv (.c (.int .i64 0))))]) (.block 0 (.loop (.seq (.ops [(oO 46 (.bin .lss (.t 45) (.t 44)))]) (.seq (.cond (.t 46) .skip (.exit 0)) (.seq (.block 1 (.seq (.ops [(ot 47 45),(oo 48 (.idxS 4 (.t 43) (.t 45))),(oo 49 (.ldA 4 (.t 48))),(oO 6 (.alloc [(.str []),.nils,(.int .i64 0),(.int .i64 0)])),(oT 5 47),(os (.st 4 (.t 6) (.t 49)))]) (.seq (.ops [(oo 50 (.fad 0 (.t 3))),(oo 51 (.ld1 (.t 50))),(ot 52 5),(oo 53 (.idxS 4 (.t 51) (.t 52))),(oo 54 (.ldA 4 (.t 53))),(oO 7 (.alloc [(.str []),.nils,(.int .i64 0),(.int .i64 0)])),(os (.st 4 (.t 7) (.t 54)))]) (.seq (.seq (.ops [(oo 55 (.fad 0 (.t 6))),(oo 56 (.ld1 (.t 55))),(oo 57 (.fad 0 (.t 7))),(oo 58 (.ld1 (.t 57))),(oo 59 (.strb .neq (.t 56) (.t 58))),(ot 60 59),(oh 61 60 (.fad 1 (.t 6))),(oh 62 60 (.ld1 (.t 61))),(oh 63 60 (.len (.t 62))),(oh 64 60 (.fad 1 (.t 7))),(oh 65 60 (.ld1 (.t 64))),(oh 66 60 (.len (.t 65))),(oh 67 60 (.bin .neq (.t 63) (.t 66))),(oO 68 (.pick (.t 60) (.c (.bool true)) (.t 67)))]) (.cond (.t 68) (.seq (.ops [(oO 4 (.mv (.c (.bool false))))]) .ret) .skip)) (.seq (.ops [(oo 69 (.fad 1 (.t 6))),(oo 70 (.ld1 (.t 69))),(oO 71 (.len (.t 70))),(oO 72 (.mv (.c (.int .i64 0))))]) (.block 2 (.loop (.seq (.ops [(oO 73 (.bin .lss (.t 72) (.t 71)))]) (.seq (.cond (.t 73) .skip (.exit 2)) (.seq (.block 3 (.seq (.ops [(ot 74 72),(oT 8 74)]) (.seq (.cops [((oo 75 (.fad 1 (.t 6))),none),((oo 76 (.ld1 (.t 75))),none),((ot 77 8),none),((oo 78 (.idxS 1 (.t 76) (.t 77))),none),((oo 79 (.ld1 (.t 78))),none),((oo 80 (.fad 1 (.t 7))),none),((oo 81 (.ld1 (.t 80))),none),((ot 82 8),none),((oo 83 (.idxS 1 (.t 81) (.t 82))),none),((oo 84 (.ld1 (.t 83))),none),((oO 85 (.strb .neq (.t 79) (.t 84))),none)]) (.cond (.t 85) (.seq (.ops [(oO 4 (.mv (.c (.bool false))))]) .ret) .skip)))) (.ops [(oo 86 (.bin .add (.t 72) (.c (.int .i64 1)))),(oT 72 86)]))))))))))) (.ops [(oo 87 (.bin .add (.t 45) (.c (.int .i64 1)))),(oT 45 87)]))))))) (.seq (.seq (.ops [(oo 88 (.fad 1 (.t 2))),(oO 89 (.ld1 (.t 88))),(oO 90 (.len (.t 89))),(oO 91 (.mv (.c (.int .i64 0))))]) (.block 4 (.loop (.seq (.ops [(oO 92 (.bin .lss (.t 91) (.t 90)))]) (.seq (.cond (.t 92) .skip (.exit 4)) (.seq (.block 5 (.seq (.ops [(ot 93 91),(oo 94 (.idxS 7 (.t 89) (.t 91))),(oo 95 (.ldA 7 (.t 94))),(oO 10 (.alloc [(.str []),(.str []),(.int .i64 0),(.int .i64 0),.nils,(.int .i64 0),(.int .i64 0)])),(oT 9 93),(os (.st 7 (.t 10) (.t 95)))]) (.seq (.ops [(oo 96 (.fad 1 (.t 3))),(oo 97 (.ld1 (.t 96))),(ot 98 9),(oo 99 (.idxS 7 (.t 97) (.t 98))),(oo 100 (.ldA 7 (.t 99))),(oO 11 (.alloc [(.str []),(.str []),(.int .i64 0),(.int .i64 0),.nils,(.int .i64 0),(.int .i64 0)])),(os (.st 7 (.t 11) (.t 100)))]) (.seq (.seq (.ops [(oo 101 (.fad 0 (.t 10))),(oo 102 (.ld1 (.t 101))),(oo 103 (.fad 0 (.t 11))),(oo 104 (.ld1 (.t 103))),(oo 105 (.strb .neq (.t 102) (.t 104))),(ot 106 105),(oh 107 106 (.fad 1 (.t 10))),(oh 108 106 (.ld1 (.t 107))),(oh 109 106 (.fad 1 (.t 11))),(oh 110 106 (.ld1 (.t 109))),(oh 111 106 (.strb .neq (.t 108) (.t 110))),(oo 112 (.pick (.t 106) (.c (.bool true)) (.t 111))),(ot 113 112),(oh 114 113 (.fad 2 (.t 10))),(oh 115 113 (.ld1 (.t 114))),(oh 116 113 (.fad 2 (.t 11))),(oh 117 113 (.ld1 (.t 116))),(oh 118 113 (.bin .neq (.t 115) (.t 117))),(oo 119 (.pick (.t 113) (.c (.bool true)) (.t 118))),(ot 120 119),(oh 121 120 (.fad 3 (.t 10))),(oh 122 120 (.ld1 (.t 121))),(oh 123 120 (.fad 3 (.t 11))),(oh 124 120 (.ld1 (.t 123))),(oh 125 120 (.bin .neq (.t 122) (.t 124))),(oo 126 (.pick (.t 120) (.c (.bool true)) (.t 125))),(ot 127 126),(oh 128 127 (.fad 4 (.t 10))),(oh 129 127 (.ld1 (.t 128))),(oh 130 127 (.len (.t 129))),(oh 131 127 (.fad 4 (.t 11))),(oh 132 127 (.ld1 (.t 131))),(oh 133 127 (.len (.t 132))),(oh 134 127 (.bin .neq (.t 130) (.t 133))),(oO 135 (.pick (.t 127) (.c (.bool true)) (.t 134)))]) (.cond (.t 135) (.seq (.ops [(oO 4 (.mv (.c (.bool false))))]) .ret) .skip)) (.seq (.ops [(oo 136 (.fad 4 (.t 10))),(oo 137 (.ld1 (.t 136))),(oO 138 (.len (.t 137))),(oO 139 (.mv (.c (.int .i64 0))))]) (.block 6 (.loop (.seq (.ops [(oO 140 (.bin .lss (.t 139) (.t 138)))]) (.seq (.cond (.t 140) .skip (.exit 6)) (.seq (.block 7 (.seq (.ops [(ot 141 139),(oT 12 141)]) (.seq (.cops [((oo 142 (.fad 4 (.t 10))),none),((oo 143 (.ld1 (.t 142))),none),((ot 144 12),none),((oo 145 (.idxS 6 (.t 143) (.t 144))),none),((oo 146 (.ldA 6 (.t 145))),none),((oo 147 (.fad 4 (.t 11))),none),((oo 148 (.ld1 (.t 147))),none),((ot 149 12),none),((oo 150 (.idxS 6 (.t 148) (.t 149))),none),((oo 151 (.ldA 6 (.t 150))),none),((oc 152 17 [(.t 146),(.t 151)]),(some [])),((oO 153 (.un .not (.t 152))),none)]) (.cond (.t 153) (.seq (.ops [(oO 4 (.mv (.c (.bool false))))]) .ret) .skip)))) (.ops [(oo 154 (.bin .add (.t 139) (.c (.int .i64 1)))),(oT 139 154)]))))))))))) (.ops [(oo 155 (.bin .add (.t 91) (.c (.int .i64 1)))),(oT 91 155)]))))))) (.seq (.seq (.ops [(oo 156 (.fad 2 (.t 2))),(oO 157 (.ld1 (.t 156))),(oO 158 (.len (.t 157))),(oO 159 (.mv (.c (.int .i64 0))))]) (.block 8 (.loop (.seq (.ops [(oO 160 (.bin .lss (.t 159) (.t 158)))]) (.seq (.cond (.t 160) .skip (.exit 8)) (.seq (.block 9 (.seq (.ops [(ot 161 159),(oo 162 (.idxS 4 (.t 157) (.t 159))),(oo 163 (.ldA 4 (.t 162))),(oO 14 (.alloc [(.str []),.nils,(.int .i64 0),(.int .i64 0)])),(oT 13 161),(os (.st 4 (.t 14) (.t 163)))]) (.seq (.ops [(oo 164 (.fad 2 (.t 3))),(oo 165 (.ld1 (.t 164))),(ot 166 13),(oo 167 (.idxS 4 (.t 165) (.t 166))),(oo 168 (.ldA 4 (.t 167))),(oO 15 (.alloc [(.str []),.nils,(.int .i64 0),(.int .i64 0)])),(os (.st 4 (.t 15) (.t 168)))]) (.seq (.seq (.ops [(oo 169 (.fad 0 (.t 14))),(oo 170 (.ld1 (.t 169))),(oo 171 (.fad 0 (.t 15))),(oo 172 (.ld1 (.t 171))),(oo 173 (.strb .neq (.t 170) (.t 172))),(ot 174 173),(oh 175 174 (.fad 1 (.t 14))),(oh 176 174 (.ld1 (.t 175))),(oh 177 174 (.len (.t 176))),(oh 178 174 (.fad 1 (.t 15))),(oh 179 174 (.ld1 (.t 178))),(oh 180 174 (.len (.t 179))),(oh 181 174 (.bin .neq (.t 177) (.t 180))),(oO 182 (.pick (.t 174) (.c (.bool true)) (.t 181)))]) (.cond (.t 182) (.seq (.ops [(oO 4 (.mv (.c (.bool false))))]) .ret) .skip)) (.seq (.ops [(oo 183 (.fad 1 (.t 14))),(oo 184 (.ld1 (.t 183))),(oO 185 (.len (.t 184))),(oO 186 (.mv (.c (.int .i64 0))))]) (.block 10 (.loop (.seq (.ops [(oO 187 (.bin .lss (.t 186) (.t 185)))]) (.seq (.cond (.t 187) .skip (.exit 10)) (.seq (.block 11 (.seq (.ops [(ot 188 186),(oT 16 188)]) (.seq (.cops [((oo 189 (.fad 1 (.t 14))),none),((oo 190 (.ld1 (.t 189))),none),((ot 191 16),none),((oo 192 (.idxS 7 (.t 190) (.t 191))),none),((oo 193 (.fad 0 (.t 192))),none),((oo 194 (.ldA 6 (.t 193))),none),((oo 195 (.fad 1 (.t 15))),none),((oo 196 (.ld1 (.t 195))),none),((ot 197 16),none),((oo 198 (.idxS 7 (.t 196) (.t 197))),none),((oo 199 (.fad 0 (.t 198))),none),((oo 200 (.ldA 6 (.t 199))),none),((oc 201 17 [(.t 194),(.t 200)]),(some [])),((oo 202 (.un .not (.t 201))),none),((ot 203 202),none),((oh 204 203 (.fad 1 (.t 14))),none),((oh 205 203 (.ld1 (.t 204))),none),((oh 206 203 (.mv (.t 16))),none),((oh 207 203 (.idxS 7 (.t 205) (.t 206))),none),((oh 208 203 (.fad 6 (.t 207))),none),((oh 209 203 (.ld1 (.t 208))),none),((oh 210 203 (.fad 1 (.t 15))),none),((oh 211 203 (.ld1 (.t 210))),none),((oh 212 203 (.mv (.t 16))),none),((oh 213 203 (.idxS 7 (.t 211) (.t 212))),none),((oh 214 203 (.fad 6 (.t 213))),none),((oh 215 203 (.ld1 (.t 214))),none),(⟨(some 216),false,(some (203,false)),(.call (.c (.fn 58 [])) [(.t 209),(.t 215)])⟩,(some [])),((oh 217 203 (.un .not (.t 216))),none),((oO 218 (.pick (.t 203) (.c (.bool true)) (.t 217))),none)]) (.cond (.t 218) (.seq (.ops [(oO 4 (.mv (.c (.bool false))))]) .ret) .skip)))) (.ops [(oo 219 (.bin .add (.t 186) (.c (.int .i64 1)))),(oT 186 219)]))))))))))) (.ops [(oo 220 (.bin .add (.t 159) (.c (.int .i64 1)))),(oT 159 220)]))))))) (.seq (.ops [(oO 4 (.mv (.c (.bool true))))]) .ret))))))
end Go.Sy
end
noncomputable section
set_option maxRecDepth 100000
namespace Go.Sy
open Go.Ev Go.Proofs
variable {base:Bs}
theorem jhe (hb:NB base)(c:Nat):Tot base 83 [.int .u8 (c:Int)] (.bool (zw c)):=by
 refine hb.tot ?_ rfl rfl;refine jJ x83 (by rfl) (hb.pur 83 1 (by decide)) ?_;simp only [y83,jm,Qai,Qaj,Qag,Qah];unfold z83;try dsimp only [oo,oO,ot,oT,os,og,oh,oc,on,oN,oP]
 repeat' (first | (apply jc <;> intro _) | simp (disch:=first | exact dzA | fail) only [rzZ,Qab,Qac,Qad,Qaa,Qae])
 all_goals (refine G0.v (congrArg AV.bool ?_) rfl; rw [QaU]; simp only [zw,QaZ,Qar,decide_eq_true_eq,QaY,QbF,Qbc,decide_eq_false_iff_not,true_iff,false_iff,iff_true,iff_false,not_true_eq_false,not_false_eq_true,ne_eq,eq_self] <;> omega)
theorem jiR (hb:NB base)(c:Nat):Tot base 85 [.int .u8 (c:Int)] (.bool (qb c)):=by
 refine hb.tot ?_ rfl rfl;refine jJ x85 (by rfl) (hb.pur 85 1 (by decide)) ?_;simp only [y85,jm,Qai,Qaj,Qag,Qah];unfold z85;try dsimp only [oo,oO,ot,oT,os,og,oh,oc,on,oN,oP]
 repeat' (first | (apply jc <;> intro _) | simp (disch:=first | exact dzA | fail) only [rzZ,Qab,Qac,Qad,Qaa,Qae])
 all_goals (refine G0.v (congrArg AV.bool ?_) rfl; rw [QaU]; simp only [qb,QaZ,Qar,decide_eq_true_eq,QaY,QbF,Qbc,decide_eq_false_iff_not,true_iff,false_iff,iff_true,iff_false,not_true_eq_false,not_false_eq_true,ne_eq,eq_self] <;> omega)
theorem jpz (hb:NB base)(l:List Nat)(S:List (List Nat))(hS:S.length≤1000000):PX Qaf base 130 [.str l,.lst S.length (S.map .str)] (.ok (.bool (decide (l∈S)))):=by
 have st1:∀ {k:Nat} (h:k<S.length) (st:St) (K:AV->St->Prop),jk (ya (.lptr (S.map AV.str) k) st) K=K (.str S[k]) st:=λ{k} h st K=>by
  rw [Jg (by simpa using h)]; congr 1; exact Wp h
 refine jJ jp2 (by rfl) (hb.pur 130 1 (by decide)) ?_;simp only [jml,jm,Qai,Qaj,Qag,Qah];unfold jlD;try dsimp only [oo,oO,ot,oT,os,og,oh,oc,on,oN,oP]
 repeat' (first | (apply jc <;> intro _) | simp (disch:=first | exact dzA | fail) only [rzZ,Qab,Qac,Qad,Qaa,Qae])
 refine qt S.length (λk L s=>(∀ j (h:j<S.length),j<k->S[j]≠l)∧Has L 0 (.str l)∧Has L 7 (.lst S.length (S.map AV.str))) (by first | assumption | omega) (by decide) (by simp (disch:=decide) only [je,jb]) (by simp (disch:=decide) only [je,jb]) ?_ (λk L s v h=>by simp (disch:=decide) only [jb]; exact h) (λk L s v h=>by simp (disch:=decide) only [jb]; exact h) (λk L s hk hI hi hn=>?_) (λL s hI=>?_)
 ·refine ⟨λj h hj=>absurd hj (Qbl _),?_⟩;simp (disch:=decide) only [Qam,Qaq,z0,z1,je,jb,and_true,true_and]
 ·obtain ⟨h0,i0,i7⟩:=hI;repeat' (first | (apply jc <;> intro _) | simp (disch:=first | exact dzA | fail) only [ja i0,ja i7,ja hi,ja hn,st1,rzZ,Qab,Qac,Qad,Qaa,Qae])
  ·rename_i he;have he:S[k]=l:=by simpa using he
   exact G0.v (by rw [decide_eq_true (he▸Qax hk)]) rfl
  ·rename_i he;have he:¬ S[k]=l:=by simpa using he
   refine ⟨⟨λj h hj=>?_,?_⟩,?_⟩
   ·rcases QaS j k with h2 | h2
    ·exact h0 j h h2
    ·have:j=k:=by omega
     subst this;exact he
   ·simp (disch:=decide) only [Qam,Qaq,z0,z1,je,jb,and_true,true_and,i0,i7]
   ·simp (disch:=decide) only [Qam,Qaq,z0,z1,je,jb,and_true,true_and,hi,hn]
 ·obtain ⟨h0,i0,i7⟩:=hI;repeat' (first | (apply jc <;> intro _) | simp (disch:=first | exact dzA | fail) only [ja i0,ja i7,rzZ,Qab,Qac,Qad,Qaa,Qae])
  refine G0.v (congrArg AV.bool ?_) rfl
  symm
  rw [decide_eq_false_iff_not];intro hm;obtain ⟨j,hj,e⟩:=QbH.1 hm;exact h0 j hj hj e
theorem jlb (hb:NB base)(l:List Nat):Tot base 84 [.str l] (.bool (K3 l)):=by
 refine hb.tot ?_ rfl rfl;have O:=λst b m x D K Kp=>(jpz hb l VA (by decide)).xf (st:=st) (aZ':=[.str l,.slice b 0 19 m 1 x]) (ks:=[b]) (Fza.pa rfl (Fza.sl (n:=19) (D:Cl st b (VA.map AV.str)) (by decide) (vR VA) .nil)) (λst=>hb.no 130 (by decide) _ _) K Kp;unfold VA at O;simp only [Qai,Qaj] at O;refine jJ x84 (by rfl) (hb.pur 84 1 (by decide)) ?_;simp only [y84,jm,Qai,Qaj,Qag,Qah];unfold z84;try dsimp only [oo,oO,ot,oT,os,og,oh,oc,on,oN,oP]
 repeat' (first | (apply jc <;> intro _) | simp (disch:=first | exact dzA | fail) only [O,rzZ,Qab,Qac,Qad,Qaa,Qae])
 exact G0.v rfl rfl
def Um (l:List Nat)(i:Nat):Bool:=zw (l.getD i 0) || decide (i≠0) && (qb (l.getD i 0) || decide (l.getD i 0=95))
theorem jaI {p:Nat->Bool}:∀ {l:List Nat},qP p l=l.length->∀ j,j<l.length->p (l.getD j 0)=true
 | [],_,j,h=>by simp at h
 | c :: l,h,j,hj=>by
  simp only [qP] at h;by_cases hc:p c=true
  ·rw [if_pos hc] at h;cases j with
   | zero=>exact hc
   | succ j=>exact jaI (l:=l) (by simpa using h) j (by simpa using hj)
  ·rw [if_neg hc] at h; simp at h
theorem jnu {l:List Nat}{i:Nat}(hi:i<l.length)(h:Um l i=false):nm l=false:=by
 rw [Bool.eq_false_iff];intro hn;unfold nm at hn;simp only [Qar,decide_eq_true_eq] at hn;obtain ⟨⟨⟨_,h2⟩,_⟩,h3⟩:=hn;have:=jaI h3 i hi;unfold Um at h;unfold zM at this;by_cases h0:i=0
 ·subst h0; rw [h2] at h; cases h
 ·rw [decide_eq_true h0] at h;cases h1:zw (l.getD i 0) <;> cases h4:qb (l.getD i 0) <;> cases h5:decide (l.getD i 0=95) <;> simp only [h1,h4,h5] at h this <;> first | (cases h; done) | (cases this; done)
theorem jky {l:List Nat}(h:∀ i,i<l.length->Um l i=true):nm l=(decide (0<l.length) && decide (l.length≤32) && !K3 l):=by
 have e:qP zM l=l.length:=Vz (Qap _) (λj hj=>by
  have:=h j hj;unfold Um at this;unfold zM;cases h1:zw (l.getD j 0) <;> cases h4:qb (l.getD j 0) <;> cases h5:decide (l.getD j 0=95) <;> rw [h1,h4,h5] at this <;> first | rfl | (simp at this; done)) (.inl rfl)
 unfold nm;cases l with
 | nil=>rfl
 | cons c l=>
  have h0:=h 0 (by simp);unfold Um at h0;have:zw ((c :: l).getD 0 0)=true:=by simpa using h0
  rw [e,this];simp
set_option maxHeartbeats 1000000 in
theorem YN (hb:NB base)(l:List Nat)(hl:l.length≤4611686018427387904):Tot base 56 [.str l] (.bool (nm l)):=by
 refine hb.tot ?_ rfl rfl;refine jJ x56 (by rfl) (hb.pur 56 1 (by decide)) ?_;simp only [y56,jm,Qai,Qaj,Qag,Qah];unfold z56;try dsimp only [oo,oO,ot,oT,os,og,oh,oc,on,oN,oP]
 repeat' (first | (apply jc <;> intro _) | simp (disch:=first | exact dzA | fail) only [rzZ,Qab,Qac,Qad,Qaa,Qae])
 refine zo (λmm L s=>∃ k:Nat,k≤l.length∧mm=l.length - k∧(∀ j,j<k->Um l j=true)∧Has L 0 (.str l)∧Has L 3 (.int .i64 (k:Int))) ?_ l.length ?_
 ·rintro m L s ⟨k,hk,rfl,h0,i0,i3⟩;by_cases hlt:k<l.length
  ·have hlt':(k:Int)<(l.length:Int):=by omega
   have LT:=jhe hb (l.getD k 0);have DT:=jiR hb (l.getD k 0);have z:((k:Int)=0)=(k=0):=by rw [eq_iff_iff]; omega
   have z9:((l.getD k 0:Int)=95)=(l.getD k 0=95):=by rw [eq_iff_iff]; omega
   have e1:(((k+1:Nat):Int))=(k:Int)+1:=by omega
   have hn:Um l k=(zw (l.getD k 0) || decide (k≠0) && (qb (l.getD k 0) || decide (l.getD k 0=95))):=rfl;repeat' (first | (apply jc <;> intro _) | simp (disch:=first | exact dzA | fail) only [ja i0,ja i3,hlt',LT,DT,z,z9,rzZ,Qab,Qac,Qad,Qaa,Qae])
   all_goals first
    | (refine G0.v (congrArg AV.bool (jnu hlt ?_)).symm rfl; rw [hn]; simp_all; done)
    | (
     refine ⟨l.length - (k+1),by omega,k+1,by omega,rfl,λj hj=>?_,?_⟩
     ·rcases QaS j k with h2 | h2
      ·exact h0 j h2
      ·have:j=k:=by omega
       subst this;rw [hn]; simp_all
     ·simp (disch:=decide) only [Qam,Qaq,z0,z1,je,jb,and_true,true_and,i0,e1])
  ·have hlt':¬ (k:Int)<(l.length:Int):=by omega
   have hk':k=l.length:=by omega
   subst hk';have g:=jky h0;repeat' (first | (apply jc <;> intro _) | simp (disch:=first | exact dzA | fail) only [ja i0,ja i3,hlt',jlb hb l,rzZ,Qab,Qac,Qad,Qaa,Qae])
   all_goals (refine G0.v (congrArg AV.bool ?_) rfl; rw [g]; simp_all <;> omega)
 ·refine ⟨0,QaM _,rfl,λj hj=>absurd hj (Qbl _),?_⟩;simp (disch:=decide) only [Qam,Qaq,z0,z1,je,jb,and_true,true_and]
end Go.Sy
end
noncomputable section
set_option maxRecDepth 100000
namespace Go.Sy
open Go.Ev Go.Proofs
variable {base:Bs}
theorem jhQ {b o:Nat}{v:AV}{h:T AO}(ho:o<qo h b)(hv:rat h b o=v)(hc:eqs v=true):(jX Qaf 35 (.ptr b o) v h=true)=True:=eq_true (Qa jjc jjb ho hv hc)
theorem Z6 (n:Nat)(cs:List AV):eqs (.lst n cs)=true:=nr rfl
def ZJ (op num:Int)(name:List Nat):Bool:=
 if op=1 then decide (0≤num) && decide (num≤1000000)
 else if op=2 then decide (num=0) || decide (num=1)
 else if op=3 then decide (num=0) && nm name
 else if op=4 then true
 else decide (num=0)
mutual
def Jw:Ex->Bool
 | .mk op num name ks _ _=>decide (Y4 op=(ks.length:Int)) && zK ks && (decide (op=3) || decide (name=[])) && ZJ op num name
def zK:List Ex->Bool
 | []=>true
 | x :: xs=>Jw x && zK xs
end
theorem Ws (x:Ex):Jw x=(decide (Y4 x.op=(x.kids.length:Int)) && zK x.kids && (decide (x.op=3) || decide (x.name=[])) && ZJ x.op x.num x.name):=by cases x; rfl
theorem YS:∀ xs ys,zK (xs ++ ys)=(zK xs && zK ys)
 | [],ys=>by simp [zK]
 | x :: xs,ys=>by rw [Qaw,zK,zK,YS,Bool.and_assoc]
set_option maxHeartbeats 1000000 in
theorem jk7 (hb:NB base):∀ x:Ex,szE x≤BIG->Tot base 92 [.agg (eE x)] (.bool (Jw x)):=by
 refine Ex.indk λx ih hx=>?_;refine hb.tot ?_ (by first | rfl | simp [pa,pc,qQ]) rfl;have hd:=Ws x;have hz:=Xa x;generalize hks:x.kids=ks at *;have hlen:=Xz ks;have NM:=YN hb x.name (by unfold BIG at *; omega);have KT:=joI hb x.op;unfold BIG at *;unfold ZJ at hd;refine jJ x92 (by rfl) (hb.pur 92 1 (by decide)) ?_;simp only [y92,jm,Qai,Qaj,Qag,Qah];unfold z92;try dsimp only [oo,oO,ot,oT,os,og,oh,oc,on,oN,oP]
 (have zz:=aI @yx (aI @Z6 @hks); (repeat' (first | (apply jc <;> intro _) | simp (disch:=first | exact gk | fail) only [hks,KT,sm3,jhQ,yx,Z6,hks,jd,rzZ,Qab,Qac,Qad,Qaa,Qae])); (all_goals (clear zz)))
 ·rename_i h;exact G0.v (by rw [hd,decide_eq_false h]; rfl) rfl
 refine qt ks.length (λk L s=>zK (ks.take k)=true∧Has L 13 (.lst ks.length (fl eE ks))∧Has L 1 (.ptr 0 0)∧1≤s.nx∧Cl s 0 (eE x)) (by first | assumption | omega) (by decide) (by simp (disch:=decide) only [je,jb]) (by simp (disch:=decide) only [je,jb]) ?_ (λk L s v h=>by simp (disch:=decide) only [jb]; exact h) (λk L s v h=>by simp (disch:=decide) only [jb]; exact h) (λk L s hk hI hi hn=>?_) (λL s hI=>?_)
 ·refine ⟨rfl,?_⟩;simp (disch:=decide) only [Qam,Qaq,z0,z1,je,jb,and_true,true_and];exact ⟨by show 1≤_; simp only [jg,q8]; omega,Cl.new _ _⟩
 ·obtain ⟨h0,i13,i1,n0,C0⟩:=hI;have hk2:=XP hk;have e:=ih ks[k] (Qax hk) (by omega);repeat' (first | (apply jc <;> intro _) | simp (disch:=first | exact dzB | fail) only [ja i13,ja i1,ja hi,ja hn,e,jd,rzZ,Qab,Qac,Qad,Qaa,Qae])
  ·rename_i hf;have e3:=YS (ks.take (k+1)) (ks.drop (k+1));rw [Qby,zj hk,YS] at e3;simp only [zK,hf,Bool.and_false,Bool.false_and,Bool.true_and] at e3;exact G0.v (by rw [hd,e3]; simp) rfl
  ·rename_i hf;refine ⟨⟨?_,?_⟩,?_⟩
   ·rw [zj hk,YS,h0];simp_all [zK]
   ·simp (disch:=decide) only [Qam,Qaq,z0,z1,je,jb,and_true,true_and,i13,i1];exact ⟨by (first | omega | (simp only [jg,jh,jl,jj,ji]; first | done | omega)),by (first | exact C0 | (simp (disch:=first | assumption | decide | (first | omega | (simp only [jg,jh,jl,jj,ji]; first | done | omega))) only [jz,jA,jr,jO,jC,jE,jF,jG]; exact C0))⟩
   ·simp (disch:=decide) only [Qam,Qaq,z0,z1,je,jb,and_true,true_and,hi,hn]
 ·obtain ⟨h0,i13,i1,n0,C0⟩:=hI;rw [QaD] at h0;rw [h0] at hd
  (have zz:=C0.r; (repeat' (first | (apply jc <;> intro _) | simp (disch:=first | exact gk | fail) only [ja i13,ja i1,NM,hks,C0.q,C0.r,jd,rzZ,Qab,Qac,Qad,Qaa,Qae])); (all_goals (clear zz)))
  all_goals (refine G0.v (congrArg AV.bool ?_) rfl; rw [hd]; simp_all <;> omega)
end Go.Sy
end
noncomputable section
set_option maxRecDepth 100000
namespace Go.Sy
open Go.Ev Go.Proofs
variable {base:Bs}
theorem jdM (x:Ex):uR x=((decide (x.op=3) || decide (x.name=[])) && ZJ x.op x.num x.name):=by
 unfold uR ZJ;by_cases h1:x.op=1
 ·simp [h1,Bool.and_comm]
 ·by_cases h2:x.op=2
  ·simp [h2,Bool.and_comm]
  ·by_cases h3:x.op=3
   ·simp [h3]
   ·by_cases h4:x.op=4
    ·simp [h4]
    ·simp [h1,h2,h3,h4,Bool.and_comm]
theorem vC:∀ xs,zK xs=xs.all Jw
 | []=>rfl
 | x :: xs=>by rw [zK,vC xs]; rfl
theorem Kd {n:Nat}:∀ xs:List Ex,yd xs≤n↔∀ x∈xs,Y6 x≤n
 | []=>by simp [yd]
 | x :: xs=>by simp [yd,Nat.max_le,Kd xs]
theorem Xc:∀ (d:Nat) (x:Ex),zk d x=(decide (Y6 x≤d) && Jw x)
 | 0,x=>by
  have:Y6 x=yd x.kids+1:=Uv x;rw [zk,decide_eq_false (by omega)]; rfl
 | d+1,x=>by
  rw [Uh,Ws,Uv,jdM,vC];have ih:x.kids.all (zk d)=(decide (yd x.kids≤d) && x.kids.all Jw):=by
   rw [QaU];simp only [Qaz,Qar,decide_eq_true_eq,Kd];constructor
   ·intro h;exact ⟨λk hk=>by have:=h k hk; rw [Xc d k] at this; simp at this; exact this.1,λk hk=>by have:=h k hk; rw [Xc d k] at this; simp at this; exact this.2⟩
   ·rintro ⟨h1,h2⟩ k hk;rw [Xc d k];simp [h1 k hk,h2 k hk]
  rw [ih];have e1:decide (yd x.kids+1≤d+1)=decide (yd x.kids≤d):=by simp
  rw [e1];have e2:(decide (1≤x.op) && decide (x.op<31) && decide ((x.kids.length:Int)=if 5≤x.op∧x.op≤13 then 1 else if 14≤x.op∧x.op<31 then 2 else 0))=decide (Y4 x.op=(x.kids.length:Int)):=by
   rw [QaU];simp only [Qar,decide_eq_true_eq];unfold Y4;have:(0:Int)≤(x.kids.length:Int):=by omega
   generalize (x.kids.length:Int)=n at *;generalize x.op=op at *;constructor
   ·rintro ⟨⟨h1,h2⟩,h3⟩;split at h3
    ·rw [if_neg (by omega),if_pos (by omega),h3]
    ·split at h3
     ·rw [if_neg (by omega),if_neg (by omega),if_pos (by omega),h3]
     ·rw [if_pos (by omega),h3]
   ·intro h;split at h
    ·exact ⟨⟨by omega,by omega⟩,by rw [if_neg (by omega),if_neg (by omega)]; omega⟩
    ·split at h
     ·exact ⟨⟨by omega,by omega⟩,by rw [if_pos (by omega)]; omega⟩
     ·split at h
      ·exact ⟨⟨by omega,by omega⟩,by rw [if_neg (by omega),if_pos (by omega)]; omega⟩
      ·omega
  rw [e2];cases decide (Y4 x.op=(x.kids.length:Int)) <;> cases decide (yd x.kids≤d) <;> cases x.kids.all Jw <;> cases (decide (x.op=3) || decide (x.name=[])) <;> cases ZJ x.op x.num x.name <;> rfl
theorem jiN (hb:NB base)(x:Ex)(hx:szE x≤BIG):Tot base 46 [.agg (eE x)] (.bool (zk 60 x)):=by
 refine hb.tot ?_ (by first | rfl | simp [pa,pc,qQ]) rfl;have e:=Xc 60 x;have D:=jhg hb x hx;have S:=jk7 hb x hx;refine jJ x46 (by rfl) (hb.pur 46 1 (by decide)) ?_;simp only [y46,jm,Qai,Qaj,Qag,Qah];unfold z46;try dsimp only [oo,oO,ot,oT,os,og,oh,oc,on,oN,oP]
 repeat' (first | (apply jc <;> intro _) | simp (disch:=first | exact dzB | fail) only [D,S,jd,rzZ,Qab,Qac,Qad,Qaa,Qae])
 all_goals (refine G0.v (congrArg AV.bool ?_) rfl; rw [e]; simp_all <;> omega)
def yQ (x:Ex):Bool:=zk 60 x && !jdT 4 x
theorem ZU (hb:NB base)(x:Ex)(hx:szE x≤BIG):Tot base 12 [.agg (eE x)] (.bool (yQ x)):=by
 refine hb.tot ?_ (by first | rfl | simp [pa,pc,qQ]) rfl;have D:=jiN hb x hx;have S:=jpC hb 4 x hx;refine jJ x12 (by rfl) (hb.pur 12 1 (by decide)) ?_;simp only [y12,jm,Qai,Qaj,Qag,Qah];unfold z12;try dsimp only [oo,oO,ot,oT,os,og,oh,oc,on,oN,oP]
 repeat' (first | (apply jc <;> intro _) | simp (disch:=first | exact dzB | fail) only [D,S,jd,rzZ,Qab,Qac,Qad,Qaa,Qae])
 all_goals (refine G0.v (congrArg AV.bool ?_) rfl; unfold yQ; simp_all)
theorem jk6 (hb:NB base)(op:Int):Tot base 52 [.int .i64 op] (.str (sgn op)):=by
 refine hb.tot ?_ rfl rfl;refine jJ x52 (by rfl) (hb.pur 52 1 (by decide)) ?_;simp only [y52,jm,Qai,Qaj,Qag,Qah];unfold z52;try dsimp only [oo,oO,ot,oT,os,og,oh,oc,on,oN,oP]
 repeat' (first | (apply jc <;> intro _) | simp (disch:=first | exact dzB | fail) only [jd,rzZ,Qab,Qac,Qad,Qaa,Qae])
 ·exact G0.v (by rw [sgn,if_neg (by omega)]) rfl
 ·exact G0.v (by rw [sgn,if_neg (by omega)]) rfl
 ·have h26:(op - 5).toNat<ZW.length:=by show (op - 5).toNat<26; omega
  show G0 _ ((ZW.map AV.str).getD _ _) _;rw [Wp h26];exact G0.v (by rw [sgn,if_pos (by omega),QaC,Qav h26]; rfl) rfl
end Go.Sy
end
noncomputable section
set_option maxRecDepth 100000
namespace Go.Sy
open Go.Ev Go.Proofs
variable {base:Bs}
def Qp {α β:Type}(f:α->β->Bool):List α->List β->Bool
 | [],[]=>true
 | x :: xs,y :: ys=>f x y && Qp f xs ys
 | _,_=>false
section
variable {α β:Type} {f:α->β->Bool}
theorem jby:∀ {xs:List α} {ys:List β},Qp f xs ys=true->xs.length=ys.length
 | [],[],_=>rfl
 | x :: xs,y :: ys,h=>by
  simp only [Qp,Qar] at h;simp [jby h.2]
 | [],y :: ys,h=>by simp [Qp] at h
 | x :: xs,[],h=>by simp [Qp] at h
theorem jk4 {xs:List α}{ys:List β}(h:xs.length≠ys.length):Qp f xs ys=false:=by
 rw [Bool.eq_false_iff]; exact λk=>h (jby k)
theorem jc4:∀ {xs:List α} {ys:List β} {k:Nat} (h:k<xs.length) (h2:k<ys.length),f xs[k] ys[k]=false->Qp f xs ys=false
 | x :: xs,y :: ys,0,_,_,h=>by simp only [Qbo] at h; simp [Qp,h]
 | x :: xs,y :: ys,k+1,h1,h2,h=>by
  simp only [Qbp] at h;simp [Qp,jc4 (by simpa using h1) (by simpa using h2) h]
theorem jg6:∀ {xs:List α} {ys:List β} {k:Nat} (h:k<xs.length) (h2:k<ys.length),Qp f (xs.take (k+1)) (ys.take (k+1))=(Qp f (xs.take k) (ys.take k) && f xs[k] ys[k])
 | x :: xs,y :: ys,0,_,_=>by simp [Qp]
 | x :: xs,y :: ys,k+1,h1,h2=>by
  have:=jg6 (xs:=xs) (ys:=ys) (k:=k) (by simpa using h1) (by simpa using h2);simp only [QbY,Qp,Qbp,this,Bool.and_assoc]
theorem jiK {xs:List α}{ys:List β}(h:xs.length=ys.length)(h2:Qp f (xs.take xs.length) (ys.take xs.length)=true):Qp f xs ys=true:=by
 rw [QaD,h,QaD] at h2;exact h2
end
mutual
def ZA:Ex->Ex->Bool
 | .mk op num name ks _ _,y=>decide (op=y.op) && decide (num=y.num) && decide (name=y.name) && vU ks y.kids
def vU:List Ex->List Ex->Bool
 | [],[]=>true
 | x :: xs,y :: ys=>ZA x y && vU xs ys
 | [],_ :: _=>false
 | _ :: _,[]=>false
end
theorem U0:∀ xs ys,vU xs ys=Qp ZA xs ys
 | [],[]=>rfl
 | x :: xs,y :: ys=>by rw [vU,U0 xs ys]; rfl
 | [],_ :: _=>rfl
 | _ :: _,[]=>rfl
theorem jhU (x y:Ex):ZA x y=(decide (x.op=y.op) && decide (x.num=y.num) && decide (x.name=y.name) && Qp ZA x.kids y.kids):=by
 cases x; rw [ZA,U0]; rfl
set_option maxHeartbeats 1000000 in
theorem joF (hb:NB base):∀ x:Ex,szE x≤BIG->∀ y:Ex,szE y≤BIG->Tot base 17 [.agg (eE x),.agg (eE y)] (.bool (ZA x y)):=by
 refine Ex.indk λx ih hx y hy=>?_;refine hb.tot ?_ (by first | rfl | simp [pa,pc,qQ]) rfl;have hd:=jhU x y;have hz:=Xa x;have hz2:=Xa y;generalize hks:x.kids=ks at *;generalize hls:y.kids=ls at *;have hlen:=Xz ks;have hlen2:=Xz ls;unfold BIG at *;have ene:((ks.length:Int)=(ls.length:Int))=(ks.length=ls.length):=by rw [eq_iff_iff]; omega
 refine jJ x17 (by rfl) (hb.pur 17 1 (by decide)) ?_;simp only [y17,jm,Qai,Qaj,Qag,Qah];unfold z17;try dsimp only [oo,oO,ot,oT,os,og,oh,oc,on,oN,oP]
 repeat' (first | (apply jc <;> intro _) | simp (disch:=first | exact dzB | fail) only [hks,hls,ene,jd,rzZ,Qab,Qac,Qad,Qaa,Qae])
 ·exact G0.v (by rw [hd]; simp_all) rfl
 ·exact G0.v (by rw [hd]; simp_all) rfl
 ·exact G0.v (by rw [hd]; simp_all) rfl
 ·exact G0.v (by rw [hd,jk4 (by assumption)]; simp) rfl
 have hl:ks.length=ls.length:=by simp_all
 refine qt ks.length (λk L s=>Qp ZA (ks.take k) (ls.take k)=true∧Has L 2 (.ptr 0 0)∧Has L 3 (.ptr 1 0)∧2≤s.nx∧Cl s 0 (eE x)∧Cl s 1 (eE y)) (by first | assumption | omega) (by decide) (by simp (disch:=decide) only [je,jb]) (by simp (disch:=decide) only [je,jb]) ?_ (λk L s v h=>by simp (disch:=decide) only [jb]; exact h) (λk L s v h=>by simp (disch:=decide) only [jb]; exact h) (λk L s hk hI hi hn=>?_) (λL s hI=>?_)
 ·refine ⟨rfl,?_⟩;simp (disch:=decide) only [Qam,Qaq,z0,z1,je,jb,and_true,true_and];exact ⟨by (first | omega | (simp only [jg,jh,jl,jj,ji]; first | done | omega)),by (first | exact cyB | fail),by (first | exact cyB | fail)⟩
 ·obtain ⟨h0,i2,i3,n0,C0,C1⟩:=hI;have hk2:k<ls.length:=by omega
  have g0:=XP hk;have g1:=XP hk2;have e:=ih ks[k] (Qax hk) (by omega) ls[k] (by omega)
  (have zz:=aI C0.r C1.r; (repeat' (first | (apply jc <;> intro _) | simp (disch:=first | exact gk | fail) only [ja i2,ja i3,ja hi,ja hn,e,hks,hls,C0.q,C1.q,C0.r,C1.r,jd,rzZ,Qab,Qac,Qad,Qaa,Qae])); (all_goals (clear zz)))
  ·rename_i hf;exact G0.v (by rw [hd,jc4 hk hk2 (by simpa using hf)]; simp) rfl
  ·rename_i hf;refine ⟨⟨?_,?_⟩,?_⟩
   ·rw [jg6 hk hk2,h0];simpa using hf
   ·simp (disch:=decide) only [Qam,Qaq,z0,z1,je,jb,and_true,true_and,i2,i3];exact ⟨by (first | omega | (simp only [jg,jh,jl,jj,ji]; first | done | omega)),by (first | exact C0 | (simp (disch:=first | assumption | decide | (first | omega | (simp only [jg,jh,jl,jj,ji]; first | done | omega))) only [jz,jA,jr,jO,jC,jE,jF,jG]; exact C0)),by (first | exact C1 | (simp (disch:=first | assumption | decide | (first | omega | (simp only [jg,jh,jl,jj,ji]; first | done | omega))) only [jz,jA,jr,jO,jC,jE,jF,jG]; exact C1))⟩
   ·simp (disch:=decide) only [Qam,Qaq,z0,z1,je,jb,and_true,true_and,hi,hn]
 ·obtain ⟨h0,i2,i3,n0,C0,C1⟩:=hI;repeat' (first | (apply jc <;> intro _) | simp (disch:=first | exact dzB | fail) only [ja i2,jd,rzZ,Qab,Qac,Qad,Qaa,Qae])
  exact G0.v (by rw [hd,jiK hl h0]; simp_all) rfl
end Go.Sy
end
noncomputable section
set_option maxRecDepth 100000
namespace Go.Sy
open Go.Ev Go.Proofs
variable {base:Bs}
theorem VL (e:EnumT):enE e=[.str e.name,.lst e.vals.length (e.vals.map .str),.int .i64 e.line,.int .i64 e.col]:=rfl
theorem JH (e:EnumT):(enE e).length=4:=nr (by rw [VL]; rfl)
theorem u4 (e:EnumT)(k:Nat):(enE e).getD k .bad=([.str e.name,.lst e.vals.length (e.vals.map .str),.int .i64 e.line,.int .i64 e.col]:List AV).getD k .bad:=nr (by rw [VL])
theorem jjS (e:EnumT)(k:Nat):(enE e).drop k=([.str e.name,.lst e.vals.length (e.vals.map .str),.int .i64 e.line,.int .i64 e.col]:List AV).drop k:=nr (by rw [VL])
theorem HG (e:EnumT):lall AV.cell (enE e)=true:=nr (by rw [VL]; rfl)
theorem jjR {st:St}{K:AV->St->Prop}{xs:List EnumT}{i:Nat}(h:i<xs.length):jk (yX 4 (.lptr (fl enE xs) (i * 4)) st) K=K (.agg (enE xs[i])) st:=QP JH h
theorem jgN {st:St}{K:AV->St->Prop}{xs:List EnumT}{i:Nat}(h:i<xs.length){k:Nat}(hk:k<4):jk (ya (.lptr (fl enE xs) (i * 4+k)) st) K=K ((enE xs[i]).getD k .bad) st:=qX JH h hk
theorem jgO {st:St}{K:AV->St->Prop}{xs:List EnumT}{i:Nat}(h:i<xs.length):jk (ya (.lptr (fl enE xs) (i * 4)) st) K=K ((enE xs[i]).getD 0 .bad) st:=qX (k:=0) JH h (by decide)
theorem jn:type_of% (aI @JH (aI @u4 (aI @jjS (aI @HG (aI @jjR (aI @jgO @jgN)))))):=aI @JH (aI @u4 (aI @jjS (aI @HG (aI @jjR (aI @jgO @jgN)))))
theorem zh:type_of% (aI @JH (aI @HG @u4)):=aI @JH (aI @HG @u4)
theorem Z7 (d:DeclT):qc d=[.str d.name,.str d.ty,.int .i64 d.lo,.int .i64 d.hi,.lst d.begins.length (fl eE d.begins),.int .i64 d.line,.int .i64 d.col]:=rfl
theorem Qk (d:DeclT):(qc d).length=7:=nr (by rw [Z7]; rfl)
theorem ug (d:DeclT)(k:Nat):(qc d).getD k .bad=([.str d.name,.str d.ty,.int .i64 d.lo,.int .i64 d.hi,.lst d.begins.length (fl eE d.begins),.int .i64 d.line,.int .i64 d.col]:List AV).getD k .bad:=nr (by rw [Z7])
theorem jcV (d:DeclT)(k:Nat):(qc d).drop k=([.str d.name,.str d.ty,.int .i64 d.lo,.int .i64 d.hi,.lst d.begins.length (fl eE d.begins),.int .i64 d.line,.int .i64 d.col]:List AV).drop k:=nr (by rw [Z7])
theorem VN (d:DeclT):lall AV.cell (qc d)=true:=nr (by rw [Z7]; rfl)
theorem jcU {st:St}{K:AV->St->Prop}{xs:List DeclT}{i:Nat}(h:i<xs.length):jk (yX 7 (.lptr (fl qc xs) (i * 7)) st) K=K (.agg (qc xs[i])) st:=QP Qk h
theorem jbd {st:St}{K:AV->St->Prop}{xs:List DeclT}{i:Nat}(h:i<xs.length){k:Nat}(hk:k<7):jk (ya (.lptr (fl qc xs) (i * 7+k)) st) K=K ((qc xs[i]).getD k .bad) st:=qX Qk h hk
theorem jbe {st:St}{K:AV->St->Prop}{xs:List DeclT}{i:Nat}(h:i<xs.length):jk (ya (.lptr (fl qc xs) (i * 7)) st) K=K ((qc xs[i]).getD 0 .bad) st:=qX (k:=0) Qk h (by decide)
theorem jf:type_of% (aI @Qk (aI @ug (aI @jcV (aI @VN (aI @jcU (aI @jbe @jbd)))))):=aI @Qk (aI @ug (aI @jcV (aI @VN (aI @jcU (aI @jbe @jbd)))))
theorem qY:type_of% (aI @Qk (aI @VN @ug)):=aI @Qk (aI @VN @ug)
theorem jjZ (a:AsT):asE a=[.str a.name,.int .i64 a.to.op,.int .i64 a.to.num,.str a.to.name,.lst a.to.kids.length (fl eE a.to.kids),.int .i64 a.to.line,.int .i64 a.to.col,.int .i64 a.line,.int .i64 a.col]:=(by unfold asE; rw [qv]; rfl)
theorem HJ (a:AsT)(k:Nat):(asE a).getD k .bad=([.str a.name,.int .i64 a.to.op,.int .i64 a.to.num,.str a.to.name,.lst a.to.kids.length (fl eE a.to.kids),.int .i64 a.to.line,.int .i64 a.to.col,.int .i64 a.line,.int .i64 a.col]:List AV).getD k .bad:=nr (by rw [jjZ])
theorem jj1 (a:AsT)(k:Nat):(asE a).drop k=([.str a.name,.int .i64 a.to.op,.int .i64 a.to.num,.str a.to.name,.lst a.to.kids.length (fl eE a.to.kids),.int .i64 a.to.line,.int .i64 a.to.col,.int .i64 a.line,.int .i64 a.col]:List AV).drop k:=nr (by rw [jjZ])
theorem jj0 {st:St}{K:AV->St->Prop}{xs:List AsT}{i:Nat}(h:i<xs.length):jk (yX 9 (.lptr (fl asE xs) (i * 9)) st) K=K (.agg (asE xs[i])) st:=QP Za h
theorem jg2 {st:St}{K:AV->St->Prop}{xs:List AsT}{i:Nat}(h:i<xs.length){k:Nat}(hk:k<9):jk (ya (.lptr (fl asE xs) (i * 9+k)) st) K=K ((asE xs[i]).getD k .bad) st:=qX Za h hk
theorem jg3 {st:St}{K:AV->St->Prop}{xs:List AsT}{i:Nat}(h:i<xs.length):jk (ya (.lptr (fl asE xs) (i * 9)) st) K=K ((asE xs[i]).getD 0 .bad) st:=qX (k:=0) Za h (by decide)
theorem jo:type_of% (aI @Za (aI @HJ (aI @jj1 (aI @Ko (aI @jj0 (aI @jg3 @jg2)))))):=aI @Za (aI @HJ (aI @jj1 (aI @Ko (aI @jj0 (aI @jg3 @jg2)))))
theorem zi:type_of% (aI @Za (aI @Ko @HJ)):=aI @Za (aI @Ko @HJ)
theorem jdr (r:RuleT):ruE r=[.int .i64 r.when.op,.int .i64 r.when.num,.str r.when.name,.lst r.when.kids.length (fl eE r.when.kids),.int .i64 r.when.line,.int .i64 r.when.col,.lst r.acts.length (fl asE r.acts)]:=Wu r
theorem G9 (r:RuleT)(k:Nat):(ruE r).getD k .bad=([.int .i64 r.when.op,.int .i64 r.when.num,.str r.when.name,.lst r.when.kids.length (fl eE r.when.kids),.int .i64 r.when.line,.int .i64 r.when.col,.lst r.acts.length (fl asE r.acts)]:List AV).getD k .bad:=nr (by rw [jdr])
theorem jjm (r:RuleT)(k:Nat):(ruE r).drop k=([.int .i64 r.when.op,.int .i64 r.when.num,.str r.when.name,.lst r.when.kids.length (fl eE r.when.kids),.int .i64 r.when.line,.int .i64 r.when.col,.lst r.acts.length (fl asE r.acts)]:List AV).drop k:=nr (by rw [jdr])
theorem Ha (r:RuleT):lall AV.cell (ruE r)=true:=nr (by rw [jdr]; rfl)
theorem jjl {st:St}{K:AV->St->Prop}{xs:List RuleT}{i:Nat}(h:i<xs.length):jk (yX 7 (.lptr (fl ruE xs) (i * 7)) st) K=K (.agg (ruE xs[i])) st:=QP ZC h
theorem jfz {st:St}{K:AV->St->Prop}{xs:List RuleT}{i:Nat}(h:i<xs.length){k:Nat}(hk:k<7):jk (ya (.lptr (fl ruE xs) (i * 7+k)) st) K=K ((ruE xs[i]).getD k .bad) st:=qX ZC h hk
theorem jfA {st:St}{K:AV->St->Prop}{xs:List RuleT}{i:Nat}(h:i<xs.length):jk (ya (.lptr (fl ruE xs) (i * 7)) st) K=K ((ruE xs[i]).getD 0 .bad) st:=qX (k:=0) ZC h (by decide)
theorem jQ:type_of% (aI @ZC (aI @G9 (aI @jjm (aI @Ha (aI @jjl (aI @jfA @jfz)))))):=aI @ZC (aI @G9 (aI @jjm (aI @Ha (aI @jjl (aI @jfA @jfz)))))
theorem zc:type_of% (aI @ZC (aI @Ha @G9)):=aI @ZC (aI @Ha @G9)
theorem Vq (p:ProcT):prE p=[.str p.name,.lst p.rules.length (fl ruE p.rules),.int .i64 p.line,.int .i64 p.col]:=rfl
theorem wV (p:ProcT):(prE p).length=4:=nr (by rw [Vq]; rfl)
theorem He (p:ProcT)(k:Nat):(prE p).getD k .bad=([.str p.name,.lst p.rules.length (fl ruE p.rules),.int .i64 p.line,.int .i64 p.col]:List AV).getD k .bad:=nr (by rw [Vq])
theorem jjs (p:ProcT)(k:Nat):(prE p).drop k=([.str p.name,.lst p.rules.length (fl ruE p.rules),.int .i64 p.line,.int .i64 p.col]:List AV).drop k:=nr (by rw [Vq])
theorem Hf (p:ProcT):lall AV.cell (prE p)=true:=nr (by rw [Vq]; rfl)
theorem jjr {st:St}{K:AV->St->Prop}{xs:List ProcT}{i:Nat}(h:i<xs.length):jk (yX 4 (.lptr (fl prE xs) (i * 4)) st) K=K (.agg (prE xs[i])) st:=QP wV h
theorem jfO {st:St}{K:AV->St->Prop}{xs:List ProcT}{i:Nat}(h:i<xs.length){k:Nat}(hk:k<4):jk (ya (.lptr (fl prE xs) (i * 4+k)) st) K=K ((prE xs[i]).getD k .bad) st:=qX wV h hk
theorem jfP {st:St}{K:AV->St->Prop}{xs:List ProcT}{i:Nat}(h:i<xs.length):jk (ya (.lptr (fl prE xs) (i * 4)) st) K=K ((prE xs[i]).getD 0 .bad) st:=qX (k:=0) wV h (by decide)
theorem qp:type_of% (aI @wV (aI @He (aI @jjs (aI @Hf (aI @jjr (aI @jfP @jfO)))))):=aI @wV (aI @He (aI @jjs (aI @Hf (aI @jjr (aI @jfP @jfO)))))
theorem zd:type_of% (aI @wV (aI @Hf @He)):=aI @wV (aI @Hf @He)
theorem Vi (m:SrcT):srE m=[.lst m.enums.length (fl enE m.enums),.lst m.vars.length (fl qc m.vars),.lst m.procs.length (fl prE m.procs)]:=rfl
theorem Zz (m:SrcT):(srE m).length=3:=nr (by rw [Vi]; rfl)
theorem G2 (m:SrcT)(k:Nat):(srE m).getD k .bad=([.lst m.enums.length (fl enE m.enums),.lst m.vars.length (fl qc m.vars),.lst m.procs.length (fl prE m.procs)]:List AV).getD k .bad:=nr (by rw [Vi])
theorem jjh (m:SrcT)(k:Nat):(srE m).drop k=([.lst m.enums.length (fl enE m.enums),.lst m.vars.length (fl qc m.vars),.lst m.procs.length (fl prE m.procs)]:List AV).drop k:=nr (by rw [Vi])
theorem G3 (m:SrcT):lall AV.cell (srE m)=true:=nr (by rw [Vi]; rfl)
theorem jjg {st:St}{K:AV->St->Prop}{xs:List SrcT}{i:Nat}(h:i<xs.length):jk (yX 3 (.lptr (fl srE xs) (i * 3)) st) K=K (.agg (srE xs[i])) st:=QP Zz h
theorem jfq {st:St}{K:AV->St->Prop}{xs:List SrcT}{i:Nat}(h:i<xs.length){k:Nat}(hk:k<3):jk (ya (.lptr (fl srE xs) (i * 3+k)) st) K=K ((srE xs[i]).getD k .bad) st:=qX Zz h hk
theorem jfr {st:St}{K:AV->St->Prop}{xs:List SrcT}{i:Nat}(h:i<xs.length):jk (ya (.lptr (fl srE xs) (i * 3)) st) K=K ((srE xs[i]).getD 0 .bad) st:=qX (k:=0) Zz h (by decide)
theorem qm:type_of% (aI @Zz (aI @G2 (aI @jjh (aI @G3 (aI @jjg (aI @jfr @jfq)))))):=aI @Zz (aI @G2 (aI @jjh (aI @G3 (aI @jjg (aI @jfr @jfq)))))
theorem za:type_of% (aI @Zz (aI @G3 @G2)):=aI @Zz (aI @G3 @G2)
theorem dzE {p:Prop}(h:p:=by first | assumption | decide | omega | (simp only [qJ,zi,zc,zh,qY,zd,za,rzN,Qak,Qan]; first | done | omega) | (apply JJ <;> first | omega | ((simp (disch:=first | assumption | omega | (simp only [qJ,zi,zc,zh,qY,zd,za,rzN,Qak,Qan]; first | done | omega)) only [rzL,Qak,Qan,QaO,Qab,qJ,zi,zc,zh,qY,zd,za ]) <;> first | done | omega)) | (simp (disch:=first | assumption | omega | (simp only [qJ,zi,zc,zh,qY,zd,za,rzN,Qak,Qan]; first | done | omega)) only [qJ,zi,zc,zh,qY,zd,za,rzG,Qag,Qah,Qac,Qbh,Qak,Qan,Qaw,QaG]; first | done | omega | decide)):p:=h
theorem cyE {p:Prop}(h:p:=by apply JJ <;> first | omega | ((simp (disch:=first | assumption | omega | (simp only [qJ,zi,zc,zh,qY,zd,za,rzN,Qak,Qan]; first | done | omega)) only [rzL,Qak,Qan,QaO,Qab,qJ,zi,zc,zh,qY,zd,za]) <;> first | done | rfl | omega | (simp; done) | (simp; omega))):p:=h
theorem yZ {p:Prop}(h:p:=by first | assumption | decide | omega | (simp only [qJ,zi,zc,zh,qY,zd,za,zz,rzN,Qak,Qan]; first | done | omega) | (apply JJ <;> first | omega | ((simp (disch:=first | assumption | omega | (simp only [qJ,zi,zc,zh,qY,zd,za,zz,rzN,Qak,Qan]; first | done | omega)) only [rzL,Qak,Qan,QaO,Qab,qJ,zi,zc,zh,qY,zd,za,zz ]) <;> first | done | omega)) | (simp (disch:=first | assumption | omega | (simp only [qJ,zi,zc,zh,qY,zd,za,zz,rzN,Qak,Qan]; first | done | omega)) only [qJ,zi,zc,zh,qY,zd,za,zz,rzG,Qag,Qah,Qac,Qbh,Qak,Qan,Qaw,QaG]; first | done | omega | decide)):p:=h
theorem jeT {S:List (List Nat)}{k:Nat}{st:St}{K:AV->St->Prop}(h:k<S.length):jk (ya (.lptr (S.map AV.str) k) st) K=K (.str S[k]) st:=by
 rw [Jg (by simpa using h)]; congr 1; exact Wp h
end Go.Sy
end
noncomputable section
set_option maxRecDepth 100000
namespace Go.Sy
open Go.Ev Go.Proofs
variable {base:Bs}
theorem jkd {a:Nat}{st:St}{K:AV->St->Prop}(h:a≤9223372036854775807):jk (Ju .quo (.int .i64 (a:Int)) (.int .i64 10) st) K=K (.int .i64 ((a / 10:Nat):Int)) st:=by
 have e:qS .i64 ((a / 10:Nat):Int)=((a / 10:Nat):Int):=ww (by omega) (by omega);show K (.int .i64 (qS .i64 ((a / 10:Nat):Int))) st=_;rw [e]
theorem jkc {a:Nat}{st:St}{K:AV->St->Prop}:jk (Ju .rem (.int .i64 (a:Int)) (.int .i64 10) st) K=K (.int .i64 ((a % 10:Nat):Int)) st:=rfl
def vI (n:Nat):List Nat:=if n<10 then [48+n] else vI (n / 10) ++ [48+n % 10]
termination_by n
decreasing_by omega
def Zq (n:Int):List Nat:=if n<0 then 45 :: vI (-n).toNat else vI n.toNat
theorem job:∀ n,n<10->(([48,49,50,51,52,53,54,55,56,57]:List Nat).drop n).take 1=[48+n]:=by decide
theorem wD:∀ (k n:Nat),n<10 ^ (k+1)->(vI n).length≤k+1
 | 0,n,h=>by rw [vI,if_pos (by omega)]; simp
 | k+1,n,h=>by
  rw [vI];by_cases h2:n<10
  ·rw [if_pos h2]; simp
  ·rw [if_neg h2,Qal];have:=wD k (n / 10) (by rw [Nat.pow_succ] at h; omega);simp; omega
theorem jhh (hb:NB base)(n:Nat)(h:n≤1000000000000000):Tot base 53 [.int .i64 (n:Int)] (.str (vI n)):=by
 induction n using Nat.strongRecOn with
 | _ n ih=>
 refine hb.tot ?_ rfl rfl;have hd:vI n=if n<10 then [48+n] else vI (n / 10) ++ [48+n % 10]:=by rw [vI]
 by_cases h2:n<10
 ·have g:=job n h2;have e1:((n:Int)+1 - (n:Int)).toNat=1:=by omega
  have e2:(n:Int)<10:=by omega
  refine jJ x53 (by rfl) (hb.pur 53 1 (by decide)) ?_;simp only [y53,jm,Qai,Qaj,Qag,Qah];unfold z53;try dsimp only [oo,oO,ot,oT,os,og,oh,oc,on,oN,oP]
  repeat' (first | (apply jc <;> intro _) | simp (disch:=first | exact dzB | fail) only [e1,e2,g,jd,rzZ,Qab,Qac,Qad,Qaa,Qae])
  exact G0.v (by rw [hd,if_pos h2]) rfl
 ·have i:=ih (n / 10) (by omega) (by omega);have g:=job (n % 10) (by omega);have e1:(((n % 10:Nat):Int)+1 - ((n % 10:Nat):Int)).toNat=1:=by omega
  have e2:¬ (n:Int)<10:=by omega
  have e0:¬ (n:Int)<0:=by omega
  have e3:(n % 10:Nat)+1≤10:=by omega
  have hl:=wD 14 (n / 10) (by
   have:(10:Nat) ^ (14+1)=1000000000000000:=by decide
   omega)
  refine jJ x53 (by rfl) (hb.pur 53 1 (by decide)) ?_;simp only [y53,jm,Qai,Qaj,Qag,Qah];unfold z53;try dsimp only [oo,oO,ot,oT,os,og,oh,oc,on,oN,oP]
  repeat' (first | (apply jc <;> intro _) | simp (disch:=first | exact dzB | fail) only [e1,e2,e0,g,jkd,jkc,i,jd,rzZ,Qab,Qac,Qad,Qaa,Qae])
  exact G0.v (by rw [hd,if_neg h2]) rfl
theorem jeC (hb:NB base)(n:Int)(h1 : -1000000000000000≤n)(h2:n≤1000000000000000):Tot base 53 [.int .i64 n] (.str (Zq n)):=by
 by_cases h0:n<0
 ·obtain ⟨m,hm⟩:∃ m:Nat,-n=(m:Int):=⟨(-n).toNat,by omega⟩;have D:=jhh hb m (by omega);have hl:=wD 15 m (by
   have:(10:Nat) ^ (15+1)=10000000000000000:=by decide
   omega)
  refine hb.tot ?_ rfl rfl;refine jJ x53 (by rfl) (hb.pur 53 1 (by decide)) ?_;simp only [y53,jm,Qai,Qaj,Qag,Qah];unfold z53;try dsimp only [oo,oO,ot,oT,os,og,oh,oc,on,oN,oP]
  repeat' (first | (apply jc <;> intro _) | simp (disch:=first | exact dzB | fail) only [h0,hm,D,jd,rzZ,Qab,Qac,Qad,Qaa,Qae])
  exact G0.v (by rw [Zq,if_pos h0,hm]; rfl) rfl
 ·obtain ⟨m,hm⟩:∃ m:Nat,n=(m:Int):=⟨n.toNat,by omega⟩;subst hm;rw [Zq,if_neg h0];exact jhh hb m (by omega)
theorem wE {n:Int}(h1 : -1000000≤n)(h2:n≤1000000):(Zq n).length≤8:=by
 have e:(10:Nat) ^ (6+1)=10000000:=by decide
 unfold Zq;split
 ·have:=wD 6 (-n).toNat (by omega);simp; omega
 ·have:=wD 6 n.toNat (by omega);omega
def yR:Ex->List Nat
 | .mk op num name ks _ _=>match ks with
  | [x,y]=>(if x.kids.length=0 then yR x else 40 :: (yR x ++ [41])) ++ [32] ++ sgn op ++ [32] ++ (if y.kids.length=0 then yR y else 40 :: (yR y ++ [41]))
  | [x]=>sgn op ++ (if 6<op then [32] else []) ++ (if x.kids.length=0 then yR x else 40 :: (yR x ++ [41]))
  | _=>if op=1 then Zq num else if op=2 then (if num=1 then [116,114,117,101] else [102,97,108,115,101]) else name
termination_by x=>SizeOf.sizeOf x
def Zo (x:Ex):List Nat:=if x.kids.length=0 then yR x else 40 :: (yR x ++ [41])
theorem jb8 (op num:Int)(name:List Nat)(x y:Ex)(l c:Int):yR (.mk op num name [x,y] l c)=Zo x ++ [32] ++ sgn op ++ [32] ++ Zo y:=by rw [yR]; rfl
theorem jb9 (op num:Int)(name:List Nat)(x:Ex)(l c:Int):yR (.mk op num name [x] l c)=sgn op ++ (if 6<op then [32] else []) ++ Zo x:=by rw [yR]; rfl
theorem jca (op num:Int)(name:List Nat)(l c:Int):yR (.mk op num name [] l c)=if op=1 then Zq num else if op=2 then (if num=1 then [116,114,117,101] else [102,97,108,115,101]) else name:=by rw [yR] <;> intros <;> simp_all
theorem KL (op:Int):(sgn op).length≤3:=by
 unfold sgn;split
 ·rename_i h;have:∀ n,n<26->(ZW.getD n []).length≤3:=by decide
  exact this _ (by omega)
 ·simp
theorem UW {x:Ex}(h:Jw x=true):Y4 x.op=(x.kids.length:Int)∧(∀ k∈x.kids,Jw k=true)∧ZJ x.op x.num x.name=true∧(x.op=3∨x.name=[]):=by
 rw [Ws,vC] at h;simp only [Qar,decide_eq_true_eq,Qaz,QaZ] at h;exact ⟨h.1.1.1,h.1.1.2,h.2,h.1.2⟩
theorem jaQ (op:Int):Y4 op≤2:=by unfold Y4; split <;> (try split) <;> (try split) <;> omega
theorem Jb:∀ x:Ex,Jw x=true->(yR x).length≤16 * szE x:=by
 refine Ex.indk λx ih h=>?_;obtain ⟨h1,h2,h3,h4⟩:=UW h;have h5:=jaQ x.op;cases x with
 | mk op num name ks l c=>
 simp only [Ex.op,Ex.num,Ex.name,Ex.kids] at *;have sz:szE (.mk op num name ks l c)=yp ks+name.length+1:=rfl;rw [sz];have inn:∀ k∈ks,(Zo k).length≤16 * szE k+2:=λk hk=>by
  have:=ih k hk (h2 k hk);unfold Zo; split
  ·omega
  ·simp; omega
 match ks,h1,inn with
 | [],_,_=>
  rw [jca];unfold ZJ at h3;split
  ·rename_i h6;rw [if_pos h6] at h3;simp at h3;have:=wE (n:=num) (by omega) (by omega);omega
  ·split
   ·split <;> simp <;> omega
   ·omega
 | [x],_,inn=>
  rw [jb9];have:=inn x (by simp);have:=KL op;simp only [Qal,yp];split <;> simp <;> omega
 | [x,y],_,inn=>
  rw [jb8];have:=inn x (by simp);have:=inn y (by simp);have:=KL op;simp only [Qal,yp,Qak,Qan];omega
 | x :: y :: z :: r,h1,_=>
  simp only [Qak] at h1;omega
theorem jim {x:Ex}(h:Jw x=true):(Zo x).length≤16 * szE x+2:=by
 have:=Jb x h;unfold Zo; split
 ·omega
 ·simp; omega
theorem jnI (x:Ex)(xs:List Ex){st:St}{K:AV->St->Prop}:jk (yX 6 (.lptr (fl eE (x :: xs)) 0) st) K=K (.agg (eE x)) st:=by
 have:=Uu (st:=st) (K:=K) (xs:=x :: xs) (i:=0) (by simp);rw [Qbu] at this;exact this
theorem jqt (x y:Ex)(xs:List Ex){st:St}{K:AV->St->Prop}:jk (yX 6 (.lptr (fl eE (x :: y :: xs)) 6) st) K=K (.agg (eE y)) st:=Uu (st:=st) (K:=K) (xs:=x :: y :: xs) (i:=1) (by simp)
theorem jiP (hb:NB base){x:Ex}(h:Jw x=true)(hx:szE x≤BIG)(T:Tot base 16 [.agg (eE x)] (.str (yR x))):Tot base 51 [.agg (eE x)] (.str (Zo x)):=by
 refine hb.tot ?_ (by first | rfl | simp [pa,pc,qQ]) rfl;have hl:=Jb x h;have z:((x.kids.length:Int)=0)=(x.kids.length=0):=by rw [eq_iff_iff]; omega
 unfold BIG at hx;refine jJ x51 (by rfl) (hb.pur 51 1 (by decide)) ?_;simp only [y51,jm,Qai,Qaj,Qag,Qah];unfold z51;try dsimp only [oo,oO,ot,oT,os,og,oh,oc,on,oN,oP]
 (have zz:=@Qal.{0}; (repeat' (first | (apply jc <;> intro _) | simp (disch:=first | exact gk | fail) only [T,z,Qal,jd,rzZ,Qab,Qac,Qad,Qaa,Qae])); (all_goals (clear zz)))
 ·exact G0.v (by rw [Zo,if_pos (by assumption)]) rfl
 ·exact G0.v (by rw [Zo,if_neg (by assumption)] <;> rfl) rfl
set_option maxHeartbeats 1000000 in
theorem jbD (hb:NB base):∀ x:Ex,szE x≤BIG->Jw x=true->Tot base 16 [.agg (eE x)] (.str (yR x)):=by
 refine Ex.indk λx ih hx h=>?_;refine hb.tot ?_ (by first | rfl | simp [pa,pc,qQ]) rfl;obtain ⟨h1,h2,h3,h4⟩:=UW h;have h5:=jaQ x.op;have sz:=Xa x;have hl:=Jb x h;have SG:=jk6 hb x.op;have sl:=KL x.op;have inn:∀ k∈x.kids,Tot base 51 [.agg (eE k)] (.str (Zo k))∧(Zo k).length≤16 * szE k+2:=λk hk=>by
  have:szE k≤yp x.kids:=by
   obtain ⟨i,hi,rfl⟩:=QbH.1 hk;exact XP hi
  have hk2:szE k≤BIG:=by omega
  exact ⟨jiP hb (h2 k hk) hk2 (ih k hk hk2 (h2 k hk)),jim (h2 k hk)⟩
 clear ih hl;unfold BIG at *;cases x with
 | mk op num name ks l c=>
 simp only [Ex.op,Ex.num,Ex.name,Ex.kids] at *
 match ks,h1,sz,inn with
 | [],_,sz,_=>
  rw [jca];have D:op=1->Tot base 53 [.int .i64 num] (.str (Zq num)):=λe=>by
   subst e;unfold ZJ at h3;simp at h3;exact jeC hb num (by omega) (by omega)
  have ek:(Ex.mk op num name [] l c).kids=[]:=rfl;have eo:(Ex.mk op num name [] l c).op=op:=rfl;have en:(Ex.mk op num name [] l c).num=num:=rfl;have ea:(Ex.mk op num name [] l c).name=name:=rfl;refine jJ x16 (by rfl) (hb.pur 16 1 (by decide)) ?_;simp only [y16,jm,Qai,Qaj,Qag,Qah];unfold z16;try dsimp only [oo,oO,ot,oT,os,og,oh,oc,on,oN,oP]
  repeat' (first | (apply jc <;> intro _) | simp (disch:=first | exact dzB | fail) only [D,ek,eo,en,ea,jd,rzZ,Qab,Qac,Qad,Qaa,Qae])
  all_goals (refine G0.v (congrArg AV.str ?_) rfl; split <;> (try split) <;> first | rfl | omega | (exfalso; omega) | contradiction)
 | [x],_,sz,inn=>
  obtain ⟨I,il⟩:=inn x (by simp);simp only [yp] at sz;rw [jb9];have ek:(Ex.mk op num name [x] l c).kids=[x]:=rfl;have eo:(Ex.mk op num name [x] l c).op=op:=rfl;refine jJ x16 (by rfl) (hb.pur 16 1 (by decide)) ?_;simp only [y16,jm,Qai,Qaj,Qag,Qah];unfold z16;try dsimp only [oo,oO,ot,oT,os,og,oh,oc,on,oN,oP]
  (have zz:=aI @yx (aI @Z6 (aI @Qal.{0} (aI @ek @eo))); (repeat' (first | (apply jc <;> intro _) | simp (disch:=first | exact gk | fail) only [ek,eo,I,SG,jnI,sm3,jhQ,Qm,yx,Z6,Qal,ek,eo,jd,rzZ,Qab,Qac,Qad,Qaa,Qae])); (all_goals (clear zz)))
  all_goals (refine G0.v (congrArg AV.str ?_) rfl; split <;> first | rfl | (exfalso; omega) | (simp; done))
 | [x,y],_,sz,inn=>
  obtain ⟨I,il⟩:=inn x (by simp);obtain ⟨I2,il2⟩:=inn y (by simp);simp only [yp] at sz;rw [jb8];have ek:(Ex.mk op num name [x,y] l c).kids=[x,y]:=rfl;have eo:(Ex.mk op num name [x,y] l c).op=op:=rfl;refine jJ x16 (by rfl) (hb.pur 16 1 (by decide)) ?_;simp only [y16,jm,Qai,Qaj,Qag,Qah];unfold z16;try dsimp only [oo,oO,ot,oT,os,og,oh,oc,on,oN,oP]
  (have zz:=aI @yx (aI @Z6 (aI @Qal.{0} (aI @ek @eo))); (repeat' (first | (apply jc <;> intro _) | simp (disch:=first | exact gk | fail) only [ek,eo,I,I2,SG,jnI,jqt,sm3,jhQ,Qm,yx,Z6,Qal,ek,eo,jd,rzZ,Qab,Qac,Qad,Qaa,Qae])); (all_goals (clear zz)))
  exact G0.v rfl rfl
 | x :: y :: z :: r,h1,_,_=>
  simp only [Qak] at h1;omega
end Go.Sy
end
noncomputable section
set_option maxRecDepth 100000
namespace Go.Sy
open Go.Ev Go.Proofs
variable {base:Bs}
def Jz:List (List Nat)->List Nat
 | []=>[]
 | x :: xs=>x ++ xs.flatMap λy=>44 :: 32 :: y
theorem kP (xs:List (List Nat))(y:List Nat):Jz (xs ++ [y])=Jz xs ++ (if xs.length=0 then [] else [44,32]) ++ y:=by
 cases xs with
 | nil=>simp [Jz]
 | cons x xs=>simp [Jz]
theorem XW {n:Nat}:∀ {xs:List (List Nat)},(∀ x∈xs,x.length≤n)->(Jz xs).length≤xs.length * (n+2)
 | [],_=>by simp [Jz]
 | x :: xs,h=>by
  have h1:=h x (by simp);have:(xs.flatMap λy=>44 :: 32 :: y).length≤xs.length * (n+2):=by
   clear h1;induction xs with
   | nil=>simp
   | cons y ys ih=>
    have h2:=h y (by simp);have:=ih λz hz=>h z (by simp at hz ⊢; rcases hz with rfl | hz <;> simp [*]);rw [List.flatMap_cons,Qal,show (y :: ys).length=ys.length+1 from rfl,Qbv];simp only [Qak];omega
  rw [Jz,Qal,show (x :: xs).length=xs.length+1 from rfl,Qbv];omega
theorem Qc {l:List Nat}(h:nm l=true):l.length≤32:=by
 unfold nm at h;simp only [Qar,decide_eq_true_eq] at h;exact h.1.1.1.2
def J6 (e:EnumT):Option (List Nat):=if nm e.name=true∧1≤e.vals.length∧e.vals.length≤32∧e.vals.all nm=true then some ([101,110,117,109,32] ++ e.name ++ [32,123,32] ++ Jz e.vals ++ [32,125,10]) else none
def KD (o:Option (List Nat)):AV:=.tup [.str (o.getD []),.bool o.isSome]
theorem jfl (l:List Nat):KD (some l)=.tup [.str l,.bool true]:=rfl
theorem G0.tup2 {s:St}{a:List Nat}{b:Bool}{u:AV}(h:u=.tup [.str a,.bool b]):G0 u (.tup [.str a,.bool b]) s:=by
 subst h;exact FzD.tup (.cons (.pc rfl) (.cons (.pc rfl) .nil))
theorem jbx {α:Type}{p:α->Bool}{xs:List α}{k:Nat}(h:k<xs.length)(h2:p xs[k]=false):xs.all p=false:=by
 rw [Bool.eq_false_iff]; intro h3;rw [Qaz] at h3;have:=h3 _ (Qax h);rw [h2] at this; cases this
theorem jey {α:Type}{p:α->Bool}{xs:List α}{k:Nat}(h:k<xs.length):(xs.take (k+1)).all p=((xs.take k).all p && p xs[k]):=by
 rw [zj h,Qbj]; simp
set_option maxHeartbeats 1000000 in
theorem jld (hb:NB base)(e:EnumT)(h1:e.name.length≤BIG)(h2:e.vals.length≤BIG)(h3:∀ v∈e.vals,v.length≤BIG):Tot base 54 [.agg (enE e)] (KD (J6 e)):=by
 refine hb.tot ?_ (by first | rfl | simp [pa,pc,qQ,J9,wT,Jr,zP]) rfl;have NM:=YN hb e.name (by unfold BIG at *; omega);unfold BIG at *;have c1:((e.vals.length:Int)<1)=(e.vals.length<1):=by rw [eq_iff_iff]; omega
 have c2:((32:Int)<(e.vals.length:Int))=(32<e.vals.length):=by rw [eq_iff_iff]; omega
 refine jJ x54 (by rfl) (hb.pur 54 1 (by decide)) ?_;simp only [y54,jm,Qai,Qaj,Qag,Qah];unfold z54;try dsimp only [oo,oO,ot,oT,os,og,oh,oc,on,oN,oP]
 (have zz:=@Qal.{0}; (repeat' (first | (apply jc <;> intro _) | simp (disch:=first | exact yZ | fail) only [NM,c1,c2,Qal,jd,jo,jQ,jn,jf,rzZ,Qab,Qac,Qad,Qaa,Qae])); (all_goals (clear zz)))
 ·rename_i h;exact G0.tup2 (by rw [J6,if_neg (by rintro ⟨h6,_⟩; rw [h] at h6; cases h6)]; rfl)
 ·exact G0.tup2 (by rw [J6,if_neg (by omega)]; rfl)
 ·exact G0.tup2 (by rw [J6,if_neg (by omega)]; rfl)
 have hn:nm e.name=true:=by simp_all
 have hnl:=Qc hn;have l1:1≤e.vals.length:=by omega
 have l2:e.vals.length≤32:=by omega
 refine qt e.vals.length (λk L s=>(e.vals.take k).all nm=true∧Has L 4 (.str ([101,110,117,109,32] ++ e.name ++ [32,123,32] ++ Jz (e.vals.take k)))∧Has L 28 (.lst e.vals.length (e.vals.map AV.str))) (by first | assumption | omega) (by decide) (by simp (disch:=decide) only [je,jb]) (by simp (disch:=decide) only [je,jb]) ?_ (λk L s v h=>by simp (disch:=decide) only [jb]; exact h) (λk L s v h=>by simp (disch:=decide) only [jb]; exact h) (λk L s hk hI hi hn=>?_) (λL s hI=>?_)
 ·refine ⟨rfl,?_⟩;rw [Qbe,Jz,Qbi];simp (disch:=decide) only [Qam,Qaq,z0,z1,je,jb,and_true,true_and,QaW,Qaw,QaG]
 ·obtain ⟨h0,i4,i28⟩:=hI;have N2:=YN hb e.vals[k] (by have:=h3 _ (Qax hk); omega);have hs:=kP (e.vals.take k) e.vals[k];rw [←zj hk] at hs;have hjl:(Jz (e.vals.take k)).length≤32 * 34:=by
   have:=XW (n:=32) (xs:=e.vals.take k) λx hx=>Qc (Qaz.1 h0 x hx);have h7:(e.vals.take k).length≤32:=by rw [QaJ]; omega
   have:=QaK 34 h7;omega
  have hvl:=h3 _ (Qax hk);have tl:(e.vals.take k).length=k:=by rw [QaJ]; omega
  rw [tl] at hs;have c3:((0:Int)<(k:Int))=(0<k):=by rw [eq_iff_iff]; omega
  (have zz:=@Qal.{0}; (repeat' (first | (apply jc <;> intro _) | simp (disch:=first | exact yZ | fail) only [ja i4,ja i28,ja hi,ja hn,jeT,N2,c3,Qal,jd,jo,jQ,jn,jf,rzZ,Qab,Qac,Qad,Qaa,Qae])); (all_goals (clear zz)))
  ·rename_i h;exact G0.tup2 (by rw [J6,if_neg (by rintro ⟨_,_,_,h6⟩; rw [jbx hk h] at h6; cases h6)]; rfl)
  ·rename_i h h8;refine ⟨⟨by rw [jey hk,h0]; simp_all,?_⟩,?_⟩
   ·rw [hs,if_neg (by omega)];simp (disch:=decide) only [Qam,Qaq,z0,z1,je,jb,and_true,true_and,i28,QaW,Qaw,QaG]
   ·simp (disch:=decide) only [Qam,Qaq,z0,z1,je,jb,and_true,true_and,hi,hn]
  ·rename_i h h8;refine ⟨⟨by rw [jey hk,h0]; simp_all,?_⟩,?_⟩
   ·rw [hs,if_pos (by omega)];simp (disch:=decide) only [Qam,Qaq,z0,z1,je,jb,and_true,true_and,i28,QaW,Qaw,QaG]
   ·simp (disch:=decide) only [Qam,Qaq,z0,z1,je,jb,and_true,true_and,hi,hn]
 ·obtain ⟨h0,i4,i28⟩:=hI;rw [QaD] at h0 i4;have hjl:(Jz e.vals).length≤32 * 34:=by
   have:=XW (n:=32) (xs:=e.vals) λx hx=>Qc (Qaz.1 h0 x hx);have:=QaK 34 l2;omega
  (have zz:=@Qal.{0}; (repeat' (first | (apply jc <;> intro _) | simp (disch:=first | exact yZ | fail) only [ja i4,ja i28,Qal,jd,jo,jQ,jn,jf,rzZ,Qab,Qac,Qad,Qaa,Qae])); (all_goals (clear zz)))
  exact G0.tup2 (by rw [J6,if_pos ⟨hn,l1,l2,h0⟩]; rfl)
end Go.Sy
end
noncomputable section
set_option maxRecDepth 100000
namespace Go.Sy
open Go.Ev Go.Proofs
variable {base:Bs}
def Zb (n:Int):Bool:=decide (-1000000≤n) && decide (n≤1000000)
def JY (d:DeclT):Option (List Nat):=
 if d.ty=[] then (if Zb d.lo=true∧Zb d.hi=true then some (Zq d.lo ++ [46,46] ++ Zq d.hi) else none)
 else if d.lo=0∧d.hi=0∧(d.ty=[98,111,111,108]∨nm d.ty=true) then some d.ty else none
def YM (xs:List Ex):List Nat:=xs.flatMap λx=>[32,61,32] ++ yR x
def JI (d:DeclT):Option (List Nat):=match JY d with
 | none=>none
 | some t=>if d.begins.length≤1∧nm d.name=true∧d.begins.all yQ=true then some ([118,97,114,32] ++ d.name ++ [32,58,32] ++ t ++ YM d.begins ++ [59,10]) else none
theorem gq {d:DeclT}(h:JY d=none):JI d=none:=by unfold JI; rw [h]
theorem jcT {d:DeclT}{t:List Nat}(h:JY d=some t):JI d=if d.begins.length≤1∧nm d.name=true∧d.begins.all yQ=true then some ([118,97,114,32] ++ d.name ++ [32,58,32] ++ t ++ YM d.begins ++ [59,10]) else none:=by unfold JI; rw [h]
theorem zC {x:Ex}(h:yQ x=true):Jw x=true:=by
 unfold yQ at h;rw [Xc] at h;simp only [Qar] at h;exact h.1.2
theorem jnH {xs:List Ex}(h:0<xs.length){st:St}{K:AV->St->Prop}:jk (yX 6 (.lptr (fl eE xs) 0) st) K=K (.agg (eE xs[0])) st:=by
 have:=Uu (st:=st) (K:=K) h;rw [Qbu] at this;exact this
set_option maxHeartbeats 1000000 in
theorem Gz (hb:NB base)(d:DeclT)(t:List Nat)(hw:JY d=some t)(ht:t.length≤BIG)(h1:d.name.length≤BIG)(h2:∀ x∈d.begins,szE x≤BIG){L:Sl}{s:St}(i1:Has L 1 (.ptr 0 0))(i4:Has L 4 (.str ([118,97,114,32] ++ d.name ++ [32,58,32] ++ t)))(n0:1≤s.nx)(C0:Cl s 0 (qc d)) :
  xC Qaf base jhq L s (QK Qaf y55.res (Q2 G0 (.ok (KD (JI d))))) λv _ s=>QV G0 (.ok (KD (JI d))) v s.bare:=by
 have NM:=YN hb d.name (by unfold BIG at *; omega);have c2:((1:Int)<(d.begins.length:Int))=(1<d.begins.length):=by rw [eq_iff_iff]; omega
 have hd:=jcT hw;unfold BIG at *;unfold jhq y55;try dsimp only [oo,oO,ot,oT,os,og,oh,oc,on,oN,oP]
 (have zz:=C0.r; (repeat' (first | (apply jc <;> intro _) | simp (disch:=first | exact yZ | fail) only [ja i1,ja i4,NM,c2,C0.q,C0.r,jd,jo,jQ,jn,jf,rzZ,Qab,Qac,Qad,Qaa,Qae])); (all_goals (clear zz)))
 ·exact G0.tup2 (by rw [hd,if_neg (by omega)]; rfl)
 ·rename_i h8 h;exact G0.tup2 (by rw [hd,if_neg (by rintro ⟨_,h6,_⟩; rw [h] at h6; cases h6)]; rfl)
 have hn:nm d.name=true:=by simp_all
 have l1:d.begins.length≤1:=by omega
 have hnl:=Qc hn;refine qt d.begins.length (λk L s=>(d.begins.take k).all yQ=true∧Has L 1 (.ptr 0 0)∧Has L 4 (.str ([118,97,114,32] ++ d.name ++ [32,58,32] ++ t ++ YM (d.begins.take k)))∧Has L 68 (.lst d.begins.length (fl eE d.begins))∧1≤s.nx) (by first | assumption | omega) (by decide) (by simp (disch:=decide) only [je,jb]) (by simp (disch:=decide) only [je,jb]) ?_ (λk L s v h=>by simp (disch:=decide) only [jb]; exact h) (λk L s v h=>by simp (disch:=decide) only [jb]; exact h) (λk L s hk hI hi hn=>?_) (λL s hI=>?_)
 ·refine ⟨rfl,?_⟩;rw [Qbe,show YM []=[] from rfl,Qbi];simp (disch:=decide) only [Qam,Qaq,z0,z1,je,jb,and_true,true_and,i1,i4];exact n0
 ·obtain ⟨h0,i1,i4,i68,n0⟩:=hI;have hk0:k=0:=by omega
  subst hk0;have hi:Has L 70 (.int .i64 0):=hi;have hx:=h2 _ (Qax hk);have WR:=ZU hb d.begins[0] hx;have TX:=λ(h:yQ d.begins[0]=true)=>jbD hb d.begins[0] hx (zC h);have TL:=λ(h:yQ d.begins[0]=true)=>Jb d.begins[0] (zC h);have hs:d.begins.take (0+1)=[d.begins[0]]:=zj hk;rw [Qbe,show YM []=[] from rfl,Qbi] at i4;by_cases hwr:yQ d.begins[0]=true
  ·have TX:=TX hwr;have TL:=TL hwr;rw [hwr] at WR
   (have zz:=@Qal.{0}; (repeat' (first | (apply jc <;> intro _) | simp (disch:=first | exact yZ | fail) only [ja i1,ja i4,ja i68,ja hi,ja hn,jnH hk,WR,TX,Qal,jd,jo,jQ,jn,jf,rzZ,Qab,Qac,Qad,Qaa,Qae])); (all_goals (clear zz)))
   refine ⟨⟨by rw [hs]; simp [hwr],?_⟩,?_⟩
   ·rw [hs,show YM [d.begins[0]]=[32,61,32] ++ yR d.begins[0] from by simp [YM]];simp (disch:=decide) only [Qam,Qaq,z0,z1,je,jb,and_true,true_and,i1,i68,QaW,Qaw,QaG]
    (first | omega | (simp only [jg,jh,jl,jj,ji]; first | done | omega))
   ·simp (disch:=decide) only [Qam,Qaq,z0,z1,je,jb,and_true,true_and,hi,hn]
  ·have hf:yQ d.begins[0]=false:=by simpa using hwr
   rw [hf] at WR
   (have zz:=@Qal.{0}; (repeat' (first | (apply jc <;> intro _) | simp (disch:=first | exact yZ | fail) only [ja i1,ja i4,ja i68,ja hi,ja hn,jnH hk,WR,Qal,jd,jo,jQ,jn,jf,rzZ,Qab,Qac,Qad,Qaa,Qae])); (all_goals (clear zz)))
   exact G0.tup2 (by rw [hd,if_neg (by rintro ⟨_,_,h6⟩; rw [jbx hk hf] at h6; cases h6)]; rfl)
 ·obtain ⟨h0,i1,i4,i68,n0⟩:=hI;rw [QaD] at h0 i4;have bl:(YM d.begins).length≤16 * 1099511627776+3:=by
   match hx:d.begins with
   | []=>simp [YM]
   | [x]=>
    rw [hx] at h0 h2;have:=Jb x (zC (by simpa using h0));have:=h2 x (by simp);simp [YM]; omega
   | x :: y :: r=>rw [hx] at l1; simp at l1
  (have zz:=@Qal.{0}; (repeat' (first | (apply jc <;> intro _) | simp (disch:=first | exact yZ | fail) only [ja i1,ja i4,Qal,jd,jo,jQ,jn,jf,rzZ,Qab,Qac,Qad,Qaa,Qae])); (all_goals (clear zz)))
  exact G0.tup2 (by rw [hd,if_pos ⟨l1,hn,h0⟩]; simp only [jfl,QaW,Qaw,QaG])
set_option maxHeartbeats 1000000 in
theorem jle (hb:NB base)(d:DeclT)(h1:d.name.length≤BIG)(h3:d.ty.length≤BIG)(h2:∀ x∈d.begins,szE x≤BIG):Tot base 55 [.agg (qc d)] (KD (JI d)):=by
 refine hb.tot ?_ (by first | rfl | simp [pa,pc,qQ,J9,wT,Jr,zP]) rfl;have NT:=YN hb d.ty (by unfold BIG at *; omega);have S1:Tot base 96 [.int .i64 d.lo] (.bool (Zb d.lo)):=jcd hb d.lo;have S2:Tot base 96 [.int .i64 d.hi] (.bool (Zb d.hi)):=jcd hb d.hi;unfold BIG at *;by_cases ht:d.ty=[]
 ·by_cases hs:Zb d.lo=true∧Zb d.hi=true
  ·have e1:=hs.1;have e2:=hs.2;unfold Zb at e1 e2;simp only [Qar,decide_eq_true_eq] at e1 e2;have D1:=jeC hb d.lo (by omega) (by omega);have D2:=jeC hb d.hi (by omega) (by omega);have l1:=wE e1.1 e1.2;have l2:=wE e2.1 e2.2;have hw:JY d=some (Zq d.lo ++ [46,46] ++ Zq d.hi):=by rw [JY,if_pos ht,if_pos hs]
   rw [hs.1] at S1;rw [hs.2] at S2;refine jJ x55 (by rfl) (hb.pur 55 1 (by decide)) ?_;simp only [y55,jm,Qai,Qaj,Qag,Qah];unfold z55;try dsimp only [oo,oO,ot,oT,os,og,oh,oc,on,oN,oP]
   (have zz:=aI @Qal.{0} @yx; (repeat' (first | (apply jc <;> intro _) | simp (disch:=first | exact yZ | fail) only [ht,S1,S2,D1,D2,sm2,Qal,yx,jd,jo,jQ,jn,jf,rzZ,Qab,Qac,Qad,Qaa,Qae])); (all_goals (clear zz)))
   refine Gz hb d _ hw (by simp [BIG]; omega) (by unfold BIG; omega) (by unfold BIG; exact h2) ?_ ?_ ?_ ?_
   ·simp (disch:=decide) only [Qam,Qaq,z0,z1,je,jb,and_true,true_and]
   ·simp (disch:=decide) only [Qam,Qaq,z0,z1,je,jb,and_true,true_and,QaW,Qaw,QaG]
   ·(first | omega | (simp only [jg,jh,jl,jj,ji]; first | done | omega))
   ·first | exact Cl.new _ _ | (first | exact cyE | fail)
  ·have hw:JY d=none:=by rw [JY,if_pos ht,if_neg hs]
   refine jJ x55 (by rfl) (hb.pur 55 1 (by decide)) ?_;simp only [y55,jm,Qai,Qaj,Qag,Qah];unfold z55;try dsimp only [oo,oO,ot,oT,os,og,oh,oc,on,oN,oP]
   (have zz:=@Qal.{0}; (repeat' (first | (apply jc <;> intro _) | simp (disch:=first | exact yZ | fail) only [ht,S1,S2,Qal,jd,jo,jQ,jn,jf,rzZ,Qab,Qac,Qad,Qaa,Qae])); (all_goals (clear zz)))
   all_goals first | (exact G0.tup2 (by rw [gq hw]; rfl)) | (exfalso; simp_all; done)
 ·by_cases hs:d.lo=0∧d.hi=0∧(d.ty=[98,111,111,108]∨nm d.ty=true)
  ·have hw:JY d=some d.ty:=by rw [JY,if_neg ht,if_pos hs]
   obtain ⟨e1,e2,e3⟩:=hs;refine jJ x55 (by rfl) (hb.pur 55 1 (by decide)) ?_;simp only [y55,jm,Qai,Qaj,Qag,Qah];unfold z55;try dsimp only [oo,oO,ot,oT,os,og,oh,oc,on,oN,oP]
   (have zz:=@Qal.{0}; (repeat' (first | (apply jc <;> intro _) | simp (disch:=first | exact yZ | fail) only [ht,e1,e2,NT,Qal,jd,jo,jQ,jn,jf,rzZ,Qab,Qac,Qad,Qaa,Qae])); (all_goals (clear zz)))
   all_goals first
    | (exfalso; simp_all; done)
    | (
     refine Gz hb d _ hw (by unfold BIG; omega) (by unfold BIG; omega) (by unfold BIG; exact h2) ?_ ?_ ?_ ?_
     ·simp (disch:=decide) only [Qam,Qaq,z0,z1,je,jb,and_true,true_and]
     ·simp (disch:=decide) only [Qam,Qaq,z0,z1,je,jb,and_true,true_and,QaW,Qaw,QaG]
     ·(first | omega | (simp only [jg,jh,jl,jj,ji]; first | done | omega))
     ·first | exact Cl.new _ _ | (first | exact cyE | fail))
  ·have hw:JY d=none:=by rw [JY,if_neg ht,if_neg hs]
   refine jJ x55 (by rfl) (hb.pur 55 1 (by decide)) ?_;simp only [y55,jm,Qai,Qaj,Qag,Qah];unfold z55;try dsimp only [oo,oO,ot,oT,os,og,oh,oc,on,oN,oP]
   (have zz:=@Qal.{0}; (repeat' (first | (apply jc <;> intro _) | simp (disch:=first | exact yZ | fail) only [ht,NT,Qal,jd,jo,jQ,jn,jf,rzZ,Qab,Qac,Qad,Qaa,Qae])); (all_goals (clear zz)))
   all_goals first | (exact G0.tup2 (by rw [gq hw]; rfl)) | (exfalso; simp_all; done)
end Go.Sy
end
noncomputable section
set_option maxRecDepth 100000
namespace Go.Sy
open Go.Ev Go.Proofs
variable {base:Bs}
theorem jji {b o:Nat}{cs:List AV}{h:T AO}(ho:o+6≤qo h b)(hv:rats h b o 6=cs)(hc:cs.all eqs=true):(jX Qaf 37 (.ptr b o) (.agg cs) h=true)=True:=eq_true (Zc GY GX (by decide) ho hv hc)
theorem jal {s:St}{cs:List AV}{b o k:Nat}(hb:b=s.nx)(h:o+k≤cs.length):rats (nw s cs).h b o k=(cs.drop o).take k:=by
 subst hb;exact (Cl.new s cs).ratsP k o h
theorem zS {s:St}{vs:List AV}{b o o' k:Nat}(h1:o'≤o)(h:o+k≤o'+vs.length):rats (wr s b o' vs).h b o k=(vs.drop (o - o')).take k:=by
 refine wi (by simp; omega) λi hi=>?_;rw [VS (by omega) (by omega),QaC,QaC,QbM,if_pos hi,Qcc,show o - o'+i=o+i - o' by omega]
def QN (a:AsT):List Nat:=a.name ++ [32,58,61,32] ++ yR a.to
def Va (a:AsT):Bool:=nm a.name && yQ a.to
def JG (r:RuleT):Option (List Nat):=if yQ r.when=true∧1≤r.acts.length∧r.acts.length≤32∧r.acts.all Va=true then some ([32,32,119,104,101,110,32] ++ yR r.when ++ [32,100,111,32] ++ Jz (r.acts.map QN) ++ [59,10]) else none
def WL:Nat:=17592186044516
theorem UD {a:AsT}(h:Va a=true)(h2:szE a.to≤BIG):(QN a).length≤WL:=by
 unfold Va at h;simp only [Qar] at h;have:=Qc h.1;have:=Jb a.to (zC h.2);unfold BIG at h2;unfold WL QN;simp only [Qal,Qak,Qan];omega
theorem WP:∀ (a b:Int) (nm:List Nat) (n:Nat) (cs:List AV) (l c:Int),([.int .i64 a,.int .i64 b,.str nm,.lst n cs,.int .i64 l,.int .i64 c]:List AV).all eqs=true:=λ_ _ _ _ _ _ _=>nr rfl
set_option maxHeartbeats 2000000 in
theorem jk8 (hb:NB base)(r:RuleT)(h1:szE r.when≤BIG)(h2:r.acts.length≤BIG)(h3:∀ a∈r.acts,szE a.to≤BIG∧a.name.length≤BIG):Tot base 57 [.agg (ruE r)] (KD (JG r)):=by
 refine hb.tot ?_ (by first | rfl | simp [pa,pc,qQ,J9,wT,Jr,zP]) rfl;have c1:((r.acts.length:Int)<1)=(r.acts.length<1):=by rw [eq_iff_iff]; omega
 have c2:((32:Int)<(r.acts.length:Int))=(32<r.acts.length):=by rw [eq_iff_iff]; omega
 have WR:=ZU hb r.when h1;by_cases hw:yQ r.when=true
 ·have TX:=jbD hb r.when h1 (zC hw);have TL:=Jb r.when (zC hw);rw [qv] at WR TX;rw [hw] at WR;unfold BIG at h1 h2;refine jJ x57 (by rfl) (hb.pur 57 1 (by decide)) ?_;simp only [y57,jm,Qai,Qaj,Qag,Qah];unfold z57;try dsimp only [oo,oO,ot,oT,os,og,oh,oc,on,oN,oP]
  (have zz:=@Qal.{0}; (repeat' (first | (apply jc <;> intro _) | simp (disch:=first | exact yZ | fail) only [WR,TX,c1,c2,jal,Qal,jd,jo,jQ,jn,jf,rzZ,Qab,Qac,Qad,Qaa,Qae])); (all_goals (clear zz)))
  ·exact G0.tup2 (by rw [JG,if_neg (by omega)]; rfl)
  ·exact G0.tup2 (by rw [JG,if_neg (by omega)]; rfl)
  have l1:1≤r.acts.length:=by omega
  have l2:r.acts.length≤32:=by omega
  refine qt r.acts.length (λk L s=>(r.acts.take k).all Va=true∧Has L 4 (.str ([32,32,119,104,101,110,32] ++ yR r.when ++ [32,100,111,32] ++ Jz ((r.acts.take k).map QN)))∧Has L 29 (.lst r.acts.length (fl asE r.acts))∧1≤s.nx) (by first | assumption | omega) (by decide) (by simp (disch:=decide) only [je,jb]) (by simp (disch:=decide) only [je,jb]) ?_ (λk L s v h=>by simp (disch:=decide) only [jb]; exact h) (λk L s v h=>by simp (disch:=decide) only [jb]; exact h) (λk L s hk hI hi hn=>?_) (λL s hI=>?_)
  ·refine ⟨rfl,?_⟩;rw [Qbe,Qaj,Jz,Qbi];simp (disch:=decide) only [Qam,Qaq,z0,z1,je,jb,and_true,true_and,QaW,Qaw,QaG]
   (first | omega | (simp only [jg,jh,jl,jj,ji]; first | done | omega))
  ·obtain ⟨h0,i4,i29,n0⟩:=hI;have hx:=h3 _ (Qax hk);have hin:r.acts[k]∈r.acts:=Qax hk;have hact:∀ a∈r.acts.take k,(QN a).length≤WL:=λa ha=>UD (Qaz.1 h0 a ha) (h3 a (QbR ha)).1;have hbad:Va r.acts[k]=false->JG r=none:=λh=>by rw [JG,if_neg (by rintro ⟨_,_,_,h6⟩; rw [jbx hk h] at h6; cases h6)]
   have hgood:Va r.acts[k]=true->(r.acts.take (k+1)).all Va=true:=λh=>by rw [jey hk,h0,h]; rfl
   have hs:=kP ((r.acts.take k).map QN) (QN r.acts[k]);have e9:(r.acts.take k).map QN ++ [QN r.acts[k]]=(r.acts.take (k+1)).map QN:=by rw [zj hk,Qcf]; rfl
   rw [e9] at hs;have tl:((r.acts.take k).map QN).length=k:=by rw [QaP,QaJ]; omega
   rw [tl] at hs;have hjl:(Jz ((r.acts.take k).map QN)).length≤32 * (WL+2):=by
    have:=XW (n:=WL) (xs:=(r.acts.take k).map QN) λx hx=>by
     obtain ⟨a,ha,rfl⟩:=Qbn.1 hx;exact hact a ha
    rw [tl] at this;have:=QaK (WL+2) (show k≤32 by omega);omega
   clear hact e9 tl;have N2:=YN hb r.acts[k].name (by have:=hx.2; unfold BIG at this; omega);have W2:=ZU hb r.acts[k].to hx.1;have T2:=λ(h:yQ r.acts[k].to=true)=>jbD hb r.acts[k].to hx.1 (zC h);have T3:=λ(h:yQ r.acts[k].to=true)=>Jb r.acts[k].to (zC h);have hdef:Va r.acts[k]=(nm r.acts[k].name && yQ r.acts[k].to):=rfl;have hdw:QN r.acts[k]=r.acts[k].name ++ [32,58,61,32] ++ yR r.acts[k].to:=rfl;have c3:((0:Int)<(k:Int))=(0<k):=by rw [eq_iff_iff]; omega
   obtain ⟨hx1,hx2⟩:=hx;unfold BIG WL at *;obtain ⟨a,ha⟩:∃ a,a=r.acts[k]:=⟨_,rfl⟩;rw [←ha] at hx1 hx2 hbad hgood hs N2 W2 T2 T3 hdef hdw;by_cases hnm:nm a.name=true
   ·have hnl:=Qc hnm;rw [hnm] at N2;by_cases hwb:yQ a.to=true
    ·have T2:=T2 hwb;have T3:=T3 hwb;rw [qv] at W2 T2;rw [hwb] at W2;have hg:=hgood (by rw [hdef,hnm,hwb]; rfl);rw [hdw] at hs;by_cases hk0:k=0
     ·rw [if_pos hk0] at hs;have hk1:¬ 0<k:=by omega
      (have zz:=aI @zS (aI @Qal.{0} (aI @yw @WP)); (repeat' (first | (apply jc <;> intro _) | simp (disch:=first | exact yZ | fail) only [ja i4,ja i29,ja hi,ja hn,N2,W2,T2,c3,hk1,←ha,zS,sm9,jji,zS,Qal,yw,WP,jd,jo,jQ,jn,jf,rzZ,Qab,Qac,Qad,Qaa,Qae])); (all_goals (clear zz)))
      refine ⟨⟨hg,?_⟩,?_⟩
      ·rw [hs];simp (disch:=decide) only [Qam,Qaq,z0,z1,je,jb,and_true,true_and,i29,QaW,Qaw,QaG]
       (first | omega | (simp only [jg,jh,jl,jj,ji]; first | done | omega))
      ·simp (disch:=decide) only [Qam,Qaq,z0,z1,je,jb,and_true,true_and,hi,hn]
     ·rw [if_neg hk0] at hs;have hk1:0<k:=by omega
      (have zz:=aI @zS (aI @Qal.{0} (aI @yw @WP)); (repeat' (first | (apply jc <;> intro _) | simp (disch:=first | exact yZ | fail) only [ja i4,ja i29,ja hi,ja hn,N2,W2,T2,c3,hk1,←ha,zS,sm9,jji,zS,Qal,yw,WP,jd,jo,jQ,jn,jf,rzZ,Qab,Qac,Qad,Qaa,Qae])); (all_goals (clear zz)))
      refine ⟨⟨hg,?_⟩,?_⟩
      ·rw [hs];simp (disch:=decide) only [Qam,Qaq,z0,z1,je,jb,and_true,true_and,i29,QaW,Qaw,QaG]
       (first | omega | (simp only [jg,jh,jl,jj,ji]; first | done | omega))
      ·simp (disch:=decide) only [Qam,Qaq,z0,z1,je,jb,and_true,true_and,hi,hn]
    ·have hwf:yQ a.to=false:=by simpa using hwb
     rw [qv] at W2;rw [hwf] at W2;have hb9:=hbad (by rw [hdef,hwf]; simp)
     (have zz:=aI @zS (aI @Qal.{0} (aI @yw @WP)); (repeat' (first | (apply jc <;> intro _) | simp (disch:=first | exact yZ | fail) only [ja i4,ja i29,ja hi,ja hn,N2,W2,←ha,zS,zS,Qal,yw,WP,jd,jo,jQ,jn,jf,rzZ,Qab,Qac,Qad,Qaa,Qae])); (all_goals (clear zz)))
     exact G0.tup2 (by rw [hb9]; rfl)
   ·have hnf:nm a.name=false:=by simpa using hnm
    rw [hnf] at N2;have hb9:=hbad (by rw [hdef,hnf]; rfl)
    (have zz:=aI @zS (aI @Qal.{0} (aI @yw @WP)); (repeat' (first | (apply jc <;> intro _) | simp (disch:=first | exact yZ | fail) only [ja i4,ja i29,ja hi,ja hn,N2,←ha,zS,zS,Qal,yw,WP,jd,jo,jQ,jn,jf,rzZ,Qab,Qac,Qad,Qaa,Qae])); (all_goals (clear zz)))
    exact G0.tup2 (by rw [hb9]; rfl)
  ·obtain ⟨h0,i4,i29,n0⟩:=hI;rw [QaD] at h0 i4;have hjl:(Jz (r.acts.map QN)).length≤32 * (WL+2):=by
    have:=XW (n:=WL) (xs:=r.acts.map QN) λx hx=>by
     obtain ⟨a,ha,rfl⟩:=Qbn.1 hx;exact UD (Qaz.1 h0 a ha) (h3 a ha).1
    rw [QaP] at this;have:=QaK (WL+2) l2;omega
   unfold WL at hjl
   (have zz:=@Qal.{0}; (repeat' (first | (apply jc <;> intro _) | simp (disch:=first | exact yZ | fail) only [ja i4,ja i29,Qal,jd,jo,jQ,jn,jf,rzZ,Qab,Qac,Qad,Qaa,Qae])); (all_goals (clear zz)))
   exact G0.tup2 (by rw [JG,if_pos ⟨hw,l1,l2,h0⟩]; simp only [jfl,QaW,Qaw,QaG])
 ·have hf:yQ r.when=false:=by simpa using hw
  rw [hf] at WR;rw [qv] at WR;refine jJ x57 (by rfl) (hb.pur 57 1 (by decide)) ?_;simp only [y57,jm,Qai,Qaj,Qag,Qah];unfold z57;try dsimp only [oo,oO,ot,oT,os,og,oh,oc,on,oN,oP]
  (have zz:=@Qal.{0}; (repeat' (first | (apply jc <;> intro _) | simp (disch:=first | exact yZ | fail) only [WR,jal,Qal,jd,jo,jQ,jn,jf,rzZ,Qab,Qac,Qad,Qaa,Qae])); (all_goals (clear zz)))
  exact G0.tup2 (by rw [JG,if_neg (by rintro ⟨h6,_⟩; exact hw h6)]; rfl)
end Go.Sy
end
noncomputable section
set_option maxRecDepth 100000
namespace Go.Sy
open Go.Ev Go.Proofs
variable {base:Bs}
def yo:List (Option (List Nat))->Option (List Nat)
 | []=>some []
 | none :: _=>none
 | some a :: r=>(yo r).map (a ++ ·)
theorem jgV:∀ {xs:List (Option (List Nat))} {a b:List Nat},yo xs=some a->yo (xs ++ [some b])=some (a ++ b)
 | [],a,b,h=>by simp [yo] at h; subst h; simp [yo]
 | none :: r,a,b,h=>by simp [yo] at h
 | some c :: r,a,b,h=>by
  rw [yo] at h;cases hr:yo r with
  | none=>rw [hr] at h; simp at h
  | some d=>
   rw [hr] at h;simp at h;subst h;rw [Qaw,yo,jgV hr];simp
theorem jgW:∀ {xs:List (Option (List Nat))},none∈xs->yo xs=none
 | [],h=>by simp at h
 | none :: r,_=>rfl
 | some c :: r,h=>by
  rw [yo,jgW (by simpa using h)]; rfl
theorem J8 {n:Nat}:∀ {xs:List (Option (List Nat))} {a:List Nat},(∀ l,some l∈xs->l.length≤n)->yo xs=some a->a.length≤xs.length * n
 | [],a,_,h=>by simp [yo] at h; subst h; simp
 | none :: r,a,_,h=>by simp [yo] at h
 | some c :: r,a,hl,h=>by
  rw [yo] at h;cases hr:yo r with
  | none=>rw [hr] at h; simp at h
  | some d=>
   rw [hr] at h;simp at h;subst h;have:=J8 (xs:=r) (λl h=>hl l (by simp [h])) hr;have:=hl c (by simp);rw [Qal,show (some c :: r).length=r.length+1 from rfl,Qbv];omega
theorem vp {α:Type}{f:α->Option (List Nat)}{xs:List α}{k:Nat}(h:k<xs.length){a b:List Nat}(h1:yo ((xs.take k).map f)=some a)(h2:f xs[k]=some b):yo ((xs.take (k+1)).map f)=some (a ++ b):=by
 rw [zj h,Qcf,Qai,Qaj,h2];exact jgV h1
theorem Wb {α:Type}{f:α->Option (List Nat)}{xs:List α}{k:Nat}(h:k<xs.length)(h2:f xs[k]=none):yo (xs.map f)=none:=jgW (by rw [←h2]; exact List.mem_map_of_mem (Qax h))
theorem WV {e:EnumT}{l:List Nat}(h:J6 e=some l):l.length≤2000:=by
 unfold J6 at h;split at h
 ·rename_i hh;simp only [Option.some.injEq] at h;subst h;have:=Qc hh.1;have:=XW (n:=32) (xs:=e.vals) λx hx=>Qc (Qaz.1 hh.2.2.2 x hx);have:=QaK 34 hh.2.2.1;simp only [Qal,Qak,Qan];omega
 ·cases h
theorem jfi {d:DeclT}{t:List Nat}(h:JY d=some t):t.length≤32:=by
 unfold JY at h;split at h
 ·split at h
  ·rename_i hh;simp only [Option.some.injEq] at h;subst h;obtain ⟨e1,e2⟩:=hh;unfold Zb at e1 e2;simp only [Qar,decide_eq_true_eq] at e1 e2;have l1:=wE e1.1 e1.2;have l2:=wE e2.1 e2.2;simp only [Qal,Qak,Qan];omega
  ·cases h
 ·split at h
  ·rename_i hh;simp only [Option.some.injEq] at h;subst h;rcases hh.2.2 with h | h
   ·rw [h]; decide
   ·exact Qc h
  ·cases h
theorem WZ {d:DeclT}{l:List Nat}(h:JI d=some l)(h2:∀ x∈d.begins,szE x≤BIG):l.length≤WL:=by
 cases ht:JY d with
 | none=>rw [gq ht] at h; cases h
 | some t=>
  rw [jcT ht] at h;have tl:=jfi ht;split at h
  ·rename_i hh;simp only [Option.some.injEq] at h;subst h;have:=Qc hh.2.1;have bl:(YM d.begins).length≤16 * BIG+3:=by
    match hx:d.begins with
    | []=>simp [YM]
    | [x]=>
     rw [hx] at hh h2;have:=Jb x (zC (by simpa using hh.2.2));have:=h2 x (by simp);simp [YM]; omega
    | x :: y :: r=>rw [hx] at hh; simp at hh
   unfold BIG at bl;unfold WL;simp only [Qal,Qak,Qan];omega
  ·cases h
structure WrR (r:RuleT):Prop where
 when:szE r.when≤BIG
 acts:r.acts.length≤BIG
 to:∀ a∈r.acts,szE a.to≤BIG∧a.name.length≤BIG
structure WrS (m:SrcT):Prop where
 enums:m.enums.length≤BIG
 en:∀ e∈m.enums,e.name.length≤BIG∧e.vals.length≤BIG∧∀ v∈e.vals,v.length≤BIG
 vars:m.vars.length≤BIG
 de:∀ d∈m.vars,d.name.length≤BIG∧d.ty.length≤BIG∧d.begins.length≤BIG∧∀ x∈d.begins,szE x≤BIG
 procs:m.procs.length≤BIG
 pr:∀ p∈m.procs,p.name.length≤BIG∧p.rules.length≤BIG∧∀ r∈p.rules,WrR r
def RL:Nat:=33 * (WL+2)
theorem wS {r:RuleT}{l:List Nat}(h:JG r=some l)(w:WrR r):l.length≤RL:=by
 unfold JG at h;split at h
 ·rename_i hh;simp only [Option.some.injEq] at h;subst h;have h1:=Jb r.when (zC hh.1);have h2:=w.when;have:=XW (n:=WL) (xs:=r.acts.map QN) λx hx=>by
   obtain ⟨a,ha,rfl⟩:=Qbn.1 hx;exact UD (Qaz.1 hh.2.2.2 a ha) (w.to a ha).1
  rw [QaP] at this;have:=QaK (WL+2) hh.2.2.1;unfold RL;unfold BIG at h2;unfold WL at *;simp only [Qal,Qak,Qan];omega
 ·cases h
def Qq (p:ProcT):Option (List Nat):=if nm p.name=true∧p.rules.length≤32 then (match yo (p.rules.map JG) with | some t=>some ([112,114,111,99,101,115,115,32] ++ p.name ++ [32,123,10] ++ t ++ [125,10]) | none=>none) else none
def PRL:Nat:=33 * RL
theorem jfN {p:ProcT}{l:List Nat}(h:Qq p=some l)(w:∀ r∈p.rules,WrR r):l.length≤PRL:=by
 unfold Qq at h;split at h
 ·rename_i hh;cases hc:yo (p.rules.map JG) with
  | none=>rw [hc] at h; cases h
  | some t=>
   rw [hc] at h;simp only [Option.some.injEq] at h;subst h;have:=Qc hh.1;have h3:=J8 (n:=RL) (λl hl=>by
    obtain ⟨r,hr,he⟩:=Qbn.1 hl;exact wS he (w r hr)) hc
   rw [QaP] at h3;have:=QaK RL hh.2;unfold PRL;have:1000≤RL:=by unfold RL WL; omega
   simp only [Qal,Qak,Qan];omega
 ·cases h
def Q6 (m:SrcT):Option (List Nat):=
 if m.enums.length≤32∧m.vars.length≤32∧m.procs.length≤32 then (match yo (m.enums.map J6),yo (m.vars.map JI),yo (m.procs.map Qq) with
  | some a,some b,some c=>some (a ++ b ++ c)
  | _,_,_=>none) else none
theorem jm9 {m:SrcT}(h:yo (m.enums.map J6)=none):Q6 m=none:=by unfold Q6; rw [h]; split <;> rfl
theorem jm6 {m:SrcT}(h:yo (m.vars.map JI)=none):Q6 m=none:=by unfold Q6; rw [h]; split <;> (try split) <;> first | rfl | (rename_i h2 _ _ _; simp at *)
theorem jm7 {m:SrcT}(h:yo (m.procs.map Qq)=none):Q6 m=none:=by unfold Q6; rw [h]; split <;> (try split) <;> first | rfl | (simp at *)
theorem jm8 {m:SrcT}{a b c:List Nat}(h0:m.enums.length≤32∧m.vars.length≤32∧m.procs.length≤32)(h1:yo (m.enums.map J6)=some a)(h2:yo (m.vars.map JI)=some b)(h3:yo (m.procs.map Qq)=some c):Q6 m=some (a ++ b ++ c):=by
 unfold Q6; rw [if_pos h0,h1,h2,h3]
def jdm (o:Option (List Nat)):AV:=.tup [.str (o.getD []),.int .i64 (if o.isSome=true then 0 else 141)]
theorem G0.tupw {s:St}{a:List Nat}{n:Int}{u:AV}(h:u=.tup [.str a,.int .i64 n]):G0 u (.tup [.str a,.int .i64 n]) s:=by
 subst h;exact FzD.tup (.cons (.pc rfl) (.cons (.pc rfl) .nil))
end Go.Sy
end
noncomputable section
set_option maxRecDepth 100000
namespace Go.Sy
open Go.Ev Go.Proofs
variable {base:Bs}
set_option maxHeartbeats 4000000 in
theorem jhb (hb:NB base)(m:SrcT)(w:WrS m):Tot base 18 [.agg (srE m)] (jdm (Q6 m)):=by
 refine hb.tot ?_ (by first | rfl | simp [pa,pc,qQ,J9,wT,Jr,zP,U9,US]) rfl;have we:=w.enums;have wv:=w.vars;have wp:=w.procs;have c1:((32:Int)<(m.enums.length:Int))=(32<m.enums.length):=by rw [eq_iff_iff]; omega
 have c2:((32:Int)<(m.vars.length:Int))=(32<m.vars.length):=by rw [eq_iff_iff]; omega
 have c3:((32:Int)<(m.procs.length:Int))=(32<m.procs.length):=by rw [eq_iff_iff]; omega
 unfold BIG at we wv wp;have hbad:∀ s:St,Q6 m=none->G0 (jdm (Q6 m)) (.tup [.str [],.int .i64 141]) s:=λs h=>G0.tupw (by rw [h]; rfl);refine jJ x18 (by rfl) (hb.pur 18 1 (by decide)) ?_;simp only [y18,jm,Qai,Qaj,Qag,Qah];unfold z18;try dsimp only [oo,oO,ot,oT,os,og,oh,oc,on,oN,oP]
 repeat' (first | (apply jc <;> intro _) | simp (disch:=first | exact dzE | fail) only [c1,c2,c3,jd,jo,jQ,jn,jf,qp,qm,rzZ,Qab,Qac,Qad,Qaa,Qae])
 ·exact hbad _ (by rw [Q6,if_neg (by omega)])
 ·exact hbad _ (by rw [Q6,if_neg (by omega)])
 ·exact hbad _ (by rw [Q6,if_neg (by omega)])
 have l1:m.enums.length≤32:=by omega
 have l2:m.vars.length≤32:=by omega
 have l3:m.procs.length≤32:=by omega
 clear c1 c2 c3;refine qt m.enums.length (λk L s=>∃ a,yo ((m.enums.take k).map J6)=some a∧Has L 1 (.ptr 0 0)∧Has L 4 (.str a)∧Has L 36 (.lst m.enums.length (fl enE m.enums))∧1≤s.nx∧Cl s 0 (srE m)) (by first | assumption | omega) (by decide) (by simp (disch:=decide) only [je,jb]) (by simp (disch:=decide) only [je,jb]) ?_ (λk L s v h=>by simp (disch:=decide) only [jb]; exact h) (λk L s v h=>by simp (disch:=decide) only [jb]; exact h) (λk L s hk hI hi hn=>?_) (λL s hI=>?_)
 ·refine ⟨[],rfl,?_⟩;simp (disch:=decide) only [Qam,Qaq,z0,z1,je,jb,and_true,true_and];exact ⟨by (first | omega | (simp only [jg,jh,jl,jj,ji]; first | done | omega)),by first | exact Cl.new _ _ | (first | exact cyE | fail)⟩
 ·obtain ⟨a,ha,i1,i4,iL,n0,C0⟩:=hI;obtain ⟨w1,w2,w3⟩:=w.en _ (Qax hk);have E:=jld hb m.enums[k] w1 w2 w3;have al:a.length≤32 * 2000:=by
   have:=J8 (n:=2000) (λl hl=>by
    obtain ⟨e,_,he⟩:=Qbn.1 hl;exact WV he) ha
   rw [QaP,QaJ] at this;have:=QaK 2000 (show min k m.enums.length≤32 by omega);omega
  have good:=λb=>@vp _ J6 m.enums k hk a b ha;have bad:=@Wb _ J6 m.enums k hk;have el:=@WV m.enums[k];cases ho:J6 m.enums[k] with
  | none=>
   rw [ho] at E;have E:Tot base 54 [.agg (enE m.enums[k])] (.tup [.str [],.bool false]):=E
   (have zz:=aI @Qal.{0} C0.r; (repeat' (first | (apply jc <;> intro _) | simp (disch:=first | exact yZ | fail) only [ja i1,ja i4,ja iL,ja hi,ja hn,E,C0.q,Qal,C0.r,jd,jo,jQ,jn,jf,qp,qm,rzZ,Qab,Qac,Qad,Qaa,Qae])); (all_goals (clear zz)))
   exact hbad _ (jm9 (bad ho))
  | some b=>
   rw [ho] at E;have E:Tot base 54 [.agg (enE m.enums[k])] (.tup [.str b,.bool true]):=E;have bl:=el ho
   (have zz:=aI @Qal.{0} C0.r; (repeat' (first | (apply jc <;> intro _) | simp (disch:=first | exact yZ | fail) only [ja i1,ja i4,ja iL,ja hi,ja hn,E,C0.q,Qal,C0.r,jd,jo,jQ,jn,jf,qp,qm,rzZ,Qab,Qac,Qad,Qaa,Qae])); (all_goals (clear zz)))
   refine ⟨⟨a ++ b,good b ho,?_⟩,?_⟩
   ·simp (disch:=decide) only [Qam,Qaq,z0,z1,je,jb,and_true,true_and,i1,iL];exact ⟨by (first | omega | (simp only [jg,jh,jl,jj,ji]; first | done | omega)),by (first | exact C0 | (simp (disch:=first | assumption | decide | (first | omega | (simp only [jg,jh,jl,jj,ji]; first | done | omega))) only [jz,jA,jr,jO,jC,jE,jF,jG]; exact C0))⟩
   ·simp (disch:=decide) only [Qam,Qaq,z0,z1,je,jb,and_true,true_and,hi,hn]
 ·obtain ⟨a,ha,i1,i4,iL,n0,C0⟩:=hI;rw [QaD] at ha;have al:a.length≤32 * 2000:=by
   have:=J8 (n:=2000) (λl hl=>by
    obtain ⟨e,_,he⟩:=Qbn.1 hl;exact WV he) ha
   rw [QaP] at this;have:=QaK 2000 l1;omega
  (have zz:=C0.r; (repeat' (first | (apply jc <;> intro _) | simp (disch:=first | exact yZ | fail) only [ja i1,ja i4,ja iL,C0.q,C0.r,jd,jo,jQ,jn,jf,qp,qm,rzZ,Qab,Qac,Qad,Qaa,Qae])); (all_goals (clear zz)))
  refine qt m.vars.length (λk L s=>∃ b,yo ((m.vars.take k).map JI)=some b∧Has L 1 (.ptr 0 0)∧Has L 4 (.str (a ++ b))∧Has L 54 (.lst m.vars.length (fl qc m.vars))∧1≤s.nx∧Cl s 0 (srE m)) (by first | assumption | omega) (by decide) (by simp (disch:=decide) only [je,jb]) (by simp (disch:=decide) only [je,jb]) ?_ (λk L s v h=>by simp (disch:=decide) only [jb]; exact h) (λk L s v h=>by simp (disch:=decide) only [jb]; exact h) (λk L s hk hI hi hn=>?_) (λL s hI=>?_)
  ·refine ⟨[],rfl,?_⟩;simp (disch:=decide) only [Qam,Qaq,z0,z1,je,jb,and_true,true_and,i1,i4,Qbi];exact ⟨n0,C0⟩
  ·clear i1 i4 iL n0 C0;obtain ⟨b,hb2,i1,i4,iL,n0,C0⟩:=hI;obtain ⟨w1,w2,_,w3⟩:=w.de _ (Qax hk);have E:=jle hb m.vars[k] w1 w2 w3;have bl:b.length≤32 * WL:=by
    have:=J8 (n:=WL) (λl hl=>by
     obtain ⟨e,he1,he⟩:=Qbn.1 hl;exact WZ he (w.de e (QbR he1)).2.2.2) hb2
    rw [QaP,QaJ] at this;have:=QaK WL (show min k m.vars.length≤32 by omega);omega
   have good:=λc=>@vp _ JI m.vars k hk b c hb2;have bad:=@Wb _ JI m.vars k hk;have el:=λl (h:JI m.vars[k]=some l)=>WZ h w3;unfold WL at *;cases ho:JI m.vars[k] with
   | none=>
    rw [ho] at E;have E:Tot base 55 [.agg (qc m.vars[k])] (.tup [.str [],.bool false]):=E
    (have zz:=aI @Qal.{0} C0.r; (repeat' (first | (apply jc <;> intro _) | simp (disch:=first | exact yZ | fail) only [ja i1,ja i4,ja iL,ja hi,ja hn,E,C0.q,Qal,C0.r,jd,jo,jQ,jn,jf,qp,qm,rzZ,Qab,Qac,Qad,Qaa,Qae])); (all_goals (clear zz)))
    exact hbad _ (jm6 (bad ho))
   | some c=>
    rw [ho] at E;have E:Tot base 55 [.agg (qc m.vars[k])] (.tup [.str c,.bool true]):=E;have cl:=el _ ho
    (have zz:=aI @Qal.{0} C0.r; (repeat' (first | (apply jc <;> intro _) | simp (disch:=first | exact yZ | fail) only [ja i1,ja i4,ja iL,ja hi,ja hn,E,C0.q,Qal,C0.r,jd,jo,jQ,jn,jf,qp,qm,rzZ,Qab,Qac,Qad,Qaa,Qae])); (all_goals (clear zz)))
    refine ⟨⟨b ++ c,good c ho,?_⟩,?_⟩
    ·simp (disch:=decide) only [Qam,Qaq,z0,z1,je,jb,and_true,true_and,i1,iL,QaW];exact ⟨by (first | omega | (simp only [jg,jh,jl,jj,ji]; first | done | omega)),by (first | exact C0 | (simp (disch:=first | assumption | decide | (first | omega | (simp only [jg,jh,jl,jj,ji]; first | done | omega))) only [jz,jA,jr,jO,jC,jE,jF,jG]; exact C0))⟩
    ·simp (disch:=decide) only [Qam,Qaq,z0,z1,je,jb,and_true,true_and,hi,hn]
  ·clear i1 i4 iL n0 C0;obtain ⟨b,hb2,i1,i4,iL,n0,C0⟩:=hI;rw [QaD] at hb2;have bl:b.length≤32 * WL:=by
    have:=J8 (n:=WL) (λl hl=>by
     obtain ⟨e,he1,he⟩:=Qbn.1 hl;exact WZ he (w.de e he1).2.2.2) hb2
    rw [QaP] at this;have:=QaK WL l2;omega
   (have zz:=C0.r; (repeat' (first | (apply jc <;> intro _) | simp (disch:=first | exact yZ | fail) only [ja i1,ja i4,ja iL,C0.q,C0.r,jd,jo,jQ,jn,jf,qp,qm,rzZ,Qab,Qac,Qad,Qaa,Qae])); (all_goals (clear zz)))
   refine qt m.procs.length (λk L s=>∃ c,yo ((m.procs.take k).map Qq)=some c∧Has L 1 (.ptr 0 0)∧Has L 4 (.str (a ++ b ++ c))∧Has L 72 (.lst m.procs.length (fl prE m.procs))∧1≤s.nx) (by first | assumption | omega) (by decide) (by simp (disch:=decide) only [je,jb]) (by simp (disch:=decide) only [je,jb]) ?_ (λk L s v h=>by simp (disch:=decide) only [jb]; exact h) (λk L s v h=>by simp (disch:=decide) only [jb]; exact h) (λko Lo so hko hIo hio hno=>?_) (λLo so hIo=>?_)
   ·refine ⟨[],rfl,?_⟩;simp (disch:=decide) only [Qam,Qaq,z0,z1,je,jb,and_true,true_and,i1,i4,Qbi];exact n0
   ·clear i1 i4 iL n0 C0;obtain ⟨c,hc,i1,i4,iL,n0⟩:=hIo;obtain ⟨w1,w2,w3⟩:=w.pr _ (Qax hko);have NM:=YN hb m.procs[ko].name (by unfold BIG at *; omega);have cl:c.length≤32 * PRL:=by
     have:=J8 (n:=PRL) (λl hl=>by
      obtain ⟨e,he1,he⟩:=Qbn.1 hl;exact jfN he (w.pr e (QbR he1)).2.2) hc
     rw [QaP,QaJ] at this;have:=QaK PRL (show min ko m.procs.length≤32 by omega);omega
    have good:=λd=>@vp _ Qq m.procs ko hko c d hc;have bad:=λh=>jm7 (@Wb _ Qq m.procs ko hko h);obtain ⟨x,hx⟩:∃ x,x=m.procs[ko]:=⟨_,rfl⟩;rw [←hx] at good bad w1 w2 w3 NM;have pb:Qq x=none->∀ s:St,G0 (jdm (Q6 m)) (.tup [.str [],.int .i64 141]) s:=λh s=>hbad s (bad h);have c4:((32:Int)<(x.rules.length:Int))=(32<x.rules.length):=by rw [eq_iff_iff]; omega
    have WLv:WL=17592186044516:=rfl;have RLv:RL=33 * (WL+2):=rfl;have PLv:PRL=33 * RL:=rfl;unfold BIG at w1 w2;by_cases hnm:nm x.name=true
    ·have hnl:=Qc hnm;rw [hnm] at NM
     (have zz:=@Qal.{0}; (repeat' (first | (apply jc <;> intro _) | simp (disch:=first | exact yZ | fail) only [ja i1,ja i4,ja iL,ja hio,ja hno,NM,c4,←hx,Qal,jd,jo,jQ,jn,jf,qp,qm,rzZ,Qab,Qac,Qad,Qaa,Qae])); (all_goals (clear zz)))
     ·exact pb (by rw [Qq,if_neg (by omega)]) _
     have l5:x.rules.length≤32:=by omega
     refine qt x.rules.length (λj L s=>∃ t,yo ((x.rules.take j).map JG)=some t∧Has L 1 (.ptr 0 0)∧Has L 4 (.str (a ++ b ++ c ++ ([112,114,111,99,101,115,115,32] ++ x.name ++ [32,123,10] ++ t)))∧Has L 72 (.lst m.procs.length (fl prE m.procs))∧Has L 73 (.int .i64 (m.procs.length:Int))∧Has L 74 (.int .i64 (ko:Int))∧Has L 95 (.lst x.rules.length (fl ruE x.rules))∧1≤s.nx) (by first | assumption | omega) (by decide) (by simp (disch:=decide) only [je,jb]) (by simp (disch:=decide) only [je,jb]) ?_ (λk L s v h=>by simp (disch:=decide) only [jb]; exact h) (λk L s v h=>by simp (disch:=decide) only [jb]; exact h) (λk L s hk hI hi hn=>?_) (λL s hI=>?_)
     ·refine ⟨[],rfl,?_⟩;simp (disch:=decide) only [Qam,Qaq,z0,z1,je,jb,and_true,true_and,i1,i4,iL,hno,hio,Qbi,QaW,Qaw,QaG]
      (first | omega | (simp only [jg,jh,jl,jj,ji]; first | done | omega))
     ·clear i1 i4 iL n0 hio hno;obtain ⟨t,ht,i1,i4,iL,hno,hio,i95,n0⟩:=hI;have wr:=w3 _ (Qax hk);have E:=jk8 hb x.rules[k] wr.when wr.acts wr.to;have tl:t.length≤32 * RL:=by
       have:=J8 (n:=RL) (λl hl=>by
        obtain ⟨e,he1,he⟩:=Qbn.1 hl;exact wS he (w3 e (QbR he1))) ht
       rw [QaP,QaJ] at this;have:=QaK RL (show min k x.rules.length≤32 by omega);omega
      have good2:=λd=>@vp _ JG x.rules k hk t d ht;have bad2:=@Wb _ JG x.rules k hk;have el:=λl (h:JG x.rules[k]=some l)=>wS h wr;cases ho:JG x.rules[k] with
      | none=>
       rw [ho] at E;have E:Tot base 57 [.agg (ruE x.rules[k])] (.tup [.str [],.bool false]):=E
       (have zz:=@Qal.{0}; (repeat' (first | (apply jc <;> intro _) | simp (disch:=first | exact yZ | fail) only [ja i1,ja i4,ja iL,ja i95,ja hi,ja hn,E,Qal,jd,jo,jQ,jn,jf,qp,qm,rzZ,Qab,Qac,Qad,Qaa,Qae])); (all_goals (clear zz)))
       exact pb (by rw [Qq,if_pos ⟨hnm,l5⟩,bad2 ho]) _
      | some d=>
       rw [ho] at E;have E:Tot base 57 [.agg (ruE x.rules[k])] (.tup [.str d,.bool true]):=E;have dl:=el _ ho
       (have zz:=@Qal.{0}; (repeat' (first | (apply jc <;> intro _) | simp (disch:=first | exact yZ | fail) only [ja i1,ja i4,ja iL,ja i95,ja hi,ja hn,E,Qal,jd,jo,jQ,jn,jf,qp,qm,rzZ,Qab,Qac,Qad,Qaa,Qae])); (all_goals (clear zz)))
       refine ⟨⟨t ++ d,good2 d ho,?_⟩,?_⟩
       ·simp (disch:=decide) only [Qam,Qaq,z0,z1,je,jb,and_true,true_and,i1,iL,hno,hio,i95,QaW,Qaw,QaG]
        (first | omega | (simp only [jg,jh,jl,jj,ji]; first | done | omega))
       ·simp (disch:=decide) only [Qam,Qaq,z0,z1,je,jb,and_true,true_and,hi,hn]
     ·clear i1 i4 iL n0 hio hno;obtain ⟨t,ht,i1,i4,iL,hno,hio,i95,n0⟩:=hI;rw [QaD] at ht;have tl:t.length≤32 * RL:=by
       have:=J8 (n:=RL) (λl hl=>by
        obtain ⟨e,he1,he⟩:=Qbn.1 hl;exact wS he (w3 e he1)) ht
       rw [QaP] at this;have:=QaK RL l5;omega
      have hpw:Qq x=some ([112,114,111,99,101,115,115,32] ++ x.name ++ [32,123,10] ++ t ++ [125,10]):=by rw [Qq,if_pos ⟨hnm,l5⟩,ht]
      (have zz:=@Qal.{0}; (repeat' (first | (apply jc <;> intro _) | simp (disch:=first | exact yZ | fail) only [ja i1,ja i4,ja iL,Qal,jd,jo,jQ,jn,jf,qp,qm,rzZ,Qab,Qac,Qad,Qaa,Qae])); (all_goals (clear zz)))
      refine ⟨⟨_,good _ hpw,?_⟩,?_⟩
      ·simp (disch:=decide) only [Qam,Qaq,z0,z1,je,jb,and_true,true_and,i1,iL,QaW,Qaw,QaG]
       (first | omega | (simp only [jg,jh,jl,jj,ji]; first | done | omega))
      ·simp (disch:=decide) only [Qam,Qaq,z0,z1,je,jb,and_true,true_and,hio,hno]
    ·have hnf:nm x.name=false:=by simpa using hnm
     rw [hnf] at NM
     (have zz:=@Qal.{0}; (repeat' (first | (apply jc <;> intro _) | simp (disch:=first | exact yZ | fail) only [ja i1,ja i4,ja iL,ja hio,ja hno,NM,←hx,Qal,jd,jo,jQ,jn,jf,qp,qm,rzZ,Qab,Qac,Qad,Qaa,Qae])); (all_goals (clear zz)))
     exact pb (by rw [Qq,if_neg (by rintro ⟨h6,_⟩; exact hnm h6)]) _
   ·clear i1 i4 iL n0 C0;obtain ⟨c,hc,i1,i4,iL,n0⟩:=hIo;rw [QaD] at hc;repeat' (first | (apply jc <;> intro _) | simp (disch:=first | exact dzE | fail) only [ja i1,ja i4,jd,jo,jQ,jn,jf,qp,qm,rzZ,Qab,Qac,Qad,Qaa,Qae])
    exact G0.tupw (by rw [jm8 ⟨l1,l2,l3⟩ ha hb2 hc]; rfl)
end Go.Sy
end
noncomputable section
namespace Go.Sy
open Go.Ev Go.RowKit
def frW (w:World):Inj:=⟨λ_=>.unborn,λB=>match w.heap[B]? with | some (.cells c _ _)=>some c.toList | _=>none⟩
theorem jpr {w:World}{B:Nat}{vs:List Value}(h:(frW w).g B=some vs):∃ c e f,w.heap[B]? = some (.cells c e f)∧c.toList=vs:=by
 unfold frW at h;dsimp only at h;split at h
 ·rename_i c e f hc;exact ⟨c,e,f,hc,by simpa using h⟩
 ·cases h
theorem jnT {w:World}{B:Nat}{c:Array Value}{e:TypeId}{f:Nat×Nat}(h:w.heap[B]? = some (.cells c e f)):(frW w).g B=some c.toList:=by
 unfold frW;dsimp only;rw [h]
theorem jkl {w:World}(hg:∃ te pe,w.cell? ⟨2,0,none⟩=some (.iface te pe)):Sim (frW w) st0.h st0.nx w:=
 ⟨λb B S e=>(by cases e),λb e=>(by cases e),λb b' B S S' e=>(by cases e),λb e=>absurd rfl e,⟨hg,λb S e=>by cases e⟩,λB vs h=>by
  obtain ⟨c,e,f,h1,h2⟩:=jpr h;exact ⟨⟨c,e,f.1,f.2,h1,h2,trivial⟩,λb S e=>by cases e⟩⟩
section
variable {H:Type} {enc:TypeId×Value->H} {P:Program} {w:World} {base:Nat} {sp:Nat->Bool} {held:Bool}
mutual
def bulkD:DataW H->Nat
 | .lit (.string bytes)=>bytes.length+1
 | .lit _=>1
 | .nil=>1
 | .ptr d=>bulkD d+1
 | .slice elems spare=>bulkDs elems+bulkDs spare+1
 | .agg parts=>bulkDs parts+1
 | .iface _ d=>bulkD d+1
 | .map entries=>1
 | .held _=>1
def bulkDs:List (DataW H)->Nat
 | []=>0
 | d :: r=>bulkD d+bulkDs r
end
def Reads (H:Type)(P:Program)(w:World)(N:Nat)(t:TypeId){α:Type}(z:Nat)(en:α->List AV)(sz:α->Nat):Prop:=
 P.cellsOf t=z∧(∀ x,(en x).length=z)∧∀ (enc:TypeId×Value->H) (base:Nat) (sp:Nat->Bool) (held:Bool) (fuel:Nat) (cs:List Value) (d:DataW H) (ps:List MemPlace),fuel≤N->DataW.trod enc P w base sp held fuel t cs=some (d,ps)->∃ x:α,VRs (frW w) (en x) cs∧(en x).all AV.cell=true∧sz x≤bulkD d
def jqu (k:IntKind)(n:{n:Int // (Lit.int k n).wf=true}):List AV:=[.int k n.1]
theorem Jx {N:Nat}{t:TypeId}{k:IntKind}(hu:P.underlying t=some (.int k))(hc:P.cellsOf t=1):Reads H P w N t 1 (jqu k) (λ_=>1):=
 ⟨hc,λ_=>rfl,λenc base sp held fuel cs d ps hN h=>by
  obtain ⟨n,rfl,hx,hw⟩:=DataW.trod_int hu h;cases hx;exact ⟨⟨n,hw⟩,⟨_,_,rfl,rfl,rfl⟩,rfl,Qap _⟩⟩
theorem wh {N:Nat}{t:TypeId}(hu:P.underlying t=some .string)(hc:P.cellsOf t=1):Reads H P w N t 1 (λs:List Nat=>[.str s]) (λs=>s.length+1):=
 ⟨hc,λ_=>rfl,λenc base sp held fuel cs d ps hN h=>by
  obtain ⟨s,rfl,hx,hm⟩:=DataW.trod_string hu h;cases hx;refine ⟨s.data.toList.map UInt8.toNat,⟨_,_,rfl,⟨s,rfl,rfl⟩,rfl⟩,rfl,?_⟩;show (s.data.toList.map UInt8.toNat).length+1≤_;rw [bulkD,QaP]; exact Qap _⟩
theorem jcX {w:World}{a:Addr}{v:Value}(h:w.cell? a=some v):a.spot=none∧∃ c e f,w.heap[a.block]? = some (.cells c e f)∧c[a.off]? = some v:=by
 unfold World.cell? at h;split at h
 ·rename_i c e f hc;split at h
  ·cases h
  ·rename_i hs;exact ⟨by simpa using hs,c,e,f,hc,h⟩
 ·cases h
theorem jbg {w:World}{base:Nat}{a:Addr}{n:Nat}{cs:List Value}(h:w.cells? base a n=some cs):cs.length=n∧∀ i,i<n->w.cell? (a.add i)=some (cs.getD i undef):=by
 unfold World.cells? at h;split at h
 ·refine ⟨by simpa using mapM_some_length h,λi hi=>?_⟩;have:=mapM_some_get h i i (by simp [hi]);rw [this];have hl:cs.length=n:=by simpa using mapM_some_length h
  simp [QaL,show i<cs.length by omega]
 ·cases h
theorem jbz (b o n:Nat):(Addr.add ⟨b,o,none⟩ n)=⟨b,o+n,none⟩:=by
 unfold Addr.add;split
 ·rename_i h; subst h; rfl
 ·rfl
theorem Qy {N:Nat}{α:Type}{t e:TypeId}{z:Nat}{en:α->List AV}{sz:α->Nat}(hz0:0<z)(hu:P.underlying t=some (.slice e))(hc:P.cellsOf t=1)(R:Reads H P w N e z en sz)(hpos:∀ x,1≤sz x) :
  Reads H P w (N+1) t 1 (λxs:List α=>[.lst xs.length (fl en xs)]) (λxs=>(xs.map sz).sum+1):=
 ⟨hc,λ_=>rfl,λenc base sp held fuel cs d ps hN h=>by
  obtain ⟨hz,hl,hr⟩:=R;rcases DataW.trod_slice hu h with ⟨rfl,hx⟩ | ⟨a,len,cap,elems,rest,n,rfl,rfl,hx,hb,hle,hm,hel,h1,_,_⟩
  ·cases hx;exact ⟨[],⟨_,_,rfl,⟨none,0,rfl,Qap _,rfl,λh=>absurd h (Qcb 0)⟩,rfl⟩,rfl,by simp [bulkD]⟩
  ·rw [hz] at h1;have each:∀ i,i<len->∃ ci d q,w.cells? base (a.add (i * z)) z=some ci∧DataW.trod enc P w base sp held n e ci=some (d,q)∧elems[i]? = some (d,q):=λi hi=>by
    have:=h1 i hi;rw [Qav (by omega)] at this;obtain ⟨ci,e1,e2⟩:=Option.bind_eq_some_iff.1 this;exact ⟨ci,elems[i].1,elems[i].2,e1,e2,Qav (by omega)⟩
   have all:∀ m,m≤len->∃ xs:List α,xs.length=m∧(xs.map sz).sum≤bulkDs ((elems.take m).map (·.1))∧∀ i (hi:i<xs.length),∃ ci,w.cells? base (a.add (i * z)) z=some ci∧VRs (frW w) (en xs[i]) ci∧(en xs[i]).all AV.cell=true:=by
    intro m;induction m with
    | zero=>exact λ_=>⟨[],rfl,by simp [bulkDs],λi hi=>by simp at hi⟩
    | succ m ih=>
     intro hm;obtain ⟨xs,e1,e2,e3⟩:=ih (by omega);obtain ⟨ci,d,q,f1,f2,f3⟩:=each m (by omega);obtain ⟨x,g1,g2,g3⟩:=hr enc base sp held n ci d q (by omega) f2;have app:∀ (l r:List (DataW H)),bulkDs (l ++ r)=bulkDs l+bulkDs r:=λl r=>by
      induction l with
      | nil=>simp [bulkDs]
      | cons y l ih=>rw [Qaw,bulkDs,bulkDs,ih,QbO]
     refine ⟨xs ++ [x],by simp [e1],?_,λi hi=>?_⟩
     ·rw [Qcg,f3];simp only [Option.toList,Qcf,Qai,Qaj,List.sum_append,List.sum_cons,List.sum_nil,app,bulkDs];omega
     ·by_cases hlt:i<xs.length
      ·rw [List.getElem_append_left hlt]; exact e3 i hlt
      ·have:i=m:=by simp at hi; omega
       subst this;rw [List.getElem_append_right (by omega)];simp only [e1,Nat.sub_self,Qbo];exact ⟨ci,f1,g1,g2⟩
   obtain ⟨xs,e1,e2,e3⟩:=all len (Qap _);have hcell:(fl en xs).all AV.cell=true:=by
    rw [Qaz];intro v hv;obtain ⟨y,hy,hv⟩:=List.mem_flatMap.1 hv;obtain ⟨i,hi,rfl⟩:=QbH.1 hy;obtain ⟨_,_,_,h5⟩:=e3 i hi;exact Qaz.1 h5 v hv
   refine ⟨xs,⟨_,_,rfl,?_,rfl⟩,rfl,?_⟩
   ·refine ⟨some a,cap,by rw [e1],by omega,hcell,λhpos=>?_⟩;obtain ⟨c0,f0,_,_⟩:=e3 0 hpos;have f1:=(jbg f0).2 0 hz0;rw [Qbu] at f1;have z0:(a.add 0).add 0=a:=rfl;rw [z0] at f1;obtain ⟨hs,c,ty,fr,hB,_⟩:=jcX f1;obtain ⟨B,o,s⟩:=a;dsimp only at hs hB;subst hs;have cell:∀ i (hi:i<xs.length) j,j<z->∃ v,c[o+(i * z+j)]? = some v∧VR (frW w) ((en xs[i]).getD j .bad) v:=λi hi j hj=>by
     obtain ⟨ci,g0,g1,g2⟩:=e3 i hi;have g3:=(jbg g0).2 j hj;rw [jbz,jbz] at g3;obtain ⟨_,c',ty',fr',hB',g4⟩:=jcX g3;dsimp only at hB' g4;rw [hB] at hB';cases hB';refine ⟨_,by rw [←QbO]; exact g4,?_⟩;exact g1.get j (by rw [hl]; exact hj)
    have bound:o+xs.length * z≤c.size:=by
     have hl1:0<xs.length:=hpos;obtain ⟨v,g,_⟩:=cell (xs.length - 1) (by omega) (z - 1) (by omega);have:=(QaA.1 g).1;have e:(xs.length - 1) * z+(z - 1)+1=xs.length * z:=by
      have:(xs.length - 1+1) * z=(xs.length - 1) * z+z:=Qbv _ _;rw [show xs.length - 1+1=xs.length by omega] at this;omega
     omega
    have hfl:=zU hl xs;have hcs:c.toList.length=c.size:=Qay;refine ⟨B,o,c.toList,rfl,jnT hB,by rw [hfl,hcs]; exact bound,?_⟩;show VRs (frW w) _ _;refine VRs.of_get (by rw [hfl,QaJ,QaQ,hcs]; omega) λi hi=>?_;rw [hfl] at hi;have hj:i % z<z:=Nat.mod_lt _ hz0;have hq:i / z<xs.length:=Nat.div_lt_of_lt_mul (by rw [Nat.mul_comm]; exact hi);have hiz:i / z * z+i % z=i:=by rw [Nat.mul_comm]; exact Nat.div_add_mod i z
    obtain ⟨v,g1,g2⟩:=cell (i / z) hq (i % z) hj;rw [hiz] at g1;have g3:=wz hl hq hj;rw [hiz] at g3;rw [g3];have g4:((c.toList.drop o).take (fl en xs).length).getD i undef=v:=by
     rw [hfl];simp only [QaL,QbM,hi,if_true,Qcc,QbE,g1,Qba]
    rw [g4];exact g2
   ·cases hx;rw [bulkD];have:elems.take len=elems:=by rw [←hel]; exact QaD
    rw [this] at e2;show (xs.map sz).sum+1≤bulkDs (elems.map (·.1))+bulkDs (rest.map (·.1))+1;omega⟩
theorem Reads.mono {N M:Nat}{α:Type}{t:TypeId}{z:Nat}{en:α->List AV}{sz:α->Nat}(R:Reads H P w N t z en sz)(h:M≤N):Reads H P w M t z en sz:=
 ⟨R.1,R.2.1,λenc base sp held fuel cs d ps hN=>R.2.2 enc base sp held fuel cs d ps (by omega)⟩
theorem qD {ι:Inj}{a b:List AV}{cs:List Value}{o z:Nat}(h1:VRs ι a ((cs.drop o).take z))(h2:VRs ι b (cs.drop (o+z))):VRs ι (a ++ b) (cs.drop o):=by
 have:=VRs.append h1 h2;rwa [←QbV,Qby] at this
theorem Yx {ι:Inj}{cs:List Value}{o:Nat}(h:cs.length=o):VRs ι [] (cs.drop o):=by
 rw [List.drop_eq_nil_of_le (by omega)]; rfl
end
end Go.Sy
end
noncomputable section
set_option maxRecDepth 100000
namespace Go.Sy
open Go.Ev Go.RowKit Go.Proofs
variable {H:Type} {w:World}
theorem ce2:Tryz.prog.cellsOf 2=1:=by kernel_rfl
theorem ce3:Tryz.prog.cellsOf 3=1:=by kernel_rfl
theorem ce9:Tryz.prog.cellsOf 9=1:=by kernel_rfl
theorem joq:Tryz.prog.cellsOf 23=1:=by kernel_rfl
theorem jop:Tryz.prog.cellsOf 24=1:=by kernel_rfl
theorem joo:Tryz.prog.cellsOf 25=1:=by kernel_rfl
theorem jon:Tryz.prog.cellsOf 27=3:=by kernel_rfl
theorem jeo:Tryz.prog.cellsOf 35=1:=by kernel_rfl
theorem jbi:Tryz.prog.cellsOf 37=6:=by kernel_rfl
theorem jom:Tryz.prog.cellsOf 58=7:=by kernel_rfl
theorem jol:Tryz.prog.cellsOf 91=1:=by kernel_rfl
theorem jok:Tryz.prog.cellsOf 93=4:=by kernel_rfl
theorem joj:Tryz.prog.cellsOf 96=1:=by kernel_rfl
theorem joi:Tryz.prog.cellsOf 98=4:=by kernel_rfl
theorem jjX:Tryz.prog.cellsOf 101=1:=by kernel_rfl
theorem jjW:Tryz.prog.cellsOf 103=7:=by kernel_rfl
theorem jjV:Tryz.prog.cellsOf 105=9:=by kernel_rfl
theorem KI (x:Ex):1≤szE x:=by rw [Xa]; omega
theorem JC:∀ xs:List Ex,(xs.map szE).sum=yp xs
 | []=>rfl
 | x :: xs=>by rw [Qai,List.sum_cons,JC xs]; rfl
def szA (a:AsT):Nat:=a.name.length+szE a.to+1
def szR (r:RuleT):Nat:=szE r.when+(r.acts.map szA).sum+1
def szP (p:ProcT):Nat:=p.name.length+(p.rules.map szR).sum+1
def szV (v:List Nat):Nat:=v.length+1
def szN (e:EnumT):Nat:=e.name.length+(e.vals.map szV).sum+1
def szD (d:DeclT):Nat:=d.name.length+d.ty.length+yp d.begins+1
def szS (m:SrcT):Nat:=(m.enums.map szN).sum+(m.vars.map szD).sum+(m.procs.map szP).sum+1
theorem rd_ex:∀ N:Nat,Reads H Qaf w N 37 6 eE szE
 | 0=>⟨jbi,zJ,λenc base sp held fuel cs d ps hN h=>by
  have:fuel=0:=by omega
  subst this;simp [DataW.trod] at h⟩
 | N+1=>⟨jbi,zJ,λenc base sp held fuel cs d ps hN h=>by
  obtain ⟨xs,n,rfl,hx,hl,hlen,hf⟩:=DataW.trod_struct Tryz.underlying37 h;cases hx;rw [jbi] at hl
  match xs,hlen with
  | [y0,y1,y2,y3,y4,y5],_=>
   have h0:DataW.trod enc Qaf w base sp held n 3 ((cs.drop 0).take (Tryz.prog.cellsOf 3))=some y0:=hf 0 _ rfl;rw [ce3] at h0;obtain ⟨x0,v0,c0,s0⟩:=(Jx (N:=n) Tryz.underlying3 ce3).2.2 enc base sp held n _ y0.1 y0.2 (by omega) h0;have h1:DataW.trod enc Qaf w base sp held n 2 ((cs.drop 1).take (Tryz.prog.cellsOf 2))=some y1:=hf 1 _ rfl;rw [ce2] at h1;obtain ⟨x1,v1,c1,s1⟩:=(Jx (N:=n) Tryz.underlying2 ce2).2.2 enc base sp held n _ y1.1 y1.2 (by omega) h1;have h2:DataW.trod enc Qaf w base sp held n 9 ((cs.drop 2).take (Tryz.prog.cellsOf 9))=some y2:=hf 2 _ rfl;rw [ce9] at h2;obtain ⟨x2,v2,c2,s2⟩:=(wh (N:=n) Tryz.underlying9 ce9).2.2 enc base sp held n _ y2.1 y2.2 (by omega) h2;have h3:DataW.trod enc Qaf w base sp held n 35 ((cs.drop 3).take (Tryz.prog.cellsOf 35))=some y3:=hf 3 _ rfl;rw [jeo] at h3;obtain ⟨x3,v3,c3,s3⟩:=(Qy (by decide) Tryz.underlying35 jeo ((rd_ex N).mono (M:=N) (Qap _)) KI).2.2 enc base sp held n _ y3.1 y3.2 (by omega) h3;have h4:DataW.trod enc Qaf w base sp held n 3 ((cs.drop 4).take (Tryz.prog.cellsOf 3))=some y4:=hf 4 _ rfl;rw [ce3] at h4;obtain ⟨x4,v4,c4,s4⟩:=(Jx (N:=n) Tryz.underlying3 ce3).2.2 enc base sp held n _ y4.1 y4.2 (by omega) h4;have h5:DataW.trod enc Qaf w base sp held n 3 ((cs.drop 5).take (Tryz.prog.cellsOf 3))=some y5:=hf 5 _ rfl;rw [ce3] at h5;obtain ⟨x5,v5,c5,s5⟩:=(Jx (N:=n) Tryz.underlying3 ce3).2.2 enc base sp held n _ y5.1 y5.2 (by omega) h5;refine ⟨.mk x0.1 x1.1 x2 x3 x4.1 x5.1,?_,?_,?_⟩
   ·rw [qv];exact qD (z:=1) v0 (qD (z:=1) v1 (qD (z:=1) v2 (qD (z:=1) v3 (qD (z:=1) v4 (qD (z:=1) v5 (Yx (by rw [hl])))))))
   ·rw [qv];first | rfl | (simp_all [Qbj,AV.cell]; done) | (simp [AV.cell]; done)
   ·simp only [Qai,Qaj,bulkD,bulkDs,Xa,Ex.kids,Ex.name];skip
    first | omega | (simp only [JC] at *; omega)⟩
theorem jgy:∀ xs:List (List Nat),fl (λs=>[AV.str s]) xs=xs.map AV.str
 | []=>rfl
 | x :: xs=>by rw [Qj,jgy xs]; rfl
theorem jko (N:Nat):Reads H Qaf w (N+1) 91 1 (λxs:List (List Nat)=>[.lst xs.length (xs.map AV.str)]) (λxs=>(xs.map szV).sum+1):=by
 have h:Reads H Qaf w (N+1) 91 1 (λxs:List (List Nat)=>[.lst xs.length (fl (λs=>[AV.str s]) xs)]) (λxs=>(xs.map szV).sum+1):=Qy (by decide) Tryz.underlying91 jol (wh (N:=N) Tryz.underlying9 ce9) (λx=>Qbq _);simpa only [jgy] using h
theorem jkr (N:Nat):Reads H Qaf w N 93 4 enE szN:=
 ⟨jok,JH,λenc base sp held fuel cs d ps hN h=>by
  obtain ⟨xs,n,rfl,hx,hl,hlen,hf⟩:=DataW.trod_struct Tryz.underlying93 h;cases hx;rw [jok] at hl
  match xs,hlen with
  | [y0,y1,y2,y3],_=>
   have h0:DataW.trod enc Qaf w base sp held n 9 ((cs.drop 0).take (Tryz.prog.cellsOf 9))=some y0:=hf 0 _ rfl;rw [ce9] at h0;obtain ⟨x0,v0,c0,s0⟩:=(wh (N:=n) Tryz.underlying9 ce9).2.2 enc base sp held n _ y0.1 y0.2 (by omega) h0;have h1:DataW.trod enc Qaf w base sp held n 91 ((cs.drop 1).take (Tryz.prog.cellsOf 91))=some y1:=hf 1 _ rfl;rw [jol] at h1;obtain ⟨x1,v1,c1,s1⟩:=(jko N).2.2 enc base sp held n _ y1.1 y1.2 (by omega) h1;have h2:DataW.trod enc Qaf w base sp held n 3 ((cs.drop 2).take (Tryz.prog.cellsOf 3))=some y2:=hf 2 _ rfl;rw [ce3] at h2;obtain ⟨x2,v2,c2,s2⟩:=(Jx (N:=n) Tryz.underlying3 ce3).2.2 enc base sp held n _ y2.1 y2.2 (by omega) h2;have h3:DataW.trod enc Qaf w base sp held n 3 ((cs.drop 3).take (Tryz.prog.cellsOf 3))=some y3:=hf 3 _ rfl;rw [ce3] at h3;obtain ⟨x3,v3,c3,s3⟩:=(Jx (N:=n) Tryz.underlying3 ce3).2.2 enc base sp held n _ y3.1 y3.2 (by omega) h3;refine ⟨⟨x0,x1,x2.1,x3.1⟩,?_,?_,?_⟩
   ·rw [VL];exact qD (z:=1) v0 (qD (z:=1) v1 (qD (z:=1) v2 (qD (z:=1) v3 (Yx (by rw [hl])))))
   ·rw [VL];first | rfl | (simp_all [Qbj,AV.cell]; done) | (simp [AV.cell]; done)
   ·simp only [Qai,Qaj,bulkD,bulkDs,szN];skip
    first | omega | (simp only [JC] at *; omega)⟩
theorem jks (N:Nat):Reads H Qaf w N 58 7 qc szD:=
 ⟨jom,Qk,λenc base sp held fuel cs d ps hN h=>by
  obtain ⟨xs,n,rfl,hx,hl,hlen,hf⟩:=DataW.trod_struct Tryz.underlying58 h;cases hx;rw [jom] at hl
  match xs,hlen with
  | [y0,y1,y2,y3,y4,y5,y6],_=>
   have h0:DataW.trod enc Qaf w base sp held n 9 ((cs.drop 0).take (Tryz.prog.cellsOf 9))=some y0:=hf 0 _ rfl;rw [ce9] at h0;obtain ⟨x0,v0,c0,s0⟩:=(wh (N:=n) Tryz.underlying9 ce9).2.2 enc base sp held n _ y0.1 y0.2 (by omega) h0;have h1:DataW.trod enc Qaf w base sp held n 9 ((cs.drop 1).take (Tryz.prog.cellsOf 9))=some y1:=hf 1 _ rfl;rw [ce9] at h1;obtain ⟨x1,v1,c1,s1⟩:=(wh (N:=n) Tryz.underlying9 ce9).2.2 enc base sp held n _ y1.1 y1.2 (by omega) h1;have h2:DataW.trod enc Qaf w base sp held n 2 ((cs.drop 2).take (Tryz.prog.cellsOf 2))=some y2:=hf 2 _ rfl;rw [ce2] at h2;obtain ⟨x2,v2,c2,s2⟩:=(Jx (N:=n) Tryz.underlying2 ce2).2.2 enc base sp held n _ y2.1 y2.2 (by omega) h2;have h3:DataW.trod enc Qaf w base sp held n 2 ((cs.drop 3).take (Tryz.prog.cellsOf 2))=some y3:=hf 3 _ rfl;rw [ce2] at h3;obtain ⟨x3,v3,c3,s3⟩:=(Jx (N:=n) Tryz.underlying2 ce2).2.2 enc base sp held n _ y3.1 y3.2 (by omega) h3;have h4:DataW.trod enc Qaf w base sp held n 35 ((cs.drop 4).take (Tryz.prog.cellsOf 35))=some y4:=hf 4 _ rfl;rw [jeo] at h4;obtain ⟨x4,v4,c4,s4⟩:=(Qy (by decide) Tryz.underlying35 jeo (rd_ex N) KI).2.2 enc base sp held n _ y4.1 y4.2 (by omega) h4;have h5:DataW.trod enc Qaf w base sp held n 3 ((cs.drop 5).take (Tryz.prog.cellsOf 3))=some y5:=hf 5 _ rfl;rw [ce3] at h5;obtain ⟨x5,v5,c5,s5⟩:=(Jx (N:=n) Tryz.underlying3 ce3).2.2 enc base sp held n _ y5.1 y5.2 (by omega) h5;have h6:DataW.trod enc Qaf w base sp held n 3 ((cs.drop 6).take (Tryz.prog.cellsOf 3))=some y6:=hf 6 _ rfl;rw [ce3] at h6;obtain ⟨x6,v6,c6,s6⟩:=(Jx (N:=n) Tryz.underlying3 ce3).2.2 enc base sp held n _ y6.1 y6.2 (by omega) h6;refine ⟨⟨x0,x1,x2.1,x3.1,x4,x5.1,x6.1⟩,?_,?_,?_⟩
   ·rw [Z7];exact qD (z:=1) v0 (qD (z:=1) v1 (qD (z:=1) v2 (qD (z:=1) v3 (qD (z:=1) v4 (qD (z:=1) v5 (qD (z:=1) v6 (Yx (by rw [hl]))))))))
   ·rw [Z7];first | rfl | (simp_all [Qbj,AV.cell]; done) | (simp [AV.cell]; done)
   ·simp only [Qai,Qaj,bulkD,bulkDs,szD];skip
    first | omega | (simp only [JC] at *; omega)⟩
theorem jpi (N:Nat):Reads H Qaf w N 105 9 asE szA:=
 ⟨jjV,Za,λenc base sp held fuel cs d ps hN h=>by
  obtain ⟨xs,n,rfl,hx,hl,hlen,hf⟩:=DataW.trod_struct Tryz.underlying105 h;cases hx;rw [jjV] at hl
  match xs,hlen with
  | [y0,y1,y2,y3],_=>
   have h0:DataW.trod enc Qaf w base sp held n 9 ((cs.drop 0).take (Tryz.prog.cellsOf 9))=some y0:=hf 0 _ rfl;rw [ce9] at h0;obtain ⟨x0,v0,c0,s0⟩:=(wh (N:=n) Tryz.underlying9 ce9).2.2 enc base sp held n _ y0.1 y0.2 (by omega) h0;have h1:DataW.trod enc Qaf w base sp held n 37 ((cs.drop 1).take (Tryz.prog.cellsOf 37))=some y1:=hf 1 _ rfl;rw [jbi] at h1;obtain ⟨x1,v1,c1,s1⟩:=((rd_ex N)).2.2 enc base sp held n _ y1.1 y1.2 (by omega) h1;have h2:DataW.trod enc Qaf w base sp held n 3 ((cs.drop 7).take (Tryz.prog.cellsOf 3))=some y2:=hf 2 _ rfl;rw [ce3] at h2;obtain ⟨x2,v2,c2,s2⟩:=(Jx (N:=n) Tryz.underlying3 ce3).2.2 enc base sp held n _ y2.1 y2.2 (by omega) h2;have h3:DataW.trod enc Qaf w base sp held n 3 ((cs.drop 8).take (Tryz.prog.cellsOf 3))=some y3:=hf 3 _ rfl;rw [ce3] at h3;obtain ⟨x3,v3,c3,s3⟩:=(Jx (N:=n) Tryz.underlying3 ce3).2.2 enc base sp held n _ y3.1 y3.2 (by omega) h3;refine ⟨⟨x0,x1,x2.1,x3.1⟩,?_,?_,?_⟩
   ·rw [asE];exact qD (z:=1) v0 (qD (z:=6) v1 (qD (z:=1) v2 (qD (z:=1) v3 (Yx (by rw [hl])))))
   ·rw [asE];first | rfl | (simp_all [Qbj,AV.cell]; done) | (simp [AV.cell]; done)
   ·simp only [Qai,Qaj,bulkD,bulkDs,szA];skip
    first | omega | (simp only [JC] at *; omega)⟩
theorem jkp (N:Nat):Reads H Qaf w N 103 7 ruE szR:=
 ⟨jjW,ZC,λenc base sp held fuel cs d ps hN h=>by
  obtain ⟨xs,n,rfl,hx,hl,hlen,hf⟩:=DataW.trod_struct Tryz.underlying103 h;cases hx;rw [jjW] at hl
  match xs,hlen with
  | [y0,y1],_=>
   have h0:DataW.trod enc Qaf w base sp held n 37 ((cs.drop 0).take (Tryz.prog.cellsOf 37))=some y0:=hf 0 _ rfl;rw [jbi] at h0;obtain ⟨x0,v0,c0,s0⟩:=((rd_ex N)).2.2 enc base sp held n _ y0.1 y0.2 (by omega) h0;have h1:DataW.trod enc Qaf w base sp held n 101 ((cs.drop 6).take (Tryz.prog.cellsOf 101))=some y1:=hf 1 _ rfl;rw [jjX] at h1;obtain ⟨x1,v1,c1,s1⟩:=(Qy (by decide) Tryz.underlying101 jjX (jpi N) (λx=>Qbq _)).2.2 enc base sp held n _ y1.1 y1.2 (by omega) h1;refine ⟨⟨x0,x1⟩,?_,?_,?_⟩
   ·rw [ruE];exact qD (z:=6) v0 (qD (z:=1) v1 (Yx (by rw [hl])))
   ·rw [ruE];first | rfl | (simp_all [Qbj,AV.cell]; done) | (simp [AV.cell]; done)
   ·simp only [Qai,Qaj,bulkD,bulkDs,szR];skip
    first | omega | (simp only [JC] at *; omega)⟩
theorem jkq (N:Nat):Reads H Qaf w N 98 4 prE szP:=
 ⟨joi,wV,λenc base sp held fuel cs d ps hN h=>by
  obtain ⟨xs,n,rfl,hx,hl,hlen,hf⟩:=DataW.trod_struct Tryz.underlying98 h;cases hx;rw [joi] at hl
  match xs,hlen with
  | [y0,y1,y2,y3],_=>
   have h0:DataW.trod enc Qaf w base sp held n 9 ((cs.drop 0).take (Tryz.prog.cellsOf 9))=some y0:=hf 0 _ rfl;rw [ce9] at h0;obtain ⟨x0,v0,c0,s0⟩:=(wh (N:=n) Tryz.underlying9 ce9).2.2 enc base sp held n _ y0.1 y0.2 (by omega) h0;have h1:DataW.trod enc Qaf w base sp held n 96 ((cs.drop 1).take (Tryz.prog.cellsOf 96))=some y1:=hf 1 _ rfl;rw [joj] at h1;obtain ⟨x1,v1,c1,s1⟩:=(Qy (by decide) Tryz.underlying96 joj (jkp N) (λx=>Qbq _)).2.2 enc base sp held n _ y1.1 y1.2 (by omega) h1;have h2:DataW.trod enc Qaf w base sp held n 3 ((cs.drop 2).take (Tryz.prog.cellsOf 3))=some y2:=hf 2 _ rfl;rw [ce3] at h2;obtain ⟨x2,v2,c2,s2⟩:=(Jx (N:=n) Tryz.underlying3 ce3).2.2 enc base sp held n _ y2.1 y2.2 (by omega) h2;have h3:DataW.trod enc Qaf w base sp held n 3 ((cs.drop 3).take (Tryz.prog.cellsOf 3))=some y3:=hf 3 _ rfl;rw [ce3] at h3;obtain ⟨x3,v3,c3,s3⟩:=(Jx (N:=n) Tryz.underlying3 ce3).2.2 enc base sp held n _ y3.1 y3.2 (by omega) h3;refine ⟨⟨x0,x1,x2.1,x3.1⟩,?_,?_,?_⟩
   ·rw [Vq];exact qD (z:=1) v0 (qD (z:=1) v1 (qD (z:=1) v2 (qD (z:=1) v3 (Yx (by rw [hl])))))
   ·rw [Vq];first | rfl | (simp_all [Qbj,AV.cell]; done) | (simp [AV.cell]; done)
   ·simp only [Qai,Qaj,bulkD,bulkDs,szP];skip
    first | omega | (simp only [JC] at *; omega)⟩
theorem rd_src (N:Nat):Reads H Qaf w N 27 3 srE szS:=
 ⟨jon,Zz,λenc base sp held fuel cs d ps hN h=>by
  obtain ⟨xs,n,rfl,hx,hl,hlen,hf⟩:=DataW.trod_struct Tryz.underlying27 h;cases hx;rw [jon] at hl
  match xs,hlen with
  | [y0,y1,y2],_=>
   have h0:DataW.trod enc Qaf w base sp held n 23 ((cs.drop 0).take (Tryz.prog.cellsOf 23))=some y0:=hf 0 _ rfl;rw [joq] at h0;obtain ⟨x0,v0,c0,s0⟩:=(Qy (by decide) Tryz.underlying23 joq (jkr N) (λx=>Qbq _)).2.2 enc base sp held n _ y0.1 y0.2 (by omega) h0;have h1:DataW.trod enc Qaf w base sp held n 24 ((cs.drop 1).take (Tryz.prog.cellsOf 24))=some y1:=hf 1 _ rfl;rw [jop] at h1;obtain ⟨x1,v1,c1,s1⟩:=(Qy (by decide) Tryz.underlying24 jop (jks N) (λx=>Qbq _)).2.2 enc base sp held n _ y1.1 y1.2 (by omega) h1;have h2:DataW.trod enc Qaf w base sp held n 25 ((cs.drop 2).take (Tryz.prog.cellsOf 25))=some y2:=hf 2 _ rfl;rw [joo] at h2;obtain ⟨x2,v2,c2,s2⟩:=(Qy (by decide) Tryz.underlying25 joo (jkq N) (λx=>Qbq _)).2.2 enc base sp held n _ y2.1 y2.2 (by omega) h2;refine ⟨⟨x0,x1,x2⟩,?_,?_,?_⟩
   ·rw [Vi];exact qD (z:=1) v0 (qD (z:=1) v1 (qD (z:=1) v2 (Yx (by rw [hl]))))
   ·rw [Vi];first | rfl | (simp_all [Qbj,AV.cell]; done) | (simp [AV.cell]; done)
   ·simp only [Qai,Qaj,bulkD,bulkDs,szS];skip
    first | omega | (simp only [JC] at *; omega)⟩
end Go.Sy
end
noncomputable section
set_option maxRecDepth 100000
namespace Go.Sy
open Go.Ev Go.Proofs
def z24:XC:=(.seq (.ops [(oO 4 (.alloc [.nils,.nils,.nils])),(oO 5 (.alloc [(.int .i64 0),(.int .i64 0),(.str []),.nils,(.int .i64 0),(.int .i64 0)])),(oO 6 (.alloc [(.int .i64 0),(.int .i64 0),(.int .i64 0)]))]) (.seq (.ops [(ot 13 0),(oc 14 9 [(.t 13)]),(ot 12 14),(oo 15 (.ext (.t 12) 0)),(oo 16 (.ext (.t 12) 1)),(oO 7 (.alloc [.nils,.nils,.nils])),(oO 8 (.alloc [(.int .i64 0),(.int .i64 0),(.int .i64 0)])),(os (.st 3 (.t 7) (.t 15))),(os (.st 3 (.t 8) (.t 16)))]) (.seq (.seq (.ops [(oo 17 (.fad 0 (.t 8))),(oo 18 (.ld1 (.t 17))),(oO 19 (.bin .neq (.t 18) (.c (.int .i64 0))))]) (.cond (.t 19) (.seq (.dops [(oP (oo 20 (.build [.nils,.nils,.nils] []))),(oP (oo 21 (.build [(.int .i64 0),(.int .i64 0),(.str []),.nils,(.int .i64 0),(.int .i64 0)] []))),(⟨(oo 22 (.ldA 3 (.t 8))),(some (some (.t 8))),30,[]⟩,none),(⟨(os (.st 3 (.t 4) (.t 20))),(some none),0,[(0,30)]⟩,none),(⟨(os (.st 6 (.t 5) (.t 21))),(some none),0,[(1,30)]⟩,none),(⟨(os (.st 3 (.t 6) (.t 22))),(some none),0,[]⟩,none)]) .ret) .skip)) (.seq (.ops [(oo 24 (.ldA 3 (.t 7))),(oc 25 26 [(.t 24)]),(ot 23 25),(oo 26 (.ext (.t 23) 0)),(oo 27 (.ext (.t 23) 1)),(oO 9 (.alloc [.nils,.nils,.nils])),(os (.st 3 (.t 9) (.t 26))),(os (.st 3 (.t 8) (.t 27)))]) (.seq (.seq (.ops [(oo 28 (.fad 0 (.t 8))),(oo 29 (.ld1 (.t 28))),(oO 30 (.bin .neq (.t 29) (.c (.int .i64 0))))]) (.cond (.t 30) (.seq (.dops [(oP (oo 31 (.build [.nils,.nils,.nils] []))),(oP (oo 32 (.build [(.int .i64 0),(.int .i64 0),(.str []),.nils,(.int .i64 0),(.int .i64 0)] []))),(⟨(oo 33 (.ldA 3 (.t 8))),(some (some (.t 8))),30,[]⟩,none),(⟨(os (.st 3 (.t 4) (.t 31))),(some none),0,[(0,30)]⟩,none),(⟨(os (.st 6 (.t 5) (.t 32))),(some none),0,[(1,30)]⟩,none),(⟨(os (.st 3 (.t 6) (.t 33))),(some none),0,[]⟩,none)]) .ret) .skip)) (.seq (.ops [(ot 35 1),(oc 36 15 [(.t 35)]),(ot 34 36),(oo 37 (.ext (.t 34) 0)),(oo 38 (.ext (.t 34) 1)),(oO 10 (.alloc [(.int .i64 0),(.int .i64 0),(.str []),.nils,(.int .i64 0),(.int .i64 0)])),(os (.st 6 (.t 10) (.t 37))),(os (.st 3 (.t 8) (.t 38)))]) (.seq (.seq (.ops [(oo 39 (.fad 0 (.t 8))),(oo 40 (.ld1 (.t 39))),(oO 41 (.bin .neq (.t 40) (.c (.int .i64 0))))]) (.cond (.t 41) (.seq (.dops [(oP (oo 42 (.build [.nils,.nils,.nils] []))),(oP (oo 43 (.build [(.int .i64 0),(.int .i64 0),(.str []),.nils,(.int .i64 0),(.int .i64 0)] []))),(⟨(oo 44 (.ldA 3 (.t 8))),(some (some (.t 8))),30,[]⟩,none),(⟨(os (.st 3 (.t 4) (.t 42))),(some none),0,[(0,30)]⟩,none),(⟨(os (.st 6 (.t 5) (.t 43))),(some none),0,[(1,30)]⟩,none),(⟨(os (.st 3 (.t 6) (.t 44))),(some none),0,[]⟩,none)]) .ret) .skip)) (.seq (.ops [(oo 46 (.ldA 3 (.t 9))),(oo 47 (.ldA 6 (.t 10))),(oc 48 25 [(.t 46),(.t 47)]),(ot 45 48),(oo 49 (.ext (.t 45) 0)),(oo 50 (.ext (.t 45) 1)),(oO 11 (.alloc [(.int .i64 0),(.int .i64 0),(.str []),.nils,(.int .i64 0),(.int .i64 0)])),(os (.st 6 (.t 11) (.t 49))),(os (.st 3 (.t 8) (.t 50)))]) (.seq (.seq (.ops [(oo 51 (.fad 0 (.t 8))),(oo 52 (.ld1 (.t 51))),(oO 53 (.bin .neq (.t 52) (.c (.int .i64 0))))]) (.cond (.t 53) (.seq (.dops [(oP (oo 54 (.build [.nils,.nils,.nils] []))),(oP (oo 55 (.build [(.int .i64 0),(.int .i64 0),(.str []),.nils,(.int .i64 0),(.int .i64 0)] []))),(⟨(oo 56 (.ldA 3 (.t 8))),(some (some (.t 8))),30,[]⟩,none),(⟨(os (.st 3 (.t 4) (.t 54))),(some none),0,[(0,30)]⟩,none),(⟨(os (.st 6 (.t 5) (.t 55))),(some none),0,[(1,30)]⟩,none),(⟨(os (.st 3 (.t 6) (.t 56))),(some none),0,[]⟩,none)]) .ret) .skip)) (.seq (.dops [(⟨(oo 57 (.ldA 3 (.t 9))),(some (some (.t 9))),51,[]⟩,none),(⟨(oo 58 (.ldA 6 (.t 11))),(some (some (.t 11))),37,[]⟩,none),(⟨(oo 59 (.ldA 3 (.t 8))),(some (some (.t 8))),30,[]⟩,none),(⟨(os (.st 3 (.t 4) (.t 57))),(some none),0,[(0,30),(1,37)]⟩,none),(⟨(os (.st 6 (.t 5) (.t 58))),(some none),0,[(1,30)]⟩,none),(⟨(os (.st 3 (.t 6) (.t 59))),(some none),0,[]⟩,none)]) .ret))))))))))
def y24:XF:=⟨[0,1],z24,[(.cA 4 3),(.cA 5 6),(.cA 6 3)]⟩
theorem x24:jD Qaf 24=some y24:=by kernel_rfl
def z25:XC:=(.seq (.ops [(oO 2 (.box (.t 0))),(oO 3 (.box (.t 1))),(oO 4 (.alloc [(.int .i64 0),(.int .i64 0),(.str []),.nils,(.int .i64 0),(.int .i64 0)])),(oO 5 (.alloc [(.int .i64 0),(.int .i64 0),(.int .i64 0)]))]) (.seq (.ops [⟨none,false,none,(.defer (.c (.fn 59 [])) [(.t 5)])⟩]) (.seq (.ops [(oo 7 (.ldA 3 (.t 2))),(oo 8 (.build [.nils,.nils,.nils,.nilm,(.bool false)] [((0,3),(.t 7)),((4,1),(.c (.bool true)))])),(oo 9 (.box (.t 8))),(oT 6 9)]) (.seq (.dops [(oP (ot 10 6)),(⟨(oo 11 (.ldA 6 (.t 3))),(some (some (.t 3))),37,[]⟩,none),(⟨(oc 12 60 [(.t 10),(.t 11),(.c (.int .i64 2)),(.c (.str []))]),(some none),0,[]⟩,(some [(on 12),⟨(oo 13 (.ldA 3 (.t 5))),(some (some (.t 5))),30,[(0,0)]⟩,oN,oN])),(⟨(oo 13 (.ldA 3 (.t 5))),(some (some (.t 5))),30,[(0,0)]⟩,none),(⟨(os (.st 6 (.t 4) (.t 12))),(some none),0,[(0,30)]⟩,none),(⟨(os (.st 3 (.t 5) (.t 13))),(some none),0,[]⟩,none)]) .ret))))
def y25:XF:=⟨[0,1],z25,[(.cA 4 6),(.cA 5 3)]⟩
theorem x25:jD Qaf 25=some y25:=by kernel_rfl
def jhr:XC:=(.seq (.dops [(oP (ot 65 4)),(oP (oo 66 (.nilc (.t 65)))),(oP (oo 67 (.fad 0 (.t 66)))),(⟨(oo 68 (.ldA 3 (.t 67))),(some (some (.t 67))),51,[]⟩,none),(⟨(oo 69 (.ldA 3 (.t 3))),(some (some (.t 3))),30,[]⟩,none),(⟨(os (.st 3 (.t 2) (.t 68))),(some none),0,[(0,30)]⟩,none),(⟨(os (.st 3 (.t 3) (.t 69))),(some none),0,[]⟩,none)]) .ret)
def jhs:XC:=(.seq (.seq (.ops [(oo 38 (.fad 2 (.t 1))),(oO 39 (.ld1 (.t 38))),(oO 40 (.len (.t 39))),(oO 41 (.mv (.c (.int .i64 0))))]) (.block 4 (.loop (.seq (.ops [(oO 42 (.bin .lss (.t 41) (.t 40)))]) (.seq (.cond (.t 42) .skip (.exit 4)) (.seq (.block 5 (.seq (.ops [(oo 43 (.idxS 4 (.t 39) (.t 41))),(oo 44 (.ldA 4 (.t 43))),(oO 10 (.alloc [(.str []),.nils,(.int .i64 0),(.int .i64 0)])),(os (.st 4 (.t 10) (.t 44)))]) (.seq (.ops [(ot 45 4),(oo 46 (.fad 0 (.t 10))),(oo 47 (.ld1 (.t 46))),(oo 48 (.fad 2 (.t 10))),(oo 49 (.ld1 (.t 48))),(oo 50 (.fad 3 (.t 10))),(oo 51 (.ld1 (.t 50))),(oc 52 63 [(.t 45),(.t 47),(.t 49),(.t 51)])]) (.seq (.ops [(oo 53 (.fad 1 (.t 10))),(oO 54 (.ld1 (.t 53))),(oO 55 (.len (.t 54))),(oO 56 (.mv (.c (.int .i64 0))))]) (.block 6 (.loop (.seq (.ops [(oO 57 (.bin .lss (.t 56) (.t 55)))]) (.seq (.cond (.t 57) .skip (.exit 6)) (.seq (.block 7 (.seq (.ops [(oo 58 (.idxS 7 (.t 54) (.t 56))),(oo 59 (.ldA 7 (.t 58))),(oO 12 (.alloc [(.int .i64 0),(.int .i64 0),(.str []),.nils,(.int .i64 0),(.int .i64 0),.nils])),(os (.st 7 (.t 12) (.t 59)))]) (.ops [(ot 60 4),(oo 61 (.ldA 7 (.t 12))),(oc 62 64 [(.t 60),(.t 61)])]))) (.ops [(oo 63 (.bin .add (.t 56) (.c (.int .i64 1)))),(oT 56 63)])))))))))) (.ops [(oo 64 (.bin .add (.t 41) (.c (.int .i64 1)))),(oT 41 64)]))))))) jhr)
def jht:XC:=(.seq (.seq (.ops [(oo 27 (.fad 1 (.t 1))),(oO 28 (.ld1 (.t 27))),(oO 29 (.len (.t 28))),(oO 30 (.mv (.c (.int .i64 0))))]) (.block 2 (.loop (.seq (.ops [(oO 31 (.bin .lss (.t 30) (.t 29)))]) (.seq (.cond (.t 31) .skip (.exit 2)) (.seq (.block 3 (.seq (.ops [(oo 32 (.idxS 7 (.t 28) (.t 30))),(oo 33 (.ldA 7 (.t 32))),(oO 8 (.alloc [(.str []),(.str []),(.int .i64 0),(.int .i64 0),.nils,(.int .i64 0),(.int .i64 0)])),(os (.st 7 (.t 8) (.t 33)))]) (.ops [(ot 34 4),(oo 35 (.ldA 7 (.t 8))),(oc 36 62 [(.t 34),(.t 35)])]))) (.ops [(oo 37 (.bin .add (.t 30) (.c (.int .i64 1)))),(oT 30 37)]))))))) jhs)
def jhu:XC:=(.seq (.seq (.ops [(oo 16 (.fad 0 (.t 1))),(oO 17 (.ld1 (.t 16))),(oO 18 (.len (.t 17))),(oO 19 (.mv (.c (.int .i64 0))))]) (.block 0 (.loop (.seq (.ops [(oO 20 (.bin .lss (.t 19) (.t 18)))]) (.seq (.cond (.t 20) .skip (.exit 0)) (.seq (.block 1 (.seq (.ops [(oo 21 (.idxS 4 (.t 17) (.t 19))),(oo 22 (.ldA 4 (.t 21))),(oO 6 (.alloc [(.str []),.nils,(.int .i64 0),(.int .i64 0)])),(os (.st 4 (.t 6) (.t 22)))]) (.ops [(ot 23 4),(oo 24 (.ldA 4 (.t 6))),(oc 25 61 [(.t 23),(.t 24)])]))) (.ops [(oo 26 (.bin .add (.t 19) (.c (.int .i64 1)))),(oT 19 26)]))))))) jht)
def z26:XC:=(.seq (.ops [(oO 1 (.box (.t 0))),(oO 2 (.alloc [.nils,.nils,.nils])),(oO 3 (.alloc [(.int .i64 0),(.int .i64 0),(.int .i64 0)]))]) (.seq (.ops [⟨none,false,none,(.defer (.c (.fn 59 [])) [(.t 3)])⟩]) (.seq (.ops [(oo 13 .mkMap),(oo 14 (.build [.nils,.nils,.nils,.nilm,(.bool false)] [((3,1),(.t 13))])),(oo 15 (.box (.t 14))),(oT 4 15)]) jhu)))
def y26:XF:=⟨[0],z26,[(.cA 2 3),(.cA 3 3)]⟩
theorem x26:jD Qaf 26=some y26:=by kernel_rfl
def z33:XC:=(.seq (.ops [(oO 1 (.box (.t 0))),(oO 2 (.mv (.c (.int .i64 0))))]) (.seq (.ops [(oO 3 (.mv (.c (.int .u64 1))))]) (.seq (.seq (.ops [(oo 6 (.fad 0 (.t 1))),(oO 7 (.ld1 (.t 6))),(oO 8 (.len (.t 7))),(oO 9 (.mv (.c (.int .i64 0))))]) (.block 0 (.loop (.seq (.ops [(oO 10 (.bin .lss (.t 9) (.t 8)))]) (.seq (.cond (.t 10) .skip (.exit 0)) (.seq (.block 1 (.seq (.ops [(oo 11 (.idxS 7 (.t 7) (.t 9))),(oo 12 (.ldA 7 (.t 11))),(oO 5 (.alloc [(.str []),(.int .i64 0),(.str []),(.int .i64 0),(.int .i64 0),(.bool false),(.int .i64 0)])),(os (.st 7 (.t 5) (.t 12)))]) (.ops [(ot 13 3),(oo 14 (.fad 4 (.t 5))),(oo 15 (.ld1 (.t 14))),(oo 16 (.cvt .u64 (.t 15))),(oo 17 (.fad 3 (.t 5))),(oo 18 (.ld1 (.t 17))),(oo 19 (.cvt .u64 (.t 18))),(oo 20 (.bin .sub (.t 16) (.t 19))),(oo 21 (.bin .add (.t 20) (.c (.int .u64 1)))),(oo 22 (.bin .mul (.t 13) (.t 21))),(oT 3 22)]))) (.ops [(oo 23 (.bin .add (.t 9) (.c (.int .i64 1)))),(oT 9 23)]))))))) (.seq (.ops [(ot 24 3),(oo 25 (.cvt .i64 (.t 24))),(oT 2 25)]) .ret))))
def y33:XF:=⟨[0],z33,[(.t 2)]⟩
theorem x33:jD Qaf 33=some y33:=by kernel_rfl
def z60:XC:=(.seq (.ops [(oO 5 (.box (.t 1))),(oO 8 (.alloc [(.int .i64 0),(.int .i64 0),(.str []),.nils,(.int .i64 0),(.int .i64 0)]))]) (.seq (.ops [(ot 12 0),(oo 13 (.ldA 6 (.t 5))),(oc 14 97 [(.t 12),(.t 13)]),(ot 11 14),(oo 15 (.ext (.t 11) 0)),(oo 16 (.ext (.t 11) 1)),(oO 9 (.alloc [(.int .i64 0),(.int .i64 0),(.str []),.nils,(.int .i64 0),(.int .i64 0)])),(oO 10 (.alloc [(.int .i64 0),(.str []),(.int .i64 0),(.int .i64 0)])),(os (.st 6 (.t 9) (.t 15))),(os (.st 4 (.t 10) (.t 16)))]) (.seq (.seq (.ops [(oo 17 (.fad 0 (.t 10))),(oo 18 (.ld1 (.t 17))),(ot 19 2),(oo 20 (.bin .neq (.t 18) (.t 19))),(ot 21 20),(oh 22 21 (.fad 1 (.t 10))),(oh 23 21 (.ld1 (.t 22))),(oh 24 21 (.mv (.t 3))),(oh 25 21 (.strb .neq (.t 23) (.t 24))),(oO 26 (.pick (.t 21) (.c (.bool true)) (.t 25)))]) (.cond (.t 26) (.ops [(oo 27 (.fad 4 (.t 5))),(oo 28 (.ld1 (.t 27))),(oo 29 (.fad 5 (.t 5))),(oo 30 (.ld1 (.t 29))),(oc 31 98 [(.c (.int .i64 163)),(.t 28),(.t 30)])]) .skip)) (.seq (.ops [(oo 32 (.ldA 6 (.t 9))),(os (.st 6 (.t 8) (.t 32)))]) .ret))))
def y60:XF:=⟨[0,1,2,3],z60,[(.cA 8 6)]⟩
theorem x60:jD Qaf 60=some y60:=by kernel_rfl
def z61:XC:=(.seq (.ops [(oO 3 (.box (.t 1)))]) (.seq (.ops [(ot 6 0),(oo 7 (.fad 0 (.t 3))),(oo 8 (.ld1 (.t 7))),(oo 9 (.fad 2 (.t 3))),(oo 10 (.ld1 (.t 9))),(oo 11 (.fad 3 (.t 3))),(oo 12 (.ld1 (.t 11))),(oc 13 63 [(.t 6),(.t 8),(.t 10),(.t 12)])]) (.seq (.seq (.ops [(oo 14 (.fad 1 (.t 3))),(oO 15 (.ld1 (.t 14))),(oO 16 (.len (.t 15))),(oO 17 (.mv (.c (.int .i64 0))))]) (.block 0 (.loop (.seq (.ops [(oO 18 (.bin .lss (.t 17) (.t 16)))]) (.seq (.cond (.t 18) .skip (.exit 0)) (.seq (.block 1 (.seq (.ops [(oo 19 (.idxS 1 (.t 15) (.t 17))),(oo 20 (.ld1 (.t 19))),(oT 5 20)]) (.ops [(ot 21 0),(ot 22 5),(oo 23 (.fad 2 (.t 3))),(oo 24 (.ld1 (.t 23))),(oo 25 (.fad 3 (.t 3))),(oo 26 (.ld1 (.t 25))),(oc 27 63 [(.t 21),(.t 22),(.t 24),(.t 26)])]))) (.ops [(oo 28 (.bin .add (.t 17) (.c (.int .i64 1)))),(oT 17 28)]))))))) (.dops [(oP (ot 29 0)),(oP (ot 30 0)),(oP (oo 31 (.nilc (.t 30)))),(oP (oo 32 (.fad 0 (.t 31)))),(oP (oo 33 (.fad 1 (.t 32)))),(⟨(oo 34 (.ld1 (.t 33))),(some (some (.t 33))),23,[]⟩,none),(oP (oo 35 (.fad 0 (.t 3)))),(⟨(oo 36 (.ld1 (.t 35))),(some (some (.t 35))),9,[]⟩,none),(oP (oo 37 (.fad 1 (.t 3)))),(⟨(oo 38 (.ld1 (.t 37))),(some (some (.t 37))),91,[]⟩,none),(⟨(oc 39 99 [(.t 38)]),(some none),0,[(2,9),(4,23)]⟩,(some [(on 39),⟨(oo 40 (.fad 2 (.t 3))),none,0,[]⟩,⟨(oo 41 (.ld1 (.t 40))),(some (some (.t 40))),3,[(1,0)]⟩,⟨(oo 42 (.fad 3 (.t 3))),none,0,[]⟩,⟨(oo 43 (.ld1 (.t 42))),(some (some (.t 42))),3,[(3,0)]⟩,(on 44),(on 45),(on 46),(on 47),(on 48),(on 49),oN])),(oP (oo 40 (.fad 2 (.t 3)))),(⟨(oo 41 (.ld1 (.t 40))),(some (some (.t 40))),3,[(1,0)]⟩,none),(oP (oo 42 (.fad 3 (.t 3)))),(⟨(oo 43 (.ld1 (.t 42))),(some (some (.t 42))),3,[(3,0)]⟩,none),(oP (oo 44 (.build [(.str []),.nils,(.int .i64 0),(.int .i64 0)] [((0,1),(.t 36)),((1,1),(.t 39)),((2,1),(.t 41)),((3,1),(.t 43))]))),(oP (oo 45 (.buildS 1 4 [(.str []),.nils,(.int .i64 0),(.int .i64 0)] [((0,4),(.t 44))]))),(⟨(oo 46 (.app 4 56 (.t 34) (.t 45))),(some none),0,[]⟩,none),(oP (oo 47 (.nilc (.t 29)))),(oP (oo 48 (.fad 0 (.t 47)))),(oP (oo 49 (.fad 1 (.t 48)))),(⟨(os (.st 1 (.t 49) (.t 46))),(some none),0,[]⟩,none)]))))
def y61:XF:=⟨[0,1],z61,[]⟩
theorem x61:jD Qaf 61=some y61:=by kernel_rfl
def jhp:XC:=(.seq (.cops [((ot 139 0),none),((ot 140 0),none),((oo 141 (.nilc (.t 140))),none),((oo 142 (.fad 0 (.t 141))),none),((oo 143 (.fad 0 (.t 142))),none),((oo 144 (.ld1 (.t 143))),none),((oo 145 (.ldA 7 (.t 4))),none),((oo 146 (.buildS 1 7 [(.str []),(.int .i64 0),(.str []),(.int .i64 0),(.int .i64 0),(.bool false),(.int .i64 0)] [((0,7),(.t 145))])),none),((oo 147 (.app 7 72 (.t 144) (.t 146))),none),((oo 148 (.nilc (.t 139))),none),((oo 149 (.fad 0 (.t 148))),none),((oo 150 (.fad 0 (.t 149))),none),((os (.st 1 (.t 150) (.t 147))),none)]) (.seq (.ops [(ot 151 0),(oo 152 (.nilc (.t 151))),(oo 153 (.fad 0 (.t 152))),(oo 154 (.ldA 3 (.t 153))),(oc 155 33 [(.t 154)]),(oO 156 (.bin .gtr (.t 155) (.c (.int .i64 281474976710656))))]) (.cond (.t 156) (.ops [(oo 157 (.fad 5 (.t 3))),(oo 158 (.ld1 (.t 157))),(oo 159 (.fad 6 (.t 3))),(oo 160 (.ld1 (.t 159))),(oc 161 98 [(.c (.int .i64 165)),(.t 158),(.t 160)])]) .skip)))
def jc9:XC:=(.seq (.seq (.ops [(oo 92 (.fad 4 (.t 3))),(oO 93 (.ld1 (.t 92))),(oO 94 (.len (.t 93))),(oO 95 (.mv (.c (.int .i64 0))))]) (.block 1 (.loop (.seq (.ops [(oO 96 (.bin .lss (.t 95) (.t 94)))]) (.seq (.cond (.t 96) .skip (.exit 1)) (.seq (.block 2 (.seq (.ops [(oo 97 (.idxS 6 (.t 93) (.t 95))),(oo 98 (.ldA 6 (.t 97))),(oO 7 (.alloc [(.int .i64 0),(.int .i64 0),(.str []),.nils,(.int .i64 0),(.int .i64 0)])),(os (.st 6 (.t 7) (.t 98)))]) (.seq (.ops [(ot 99 0),(oo 100 (.ldA 6 (.t 7))),(oo 101 (.fad 1 (.t 4))),(oo 102 (.ld1 (.t 101))),(oo 103 (.fad 2 (.t 4))),(oo 104 (.ld1 (.t 103))),(oc 105 60 [(.t 99),(.t 100),(.t 102),(.t 104)]),(oO 8 (.alloc [(.int .i64 0),(.int .i64 0),(.str []),.nils,(.int .i64 0),(.int .i64 0)])),(os (.st 6 (.t 8) (.t 105)))]) (.seq (.seq (.ops [(oo 107 (.ldA 6 (.t 8))),(oc 108 102 [(.t 107)]),(ot 106 108),(oo 109 (.ext (.t 106) 0)),(oo 110 (.ext (.t 106) 1)),(oO 9 (.alloc [(.int .i64 0),(.int .i64 0),(.str []),.nils,(.int .i64 0),(.int .i64 0)])),(os (.st 6 (.t 9) (.t 109))),(oT 10 110)]) (.seq (.ops [(oT 111 10)]) (.cond (.t 111) (.ops [(oo 112 (.fad 4 (.t 9))),(oo 113 (.ld1 (.t 112))),(oo 114 (.fad 5 (.t 9))),(oo 115 (.ld1 (.t 114))),(oc 116 98 [(.c (.int .i64 161)),(.t 113),(.t 115)])]) .skip))) (.seq (.ops [(oo 117 (.ldA 6 (.t 8))),(oc 118 103 [(.t 117)]),(oo 119 (.fad 5 (.t 4))),(os (.st 1 (.t 119) (.c (.bool true)))),(oo 120 (.fad 6 (.t 4))),(os (.st 1 (.t 120) (.t 118)))]) (.seq (.ops [(oo 121 (.fad 6 (.t 4))),(oo 122 (.ld1 (.t 121))),(oo 123 (.fad 3 (.t 4))),(oo 124 (.ld1 (.t 123))),(oo 125 (.bin .lss (.t 122) (.t 124))),(ot 126 125),(oh 127 126 (.fad 6 (.t 4))),(oh 128 126 (.ld1 (.t 127))),(oh 129 126 (.fad 4 (.t 4))),(oh 130 126 (.ld1 (.t 129))),(oh 131 126 (.bin .gtr (.t 128) (.t 130))),(oO 132 (.pick (.t 126) (.c (.bool true)) (.t 131)))]) (.cond (.t 132) (.ops [(oo 133 (.fad 4 (.t 7))),(oo 134 (.ld1 (.t 133))),(oo 135 (.fad 5 (.t 7))),(oo 136 (.ld1 (.t 135))),(oc 137 98 [(.c (.int .i64 164)),(.t 134),(.t 136)])]) .skip))))))) (.ops [(oo 138 (.bin .add (.t 95) (.c (.int .i64 1)))),(oT 95 138)]))))))) jhp)
def z62:XC:=(.seq (.ops [(oO 3 (.box (.t 1)))]) (.seq (.ops [(ot 11 0),(oo 12 (.fad 0 (.t 3))),(oo 13 (.ld1 (.t 12))),(oo 14 (.fad 5 (.t 3))),(oo 15 (.ld1 (.t 14))),(oo 16 (.fad 6 (.t 3))),(oo 17 (.ld1 (.t 16))),(oc 18 63 [(.t 11),(.t 13),(.t 15),(.t 17)])]) (.seq (.ops [(oo 19 (.fad 0 (.t 3))),(oo 20 (.ld1 (.t 19))),(oo 21 (.fad 2 (.t 3))),(oo 22 (.ld1 (.t 21))),(oo 23 (.fad 3 (.t 3))),(oo 24 (.ld1 (.t 23))),(oo 25 (.build [(.str []),(.int .i64 0),(.str []),(.int .i64 0),(.int .i64 0),(.bool false),(.int .i64 0)] [((0,1),(.t 20)),((1,1),(.c (.int .i64 1))),((3,1),(.t 22)),((4,1),(.t 24))])),(oO 4 (.alloc [(.str []),(.int .i64 0),(.str []),(.int .i64 0),(.int .i64 0),(.bool false),(.int .i64 0)])),(os (.st 7 (.t 4) (.t 25)))]) (.seq (.ops [(ot 26 0),(oo 27 (.nilc (.t 26))),(oo 28 (.fad 0 (.t 27))),(oo 29 (.fad 1 (.t 28))),(oo 30 (.ld1 (.t 29))),(oo 31 (.fn 101 [(.t 3)])),(oc 32 100 [(.t 30),(.t 31)]),(oT 5 32)]) (.seq (.block 0 (.seq (.ops [(oo 34 (.fad 1 (.t 3))),(oo 35 (.ld1 (.t 34))),(oo 36 (.strb .eql (.t 35) (.c (.str [98,111,111,108])))),(oT 33 36)]) (.cond (.t 33) (.ops [(oo 37 (.fad 1 (.t 4))),(os (.st 1 (.t 37) (.c (.int .i64 2)))),(oo 38 (.fad 3 (.t 4))),(os (.st 1 (.t 38) (.c (.int .i64 0)))),(oo 39 (.fad 4 (.t 4))),(os (.st 1 (.t 39) (.c (.int .i64 1))))]) (.seq (.ops [(ot 41 5),(oo 42 (.bin .geq (.t 41) (.c (.int .i64 0)))),(oT 40 42)]) (.cond (.t 40) (.dops [(oP (oo 43 (.fad 1 (.t 3)))),(⟨(oo 44 (.ld1 (.t 43))),(some (some (.t 43))),9,[]⟩,none),(oP (ot 45 0)),(oP (oo 46 (.nilc (.t 45)))),(oP (oo 47 (.fad 0 (.t 46)))),(oP (oo 48 (.fad 1 (.t 47)))),(⟨(oo 49 (.ld1 (.t 48))),(some (some (.t 48))),23,[]⟩,none),(oP (ot 50 5)),(oP (oo 51 (.idxS 4 (.t 49) (.t 50)))),(oP (oo 52 (.fad 1 (.t 51)))),(⟨(oo 53 (.ld1 (.t 52))),(some (some (.t 52))),91,[]⟩,none),(oP (oo 54 (.len (.t 53)))),(oP (oo 55 (.bin .sub (.t 54) (.c (.int .i64 1))))),(oP (oo 56 (.fad 1 (.t 4)))),(⟨(os (.st 1 (.t 56) (.c (.int .i64 3)))),(some none),0,[(3,91),(7,23),(12,9)]⟩,none),(oP (oo 57 (.fad 2 (.t 4)))),(⟨(os (.st 1 (.t 57) (.t 44))),(some none),0,[(5,91),(9,23)]⟩,none),(oP (oo 58 (.fad 3 (.t 4)))),(⟨(os (.st 1 (.t 58) (.c (.int .i64 0)))),(some none),0,[(7,91),(11,23)]⟩,none),(oP (oo 59 (.fad 4 (.t 4)))),(⟨(os (.st 1 (.t 59) (.t 55))),(some none),0,[]⟩,none)]) (.seq (.ops [(oo 61 (.fad 1 (.t 3))),(oo 62 (.ld1 (.t 61))),(oo 63 (.strb .neq (.t 62) (.c (.str [])))),(oT 60 63)]) (.cond (.t 60) (.ops [(oo 64 (.fad 5 (.t 3))),(oo 65 (.ld1 (.t 64))),(oo 66 (.fad 6 (.t 3))),(oo 67 (.ld1 (.t 66))),(oc 68 98 [(.c (.int .i64 161)),(.t 65),(.t 67)])]) (.seq (.ops [(oo 70 (.fad 2 (.t 3))),(oo 71 (.ld1 (.t 70))),(oo 72 (.fad 3 (.t 3))),(oo 73 (.ld1 (.t 72))),(oo 74 (.bin .gtr (.t 71) (.t 73))),(oT 69 74)]) (.cond (.t 69) (.ops [(oo 75 (.fad 5 (.t 3))),(oo 76 (.ld1 (.t 75))),(oo 77 (.fad 6 (.t 3))),(oo 78 (.ld1 (.t 77))),(oc 79 98 [(.c (.int .i64 164)),(.t 76),(.t 78)])]) (.seq (.ops [(oo 81 (.fad 3 (.t 3))),(oo 82 (.ld1 (.t 81))),(oo 83 (.fad 2 (.t 3))),(oo 84 (.ld1 (.t 83))),(oo 85 (.bin .sub (.t 82) (.t 84))),(oo 86 (.bin .geq (.t 85) (.c (.int .i64 1024)))),(oT 80 86)]) (.cond (.t 80) (.ops [(oo 87 (.fad 5 (.t 3))),(oo 88 (.ld1 (.t 87))),(oo 89 (.fad 6 (.t 3))),(oo 90 (.ld1 (.t 89))),(oc 91 98 [(.c (.int .i64 165)),(.t 88),(.t 90)])]) .skip))))))))))) jc9)))))
def y62:XF:=⟨[0,1],z62,[]⟩
theorem x62:jD Qaf 62=some y62:=by kernel_rfl
def z63:XC:=(.seq (.seq (.ops [(ot 8 0),(oo 9 (.nilc (.t 8))),(oo 10 (.fad 3 (.t 9))),(oo 11 (.ld1 (.t 10))),(ot 12 1),(oo 13 (.look 114 (.t 11) (.t 12) false)),(oO 14 (.bin .gtr (.t 13) (.c (.int .i64 0))))]) (.cond (.t 14) (.ops [(ot 15 2),(ot 16 3),(oc 17 98 [(.c (.int .i64 162)),(.t 15),(.t 16)])]) .skip)) (.ops [(ot 18 0),(oo 19 (.nilc (.t 18))),(oo 20 (.fad 3 (.t 19))),(oo 21 (.ld1 (.t 20))),(ot 22 1),(oo 23 (.look 114 (.t 21) (.t 22) false)),(oo 24 (.bin .add (.t 23) (.c (.int .i64 1)))),(os (.upd 114 (.t 21) (.t 22) (.t 24)))]))
def y63:XF:=⟨[0,1,2,3],z63,[]⟩
theorem x63:jD Qaf 63=some y63:=by kernel_rfl
def jhn:XC:=(.cops [((ot 73 0),none),((ot 74 0),none),((oo 75 (.nilc (.t 74))),none),((oo 76 (.fad 0 (.t 75))),none),((oo 77 (.fad 2 (.t 76))),none),((oo 78 (.ld1 (.t 77))),none),((oo 79 (.ldA 7 (.t 4))),none),((oo 80 (.buildS 1 7 [(.int .i64 0),(.int .i64 0),(.str []),.nils,(.int .i64 0),(.int .i64 0),.nils] [((0,7),(.t 79))])),none),((oo 81 (.app 7 96 (.t 78) (.t 80))),none),((oo 82 (.nilc (.t 73))),none),((oo 83 (.fad 0 (.t 82))),none),((oo 84 (.fad 2 (.t 83))),none),((os (.st 1 (.t 84) (.t 81))),none)])
def jho:XC:=(.seq (.seq (.ops [(oo 13 (.fad 6 (.t 3))),(oO 14 (.ld1 (.t 13))),(oO 15 (.len (.t 14))),(oO 16 (.mv (.c (.int .i64 0))))]) (.block 0 (.loop (.seq (.ops [(oO 17 (.bin .lss (.t 16) (.t 15)))]) (.seq (.cond (.t 17) .skip (.exit 0)) (.seq (.block 1 (.seq (.ops [(ot 18 16),(oo 19 (.idxS 9 (.t 14) (.t 16))),(oo 20 (.ldA 9 (.t 19))),(oO 6 (.alloc [(.str []),(.int .i64 0),(.int .i64 0),(.str []),.nils,(.int .i64 0),(.int .i64 0),(.int .i64 0),(.int .i64 0)])),(oT 5 18),(os (.st 9 (.t 6) (.t 20)))]) (.seq (.ops [(ot 21 0),(oo 22 (.fad 0 (.t 6))),(oo 23 (.ld1 (.t 22))),(oc 24 104 [(.t 21),(.t 23)]),(oT 7 24)]) (.seq (.seq (.ops [(ot 25 7),(oO 26 (.bin .lss (.t 25) (.c (.int .i64 0))))]) (.cond (.t 26) (.ops [(oo 27 (.fad 7 (.t 6))),(oo 28 (.ld1 (.t 27))),(oo 29 (.fad 8 (.t 6))),(oo 30 (.ld1 (.t 29))),(oc 31 98 [(.c (.int .i64 161)),(.t 28),(.t 30)])]) .skip)) (.seq (.seq (.ops [(oo 32 (.fad 6 (.t 3))),(oo 33 (.ld1 (.t 32))),(ot 34 5),(oo 35 (.slS 9 (.t 33) none (some (.t 34)))),(oo 36 (.fn 106 [(.t 6)])),⟨(some 37),true,none,(.call (.c (.fn 105 [])) [(.t 35),(.t 36)])⟩]) (.cond (.t 37) (.ops [(oo 38 (.fad 7 (.t 6))),(oo 39 (.ld1 (.t 38))),(oo 40 (.fad 8 (.t 6))),(oo 41 (.ld1 (.t 40))),(oc 42 98 [(.c (.int .i64 162)),(.t 39),(.t 41)])]) .skip)) (.dops [(oP (oo 43 (.fad 6 (.t 4)))),(⟨(oo 44 (.ld1 (.t 43))),(some (some (.t 43))),59,[]⟩,none),(oP (ot 45 7)),(oP (ot 46 0)),(oP (oo 47 (.fad 1 (.t 6)))),(⟨(oo 48 (.ldA 6 (.t 47))),(some (some (.t 47))),37,[]⟩,none),(oP (ot 49 0)),(oP (oo 50 (.nilc (.t 49)))),(oP (oo 51 (.fad 0 (.t 50)))),(oP (oo 52 (.fad 0 (.t 51)))),(⟨(oo 53 (.ld1 (.t 52))),(some (some (.t 52))),48,[]⟩,none),(oP (ot 54 7)),(oP (oo 55 (.idxS 7 (.t 53) (.t 54)))),(oP (oo 56 (.fad 1 (.t 55)))),(⟨(oo 57 (.ld1 (.t 56))),(some (some (.t 56))),3,[]⟩,none),(oP (ot 58 0)),(oP (oo 59 (.nilc (.t 58)))),(oP (oo 60 (.fad 0 (.t 59)))),(oP (oo 61 (.fad 0 (.t 60)))),(⟨(oo 62 (.ld1 (.t 61))),(some (some (.t 61))),48,[]⟩,none),(oP (ot 63 7)),(oP (oo 64 (.idxS 7 (.t 62) (.t 63)))),(oP (oo 65 (.fad 2 (.t 64)))),(⟨(oo 66 (.ld1 (.t 65))),(some (some (.t 65))),9,[]⟩,none),(⟨(oc 67 60 [(.t 46),(.t 48),(.t 57),(.t 66)]),(some none),0,[(22,59)]⟩,(some [])),(oP (oo 68 (.build [(.int .i64 0),(.int .i64 0),(.int .i64 0),(.str []),.nils,(.int .i64 0),(.int .i64 0)] [((0,1),(.t 45)),((1,6),(.t 67))]))),(oP (oo 69 (.buildS 1 7 [(.int .i64 0),(.int .i64 0),(.int .i64 0),(.str []),.nils,(.int .i64 0),(.int .i64 0)] [((0,7),(.t 68))]))),(⟨(oo 70 (.app 7 80 (.t 44) (.t 69))),(some none),0,[]⟩,none),(oP (oo 71 (.fad 6 (.t 4)))),(⟨(os (.st 1 (.t 71) (.t 70))),(some none),0,[]⟩,none)])))))) (.ops [(oo 72 (.bin .add (.t 16) (.c (.int .i64 1)))),(oT 16 72)]))))))) jhn)
def z64:XC:=(.seq (.ops [(oO 3 (.box (.t 1)))]) (.seq (.ops [(ot 8 0),(oo 9 (.fad 0 (.t 3))),(oo 10 (.ldA 6 (.t 9))),(oc 11 60 [(.t 8),(.t 10),(.c (.int .i64 2)),(.c (.str []))]),(oo 12 (.build [(.int .i64 0),(.int .i64 0),(.str []),.nils,(.int .i64 0),(.int .i64 0),.nils] [((0,6),(.t 11))])),(oO 4 (.alloc [(.int .i64 0),(.int .i64 0),(.str []),.nils,(.int .i64 0),(.int .i64 0),.nils])),(os (.st 7 (.t 4) (.t 12)))]) jho))
def y64:XF:=⟨[0,1],z64,[]⟩
theorem x64:jD Qaf 64=some y64:=by kernel_rfl
def jhi:XC:=(.seq (.seq (.ops [(oT 151 15)]) (.cond (.t 151) (.ops [(oo 152 (.fad 4 (.t 3))),(oo 153 (.ld1 (.t 152))),(oo 154 (.fad 5 (.t 3))),(oo 155 (.ld1 (.t 154))),(oc 156 98 [(.c (.int .i64 163)),(.t 153),(.t 155)])]) .skip)) (.seq (.seq (.ops [(ot 157 14),(oO 158 (.bin .neq (.t 157) (.c (.int .i64 1))))]) (.cond (.t 158) (.seq (.ops [(oo 159 (.ldA 6 (.t 6))),(ot 160 14),(oo 161 (.build [(.int .i64 0),(.str []),(.int .i64 0),(.int .i64 0)] [((0,1),(.t 160)),((3,1),(.c (.int .i64 1)))])),(os (.st 6 (.t 4) (.t 159))),(os (.st 4 (.t 5) (.t 161)))]) .ret) .skip)) (.seq (.ops [(oo 163 (.fad 0 (.t 3))),(oo 164 (.ld1 (.t 163))),(ot 165 7),(oc 166 139 [(.t 164),(.t 165)]),(ot 162 166),(oo 167 (.ext (.t 162) 0)),(oo 168 (.ext (.t 162) 1)),(oT 18 167),(oT 19 168)]) (.seq (.seq (.ops [(ot 169 18),(oo 170 (.bin .lss (.t 169) (.c (.int .i64 (-(99999999+1)))))),(ot 171 170),(oh 172 171 (.mv (.t 19))),(oh 173 171 (.bin .gtr (.t 172) (.c (.int .i64 100000000)))),(oO 174 (.pick (.t 171) (.c (.bool true)) (.t 173)))]) (.cond (.t 174) (.ops [(oo 175 (.fad 4 (.t 3))),(oo 176 (.ld1 (.t 175))),(oo 177 (.fad 5 (.t 3))),(oo 178 (.ld1 (.t 177))),(oc 179 98 [(.c (.int .i64 165)),(.t 176),(.t 178)])]) .skip)) (.seq (.ops [(oo 180 (.ldA 6 (.t 6))),(ot 181 14),(ot 182 18),(ot 183 19),(oo 184 (.build [(.int .i64 0),(.str []),(.int .i64 0),(.int .i64 0)] [((0,1),(.t 181)),((2,1),(.t 182)),((3,1),(.t 183))])),(os (.st 6 (.t 4) (.t 180))),(os (.st 4 (.t 5) (.t 184)))]) .ret)))))
def jc7:XC:=(.seq (.seq (.ops [(oT 115 7),(oO 116 (.len (.t 115))),(oO 117 (.mv (.c (.int .i64 0))))]) (.block 3 (.loop (.seq (.ops [(oO 118 (.bin .lss (.t 117) (.t 116)))]) (.seq (.cond (.t 118) .skip (.exit 3)) (.seq (.block 4 (.seq (.ops [(oo 119 (.idxS 4 (.t 115) (.t 117))),(oo 120 (.ldA 4 (.t 119))),(oO 17 (.alloc [(.int .i64 0),(.str []),(.int .i64 0),(.int .i64 0)])),(os (.st 4 (.t 17) (.t 120)))]) (.cops [((ot 121 15),none),((ot 122 121),none),((oh 123 122 (.mv (.t 13))),none),((oh 124 122 (.bin .gtr (.t 123) (.c (.int .i64 0)))),none),((oh 125 122 (.mv (.t 124))),none),((og 126 125 (.fad 0 (.t 17))),none),((og 127 125 (.ld1 (.t 126))),none),((og 128 125 (.mv (.t 13))),none),((og 129 125 (.bin .neq (.t 127) (.t 128))),none),((oh 130 122 (.pick (.t 125) (.t 129) (.c (.bool false)))),none),((oo 131 (.pick (.t 122) (.c (.bool true)) (.t 130))),none),((ot 132 131),none),((oh 133 132 (.fad 0 (.t 17))),none),((oh 134 132 (.ld1 (.t 133))),none),((oh 135 132 (.mv (.t 7))),none),((oh 136 132 (.idxS 4 (.t 135) (.c (.int .i64 0)))),none),((oh 137 132 (.fad 0 (.t 136))),none),((oh 138 132 (.ld1 (.t 137))),none),((oh 139 132 (.bin .neq (.t 134) (.t 138))),none),((oo 140 (.pick (.t 132) (.c (.bool true)) (.t 139))),none),((ot 141 140),none),((oh 142 141 (.fad 1 (.t 17))),none),((oh 143 141 (.ld1 (.t 142))),none),((oh 144 141 (.mv (.t 7))),none),((oh 145 141 (.idxS 4 (.t 144) (.c (.int .i64 0)))),none),((oh 146 141 (.fad 1 (.t 145))),none),((oh 147 141 (.ld1 (.t 146))),none),((oh 148 141 (.strb .neq (.t 143) (.t 147))),none),((oo 149 (.pick (.t 141) (.c (.bool true)) (.t 148))),none),((oT 15 149),none)]))) (.ops [(oo 150 (.bin .add (.t 117) (.c (.int .i64 1)))),(oT 117 150)]))))))) jhi)
def jhj:XC:=(.seq (.ops [(ot 85 0),(ot 86 8),(oo 87 (.nilc (.t 85))),(oo 88 (.fad 4 (.t 87))),(os (.st 1 (.t 88) (.t 86)))]) (.seq (.ops [(oo 90 (.fad 0 (.t 3))),(oo 91 (.ld1 (.t 90))),(oc 92 137 [(.t 91)]),(ot 89 92),(oo 93 (.ext (.t 89) 0)),(oo 94 (.ext (.t 89) 1)),(oT 13 93),(oT 14 94)]) (.seq (.ops [(ot 95 7),(oo 96 (.len (.t 95))),(oo 97 (.bin .eql (.t 96) (.c (.int .i64 0)))),(ot 98 97),(oh 99 98 (.mv (.t 7))),(oh 100 98 (.len (.t 99))),(oh 101 98 (.bin .gtr (.t 100) (.c (.int .i64 2)))),(oo 102 (.pick (.t 98) (.c (.bool true)) (.t 101))),(ot 103 102),(oh 104 103 (.fad 0 (.t 3))),(oh 105 103 (.ld1 (.t 104))),⟨(some 106),false,(some (103,false)),(.call (.c (.fn 138 [])) [(.t 105)])⟩,(oh 107 103 (.mv (.t 106))),(og 108 107 (.mv (.t 0))),(og 109 107 (.nilc (.t 108))),(og 110 107 (.fad 4 (.t 109))),(og 111 107 (.ld1 (.t 110))),(og 112 107 (.un .not (.t 111))),(oh 113 103 (.pick (.t 107) (.t 112) (.c (.bool false)))),(oo 114 (.pick (.t 103) (.c (.bool true)) (.t 113))),(oT 15 114)]) jc7)))
def jc8:XC:=(.seq (.seq (.ops [(oo 61 (.fad 3 (.t 3))),(oO 62 (.ld1 (.t 61))),(oO 63 (.len (.t 62))),(oO 64 (.mv (.c (.int .i64 0))))]) (.block 1 (.loop (.seq (.ops [(oO 65 (.bin .lss (.t 64) (.t 63)))]) (.seq (.cond (.t 65) .skip (.exit 1)) (.seq (.block 2 (.seq (.ops [(oo 66 (.idxS 6 (.t 62) (.t 64))),(oo 67 (.ldA 6 (.t 66))),(oO 10 (.alloc [(.int .i64 0),(.int .i64 0),(.str []),.nils,(.int .i64 0),(.int .i64 0)])),(os (.st 6 (.t 10) (.t 67)))]) (.seq (.ops [(ot 69 0),(oo 70 (.ldA 6 (.t 10))),(oc 71 97 [(.t 69),(.t 70)]),(ot 68 71),(oo 72 (.ext (.t 68) 0)),(oo 73 (.ext (.t 68) 1)),(oO 11 (.alloc [(.int .i64 0),(.int .i64 0),(.str []),.nils,(.int .i64 0),(.int .i64 0)])),(oO 12 (.alloc [(.int .i64 0),(.str []),(.int .i64 0),(.int .i64 0)])),(os (.st 6 (.t 11) (.t 72))),(os (.st 4 (.t 12) (.t 73)))]) (.seq (.ops [(oo 74 (.fad 3 (.t 6))),(oo 75 (.ld1 (.t 74))),(oo 76 (.ldA 6 (.t 11))),(oo 77 (.buildS 1 6 [(.int .i64 0),(.int .i64 0),(.str []),.nils,(.int .i64 0),(.int .i64 0)] [((0,6),(.t 76))])),(oo 78 (.app 6 72 (.t 75) (.t 77))),(oo 79 (.fad 3 (.t 6))),(os (.st 1 (.t 79) (.t 78)))]) (.ops [(ot 80 7),(oo 81 (.ldA 4 (.t 12))),(oo 82 (.buildS 1 4 [(.int .i64 0),(.str []),(.int .i64 0),(.int .i64 0)] [((0,4),(.t 81))])),(oo 83 (.app 4 40 (.t 80) (.t 82))),(oT 7 83)]))))) (.ops [(oo 84 (.bin .add (.t 64) (.c (.int .i64 1)))),(oT 64 84)]))))))) jhj)
def jhk:XC:=(.seq (.ops [(oo 41 (.ldA 6 (.t 3))),(oO 6 (.alloc [(.int .i64 0),(.int .i64 0),(.str []),.nils,(.int .i64 0),(.int .i64 0)])),(os (.st 6 (.t 6) (.t 41)))]) (.seq (.ops [(oo 42 (.fad 3 (.t 6))),(os (.st 1 (.t 42) (.c .nils)))]) (.seq (.ops [(oO 7 (.mv (.c .nils)))]) (.seq (.ops [(ot 43 0),(oo 44 (.nilc (.t 43))),(oo 45 (.fad 4 (.t 44))),(oo 46 (.ld1 (.t 45))),(oT 8 46)]) (.seq (.ops [(ot 47 0),(ot 48 8),(ot 49 48),(og 50 49 (.fad 0 (.t 3))),(og 51 49 (.ld1 (.t 50))),(og 52 49 (.bin .neq (.t 51) (.c (.int .i64 17)))),(oo 53 (.pick (.t 49) (.t 52) (.c (.bool false)))),(ot 54 53),(og 55 54 (.fad 0 (.t 3))),(og 56 54 (.ld1 (.t 55))),(og 57 54 (.bin .neq (.t 56) (.c (.int .i64 18)))),(oo 58 (.pick (.t 54) (.t 57) (.c (.bool false)))),(oo 59 (.nilc (.t 47))),(oo 60 (.fad 4 (.t 59))),(os (.st 1 (.t 60) (.t 58)))]) jc8)))))
def Ua:XC:=(.seq (.seq (.ops [(oo 20 (.fad 0 (.t 3))),(oO 21 (.ld1 (.t 20)))]) (.block 0 (.seq (.ops [(oo 23 (.bin .eql (.t 21) (.c (.int .i64 1)))),(oT 22 23)]) (.cond (.t 22) (.seq (.dops [(⟨(oo 24 (.ldA 6 (.t 3))),(some (some (.t 3))),37,[]⟩,none),(oP (oo 25 (.fad 1 (.t 3)))),(⟨(oo 26 (.ld1 (.t 25))),(some (some (.t 25))),2,[]⟩,none),(oP (oo 27 (.fad 1 (.t 3)))),(⟨(oo 28 (.ld1 (.t 27))),(some (some (.t 27))),2,[]⟩,none),(oP (oo 29 (.build [(.int .i64 0),(.str []),(.int .i64 0),(.int .i64 0)] [((0,1),(.c (.int .i64 1))),((2,1),(.t 26)),((3,1),(.t 28))]))),(⟨(os (.st 6 (.t 4) (.t 24))),(some none),0,[(1,2),(3,2)]⟩,none),(⟨(os (.st 4 (.t 5) (.t 29))),(some none),0,[]⟩,none)]) .ret) (.seq (.ops [(oo 31 (.bin .eql (.t 21) (.c (.int .i64 2)))),(oT 30 31)]) (.cond (.t 30) (.seq (.ops [(oo 32 (.ldA 6 (.t 3))),(oo 33 (.build [(.int .i64 0),(.str []),(.int .i64 0),(.int .i64 0)] [((0,1),(.c (.int .i64 2))),((3,1),(.c (.int .i64 1)))])),(os (.st 6 (.t 4) (.t 32))),(os (.st 4 (.t 5) (.t 33)))]) .ret) (.seq (.ops [(oo 35 (.bin .eql (.t 21) (.c (.int .i64 3)))),(oT 34 35)]) (.cond (.t 34) (.seq (.ops [(ot 36 0),(oo 37 (.ldA 6 (.t 3))),(oc 38 136 [(.t 36),(.t 37)]),(oo 39 (.ext (.t 38) 0)),(oo 40 (.ext (.t 38) 1)),(os (.st 6 (.t 4) (.t 39))),(os (.st 4 (.t 5) (.t 40)))]) .ret) .skip)))))))) jhk)
def z97:XC:=(.seq (.ops [(oO 3 (.box (.t 1))),(oO 4 (.alloc [(.int .i64 0),(.int .i64 0),(.str []),.nils,(.int .i64 0),(.int .i64 0)])),(oO 5 (.alloc [(.int .i64 0),(.str []),(.int .i64 0),(.int .i64 0)]))]) Ua)
def y97:XF:=⟨[0,1],z97,[(.cA 4 6),(.cA 5 4)]⟩
theorem x97:jD Qaf 97=some y97:=by kernel_rfl
def z98:XC:=(.ops [(ot 6 0),(ot 7 1),(ot 8 2),(oo 9 (.build [(.int .i64 0),(.int .i64 0),(.int .i64 0)] [((0,1),(.t 6)),((1,1),(.t 7)),((2,1),(.t 8))])),(oo 10 (.iface 30 (.t 9))),⟨none,false,none,(.pan (.t 10))⟩])
def y98:XF:=⟨[0,1,2],z98,[]⟩
theorem x98:jD Qaf 98=some y98:=by kernel_rfl
def z99:XC:=(.seq (.ops [(oO 2 (.mv (.c .nils)))]) (.seq (.seq (.ops [(ot 3 0),(oO 4 (.gen .eql 91 true (.t 3) (.c .nils)))]) (.cond (.t 4) (.seq (.ops [(oO 2 (.mv (.c .nils)))]) .ret) .skip)) (.seq (.ops [(oo 5 (.buildS 0 1 [(.str [])] [])),(ot 6 0),(oo 7 (.app 1 16 (.t 5) (.t 6))),(oT 2 7)]) .ret)))
def y99:XF:=⟨[0],z99,[(.t 2)]⟩
theorem x99:jD Qaf 99=some y99:=by kernel_rfl
def jlV:XC:=(.seq (.ops [(oO 4 (.mv (.c (.int .i64 0))))]) (.seq (.seq (.ops [(ot 6 0),(oO 7 (.len (.t 6))),(oO 8 (.mv (.c (.int .i64 0))))]) (.block 0 (.loop (.seq (.ops [(oO 9 (.bin .lss (.t 8) (.t 7)))]) (.seq (.cond (.t 9) .skip (.exit 0)) (.seq (.block 1 (.seq (.ops [(ot 10 8),(oT 5 10)]) (.seq (.ops [(ot 11 1),(ot 12 0),(ot 13 5),(oo 14 (.idxS 4 (.t 12) (.t 13))),(oo 15 (.ldA 4 (.t 14))),⟨(some 16),true,none,(.call (.t 11) [(.t 15)])⟩]) (.cond (.t 16) (.seq (.ops [(ot 17 5),(oT 4 17)]) .ret) .skip)))) (.ops [(oo 18 (.bin .add (.t 8) (.c (.int .i64 1)))),(oT 8 18)]))))))) (.seq (.ops [(oO 4 (.mv (.c (.int .i64 (-(0+1))))))]) .ret)))
def jmD:XF:=⟨[0,1],jlV,[(.t 4)]⟩
theorem jqk:jD Qaf 100=some jmD:=by kernel_rfl
def jlU:XC:=(.seq (.ops [(oO 2 (.box (.t 0))),(oO 3 (.mv (.c (.bool false))))]) (.seq (.ops [(oo 4 (.fad 0 (.t 2))),(oo 5 (.ld1 (.t 4))),(oo 6 (.fad 1 (.t 1))),(oo 7 (.ld1 (.t 6))),(oo 8 (.strb .eql (.t 5) (.t 7))),(oT 3 8)]) .ret))
def jmC:XF:=⟨[0,1],jlU,[(.t 3)]⟩
theorem jqj:jD Qaf 101=some jmC:=by kernel_rfl
def jlT:XC:=(.seq (.ops [(oO 1 (.box (.t 0))),(oO 2 (.alloc [(.int .i64 0),(.int .i64 0),(.str []),.nils,(.int .i64 0),(.int .i64 0)])),(oO 3 (.mv (.c (.bool false))))]) (.seq (.seq (.ops [(oo 8 (.fad 0 (.t 1))),(oo 9 (.ld1 (.t 8))),(oO 10 (.bin .eql (.t 9) (.c (.int .i64 4))))]) (.cond (.t 10) (.seq (.ops [(oo 11 (.ldA 6 (.t 1))),(os (.st 6 (.t 2) (.t 11))),(oO 3 (.mv (.c (.bool true))))]) .ret) .skip)) (.seq (.seq (.ops [(oo 12 (.fad 3 (.t 1))),(oO 13 (.ld1 (.t 12))),(oO 14 (.len (.t 13))),(oO 15 (.mv (.c (.int .i64 0))))]) (.block 0 (.loop (.seq (.ops [(oO 16 (.bin .lss (.t 15) (.t 14)))]) (.seq (.cond (.t 16) .skip (.exit 0)) (.seq (.block 1 (.seq (.ops [(oo 17 (.idxS 6 (.t 13) (.t 15))),(oo 18 (.ldA 6 (.t 17))),(oO 5 (.alloc [(.int .i64 0),(.int .i64 0),(.str []),.nils,(.int .i64 0),(.int .i64 0)])),(os (.st 6 (.t 5) (.t 18)))]) (.seq (.ops [(oo 20 (.ldA 6 (.t 5))),(oc 21 102 [(.t 20)]),(ot 19 21),(oo 22 (.ext (.t 19) 0)),(oo 23 (.ext (.t 19) 1)),(oO 6 (.alloc [(.int .i64 0),(.int .i64 0),(.str []),.nils,(.int .i64 0),(.int .i64 0)])),(os (.st 6 (.t 6) (.t 22))),(oT 7 23)]) (.seq (.ops [(oT 24 7)]) (.cond (.t 24) (.seq (.ops [(oo 25 (.ldA 6 (.t 6))),(os (.st 6 (.t 2) (.t 25))),(oO 3 (.mv (.c (.bool true))))]) .ret) .skip))))) (.ops [(oo 26 (.bin .add (.t 15) (.c (.int .i64 1)))),(oT 15 26)]))))))) (.seq (.ops [(oo 27 (.ldA 6 (.t 1))),(os (.st 6 (.t 2) (.t 27))),(oO 3 (.mv (.c (.bool false))))]) .ret))))
def jmB:XF:=⟨[0],jlT,[(.cA 2 6),(.t 3)]⟩
theorem jqi:jD Qaf 102=some jmB:=by kernel_rfl
def jlS:XC:=(.seq (.ops [(oO 1 (.box (.t 0))),(oO 2 (.mv (.c (.int .i64 0))))]) (.seq (.ops [(oO 3 (.alloc [(.int .i64 0),(.int .i64 0)]))]) (.seq (.seq (.ops [(oo 7 (.fad 3 (.t 1))),(oO 8 (.ld1 (.t 7))),(oO 9 (.len (.t 8))),(oO 10 (.mv (.c (.int .i64 0))))]) (.block 0 (.loop (.seq (.ops [(oO 11 (.bin .lss (.t 10) (.t 9)))]) (.seq (.cond (.t 11) .skip (.exit 0)) (.seq (.block 1 (.seq (.ops [(ot 12 10),(oo 13 (.idxS 6 (.t 8) (.t 10))),(oo 14 (.ldA 6 (.t 13))),(oO 5 (.alloc [(.int .i64 0),(.int .i64 0),(.str []),.nils,(.int .i64 0),(.int .i64 0)])),(oT 4 12),(os (.st 6 (.t 5) (.t 14)))]) (.ops [(ot 15 4),(oo 16 (.ldA 6 (.t 5))),(oc 17 103 [(.t 16)]),(oo 18 (.idxA 2 1 (.t 3) (.t 15))),(os (.st 1 (.t 18) (.t 17)))]))) (.ops [(oo 19 (.bin .add (.t 10) (.c (.int .i64 1)))),(oT 10 19)]))))))) (.seq (.ops [(oO 6 (.mv (.c (.fn 140 []))))]) (.seq (.seq (.ops [(oo 20 (.fad 0 (.t 1))),(oO 21 (.ld1 (.t 20)))]) (.block 2 (.seq (.ops [(oo 23 (.bin .eql (.t 21) (.c (.int .i64 4)))),(oT 22 23)]) (.cond (.t 22) (.ops [(oo 24 (.fad 4 (.t 1))),(oo 25 (.ld1 (.t 24))),(oo 26 (.fad 5 (.t 1))),(oo 27 (.ld1 (.t 26))),(oc 28 98 [(.c (.int .i64 161)),(.t 25),(.t 27)])]) (.seq (.ops [(oo 30 (.bin .eql (.t 21) (.c (.int .i64 5)))),(oT 29 30)]) (.cond (.t 29) (.seq (.ops [(oo 31 (.idxA 2 1 (.t 3) (.c (.int .i64 0)))),(oo 32 (.ld1 (.t 31))),(oo 33 (.un .neg (.t 32))),(oT 2 33)]) .ret) (.seq (.ops [(oo 35 (.bin .eql (.t 21) (.c (.int .i64 6)))),(oT 34 35)]) (.cond (.t 34) (.seq (.ops [(oo 36 (.idxA 2 1 (.t 3) (.c (.int .i64 0)))),(oo 37 (.ld1 (.t 36))),(oo 38 (.bin .sub (.c (.int .i64 1)) (.t 37))),(oT 2 38)]) .ret) (.seq (.ops [(oo 40 (.bin .eql (.t 21) (.c (.int .i64 14)))),(oT 39 40)]) (.cond (.t 39) (.seq (.ops [(oo 41 (.idxA 2 1 (.t 3) (.c (.int .i64 0)))),(oo 42 (.ld1 (.t 41))),(oo 43 (.idxA 2 1 (.t 3) (.c (.int .i64 1)))),(oo 44 (.ld1 (.t 43))),(oo 45 (.bin .mul (.t 42) (.t 44))),(oT 2 45)]) .ret) (.seq (.ops [(oo 47 (.bin .eql (.t 21) (.c (.int .i64 15)))),(oT 46 47)]) (.cond (.t 46) (.seq (.ops [(oo 48 (.idxA 2 1 (.t 3) (.c (.int .i64 0)))),(oo 49 (.ld1 (.t 48))),(oo 50 (.idxA 2 1 (.t 3) (.c (.int .i64 1)))),(oo 51 (.ld1 (.t 50))),(oo 52 (.bin .add (.t 49) (.t 51))),(oT 2 52)]) .ret) (.seq (.ops [(oo 54 (.bin .eql (.t 21) (.c (.int .i64 16)))),(oT 53 54)]) (.cond (.t 53) (.seq (.ops [(oo 55 (.idxA 2 1 (.t 3) (.c (.int .i64 0)))),(oo 56 (.ld1 (.t 55))),(oo 57 (.idxA 2 1 (.t 3) (.c (.int .i64 1)))),(oo 58 (.ld1 (.t 57))),(oo 59 (.bin .sub (.t 56) (.t 58))),(oT 2 59)]) .ret) (.seq (.seq (.ops [(oo 61 (.bin .eql (.t 21) (.c (.int .i64 17)))),(oT 60 61)]) (.cond (.t 60) .skip (.ops [(oo 62 (.bin .eql (.t 21) (.c (.int .i64 30)))),(oT 60 62)]))) (.cond (.t 60) (.seq (.ops [(ot 63 6),(oo 64 (.idxA 2 1 (.t 3) (.c (.int .i64 0)))),(oo 65 (.ld1 (.t 64))),(oo 66 (.idxA 2 1 (.t 3) (.c (.int .i64 1)))),(oo 67 (.ld1 (.t 66))),(oo 68 (.bin .eql (.t 65) (.t 67))),⟨(some 69),false,none,(.call (.t 63) [(.t 68)])⟩,(oT 2 69)]) .ret) (.seq (.ops [(oo 71 (.bin .eql (.t 21) (.c (.int .i64 18)))),(oT 70 71)]) (.cond (.t 70) (.seq (.ops [(ot 72 6),(oo 73 (.idxA 2 1 (.t 3) (.c (.int .i64 0)))),(oo 74 (.ld1 (.t 73))),(oo 75 (.idxA 2 1 (.t 3) (.c (.int .i64 1)))),(oo 76 (.ld1 (.t 75))),(oo 77 (.bin .neq (.t 74) (.t 76))),⟨(some 78),false,none,(.call (.t 72) [(.t 77)])⟩,(oT 2 78)]) .ret) (.seq (.ops [(oo 80 (.bin .eql (.t 21) (.c (.int .i64 19)))),(oT 79 80)]) (.cond (.t 79) (.seq (.ops [(ot 81 6),(oo 82 (.idxA 2 1 (.t 3) (.c (.int .i64 0)))),(oo 83 (.ld1 (.t 82))),(oo 84 (.idxA 2 1 (.t 3) (.c (.int .i64 1)))),(oo 85 (.ld1 (.t 84))),(oo 86 (.bin .lss (.t 83) (.t 85))),⟨(some 87),false,none,(.call (.t 81) [(.t 86)])⟩,(oT 2 87)]) .ret) (.seq (.seq (.ops [(oo 89 (.bin .eql (.t 21) (.c (.int .i64 20)))),(oT 88 89)]) (.cond (.t 88) .skip (.ops [(oo 90 (.bin .eql (.t 21) (.c (.int .i64 29)))),(oT 88 90)]))) (.cond (.t 88) (.seq (.ops [(ot 91 6),(oo 92 (.idxA 2 1 (.t 3) (.c (.int .i64 0)))),(oo 93 (.ld1 (.t 92))),(oo 94 (.idxA 2 1 (.t 3) (.c (.int .i64 1)))),(oo 95 (.ld1 (.t 94))),(oo 96 (.bin .leq (.t 93) (.t 95))),⟨(some 97),false,none,(.call (.t 91) [(.t 96)])⟩,(oT 2 97)]) .ret) (.seq (.ops [(oo 99 (.bin .eql (.t 21) (.c (.int .i64 21)))),(oT 98 99)]) (.cond (.t 98) (.seq (.ops [(ot 100 6),(oo 101 (.idxA 2 1 (.t 3) (.c (.int .i64 0)))),(oo 102 (.ld1 (.t 101))),(oo 103 (.idxA 2 1 (.t 3) (.c (.int .i64 1)))),(oo 104 (.ld1 (.t 103))),(oo 105 (.bin .gtr (.t 102) (.t 104))),⟨(some 106),false,none,(.call (.t 100) [(.t 105)])⟩,(oT 2 106)]) .ret) (.seq (.ops [(oo 108 (.bin .eql (.t 21) (.c (.int .i64 22)))),(oT 107 108)]) (.cond (.t 107) (.seq (.ops [(ot 109 6),(oo 110 (.idxA 2 1 (.t 3) (.c (.int .i64 0)))),(oo 111 (.ld1 (.t 110))),(oo 112 (.idxA 2 1 (.t 3) (.c (.int .i64 1)))),(oo 113 (.ld1 (.t 112))),(oo 114 (.bin .geq (.t 111) (.t 113))),⟨(some 115),false,none,(.call (.t 109) [(.t 114)])⟩,(oT 2 115)]) .ret) (.seq (.ops [(oo 117 (.bin .eql (.t 21) (.c (.int .i64 27)))),(oT 116 117)]) (.cond (.t 116) (.seq (.ops [(oo 118 (.idxA 2 1 (.t 3) (.c (.int .i64 0)))),(oo 119 (.ld1 (.t 118))),(oo 120 (.idxA 2 1 (.t 3) (.c (.int .i64 1)))),(oo 121 (.ld1 (.t 120))),(oo 122 (.bin .mul (.t 119) (.t 121))),(oT 2 122)]) .ret) (.seq (.ops [(oo 124 (.bin .eql (.t 21) (.c (.int .i64 28)))),(oT 123 124)]) (.cond (.t 123) (.seq (.ops [(oo 125 (.idxA 2 1 (.t 3) (.c (.int .i64 0)))),(oo 126 (.ld1 (.t 125))),(oo 127 (.idxA 2 1 (.t 3) (.c (.int .i64 1)))),(oo 128 (.ld1 (.t 127))),(oo 129 (.bi .max #[2,2] [(.t 126),(.t 128)])),(oT 2 129)]) .ret) .skip)))))))))))))))))))))))))))))) (.seq (.ops [(oo 130 (.fad 1 (.t 1))),(oo 131 (.ld1 (.t 130))),(oT 2 131)]) .ret))))))
def jmA:XF:=⟨[0],jlS,[(.t 2)]⟩
theorem jqh:jD Qaf 103=some jmA:=by kernel_rfl
def jlR:XC:=(.seq (.ops [(oO 3 (.box (.t 1))),(oO 4 (.mv (.c (.int .i64 0))))]) (.seq (.ops [(ot 5 0),(oo 6 (.nilc (.t 5))),(oo 7 (.fad 0 (.t 6))),(oo 8 (.fad 0 (.t 7))),(oo 9 (.ld1 (.t 8))),(oo 10 (.fn 142 [(.t 3)])),(oc 11 141 [(.t 9),(.t 10)]),(oT 4 11)]) .ret))
def jmz:XF:=⟨[0,1],jlR,[(.t 4)]⟩
theorem jqg:jD Qaf 104=some jmz:=by kernel_rfl
def jlQ:XC:=(.seq (.ops [(oO 4 (.mv (.c (.bool false))))]) (.seq (.ops [(ot 5 0),(ot 6 1),(oc 7 143 [(.t 5),(.t 6)]),(oo 8 (.bin .geq (.t 7) (.c (.int .i64 0)))),(oT 4 8)]) .ret))
def jmy:XF:=⟨[0,1],jlQ,[(.t 4)]⟩
theorem jqf:jD Qaf 105=some jmy:=by kernel_rfl
def jlP:XC:=(.seq (.ops [(oO 2 (.box (.t 0))),(oO 3 (.mv (.c (.bool false))))]) (.seq (.ops [(oo 4 (.fad 0 (.t 2))),(oo 5 (.ld1 (.t 4))),(oo 6 (.fad 0 (.t 1))),(oo 7 (.ld1 (.t 6))),(oo 8 (.strb .eql (.t 5) (.t 7))),(oT 3 8)]) .ret))
def jmx:XF:=⟨[0,1],jlP,[(.t 3)]⟩
theorem jqe:jD Qaf 106=some jmx:=by kernel_rfl
def jda:XC:=(.seq (.ops [(oO 3 (.box (.t 1))),(oO 4 (.alloc [(.int .i64 0),(.int .i64 0),(.str []),.nils,(.int .i64 0),(.int .i64 0)])),(oO 5 (.alloc [(.int .i64 0),(.str []),(.int .i64 0),(.int .i64 0)]))]) (.seq (.seq (.ops [(ot 10 0),(oo 11 (.fad 2 (.t 3))),(oo 12 (.ld1 (.t 11))),(oc 13 104 [(.t 10),(.t 12)]),(oT 6 13)]) (.seq (.ops [(ot 14 6),(oO 15 (.bin .geq (.t 14) (.c (.int .i64 0))))]) (.cond (.t 15) (.seq (.ops [(ot 16 0),(oo 17 (.nilc (.t 16))),(oo 18 (.fad 0 (.t 17))),(oo 19 (.fad 0 (.t 18))),(oo 20 (.ld1 (.t 19))),(ot 21 6),(oo 22 (.idxS 7 (.t 20) (.t 21))),(oo 23 (.ldA 7 (.t 22))),(oO 7 (.alloc [(.str []),(.int .i64 0),(.str []),(.int .i64 0),(.int .i64 0),(.bool false),(.int .i64 0)])),(os (.st 7 (.t 7) (.t 23)))]) (.seq (.dops [(oP (ot 24 6)),(oP (oo 25 (.fad 4 (.t 3)))),(⟨(oo 26 (.ld1 (.t 25))),(some (some (.t 25))),3,[]⟩,none),(oP (oo 27 (.fad 5 (.t 3)))),(⟨(oo 28 (.ld1 (.t 27))),(some (some (.t 27))),3,[]⟩,none),(oP (oo 29 (.build [(.int .i64 0),(.int .i64 0),(.str []),.nils,(.int .i64 0),(.int .i64 0)] [((0,1),(.c (.int .i64 4))),((1,1),(.t 24)),((4,1),(.t 26)),((5,1),(.t 28))]))),(oP (oo 30 (.fad 1 (.t 7)))),(⟨(oo 31 (.ld1 (.t 30))),(some (some (.t 30))),3,[]⟩,none),(oP (oo 32 (.fad 2 (.t 7)))),(⟨(oo 33 (.ld1 (.t 32))),(some (some (.t 32))),9,[]⟩,none),(oP (oo 34 (.fad 3 (.t 7)))),(⟨(oo 35 (.ld1 (.t 34))),(some (some (.t 34))),2,[]⟩,none),(oP (oo 36 (.fad 4 (.t 7)))),(⟨(oo 37 (.ld1 (.t 36))),(some (some (.t 36))),2,[]⟩,none),(oP (oo 38 (.build [(.int .i64 0),(.str []),(.int .i64 0),(.int .i64 0)] [((0,1),(.t 31)),((1,1),(.t 33)),((2,1),(.t 35)),((3,1),(.t 37))]))),(⟨(os (.st 6 (.t 4) (.t 29))),(some none),0,[(1,2),(3,2),(5,9),(7,3)]⟩,none),(⟨(os (.st 4 (.t 5) (.t 38))),(some none),0,[]⟩,none)]) .ret)) .skip))) (.seq (.ops [(ot 40 0),(oo 41 (.fad 2 (.t 3))),(oo 42 (.ld1 (.t 41))),(oc 43 165 [(.t 40),(.t 42)]),(ot 39 43),(oo 44 (.ext (.t 39) 0)),(oo 45 (.ext (.t 39) 1)),(oT 8 44),(oT 9 45)]) (.seq (.seq (.ops [(ot 46 9),(oO 47 (.bin .lss (.t 46) (.c (.int .i64 0))))]) (.cond (.t 47) (.ops [(oo 48 (.fad 4 (.t 3))),(oo 49 (.ld1 (.t 48))),(oo 50 (.fad 5 (.t 3))),(oo 51 (.ld1 (.t 50))),(oc 52 98 [(.c (.int .i64 161)),(.t 49),(.t 51)])]) .skip)) (.seq (.ops [(ot 53 9),(oo 54 (.fad 4 (.t 3))),(oo 55 (.ld1 (.t 54))),(oo 56 (.fad 5 (.t 3))),(oo 57 (.ld1 (.t 56))),(oo 58 (.build [(.int .i64 0),(.int .i64 0),(.str []),.nils,(.int .i64 0),(.int .i64 0)] [((0,1),(.c (.int .i64 1))),((1,1),(.t 53)),((4,1),(.t 55)),((5,1),(.t 57))])),(ot 59 8),(ot 60 9),(ot 61 9),(oo 62 (.build [(.int .i64 0),(.str []),(.int .i64 0),(.int .i64 0)] [((0,1),(.c (.int .i64 3))),((1,1),(.t 59)),((2,1),(.t 60)),((3,1),(.t 61))])),(os (.st 6 (.t 4) (.t 58))),(os (.st 4 (.t 5) (.t 62)))]) .ret)))))
def jdd:XF:=⟨[0,1],jda,[(.cA 4 6),(.cA 5 4)]⟩
theorem jhD:jD Qaf 136=some jdd:=by kernel_rfl
def jlA:XC:=(.seq (.ops [(oO 2 (.mv (.c (.int .i64 0)))),(oO 3 (.mv (.c (.int .i64 0))))]) (.seq (.seq (.ops [(oT 4 0)]) (.block 0 (.seq (.seq (.ops [(oo 6 (.bin .eql (.t 4) (.c (.int .i64 5)))),(oT 5 6)]) (.cond (.t 5) .skip (.seq (.ops [(oo 7 (.bin .eql (.t 4) (.c (.int .i64 14)))),(oT 5 7)]) (.cond (.t 5) .skip (.seq (.ops [(oo 8 (.bin .eql (.t 4) (.c (.int .i64 15)))),(oT 5 8)]) (.cond (.t 5) .skip (.ops [(oo 9 (.bin .eql (.t 4) (.c (.int .i64 16)))),(oT 5 9)]))))))) (.cond (.t 5) (.seq (.ops [(oO 2 (.mv (.c (.int .i64 1)))),(oO 3 (.mv (.c (.int .i64 1))))]) .ret) (.seq (.seq (.ops [(oo 11 (.bin .eql (.t 4) (.c (.int .i64 19)))),(oT 10 11)]) (.cond (.t 10) .skip (.seq (.ops [(oo 12 (.bin .eql (.t 4) (.c (.int .i64 20)))),(oT 10 12)]) (.cond (.t 10) .skip (.seq (.ops [(oo 13 (.bin .eql (.t 4) (.c (.int .i64 21)))),(oT 10 13)]) (.cond (.t 10) .skip (.ops [(oo 14 (.bin .eql (.t 4) (.c (.int .i64 22)))),(oT 10 14)]))))))) (.cond (.t 10) (.seq (.ops [(oO 2 (.mv (.c (.int .i64 1)))),(oO 3 (.mv (.c (.int .i64 2))))]) .ret) (.seq (.seq (.ops [(oo 16 (.bin .eql (.t 4) (.c (.int .i64 17)))),(oT 15 16)]) (.cond (.t 15) .skip (.ops [(oo 17 (.bin .eql (.t 4) (.c (.int .i64 18)))),(oT 15 17)]))) (.cond (.t 15) (.seq (.ops [(oO 2 (.mv (.c (.int .i64 0)))),(oO 3 (.mv (.c (.int .i64 2))))]) .ret) .skip)))))))) (.seq (.ops [(oO 2 (.mv (.c (.int .i64 2)))),(oO 3 (.mv (.c (.int .i64 2))))]) .ret)))
def jmi:XF:=⟨[0],jlA,[(.t 2),(.t 3)]⟩
theorem jpZ:jD Qaf 137=some jmi:=by kernel_rfl
def jlz:XC:=(.seq (.ops [(oO 2 (.mv (.c (.bool false))))]) (.seq (.ops [(ot 3 0),(oo 4 (.bin .geq (.t 3) (.c (.int .i64 7)))),(ot 5 4),(og 6 5 (.mv (.t 0))),(og 7 5 (.bin .leq (.t 6) (.c (.int .i64 13)))),(oo 8 (.pick (.t 5) (.t 7) (.c (.bool false)))),(ot 9 8),(oh 10 9 (.mv (.t 0))),(oh 11 9 (.bin .geq (.t 10) (.c (.int .i64 23)))),(oh 12 9 (.mv (.t 11))),(og 13 12 (.mv (.t 0))),(og 14 12 (.bin .leq (.t 13) (.c (.int .i64 26)))),(oh 15 9 (.pick (.t 12) (.t 14) (.c (.bool false)))),(oo 16 (.pick (.t 9) (.c (.bool true)) (.t 15))),(oT 2 16)]) .ret))
def jmh:XF:=⟨[0],jlz,[(.t 2)]⟩
theorem jpY:jD Qaf 138=some jmh:=by kernel_rfl
def jly:XC:=(.seq (.ops [(oO 4 (.mv (.c (.int .i64 0)))),(oO 5 (.mv (.c (.int .i64 0))))]) (.seq (.ops [(ot 8 1),(oo 9 (.idxS 4 (.t 8) (.c (.int .i64 0)))),(oo 10 (.ldA 4 (.t 9))),(oO 6 (.alloc [(.int .i64 0),(.str []),(.int .i64 0),(.int .i64 0)])),(os (.st 4 (.t 6) (.t 10)))]) (.seq (.ops [(ot 11 1),(ot 12 1),(oo 13 (.len (.t 12))),(oo 14 (.bin .sub (.t 13) (.c (.int .i64 1)))),(oo 15 (.idxS 4 (.t 11) (.t 14))),(oo 16 (.ldA 4 (.t 15))),(oO 7 (.alloc [(.int .i64 0),(.str []),(.int .i64 0),(.int .i64 0)])),(os (.st 4 (.t 7) (.t 16)))]) (.seq (.seq (.ops [(oT 17 0)]) (.block 0 (.seq (.ops [(oo 19 (.bin .eql (.t 17) (.c (.int .i64 5)))),(oT 18 19)]) (.cond (.t 18) (.seq (.ops [(oo 20 (.fad 2 (.t 6))),(oo 21 (.ld1 (.t 20))),(oo 22 (.un .neg (.t 21))),(oo 23 (.fad 3 (.t 6))),(oo 24 (.ld1 (.t 23))),(oo 25 (.un .neg (.t 24))),(oo 26 (.buildS 2 1 [(.int .i64 0)] [((0,1),(.t 22)),((1,1),(.t 25))])),(oc 27 166 [(.t 26)]),(oo 28 (.ext (.t 27) 0)),(oo 29 (.ext (.t 27) 1)),(oT 4 28),(oT 5 29)]) .ret) (.seq (.ops [(oo 31 (.bin .eql (.t 17) (.c (.int .i64 15)))),(oT 30 31)]) (.cond (.t 30) (.seq (.ops [(oo 32 (.fad 2 (.t 6))),(oo 33 (.ld1 (.t 32))),(oo 34 (.fad 2 (.t 7))),(oo 35 (.ld1 (.t 34))),(oo 36 (.bin .add (.t 33) (.t 35))),(oo 37 (.fad 3 (.t 6))),(oo 38 (.ld1 (.t 37))),(oo 39 (.fad 3 (.t 7))),(oo 40 (.ld1 (.t 39))),(oo 41 (.bin .add (.t 38) (.t 40))),(oo 42 (.buildS 2 1 [(.int .i64 0)] [((0,1),(.t 36)),((1,1),(.t 41))])),(oc 43 166 [(.t 42)]),(oo 44 (.ext (.t 43) 0)),(oo 45 (.ext (.t 43) 1)),(oT 4 44),(oT 5 45)]) .ret) (.seq (.ops [(oo 47 (.bin .eql (.t 17) (.c (.int .i64 16)))),(oT 46 47)]) (.cond (.t 46) (.seq (.ops [(oo 48 (.fad 2 (.t 6))),(oo 49 (.ld1 (.t 48))),(oo 50 (.fad 3 (.t 7))),(oo 51 (.ld1 (.t 50))),(oo 52 (.bin .sub (.t 49) (.t 51))),(oo 53 (.fad 3 (.t 6))),(oo 54 (.ld1 (.t 53))),(oo 55 (.fad 2 (.t 7))),(oo 56 (.ld1 (.t 55))),(oo 57 (.bin .sub (.t 54) (.t 56))),(oo 58 (.buildS 2 1 [(.int .i64 0)] [((0,1),(.t 52)),((1,1),(.t 57))])),(oc 59 166 [(.t 58)]),(oo 60 (.ext (.t 59) 0)),(oo 61 (.ext (.t 59) 1)),(oT 4 60),(oT 5 61)]) .ret) .skip)))))))) (.seq (.ops [(oo 62 (.fad 2 (.t 6))),(oo 63 (.ld1 (.t 62))),(oo 64 (.fad 2 (.t 7))),(oo 65 (.ld1 (.t 64))),(oo 66 (.bin .mul (.t 63) (.t 65))),(oo 67 (.fad 2 (.t 6))),(oo 68 (.ld1 (.t 67))),(oo 69 (.fad 3 (.t 7))),(oo 70 (.ld1 (.t 69))),(oo 71 (.bin .mul (.t 68) (.t 70))),(oo 72 (.fad 3 (.t 6))),(oo 73 (.ld1 (.t 72))),(oo 74 (.fad 2 (.t 7))),(oo 75 (.ld1 (.t 74))),(oo 76 (.bin .mul (.t 73) (.t 75))),(oo 77 (.fad 3 (.t 6))),(oo 78 (.ld1 (.t 77))),(oo 79 (.fad 3 (.t 7))),(oo 80 (.ld1 (.t 79))),(oo 81 (.bin .mul (.t 78) (.t 80))),(oo 82 (.buildS 4 1 [(.int .i64 0)] [((0,1),(.t 66)),((1,1),(.t 71)),((2,1),(.t 76)),((3,1),(.t 81))])),(oc 83 166 [(.t 82)]),(oo 84 (.ext (.t 83) 0)),(oo 85 (.ext (.t 83) 1)),(oT 4 84),(oT 5 85)]) .ret)))))
def jmg:XF:=⟨[0,1],jly,[(.t 4),(.t 5)]⟩
theorem jpX:jD Qaf 139=some jmg:=by kernel_rfl
def jlx:XC:=(.seq (.ops [(oO 2 (.mv (.c (.int .i64 0))))]) (.seq (.seq (.ops [(oT 3 0)]) (.cond (.t 3) (.seq (.ops [(oO 2 (.mv (.c (.int .i64 1))))]) .ret) .skip)) (.seq (.ops [(oO 2 (.mv (.c (.int .i64 0))))]) .ret)))
def jmf:XF:=⟨[0],jlx,[(.t 2)]⟩
theorem jpW:jD Qaf 140=some jmf:=by kernel_rfl
def jlw:XC:=(.seq (.ops [(oO 4 (.mv (.c (.int .i64 0))))]) (.seq (.seq (.ops [(ot 6 0),(oO 7 (.len (.t 6))),(oO 8 (.mv (.c (.int .i64 0))))]) (.block 0 (.loop (.seq (.ops [(oO 9 (.bin .lss (.t 8) (.t 7)))]) (.seq (.cond (.t 9) .skip (.exit 0)) (.seq (.block 1 (.seq (.ops [(ot 10 8),(oT 5 10)]) (.seq (.ops [(ot 11 1),(ot 12 0),(ot 13 5),(oo 14 (.idxS 7 (.t 12) (.t 13))),(oo 15 (.ldA 7 (.t 14))),⟨(some 16),true,none,(.call (.t 11) [(.t 15)])⟩]) (.cond (.t 16) (.seq (.ops [(ot 17 5),(oT 4 17)]) .ret) .skip)))) (.ops [(oo 18 (.bin .add (.t 8) (.c (.int .i64 1)))),(oT 8 18)]))))))) (.seq (.ops [(oO 4 (.mv (.c (.int .i64 (-(0+1))))))]) .ret)))
def jme:XF:=⟨[0,1],jlw,[(.t 4)]⟩
theorem jpV:jD Qaf 141=some jme:=by kernel_rfl
def jlv:XC:=(.seq (.ops [(oO 2 (.box (.t 0))),(oO 3 (.mv (.c (.bool false))))]) (.seq (.ops [(oo 4 (.fad 0 (.t 2))),(oo 5 (.ld1 (.t 4))),(oo 6 (.ld1 (.t 1))),(oo 7 (.strb .eql (.t 5) (.t 6))),(oT 3 7)]) .ret))
def jmd:XF:=⟨[0,1],jlv,[(.t 3)]⟩
theorem jpU:jD Qaf 142=some jmd:=by kernel_rfl
def jhw:XC:=(.seq (.ops [(oO 4 (.mv (.c (.int .i64 0))))]) (.seq (.seq (.ops [(ot 6 0),(oO 7 (.len (.t 6))),(oO 8 (.mv (.c (.int .i64 0))))]) (.block 0 (.loop (.seq (.ops [(oO 9 (.bin .lss (.t 8) (.t 7)))]) (.seq (.cond (.t 9) .skip (.exit 0)) (.seq (.block 1 (.seq (.ops [(ot 10 8),(oT 5 10)]) (.seq (.ops [(ot 11 1),(ot 12 0),(ot 13 5),(oo 14 (.idxS 9 (.t 12) (.t 13))),(oo 15 (.ldA 9 (.t 14))),⟨(some 16),true,none,(.call (.t 11) [(.t 15)])⟩]) (.cond (.t 16) (.seq (.ops [(ot 17 5),(oT 4 17)]) .ret) .skip)))) (.ops [(oo 18 (.bin .add (.t 8) (.c (.int .i64 1)))),(oT 8 18)]))))))) (.seq (.ops [(oO 4 (.mv (.c (.int .i64 (-(0+1))))))]) .ret)))
def jmc:XF:=⟨[0,1],jhw,[(.t 4)]⟩
theorem jpT:jD Qaf 143=some jmc:=by kernel_rfl
def jll:XC:=(.seq (.ops [(oO 4 (.mv (.c (.str [])))),(oO 5 (.mv (.c (.int .i64 0))))]) (.seq (.seq (.ops [(ot 9 0),(oo 10 (.nilc (.t 9))),(oo 11 (.fad 0 (.t 10))),(oo 12 (.fad 1 (.t 11))),(oO 13 (.ld1 (.t 12))),(oO 14 (.len (.t 13))),(oO 15 (.mv (.c (.int .i64 0))))]) (.block 0 (.loop (.seq (.ops [(oO 16 (.bin .lss (.t 15) (.t 14)))]) (.seq (.cond (.t 16) .skip (.exit 0)) (.seq (.block 1 (.seq (.ops [(oo 17 (.idxS 4 (.t 13) (.t 15))),(oo 18 (.ldA 4 (.t 17))),(oO 7 (.alloc [(.str []),.nils,(.int .i64 0),(.int .i64 0)])),(os (.st 4 (.t 7) (.t 18)))]) (.seq (.ops [(oo 19 (.fad 1 (.t 7))),(oo 20 (.ld1 (.t 19))),(ot 21 1),(oc 22 177 [(.t 20),(.t 21)]),(oT 8 22)]) (.seq (.ops [(ot 23 8),(oO 24 (.bin .geq (.t 23) (.c (.int .i64 0))))]) (.cond (.t 24) (.seq (.ops [(oo 25 (.fad 0 (.t 7))),(oo 26 (.ld1 (.t 25))),(ot 27 8),(oT 4 26),(oT 5 27)]) .ret) .skip))))) (.ops [(oo 28 (.bin .add (.t 15) (.c (.int .i64 1)))),(oT 15 28)]))))))) (.seq (.ops [(oO 4 (.mv (.c (.str [])))),(oO 5 (.mv (.c (.int .i64 (-(0+1))))))]) .ret)))
def jl2:XF:=⟨[0,1],jll,[(.t 4),(.t 5)]⟩
theorem jpJ:jD Qaf 165=some jl2:=by kernel_rfl
def jlk:XC:=(.seq (.ops [(oO 2 (.mv (.c (.int .i64 0)))),(oO 3 (.mv (.c (.int .i64 0))))]) (.seq (.ops [(ot 4 0),(oc 5 181 [(.t 4)]),(ot 6 0),(oc 7 182 [(.t 6)]),(oT 2 5),(oT 3 7)]) .ret))
def jl1:XF:=⟨[0],jlk,[(.t 2),(.t 3)]⟩
theorem jpI:jD Qaf 166=some jl1:=by kernel_rfl
def jlg:XC:=(.seq (.ops [(oO 2 (.mv (.c (.int .i64 0))))]) (.seq (.seq (.ops [(ot 5 0),(oo 6 (.len (.t 5))),(oO 7 (.bin .lss (.t 6) (.c (.int .i64 1))))]) (.cond (.t 7) (.ops [(oo 8 (.iface 9 (.c (.str [115,108,105,99,101,115,46,77,105,110,58,32,101,109,112,116,121,32,108,105,115,116])))),⟨none,false,none,(.pan (.t 8))⟩]) .skip)) (.seq (.ops [(ot 9 0),(oo 10 (.idxS 1 (.t 9) (.c (.int .i64 0)))),(oo 11 (.ld1 (.t 10))),(oT 3 11)]) (.seq (.seq (.ops [(oO 4 (.mv (.c (.int .i64 1))))]) (.block 0 (.loop (.seq (.seq (.ops [(ot 12 4),(ot 13 0),(oo 14 (.len (.t 13))),(oO 15 (.bin .lss (.t 12) (.t 14)))]) (.cond (.t 15) .skip (.exit 0))) (.seq (.block 1 (.ops [(ot 18 3),(ot 19 0),(ot 20 4),(oo 21 (.idxS 1 (.t 19) (.t 20))),(oo 22 (.ld1 (.t 21))),(oo 23 (.bi .min #[2,2] [(.t 18),(.t 22)])),(oT 3 23)])) (.ops [(ot 16 4),(oo 17 (.bin .add (.t 16) (.c (.int .i64 1)))),(oT 4 17)])))))) (.seq (.ops [(ot 24 3),(oT 2 24)]) .ret)))))
def jlX:XF:=⟨[0],jlg,[(.t 2)]⟩
theorem jpE:jD Qaf 181=some jlX:=by kernel_rfl
def jlf:XC:=(.seq (.ops [(oO 2 (.mv (.c (.int .i64 0))))]) (.seq (.seq (.ops [(ot 5 0),(oo 6 (.len (.t 5))),(oO 7 (.bin .lss (.t 6) (.c (.int .i64 1))))]) (.cond (.t 7) (.ops [(oo 8 (.iface 9 (.c (.str [115,108,105,99,101,115,46,77,97,120,58,32,101,109,112,116,121,32,108,105,115,116])))),⟨none,false,none,(.pan (.t 8))⟩]) .skip)) (.seq (.ops [(ot 9 0),(oo 10 (.idxS 1 (.t 9) (.c (.int .i64 0)))),(oo 11 (.ld1 (.t 10))),(oT 3 11)]) (.seq (.seq (.ops [(oO 4 (.mv (.c (.int .i64 1))))]) (.block 0 (.loop (.seq (.seq (.ops [(ot 12 4),(ot 13 0),(oo 14 (.len (.t 13))),(oO 15 (.bin .lss (.t 12) (.t 14)))]) (.cond (.t 15) .skip (.exit 0))) (.seq (.block 1 (.ops [(ot 18 3),(ot 19 0),(ot 20 4),(oo 21 (.idxS 1 (.t 19) (.t 20))),(oo 22 (.ld1 (.t 21))),(oo 23 (.bi .max #[2,2] [(.t 18),(.t 22)])),(oT 3 23)])) (.ops [(ot 16 4),(oo 17 (.bin .add (.t 16) (.c (.int .i64 1)))),(oT 4 17)])))))) (.seq (.ops [(ot 24 3),(oT 2 24)]) .ret)))))
def jlW:XF:=⟨[0],jlf,[(.t 2)]⟩
theorem jpD:jD Qaf 182=some jlW:=by kernel_rfl
theorem jmE:Hr Qaf 59=some Kv:=by kernel_rfl
end Go.Sy
end
noncomputable section
namespace Go.Sy
open Go.Ev Go.RowKit
theorem jkK {v:AV}{h:T AO}(hv:pa v=true):lend h v=some v:=by
 have key:∀ v:AV,pa v=true->(fz 9 h v).map (·.1)=some v:=λv hv=>by rw [Hx (d:=7) hv]; rfl
 cases v <;> first | exact key _ hv | (cases hv; done) | skip
 case fn f caps=>
  cases caps with
  | nil=>rfl
  | cons c l=>cases hv
theorem w4 {h:T AO}:J4 h []=some []:=rfl
theorem zY {h:T AO}{v u:AV}{l r:List AV}(h1:lend h v=some u)(h2:J4 h l=some r):J4 h (v :: l)=some (u :: r):=by
 simp only [J4,h1,h2]
theorem YJ {h:T AO}{v:AV}{l r:List AV}(h1:pa v=true)(h2:J4 h l=some r):J4 h (v :: l)=some (v :: r):=zY (jkK h1) h2
theorem hZ {h:T AO}:∀ {l:List AV},l.all Go.Sy.pa=true->J4 h l=some l
 | [],_=>rfl
 | v :: l,hp=>by
  simp only [Qbf,Qar] at hp;exact YJ hp.1 (hZ hp.2)
theorem jcG {s:St}{d b n m z:Nat}{x:Bool}{cs:List AV}(C:Cl s b cs)(hl:n * z=cs.length)(hp:cs.all pc=true):fz (d+2) s.h (.slice b 0 n m z x)=some (.lst n cs,[b]):=jaX (k:=0) C hl hp
def Lr (s:St)(v:AV)(n:Nat)(cs:List AV):Prop:=v=.lst n cs∨(v=.nils∧n=0∧cs=[])∨∃ b m z x,v=.slice b 0 n m z x∧n * z=cs.length∧Cl s b cs
theorem Lv.lr {lo hi n z:Nat}{s:St}{v:AV}{cs:List AV}(h:Lv lo hi s v n cs z):Lr s v n cs:=by
 rcases h with ⟨rfl,rfl,rfl⟩ | ⟨b,rfl,h2,h3,h4,h5,h6⟩
 ·exact .inr (.inl ⟨rfl,rfl,rfl⟩)
 ·exact .inr (.inr ⟨b,n,z,false,rfl,h3.symm,h4⟩)
theorem Lr.fz {s:St}{v:AV}{n:Nat}{cs:List AV}{d:Nat}(h:Lr s v n cs)(hp:cs.all pc=true):∃ ks,fz (d+2) s.h v=some (.lst n cs,ks):=by
 rcases h with rfl | ⟨rfl,rfl,rfl⟩ | ⟨b,m,z,x,rfl,h1,h2⟩
 ·exact ⟨[],rfl⟩
 ·exact ⟨[],rfl⟩
 ·exact ⟨[b],jcG h2 h1 hp⟩
theorem Lr.lend {s:St}{v:AV}{n:Nat}{cs:List AV}(h:Lr s v n cs)(hp:cs.all pc=true):lend s.h v=some (.lst n cs):=by
 have key:(Go.Ev.fz 9 s.h v).map (·.1)=some (.lst n cs):=by
  obtain ⟨ks,e⟩:=h.fz (d:=7) hp;rw [e]; rfl
 rcases h with rfl | ⟨rfl,rfl,rfl⟩ | ⟨b,m,z,x,rfl,h1,h2⟩ <;> exact key
theorem jf9 {s:St}{l r:List AV}(h:∃ ks,fzs (fz 8 s.h) l=some (r,ks)):lend s.h (.agg l)=some (.agg r):=by
 obtain ⟨ks,e⟩:=h;show (fz 9 s.h (.agg l)).map (·.1)=_;show ((fzs (fz 8 s.h) l).map λp=>(AV.agg p.1,p.2)).map (·.1)=_;rw [e]; rfl
theorem jdU {f:AV->Option (AV×List Nat)}{v u:AV}{l r:List AV}(h1:∃ ks,f v=some (u,ks))(h2:∃ ks,fzs f l=some (r,ks)):∃ ks,fzs f (v :: l)=some (u :: r,ks):=by
 obtain ⟨k1,e1⟩:=h1;obtain ⟨k2,e2⟩:=h2;exact ⟨k1 ++ k2,by simp only [fzs,e1,e2]⟩
theorem jpp {f:AV->Option (AV×List Nat)}:∃ ks,fzs f []=some ([],ks):=⟨[],rfl⟩
theorem uQ {s:St}{b o:Nat}{cs r:List AV}(C:Cl s b cs)(h:Xt (fz 9 s.h) cs=r):lend s.h (.ptr b o)=some (.lptr r o):=by
 obtain ⟨n,zl,z,ct,hrow,hn,hcs⟩:=C.rw_.len;show ZI s.h (.ptr b o)=_;unfold ZI;dsimp only;rw [hrow];dsimp only;rw [hn,h]
theorem JO {f:AV->Option (AV×List Nat)}{v u:AV}{l r:List AV}(h1:∃ ks,f v=some (u,ks))(hc:u.cell=true)(h2:Xt f l=r):Xt f (v :: l)=u :: r:=by
 obtain ⟨ks,e⟩:=h1;simp only [Xt,e,hc,cond_true,h2]
theorem K7 {f:AV->Option (AV×List Nat)}:Xt f []=[]:=rfl
theorem uU {h:T AO}{v:AV}(d:Nat)(hv:pc v=true):∃ ks,fz (d+1) h v=some (v,ks):=⟨[],Hw hv d _⟩
section
variable {P:Program} {base:Bs}
theorem PL.xb {f:FuncId}{aZ aZ':List AV}{o:Oc}(h:PL P base f aZ o){st:St}(hf:J4 st.h aZ'=some aZ)(hb:∀ st,base.run f aZ' st=.no)(K Kp:AV->St->Prop):XB P base f aZ' st K Kp=XG o K Kp st:=h.cx hf hb K Kp
theorem PL.pa {f:FuncId}{aZ:List AV}{o:Oc}(h:PL P base f aZ o)(hp:aZ.all Go.Sy.pa=true)(hb:∀ st,base.run f aZ st=.no)(st:St)(K Kp:AV->St->Prop):XB P base f aZ st K Kp=XG o K Kp st:=by
 exact h.xb (hZ hp) hb K Kp
theorem Qh {f:FuncId}{F:XF}(hl:jD P f=some F)(hnd:F.body.nd=true)(hm:base.pur f=5){aZ:List AV}{o:Oc}(ho:o.flat=true)
  (h:xC P base F.body (jm F.ps aZ) st0 (QK P F.res (Q2 G0 o)) λv _ s=>QV G0 o v s.bare):PL P base f aZ o:=
 PL.of hm ho (XL hl hnd h)
def jnK (r:ER):ER:=match r with
 | .ok v s=>(match fz 9 s.h v with | some (v',ks)=>.ok v' (kills ks s) | none=>.no)
 | r=>r
theorem BX.ice {f:FuncId}{args:List AV}{st:St}{K Kp:AV->St->Prop}(hm:base.pur f=2)(hb:base.run f args st=.no)(h:BX P base f args st (λv s=>∃ u ks,fz 9 s.h v=some (u,ks)∧K u (kills ks s)) Kp):CX P base f args st K Kp:=by
 obtain ⟨r,⟨N,D,h1⟩,h2⟩:=h;have e:∀ n,N≤n->∀ d,D+1≤d->evC P base n d f args st=jnK r:=λn hn d hd=>by
  obtain ⟨d',rfl⟩:∃ d',d=d'+1:=⟨d - 1,by omega⟩;have h3:=h1 n hn d' (by omega);simp only [evC,hb,hm,wY,jdR,h3];rfl
 refine ⟨_,⟨N,D+1,e⟩,?_⟩;cases r with
 | no=>exact h2.elim
 | pn v s=>exact h2
 | ok v s=>
  obtain ⟨u,ks,e1,e2⟩:=(h2:∃ u ks,fz 9 s.h v=some (u,ks)∧K u (kills ks s));unfold jnK;dsimp only;rw [e1];exact e2
theorem jaS {f:FuncId}{F:XF}(hl:jD P f=some F)(hnd:F.body.nd=true){args:List AV}{st:St}(hm:base.pur f=2)(hb:base.run f args st=.no){K Kp:AV->St->Prop}
  (h:xC P base F.body (jm F.ps args) st.bare (QK P F.res λv s=>∃ u ks,fz 9 s.h v=some (u,ks)∧K u (back st (kills ks s))) λv _ s=>Kp v (bk st s)):XB P base f args st K Kp:=
 XB.of (BX.ice hm hb (XL hl hnd h))
end
structure Keep (p:Nat)(s s':St):Prop where
 nx:s.nx≤s'.nx
 fr:s'.fr=s.fr
 get:∀ b,b<s.nx->b≠p->jq s'.h b=jq s.h b
section
variable {p b:Nat} {s s' t:St} {cs:List AV}
theorem Keep.refl:Keep p s s:=⟨Qap _,rfl,λ_ _ _=>rfl⟩
theorem Keep.trans (h:Keep p s t)(k:Keep p t s'):Keep p s s':=⟨Qau h.nx k.nx,k.fr.trans h.fr,λb hb hp=>(k.get b (QaN hb h.nx) hp).trans (h.get b hb hp)⟩
theorem Keep.nw (h:Keep p s t)(ds:List AV):Keep p s (nw t ds):=⟨Qcv h.nx,h.fr,λb hb hp=>(Je (by have:=h.nx; omega)).trans (h.get b hb hp)⟩
theorem Keep.wr (h:Keep p s t){c:Nat}(hc:c=p∨s.nx≤c)(o:Nat)(vs:List AV):Keep p s (wr t c o vs):=⟨h.nx,h.fr,λb hb hp=>(zN (by omega)).trans (h.get b hb hp)⟩
theorem Keep.kl (h:Keep p s t){c:Nat}(hc:s.nx≤c):Keep p s (kl c t):=⟨h.nx,h.fr,λb hb hp=>(wx (by omega)).trans (h.get b hb hp)⟩
theorem Keep.kills (h:Keep p s t){ks:List Nat}(hc:∀ c∈ks,s.nx≤c):Keep p s (kills ks t):=⟨h.nx,h.fr,λb hb hp=>by
 show jq (ks.foldr _ t.h) b=_;rw [XV,if_neg (λhm=>by have:=hc b hm; omega)];exact h.get b hb hp⟩
theorem Keep.aps {lo hi n z:Nat}{v:AV}{ds:List AV}{u:St}(h:Keep p s t)(V:Lv lo hi u v n ds z)(hlo:s.nx≤lo)(news:List AV):Keep p s (aps v t news):=⟨by rw [jj]; exact Qcv h.nx,by rw [ub]; exact h.fr,λb hb hp=>(V.get t news b (by omega) (by have:=h.nx; omega)).trans (h.get b hb hp)⟩
theorem Keep.cl (h:Keep p s t)(C:Cl s b cs)(hb:b≠p):Cl t b cs:=C.keep h.nx (h.get b C.lt hb)
theorem Keep.lv {lo hi n z:Nat}{v:AV}(h:Keep p s t)(V:Lv lo hi s v n cs z)(hb:p<lo∨hi≤p):Lv lo hi t v n cs z:=V.imp id λ⟨c,h1,h2,h3,h4,h5,h6⟩=>⟨c,h1,h2,h3,h.cl h4 (by omega),h5,h6⟩
theorem Keep.lr {v:AV}{n:Nat}(h:Keep p s t)(V:Lr s v n cs)(hb:∀ b m z x,v=.slice b 0 n m z x->b≠p):Lr t v n cs:=by
 rcases V with e | e | ⟨b,m,z,x,e,h1,h2⟩
 ·exact .inl e
 ·exact .inr (.inl e)
 ·exact .inr (.inr ⟨b,m,z,x,e,h1,h.cl h2 (hb b m z x e)⟩)
theorem Keep.back (h:Keep p s t):Keep p s (back s t):=⟨h.nx,rfl,h.get⟩
theorem Keep.bare (h:Keep p s.bare t)(u:St):Keep p s (Go.Ev.back s t):=⟨h.nx,rfl,h.get⟩
end
end Go.Sy
end
