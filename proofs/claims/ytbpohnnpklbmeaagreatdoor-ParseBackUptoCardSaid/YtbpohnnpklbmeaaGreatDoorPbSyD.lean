/-
  Contracts: the code lowered, what it does told by rules, and the contracts of the functions that the law reaches.
-/
import Derived.Test.YtbpohnnpklbmeaaGreatDoorPbSyC
import Derived.Test.YtbpohnnpklbmeaaGreatDoorProg
import Derived.KernelRfl
import Derived.ChangeArms
set_option linter.unusedVariables false
set_option linter.unusedSimpArgs false
open Int renaming reduceToNat → Qaa, natCast_zero → Qaj, zero_add → Qan, ofNat → Qbh, eq_ofNat_of_zero_le → Qbq, natCast_nonneg → Qcd
open Nat renaming reduceAdd → Qab, reduceSub → Qac, reduceMul → Qad, reduceBEq → Qae, ble → Qao, le_refl → Qaq, beq → Qar, mul → Qat, le_trans → Qav, succ → QaA, add → QaD, le_max_right → QaE, le_max_left → QaI, mul_le_mul_right → QaJ, zero_add → QaL, lt_of_lt_of_le → QaM, zero_le → QaT, lt_or_ge → QaX, sub → Qbc, sub_zero → Qbn, succ_pos → Qbo, add_mul → Qbp, succ_mul → Qbr, not_lt_zero → Qbw, zero_mul → Qby, add_assoc → QbB, mod_eq_of_lt → QbD, succ_lt_succ → QbG, min_eq_left → QbL, add_zero → QbV, le_of_eq → QbY, lt_irrefl → Qcb, ne_of_lt → Qcg, lt_trichotomy → Qcn
open Go.Proofs.Tryz renaming prog → Qaf
open List renaming getD_cons_zero → Qag, getD_cons_succ → Qah, map_cons → Qai, length_append → Qak, length_cons → Qal, map_nil → Qam, length_nil → Qap, getElem_mem → Qau, all_eq_true → Qaw, getElem?_eq_getElem → Qay, cons_append → QaB, append_assoc → QaC, getD_eq_getElem?_getD → QaF, nil_append → QaG, range' → QaH, take_length → QaK, length_map → QaN, getD → QaO, length_take → QaP, length_drop → QaQ, range → QaS, eq_nil_of_length_eq_zero → QaU, cons → QaY, append_nil → Qba, mem_cons → Qbe, all_cons → Qbf, mem_map → Qbi, all_append → Qbk, take_zero → Qbm, map_congr_left → Qbs, range'_succ → Qbu, map_map → QbA, drop_drop → QbC, drop_zero → QbF, getElem_cons_zero → QbH, getElem_cons_succ → QbI, getElem?_take → QbJ, map_append → QbM, singleton_append → QbN, getElem?_append_right → QbO, getElem?_map → QbP, flatMap_cons → QbQ, mem_of_mem_take → QbR, mem_iff_getElem → QbS, getElem?_append_left → QbT, mem_cons_of_mem → QbU, ext_getElem → QbW, map_toArray → QbX, take_succ_cons → QbZ, getElem?_drop → Qcc, take_take → Qce, countP_singleton → Qcf, take_append_drop → Qch, foldr_cons → Qcl, any_eq_false → Qco
open Bool renaming and_eq_true → Qas, not_eq_true' → QaV, eq_iff_iff → QaW, false_eq_true → Qbb, or_eq_true → Qbg, or_eq_false_iff → Qbj, true_eq_false → QbK
open Array renaming length_toList → Qax, getElem?_eq_some_iff → Qaz, replicate → QaZ, getD_eq_getD_getElem? → Qbv, getElem?_toList → Qbz, toList_map → QbE, getElem?_setIfInBounds_ne → Qca, mem_toList_iff → Qci, toList_append → Qcj, getElem?_eq_getElem → Qck
open Option renaming map_some → QaR, getD_some → Qbd, bind_some → Qbl, map_none → Qbt, map_eq_some_iff → Qbx
open Function renaming comp_def → Qcm
noncomputable section
set_option maxRecDepth 100000
namespace Go.Sy
open Go.Ev Go.Proofs
variable {base:Bs}
inductive SR (α:Type) where
 | ok (x:α) (j:Nat)
 | er (t:Tk)
def Nbs (ts:List Tk):Prop:=∀ i,(tk ts i).num≤1000000
def AnS {α:Type}(base:Bs)(f:FuncId)(c xs:List AV)(ts:List Tk)(d:Nat)(enc:α->AV):SR α->Prop
 | .ok x j=>PM Qaf base f c xs (.ok (enc x)) (pC ts j d)
 | .er t=>∃ i' d',PM Qaf base f c xs (.pn (er t)) (pC ts i' d')
def SK {α:Type}(ts:List Tk)(d:Nat)(enc:α->AV)(r:SR α)(v:AV)(s:St):Prop:=match r with | .ok y j=>G1 3 (pC ts j d) (enc y) v s | .er _=>False
def SP {α:Type}(ts:List Tk)(r:SR α)(v:AV)(s:St):Prop:=match r with | .ok _ _=>False | .er t=>∃ i' d',G1 3 (pC ts i' d') (er t) v s
theorem KG {α:Type}(ts:List Tk)(d:Nat)(enc:α->AV)(y:α)(j:Nat)(v:AV)(s:St):SK ts d enc (.ok y j) v s=G1 3 (pC ts j d) (enc y) v s:=nr rfl
theorem yW {α:Type}(ts:List Tk)(t:Tk)(v:AV)(s:St):SP (α:=α) ts (.er t) v s = ∃ i' d',G1 3 (pC ts i' d') (er t) v s:=nr rfl
theorem ZE {α:Type}{f:FuncId}{F:XF}(hl:ju Qaf f=some F)(hnd:F.body.nd=true)(hm:base.pur f=3){xs:List AV}{ts:List Tk}{i d:Nat}{enc:α->AV}{r:SR α}
  (h:xC Qaf base F.body (jj F.ps (.ptr 0 0 :: xs)) (nw st0 (pC ts i d)) (Yv Qaf F.res (SK ts d enc r)) λv _ s=>SP ts r v s.bare):AnS base f (pC ts i d) xs ts d enc r:=by
 rw [←UN] at h;obtain ⟨q,he,hq⟩:=ZD (st:=XX (pC ts i d)) (K:=SK ts d enc r) (Kp:=SP ts r) hl hnd h;cases r with
 | ok y j=>
  refine PM.of hm rfl ⟨q,he,?_⟩;cases q <;> first | exact hq | exact hq.elim
 | er t=>
  cases q with
  | no=>exact hq.elim
  | ok v s=>exact (hq:False).elim
  | pn v s=>
   obtain ⟨i',d',hq⟩:=(hq:∃ i' d',G1 3 (pC ts i' d') (er t) v s);exact ⟨i',d',PM.of hm rfl ⟨_,he,hq⟩⟩
def QW (ts:List Tk)(i:Nat):SR Int:=
 if isM (tk ts i) [[45]]=true then (if (tk ts (i+1)).kind=2 then .ok (-((tk ts (i+1)).num:Int)) (i+2) else .er (tk ts (i+1)))
 else (if (tk ts i).kind=2 then .ok ((tk ts i).num:Int) (i+1) else .er (tk ts i))
theorem g9 (hb:NB base){ts:List Tk}(W:Wds ts)(N:Nbs ts){i d:Nat}(hi:i<ts.length):AnS base 128 (pC ts i d) [] ts d (λn=>.int .i64 n) (QW ts i):=by
 have wl:=W.len;have T:=Xf hb hi (d:=d) (by omega) [[45]] (cs:=[.str [45]]) (n:=1) rfl rfl (by decide);unfold QW;by_cases c1:isM (tk ts i) [[45]]=true
 ·rw [if_pos c1];have hi1:=W.isM hi c1;have hN:=λst p=>@Xn base hb ts (i+1) d hi1 st p;have hn:=N (i+1);by_cases k2:(tk ts (i+1)).kind=2
  ·rw [if_pos k2];have k2':((tk ts (i+1)).kind:Int)=2:=by omega
   show PM _ _ _ _ _ _ _;unfold pC at *;refine jW jaM (by rfl) (hb.pur 128 3 (by decide)) rfl ?_;simp only [gj,jj,Qai,Qam,Qag,Qah];unfold gi;try dsimp only [oo,oO,ot,oT,os,og,oh,oc,on,oN,oP]
   repeat' (first | (apply jc <;> intro _) | simp (disch:=first | exact dzD | fail) only [T,c1,hN,k2',je,Tk.cells_R,rzZ,Qab,Qac,Qad,Qaa,Qae])
   (refine G1.done ?_ (by rfl) (by rfl) ?_; (· (first | exact cyD | fail)); (· first | exact vyD | skip))
  ·rw [if_neg k2];have k2':¬ ((tk ts (i+1)).kind:Int)=2:=by omega
   refine ⟨i+1,d,?_⟩;unfold pC at *;refine jW jaM (by rfl) (hb.pur 128 3 (by decide)) rfl ?_;simp only [gj,jj,Qai,Qam,Qag,Qah];unfold gi;try dsimp only [oo,oO,ot,oT,os,og,oh,oc,on,oN,oP]
   repeat' (first | (apply jc <;> intro _) | simp (disch:=first | exact dzD | fail) only [T,c1,hN,k2',Jr hb,je,Tk.cells_R,rzZ,Qab,Qac,Qad,Qaa,Qae])
   (refine G1.done ?_ (by rfl) (by rfl) ?_; (· (first | exact cyD | fail)); (· first | exact vyD | skip))
 ·rw [if_neg c1];have hN:=λst p=>@Xn base hb ts i d hi st p;have hn:=N i;by_cases k2:(tk ts i).kind=2
  ·rw [if_pos k2];have k2':((tk ts i).kind:Int)=2:=by omega
   show PM _ _ _ _ _ _ _;unfold pC at *;refine jW jaM (by rfl) (hb.pur 128 3 (by decide)) rfl ?_;simp only [gj,jj,Qai,Qam,Qag,Qah];unfold gi;try dsimp only [oo,oO,ot,oT,os,og,oh,oc,on,oN,oP]
   repeat' (first | (apply jc <;> intro _) | simp (disch:=first | exact dzD | fail) only [T,c1,hN,k2',je,Tk.cells_R,rzZ,Qab,Qac,Qad,Qaa,Qae])
   (refine G1.done ?_ (by rfl) (by rfl) ?_; (· (first | exact cyD | fail)); (· first | exact vyD | skip))
  ·rw [if_neg k2];have k2':¬ ((tk ts i).kind:Int)=2:=by omega
   refine ⟨i,d,?_⟩;unfold pC at *;refine jW jaM (by rfl) (hb.pur 128 3 (by decide)) rfl ?_;simp only [gj,jj,Qai,Qam,Qag,Qah];unfold gi;try dsimp only [oo,oO,ot,oT,os,og,oh,oc,on,oN,oP]
   repeat' (first | (apply jc <;> intro _) | simp (disch:=first | exact dzD | fail) only [T,c1,hN,k2',Jr hb,je,Tk.cells_R,rzZ,Qab,Qac,Qad,Qaa,Qae])
   (refine G1.done ?_ (by rfl) (by rfl) ?_; (· (first | exact cyD | fail)); (· first | exact vyD | skip))
structure EnumT where
 name:List Nat
 vals:List (List Nat)
 line:Int
 col:Int
def enE (e:EnumT):List AV:=[.str e.name,.lst e.vals.length (e.vals.map .str),.int .i64 (e.line:Int),.int .i64 (e.col:Int)]
def Qj (ts:List Tk):Nat->Nat->List (List Nat)->SR (List (List Nat))
 | 0,i,_=>.er (tk ts i)
 | n+1,i,vs=>if (tk ts i).kind=1 then
   (if 32≤vs.length then .er (tk ts i)
    else if isM (tk ts (i+1)) [[44]]=true then Qj ts n (i+2) (vs ++ [(tk ts i).text])
    else if isM (tk ts (i+1)) [[125]]=true then .ok (vs ++ [(tk ts i).text]) (i+2)
    else .er (tk ts (i+1)))
  else .er (tk ts i)
def Xs (ts:List Tk)(i:Nat):SR EnumT:=
 if (tk ts i).kind=1 then
  (if isM (tk ts (i+1)) [[123]]=true then (match Qj ts ts.length (i+2) [] with
    | .ok vs j=>.ok ⟨(tk ts i).text,vs,(tk ts i).line,(tk ts i).col⟩ j
    | .er t=>.er t)
   else .er (tk ts (i+1)))
 else .er (tk ts i)
end Go.Sy
end
noncomputable section
set_option maxRecDepth 100000
namespace Go.Sy
open Go.Ev Go.Proofs
variable {base:Bs}
theorem YY (hb:NB base){n:Nat}(h:n<32)(t:Tk):Tot base 77 [.int .i64 (n:Int),.agg t.cells] (.tup []):=by
 have:=jcS hb n t;rw [if_neg (by omega)] at this;exact this
theorem YZ (hb:NB base){n:Nat}(h:32≤n)(t:Tk):Ret base 77 [.int .i64 (n:Int),.agg t.cells] (.pn (er t)):=by
 have:=jcS hb n t;rw [if_pos h] at this;exact this
theorem jkH:Go.Ev.isAgg Qaf 91=some false:=by kernel_rfl
theorem jkG:Go.Ev.sizeOf Qaf 91=some 1:=by kernel_rfl
theorem jeG {b o:Nat}{v:AV}{h:T AO}(ho:o<qq h b)(hv:rat h b o=v)(hc:eqs v=true):(jX Qaf 91 (.ptr b o) v h=true)=True:=eq_true (J4 jkH jkG ho hv hc)
theorem Lv.eqs {lo hi n z:Nat}{s:St}{v:AV}{cs:List AV}(h:Lv lo hi s v n cs z):Go.Sy.eqs v=true:=by
 rcases h with ⟨rfl,_⟩ | ⟨b,rfl,_⟩ <;> rfl
theorem Lv.cell {lo hi n z:Nat}{s:St}{v:AV}{cs:List AV}(h:Lv lo hi s v n cs z):v.cell=true:=by
 rcases h with ⟨rfl,_⟩ | ⟨b,rfl,_⟩ <;> rfl
theorem Lv.cells {lo hi n z:Nat}{s:St}{v:AV}{cs:List AV}(h:Lv lo hi s v n cs z):v.cells=[v]:=by
 rcases h with ⟨rfl,_⟩ | ⟨b,rfl,_⟩ <;> rfl
theorem Lv.plain {lo hi n z:Nat}{s:St}{v:AV}{cs:List AV}(h:Lv lo hi s v n cs z):v.plain=true:=by
 rcases h with ⟨rfl,_⟩ | ⟨b,rfl,_⟩ <;> rfl
theorem Lv.len {lo hi n z:Nat}{s:St}{v:AV}{cs:List AV}(h:Lv lo hi s v n cs z)(st:St)(K:AV->St->Prop):jf (Ge v st) K=K (.int .i64 (n:Int)) st:=by
 rcases h with ⟨rfl,rfl,_⟩ | ⟨b,rfl,_⟩
 ·exact gD
 ·exact jaO ..
theorem jr (z:Nat)(v:AV)(s:St):(apv z v s).cells=[apv z v s]:=by unfold apv; split <;> rfl
theorem jF (z:Nat)(v:AV)(s:St):(apv z v s).plain=true:=by unfold apv; split <;> rfl
theorem jO (z:Nat)(v:AV)(s:St)(l:List AV):lall AV.cell (apv z v s :: l)=lall AV.cell l:=by unfold apv; split <;> rfl
set_option maxHeartbeats 4000000 in
theorem jj1 (hb:NB base){ts:List Tk}(W:Wds ts){i d:Nat}(hi:i<ts.length):AnS base 78 (pC ts i d) [] ts d (λe=>.agg (enE e)) (Xs ts i):=by
 have wl:=W.len;have N:=λst p=>@wJ base hb ts i d hi (by omega) st p;unfold Xs;by_cases k1:(tk ts i).kind=1
 ·rw [if_pos k1];have hi1:i+1<ts.length:=W.next i hi (by omega)
  have M:=λst p=>@JI base hb ts (i+1) d hi1 (by omega) [123] st p;by_cases c1:isM (tk ts (i+1)) [[123]]=true
  ·rw [if_pos c1];have hi2:=W.isM hi1 c1;suffices h:∀ r:SR EnumT,(match Qj ts ts.length (i+2) [] with
    | .ok vs j=>SR.ok ⟨(tk ts i).text,vs,(tk ts i).line,(tk ts i).col⟩ j
    | .er t=>.er t:SR EnumT)=r->AnS base 78 (pC ts i d) [] ts d (λe=>.agg (enE e)) r from h _ rfl
   intro r hr;refine ZE x78 (by rfl) (hb.pur 78 3 (by decide)) ?_;simp only [y78,jj,Qai,Qam,Qag,Qah];unfold z78;try dsimp only [oo,oO,ot,oT,os,og,oh,oc,on,oN,oP]
   unfold pC at *;repeat' (first | (apply jc <;> intro _) | simp (disch:=first | exact dzD | fail) only [N,k1,M,c1,je,Tk.cells_R,rzZ,Qab,Qac,Qad,Qaa,Qae])
   refine ww λu hu=>?_;have n0:u.nx=4:=by rw [hu]; rfl
   have C0:Cl u 0 (pC ts (i+2) d):=by
    rw [hu]; unfold pC
    (first | exact cyD | fail)
   have C1:Cl u 1 [.str [],.nils,.int .i64 0,.int .i64 0]:=by
    rw [hu]
    (first | exact cyD | fail)
   have C3:Cl u 3 [.str (tk ts i).text,.nils,.int .i64 ((tk ts i).line:Int),.int .i64 ((tk ts i).col:Int)]:=by
    rw [hu]
    (first | exact cyD | fail)
   clear hu N M;generalize (tk ts i).text=nm at *;generalize (tk ts i).line=ln at *;generalize (tk ts i).col=co at *;refine zG (λmm L s=>∃ (m i':Nat) (vs:List (List Nat)) (v:AV),mm=m∧ts.length≤i'+m∧i'<ts.length∧(match Qj ts m i' vs with | .ok vs j=>SR.ok ⟨nm,vs,ln,co⟩ j | .er t=>.er t:SR EnumT)=r∧4≤s.nx∧Cl s 0 (pC ts i' d)∧Cl s 1 [.str [],.nils,.int .i64 0,.int .i64 0]∧Cl s 3 [.str nm,v,.int .i64 (ln:Int),.int .i64 (co:Int)]∧Lv 4 s.nx s v vs.length (vs.map .str) 1∧Has L 0 (.ptr 0 0)∧Has L 2 (.ptr 1 0)∧Has L 4 (.ptr 3 0)) ?_ ts.length ?_
   ·rintro m L s ⟨_,i',vs,v,rfl,hm,hi',hl,n0,C0,C1,C3,V,i0,i2,i4⟩;clear hr;cases m with
    | zero=>omega
    | succ m=>
    unfold Qj at hl;obtain ⟨q,hq⟩:∃ q,q=s.nx:=⟨_,rfl⟩;rw [←hq] at V;have hq':q≤s.nx:=QbY hq;have hN:=λst p=>@Xn base hb ts i' d hi' st p;have hM:=λst p=>@wJ base hb ts i' d hi' (by omega) st p;have L0:=C0.lt;have L1:=C1.lt;have L3:=C3.lt;have ve:=V.eqs;have g3:rat s.h 3 1=v:=C3.cell 1 (QbG (Qbo 2));have vl:=V.len;by_cases k1:(tk ts i').kind=1
    ·rw [if_pos k1] at hl;have k1':((tk ts i').kind:Int)=1:=by omega
     have hi1:i'+1<ts.length:=W.next i' hi' (by omega)
     by_cases h32:32≤vs.length
     ·rw [if_pos h32] at hl;subst hl;have R:=YZ hb h32 (tk ts i');unfold pC at *
      (have zz:=aI @g3 (aI C0.r (aI C1.r C3.r)); (repeat' (first | (apply jc <;> intro _) | simp (disch:=first | exact qz | fail) only [ja i0,ja i2,ja i4,hN,k1',vl,R,jeG,ve,yW,C0.q,C1.q,C3.q,g3,C0.r,C1.r,C3.r,je,Tk.cells_R,rzZ,Qab,Qac,Qad,Qaa,Qae])); (all_goals (clear zz)))
      refine ⟨i',d,?_⟩;unfold pC
      (refine G1.done ?_ (by rfl) (by rfl) ?_; (· (have zz:=aI C0.q (aI C1.q (aI C3.q (aI C0.r (aI C1.r C3.r)))); first | exact j4 | fail)); (· first | exact vyD | skip))
     ·rw [if_neg h32] at hl;have R:=YY hb (show vs.length<32 by omega) (tk ts i');have T:=Xf hb hi1 (d:=d) (by omega) [[44]] (cs:=[.str [44]]) (n:=1) rfl rfl (by decide);have M:=λst p=>@JI base hb ts (i'+1) d hi1 (by omega) [125] st p;have A:=λst bv xc xx K h hv=>@vU 4 q vs.length 1 st v (vs.map .str) K 16 bv xc xx h (by decide) (by omega) (by omega) hv;have V2:∀ st m',Lv 4 q st v vs.length (vs.map .str) 1->4≤st.nx->m'=st.nx+1->Lv 4 m' (aps v st [.str (tk ts i').text]) (apv 1 v st) (vs ++ [(tk ts i').text]).length ((vs ++ [(tk ts i').text]).map .str) 1:=λst m' h h2 h3=>by
       rw [Qak,QbM];exact h.put rfl h2 h3
      unfold pC at *
      (have zz:=aI @g3 (aI V.ln (aI V.rts (aI @jP (aI @jQ (aI @j3 (aI @V (aI @ve (aI @jr (aI @jF (aI @jO (aI C0.r (aI C1.r C3.r)))))))))))); (repeat' (first | (apply jc <;> intro _) | simp (disch:=first | exact qz | fail) only [ja i0,ja i2,ja i4,hN,hM,k1,k1',vl,R,jeG,ve,A,V.at,jr,C0.q,C1.q,C3.q,g3,V.ln,V.rts,jP,jQ,j3,V,ve,jr,jF,jO,C0.r,C1.r,C3.r,je,Tk.cells_R,rzZ,Qab,Qac,Qad,Qaa,Qae])); (all_goals (clear zz)))
      rw [T _ 0 (s.nx+1+1) 1 true (by (have zz:=aI C0.q (aI C1.q (aI C3.q (aI @g3 (aI V.ln (aI V.rts (aI C0.r (aI C1.r C3.r))))))); first | exact j4 | fail)) (by (have zz:=aI C0.q (aI C1.q (aI C3.q (aI @g3 (aI V.ln (aI V.rts (aI C0.r (aI C1.r C3.r))))))); first | exact j4 | fail)) (by omega)]
      (have zz:=aI @g3 (aI V.ln (aI V.rts (aI @jr (aI @jF (aI @jO (aI C0.r (aI C1.r C3.r))))))); (repeat' (first | (apply jc <;> intro _) | simp (disch:=first | exact qz | fail) only [ja i0,ja i2,ja i4,M,V.at,jr,KG,yW,C0.q,C1.q,C3.q,g3,V.ln,V.rts,jr,jF,jO,C0.r,C1.r,C3.r,je,Tk.cells_R,rzZ,Qab,Qac,Qad,Qaa,Qae])); (all_goals (clear zz)))
      ·rename_i c;rw [if_pos c] at hl;have hi2:=W.isM hi1 c;refine ⟨m,by omega,m,i'+1+1,vs ++ [(tk ts i').text],?v,rfl,by omega,hi2,hl,by omega,?c0,?c1,?c3,?lv,?has⟩;case lv=>
        refine Lv.up (hi:=s.nx+2) ?_ (by omega);simp (disch:=first | omega | (simp only [jg,jh,jo,jk]; omega)) only [jP,jQ,j3];refine V2 _ _ ?_ ?_ ?_;all_goals first | (simp only [jg,jh]; done) | (simp only [jg,jh]; omega) | (simp (disch:=first | omega | (simp only [jg,jh]; omega)) only [jP,jQ]; exact V)
       case c0=>(have zz:=aI C0.q (aI C1.q (aI C3.q (aI @g3 (aI V.ln (aI V.rts (aI @jr (aI @jF (aI @jO (aI C0.r (aI C1.r C3.r)))))))))); first | exact j4 | fail)
       case c1=>(have zz:=aI C0.q (aI C1.q (aI C3.q (aI @g3 (aI V.ln (aI V.rts (aI @jr (aI @jF (aI @jO (aI C0.r (aI C1.r C3.r)))))))))); first | exact j4 | fail)
       case c3=>(have zz:=aI C0.q (aI C1.q (aI C3.q (aI @g3 (aI V.ln (aI V.rts (aI @jr (aI @jF (aI @jO (aI C0.r (aI C1.r C3.r)))))))))); first | exact j4 | fail)
       case has=>simp (disch:=decide) only [Qaj,Qan,z0,z1,jd,jb,and_true,true_and,i0,i2,i4]
      ·rename_i c c2;rw [if_neg c,if_pos c2] at hl;have hl:SR.ok (⟨nm,vs ++ [(tk ts i').text],ln,co⟩:EnumT) (i'+2)=r:=hl;subst hl;show G1 3 (pC ts (i'+2) d) (.agg (enE ⟨nm,vs ++ [(tk ts i').text],ln,co⟩)) _ _;refine G1.done ?_ (by rfl) (by rfl) (FzD.agg (.cons (.pc rfl) (.cons (Lv.fz (lo:=4) (hi:=s.nx+2) (z:=1) ?_ (by decide) (wB _)) (.cons (.pc rfl) (.cons (.pc rfl) .nil)))))
       ·unfold pC
        (have zz:=aI C0.q (aI C1.q (aI C3.q (aI @g3 (aI V.ln (aI V.rts (aI @jr (aI @jF (aI @jO (aI C0.r (aI C1.r C3.r)))))))))); first | exact j4 | fail)
       ·simp (disch:=first | omega | (simp only [jg,jh,jo,jk]; omega)) only [j6,jP,jQ,j3];refine V2 _ _ ?_ ?_ ?_;all_goals first | (simp only [jg,jh]; done) | (simp only [jg,jh]; omega) | (simp (disch:=first | omega | (simp only [jg,jh]; omega)) only [jP,jQ]; exact V)
      ·rename_i c c2;rw [if_neg c,if_neg c2] at hl;have hl:SR.er (tk ts (i'+1))=r:=hl;subst hl;refine ⟨i'+1,d,?_⟩;unfold pC
       (refine G1.done ?_ (by rfl) (by rfl) ?_; (· (have zz:=aI C0.q (aI C1.q (aI C3.q (aI @g3 (aI V.ln (aI V.rts (aI @jr (aI @jF (aI @jO (aI C0.r (aI C1.r C3.r)))))))))); first | exact j4 | fail)); (· first | exact vyD | skip))
    ·rw [if_neg k1] at hl;have k1':¬ ((tk ts i').kind:Int)=1:=by omega
     subst hl;unfold pC at *
     (have zz:=aI @g3 (aI C0.r (aI C1.r C3.r)); (repeat' (first | (apply jc <;> intro _) | simp (disch:=first | exact qz | fail) only [ja i0,ja i2,ja i4,hN,hM,k1,k1',jeG,ve,yW,C0.q,C1.q,C3.q,g3,C0.r,C1.r,C3.r,je,Tk.cells_R,rzZ,Qab,Qac,Qad,Qaa,Qae])); (all_goals (clear zz)))
     refine ⟨i',d,?_⟩;unfold pC
     (refine G1.done ?_ (by rfl) (by rfl) ?_; (· (have zz:=aI C0.q (aI C1.q (aI C3.q (aI C0.r (aI C1.r C3.r)))); first | exact j4 | fail)); (· first | exact vyD | skip))
   ·refine ⟨ts.length,i+2,[],.nils,rfl,by omega,hi2,hr,by omega,C0,C1,C3,Lv.nil,?_⟩;simp (disch:=decide) only [Qaj,Qan,z0,z1,jd,jb,and_true,true_and]
  ·rw [if_neg c1];refine ⟨i+1,d,?_⟩;unfold pC at *;refine jW x78 (by rfl) (hb.pur 78 3 (by decide)) rfl ?_;simp only [y78,jj,Qai,Qam,Qag,Qah];unfold z78;try dsimp only [oo,oO,ot,oT,os,og,oh,oc,on,oN,oP]
   repeat' (first | (apply jc <;> intro _) | simp (disch:=first | exact dzD | fail) only [N,k1,M,c1,je,Tk.cells_R,rzZ,Qab,Qac,Qad,Qaa,Qae])
   (refine G1.done ?_ (by rfl) (by rfl) ?_; (· (first | exact cyD | fail)); (· first | exact vyD | skip))
 ·rw [if_neg k1];refine ⟨i,d,?_⟩;unfold pC at *;refine jW x78 (by rfl) (hb.pur 78 3 (by decide)) rfl ?_;simp only [y78,jj,Qai,Qam,Qag,Qah];unfold z78;try dsimp only [oo,oO,ot,oT,os,og,oh,oc,on,oN,oP]
  repeat' (first | (apply jc <;> intro _) | simp (disch:=first | exact dzD | fail) only [N,k1,je,Tk.cells_R,rzZ,Qab,Qac,Qad,Qaa,Qae])
  (refine G1.done ?_ (by rfl) (by rfl) ?_; (· (first | exact cyD | fail)); (· first | exact vyD | skip))
end Go.Sy
end
noncomputable section
set_option maxRecDepth 100000
namespace Go.Sy
open Go.Ev Go.Proofs
variable {base:Bs}
structure DeclT where
 name:List Nat
 ty:List Nat
 lo:Int
 hi:Int
 begins:List Ex
 line:Int
 col:Int
def qu (d:DeclT):List AV:=[.str d.name,.str d.ty,.int .i64 d.lo,.int .i64 d.hi,.lst d.begins.length (fl eE d.begins),.int .i64 (d.line:Int),.int .i64 (d.col:Int)]
def Zg (ts:List Tk)(i:Nat):SR (List Nat×Int×Int):=
 if isM (tk ts i) [[98,111,111,108]]=true then .ok ([98,111,111,108],0,0) (i+1)
 else if (tk ts i).kind=1 then .ok ((tk ts i).text,0,0) (i+1)
 else match QW ts i with
  | .er t=>.er t
  | .ok lo j=>if isM (tk ts j) [[46,46]]=true then (match QW ts (j+1) with
   | .er t=>.er t
   | .ok hi k=>.ok ([],lo,hi) k) else .er (tk ts j)
def Yy (ts:List Tk)(i:Nat):SR (List Ex):=
 if isM (tk ts i) [[61]]=true then (match zj ts (i+1) with
  | .er t=>.er t
  | .ok x j=>if isM (tk ts j) [[59]]=true then .ok [x] (j+1) else .er (tk ts j))
 else if isM (tk ts i) [[59]]=true then .ok [] (i+1) else .er (tk ts i)
def Xt (ts:List Tk)(i:Nat):SR DeclT:=
 if (tk ts i).kind=1 then
  (if isM (tk ts (i+1)) [[58]]=true then (match Zg ts (i+2) with
    | .er t=>.er t
    | .ok y j=>(match Yy ts j with
     | .er t=>.er t
     | .ok bs k=>.ok ⟨(tk ts i).text,y.1,y.2.1,y.2.2,bs,(tk ts i).line,(tk ts i).col⟩ k))
   else .er (tk ts (i+1)))
 else .er (tk ts i)
def zD:List AV:=[.str [],.str [],.int .i64 0,.int .i64 0,.nils,.int .i64 0,.int .i64 0]
theorem jk1 {m d b cap:Nat}{s:St}{ks:List Ex}{ex:Bool}{cs:List AV}(C:Cl s b cs)(hc:cs=fl eE ks)(hm:m≤b):FzD m (d+3) s (.slice b 0 ks.length cap 6 ex) (.lst ks.length (fl eE ks)):=by
 subst hc;have hl:=Xq JD ks;refine FzD.slice C.rw_ (QbY hl.symm) hm ?_;rw [←hl,QaK];exact .pc (YL zn ks)
set_option maxHeartbeats 4000000 in
theorem jbE (hb:NB base){ts:List Tk}(W:Wds ts){j:Nat}(hj:j<ts.length){nm ty:List Nat}{lo hi:Int}{ln co:Nat}{r:SR DeclT}
  (hr:(match Yy ts j with | .er t=>SR.er t | .ok bs k=>.ok ⟨nm,ty,lo,hi,bs,ln,co⟩ k)=r) {L:Sl} {s:St} (n0:4≤s.nx) (C0:Cl s 0 (pC ts j 0)) (C1:Cl s 1 zD)
  (C3:Cl s 3 [.str nm,.str ty,.int .i64 lo,.int .i64 hi,.nils,.int .i64 (ln:Int),.int .i64 (co:Int)]) (i0:Has L 0 (.ptr 0 0)) (i2:Has L 2 (.ptr 1 0)) (i4:Has L 4 (.ptr 3 0)) :
  xC Qaf base jel L s (Yv Qaf y79.res (SK ts 0 (λd=>.agg (qu d)) r)) λv _ s=>SP ts r v s.bare:=by
 have wl:=W.len;have L0:=C0.lt;have L1:=C1.lt;have L3:=C3.lt;have T:=Xf hb hj (d:=0) (by omega) [[61]] (cs:=[.str [61]]) (n:=1) rfl rfl (by decide);unfold Yy at hr;unfold jel zD pC at *;try dsimp only [oo,oO,ot,oT,os,og,oh,oc,on,oN,oP]
 simp only [y79];by_cases c1:isM (tk ts j) [[61]]=true
 ·rw [if_pos c1] at hr;have hj1:=W.isM hj c1;have A:=u0 hb W hj1;cases hw:zj ts (j+1) with
  | er t=>
   rw [hw] at hr A;have hr:SR.er t=r:=hr;subst hr;obtain ⟨i',d',A⟩:=A;have E:∀ st p,Cl st p (pC ts (j+1) 0)->∀ K Kp,XB Qaf base 48 [.ptr p 0] st K Kp=_:=λst p C K Kp=>A.xb C rfl (λst=>hb.no 48 (by decide) _ _) K Kp;unfold pC at *
   (have zz:=aI C0.r (aI C1.r C3.r); (repeat' (first | (apply jc <;> intro _) | simp (disch:=first | exact qz | fail) only [ja i0,ja i2,ja i4,T,c1,E,yW,C0.q,C1.q,C3.q,C0.r,C1.r,C3.r,je,Tk.cells_R,rzZ,Qab,Qac,Qad,Qaa,Qae])); (all_goals (clear zz)))
   refine ⟨i',d',?_⟩;unfold pC
   (refine G1.done ?_ (by rfl) (by rfl) ?_; (· (have zz:=aI C0.q (aI C1.q (aI C3.q (aI C0.r (aI C1.r C3.r)))); first | exact j4 | fail)); (· first | exact vyD | skip))
  | ok x q=>
   rw [hw] at hr A;have A:PM _ _ _ _ _ _ _:=A;have E:∀ st p,Cl st p (pC ts (j+1) 0)->∀ K Kp,XB Qaf base 48 [.ptr p 0] st K Kp=_:=λst p C K Kp=>A.xb C rfl (λst=>hb.no 48 (by decide) _ _) K Kp;have hq:q<ts.length:=(zC W hj1 hw).2.1;have M:=λst p=>@JI base hb ts q 0 hq (by omega) [59] st p;unfold pC at *
   (have zz:=aI C0.r (aI C1.r C3.r); (repeat' (first | (apply jc <;> intro _) | simp (disch:=first | exact qz | fail) only [ja i0,ja i2,ja i4,T,c1,E,M,yW,KG,C0.q,C1.q,C3.q,C0.r,C1.r,C3.r,je,Tk.cells_R,rzZ,Qab,Qac,Qad,Qaa,Qae])); (all_goals (clear zz)))
   ·rename_i c2;dsimp only at hr;rw [if_pos c2] at hr;have hr:SR.ok (⟨nm,ty,lo,hi,[x],ln,co⟩:DeclT) (q+1)=r:=hr;subst hr;show G1 3 (pC ts (q+1) 0) (.agg (qu ⟨nm,ty,lo,hi,[x],ln,co⟩)) _ _;refine G1.done ?_ (by rfl) (by rfl) (FzD.agg (.cons (.pc rfl) (.cons (.pc rfl) (.cons (.pc rfl) (.cons (.pc rfl) (.cons (jk1 (ks:=[x]) (cs:=eE x) ?_ (by rw [Yo]) (by omega)) (.pc rfl)))))))
    ·unfold pC
     (have zz:=aI C0.q (aI C1.q (aI C3.q (aI C0.r (aI C1.r C3.r)))); first | exact j4 | fail)
    ·(have zz:=aI C0.q (aI C1.q (aI C3.q (aI C0.r (aI C1.r C3.r)))); first | exact j4 | fail)
   ·rename_i c2;dsimp only at hr;rw [if_neg c2] at hr;have hr:SR.er (tk ts q)=r:=hr;subst hr;refine ⟨q,0,?_⟩;unfold pC
    (refine G1.done ?_ (by rfl) (by rfl) ?_; (· (have zz:=aI C0.q (aI C1.q (aI C3.q (aI C0.r (aI C1.r C3.r)))); first | exact j4 | fail)); (· first | exact vyD | skip))
 ·rw [if_neg c1] at hr;have M:=λst p=>@JI base hb ts j 0 hj (by omega) [59] st p;unfold pC at *
  (have zz:=aI C0.r (aI C1.r C3.r); (repeat' (first | (apply jc <;> intro _) | simp (disch:=first | exact qz | fail) only [ja i0,ja i2,ja i4,T,c1,M,yW,KG,C0.q,C1.q,C3.q,C0.r,C1.r,C3.r,je,Tk.cells_R,rzZ,Qab,Qac,Qad,Qaa,Qae])); (all_goals (clear zz)))
  ·rename_i c2;rw [if_pos c2] at hr;have hr:SR.ok (⟨nm,ty,lo,hi,[],ln,co⟩:DeclT) (j+1)=r:=hr;subst hr;show G1 3 (pC ts (j+1) 0) (.agg (qu ⟨nm,ty,lo,hi,[],ln,co⟩)) _ _;refine G1.done ?_ (by rfl) (by rfl) (FzD.agg (.cons (.pc rfl) (.cons (.pc rfl) (.cons (.pc rfl) (.cons (.pc rfl) (.cons .nils (.pc rfl)))))));unfold pC
   (have zz:=aI C0.q (aI C1.q (aI C3.q (aI C0.r (aI C1.r C3.r)))); first | exact j4 | fail)
  ·rename_i c2;rw [if_neg c2] at hr;have hr:SR.er (tk ts j)=r:=hr;subst hr;refine ⟨j,0,?_⟩;unfold pC
   (refine G1.done ?_ (by rfl) (by rfl) ?_; (· (have zz:=aI C0.q (aI C1.q (aI C3.q (aI C0.r (aI C1.r C3.r)))); first | exact j4 | fail)); (· first | exact vyD | skip))
end Go.Sy
end
noncomputable section
set_option maxRecDepth 100000
namespace Go.Sy
open Go.Ev Go.Proofs
variable {base:Bs}
theorem VH {ts:List Tk}(W:Wds ts){i j:Nat}{n:Int}(hi:i<ts.length)(h:QW ts i=.ok n j):j<ts.length:=by
 unfold QW at h;by_cases c:isM (tk ts i) [[45]]=true
 ·rw [if_pos c] at h;have h1:=W.isM hi c;by_cases k:(tk ts (i+1)).kind=2
  ·rw [if_pos k] at h; cases h; exact W.next _ h1 (by omega)
  ·rw [if_neg k] at h; cases h
 ·rw [if_neg c] at h;by_cases k:(tk ts i).kind=2
  ·rw [if_pos k] at h; cases h; exact W.next _ hi (by omega)
  ·rw [if_neg k] at h; cases h
set_option maxHeartbeats 4000000 in
theorem jk8 (hb:NB base){ts:List Tk}(W:Wds ts)(N:Nbs ts){i:Nat}(hi:i<ts.length){nm:List Nat}{ln co:Nat}{r:SR DeclT}
  (hr:(match Zg ts i with | .er t=>SR.er t | .ok y j=>(match Yy ts j with | .er t=>.er t | .ok bs k=>.ok ⟨nm,y.1,y.2.1,y.2.2,bs,ln,co⟩ k))=r) {L:Sl} {s:St} (n0:4≤s.nx) (C0:Cl s 0 (pC ts i 0)) (C1:Cl s 1 zD)
  (C3:Cl s 3 [.str nm,.str [],.int .i64 0,.int .i64 0,.nils,.int .i64 (ln:Int),.int .i64 (co:Int)]) (i0:Has L 0 (.ptr 0 0)) (i2:Has L 2 (.ptr 1 0)) (i4:Has L 4 (.ptr 3 0)) :
  xC Qaf base jem L s (Yv Qaf y79.res (SK ts 0 (λd=>.agg (qu d)) r)) λv _ s=>SP ts r v s.bare:=by
 have wl:=W.len;have L0:=C0.lt;have L1:=C1.lt;have L3:=C3.lt;have T:=Xf hb hi (d:=0) (by omega) [[98,111,111,108]] (cs:=[.str [98,111,111,108]]) (n:=1) rfl rfl (by decide);have hN:=λst p=>@Xn base hb ts i 0 hi st p;have hM:=λst p=>@wJ base hb ts i 0 hi (by omega) st p;unfold Zg at hr;unfold jem zD pC at *;try dsimp only [oo,oO,ot,oT,os,og,oh,oc,on,oN,oP]
 by_cases c1:isM (tk ts i) [[98,111,111,108]]=true
 ·rw [if_pos c1] at hr;have hi1:=W.isM hi c1
  (have zz:=aI C0.r (aI C1.r C3.r); (repeat' (first | (apply jc <;> intro _) | simp (disch:=first | exact qz | fail) only [ja i0,ja i2,ja i4,T,c1,C0.q,C1.q,C3.q,C0.r,C1.r,C3.r,je,Tk.cells_R,rzZ,Qab,Qac,Qad,Qaa,Qae])); (all_goals (clear zz)))
  refine jbE hb W hi1 hr ?_ ?_ ?_ ?_ ?_ ?_ ?_
  ·simp only [jg,jh,jk]; omega
  ·unfold pC
   (have zz:=aI C0.q (aI C1.q (aI C3.q (aI C0.r (aI C1.r C3.r)))); first | exact j4 | fail)
  ·unfold zD
   (have zz:=aI C0.q (aI C1.q (aI C3.q (aI C0.r (aI C1.r C3.r)))); first | exact j4 | fail)
  ·(have zz:=aI C0.q (aI C1.q (aI C3.q (aI C0.r (aI C1.r C3.r)))); first | exact j4 | fail)
  ·simp (disch:=decide) only [Qaj,Qan,z0,z1,jd,jb,and_true,true_and,i0]
  ·simp (disch:=decide) only [Qaj,Qan,z0,z1,jd,jb,and_true,true_and,i2]
  ·simp (disch:=decide) only [Qaj,Qan,z0,z1,jd,jb,and_true,true_and,i4]
 rw [if_neg c1] at hr;by_cases k1:(tk ts i).kind=1
 ·rw [if_pos k1] at hr;have k1':((tk ts i).kind:Int)=1:=by omega
  have hi1:i+1<ts.length:=W.next i hi (by omega)
  (have zz:=aI C0.r (aI C1.r C3.r); (repeat' (first | (apply jc <;> intro _) | simp (disch:=first | exact qz | fail) only [ja i0,ja i2,ja i4,T,c1,k1,k1',hN,hM,C0.q,C1.q,C3.q,C0.r,C1.r,C3.r,je,Tk.cells_R,rzZ,Qab,Qac,Qad,Qaa,Qae])); (all_goals (clear zz)))
  refine jbE hb W hi1 hr ?_ ?_ ?_ ?_ ?_ ?_ ?_
  ·simp only [jg,jh,jk]; omega
  ·unfold pC
   (have zz:=aI C0.q (aI C1.q (aI C3.q (aI C0.r (aI C1.r C3.r)))); first | exact j4 | fail)
  ·unfold zD
   (have zz:=aI C0.q (aI C1.q (aI C3.q (aI C0.r (aI C1.r C3.r)))); first | exact j4 | fail)
  ·(have zz:=aI C0.q (aI C1.q (aI C3.q (aI C0.r (aI C1.r C3.r)))); first | exact j4 | fail)
  ·simp (disch:=decide) only [Qaj,Qan,z0,z1,jd,jb,and_true,true_and,i0]
  ·simp (disch:=decide) only [Qaj,Qan,z0,z1,jd,jb,and_true,true_and,i2]
  ·simp (disch:=decide) only [Qaj,Qan,z0,z1,jd,jb,and_true,true_and,i4]
 rw [if_neg k1] at hr;have k1':¬ ((tk ts i).kind:Int)=1:=by omega
 have A:=g9 hb W N hi (d:=0);cases hn:QW ts i with
 | er t=>
  rw [hn] at hr A;have hr:SR.er t=r:=hr;subst hr;obtain ⟨i',d',A⟩:=A;have E:∀ st p,Cl st p (pC ts i 0)->∀ K Kp,XB Qaf base 128 [.ptr p 0] st K Kp=_:=λst p C K Kp=>A.xb C rfl (λst=>hb.no 128 (by decide) _ _) K Kp;unfold pC at *
  (have zz:=aI C0.r (aI C1.r C3.r); (repeat' (first | (apply jc <;> intro _) | simp (disch:=first | exact qz | fail) only [ja i0,ja i2,ja i4,T,c1,k1',hN,E,yW,C0.q,C1.q,C3.q,C0.r,C1.r,C3.r,je,Tk.cells_R,rzZ,Qab,Qac,Qad,Qaa,Qae])); (all_goals (clear zz)))
  refine ⟨i',d',?_⟩;unfold pC
  (refine G1.done ?_ (by rfl) (by rfl) ?_; (· (have zz:=aI C0.q (aI C1.q (aI C3.q (aI C0.r (aI C1.r C3.r)))); first | exact j4 | fail)); (· first | exact vyD | skip))
 | ok lo j=>
  rw [hn] at hr A;dsimp only at hr;have A:PM _ _ _ _ _ _ _:=A;have hj:j<ts.length:=VH W hi hn;have E:∀ st p,Cl st p (pC ts i 0)->∀ K Kp,XB Qaf base 128 [.ptr p 0] st K Kp=_:=λst p C K Kp=>A.xb C rfl (λst=>hb.no 128 (by decide) _ _) K Kp;have M:=λst p=>@JI base hb ts j 0 hj (by omega) [46,46] st p;by_cases c2:isM (tk ts j) [[46,46]]=true
  ·rw [if_pos c2] at hr;have hj1:=W.isM hj c2;have B:=g9 hb W N hj1 (d:=0);cases hn2:QW ts (j+1) with
   | er t=>
    rw [hn2] at hr B;have hr:SR.er t=r:=hr;subst hr;obtain ⟨i',d',B⟩:=B;have F:∀ st p,Cl st p (pC ts (j+1) 0)->∀ K Kp,XB Qaf base 128 [.ptr p 0] st K Kp=_:=λst p C K Kp=>B.xb C rfl (λst=>hb.no 128 (by decide) _ _) K Kp;unfold pC at *
    (have zz:=aI C0.r (aI C1.r C3.r); (repeat' (first | (apply jc <;> intro _) | simp (disch:=first | exact qz | fail) only [ja i0,ja i2,ja i4,T,c1,k1',hN,E,F,M,c2,yW,C0.q,C1.q,C3.q,C0.r,C1.r,C3.r,je,Tk.cells_R,rzZ,Qab,Qac,Qad,Qaa,Qae])); (all_goals (clear zz)))
    refine ⟨i',d',?_⟩;unfold pC
    (refine G1.done ?_ (by rfl) (by rfl) ?_; (· (have zz:=aI C0.q (aI C1.q (aI C3.q (aI C0.r (aI C1.r C3.r)))); first | exact j4 | fail)); (· first | exact vyD | skip))
   | ok h2 k=>
    rw [hn2] at hr B;have hk:k<ts.length:=VH W hj1 hn2;have B:PM _ _ _ _ _ _ _:=B;have F:∀ st p,Cl st p (pC ts (j+1) 0)->∀ K Kp,XB Qaf base 128 [.ptr p 0] st K Kp=_:=λst p C K Kp=>B.xb C rfl (λst=>hb.no 128 (by decide) _ _) K Kp;unfold pC at *
    (have zz:=aI C0.r (aI C1.r C3.r); (repeat' (first | (apply jc <;> intro _) | simp (disch:=first | exact qz | fail) only [ja i0,ja i2,ja i4,T,c1,k1',hN,E,F,M,c2,C0.q,C1.q,C3.q,C0.r,C1.r,C3.r,je,Tk.cells_R,rzZ,Qab,Qac,Qad,Qaa,Qae])); (all_goals (clear zz)))
    refine jbE hb W hk hr ?_ ?_ ?_ ?_ ?_ ?_ ?_
    ·simp only [jg,jh,jk]; omega
    ·unfold pC
     (have zz:=aI C0.q (aI C1.q (aI C3.q (aI C0.r (aI C1.r C3.r)))); first | exact j4 | fail)
    ·unfold zD
     (have zz:=aI C0.q (aI C1.q (aI C3.q (aI C0.r (aI C1.r C3.r)))); first | exact j4 | fail)
    ·(have zz:=aI C0.q (aI C1.q (aI C3.q (aI C0.r (aI C1.r C3.r)))); first | exact j4 | fail)
    ·simp (disch:=decide) only [Qaj,Qan,z0,z1,jd,jb,and_true,true_and,i0]
    ·simp (disch:=decide) only [Qaj,Qan,z0,z1,jd,jb,and_true,true_and,i2]
    ·simp (disch:=decide) only [Qaj,Qan,z0,z1,jd,jb,and_true,true_and,i4]
  ·rw [if_neg c2] at hr;have hr:SR.er (tk ts j)=r:=hr;subst hr;unfold pC at *
   (have zz:=aI C0.r (aI C1.r C3.r); (repeat' (first | (apply jc <;> intro _) | simp (disch:=first | exact qz | fail) only [ja i0,ja i2,ja i4,T,c1,k1',hN,E,M,c2,yW,C0.q,C1.q,C3.q,C0.r,C1.r,C3.r,je,Tk.cells_R,rzZ,Qab,Qac,Qad,Qaa,Qae])); (all_goals (clear zz)))
   refine ⟨j,0,?_⟩;unfold pC
   (refine G1.done ?_ (by rfl) (by rfl) ?_; (· (have zz:=aI C0.q (aI C1.q (aI C3.q (aI C0.r (aI C1.r C3.r)))); first | exact j4 | fail)); (· first | exact vyD | skip))
set_option maxHeartbeats 4000000 in
theorem jj5 (hb:NB base){ts:List Tk}(W:Wds ts)(N:Nbs ts){i:Nat}(hi:i<ts.length):AnS base 79 (pC ts i 0) [] ts 0 (λd=>.agg (qu d)) (Xt ts i):=by
 have wl:=W.len;have hM:=λst p=>@wJ base hb ts i 0 hi (by omega) st p;unfold Xt;by_cases k1:(tk ts i).kind=1
 ·rw [if_pos k1];have hi1:i+1<ts.length:=W.next i hi (by omega)
  have M:=λst p=>@JI base hb ts (i+1) 0 hi1 (by omega) [58] st p;by_cases c1:isM (tk ts (i+1)) [[58]]=true
  ·rw [if_pos c1];have hi2:=W.isM hi1 c1;suffices h:∀ r:SR DeclT,(match Zg ts (i+2) with | .er t=>SR.er t | .ok y j=>(match Yy ts j with | .er t=>.er t | .ok bs k=>.ok ⟨(tk ts i).text,y.1,y.2.1,y.2.2,bs,(tk ts i).line,(tk ts i).col⟩ k))=r->AnS base 79 (pC ts i 0) [] ts 0 (λd=>.agg (qu d)) r from h _ rfl
   intro r hr;refine ZE x79 (by rfl) (hb.pur 79 3 (by decide)) ?_;simp only [y79,jj,Qai,Qam,Qag,Qah];unfold z79;try dsimp only [oo,oO,ot,oT,os,og,oh,oc,on,oN,oP]
   unfold pC at *;repeat' (first | (apply jc <;> intro _) | simp (disch:=first | exact dzD | fail) only [hM,k1,M,c1,je,Tk.cells_R,rzZ,Qab,Qac,Qad,Qaa,Qae])
   refine jk8 hb W N hi2 hr ?_ ?_ ?_ ?_ ?_ ?_ ?_
   ·simp only [jg,jh,jk,qT]; omega
   ·unfold pC
    (first | exact cyD | fail)
   ·unfold zD
    (first | exact cyD | fail)
   ·(first | exact cyD | fail)
   ·simp (disch:=decide) only [Qaj,Qan,z0,z1,jd,jb,and_true,true_and]
   ·simp (disch:=decide) only [Qaj,Qan,z0,z1,jd,jb,and_true,true_and]
   ·simp (disch:=decide) only [Qaj,Qan,z0,z1,jd,jb,and_true,true_and]
  ·rw [if_neg c1];refine ⟨i+1,0,?_⟩;unfold pC at *;refine jW x79 (by rfl) (hb.pur 79 3 (by decide)) rfl ?_;simp only [y79,jj,Qai,Qam,Qag,Qah];unfold z79;try dsimp only [oo,oO,ot,oT,os,og,oh,oc,on,oN,oP]
   repeat' (first | (apply jc <;> intro _) | simp (disch:=first | exact dzD | fail) only [hM,k1,M,c1,je,Tk.cells_R,rzZ,Qab,Qac,Qad,Qaa,Qae])
   (refine G1.done ?_ (by rfl) (by rfl) ?_; (· (first | exact cyD | fail)); (· first | exact vyD | skip))
 ·rw [if_neg k1];refine ⟨i,0,?_⟩;unfold pC at *;refine jW x79 (by rfl) (hb.pur 79 3 (by decide)) rfl ?_;simp only [y79,jj,Qai,Qam,Qag,Qah];unfold z79;try dsimp only [oo,oO,ot,oT,os,og,oh,oc,on,oN,oP]
  repeat' (first | (apply jc <;> intro _) | simp (disch:=first | exact dzD | fail) only [hM,k1,je,Tk.cells_R,rzZ,Qab,Qac,Qad,Qaa,Qae])
  (refine G1.done ?_ (by rfl) (by rfl) ?_; (· (first | exact cyD | fail)); (· first | exact vyD | skip))
end Go.Sy
end
noncomputable section
set_option maxRecDepth 100000
namespace Go.Sy
open Go.Ev Go.Proofs
variable {base:Bs}
structure AsT where
 name:List Nat
 to:Ex
 line:Int
 col:Int
def asE (a:AsT):List AV:=.str a.name :: (eE a.to ++ [.int .i64 (a.line:Int),.int .i64 (a.col:Int)])
theorem YU (a:AsT):(asE a).length=9:=nr (by simp [asE,JD])
theorem vS (a:AsT):(asE a).all pc=true:=nr (by simp [asE,zn,pc])
theorem gd (a:AsT):lall AV.cell (asE a)=true:=nr (by unfold asE; rw [qH]; rfl)
structure RuleT where
 when:Ex
 acts:List AsT
def ruE (r:RuleT):List AV:=eE r.when ++ [.lst r.acts.length (fl asE r.acts)]
def QS (ts:List Tk):Nat->Nat->List AsT->SR (List AsT)
 | 0,i,_=>.er (tk ts i)
 | n+1,i,vs=>if (tk ts i).kind=1 then
   (if 32≤vs.length then .er (tk ts i)
    else if isM (tk ts (i+1)) [[58,61]]=true then (match zj ts (i+2) with
     | .er t=>.er t
     | .ok x j=>
      if isM (tk ts j) [[44]]=true then QS ts n (j+1) (vs ++ [⟨(tk ts i).text,x,(tk ts i).line,(tk ts i).col⟩])
      else if isM (tk ts j) [[59]]=true then .ok (vs ++ [⟨(tk ts i).text,x,(tk ts i).line,(tk ts i).col⟩]) (j+1)
      else .er (tk ts j))
    else .er (tk ts (i+1)))
  else .er (tk ts i)
def Xi (ts:List Tk)(i:Nat):SR RuleT:=
 match zj ts i with
 | .er t=>.er t
 | .ok x j=>if isM (tk ts j) [[100,111]]=true then (match QS ts ts.length (j+1) [] with
   | .ok vs k=>.ok ⟨x,vs⟩ k
   | .er t=>.er t)
  else .er (tk ts j)
theorem ji5:Go.Ev.isAgg Qaf 101=some false:=by kernel_rfl
theorem ji4:Go.Ev.sizeOf Qaf 101=some 1:=by kernel_rfl
theorem KD {b o:Nat}{v:AV}{h:T AO}(ho:o<qq h b)(hv:rat h b o=v)(hc:eqs v=true):(jX Qaf 101 (.ptr b o) v h=true)=True:=eq_true (J4 ji5 ji4 ho hv hc)
theorem sm3 {b o:Nat}{v:AV}{h:T AO}(ho:o<qq h b)(hv:rat h b o=v)(hc:eqs v=true):(jX Qaf 3 (.ptr b o) v h=true)=True:=eq_true (J4 ji3 ji2 ho hv hc)
set_option maxHeartbeats 4000000 in
theorem jjo (hb:NB base){ts:List Tk}(W:Wds ts){i:Nat}(hi:i<ts.length):AnS base 129 (pC ts i 0) [] ts 0 (λe=>.agg (ruE e)) (Xi ts i):=by
 have wl:=W.len;have A:=u0 hb W hi;unfold Xi;cases hw:zj ts i with
 | er t=>
  rw [hw] at A;obtain ⟨i',d',A⟩:=A;have E:∀ st p,Cl st p (pC ts i 0)->∀ K Kp,XB Qaf base 48 [.ptr p 0] st K Kp=_:=λst p C K Kp=>A.xb C rfl (λst=>hb.no 48 (by decide) _ _) K Kp;refine ⟨i',d',?_⟩;unfold pC at *;refine jW jey (by rfl) (hb.pur 129 3 (by decide)) rfl ?_;simp only [jaI,jj,Qai,Qam,Qag,Qah];unfold jaG;try dsimp only [oo,oO,ot,oT,os,og,oh,oc,on,oN,oP]
  repeat' (first | (apply jc <;> intro _) | simp (disch:=first | exact dzD | fail) only [E,je,Tk.cells_R,rzZ,Qab,Qac,Qad,Qaa,Qae])
  (refine G1.done ?_ (by rfl) (by rfl) ?_; (· (first | exact cyD | fail)); (· first | exact vyD | skip))
 | ok x j=>
  rw [hw] at A;have A:PM _ _ _ _ _ _ _:=A;rw [qH] at A;have hj:j<ts.length:=(zC W hi hw).2.1;have E:∀ st p,Cl st p (pC ts i 0)->∀ K Kp,XB Qaf base 48 [.ptr p 0] st K Kp=_:=λst p C K Kp=>A.xb C rfl (λst=>hb.no 48 (by decide) _ _) K Kp;have M:=λst p=>@JI base hb ts j 0 hj (by omega) [100,111] st p;dsimp only;by_cases c1:isM (tk ts j) [[100,111]]=true
  ·rw [if_pos c1];have hj1:=W.isM hj c1;suffices h:∀ r:SR RuleT,(match QS ts ts.length (j+1) [] with | .ok vs k=>SR.ok ⟨x,vs⟩ k | .er t=>.er t)=r->AnS base 129 (pC ts i 0) [] ts 0 (λe=>.agg (ruE e)) r from h _ rfl
   intro r hr;refine ZE jey (by rfl) (hb.pur 129 3 (by decide)) ?_;simp only [jaI,jj,Qai,Qam,Qag,Qah];unfold jaG;try dsimp only [oo,oO,ot,oT,os,og,oh,oc,on,oN,oP]
   unfold pC at *;repeat' (first | (apply jc <;> intro _) | simp (disch:=first | exact dzD | fail) only [E,M,c1,je,Tk.cells_R,rzZ,Qab,Qac,Qad,Qaa,Qae])
   refine ww λu hu=>?_;have n0:u.nx=3:=by rw [hu]; rfl
   have C0:Cl u 0 (pC ts (j+1) 0):=by
    rw [hu]; unfold pC
    (first | exact cyD | fail)
   have C1:Cl u 1 [.int .i64 0,.int .i64 0,.str [],.nils,.int .i64 0,.int .i64 0,.nils]:=by
    rw [hu]
    (first | exact cyD | fail)
   have C2:Cl u 2 [.int .i64 x.op,.int .i64 x.num,.str x.name,.lst x.kids.length (fl eE x.kids),.int .i64 x.line,.int .i64 x.col,.nils]:=by
    rw [hu]
    (first | exact cyD | fail)
   clear hu E M A;refine zG (λmm L s=>∃ (m i':Nat) (vs:List AsT) (v:AV),mm=m∧ts.length≤i'+m∧i'<ts.length∧(match QS ts m i' vs with | .ok vs k=>SR.ok ⟨x,vs⟩ k | .er t=>.er t:SR RuleT)=r∧3≤s.nx∧Cl s 0 (pC ts i' 0)∧Cl s 1 [.int .i64 0,.int .i64 0,.str [],.nils,.int .i64 0,.int .i64 0,.nils]∧Cl s 2 [.int .i64 x.op,.int .i64 x.num,.str x.name,.lst x.kids.length (fl eE x.kids),.int .i64 x.line,.int .i64 x.col,v]∧Lv 3 s.nx s v vs.length (fl asE vs) 9∧Has L 0 (.ptr 0 0)∧Has L 2 (.ptr 1 0)∧Has L 3 (.ptr 2 0)) ?_ ts.length ?_
   ·rintro m L s ⟨_,i',vs,v,rfl,hm,hi',hl,n0,C0,C1,C2,V,i0,i2,i3⟩;clear hr;cases m with
    | zero=>omega
    | succ m=>
    unfold QS at hl;obtain ⟨q0,hq0⟩:∃ q,q=s.nx:=⟨_,rfl⟩;rw [←hq0] at V;have hq':q0≤s.nx:=QbY hq0;have hN:=λst p=>@Xn base hb ts i' 0 hi' st p;have hM:=λst p=>@wJ base hb ts i' 0 hi' (by omega) st p;have L0:=C0.lt;have L1:=C1.lt;have L2:=C2.lt;have ve:=V.eqs;have g3:rat s.h 2 6=v:=C2.cell 6 (by simp);have vl:=V.len;by_cases k1:(tk ts i').kind=1
    ·rw [if_pos k1] at hl;have k1':((tk ts i').kind:Int)=1:=by omega
     have hi1:i'+1<ts.length:=W.next i' hi' (by omega)
     by_cases h32:32≤vs.length
     ·rw [if_pos h32] at hl;have hl:SR.er (tk ts i')=r:=hl;subst hl;have R:=YZ hb h32 (tk ts i');unfold pC at *
      (have zz:=aI @g3 (aI C0.r (aI C1.r C2.r)); (repeat' (first | (apply jc <;> intro _) | simp (disch:=first | exact qz | fail) only [ja i0,ja i2,ja i3,hN,k1',vl,R,KD,ve,yW,C0.q,C1.q,C2.q,g3,C0.r,C1.r,C2.r,je,Tk.cells_R,rzZ,Qab,Qac,Qad,Qaa,Qae])); (all_goals (clear zz)))
      refine ⟨i',0,?_⟩;unfold pC
      (refine G1.done ?_ (by rfl) (by rfl) ?_; (· (have zz:=aI C0.q (aI C1.q (aI C2.q (aI C0.r (aI C1.r C2.r)))); first | exact j4 | fail)); (· first | exact vyD | skip))
     ·rw [if_neg h32] at hl;have R:=YY hb (show vs.length<32 by omega) (tk ts i');have M1:=λst p=>@JI base hb ts (i'+1) 0 hi1 (by omega) [58,61] st p;by_cases c2:isM (tk ts (i'+1)) [[58,61]]=true
      ·rw [if_pos c2] at hl;have hi2:=W.isM hi1 c2;have A:=u0 hb W hi2;cases hw2:zj ts (i'+2) with
       | er t=>
        rw [hw2] at hl A;have hl:SR.er t=r:=hl;subst hl;obtain ⟨i2',d2,A⟩:=A;have E:∀ st p,Cl st p (pC ts (i'+2) 0)->∀ K Kp,XB Qaf base 48 [.ptr p 0] st K Kp=_:=λst p C K Kp=>A.xb C rfl (λst=>hb.no 48 (by decide) _ _) K Kp;unfold pC at *
        (have zz:=aI @g3 (aI @yQ (aI @yP (aI C0.r (aI C1.r C2.r)))); (repeat' (first | (apply jc <;> intro _) | simp (disch:=first | exact qz | fail) only [ja i0,ja i2,ja i3,hN,hM,k1,k1',vl,R,M1,c2,E,KD,sm9,sm3,ve,yW,Uw,jex,jew (base:=base),C0.q,C1.q,C2.q,g3,yQ,yP,C0.r,C1.r,C2.r,je,Tk.cells_R,rzZ,Qab,Qac,Qad,Qaa,Qae])); (all_goals (clear zz)))
        refine ⟨i2',d2,?_⟩;unfold pC
        (refine G1.done ?_ (by rfl) (by rfl) ?_; (· (have zz:=aI C0.q (aI C1.q (aI C2.q (aI C0.r (aI C1.r C2.r)))); first | exact j4 | fail)); (· first | exact vyD | skip))
       | ok y q=>
        rw [hw2] at hl A;dsimp only at hl;have A:PM _ _ _ _ _ _ _:=A;rw [qH] at A;have hq:q<ts.length:=(zC W hi2 hw2).2.1;have hq2:i'+3≤q:=(zC W hi2 hw2).1;have E:∀ st p,Cl st p (pC ts (i'+2) 0)->∀ K Kp,XB Qaf base 48 [.ptr p 0] st K Kp=_:=λst p C K Kp=>A.xb C rfl (λst=>hb.no 48 (by decide) _ _) K Kp;have T:=Xf hb hq (d:=0) (by omega) [[44]] (cs:=[.str [44]]) (n:=1) rfl rfl (by decide);have M:=λst p=>@JI base hb ts q 0 hq (by omega) [59] st p;have Ap:=λst bv xc xx K h hv=>@vU 3 q0 vs.length 9 st v (fl asE vs) K 104 bv xc xx h (by decide) (by omega) (by omega) hv;obtain ⟨a,hav⟩:∃ a:AsT,a=⟨(tk ts i').text,y,(tk ts i').line,(tk ts i').col⟩:=⟨_,rfl⟩;rw [←hav] at hl;have ea:asE a=[.str (tk ts i').text,.int .i64 y.op,.int .i64 y.num,.str y.name,.lst y.kids.length (fl eE y.kids),.int .i64 y.line,.int .i64 y.col,.int .i64 ((tk ts i').line:Int),.int .i64 ((tk ts i').col:Int)]:=by rw [hav]; unfold asE; rw [qH]; rfl
        have V2:∀ st m',Lv 3 q0 st v vs.length (fl asE vs) 9->3≤st.nx->m'=st.nx+1->Lv 3 m' (aps v st [.str (tk ts i').text,.int .i64 y.op,.int .i64 y.num,.str y.name,.lst y.kids.length (fl eE y.kids),.int .i64 y.line,.int .i64 y.col,.int .i64 ((tk ts i').line:Int),.int .i64 ((tk ts i').col:Int)]) (apv 9 v st) (vs ++ [a]).length (fl asE (vs ++ [a])) 9:=λst m' h h2 h3=>by
         rw [Qak,wR,Yo,ea];exact h.put rfl h2 h3
        unfold pC at *
        (have zz:=aI @g3 (aI @yQ (aI @yP (aI V.ln (aI V.rts (aI @jP (aI @jQ (aI @j3 (aI @V (aI @jr (aI @jF (aI @jO (aI C0.r (aI C1.r C2.r))))))))))))); (repeat' (first | (apply jc <;> intro _) | simp (disch:=first | exact qz | fail) only [ja i0,ja i2,ja i3,hN,hM,k1,k1',vl,R,M1,c2,E,KD,sm9,sm3,ve,Ap,V.at,jr,C0.q,C1.q,C2.q,g3,yQ,yP,V.ln,V.rts,jP,jQ,j3,V,jr,jF,jO,C0.r,C1.r,C2.r,je,Tk.cells_R,rzZ,Qab,Qac,Qad,Qaa,Qae])); (all_goals (clear zz)))
        rw [T _ 0 (s.nx+1+1+1) 1 true (by (have zz:=aI C0.q (aI C1.q (aI C2.q (aI @g3 (aI V.ln (aI V.rts (aI @jr (aI @jF (aI @jO (aI C0.r (aI C1.r C2.r)))))))))); first | exact j4 | fail)) (by (have zz:=aI C0.q (aI C1.q (aI C2.q (aI @g3 (aI V.ln (aI V.rts (aI @jr (aI @jF (aI @jO (aI C0.r (aI C1.r C2.r)))))))))); first | exact j4 | fail)) (by omega)]
        (have zz:=aI @g3 (aI V.ln (aI V.rts (aI @jr (aI @jF (aI @jO (aI C0.r (aI C1.r C2.r))))))); (repeat' (first | (apply jc <;> intro _) | simp (disch:=first | exact qz | fail) only [ja i0,ja i2,ja i3,M,V.at,jr,C0.q,C1.q,C2.q,g3,V.ln,V.rts,jr,jF,jO,C0.r,C1.r,C2.r,je,Tk.cells_R,rzZ,Qab,Qac,Qad,Qaa,Qae])); (all_goals (clear zz)))
        ·rename_i c;rw [if_pos c] at hl;have hi2':=W.isM hq c;refine ⟨m,by omega,m,q+1,vs ++ [a],?v,rfl,by omega,hi2',hl,by omega,?c0,?c1,?c2,?lv,?has⟩;case lv=>
          refine Lv.up (hi:=s.nx+3) ?_ (by omega);simp (disch:=first | omega | (simp only [jg,jh,jo,jk]; omega)) only [jP,jQ,j3];refine V2 _ _ ?_ ?_ ?_;all_goals first | (simp only [jg,jh]; done) | (simp only [jg,jh]; omega) | (simp (disch:=first | omega | (simp only [jg,jh]; omega)) only [jP,jQ]; exact V)
         case c0=>(have zz:=aI C0.q (aI C1.q (aI C2.q (aI @g3 (aI V.ln (aI V.rts (aI @jr (aI @jF (aI @jO (aI C0.r (aI C1.r C2.r)))))))))); first | exact j4 | fail)
         case c1=>(have zz:=aI C0.q (aI C1.q (aI C2.q (aI @g3 (aI V.ln (aI V.rts (aI @jr (aI @jF (aI @jO (aI C0.r (aI C1.r C2.r)))))))))); first | exact j4 | fail)
         case c2=>(have zz:=aI C0.q (aI C1.q (aI C2.q (aI @g3 (aI V.ln (aI V.rts (aI @jr (aI @jF (aI @jO (aI C0.r (aI C1.r C2.r)))))))))); first | exact j4 | fail)
         case has=>simp (disch:=decide) only [Qaj,Qan,z0,z1,jd,jb,and_true,true_and,i0,i2,i3]
        ·rename_i c c4;rw [if_neg c,if_pos c4] at hl;have hl:SR.ok (⟨x,vs ++ [a]⟩:RuleT) (q+1)=r:=hl;subst hl;show G1 3 (pC ts (q+1) 0) (.agg (ruE ⟨x,vs ++ [a]⟩)) _ _;rw [show ruE ⟨x,vs ++ [a]⟩=[.int .i64 x.op,.int .i64 x.num,.str x.name,.lst x.kids.length (fl eE x.kids),.int .i64 x.line,.int .i64 x.col,.lst (vs ++ [a]).length (fl asE (vs ++ [a]))] by unfold ruE; rw [qH]; rfl];refine G1.done ?_ (by rfl) (by rfl) (FzD.agg (.cons (.pc rfl) (.cons (.pc rfl) (.cons (.pc rfl) (.cons (.pc rfl) (.cons (.pc rfl) (.cons (.pc rfl) (.cons (Lv.fz (lo:=3) (hi:=s.nx+3) (z:=9) ?_ (by decide) (YL vS _)) .nil))))))))
         ·unfold pC
          (have zz:=aI C0.q (aI C1.q (aI C2.q (aI @g3 (aI V.ln (aI V.rts (aI @jr (aI @jF (aI @jO (aI C0.r (aI C1.r C2.r)))))))))); first | exact j4 | fail)
         ·simp (disch:=first | omega | (simp only [jg,jh,jo,jk]; omega)) only [j6,jP,jQ,j3];refine V2 _ _ ?_ ?_ ?_;all_goals first | (simp only [jg,jh]; done) | (simp only [jg,jh]; omega) | (simp (disch:=first | omega | (simp only [jg,jh]; omega)) only [jP,jQ]; exact V)
        ·rename_i c c4;rw [if_neg c,if_neg c4] at hl;have hl:SR.er (tk ts q)=r:=hl;subst hl;refine ⟨q,0,?_⟩;unfold pC
         (refine G1.done ?_ (by rfl) (by rfl) ?_; (· (have zz:=aI C0.q (aI C1.q (aI C2.q (aI @g3 (aI V.ln (aI V.rts (aI @jr (aI @jF (aI @jO (aI C0.r (aI C1.r C2.r)))))))))); first | exact j4 | fail)); (· first | exact vyD | skip))
      ·rw [if_neg c2] at hl;have hl:SR.er (tk ts (i'+1))=r:=hl;subst hl;unfold pC at *
       (have zz:=aI @g3 (aI C0.r (aI C1.r C2.r)); (repeat' (first | (apply jc <;> intro _) | simp (disch:=first | exact qz | fail) only [ja i0,ja i2,ja i3,hN,hM,k1,k1',vl,R,M1,c2,KD,ve,yW,C0.q,C1.q,C2.q,g3,C0.r,C1.r,C2.r,je,Tk.cells_R,rzZ,Qab,Qac,Qad,Qaa,Qae])); (all_goals (clear zz)))
       refine ⟨i'+1,0,?_⟩;unfold pC
       (refine G1.done ?_ (by rfl) (by rfl) ?_; (· (have zz:=aI C0.q (aI C1.q (aI C2.q (aI C0.r (aI C1.r C2.r)))); first | exact j4 | fail)); (· first | exact vyD | skip))
    ·rw [if_neg k1] at hl;have k1':¬ ((tk ts i').kind:Int)=1:=by omega
     have hl:SR.er (tk ts i')=r:=hl;subst hl;unfold pC at *
     (have zz:=aI @g3 (aI C0.r (aI C1.r C2.r)); (repeat' (first | (apply jc <;> intro _) | simp (disch:=first | exact qz | fail) only [ja i0,ja i2,ja i3,hN,hM,k1,k1',yW,C0.q,C1.q,C2.q,g3,C0.r,C1.r,C2.r,je,Tk.cells_R,rzZ,Qab,Qac,Qad,Qaa,Qae])); (all_goals (clear zz)))
     refine ⟨i',0,?_⟩;unfold pC
     (refine G1.done ?_ (by rfl) (by rfl) ?_; (· (have zz:=aI C0.q (aI C1.q (aI C2.q (aI C0.r (aI C1.r C2.r)))); first | exact j4 | fail)); (· first | exact vyD | skip))
   ·refine ⟨ts.length,j+1,[],.nils,rfl,by omega,hj1,hr,by omega,C0,C1,C2,Lv.nil,?_⟩;simp (disch:=decide) only [Qaj,Qan,z0,z1,jd,jb,and_true,true_and]
  ·rw [if_neg c1];refine ⟨j,0,?_⟩;unfold pC at *;refine jW jey (by rfl) (hb.pur 129 3 (by decide)) rfl ?_;simp only [jaI,jj,Qai,Qam,Qag,Qah];unfold jaG;try dsimp only [oo,oO,ot,oT,os,og,oh,oc,on,oN,oP]
   repeat' (first | (apply jc <;> intro _) | simp (disch:=first | exact dzD | fail) only [E,M,c1,je,Tk.cells_R,rzZ,Qab,Qac,Qad,Qaa,Qae])
   (refine G1.done ?_ (by rfl) (by rfl) ?_; (· (first | exact cyD | fail)); (· first | exact vyD | skip))
end Go.Sy
end
noncomputable section
set_option maxRecDepth 100000
namespace Go.Sy
open Go.Ev Go.Proofs
variable {base:Bs}
theorem uc (r:RuleT):ruE r=[.int .i64 r.when.op,.int .i64 r.when.num,.str r.when.name,.lst r.when.kids.length (fl eE r.when.kids),.int .i64 r.when.line,.int .i64 r.when.col,.lst r.acts.length (fl asE r.acts)]:=by unfold ruE; rw [qH]; rfl
theorem YF (r:RuleT):(ruE r).length=7:=nr (by rw [uc]; rfl)
theorem vk (r:RuleT):(ruE r).all pc=true:=nr (by rw [uc]; rfl)
theorem jaE {ts:List Tk}(W:Wds ts):∀ n i vs ws j,i<ts.length->QS ts n i vs=.ok ws j->i≤j∧j<ts.length
 | 0,i,vs,ws,j,_,h=>by simp [QS] at h
 | n+1,i,vs,ws,j,hi,h=>by
  unfold QS at h;split at h
  ·rename_i k1;have hi1:i+1<ts.length:=W.next i hi (by omega)
   split at h
   ·cases h
   ·split at h
    ·rename_i c;have hi2:=W.isM hi1 c;cases hw:zj ts (i+2) with
     | er t=>rw [hw] at h; cases h
     | ok x q=>
      rw [hw] at h;dsimp only at h;have g:=zC W hi2 hw;split at h
      ·rename_i c2;have:=jaE W n (q+1) _ ws j (W.isM g.2.1 c2) h;have:=g.1;exact ⟨by omega,by omega⟩
      ·split at h
       ·rename_i c3;cases h;have:=W.isM g.2.1 c3;have:=g.1;exact ⟨by omega,by omega⟩
       ·cases h
    ·cases h
  ·cases h
theorem HU {ts:List Tk}(W:Wds ts){i j:Nat}{r:RuleT}(hi:i<ts.length)(h:Xi ts i=.ok r j):i<j∧j<ts.length:=by
 unfold Xi at h;cases hw:zj ts i with
 | er t=>rw [hw] at h; cases h
 | ok x q=>
  rw [hw] at h;dsimp only at h;have g:=zC W hi hw;split at h
  ·rename_i c;have hq1:=W.isM g.2.1 c;cases ha:QS ts ts.length (q+1) [] with
   | er t=>rw [ha] at h; cases h
   | ok vs k=>
    rw [ha] at h;cases h;have:=jaE W _ _ _ _ _ hq1 ha;have:=g.1;exact ⟨by omega,by omega⟩
  ·cases h
structure ProcT where
 name:List Nat
 rules:List RuleT
 line:Int
 col:Int
def prE (p:ProcT):List AV:=[.str p.name,.lst p.rules.length (fl ruE p.rules),.int .i64 (p.line:Int),.int .i64 (p.col:Int)]
def z8 (ts:List Tk):Nat->Nat->List RuleT->SR (List RuleT)
 | 0,i,_=>.er (tk ts i)
 | n+1,i,vs=>if isM (tk ts i) [[119,104,101,110]]=true then
   (if 32≤vs.length then .er (tk ts i) else match Xi ts (i+1) with
    | .er t=>.er t
    | .ok r j=>z8 ts n j (vs ++ [r]))
  else if isM (tk ts i) [[125]]=true then .ok vs (i+1) else .er (tk ts i)
def Xk (ts:List Tk)(i:Nat):SR ProcT:=
 if (tk ts i).kind=1 then
  (if isM (tk ts (i+1)) [[123]]=true then (match z8 ts ts.length (i+2) [] with
    | .ok vs j=>.ok ⟨(tk ts i).text,vs,(tk ts i).line,(tk ts i).col⟩ j
    | .er t=>.er t)
   else .er (tk ts (i+1)))
 else .er (tk ts i)
theorem jkF:Go.Ev.isAgg Qaf 96=some false:=by kernel_rfl
theorem jkE:Go.Ev.sizeOf Qaf 96=some 1:=by kernel_rfl
theorem jjg {b o:Nat}{v:AV}{h:T AO}(ho:o<qq h b)(hv:rat h b o=v)(hc:eqs v=true):(jX Qaf 96 (.ptr b o) v h=true)=True:=eq_true (J4 jkF jkE ho hv hc)
set_option maxHeartbeats 4000000 in
theorem jju (hb:NB base){ts:List Tk}(W:Wds ts){i:Nat}(hi:i<ts.length):AnS base 80 (pC ts i 0) [] ts 0 (λe=>.agg (prE e)) (Xk ts i):=by
 have wl:=W.len;have N:=λst p=>@wJ base hb ts i 0 hi (by omega) st p;unfold Xk;by_cases k1:(tk ts i).kind=1
 ·rw [if_pos k1];have hi1:i+1<ts.length:=W.next i hi (by omega)
  have M:=λst p=>@JI base hb ts (i+1) 0 hi1 (by omega) [123] st p;by_cases c1:isM (tk ts (i+1)) [[123]]=true
  ·rw [if_pos c1];have hi2:=W.isM hi1 c1;suffices h:∀ r:SR ProcT,(match z8 ts ts.length (i+2) [] with
    | .ok vs j=>SR.ok ⟨(tk ts i).text,vs,(tk ts i).line,(tk ts i).col⟩ j
    | .er t=>.er t:SR ProcT)=r->AnS base 80 (pC ts i 0) [] ts 0 (λe=>.agg (prE e)) r from h _ rfl
   intro r hr;refine ZE x80 (by rfl) (hb.pur 80 3 (by decide)) ?_;simp only [y80,jj,Qai,Qam,Qag,Qah];unfold z80;try dsimp only [oo,oO,ot,oT,os,og,oh,oc,on,oN,oP]
   unfold pC at *;repeat' (first | (apply jc <;> intro _) | simp (disch:=first | exact dzD | fail) only [N,k1,M,c1,je,Tk.cells_R,rzZ,Qab,Qac,Qad,Qaa,Qae])
   refine ww λu hu=>?_;have n0:u.nx=4:=by rw [hu]; rfl
   have C0:Cl u 0 (pC ts (i+2) 0):=by
    rw [hu]; unfold pC
    (first | exact cyD | fail)
   have C1:Cl u 1 [.str [],.nils,.int .i64 0,.int .i64 0]:=by
    rw [hu]
    (first | exact cyD | fail)
   have C3:Cl u 3 [.str (tk ts i).text,.nils,.int .i64 ((tk ts i).line:Int),.int .i64 ((tk ts i).col:Int)]:=by
    rw [hu]
    (first | exact cyD | fail)
   clear hu N M;generalize (tk ts i).text=nm at *;generalize (tk ts i).line=ln at *;generalize (tk ts i).col=co at *;refine zG (λmm L s=>∃ (m i':Nat) (vs:List RuleT) (v:AV),mm=m∧ts.length≤i'+m∧i'<ts.length∧(match z8 ts m i' vs with | .ok vs j=>SR.ok ⟨nm,vs,ln,co⟩ j | .er t=>.er t:SR ProcT)=r∧4≤s.nx∧Cl s 0 (pC ts i' 0)∧Cl s 1 [.str [],.nils,.int .i64 0,.int .i64 0]∧Cl s 3 [.str nm,v,.int .i64 (ln:Int),.int .i64 (co:Int)]∧Lv 4 s.nx s v vs.length (fl ruE vs) 7∧Has L 0 (.ptr 0 0)∧Has L 2 (.ptr 1 0)∧Has L 4 (.ptr 3 0)) ?_ ts.length ?_
   ·rintro m L s ⟨_,i',vs,v,rfl,hm,hi',hl,n0,C0,C1,C3,V,i0,i2,i4⟩;clear hr;cases m with
    | zero=>omega
    | succ m=>
    unfold z8 at hl;obtain ⟨q,hq⟩:∃ q,q=s.nx:=⟨_,rfl⟩;rw [←hq] at V;have hq':q≤s.nx:=QbY hq;have T:=Xf hb hi' (d:=0) (by omega) [[119,104,101,110]] (cs:=[.str [119,104,101,110]]) (n:=1) rfl rfl (by decide);have L0:=C0.lt;have L1:=C1.lt;have L3:=C3.lt;have ve:=V.eqs;have g3:rat s.h 3 1=v:=C3.cell 1 (QbG (Qbo 2));have vl:=V.len;have vc:∀ l,lall AV.cell (v :: l)=lall AV.cell l:=λl=>by show cond v.cell _ false=_; rw [V.cell]; rfl
    by_cases c2:isM (tk ts i') [[119,104,101,110]]=true
    ·rw [if_pos c2] at hl;have hi1:=W.isM hi' c2;by_cases h32:32≤vs.length
     ·rw [if_pos h32] at hl;have hl:SR.er (tk ts i')=r:=hl;subst hl;have R:=YZ hb h32 (tk ts i');unfold pC at *
      (have zz:=aI @g3 (aI C0.r (aI C1.r C3.r)); (repeat' (first | (apply jc <;> intro _) | simp (disch:=first | exact qz | fail) only [ja i0,ja i2,ja i4,T,c2,vl,R,g3,yW,C0.q,C1.q,C3.q,g3,C0.r,C1.r,C3.r,je,Tk.cells_R,rzZ,Qab,Qac,Qad,Qaa,Qae])); (all_goals (clear zz)))
      refine ⟨i'+1,0,?_⟩;unfold pC
      (refine G1.done ?_ (by rfl) (by rfl) ?_; (· (have zz:=aI C0.q (aI C1.q (aI C3.q (aI C0.r (aI C1.r C3.r)))); first | exact j4 | fail)); (· first | exact vyD | skip))
     ·rw [if_neg h32] at hl;have R:=YY hb (show vs.length<32 by omega) (tk ts i');have A:=jjo hb W hi1;cases hw:Xi ts (i'+1) with
      | er t=>
       rw [hw] at hl A;have hl:SR.er t=r:=hl;subst hl;obtain ⟨i2',d2,A⟩:=A;have E:∀ st p,Cl st p (pC ts (i'+1) 0)->∀ K Kp,XB Qaf base 129 [.ptr p 0] st K Kp=_:=λst p C K Kp=>A.xb C rfl (λst=>hb.no 129 (by decide) _ _) K Kp;unfold pC at *
       (have zz:=aI @g3 (aI C0.r (aI C1.r C3.r)); (repeat' (first | (apply jc <;> intro _) | simp (disch:=first | exact qz | fail) only [ja i0,ja i2,ja i4,T,c2,vl,R,g3,E,jjg,ve,yW,C0.q,C1.q,C3.q,g3,C0.r,C1.r,C3.r,je,Tk.cells_R,rzZ,Qab,Qac,Qad,Qaa,Qae])); (all_goals (clear zz)))
       refine ⟨i2',d2,?_⟩;unfold pC
       (refine G1.done ?_ (by rfl) (by rfl) ?_; (· (have zz:=aI C0.q (aI C1.q (aI C3.q (aI C0.r (aI C1.r C3.r)))); first | exact j4 | fail)); (· first | exact vyD | skip))
      | ok a j=>
       rw [hw] at hl A;dsimp only at hl;have A:PM _ _ _ _ _ _ _:=A;have A:PM Qaf base 129 (pC ts (i'+1) 0) [] (.ok (.agg [.int .i64 a.when.op,.int .i64 a.when.num,.str a.when.name,.lst a.when.kids.length (fl eE a.when.kids),.int .i64 a.when.line,.int .i64 a.when.col,.lst a.acts.length (fl asE a.acts)])) (pC ts j 0):=by rw [←uc]; exact A
       have hj:=HU W hi1 hw;have E:∀ st p,Cl st p (pC ts (i'+1) 0)->∀ K Kp,XB Qaf base 129 [.ptr p 0] st K Kp=_:=λst p C K Kp=>A.xb C rfl (λst=>hb.no 129 (by decide) _ _) K Kp;have Ap:=λst bv xc xx K h hv=>@vU 4 q vs.length 7 st v (fl ruE vs) K 96 bv xc xx h (by decide) (by omega) (by omega) hv;have V2:∀ st m',Lv 4 q st v vs.length (fl ruE vs) 7->4≤st.nx->m'=st.nx+1->Lv 4 m' (aps v st [.int .i64 a.when.op,.int .i64 a.when.num,.str a.when.name,.lst a.when.kids.length (fl eE a.when.kids),.int .i64 a.when.line,.int .i64 a.when.col,.lst a.acts.length (fl asE a.acts)]) (apv 7 v st) (vs ++ [a]).length (fl ruE (vs ++ [a])) 7:=λst m' h h2 h3=>by
        rw [Qak,wR,Yo,uc a];exact h.put rfl h2 h3
       unfold pC at *
       (have zz:=aI @g3 (aI V.ln (aI V.rts (aI @jP (aI @jQ (aI @j3 (aI @V (aI @jr (aI @jF (aI @jO (aI C0.r (aI C1.r C3.r))))))))))); (repeat' (first | (apply jc <;> intro _) | simp (disch:=first | exact qz | fail) only [ja i0,ja i2,ja i4,T,c2,vl,R,g3,E,jjg,ve,Ap,V.at,jr,C0.q,C1.q,C3.q,g3,V.ln,V.rts,jP,jQ,j3,V,jr,jF,jO,C0.r,C1.r,C3.r,je,Tk.cells_R,rzZ,Qab,Qac,Qad,Qaa,Qae])); (all_goals (clear zz)))
       refine ⟨m,by omega,m,j,vs ++ [a],?v,rfl,by omega,hj.2,hl,by omega,?c0,?c1,?c3,?lv,?has⟩;case lv=>
        refine Lv.up (hi:=s.nx+4) ?_ (by omega);refine V2 _ _ ?_ ?_ ?_;all_goals first | (simp only [jg,jh,jk]; done) | (simp only [jg,jh,jk]; omega) | (simp (disch:=first | omega | (simp only [jg,jh,jk]; omega)) only [jP,jQ,j3]; exact V)
       case c0=>(have zz:=aI C0.q (aI C1.q (aI C3.q (aI @g3 (aI V.ln (aI V.rts (aI @jr (aI @jF (aI @jO (aI C0.r (aI C1.r C3.r)))))))))); first | exact j4 | fail)
       case c1=>(have zz:=aI C0.q (aI C1.q (aI C3.q (aI @g3 (aI V.ln (aI V.rts (aI @jr (aI @jF (aI @jO (aI C0.r (aI C1.r C3.r)))))))))); first | exact j4 | fail)
       case c3=>(have zz:=aI C0.q (aI C1.q (aI C3.q (aI @g3 (aI V.ln (aI V.rts (aI @jr (aI @jF (aI @jO (aI C0.r (aI C1.r C3.r)))))))))); first | exact j4 | fail)
       case has=>simp (disch:=decide) only [Qaj,Qan,z0,z1,jd,jb,and_true,true_and,i0,i2,i4]
    ·rw [if_neg c2] at hl;have M:=λst p=>@JI base hb ts i' 0 hi' (by omega) [125] st p;unfold pC at *
     (have zz:=aI @g3 (aI @vc (aI C0.r (aI C1.r C3.r))); (repeat' (first | (apply jc <;> intro _) | simp (disch:=first | exact qz | fail) only [ja i0,ja i2,ja i4,T,c2,M,g3,C0.q,C1.q,C3.q,g3,vc,C0.r,C1.r,C3.r,je,Tk.cells_R,rzZ,Qab,Qac,Qad,Qaa,Qae])); (all_goals (clear zz)))
     ·rename_i c4;rw [if_pos c4] at hl;have hl:SR.ok (⟨nm,vs,ln,co⟩:ProcT) (i'+1)=r:=hl;subst hl;show G1 3 (pC ts (i'+1) 0) (.agg (prE ⟨nm,vs,ln,co⟩)) _ _;refine G1.done ?_ (by rfl) (by rfl) (FzD.agg (.cons (.pc rfl) (.cons (Lv.fz (lo:=4) (hi:=q) (z:=7) ?_ (by decide) (YL vk _)) (.cons (.pc rfl) (.cons (.pc rfl) .nil)))))
      ·unfold pC
       (have zz:=aI C0.q (aI C1.q (aI C3.q (aI @g3 (aI V.ln (aI V.rts (aI @jr (aI @jF (aI @jO (aI C0.r (aI C1.r C3.r)))))))))); first | exact j4 | fail)
      ·simp (disch:=first | omega | (simp only [jg,jh,jk]; omega)) only [j6,jP,jQ,j3];exact V
     ·rename_i c4;rw [if_neg c4] at hl;have hl:SR.er (tk ts i')=r:=hl;subst hl;refine ⟨i',0,?_⟩;unfold pC
      (refine G1.done ?_ (by rfl) (by rfl) ?_; (· (have zz:=aI C0.q (aI C1.q (aI C3.q (aI @g3 (aI V.ln (aI V.rts (aI @jr (aI @jF (aI @jO (aI C0.r (aI C1.r C3.r)))))))))); first | exact j4 | fail)); (· first | exact vyD | skip))
   ·refine ⟨ts.length,i+2,[],.nils,rfl,by omega,hi2,hr,by omega,C0,C1,C3,Lv.nil,?_⟩;simp (disch:=decide) only [Qaj,Qan,z0,z1,jd,jb,and_true,true_and]
  ·rw [if_neg c1];refine ⟨i+1,0,?_⟩;unfold pC at *;refine jW x80 (by rfl) (hb.pur 80 3 (by decide)) rfl ?_;simp only [y80,jj,Qai,Qam,Qag,Qah];unfold z80;try dsimp only [oo,oO,ot,oT,os,og,oh,oc,on,oN,oP]
   repeat' (first | (apply jc <;> intro _) | simp (disch:=first | exact dzD | fail) only [N,k1,M,c1,je,Tk.cells_R,rzZ,Qab,Qac,Qad,Qaa,Qae])
   (refine G1.done ?_ (by rfl) (by rfl) ?_; (· (first | exact cyD | fail)); (· first | exact vyD | skip))
 ·rw [if_neg k1];refine ⟨i,0,?_⟩;unfold pC at *;refine jW x80 (by rfl) (hb.pur 80 3 (by decide)) rfl ?_;simp only [y80,jj,Qai,Qam,Qag,Qah];unfold z80;try dsimp only [oo,oO,ot,oT,os,og,oh,oc,on,oN,oP]
  repeat' (first | (apply jc <;> intro _) | simp (disch:=first | exact dzD | fail) only [N,k1,je,Tk.cells_R,rzZ,Qab,Qac,Qad,Qaa,Qae])
  (refine G1.done ?_ (by rfl) (by rfl) ?_; (· (first | exact cyD | fail)); (· first | exact vyD | skip))
end Go.Sy
end
noncomputable section
set_option maxRecDepth 100000
namespace Go.Sy
open Go.Ev Go.Proofs
variable {base:Bs}
def Df:AV->AV->Prop
 | .slice b _ _ _ _ _,.slice c _ _ _ _ _=>c≠b
 | _,_=>True
theorem Lv.apsD {lo hi n z:Nat}{s:St}{v w:AV}{cs news:List AV}(V:Lv lo hi s w n cs z)(h:Df v w):Lv lo hi (Go.Sy.aps v s news) w n cs z:=by
 rcases V with ⟨rfl,h2,h3⟩ | ⟨b,rfl,h2,h3,h4,h5,h6⟩
 ·exact .inl ⟨rfl,h2,h3⟩
 ·refine .inr ⟨b,rfl,h2,h3,?_,h5,h6⟩;unfold Go.Sy.aps;split
  ·exact h4.apO h
  ·exact h4.nw news
theorem Df.put {lo hi n z z':Nat}{s t:St}{v w:AV}{cs:List AV}(V:Lv lo hi s w n cs z)(h:hi≤t.nx):Df (apv z' v t) w∧Df w (apv z' v t):=by
 rcases V with ⟨rfl,h2,h3⟩ | ⟨b,rfl,h2,h3,h4,h5,h6⟩
 ·unfold apv; split <;> exact ⟨trivial,trivial⟩
 ·unfold apv; split <;> exact ⟨by show b≠t.nx; omega,by show t.nx≠b; omega⟩
structure SrcT where
 enums:List EnumT
 vars:List DeclT
 procs:List ProcT
def srE (m:SrcT):List AV:=[.lst m.enums.length (fl enE m.enums),.lst m.vars.length (fl qu m.vars),.lst m.procs.length (fl prE m.procs)]
def yU (ts:List Tk):Nat->Nat->SrcT->SR SrcT
 | 0,i,_=>.er (tk ts i)
 | n+1,i,m=>if isM (tk ts i) [[101,110,117,109],[118,97,114],[112,114,111,99,101,115,115]]=true then
   (if (tk ts i).text=[101,110,117,109] then
    (if 32≤m.enums.length then .er (tk ts i) else match Xs ts (i+1) with
     | .er t=>.er t
     | .ok e j=>yU ts n j { m with enums:=m.enums ++ [e] })
   else if (tk ts i).text=[118,97,114] then
    (if 32≤m.vars.length then .er (tk ts i) else match Xt ts (i+1) with
     | .er t=>.er t
     | .ok e j=>yU ts n j { m with vars:=m.vars ++ [e] })
   else (if 32≤m.procs.length then .er (tk ts i) else match Xk ts (i+1) with
     | .er t=>.er t
     | .ok e j=>yU ts n j { m with procs:=m.procs ++ [e] }))
  else if (tk ts i).kind=5 then .ok m i else .er (tk ts i)
theorem HI {ts:List Tk}(W:Wds ts):∀ n i vs ws j,i<ts.length->Qj ts n i vs=.ok ws j->i≤j∧j<ts.length
 | 0,i,vs,ws,j,_,h=>by simp [Qj] at h
 | n+1,i,vs,ws,j,hi,h=>by
  unfold Qj at h;split at h
  ·rename_i k1;have hi1:i+1<ts.length:=W.next i hi (by omega)
   split at h
   ·cases h
   ·split at h
    ·rename_i c;have hi2:=W.isM hi1 c;have:=HI W n (i+2) _ ws j hi2 h;exact ⟨by omega,by omega⟩
    ·split at h
     ·rename_i c;cases h;have:=W.isM hi1 c;exact ⟨by omega,this⟩
     ·cases h
  ·cases h
theorem jhA {ts:List Tk}(W:Wds ts){i j:Nat}{e:EnumT}(hi:i<ts.length)(h:Xs ts i=.ok e j):i<j∧j<ts.length:=by
 unfold Xs at h;split at h
 ·rename_i k1;have hi1:i+1<ts.length:=W.next i hi (by omega)
  split at h
  ·rename_i c;have hi2:=W.isM hi1 c;cases hv:Qj ts ts.length (i+2) [] with
   | er t=>rw [hv] at h; cases h
   | ok vs k=>
    rw [hv] at h;cases h;have:=HI W _ _ _ _ _ hi2 hv;exact ⟨by omega,by omega⟩
  ·cases h
 ·cases h
theorem gL {ts:List Tk}(W:Wds ts):∀ n i vs ws j,i<ts.length->z8 ts n i vs=.ok ws j->i≤j∧j<ts.length
 | 0,i,vs,ws,j,_,h=>by simp [z8] at h
 | n+1,i,vs,ws,j,hi,h=>by
  unfold z8 at h;split at h
  ·rename_i c;have hi1:=W.isM hi c;split at h
   ·cases h
   ·cases hr:Xi ts (i+1) with
    | er t=>rw [hr] at h; cases h
    | ok r k=>
     rw [hr] at h;dsimp only at h;have g:=HU W hi1 hr;have:=gL W n k _ ws j g.2 h;exact ⟨by omega,by omega⟩
  ·split at h
   ·rename_i c;cases h;exact ⟨by omega,W.isM hi c⟩
   ·cases h
theorem jhl {ts:List Tk}(W:Wds ts){i j:Nat}{e:ProcT}(hi:i<ts.length)(h:Xk ts i=.ok e j):i<j∧j<ts.length:=by
 unfold Xk at h;split at h
 ·rename_i k1;have hi1:i+1<ts.length:=W.next i hi (by omega)
  split at h
  ·rename_i c;have hi2:=W.isM hi1 c;cases hv:z8 ts ts.length (i+2) [] with
   | er t=>rw [hv] at h; cases h
   | ok vs k=>
    rw [hv] at h;cases h;have:=gL W _ _ _ _ _ hi2 hv;exact ⟨by omega,by omega⟩
  ·cases h
 ·cases h
theorem jdb {ts:List Tk}(W:Wds ts){i j:Nat}{n:Int}(h:QW ts i=.ok n j):i<j:=by
 unfold QW at h;split at h
 ·split at h
  ·cases h; omega
  ·cases h
 ·split at h
  ·cases h; omega
  ·cases h
theorem ji0 {ts:List Tk}(W:Wds ts){i j:Nat}{y:List Nat×Int×Int}(hi:i<ts.length)(h:Zg ts i=.ok y j):i<j∧j<ts.length:=by
 unfold Zg at h;split at h
 ·rename_i c;cases h;exact ⟨by omega,W.isM hi c⟩
 ·split at h
  ·rename_i k1;cases h;exact ⟨by omega,W.next i hi (by omega)⟩
  ·cases hn:QW ts i with
   | er t=>rw [hn] at h; cases h
   | ok lo k=>
    rw [hn] at h;dsimp only at h;have g:=VH W hi hn;have g1:=jdb W hn;split at h
    ·rename_i c;have hk1:=W.isM g c;cases hn2:QW ts (k+1) with
     | er t=>rw [hn2] at h; cases h
     | ok h2 q=>
      rw [hn2] at h;cases h;have:=VH W hk1 hn2;have:=jdb W hn2;exact ⟨by omega,by omega⟩
    ·cases h
theorem jkk {ts:List Tk}(W:Wds ts){i j:Nat}{bs:List Ex}(hi:i<ts.length)(h:Yy ts i=.ok bs j):i<j∧j<ts.length:=by
 unfold Yy at h;split at h
 ·rename_i c;have hi1:=W.isM hi c;cases hw:zj ts (i+1) with
  | er t=>rw [hw] at h; cases h
  | ok x k=>
   rw [hw] at h;dsimp only at h;have g:=zC W hi1 hw;split at h
   ·rename_i c2;cases h;have:=W.isM g.2.1 c2;have:=g.1;exact ⟨by omega,by omega⟩
   ·cases h
 ·split at h
  ·rename_i c;cases h;exact ⟨by omega,W.isM hi c⟩
  ·cases h
theorem jhC {ts:List Tk}(W:Wds ts){i j:Nat}{e:DeclT}(hi:i<ts.length)(h:Xt ts i=.ok e j):i<j∧j<ts.length:=by
 unfold Xt at h;split at h
 ·rename_i k1;have hi1:i+1<ts.length:=W.next i hi (by omega)
  split at h
  ·rename_i c;have hi2:=W.isM hi1 c;cases ht:Zg ts (i+2) with
   | er t=>rw [ht] at h; cases h
   | ok y k=>
    rw [ht] at h;dsimp only at h;have g:=ji0 W hi2 ht;cases hv:Yy ts k with
    | er t=>rw [hv] at h; cases h
    | ok bs q=>
     rw [hv] at h;cases h;have:=jkk W g.2 hv;exact ⟨by omega,by omega⟩
  ·cases h
 ·cases h
end Go.Sy
end
noncomputable section
set_option maxRecDepth 100000
namespace Go.Sy
open Go.Ev Go.Proofs
variable {base:Bs}
theorem vK (e:EnumT):(enE e).all pc=true:=by
 have:∀ l:List (List Nat),(l.map AV.str).all pc=true:=wB;show ([AV.str e.name,.lst e.vals.length (e.vals.map .str),.int .i64 (e.line:Int),.int .i64 (e.col:Int)]).all pc=true;simp [pc]
theorem X3 (e:DeclT):(qu e).all pc=true:=by
 show ([AV.str e.name,.str e.ty,.int .i64 e.lo,.int .i64 e.hi,.lst e.begins.length (fl eE e.begins),.int .i64 (e.line:Int),.int .i64 (e.col:Int)]).all pc=true;simp [pc]
theorem KN (e:ProcT):(prE e).all pc=true:=by
 show ([AV.str e.name,.lst e.rules.length (fl ruE e.rules),.int .i64 (e.line:Int),.int .i64 (e.col:Int)]).all pc=true;simp [pc]
theorem Df.symm {v w:AV}(h:Df v w):Df w v:=by
 unfold Df at *;split at h <;> first | exact λe=>h e.symm | (cases v <;> cases w <;> first | trivial | (rename_i h2; exact absurd rfl (h2 _ _ _ _ _ _ _ _ _ _ _ _ rfl)))
theorem jkT:Go.Ev.isAgg Qaf 23=some false:=by kernel_rfl
theorem jkS:Go.Ev.sizeOf Qaf 23=some 1:=by kernel_rfl
theorem jjj {b o:Nat}{v:AV}{h:T AO}(ho:o<qq h b)(hv:rat h b o=v)(hc:eqs v=true):(jX Qaf 23 (.ptr b o) v h=true)=True:=eq_true (J4 jkT jkS ho hv hc)
theorem jkR:Go.Ev.isAgg Qaf 24=some false:=by kernel_rfl
theorem jkQ:Go.Ev.sizeOf Qaf 24=some 1:=by kernel_rfl
theorem jji {b o:Nat}{v:AV}{h:T AO}(ho:o<qq h b)(hv:rat h b o=v)(hc:eqs v=true):(jX Qaf 24 (.ptr b o) v h=true)=True:=eq_true (J4 jkR jkQ ho hv hc)
theorem jkP:Go.Ev.isAgg Qaf 25=some false:=by kernel_rfl
theorem jkO:Go.Ev.sizeOf Qaf 25=some 1:=by kernel_rfl
theorem jjh {b o:Nat}{v:AV}{h:T AO}(ho:o<qq h b)(hv:rat h b o=v)(hc:eqs v=true):(jX Qaf 25 (.ptr b o) v h=true)=True:=eq_true (J4 jkP jkO ho hv hc)
set_option maxHeartbeats 8000000 in
theorem jeF (hb:NB base){ts:List Tk}(W:Wds ts)(NN:Nbs ts){i:Nat}(hi:i<ts.length):AnS base 37 (pC ts i 0) [] ts 0 (λe=>.agg (srE e)) (yU ts ts.length i ⟨[],[],[]⟩):=by
 have wl:=W.len;suffices h:∀ r:SR SrcT,yU ts ts.length i ⟨[],[],[]⟩=r->AnS base 37 (pC ts i 0) [] ts 0 (λe=>.agg (srE e)) r from h _ rfl
 intro r hr;refine ZE x37 (by rfl) (hb.pur 37 3 (by decide)) ?_;simp only [y37,jj,Qai,Qam,Qag,Qah];unfold z37;try dsimp only [oo,oO,ot,oT,os,og,oh,oc,on,oN,oP]
 unfold pC at *;repeat' (first | (apply jc <;> intro _) | simp (disch:=first | exact dzD | fail) only [je,Tk.cells_R,rzZ,Qab,Qac,Qad,Qaa,Qae])
 refine ww λu hu=>?_;have n0:u.nx=3:=by rw [hu]; rfl
 have C0:Cl u 0 (pC ts i 0):=by
  rw [hu]; unfold pC
  (first | exact cyD | fail)
 have C1:Cl u 1 [.nils,.nils,.nils]:=by
  rw [hu]
  (first | exact cyD | fail)
 have C2:Cl u 2 [.nils,.nils,.nils]:=by
  rw [hu]
  (first | exact cyD | fail)
 clear hu;refine zG (λmm L s=>∃ (m i':Nat) (x:SrcT) (v1 v2 v3:AV),mm=m∧ts.length≤i'+m∧i'<ts.length∧yU ts m i' x=r∧3≤s.nx∧Cl s 0 (pC ts i' 0)∧Cl s 1 [.nils,.nils,.nils]∧Cl s 2 [v1,v2,v3]∧Lv 3 s.nx s v1 x.enums.length (fl enE x.enums) 4∧Lv 3 s.nx s v2 x.vars.length (fl qu x.vars) 7∧Lv 3 s.nx s v3 x.procs.length (fl prE x.procs) 4∧Df v1 v2∧Df v1 v3∧Df v2 v3∧Has L 0 (.ptr 0 0)∧Has L 2 (.ptr 1 0)∧Has L 3 (.ptr 2 0)) ?_ ts.length ?_
 ·rintro m L s ⟨_,i',x,v1,v2,v3,rfl,hm,hi',hl,n0,C0,C1,C2,V1,V2,V3,D12,D13,D23,i0,i2,i3⟩;clear hr;cases m with
  | zero=>omega
  | succ m=>
  unfold yU at hl;obtain ⟨q,hq⟩:∃ q,q=s.nx:=⟨_,rfl⟩;rw [←hq] at V1 V2 V3;have hq':q≤s.nx:=QbY hq;have T:=Xf hb hi' (d:=0) (by omega) [[101,110,117,109],[118,97,114],[112,114,111,99,101,115,115]] (cs:=[.str [101,110,117,109],.str [118,97,114],.str [112,114,111,99,101,115,115]]) (n:=3) rfl rfl (by decide);have L0:=C0.lt;have L1:=C1.lt;have L2:=C2.lt;have ve1:=V1.eqs;have ve2:=V2.eqs;have ve3:=V3.eqs;have g1:rat s.h 2 0=v1:=C2.cell 0 (Qbo 2);have g2:rat s.h 2 1=v2:=C2.cell 1 (QbG (Qbo 1));have g3:rat s.h 2 2=v3:=C2.cell 2 (QbG (QbG (Qbo 0)));have vl1:=V1.len;have vl2:=V2.len;have vl3:=V3.len;have vc1:∀ l,lall AV.cell (v1 :: l)=lall AV.cell l:=λl=>by show cond v1.cell _ false=_; rw [V1.cell]; rfl
  have vc2:∀ l,lall AV.cell (v2 :: l)=lall AV.cell l:=λl=>by show cond v2.cell _ false=_; rw [V2.cell]; rfl
  have vc3:∀ l,lall AV.cell (v3 :: l)=lall AV.cell l:=λl=>by show cond v3.cell _ false=_; rw [V3.cell]; rfl
  by_cases c2:isM (tk ts i') [[101,110,117,109],[118,97,114],[112,114,111,99,101,115,115]]=true
  ·rw [if_pos c2] at hl;have hi1:=W.isM hi' c2;by_cases t1:(tk ts i').text=[101,110,117,109]
   ·rw [if_pos t1] at hl;by_cases h32:32≤x.enums.length
    ·rw [if_pos h32] at hl;have hl:SR.er (tk ts i')=r:=hl;subst hl;have R:=YZ hb h32 (tk ts i');unfold pC at *
     (have zz:=aI @g1 (aI C0.r (aI C1.r C2.r)); (repeat' (first | (apply jc <;> intro _) | simp (disch:=first | exact qz | fail) only [ja i0,ja i2,ja i3,T,c2,t1,vl1,R,g1,yW,C0.q,C1.q,C2.q,g1,C0.r,C1.r,C2.r,je,Tk.cells_R,rzZ,Qab,Qac,Qad,Qaa,Qae])); (all_goals (clear zz)))
     refine ⟨i'+1,0,?_⟩;unfold pC
     (refine G1.done ?_ (by rfl) (by rfl) ?_; (· (have zz:=aI C0.q (aI C1.q (aI C2.q (aI C0.r (aI C1.r C2.r)))); first | exact j4 | fail)); (· first | exact vyD | skip))
    ·rw [if_neg h32] at hl;have R:=YY hb (show x.enums.length<32 by omega) (tk ts i');have A:=jj1 hb W (d:=0) hi1;cases hw:Xs ts (i'+1) with
     | er t=>
      rw [hw] at hl A;have hl:SR.er t=r:=hl;subst hl;obtain ⟨i2',d2,A⟩:=A;have E:∀ st p,Cl st p (pC ts (i'+1) 0)->∀ K Kp,XB Qaf base 78 [.ptr p 0] st K Kp=_:=λst p C K Kp=>A.xb C rfl (λst=>hb.no 78 (by decide) _ _) K Kp;unfold pC at *
      (have zz:=aI @g1 (aI C0.r (aI C1.r C2.r)); (repeat' (first | (apply jc <;> intro _) | simp (disch:=first | exact qz | fail) only [ja i0,ja i2,ja i3,T,c2,t1,vl1,R,g1,E,jjj,ve1,yW,C0.q,C1.q,C2.q,g1,C0.r,C1.r,C2.r,je,Tk.cells_R,rzZ,Qab,Qac,Qad,Qaa,Qae])); (all_goals (clear zz)))
      refine ⟨i2',d2,?_⟩;unfold pC
      (refine G1.done ?_ (by rfl) (by rfl) ?_; (· (have zz:=aI C0.q (aI C1.q (aI C2.q (aI C0.r (aI C1.r C2.r)))); first | exact j4 | fail)); (· first | exact vyD | skip))
     | ok a j=>
      rw [hw] at hl A;dsimp only at hl;have A:PM Qaf base 78 (pC ts (i'+1) 0) [] (.ok (.agg [.str a.name,.lst a.vals.length (a.vals.map .str),.int .i64 (a.line:Int),.int .i64 (a.col:Int)])) (pC ts j 0):=A;have hj:=jhA W hi1 hw;have E:∀ st p,Cl st p (pC ts (i'+1) 0)->∀ K Kp,XB Qaf base 78 [.ptr p 0] st K Kp=_:=λst p C K Kp=>A.xb C rfl (λst=>hb.no 78 (by decide) _ _) K Kp;have Ap:=λst bv xc xx K h hv=>@vU 3 q x.enums.length 4 st v1 (fl enE x.enums) K 56 bv xc xx h (by decide) (by omega) (by omega) hv;have VP:∀ st m',Lv 3 q st v1 x.enums.length (fl enE x.enums) 4->3≤st.nx->m'=st.nx+1->Lv 3 m' (aps v1 st [.str a.name,.lst a.vals.length (a.vals.map .str),.int .i64 (a.line:Int),.int .i64 (a.col:Int)]) (apv 4 v1 st) (x.enums ++ [a]).length (fl enE (x.enums ++ [a])) 4:=λst m' h h2 h3=>by
       rw [Qak,wR,Yo];exact h.put rfl h2 h3
      unfold pC at *
      (have zz:=aI @g1 (aI V1.ln (aI V1.rts (aI @jP (aI @jQ (aI @j3 (aI @V1 (aI @jr (aI @jF (aI @jO (aI C0.r (aI C1.r C2.r))))))))))); (repeat' (first | (apply jc <;> intro _) | simp (disch:=first | exact qz | fail) only [ja i0,ja i2,ja i3,T,c2,t1,vl1,R,g1,E,jjj,ve1,Ap,V1.at,jr,C0.q,C1.q,C2.q,g1,V1.ln,V1.rts,jP,jQ,j3,V1,jr,jF,jO,C0.r,C1.r,C2.r,je,Tk.cells_R,rzZ,Qab,Qac,Qad,Qaa,Qae])); (all_goals (clear zz)))
      refine ⟨m,by omega,m,j,{ x with enums:=x.enums ++ [a] },?v1,v2,v3,rfl,by omega,hj.2,hl,by omega,?c0,?c1,?c2,?lv1,?lv2,?lv3,?d12,?d13,?d23,?has⟩;case lv1=>
       refine Lv.up (hi:=s.nx+4) ?_ (by omega);refine VP _ _ ?_ ?_ ?_;all_goals first | (simp only [jg,jh,jk]; done) | (simp only [jg,jh,jk]; omega) | (simp (disch:=first | omega | (simp only [jg,jh,jk]; omega)) only [jP,jQ,j3]; exact V1)
      case lv2=>
       refine Lv.up (hi:=q) ?_ (by omega);simp (disch:=first | omega | (simp only [jg,jh,jk]; omega)) only [jP,jQ,j3];refine Lv.apsD ?_ D12;simp (disch:=first | omega | (simp only [jg,jh,jk]; omega)) only [jP,jQ,j3];exact V2
      case d12=>exact (Df.put V2 (by simp only [jg,jh,jk]; omega)).1
      case lv3=>
       refine Lv.up (hi:=q) ?_ (by omega);simp (disch:=first | omega | (simp only [jg,jh,jk]; omega)) only [jP,jQ,j3];refine Lv.apsD ?_ D13;simp (disch:=first | omega | (simp only [jg,jh,jk]; omega)) only [jP,jQ,j3];exact V3
      case d13=>exact (Df.put V3 (by simp only [jg,jh,jk]; omega)).1
      case d23=>exact D23
      case c0=>(have zz:=aI C0.q (aI C1.q (aI C2.q (aI @g1 (aI @g2 (aI @g3 (aI V1.ln (aI V1.rts (aI @jr (aI @jF (aI @jO (aI C0.r (aI C1.r C2.r)))))))))))); first | exact j4 | fail)
      case c1=>(have zz:=aI C0.q (aI C1.q (aI C2.q (aI @g1 (aI @g2 (aI @g3 (aI V1.ln (aI V1.rts (aI @jr (aI @jF (aI @jO (aI C0.r (aI C1.r C2.r)))))))))))); first | exact j4 | fail)
      case c2=>(have zz:=aI C0.q (aI C1.q (aI C2.q (aI @g1 (aI @g2 (aI @g3 (aI V1.ln (aI V1.rts (aI @jr (aI @jF (aI @jO (aI C0.r (aI C1.r C2.r)))))))))))); first | exact j4 | fail)
      case has=>simp (disch:=decide) only [Qaj,Qan,z0,z1,jd,jb,and_true,true_and,i0,i2,i3]
   ·rw [if_neg t1] at hl;by_cases t2:(tk ts i').text=[118,97,114]
    ·rw [if_pos t2] at hl;by_cases h32:32≤x.vars.length
     ·rw [if_pos h32] at hl;have hl:SR.er (tk ts i')=r:=hl;subst hl;have R:=YZ hb h32 (tk ts i');unfold pC at *
      (have zz:=aI @g2 (aI C0.r (aI C1.r C2.r)); (repeat' (first | (apply jc <;> intro _) | simp (disch:=first | exact qz | fail) only [ja i0,ja i2,ja i3,T,c2,t1,t2,vl2,R,g2,yW,C0.q,C1.q,C2.q,g2,C0.r,C1.r,C2.r,je,Tk.cells_R,rzZ,Qab,Qac,Qad,Qaa,Qae])); (all_goals (clear zz)))
      refine ⟨i'+1,0,?_⟩;unfold pC
      (refine G1.done ?_ (by rfl) (by rfl) ?_; (· (have zz:=aI C0.q (aI C1.q (aI C2.q (aI C0.r (aI C1.r C2.r)))); first | exact j4 | fail)); (· first | exact vyD | skip))
     ·rw [if_neg h32] at hl;have R:=YY hb (show x.vars.length<32 by omega) (tk ts i');have A:=jj5 hb W NN hi1;cases hw:Xt ts (i'+1) with
      | er t=>
       rw [hw] at hl A;have hl:SR.er t=r:=hl;subst hl;obtain ⟨i2',d2,A⟩:=A;have E:∀ st p,Cl st p (pC ts (i'+1) 0)->∀ K Kp,XB Qaf base 79 [.ptr p 0] st K Kp=_:=λst p C K Kp=>A.xb C rfl (λst=>hb.no 79 (by decide) _ _) K Kp;unfold pC at *
       (have zz:=aI @g2 (aI C0.r (aI C1.r C2.r)); (repeat' (first | (apply jc <;> intro _) | simp (disch:=first | exact qz | fail) only [ja i0,ja i2,ja i3,T,c2,t1,t2,vl2,R,g2,E,jji,ve2,yW,C0.q,C1.q,C2.q,g2,C0.r,C1.r,C2.r,je,Tk.cells_R,rzZ,Qab,Qac,Qad,Qaa,Qae])); (all_goals (clear zz)))
       refine ⟨i2',d2,?_⟩;unfold pC
       (refine G1.done ?_ (by rfl) (by rfl) ?_; (· (have zz:=aI C0.q (aI C1.q (aI C2.q (aI C0.r (aI C1.r C2.r)))); first | exact j4 | fail)); (· first | exact vyD | skip))
      | ok a j=>
       rw [hw] at hl A;dsimp only at hl;have A:PM Qaf base 79 (pC ts (i'+1) 0) [] (.ok (.agg [.str a.name,.str a.ty,.int .i64 a.lo,.int .i64 a.hi,.lst a.begins.length (fl eE a.begins),.int .i64 (a.line:Int),.int .i64 (a.col:Int)])) (pC ts j 0):=A;have hj:=jhC W hi1 hw;have E:∀ st p,Cl st p (pC ts (i'+1) 0)->∀ K Kp,XB Qaf base 79 [.ptr p 0] st K Kp=_:=λst p C K Kp=>A.xb C rfl (λst=>hb.no 79 (by decide) _ _) K Kp;have Ap:=λst bv xc xx K h hv=>@vU 3 q x.vars.length 7 st v2 (fl qu x.vars) K 88 bv xc xx h (by decide) (by omega) (by omega) hv;have VP:∀ st m',Lv 3 q st v2 x.vars.length (fl qu x.vars) 7->3≤st.nx->m'=st.nx+1->Lv 3 m' (aps v2 st [.str a.name,.str a.ty,.int .i64 a.lo,.int .i64 a.hi,.lst a.begins.length (fl eE a.begins),.int .i64 (a.line:Int),.int .i64 (a.col:Int)]) (apv 7 v2 st) (x.vars ++ [a]).length (fl qu (x.vars ++ [a])) 7:=λst m' h h2 h3=>by
        rw [Qak,wR,Yo];exact h.put rfl h2 h3
       unfold pC at *
       (have zz:=aI @g2 (aI V2.ln (aI V2.rts (aI @jP (aI @jQ (aI @j3 (aI @V2 (aI @jr (aI @jF (aI @jO (aI C0.r (aI C1.r C2.r))))))))))); (repeat' (first | (apply jc <;> intro _) | simp (disch:=first | exact qz | fail) only [ja i0,ja i2,ja i3,T,c2,t1,t2,vl2,R,g2,E,jji,ve2,Ap,V2.at,jr,C0.q,C1.q,C2.q,g2,V2.ln,V2.rts,jP,jQ,j3,V2,jr,jF,jO,C0.r,C1.r,C2.r,je,Tk.cells_R,rzZ,Qab,Qac,Qad,Qaa,Qae])); (all_goals (clear zz)))
       refine ⟨m,by omega,m,j,{ x with vars:=x.vars ++ [a] },v1,?v2,v3,rfl,by omega,hj.2,hl,by omega,?c0,?c1,?c2,?lv1,?lv2,?lv3,?d12,?d13,?d23,?has⟩;case lv2=>
        refine Lv.up (hi:=s.nx+4) ?_ (by omega);refine VP _ _ ?_ ?_ ?_;all_goals first | (simp only [jg,jh,jk]; done) | (simp only [jg,jh,jk]; omega) | (simp (disch:=first | omega | (simp only [jg,jh,jk]; omega)) only [jP,jQ,j3]; exact V2)
       case lv1=>
        refine Lv.up (hi:=q) ?_ (by omega);simp (disch:=first | omega | (simp only [jg,jh,jk]; omega)) only [jP,jQ,j3];refine Lv.apsD ?_ D12.symm;simp (disch:=first | omega | (simp only [jg,jh,jk]; omega)) only [jP,jQ,j3];exact V1
       case d12=>exact (Df.put V1 (by simp only [jg,jh,jk]; omega)).2
       case lv3=>
        refine Lv.up (hi:=q) ?_ (by omega);simp (disch:=first | omega | (simp only [jg,jh,jk]; omega)) only [jP,jQ,j3];refine Lv.apsD ?_ D23;simp (disch:=first | omega | (simp only [jg,jh,jk]; omega)) only [jP,jQ,j3];exact V3
       case d23=>exact (Df.put V3 (by simp only [jg,jh,jk]; omega)).1
       case d13=>exact D13
       case c0=>(have zz:=aI C0.q (aI C1.q (aI C2.q (aI @g1 (aI @g2 (aI @g3 (aI V2.ln (aI V2.rts (aI @jr (aI @jF (aI @jO (aI C0.r (aI C1.r C2.r)))))))))))); first | exact j4 | fail)
       case c1=>(have zz:=aI C0.q (aI C1.q (aI C2.q (aI @g1 (aI @g2 (aI @g3 (aI V2.ln (aI V2.rts (aI @jr (aI @jF (aI @jO (aI C0.r (aI C1.r C2.r)))))))))))); first | exact j4 | fail)
       case c2=>(have zz:=aI C0.q (aI C1.q (aI C2.q (aI @g1 (aI @g2 (aI @g3 (aI V2.ln (aI V2.rts (aI @jr (aI @jF (aI @jO (aI C0.r (aI C1.r C2.r)))))))))))); first | exact j4 | fail)
       case has=>simp (disch:=decide) only [Qaj,Qan,z0,z1,jd,jb,and_true,true_and,i0,i2,i3]
    ·rw [if_neg t2] at hl;by_cases h32:32≤x.procs.length
     ·rw [if_pos h32] at hl;have hl:SR.er (tk ts i')=r:=hl;subst hl;have R:=YZ hb h32 (tk ts i');unfold pC at *
      (have zz:=aI @g3 (aI C0.r (aI C1.r C2.r)); (repeat' (first | (apply jc <;> intro _) | simp (disch:=first | exact qz | fail) only [ja i0,ja i2,ja i3,T,c2,t1,t2,vl3,R,g3,yW,C0.q,C1.q,C2.q,g3,C0.r,C1.r,C2.r,je,Tk.cells_R,rzZ,Qab,Qac,Qad,Qaa,Qae])); (all_goals (clear zz)))
      refine ⟨i'+1,0,?_⟩;unfold pC
      (refine G1.done ?_ (by rfl) (by rfl) ?_; (· (have zz:=aI C0.q (aI C1.q (aI C2.q (aI C0.r (aI C1.r C2.r)))); first | exact j4 | fail)); (· first | exact vyD | skip))
     ·rw [if_neg h32] at hl;have R:=YY hb (show x.procs.length<32 by omega) (tk ts i');have A:=jju hb W hi1;cases hw:Xk ts (i'+1) with
      | er t=>
       rw [hw] at hl A;have hl:SR.er t=r:=hl;subst hl;obtain ⟨i2',d2,A⟩:=A;have E:∀ st p,Cl st p (pC ts (i'+1) 0)->∀ K Kp,XB Qaf base 80 [.ptr p 0] st K Kp=_:=λst p C K Kp=>A.xb C rfl (λst=>hb.no 80 (by decide) _ _) K Kp;unfold pC at *
       (have zz:=aI @g3 (aI C0.r (aI C1.r C2.r)); (repeat' (first | (apply jc <;> intro _) | simp (disch:=first | exact qz | fail) only [ja i0,ja i2,ja i3,T,c2,t1,t2,vl3,R,g3,E,jjh,ve3,yW,C0.q,C1.q,C2.q,g3,C0.r,C1.r,C2.r,je,Tk.cells_R,rzZ,Qab,Qac,Qad,Qaa,Qae])); (all_goals (clear zz)))
       refine ⟨i2',d2,?_⟩;unfold pC
       (refine G1.done ?_ (by rfl) (by rfl) ?_; (· (have zz:=aI C0.q (aI C1.q (aI C2.q (aI C0.r (aI C1.r C2.r)))); first | exact j4 | fail)); (· first | exact vyD | skip))
      | ok a j=>
       rw [hw] at hl A;dsimp only at hl;have A:PM Qaf base 80 (pC ts (i'+1) 0) [] (.ok (.agg [.str a.name,.lst a.rules.length (fl ruE a.rules),.int .i64 (a.line:Int),.int .i64 (a.col:Int)])) (pC ts j 0):=A;have hj:=jhl W hi1 hw;have E:∀ st p,Cl st p (pC ts (i'+1) 0)->∀ K Kp,XB Qaf base 80 [.ptr p 0] st K Kp=_:=λst p C K Kp=>A.xb C rfl (λst=>hb.no 80 (by decide) _ _) K Kp;have Ap:=λst bv xc xx K h hv=>@vU 3 q x.procs.length 4 st v3 (fl prE x.procs) K 56 bv xc xx h (by decide) (by omega) (by omega) hv;have VP:∀ st m',Lv 3 q st v3 x.procs.length (fl prE x.procs) 4->3≤st.nx->m'=st.nx+1->Lv 3 m' (aps v3 st [.str a.name,.lst a.rules.length (fl ruE a.rules),.int .i64 (a.line:Int),.int .i64 (a.col:Int)]) (apv 4 v3 st) (x.procs ++ [a]).length (fl prE (x.procs ++ [a])) 4:=λst m' h h2 h3=>by
        rw [Qak,wR,Yo];exact h.put rfl h2 h3
       unfold pC at *
       (have zz:=aI @g3 (aI V3.ln (aI V3.rts (aI @jP (aI @jQ (aI @j3 (aI @V3 (aI @jr (aI @jF (aI @jO (aI C0.r (aI C1.r C2.r))))))))))); (repeat' (first | (apply jc <;> intro _) | simp (disch:=first | exact qz | fail) only [ja i0,ja i2,ja i3,T,c2,t1,t2,vl3,R,g3,E,jjh,ve3,Ap,V3.at,jr,C0.q,C1.q,C2.q,g3,V3.ln,V3.rts,jP,jQ,j3,V3,jr,jF,jO,C0.r,C1.r,C2.r,je,Tk.cells_R,rzZ,Qab,Qac,Qad,Qaa,Qae])); (all_goals (clear zz)))
       refine ⟨m,by omega,m,j,{ x with procs:=x.procs ++ [a] },v1,v2,?v3,rfl,by omega,hj.2,hl,by omega,?c0,?c1,?c2,?lv1,?lv2,?lv3,?d12,?d13,?d23,?has⟩;case lv3=>
        refine Lv.up (hi:=s.nx+4) ?_ (by omega);refine VP _ _ ?_ ?_ ?_;all_goals first | (simp only [jg,jh,jk]; done) | (simp only [jg,jh,jk]; omega) | (simp (disch:=first | omega | (simp only [jg,jh,jk]; omega)) only [jP,jQ,j3]; exact V3)
       case lv1=>
        refine Lv.up (hi:=q) ?_ (by omega);simp (disch:=first | omega | (simp only [jg,jh,jk]; omega)) only [jP,jQ,j3];refine Lv.apsD ?_ D13.symm;simp (disch:=first | omega | (simp only [jg,jh,jk]; omega)) only [jP,jQ,j3];exact V1
       case d13=>exact (Df.put V1 (by simp only [jg,jh,jk]; omega)).2
       case lv2=>
        refine Lv.up (hi:=q) ?_ (by omega);simp (disch:=first | omega | (simp only [jg,jh,jk]; omega)) only [jP,jQ,j3];refine Lv.apsD ?_ D23.symm;simp (disch:=first | omega | (simp only [jg,jh,jk]; omega)) only [jP,jQ,j3];exact V2
       case d23=>exact (Df.put V2 (by simp only [jg,jh,jk]; omega)).2
       case d12=>exact D12
       case c0=>(have zz:=aI C0.q (aI C1.q (aI C2.q (aI @g1 (aI @g2 (aI @g3 (aI V3.ln (aI V3.rts (aI @jr (aI @jF (aI @jO (aI C0.r (aI C1.r C2.r)))))))))))); first | exact j4 | fail)
       case c1=>(have zz:=aI C0.q (aI C1.q (aI C2.q (aI @g1 (aI @g2 (aI @g3 (aI V3.ln (aI V3.rts (aI @jr (aI @jF (aI @jO (aI C0.r (aI C1.r C2.r)))))))))))); first | exact j4 | fail)
       case c2=>(have zz:=aI C0.q (aI C1.q (aI C2.q (aI @g1 (aI @g2 (aI @g3 (aI V3.ln (aI V3.rts (aI @jr (aI @jF (aI @jO (aI C0.r (aI C1.r C2.r)))))))))))); first | exact j4 | fail)
       case has=>simp (disch:=decide) only [Qaj,Qan,z0,z1,jd,jb,and_true,true_and,i0,i2,i3]
  ·rw [if_neg c2] at hl;by_cases k5:(tk ts i').kind=5
   ·rw [if_pos k5] at hl;have hl:SR.ok x i'=r:=hl;subst hl;have k5':((tk ts i').kind:Int)=5:=by omega
    unfold pC at *
    (have zz:=aI @g1 (aI @g2 (aI @g3 (aI @vc1 (aI @vc2 (aI @vc3 (aI C0.r (aI C1.r C2.r))))))); (repeat' (first | (apply jc <;> intro _) | simp (disch:=first | exact qz | fail) only [ja i0,ja i2,ja i3,T,c2,k5',g1,g2,g3,KG,C0.q,C1.q,C2.q,g1,g2,g3,vc1,vc2,vc3,C0.r,C1.r,C2.r,je,Tk.cells_R,rzZ,Qab,Qac,Qad,Qaa,Qae])); (all_goals (clear zz)))
    show G1 3 (pC ts i' 0) (.agg (srE x)) _ _;refine G1.done ?_ (by rfl) (by rfl) (FzD.agg (.cons (Lv.fz (lo:=3) (hi:=q) (z:=4) ?_ (by decide) (YL vK _)) (.cons (Lv.fz (lo:=3) (hi:=q) (z:=7) ?_ (by decide) (YL X3 _)) (.cons (Lv.fz (lo:=3) (hi:=q) (z:=4) ?_ (by decide) (YL KN _)) .nil))))
    ·unfold pC
     (have zz:=aI C0.q (aI C1.q (aI C2.q (aI @g1 (aI @g2 (aI @g3 (aI C0.r (aI C1.r C2.r))))))); first | exact j4 | fail)
    all_goals simp (disch:=first | omega | (simp only [jg,jh,jk]; omega)) only [j6,jP,jQ,j3]
    ·exact V1
    ·exact V2
    ·exact V3
   ·rw [if_neg k5] at hl;have hl:SR.er (tk ts i')=r:=hl;subst hl;have k5':¬ ((tk ts i').kind:Int)=5:=by omega
    unfold pC at *
    (have zz:=aI @g1 (aI C0.r (aI C1.r C2.r)); (repeat' (first | (apply jc <;> intro _) | simp (disch:=first | exact qz | fail) only [ja i0,ja i2,ja i3,T,c2,k5',g1,Jr hb,yW,C0.q,C1.q,C2.q,g1,C0.r,C1.r,C2.r,je,Tk.cells_R,rzZ,Qab,Qac,Qad,Qaa,Qae])); (all_goals (clear zz)))
    refine ⟨i',0,?_⟩;unfold pC
    (refine G1.done ?_ (by rfl) (by rfl) ?_; (· (have zz:=aI C0.q (aI C1.q (aI C2.q (aI C0.r (aI C1.r C2.r)))); first | exact j4 | fail)); (· first | exact vyD | skip))
 ·refine ⟨ts.length,i,⟨[],[],[]⟩,.nils,.nils,.nils,rfl,by omega,hi,hr,by omega,C0,C1,C2,Lv.nil,Lv.nil,Lv.nil,trivial,trivial,trivial,?_⟩;simp (disch:=decide) only [Qaj,Qan,z0,z1,jd,jb,and_true,true_and]
end Go.Sy
end
noncomputable section
set_option maxRecDepth 100000
namespace Go.Sy
open Go.Ev Go.Proofs
variable {base:Bs}
theorem jkN:Go.Ev.isAgg Qaf 27=some true:=by kernel_rfl
theorem jkM:Go.Ev.sizeOf Qaf 27=some 3:=by kernel_rfl
theorem jaS {b:Nat}{h:T AO}(ho:0+3≤qq h b)(hv:rats h b 0 3=[.nils,.nils,.nils]):(jX Qaf 27 (.ptr b 0) (.agg [.nils,.nils,.nils]) h=true)=True:=eq_true (Zj jkN jkM (by decide) ho hv rfl)
def Qw:SrcT:=⟨[],[],[]⟩
def Zi (l:List Nat):SrcT×(Nat×Nat×Nat):=
 if (j7 l).2.1≠0 then (Qw,(j7 l).2) else match yU (j7 l).1 (j7 l).1.length 0 Qw with
  | .er t=>(Qw,(151,t.line,t.col))
  | .ok m j=>(m,(0,0,0))
theorem KA (m:SrcT):(srE m).all pc=true:=by
 show ([AV.lst m.enums.length (fl enE m.enums),.lst m.vars.length (fl qu m.vars),.lst m.procs.length (fl prE m.procs)]).all pc=true;simp [pc]
theorem HQ {s:St}{q:Nat×Nat×Nat}{ds:List AV}(h2:ds=zm q):G0 (.tup [.agg (srE Qw),.agg (zm q)]) (.tup [.agg [.nils,.nils,.nils],.agg ds]) s:=by
 subst h2;exact FzD.tup (.cons (.agg (.cons FzD.nils (.cons FzD.nils (.cons FzD.nils .nil)))) (.cons (.agg (.pc (by rfl))) .nil))
theorem jg6 {s:St}{m:SrcT}{q:Nat×Nat×Nat}{cs ds:List AV}(h:cs=srE m)(h2:ds=zm q):G0 (.tup [.agg (srE m),.agg (zm q)]) (.tup [.agg cs,.agg ds]) s:=by
 subst h h2;exact FzD.tup (.cons (.agg (.pc (KA m))) (.cons (.agg (.pc (by rfl))) .nil))
set_option maxHeartbeats 4000000 in
theorem jfJ (hb:NB base)(hP:PI base)(l:List Nat)(hl:l.length≤9223372036854775807)(hW:(j7 l).2.1=0->Wds (j7 l).1∧(j7 l).1≠[]∧(j7 l).2=(0,0,0))(hN:(j7 l).2.1=0->Nbs (j7 l).1) :
  Tot base 9 [.str l] (.tup [.agg (srE (Zi l).1),.agg (zm (Zi l).2)]):=by
 refine hb.tot ?_ rfl rfl;refine gP x9 (hb.pur 9 1 (by decide)) ?_;simp only [y9,jj,Qai,Qam,Qag,Qah];unfold z9;try dsimp only [oo,oO,ot,oT,os,og,oh,oc,on,oN,oP]
 have hC:=jgU hb hP l hl;have f0:(zm (j7 l).2)=[.int .i64 ((j7 l).2.1:Int),.int .i64 ((j7 l).2.2.1:Int),.int .i64 ((j7 l).2.2.2:Int)]:=rfl;by_cases he:(j7 l).2.1=0
 ·obtain ⟨W,hne,hz⟩:=hW he;have NN:=hN he;have hi:0<(j7 l).1.length:=List.length_pos_iff.2 hne;have A:=jeF hb W NN hi;unfold Zi;rw [if_neg (by simp [he])];rw [hz] at hC;have s0:Qw=⟨[],[],[]⟩:=rfl;rw [←s0] at A;generalize (j7 l).1=ts at *;have fz:zm (0,0,0)=[.int .i64 0,.int .i64 0,.int .i64 0]:=rfl;rw [fz] at hC;cases hr:yU ts ts.length 0 Qw with
  | er t=>
   rw [hr] at A;obtain ⟨i',d',A⟩:=A;have E:∀ st p,Cl st p [.lst ts.length (fl Tk.cells ts),.int .i64 0,.int .i64 0]->∀ K Kp,XB Qaf base 37 [.ptr p 0] st K Kp=_:=λst p C K Kp=>A.xb C rfl (λst=>hb.no 37 (by decide) _ _) K Kp;unfold pC at *;repeat' (first | (apply jc <;> intro _) | simp (disch:=first | exact dzD | fail) only [hC,E,w5,XG (f:=36) (vs:=[.ptr 1 0]),QT (f:=36) (vs:=[.ptr 1 0]),QU,ZC,vq,UG,jaS,Uw,jex,jew (base:=base),je,Tk.cells_R,rzZ,Qab,Qac,Qad,Qaa,Qae])
   exact HQ rfl
  | ok m j=>
   rw [hr] at A;have A:PM Qaf base 37 (pC ts 0 0) [] (.ok (.agg [.lst m.enums.length (fl enE m.enums),.lst m.vars.length (fl qu m.vars),.lst m.procs.length (fl prE m.procs)])) (pC ts j 0):=A;have E:∀ st p,Cl st p [.lst ts.length (fl Tk.cells ts),.int .i64 0,.int .i64 0]->∀ K Kp,XB Qaf base 37 [.ptr p 0] st K Kp=_:=λst p C K Kp=>A.xb C rfl (λst=>hb.no 37 (by decide) _ _) K Kp;dsimp only;unfold pC at *;repeat' (first | (apply jc <;> intro _) | simp (disch:=first | exact dzD | fail) only [hC,E,w5,XG (f:=36) (vs:=[.ptr 1 0]),QT (f:=36) (vs:=[.ptr 1 0]),QU,ZC,vq,UG,jaS,Uw,jex,jew (base:=base),je,Tk.cells_R,rzZ,Qab,Qac,Qad,Qaa,Qae])
   exact jg6 rfl rfl
 ·have he':¬ ((j7 l).2.1:Int)=0:=by omega
  unfold Zi;rw [if_pos he];rw [f0] at hC;generalize (j7 l).1=ts at *;repeat' (first | (apply jc <;> intro _) | simp (disch:=first | exact dzD | fail) only [hC,he',w5,XG (f:=36) (vs:=[.ptr 1 0]),QT (f:=36) (vs:=[.ptr 1 0]),QU,ZC,vq,UG,jaS,je,Tk.cells_R,rzZ,Qab,Qac,Qad,Qaa,Qae])
  exact HQ rfl
end Go.Sy
end
noncomputable section
set_option maxRecDepth 100000
namespace Go.Sy
open Go.Ev Go.Proofs
theorem ja8 {r:List Nat}{p:Nat×Nat}{n:Nat}{t:Tk}(h:qL r p=(0,t,n)):t.text.length≤r.length∧t.num≤1000000:=by
 cases r with
 | nil=>simp [qL] at h; obtain ⟨h1,h2⟩:=h; subst h1; simp
 | cons x r'=>
  unfold qL at h;simp only at h;split at h
  ·split at h
   ·simp at h
   ·simp only [Prod.mk.injEq] at h;obtain ⟨_,h1,h2⟩:=h;subst h1;exact ⟨by simp only [QaP]; omega,by simp⟩
  ·split at h
   ·split at h
    ·simp at h
    ·rename_i hh;simp only [Prod.mk.injEq] at h;obtain ⟨_,h1,h2⟩:=h;subst h1;exact ⟨by simp only [QaP]; omega,by dsimp only; omega⟩
   ·split at h
    ·simp at h
    ·simp only [Prod.mk.injEq] at h;obtain ⟨_,h1,h2⟩:=h;subst h1;exact ⟨by simp only [QaP]; omega,by simp⟩
structure Goods (n:Nat)(ts:List Tk):Prop where
 ne:ts≠[]
 len:ts.length≤n+1
 tok:∀ t∈ts,t.text.length≤n∧t.num≤1000000
 fin:∀ i,i<ts.length->((tk ts i).kind=5↔i+1=ts.length)
theorem jdW (k:Nat):∀ (r:List Nat) (p:Nat×Nat),r.length≤k->(yr r p).2.1=0->(yr r p).2=(0,0,0)∧Goods r.length (yr r p).1:=by
 induction k with
 | zero=>
  intro r p hr;have:r=[]:=QaU (by omega);subst this;have hx:qL (([]:List Nat).drop (jB [])) (jC p (([]:List Nat).take (jB [])))=(0,⟨5,[],0,(jC p (([]:List Nat).take (jB []))).1,(jC p (([]:List Nat).take (jB []))).2⟩,0):=by simp only [List.drop_nil]; rfl
  rw [Qr _ p hx,if_neg (by simp),if_pos rfl];intro _;refine ⟨rfl,by simp,by simp,by simp,λi hi=>?_⟩;have:i=0:=by simp at hi; omega
  subst this;simp [tk]
 | succ k ih=>
  intro r p hr;have hg:=Y8 r;generalize hx:qL (r.drop (jB r)) (jC p (r.take (jB r)))=x;obtain ⟨e,t,n⟩:=x;rw [Qr r p hx];by_cases he:e=0
  ·subst he;rw [if_neg (by simp)];have hk:=VI hx;have hgd:=ja8 hx;have hle:=WY hx;simp only [QaQ] at hgd hle;by_cases hn:n=0
   ·rw [if_pos hn];intro _;refine ⟨rfl,by simp,by simp,?_,λi hi=>?_⟩
    ·intro t' ht';have:t'=t:=by simpa using ht'
     subst this;exact ⟨by omega,hgd.2⟩
    ·have:i=0:=by simp at hi; omega
     subst this;have:=hk.1.2 hn;simpa [tk] using this
   ·rw [if_neg hn];have hl:((r.drop (jB r)).drop n).length≤k:=by simp only [QaQ]; omega
    have hI:=ih ((r.drop (jB r)).drop n) (jC (jC p (r.take (jB r))) ((r.drop (jB r)).take n)) hl;generalize hq:yr ((r.drop (jB r)).drop n) (jC (jC p (r.take (jB r))) ((r.drop (jB r)).take n))=q at hI ⊢;by_cases hf:q.2.1=0
    ·rw [if_neg (by simp [hf])];intro _;obtain ⟨h1,h2⟩:=hI hf;have hl2:((r.drop (jB r)).drop n).length+1≤r.length:=by simp only [QaQ]; omega
     generalize ((r.drop (jB r)).drop n).length=m at *;have h3:=h2.len;refine ⟨h1,by simp,by simp only [Qal]; omega,?_,λi hi=>?_⟩
     ·intro t' ht';rcases Qbe.1 ht' with rfl | ht'
      ·exact ⟨by omega,hgd.2⟩
      ·have:=h2.tok t' ht';exact ⟨by omega,this.2⟩
     ·cases i with
      | zero=>
       have hk5:t.kind≠5:=λh=>hn (hk.1.1 h);have:=List.length_pos_iff.2 h2.ne;show t.kind=5↔0+1=q.1.length+1;constructor
       ·intro h; exact absurd h hk5
       ·intro h; omega
      | succ i=>
       show (tk q.1 i).kind=5↔i+1+1=q.1.length+1;have:=h2.fin i (by simpa using hi);constructor
       ·intro h; have:=this.1 h; omega
       ·intro h; exact this.2 (by omega)
    ·rw [if_pos hf];intro h;exact absurd h hf
  ·rw [if_pos he];intro h;exact absurd h he
theorem Kc {l:List Nat}(h:(j7 l).2.1=0):l.length≤65536∧(j7 l).2=(0,0,0)∧Goods l.length (j7 l).1:=by
 unfold j7 at *;by_cases hl:65536<l.length
 ·rw [if_pos hl] at h; cases h
 ·rw [if_neg hl] at h ⊢;obtain ⟨h1,h2⟩:=jdW l.length l (1,1) (Qaq _) h;exact ⟨by omega,h1,h2⟩
theorem jf9 {ts:List Tk}{i:Nat}(h:ts.length≤i):tk ts i=⟨0,[],0,0,0⟩:=by simp [tk,QaO,h]
theorem jcA {ts:List Tk}{i:Nat}(h:i<ts.length):tk ts i∈ts:=by rw [←jga h]; exact Qau h
theorem Goods.wds {n:Nat}{ts:List Tk}(h:Goods n ts)(hn:n≤65536):Wds ts where
 len:=by have:=h.len; omega
 next:=λi hi hk=>by
  have:=h.fin i hi;rcases QaX (i+1) ts.length with h2 | h2
  ·exact h2
  ·exact absurd (this.2 (by omega)) hk
 txt:=λi=>by
  rcases QaX i ts.length with h2 | h2
  ·have:=(h.tok _ (jcA h2)).1; omega
  ·rw [jf9 h2]; simp
theorem Goods.nbs {n:Nat}{ts:List Tk}(h:Goods n ts):Nbs ts:=λi=>by
 rcases QaX i ts.length with h2 | h2
 ·exact (h.tok _ (jcA h2)).2
 ·rw [jf9 h2]; simp
theorem GV {l:List Nat}(h:(j7 l).2.1=0):Wds (j7 l).1∧(j7 l).1≠[]∧(j7 l).2=(0,0,0):=
 let ⟨h1,h2,h3⟩:=Kc h
 ⟨h3.wds h1,h3.ne,h2⟩
theorem jj6 {l:List Nat}(h:(j7 l).2.1=0):Nbs (j7 l).1:=(Kc h).2.2.nbs
end Go.Sy
end
noncomputable section
set_option maxRecDepth 100000
namespace Go.Sy
open Go.Ev Go.Proofs
def jib:XC:=(.seq (.ops [(oO 4 (.mv (.c (.bool false))))]) (.seq (.seq (.ops [(oT 7 1),(oO 8 (.len (.t 7))),(oO 9 (.mv (.c (.int .i64 0))))]) (.block 0 (.loop (.seq (.ops [(oO 10 (.bin .lss (.t 9) (.t 8)))]) (.seq (.cond (.t 10) .skip (.exit 0)) (.seq (.block 1 (.seq (.ops [(oo 11 (.idxS 1 (.t 7) (.t 9))),(oo 12 (.ld1 (.t 11))),(oT 6 12)]) (.seq (.ops [(ot 13 6),(ot 14 0),(oO 15 (.strb .eql (.t 13) (.t 14)))]) (.cond (.t 15) (.seq (.ops [(oO 4 (.mv (.c (.bool true))))]) .ret) .skip)))) (.ops [(oo 16 (.bin .add (.t 9) (.c (.int .i64 1)))),(oT 9 16)]))))))) (.seq (.ops [(oO 4 (.mv (.c (.bool false))))]) .ret)))
def jiB:XF:=⟨[0,1],jib,[(.t 4)]⟩
theorem jls:ju Qaf 130=some jiB:=by kernel_rfl
def z84:XC:=(.seq (.ops [(oO 2 (.mv (.c (.bool false))))]) (.seq (.ops [(ot 3 0),(oo 4 (.buildS 19 1 [(.str [])] [((0,1),(.c (.str [101,110,117,109]))),((1,1),(.c (.str [118,97,114]))),((2,1),(.c (.str [98,111,111,108]))),((3,1),(.c (.str [112,114,111,99,101,115,115]))),((4,1),(.c (.str [119,104,101,110]))),((5,1),(.c (.str [100,111]))),((6,1),(.c (.str [116,114,117,101]))),((7,1),(.c (.str [102,97,108,115,101]))),((8,1),(.c (.str [88]))),((9,1),(.c (.str [70]))),((10,1),(.c (.str [71]))),((11,1),(.c (.str [85]))),((12,1),(.c (.str [82]))),((13,1),(.c (.str [89]))),((14,1),(.c (.str [90]))),((15,1),(.c (.str [79]))),((16,1),(.c (.str [72]))),((17,1),(.c (.str [83]))),((18,1),(.c (.str [84])))])),(oc 5 130 [(.t 3),(.t 4)]),(oT 2 5)]) .ret))
def y84:XF:=⟨[0],z84,[(.t 2)]⟩
theorem x84:ju Qaf 84=some y84:=by kernel_rfl
def z83:XC:=(.seq (.ops [(oO 2 (.mv (.c (.bool false))))]) (.seq (.ops [(ot 3 0),(oo 4 (.bin .geq (.t 3) (.c (.int .u8 97)))),(ot 5 4),(og 6 5 (.mv (.t 0))),(og 7 5 (.bin .leq (.t 6) (.c (.int .u8 122)))),(oo 8 (.pick (.t 5) (.t 7) (.c (.bool false)))),(ot 9 8),(oh 10 9 (.mv (.t 0))),(oh 11 9 (.bin .geq (.t 10) (.c (.int .u8 65)))),(oh 12 9 (.mv (.t 11))),(og 13 12 (.mv (.t 0))),(og 14 12 (.bin .leq (.t 13) (.c (.int .u8 90)))),(oh 15 9 (.pick (.t 12) (.t 14) (.c (.bool false)))),(oo 16 (.pick (.t 9) (.c (.bool true)) (.t 15))),(oT 2 16)]) .ret))
def y83:XF:=⟨[0],z83,[(.t 2)]⟩
theorem x83:ju Qaf 83=some y83:=by kernel_rfl
def z85:XC:=(.seq (.ops [(oO 2 (.mv (.c (.bool false))))]) (.seq (.ops [(ot 3 0),(oo 4 (.bin .geq (.t 3) (.c (.int .u8 48)))),(ot 5 4),(og 6 5 (.mv (.t 0))),(og 7 5 (.bin .leq (.t 6) (.c (.int .u8 57)))),(oo 8 (.pick (.t 5) (.t 7) (.c (.bool false)))),(oT 2 8)]) .ret))
def y85:XF:=⟨[0],z85,[(.t 2)]⟩
theorem x85:ju Qaf 85=some y85:=by kernel_rfl
def z56:XC:=(.seq (.ops [(oO 2 (.mv (.c (.bool false))))]) (.seq (.seq (.ops [(oO 3 (.mv (.c (.int .i64 0))))]) (.block 0 (.loop (.seq (.seq (.ops [(ot 4 3),(ot 5 0),(oo 6 (.lenS (.t 5))),(oO 7 (.bin .lss (.t 4) (.t 6)))]) (.cond (.t 7) .skip (.exit 0))) (.seq (.block 1 (.seq (.ops [(ot 10 0),(ot 11 3),(oo 12 (.ixStr (.t 10) (.t 11))),(oc 13 83 [(.t 12)]),(oo 14 (.un .not (.t 13))),(ot 15 14),(og 16 15 (.mv (.t 3))),(og 17 15 (.bin .eql (.t 16) (.c (.int .i64 0)))),(og 18 15 (.mv (.t 17))),(oh 19 18 (.mv (.t 0))),(oh 20 18 (.mv (.t 3))),(oh 21 18 (.ixStr (.t 19) (.t 20))),⟨(some 22),false,(some (18,false)),(.call (.c (.fn 85 [])) [(.t 21)])⟩,(oh 23 18 (.un .not (.t 22))),(oh 24 18 (.mv (.t 23))),(og 25 24 (.mv (.t 0))),(og 26 24 (.mv (.t 3))),(og 27 24 (.ixStr (.t 25) (.t 26))),(og 28 24 (.bin .neq (.t 27) (.c (.int .u8 95)))),(oh 29 18 (.pick (.t 24) (.t 28) (.c (.bool false)))),(og 30 15 (.pick (.t 18) (.c (.bool true)) (.t 29))),(oO 31 (.pick (.t 15) (.t 30) (.c (.bool false))))]) (.cond (.t 31) (.seq (.ops [(oO 2 (.mv (.c (.bool false))))]) .ret) .skip))) (.ops [(ot 8 3),(oo 9 (.bin .add (.t 8) (.c (.int .i64 1)))),(oT 3 9)])))))) (.seq (.ops [(ot 32 0),(oo 33 (.lenS (.t 32))),(oo 34 (.bin .gtr (.t 33) (.c (.int .i64 0)))),(ot 35 34),(og 36 35 (.mv (.t 0))),(og 37 35 (.lenS (.t 36))),(og 38 35 (.bin .leq (.t 37) (.c (.int .i64 32)))),(oo 39 (.pick (.t 35) (.t 38) (.c (.bool false)))),(ot 40 39),(og 41 40 (.mv (.t 0))),⟨(some 42),false,(some (40,true)),(.call (.c (.fn 84 [])) [(.t 41)])⟩,(og 43 40 (.un .not (.t 42))),(oo 44 (.pick (.t 40) (.t 43) (.c (.bool false)))),(oT 2 44)]) .ret)))
def y56:XF:=⟨[0],z56,[(.t 2)]⟩
theorem x56:ju Qaf 56=some y56:=by kernel_rfl
def z16:XC:=(.seq (.ops [(oO 1 (.box (.t 0))),(oO 2 (.mv (.c (.str []))))]) (.seq (.seq (.ops [(oo 3 (.fad 3 (.t 1))),(oo 4 (.ld1 (.t 3))),(oo 5 (.len (.t 4))),(oO 6 (.bin .eql (.t 5) (.c (.int .i64 2))))]) (.cond (.t 6) (.seq (.dops [(oP (oo 7 (.fad 3 (.t 1)))),(⟨(oo 8 (.ld1 (.t 7))),(some (some (.t 7))),35,[]⟩,none),(oP (oo 9 (.idxS 6 (.t 8) (.c (.int .i64 0))))),(⟨(oo 10 (.ldA 6 (.t 9))),(some (some (.t 9))),37,[]⟩,none),(⟨(oc 11 51 [(.t 10)]),(some none),0,[]⟩,(some [(on 11),(on 12),⟨(oo 13 (.fad 0 (.t 1))),none,0,[]⟩,⟨(oo 14 (.ld1 (.t 13))),(some (some (.t 13))),3,[(2,0)]⟩,(on 15),(on 16),(on 17),⟨(oo 18 (.fad 3 (.t 1))),none,0,[]⟩,⟨(oo 19 (.ld1 (.t 18))),(some (some (.t 18))),35,[(3,0),(7,0)]⟩,⟨(oo 20 (.idxS 6 (.t 19) (.c (.int .i64 1)))),none,0,[]⟩,⟨(oo 21 (.ldA 6 (.t 20))),(some (some (.t 20))),37,[(5,0),(9,0)]⟩,(on 22),(on 23),⟨(oO 2 (.mv (.c (.tup [])))),none,0,[]⟩])),(oP (oo 12 (.strb .add (.t 11) (.c (.str [32]))))),(oP (oo 13 (.fad 0 (.t 1)))),(⟨(oo 14 (.ld1 (.t 13))),(some (some (.t 13))),3,[(2,0)]⟩,none),(⟨(oc 15 52 [(.t 14)]),(some none),0,[]⟩,(some [(on 15),(on 16),(on 17),⟨(oo 18 (.fad 3 (.t 1))),none,0,[]⟩,⟨(oo 19 (.ld1 (.t 18))),(some (some (.t 18))),35,[(3,0),(7,0)]⟩,⟨(oo 20 (.idxS 6 (.t 19) (.c (.int .i64 1)))),none,0,[]⟩,⟨(oo 21 (.ldA 6 (.t 20))),(some (some (.t 20))),37,[(5,0),(9,0)]⟩,(on 22),(on 23),⟨(oO 2 (.mv (.c (.tup [])))),none,0,[]⟩])),(oP (oo 16 (.strb .add (.t 12) (.t 15)))),(oP (oo 17 (.strb .add (.t 16) (.c (.str [32]))))),(oP (oo 18 (.fad 3 (.t 1)))),(⟨(oo 19 (.ld1 (.t 18))),(some (some (.t 18))),35,[(3,0),(7,0)]⟩,none),(oP (oo 20 (.idxS 6 (.t 19) (.c (.int .i64 1))))),(⟨(oo 21 (.ldA 6 (.t 20))),(some (some (.t 20))),37,[(5,0),(9,0)]⟩,none),(⟨(oc 22 51 [(.t 21)]),(some none),0,[]⟩,(some [])),(oP (oo 23 (.strb .add (.t 17) (.t 22)))),(oP (oT 2 23))]) .ret) .skip)) (.seq (.seq (.ops [(oo 24 (.fad 3 (.t 1))),(oo 25 (.ld1 (.t 24))),(oo 26 (.len (.t 25))),(oO 27 (.bin .eql (.t 26) (.c (.int .i64 1))))]) (.cond (.t 27) (.seq (.seq (.ops [(oo 28 (.fad 0 (.t 1))),(oo 29 (.ld1 (.t 28))),(oO 30 (.bin .gtr (.t 29) (.c (.int .i64 6))))]) (.cond (.t 30) (.seq (.dops [(oP (oo 31 (.fad 0 (.t 1)))),(⟨(oo 32 (.ld1 (.t 31))),(some (some (.t 31))),3,[]⟩,none),(⟨(oc 33 52 [(.t 32)]),(some none),0,[]⟩,(some [(on 33),(on 34),⟨(oo 35 (.fad 3 (.t 1))),none,0,[]⟩,⟨(oo 36 (.ld1 (.t 35))),(some (some (.t 35))),35,[(2,0)]⟩,⟨(oo 37 (.idxS 6 (.t 36) (.c (.int .i64 0)))),none,0,[]⟩,⟨(oo 38 (.ldA 6 (.t 37))),(some (some (.t 37))),37,[(4,0)]⟩,(on 39),(on 40),⟨(oO 2 (.mv (.c (.tup [])))),none,0,[]⟩])),(oP (oo 34 (.strb .add (.t 33) (.c (.str [32]))))),(oP (oo 35 (.fad 3 (.t 1)))),(⟨(oo 36 (.ld1 (.t 35))),(some (some (.t 35))),35,[(2,0)]⟩,none),(oP (oo 37 (.idxS 6 (.t 36) (.c (.int .i64 0))))),(⟨(oo 38 (.ldA 6 (.t 37))),(some (some (.t 37))),37,[(4,0)]⟩,none),(⟨(oc 39 51 [(.t 38)]),(some none),0,[]⟩,(some [])),(oP (oo 40 (.strb .add (.t 34) (.t 39)))),(oP (oT 2 40))]) .ret) .skip)) (.seq (.dops [(oP (oo 41 (.fad 0 (.t 1)))),(⟨(oo 42 (.ld1 (.t 41))),(some (some (.t 41))),3,[]⟩,none),(⟨(oc 43 52 [(.t 42)]),(some none),0,[]⟩,(some [(on 43),⟨(oo 44 (.fad 3 (.t 1))),none,0,[]⟩,⟨(oo 45 (.ld1 (.t 44))),(some (some (.t 44))),35,[(1,0)]⟩,⟨(oo 46 (.idxS 6 (.t 45) (.c (.int .i64 0)))),none,0,[]⟩,⟨(oo 47 (.ldA 6 (.t 46))),(some (some (.t 46))),37,[(3,0)]⟩,(on 48),(on 49),⟨(oO 2 (.mv (.c (.tup [])))),none,0,[]⟩])),(oP (oo 44 (.fad 3 (.t 1)))),(⟨(oo 45 (.ld1 (.t 44))),(some (some (.t 44))),35,[(1,0)]⟩,none),(oP (oo 46 (.idxS 6 (.t 45) (.c (.int .i64 0))))),(⟨(oo 47 (.ldA 6 (.t 46))),(some (some (.t 46))),37,[(3,0)]⟩,none),(⟨(oc 48 51 [(.t 47)]),(some none),0,[]⟩,(some [])),(oP (oo 49 (.strb .add (.t 43) (.t 48)))),(oP (oT 2 49))]) .ret)) .skip)) (.seq (.seq (.ops [(oo 50 (.fad 0 (.t 1))),(oo 51 (.ld1 (.t 50))),(oO 52 (.bin .eql (.t 51) (.c (.int .i64 1))))]) (.cond (.t 52) (.seq (.ops [(oo 53 (.fad 1 (.t 1))),(oo 54 (.ld1 (.t 53))),(oc 55 53 [(.t 54)]),(oT 2 55)]) .ret) .skip)) (.seq (.seq (.ops [(oo 56 (.fad 0 (.t 1))),(oo 57 (.ld1 (.t 56))),(oO 58 (.bin .eql (.t 57) (.c (.int .i64 2))))]) (.cond (.t 58) (.seq (.seq (.ops [(oo 59 (.fad 1 (.t 1))),(oo 60 (.ld1 (.t 59))),(oO 61 (.bin .eql (.t 60) (.c (.int .i64 1))))]) (.cond (.t 61) (.seq (.ops [(oO 2 (.mv (.c (.str [116,114,117,101]))))]) .ret) .skip)) (.seq (.ops [(oO 2 (.mv (.c (.str [102,97,108,115,101]))))]) .ret)) .skip)) (.seq (.ops [(oo 62 (.fad 2 (.t 1))),(oo 63 (.ld1 (.t 62))),(oT 2 63)]) .ret))))))
def y16:XF:=⟨[0],z16,[(.t 2)]⟩
theorem x16:ju Qaf 16=some y16:=by kernel_rfl
def z51:XC:=(.seq (.ops [(oO 1 (.box (.t 0))),(oO 2 (.mv (.c (.str []))))]) (.seq (.seq (.ops [(oo 3 (.fad 3 (.t 1))),(oo 4 (.ld1 (.t 3))),(oo 5 (.len (.t 4))),(oO 6 (.bin .eql (.t 5) (.c (.int .i64 0))))]) (.cond (.t 6) (.seq (.ops [(oo 7 (.ldA 6 (.t 1))),(oc 8 16 [(.t 7)]),(oT 2 8)]) .ret) .skip)) (.seq (.ops [(oo 9 (.ldA 6 (.t 1))),(oc 10 16 [(.t 9)]),(oo 11 (.strb .add (.c (.str [40])) (.t 10))),(oo 12 (.strb .add (.t 11) (.c (.str [41])))),(oT 2 12)]) .ret)))
def y51:XF:=⟨[0],z51,[(.t 2)]⟩
theorem x51:ju Qaf 51=some y51:=by kernel_rfl
def z53:XC:=(.seq (.ops [(oO 2 (.mv (.c (.str []))))]) (.seq (.seq (.ops [(ot 3 0),(oO 4 (.bin .lss (.t 3) (.c (.int .i64 0))))]) (.cond (.t 4) (.seq (.ops [(ot 5 0),(oo 6 (.un .neg (.t 5))),(oc 7 53 [(.t 6)]),(oo 8 (.strb .add (.c (.str [45])) (.t 7))),(oT 2 8)]) .ret) .skip)) (.seq (.seq (.ops [(ot 9 0),(oO 10 (.bin .lss (.t 9) (.c (.int .i64 10))))]) (.cond (.t 10) (.seq (.ops [(ot 11 0),(ot 12 0),(oo 13 (.bin .add (.t 12) (.c (.int .i64 1)))),(oo 14 (.slStr (.c (.str [48,49,50,51,52,53,54,55,56,57])) (some (.t 11)) (some (.t 13)))),(oT 2 14)]) .ret) .skip)) (.seq (.cops [((ot 15 0),none),((oo 16 (.bin .quo (.t 15) (.c (.int .i64 10)))),none),((oc 17 53 [(.t 16)]),(some [(on 17),⟨(ot 18 0),none,0,[]⟩,⟨(oo 19 (.bin .rem (.t 18) (.c (.int .i64 10)))),none,0,[]⟩,⟨(ot 20 0),none,0,[]⟩,⟨(oo 21 (.bin .rem (.t 20) (.c (.int .i64 10)))),none,0,[]⟩,⟨(oo 22 (.bin .add (.t 21) (.c (.int .i64 1)))),none,0,[]⟩,⟨(oo 23 (.slStr (.c (.str [48,49,50,51,52,53,54,55,56,57])) (some (.t 19)) (some (.t 22)))),none,0,[]⟩,(on 24),⟨(oO 2 (.mv (.c (.tup [])))),none,0,[]⟩])),((ot 18 0),none),((oo 19 (.bin .rem (.t 18) (.c (.int .i64 10)))),none),((ot 20 0),none),((oo 21 (.bin .rem (.t 20) (.c (.int .i64 10)))),none),((oo 22 (.bin .add (.t 21) (.c (.int .i64 1)))),none),((oo 23 (.slStr (.c (.str [48,49,50,51,52,53,54,55,56,57])) (some (.t 19)) (some (.t 22)))),none),((oo 24 (.strb .add (.t 17) (.t 23))),none),((oT 2 24),none)]) .ret))))
def y53:XF:=⟨[0],z53,[(.t 2)]⟩
theorem x53:ju Qaf 53=some y53:=by kernel_rfl
def z18:XC:=(.seq (.ops [(oO 1 (.box (.t 0))),(oO 2 (.mv (.c (.str [])))),(oO 3 (.mv (.c (.int .i64 0))))]) (.seq (.ops [(oO 4 (.mv (.c (.str []))))]) (.seq (.seq (.ops [(oo 19 (.fad 0 (.t 1))),(oo 20 (.ld1 (.t 19))),(oo 21 (.len (.t 20))),(oo 22 (.bin .gtr (.t 21) (.c (.int .i64 32)))),(ot 23 22),(oh 24 23 (.fad 1 (.t 1))),(oh 25 23 (.ld1 (.t 24))),(oh 26 23 (.len (.t 25))),(oh 27 23 (.bin .gtr (.t 26) (.c (.int .i64 32)))),(oo 28 (.pick (.t 23) (.c (.bool true)) (.t 27))),(ot 29 28),(oh 30 29 (.fad 2 (.t 1))),(oh 31 29 (.ld1 (.t 30))),(oh 32 29 (.len (.t 31))),(oh 33 29 (.bin .gtr (.t 32) (.c (.int .i64 32)))),(oO 34 (.pick (.t 29) (.c (.bool true)) (.t 33)))]) (.cond (.t 34) (.seq (.ops [(oO 2 (.mv (.c (.str [])))),(oO 3 (.mv (.c (.int .i64 141))))]) .ret) .skip)) (.seq (.seq (.ops [(oo 35 (.fad 0 (.t 1))),(oO 36 (.ld1 (.t 35))),(oO 37 (.len (.t 36))),(oO 38 (.mv (.c (.int .i64 0))))]) (.block 0 (.loop (.seq (.ops [(oO 39 (.bin .lss (.t 38) (.t 37)))]) (.seq (.cond (.t 39) .skip (.exit 0)) (.seq (.block 1 (.seq (.ops [(oo 40 (.idxS 4 (.t 36) (.t 38))),(oo 41 (.ldA 4 (.t 40))),(oO 6 (.alloc [(.str []),.nils,(.int .i64 0),(.int .i64 0)])),(os (.st 4 (.t 6) (.t 41)))]) (.seq (.ops [(oo 43 (.ldA 4 (.t 6))),(oc 44 54 [(.t 43)]),(ot 42 44),(oo 45 (.ext (.t 42) 0)),(oo 46 (.ext (.t 42) 1)),(oT 7 45),(oT 8 46)]) (.seq (.seq (.ops [(ot 47 8),(oO 48 (.un .not (.t 47)))]) (.cond (.t 48) (.seq (.ops [(oO 2 (.mv (.c (.str [])))),(oO 3 (.mv (.c (.int .i64 141))))]) .ret) .skip)) (.ops [(ot 49 4),(ot 50 7),(oo 51 (.strb .add (.t 49) (.t 50))),(oT 4 51)]))))) (.ops [(oo 52 (.bin .add (.t 38) (.c (.int .i64 1)))),(oT 38 52)]))))))) (.seq (.seq (.ops [(oo 53 (.fad 1 (.t 1))),(oO 54 (.ld1 (.t 53))),(oO 55 (.len (.t 54))),(oO 56 (.mv (.c (.int .i64 0))))]) (.block 2 (.loop (.seq (.ops [(oO 57 (.bin .lss (.t 56) (.t 55)))]) (.seq (.cond (.t 57) .skip (.exit 2)) (.seq (.block 3 (.seq (.ops [(oo 58 (.idxS 7 (.t 54) (.t 56))),(oo 59 (.ldA 7 (.t 58))),(oO 10 (.alloc [(.str []),(.str []),(.int .i64 0),(.int .i64 0),.nils,(.int .i64 0),(.int .i64 0)])),(os (.st 7 (.t 10) (.t 59)))]) (.seq (.ops [(oo 61 (.ldA 7 (.t 10))),(oc 62 55 [(.t 61)]),(ot 60 62),(oo 63 (.ext (.t 60) 0)),(oo 64 (.ext (.t 60) 1)),(oT 11 63),(oT 12 64)]) (.seq (.seq (.ops [(ot 65 12),(oO 66 (.un .not (.t 65)))]) (.cond (.t 66) (.seq (.ops [(oO 2 (.mv (.c (.str [])))),(oO 3 (.mv (.c (.int .i64 141))))]) .ret) .skip)) (.ops [(ot 67 4),(ot 68 11),(oo 69 (.strb .add (.t 67) (.t 68))),(oT 4 69)]))))) (.ops [(oo 70 (.bin .add (.t 56) (.c (.int .i64 1)))),(oT 56 70)]))))))) (.seq (.seq (.ops [(oo 71 (.fad 2 (.t 1))),(oO 72 (.ld1 (.t 71))),(oO 73 (.len (.t 72))),(oO 74 (.mv (.c (.int .i64 0))))]) (.block 4 (.loop (.seq (.ops [(oO 75 (.bin .lss (.t 74) (.t 73)))]) (.seq (.cond (.t 75) .skip (.exit 4)) (.seq (.block 5 (.seq (.ops [(oo 76 (.idxS 4 (.t 72) (.t 74))),(oo 77 (.ldA 4 (.t 76))),(oO 14 (.alloc [(.str []),.nils,(.int .i64 0),(.int .i64 0)])),(os (.st 4 (.t 14) (.t 77)))]) (.seq (.seq (.ops [(oo 78 (.fad 0 (.t 14))),(oo 79 (.ld1 (.t 78))),(oc 80 56 [(.t 79)]),(oo 81 (.un .not (.t 80))),(ot 82 81),(oh 83 82 (.fad 1 (.t 14))),(oh 84 82 (.ld1 (.t 83))),(oh 85 82 (.len (.t 84))),(oh 86 82 (.bin .gtr (.t 85) (.c (.int .i64 32)))),(oO 87 (.pick (.t 82) (.c (.bool true)) (.t 86)))]) (.cond (.t 87) (.seq (.ops [(oO 2 (.mv (.c (.str [])))),(oO 3 (.mv (.c (.int .i64 141))))]) .ret) .skip)) (.seq (.ops [(ot 88 4),(oo 89 (.fad 0 (.t 14))),(oo 90 (.ld1 (.t 89))),(oo 91 (.strb .add (.c (.str [112,114,111,99,101,115,115,32])) (.t 90))),(oo 92 (.strb .add (.t 91) (.c (.str [32,123,10])))),(oo 93 (.strb .add (.t 88) (.t 92))),(oT 4 93)]) (.seq (.seq (.ops [(oo 94 (.fad 1 (.t 14))),(oO 95 (.ld1 (.t 94))),(oO 96 (.len (.t 95))),(oO 97 (.mv (.c (.int .i64 0))))]) (.block 6 (.loop (.seq (.ops [(oO 98 (.bin .lss (.t 97) (.t 96)))]) (.seq (.cond (.t 98) .skip (.exit 6)) (.seq (.block 7 (.seq (.ops [(oo 99 (.idxS 7 (.t 95) (.t 97))),(oo 100 (.ldA 7 (.t 99))),(oO 16 (.alloc [(.int .i64 0),(.int .i64 0),(.str []),.nils,(.int .i64 0),(.int .i64 0),.nils])),(os (.st 7 (.t 16) (.t 100)))]) (.seq (.ops [(oo 102 (.ldA 7 (.t 16))),(oc 103 57 [(.t 102)]),(ot 101 103),(oo 104 (.ext (.t 101) 0)),(oo 105 (.ext (.t 101) 1)),(oT 17 104),(oT 18 105)]) (.seq (.seq (.ops [(ot 106 18),(oO 107 (.un .not (.t 106)))]) (.cond (.t 107) (.seq (.ops [(oO 2 (.mv (.c (.str [])))),(oO 3 (.mv (.c (.int .i64 141))))]) .ret) .skip)) (.ops [(ot 108 4),(ot 109 17),(oo 110 (.strb .add (.t 108) (.t 109))),(oT 4 110)]))))) (.ops [(oo 111 (.bin .add (.t 97) (.c (.int .i64 1)))),(oT 97 111)]))))))) (.ops [(ot 112 4),(oo 113 (.strb .add (.t 112) (.c (.str [125,10])))),(oT 4 113)])))))) (.ops [(oo 114 (.bin .add (.t 74) (.c (.int .i64 1)))),(oT 74 114)]))))))) (.seq (.ops [(ot 115 4),(oT 2 115),(oO 3 (.mv (.c (.int .i64 0))))]) .ret)))))))
def y18:XF:=⟨[0],z18,[(.t 2),(.t 3)]⟩
theorem x18:ju Qaf 18=some y18:=by kernel_rfl
def z54:XC:=(.seq (.ops [(oO 1 (.box (.t 0))),(oO 2 (.mv (.c (.str [])))),(oO 3 (.mv (.c (.bool false))))]) (.seq (.seq (.ops [(oo 7 (.fad 0 (.t 1))),(oo 8 (.ld1 (.t 7))),(oc 9 56 [(.t 8)]),(oo 10 (.un .not (.t 9))),(ot 11 10),(oh 12 11 (.fad 1 (.t 1))),(oh 13 11 (.ld1 (.t 12))),(oh 14 11 (.len (.t 13))),(oh 15 11 (.bin .lss (.t 14) (.c (.int .i64 1)))),(oo 16 (.pick (.t 11) (.c (.bool true)) (.t 15))),(ot 17 16),(oh 18 17 (.fad 1 (.t 1))),(oh 19 17 (.ld1 (.t 18))),(oh 20 17 (.len (.t 19))),(oh 21 17 (.bin .gtr (.t 20) (.c (.int .i64 32)))),(oO 22 (.pick (.t 17) (.c (.bool true)) (.t 21)))]) (.cond (.t 22) (.seq (.ops [(oO 2 (.mv (.c (.str [])))),(oO 3 (.mv (.c (.bool false))))]) .ret) .skip)) (.seq (.ops [(oo 23 (.fad 0 (.t 1))),(oo 24 (.ld1 (.t 23))),(oo 25 (.strb .add (.c (.str [101,110,117,109,32])) (.t 24))),(oo 26 (.strb .add (.t 25) (.c (.str [32,123,32])))),(oT 4 26)]) (.seq (.seq (.ops [(oo 27 (.fad 1 (.t 1))),(oO 28 (.ld1 (.t 27))),(oO 29 (.len (.t 28))),(oO 30 (.mv (.c (.int .i64 0))))]) (.block 0 (.loop (.seq (.ops [(oO 31 (.bin .lss (.t 30) (.t 29)))]) (.seq (.cond (.t 31) .skip (.exit 0)) (.seq (.block 1 (.seq (.ops [(ot 32 30),(oo 33 (.idxS 1 (.t 28) (.t 30))),(oo 34 (.ld1 (.t 33))),(oT 5 32),(oT 6 34)]) (.seq (.seq (.ops [(ot 35 6),(oc 36 56 [(.t 35)]),(oO 37 (.un .not (.t 36)))]) (.cond (.t 37) (.seq (.ops [(oO 2 (.mv (.c (.str [])))),(oO 3 (.mv (.c (.bool false))))]) .ret) .skip)) (.seq (.seq (.ops [(ot 38 5),(oO 39 (.bin .gtr (.t 38) (.c (.int .i64 0))))]) (.cond (.t 39) (.ops [(ot 40 4),(oo 41 (.strb .add (.t 40) (.c (.str [44,32])))),(oT 4 41)]) .skip)) (.ops [(ot 42 4),(ot 43 6),(oo 44 (.strb .add (.t 42) (.t 43))),(oT 4 44)]))))) (.ops [(oo 45 (.bin .add (.t 30) (.c (.int .i64 1)))),(oT 30 45)]))))))) (.seq (.ops [(ot 46 4),(oo 47 (.strb .add (.t 46) (.c (.str [32,125,10])))),(oT 2 47),(oO 3 (.mv (.c (.bool true))))]) .ret)))))
def y54:XF:=⟨[0],z54,[(.t 2),(.t 3)]⟩
theorem x54:ju Qaf 54=some y54:=by kernel_rfl
def jen:XC:=(.seq (.seq (.ops [(oo 57 (.fad 4 (.t 1))),(oo 58 (.ld1 (.t 57))),(oo 59 (.len (.t 58))),(oo 60 (.bin .gtr (.t 59) (.c (.int .i64 1)))),(ot 61 60),(oh 62 61 (.fad 0 (.t 1))),(oh 63 61 (.ld1 (.t 62))),⟨(some 64),false,(some (61,false)),(.call (.c (.fn 56 [])) [(.t 63)])⟩,(oh 65 61 (.un .not (.t 64))),(oO 66 (.pick (.t 61) (.c (.bool true)) (.t 65)))]) (.cond (.t 66) (.seq (.ops [(oO 2 (.mv (.c (.str [])))),(oO 3 (.mv (.c (.bool false))))]) .ret) .skip)) (.seq (.seq (.ops [(oo 67 (.fad 4 (.t 1))),(oO 68 (.ld1 (.t 67))),(oO 69 (.len (.t 68))),(oO 70 (.mv (.c (.int .i64 0))))]) (.block 0 (.loop (.seq (.ops [(oO 71 (.bin .lss (.t 70) (.t 69)))]) (.seq (.cond (.t 71) .skip (.exit 0)) (.seq (.block 1 (.seq (.ops [(oo 72 (.idxS 6 (.t 68) (.t 70))),(oo 73 (.ldA 6 (.t 72))),(oO 6 (.alloc [(.int .i64 0),(.int .i64 0),(.str []),.nils,(.int .i64 0),(.int .i64 0)])),(os (.st 6 (.t 6) (.t 73)))]) (.seq (.seq (.ops [(oo 74 (.ldA 6 (.t 6))),(oc 75 12 [(.t 74)]),(oO 76 (.un .not (.t 75)))]) (.cond (.t 76) (.seq (.ops [(oO 2 (.mv (.c (.str [])))),(oO 3 (.mv (.c (.bool false))))]) .ret) .skip)) (.ops [(ot 77 4),(oo 78 (.ldA 6 (.t 6))),(oc 79 16 [(.t 78)]),(oo 80 (.strb .add (.c (.str [32,61,32])) (.t 79))),(oo 81 (.strb .add (.t 77) (.t 80))),(oT 4 81)])))) (.ops [(oo 82 (.bin .add (.t 70) (.c (.int .i64 1)))),(oT 70 82)]))))))) (.seq (.ops [(ot 83 4),(oo 84 (.strb .add (.t 83) (.c (.str [59,10])))),(oT 2 84),(oO 3 (.mv (.c (.bool true))))]) .ret)))
def z55:XC:=(.seq (.ops [(oO 1 (.box (.t 0))),(oO 2 (.mv (.c (.str [])))),(oO 3 (.mv (.c (.bool false))))]) (.seq (.ops [(oo 7 (.fad 0 (.t 1))),(oo 8 (.ld1 (.t 7))),(oo 9 (.strb .add (.c (.str [118,97,114,32])) (.t 8))),(oo 10 (.strb .add (.t 9) (.c (.str [32,58,32])))),(oT 4 10)]) (.seq (.seq (.ops [(oo 11 (.fad 1 (.t 1))),(oo 12 (.ld1 (.t 11))),(oO 13 (.strb .eql (.t 12) (.c (.str []))))]) (.cond (.t 13) (.seq (.seq (.ops [(oo 14 (.fad 2 (.t 1))),(oo 15 (.ld1 (.t 14))),(oc 16 96 [(.t 15)]),(oo 17 (.un .not (.t 16))),(ot 18 17),(oh 19 18 (.fad 3 (.t 1))),(oh 20 18 (.ld1 (.t 19))),⟨(some 21),false,(some (18,false)),(.call (.c (.fn 96 [])) [(.t 20)])⟩,(oh 22 18 (.un .not (.t 21))),(oO 23 (.pick (.t 18) (.c (.bool true)) (.t 22)))]) (.cond (.t 23) (.seq (.ops [(oO 2 (.mv (.c (.str [])))),(oO 3 (.mv (.c (.bool false))))]) .ret) .skip)) (.dops [(oP (ot 24 4)),(oP (oo 25 (.fad 2 (.t 1)))),(⟨(oo 26 (.ld1 (.t 25))),(some (some (.t 25))),2,[]⟩,none),(⟨(oc 27 53 [(.t 26)]),(some none),0,[]⟩,(some [(on 27),(on 28),⟨(oo 29 (.fad 3 (.t 1))),none,0,[]⟩,⟨(oo 30 (.ld1 (.t 29))),(some (some (.t 29))),2,[(2,0)]⟩,(on 31),(on 32),(on 33),⟨(oO 4 (.mv (.c (.tup [])))),none,0,[]⟩])),(oP (oo 28 (.strb .add (.t 27) (.c (.str [46,46]))))),(oP (oo 29 (.fad 3 (.t 1)))),(⟨(oo 30 (.ld1 (.t 29))),(some (some (.t 29))),2,[(2,0)]⟩,none),(⟨(oc 31 53 [(.t 30)]),(some none),0,[]⟩,(some [])),(oP (oo 32 (.strb .add (.t 28) (.t 31)))),(oP (oo 33 (.strb .add (.t 24) (.t 32)))),(oP (oT 4 33))])) (.seq (.seq (.ops [(oo 34 (.fad 2 (.t 1))),(oo 35 (.ld1 (.t 34))),(oo 36 (.bin .neq (.t 35) (.c (.int .i64 0)))),(ot 37 36),(oh 38 37 (.fad 3 (.t 1))),(oh 39 37 (.ld1 (.t 38))),(oh 40 37 (.bin .neq (.t 39) (.c (.int .i64 0)))),(oo 41 (.pick (.t 37) (.c (.bool true)) (.t 40))),(ot 42 41),(oh 43 42 (.fad 1 (.t 1))),(oh 44 42 (.ld1 (.t 43))),(oh 45 42 (.strb .neq (.t 44) (.c (.str [98,111,111,108])))),(oh 46 42 (.mv (.t 45))),(og 47 46 (.fad 1 (.t 1))),(og 48 46 (.ld1 (.t 47))),⟨(some 49),false,(some (46,true)),(.call (.c (.fn 56 [])) [(.t 48)])⟩,(og 50 46 (.un .not (.t 49))),(oh 51 42 (.pick (.t 46) (.t 50) (.c (.bool false)))),(oO 52 (.pick (.t 42) (.c (.bool true)) (.t 51)))]) (.cond (.t 52) (.seq (.ops [(oO 2 (.mv (.c (.str [])))),(oO 3 (.mv (.c (.bool false))))]) .ret) .skip)) (.ops [(ot 53 4),(oo 54 (.fad 1 (.t 1))),(oo 55 (.ld1 (.t 54))),(oo 56 (.strb .add (.t 53) (.t 55))),(oT 4 56)])))) jen)))
def y55:XF:=⟨[0],z55,[(.t 2),(.t 3)]⟩
theorem x55:ju Qaf 55=some y55:=by kernel_rfl
def z57:XC:=(.seq (.ops [(oO 1 (.box (.t 0))),(oO 2 (.mv (.c (.str [])))),(oO 3 (.mv (.c (.bool false))))]) (.seq (.seq (.ops [(oo 7 (.fad 0 (.t 1))),(oo 8 (.ldA 6 (.t 7))),(oc 9 12 [(.t 8)]),(oo 10 (.un .not (.t 9))),(ot 11 10),(oh 12 11 (.fad 6 (.t 1))),(oh 13 11 (.ld1 (.t 12))),(oh 14 11 (.len (.t 13))),(oh 15 11 (.bin .lss (.t 14) (.c (.int .i64 1)))),(oo 16 (.pick (.t 11) (.c (.bool true)) (.t 15))),(ot 17 16),(oh 18 17 (.fad 6 (.t 1))),(oh 19 17 (.ld1 (.t 18))),(oh 20 17 (.len (.t 19))),(oh 21 17 (.bin .gtr (.t 20) (.c (.int .i64 32)))),(oO 22 (.pick (.t 17) (.c (.bool true)) (.t 21)))]) (.cond (.t 22) (.seq (.ops [(oO 2 (.mv (.c (.str [])))),(oO 3 (.mv (.c (.bool false))))]) .ret) .skip)) (.seq (.ops [(oo 23 (.fad 0 (.t 1))),(oo 24 (.ldA 6 (.t 23))),(oc 25 16 [(.t 24)]),(oo 26 (.strb .add (.c (.str [32,32,119,104,101,110,32])) (.t 25))),(oo 27 (.strb .add (.t 26) (.c (.str [32,100,111,32])))),(oT 4 27)]) (.seq (.seq (.ops [(oo 28 (.fad 6 (.t 1))),(oO 29 (.ld1 (.t 28))),(oO 30 (.len (.t 29))),(oO 31 (.mv (.c (.int .i64 0))))]) (.block 0 (.loop (.seq (.ops [(oO 32 (.bin .lss (.t 31) (.t 30)))]) (.seq (.cond (.t 32) .skip (.exit 0)) (.seq (.block 1 (.seq (.ops [(ot 33 31),(oo 34 (.idxS 9 (.t 29) (.t 31))),(oo 35 (.ldA 9 (.t 34))),(oO 6 (.alloc [(.str []),(.int .i64 0),(.int .i64 0),(.str []),.nils,(.int .i64 0),(.int .i64 0),(.int .i64 0),(.int .i64 0)])),(oT 5 33),(os (.st 9 (.t 6) (.t 35)))]) (.seq (.seq (.ops [(oo 36 (.fad 0 (.t 6))),(oo 37 (.ld1 (.t 36))),(oc 38 56 [(.t 37)]),(oo 39 (.un .not (.t 38))),(ot 40 39),(oh 41 40 (.fad 1 (.t 6))),(oh 42 40 (.ldA 6 (.t 41))),⟨(some 43),false,(some (40,false)),(.call (.c (.fn 12 [])) [(.t 42)])⟩,(oh 44 40 (.un .not (.t 43))),(oO 45 (.pick (.t 40) (.c (.bool true)) (.t 44)))]) (.cond (.t 45) (.seq (.ops [(oO 2 (.mv (.c (.str [])))),(oO 3 (.mv (.c (.bool false))))]) .ret) .skip)) (.seq (.seq (.ops [(ot 46 5),(oO 47 (.bin .gtr (.t 46) (.c (.int .i64 0))))]) (.cond (.t 47) (.ops [(ot 48 4),(oo 49 (.strb .add (.t 48) (.c (.str [44,32])))),(oT 4 49)]) .skip)) (.dops [(oP (ot 50 4)),(oP (oo 51 (.fad 0 (.t 6)))),(⟨(oo 52 (.ld1 (.t 51))),(some (some (.t 51))),9,[]⟩,none),(oP (oo 53 (.strb .add (.t 52) (.c (.str [32,58,61,32]))))),(oP (oo 54 (.fad 1 (.t 6)))),(⟨(oo 55 (.ldA 6 (.t 54))),(some (some (.t 54))),37,[]⟩,none),(⟨(oc 56 16 [(.t 55)]),(some none),0,[(3,9)]⟩,(some [])),(oP (oo 57 (.strb .add (.t 53) (.t 56)))),(oP (oo 58 (.strb .add (.t 50) (.t 57)))),(oP (oT 4 58))]))))) (.ops [(oo 59 (.bin .add (.t 31) (.c (.int .i64 1)))),(oT 31 59)]))))))) (.seq (.ops [(ot 60 4),(oo 61 (.strb .add (.t 60) (.c (.str [59,10])))),(oT 2 61),(oO 3 (.mv (.c (.bool true))))]) .ret)))))
def y57:XF:=⟨[0],z57,[(.t 2),(.t 3)]⟩
theorem x57:ju Qaf 57=some y57:=by kernel_rfl
def z19:XC:=(.seq (.ops [(oO 1 (.box (.t 0))),(oO 2 (.mv (.c (.bool false))))]) (.seq (.seq (.ops [(oo 13 (.fad 1 (.t 1))),(oO 14 (.ld1 (.t 13))),(oO 15 (.len (.t 14))),(oO 16 (.mv (.c (.int .i64 0))))]) (.block 0 (.loop (.seq (.ops [(oO 17 (.bin .lss (.t 16) (.t 15)))]) (.seq (.cond (.t 17) .skip (.exit 0)) (.seq (.block 1 (.seq (.ops [(oo 18 (.idxS 7 (.t 14) (.t 16))),(oo 19 (.ldA 7 (.t 18))),(oO 4 (.alloc [(.str []),(.str []),(.int .i64 0),(.int .i64 0),.nils,(.int .i64 0),(.int .i64 0)])),(os (.st 7 (.t 4) (.t 19)))]) (.seq (.ops [(oo 20 (.fad 4 (.t 4))),(oO 21 (.ld1 (.t 20))),(oO 22 (.len (.t 21))),(oO 23 (.mv (.c (.int .i64 0))))]) (.block 2 (.loop (.seq (.ops [(oO 24 (.bin .lss (.t 23) (.t 22)))]) (.seq (.cond (.t 24) .skip (.exit 2)) (.seq (.block 3 (.seq (.ops [(oo 25 (.idxS 6 (.t 21) (.t 23))),(oo 26 (.ldA 6 (.t 25))),(oO 6 (.alloc [(.int .i64 0),(.int .i64 0),(.str []),.nils,(.int .i64 0),(.int .i64 0)])),(os (.st 6 (.t 6) (.t 26)))]) (.seq (.ops [(oo 27 (.ldA 6 (.t 6))),(oc 28 14 [(.t 27)]),(oO 29 (.bin .gtr (.t 28) (.c (.int .i64 30))))]) (.cond (.t 29) (.seq (.ops [(oO 2 (.mv (.c (.bool true))))]) .ret) .skip)))) (.ops [(oo 30 (.bin .add (.t 23) (.c (.int .i64 1)))),(oT 23 30)]))))))))) (.ops [(oo 31 (.bin .add (.t 16) (.c (.int .i64 1)))),(oT 16 31)]))))))) (.seq (.seq (.ops [(oo 32 (.fad 2 (.t 1))),(oO 33 (.ld1 (.t 32))),(oO 34 (.len (.t 33))),(oO 35 (.mv (.c (.int .i64 0))))]) (.block 4 (.loop (.seq (.ops [(oO 36 (.bin .lss (.t 35) (.t 34)))]) (.seq (.cond (.t 36) .skip (.exit 4)) (.seq (.block 5 (.seq (.ops [(oo 37 (.idxS 4 (.t 33) (.t 35))),(oo 38 (.ldA 4 (.t 37))),(oO 8 (.alloc [(.str []),.nils,(.int .i64 0),(.int .i64 0)])),(os (.st 4 (.t 8) (.t 38)))]) (.seq (.ops [(oo 39 (.fad 1 (.t 8))),(oO 40 (.ld1 (.t 39))),(oO 41 (.len (.t 40))),(oO 42 (.mv (.c (.int .i64 0))))]) (.block 6 (.loop (.seq (.ops [(oO 43 (.bin .lss (.t 42) (.t 41)))]) (.seq (.cond (.t 43) .skip (.exit 6)) (.seq (.block 7 (.seq (.ops [(oo 44 (.idxS 7 (.t 40) (.t 42))),(oo 45 (.ldA 7 (.t 44))),(oO 10 (.alloc [(.int .i64 0),(.int .i64 0),(.str []),.nils,(.int .i64 0),(.int .i64 0),.nils])),(os (.st 7 (.t 10) (.t 45)))]) (.seq (.seq (.ops [(oo 46 (.fad 0 (.t 10))),(oo 47 (.ldA 6 (.t 46))),(oc 48 14 [(.t 47)]),(oO 49 (.bin .gtr (.t 48) (.c (.int .i64 30))))]) (.cond (.t 49) (.seq (.ops [(oO 2 (.mv (.c (.bool true))))]) .ret) .skip)) (.seq (.ops [(oo 50 (.fad 6 (.t 10))),(oO 51 (.ld1 (.t 50))),(oO 52 (.len (.t 51))),(oO 53 (.mv (.c (.int .i64 0))))]) (.block 8 (.loop (.seq (.ops [(oO 54 (.bin .lss (.t 53) (.t 52)))]) (.seq (.cond (.t 54) .skip (.exit 8)) (.seq (.block 9 (.seq (.ops [(oo 55 (.idxS 9 (.t 51) (.t 53))),(oo 56 (.ldA 9 (.t 55))),(oO 12 (.alloc [(.str []),(.int .i64 0),(.int .i64 0),(.str []),.nils,(.int .i64 0),(.int .i64 0),(.int .i64 0),(.int .i64 0)])),(os (.st 9 (.t 12) (.t 56)))]) (.seq (.ops [(oo 57 (.fad 1 (.t 12))),(oo 58 (.ldA 6 (.t 57))),(oc 59 14 [(.t 58)]),(oO 60 (.bin .gtr (.t 59) (.c (.int .i64 30))))]) (.cond (.t 60) (.seq (.ops [(oO 2 (.mv (.c (.bool true))))]) .ret) .skip)))) (.ops [(oo 61 (.bin .add (.t 53) (.c (.int .i64 1)))),(oT 53 61)])))))))))) (.ops [(oo 62 (.bin .add (.t 42) (.c (.int .i64 1)))),(oT 42 62)]))))))))) (.ops [(oo 63 (.bin .add (.t 35) (.c (.int .i64 1)))),(oT 35 63)]))))))) (.seq (.ops [(oO 2 (.mv (.c (.bool false))))]) .ret))))
def y19:XF:=⟨[0],z19,[(.t 2)]⟩
theorem x19:ju Qaf 19=some y19:=by kernel_rfl
def z20:XC:=(.seq (.ops [(oO 2 (.box (.t 0))),(oO 3 (.box (.t 1))),(oO 4 (.mv (.c (.bool false))))]) (.seq (.seq (.ops [(oo 17 (.fad 0 (.t 2))),(oo 18 (.ld1 (.t 17))),(oo 19 (.len (.t 18))),(oo 20 (.fad 0 (.t 3))),(oo 21 (.ld1 (.t 20))),(oo 22 (.len (.t 21))),(oo 23 (.bin .neq (.t 19) (.t 22))),(ot 24 23),(oh 25 24 (.fad 1 (.t 2))),(oh 26 24 (.ld1 (.t 25))),(oh 27 24 (.len (.t 26))),(oh 28 24 (.fad 1 (.t 3))),(oh 29 24 (.ld1 (.t 28))),(oh 30 24 (.len (.t 29))),(oh 31 24 (.bin .neq (.t 27) (.t 30))),(oo 32 (.pick (.t 24) (.c (.bool true)) (.t 31))),(ot 33 32),(oh 34 33 (.fad 2 (.t 2))),(oh 35 33 (.ld1 (.t 34))),(oh 36 33 (.len (.t 35))),(oh 37 33 (.fad 2 (.t 3))),(oh 38 33 (.ld1 (.t 37))),(oh 39 33 (.len (.t 38))),(oh 40 33 (.bin .neq (.t 36) (.t 39))),(oO 41 (.pick (.t 33) (.c (.bool true)) (.t 40)))]) (.cond (.t 41) (.seq (.ops [(oO 4 (.mv (.c (.bool false))))]) .ret) .skip)) (.seq (.seq (.ops [(oo 42 (.fad 0 (.t 2))),(oO 43 (.ld1 (.t 42))),(oO 44 (.len (.t 43))),(oO 45 (.mv (.c (.int .i64 0))))]) (.block 0 (.loop (.seq (.ops [(oO 46 (.bin .lss (.t 45) (.t 44)))]) (.seq (.cond (.t 46) .skip (.exit 0)) (.seq (.block 1 (.seq (.ops [(ot 47 45),(oo 48 (.idxS 4 (.t 43) (.t 45))),(oo 49 (.ldA 4 (.t 48))),(oO 6 (.alloc [(.str []),.nils,(.int .i64 0),(.int .i64 0)])),(oT 5 47),(os (.st 4 (.t 6) (.t 49)))]) (.seq (.ops [(oo 50 (.fad 0 (.t 3))),(oo 51 (.ld1 (.t 50))),(ot 52 5),(oo 53 (.idxS 4 (.t 51) (.t 52))),(oo 54 (.ldA 4 (.t 53))),(oO 7 (.alloc [(.str []),.nils,(.int .i64 0),(.int .i64 0)])),(os (.st 4 (.t 7) (.t 54)))]) (.seq (.seq (.ops [(oo 55 (.fad 0 (.t 6))),(oo 56 (.ld1 (.t 55))),(oo 57 (.fad 0 (.t 7))),(oo 58 (.ld1 (.t 57))),(oo 59 (.strb .neq (.t 56) (.t 58))),(ot 60 59),(oh 61 60 (.fad 1 (.t 6))),(oh 62 60 (.ld1 (.t 61))),(oh 63 60 (.len (.t 62))),(oh 64 60 (.fad 1 (.t 7))),(oh 65 60 (.ld1 (.t 64))),(oh 66 60 (.len (.t 65))),(oh 67 60 (.bin .neq (.t 63) (.t 66))),(oO 68 (.pick (.t 60) (.c (.bool true)) (.t 67)))]) (.cond (.t 68) (.seq (.ops [(oO 4 (.mv (.c (.bool false))))]) .ret) .skip)) (.seq (.ops [(oo 69 (.fad 1 (.t 6))),(oo 70 (.ld1 (.t 69))),(oO 71 (.len (.t 70))),(oO 72 (.mv (.c (.int .i64 0))))]) (.block 2 (.loop (.seq (.ops [(oO 73 (.bin .lss (.t 72) (.t 71)))]) (.seq (.cond (.t 73) .skip (.exit 2)) (.seq (.block 3 (.seq (.ops [(ot 74 72),(oT 8 74)]) (.seq (.cops [((oo 75 (.fad 1 (.t 6))),none),((oo 76 (.ld1 (.t 75))),none),((ot 77 8),none),((oo 78 (.idxS 1 (.t 76) (.t 77))),none),((oo 79 (.ld1 (.t 78))),none),((oo 80 (.fad 1 (.t 7))),none),((oo 81 (.ld1 (.t 80))),none),((ot 82 8),none),((oo 83 (.idxS 1 (.t 81) (.t 82))),none),((oo 84 (.ld1 (.t 83))),none),((oO 85 (.strb .neq (.t 79) (.t 84))),none)]) (.cond (.t 85) (.seq (.ops [(oO 4 (.mv (.c (.bool false))))]) .ret) .skip)))) (.ops [(oo 86 (.bin .add (.t 72) (.c (.int .i64 1)))),(oT 72 86)]))))))))))) (.ops [(oo 87 (.bin .add (.t 45) (.c (.int .i64 1)))),(oT 45 87)]))))))) (.seq (.seq (.ops [(oo 88 (.fad 1 (.t 2))),(oO 89 (.ld1 (.t 88))),(oO 90 (.len (.t 89))),(oO 91 (.mv (.c (.int .i64 0))))]) (.block 4 (.loop (.seq (.ops [(oO 92 (.bin .lss (.t 91) (.t 90)))]) (.seq (.cond (.t 92) .skip (.exit 4)) (.seq (.block 5 (.seq (.ops [(ot 93 91),(oo 94 (.idxS 7 (.t 89) (.t 91))),(oo 95 (.ldA 7 (.t 94))),(oO 10 (.alloc [(.str []),(.str []),(.int .i64 0),(.int .i64 0),.nils,(.int .i64 0),(.int .i64 0)])),(oT 9 93),(os (.st 7 (.t 10) (.t 95)))]) (.seq (.ops [(oo 96 (.fad 1 (.t 3))),(oo 97 (.ld1 (.t 96))),(ot 98 9),(oo 99 (.idxS 7 (.t 97) (.t 98))),(oo 100 (.ldA 7 (.t 99))),(oO 11 (.alloc [(.str []),(.str []),(.int .i64 0),(.int .i64 0),.nils,(.int .i64 0),(.int .i64 0)])),(os (.st 7 (.t 11) (.t 100)))]) (.seq (.seq (.ops [(oo 101 (.fad 0 (.t 10))),(oo 102 (.ld1 (.t 101))),(oo 103 (.fad 0 (.t 11))),(oo 104 (.ld1 (.t 103))),(oo 105 (.strb .neq (.t 102) (.t 104))),(ot 106 105),(oh 107 106 (.fad 1 (.t 10))),(oh 108 106 (.ld1 (.t 107))),(oh 109 106 (.fad 1 (.t 11))),(oh 110 106 (.ld1 (.t 109))),(oh 111 106 (.strb .neq (.t 108) (.t 110))),(oo 112 (.pick (.t 106) (.c (.bool true)) (.t 111))),(ot 113 112),(oh 114 113 (.fad 2 (.t 10))),(oh 115 113 (.ld1 (.t 114))),(oh 116 113 (.fad 2 (.t 11))),(oh 117 113 (.ld1 (.t 116))),(oh 118 113 (.bin .neq (.t 115) (.t 117))),(oo 119 (.pick (.t 113) (.c (.bool true)) (.t 118))),(ot 120 119),(oh 121 120 (.fad 3 (.t 10))),(oh 122 120 (.ld1 (.t 121))),(oh 123 120 (.fad 3 (.t 11))),(oh 124 120 (.ld1 (.t 123))),(oh 125 120 (.bin .neq (.t 122) (.t 124))),(oo 126 (.pick (.t 120) (.c (.bool true)) (.t 125))),(ot 127 126),(oh 128 127 (.fad 4 (.t 10))),(oh 129 127 (.ld1 (.t 128))),(oh 130 127 (.len (.t 129))),(oh 131 127 (.fad 4 (.t 11))),(oh 132 127 (.ld1 (.t 131))),(oh 133 127 (.len (.t 132))),(oh 134 127 (.bin .neq (.t 130) (.t 133))),(oO 135 (.pick (.t 127) (.c (.bool true)) (.t 134)))]) (.cond (.t 135) (.seq (.ops [(oO 4 (.mv (.c (.bool false))))]) .ret) .skip)) (.seq (.ops [(oo 136 (.fad 4 (.t 10))),(oo 137 (.ld1 (.t 136))),(oO 138 (.len (.t 137))),(oO 139 (.mv (.c (.int .i64 0))))]) (.block 6 (.loop (.seq (.ops [(oO 140 (.bin .lss (.t 139) (.t 138)))]) (.seq (.cond (.t 140) .skip (.exit 6)) (.seq (.block 7 (.seq (.ops [(ot 141 139),(oT 12 141)]) (.seq (.cops [((oo 142 (.fad 4 (.t 10))),none),((oo 143 (.ld1 (.t 142))),none),((ot 144 12),none),((oo 145 (.idxS 6 (.t 143) (.t 144))),none),((oo 146 (.ldA 6 (.t 145))),none),((oo 147 (.fad 4 (.t 11))),none),((oo 148 (.ld1 (.t 147))),none),((ot 149 12),none),((oo 150 (.idxS 6 (.t 148) (.t 149))),none),((oo 151 (.ldA 6 (.t 150))),none),((oc 152 17 [(.t 146),(.t 151)]),(some [])),((oO 153 (.un .not (.t 152))),none)]) (.cond (.t 153) (.seq (.ops [(oO 4 (.mv (.c (.bool false))))]) .ret) .skip)))) (.ops [(oo 154 (.bin .add (.t 139) (.c (.int .i64 1)))),(oT 139 154)]))))))))))) (.ops [(oo 155 (.bin .add (.t 91) (.c (.int .i64 1)))),(oT 91 155)]))))))) (.seq (.seq (.ops [(oo 156 (.fad 2 (.t 2))),(oO 157 (.ld1 (.t 156))),(oO 158 (.len (.t 157))),(oO 159 (.mv (.c (.int .i64 0))))]) (.block 8 (.loop (.seq (.ops [(oO 160 (.bin .lss (.t 159) (.t 158)))]) (.seq (.cond (.t 160) .skip (.exit 8)) (.seq (.block 9 (.seq (.ops [(ot 161 159),(oo 162 (.idxS 4 (.t 157) (.t 159))),(oo 163 (.ldA 4 (.t 162))),(oO 14 (.alloc [(.str []),.nils,(.int .i64 0),(.int .i64 0)])),(oT 13 161),(os (.st 4 (.t 14) (.t 163)))]) (.seq (.ops [(oo 164 (.fad 2 (.t 3))),(oo 165 (.ld1 (.t 164))),(ot 166 13),(oo 167 (.idxS 4 (.t 165) (.t 166))),(oo 168 (.ldA 4 (.t 167))),(oO 15 (.alloc [(.str []),.nils,(.int .i64 0),(.int .i64 0)])),(os (.st 4 (.t 15) (.t 168)))]) (.seq (.seq (.ops [(oo 169 (.fad 0 (.t 14))),(oo 170 (.ld1 (.t 169))),(oo 171 (.fad 0 (.t 15))),(oo 172 (.ld1 (.t 171))),(oo 173 (.strb .neq (.t 170) (.t 172))),(ot 174 173),(oh 175 174 (.fad 1 (.t 14))),(oh 176 174 (.ld1 (.t 175))),(oh 177 174 (.len (.t 176))),(oh 178 174 (.fad 1 (.t 15))),(oh 179 174 (.ld1 (.t 178))),(oh 180 174 (.len (.t 179))),(oh 181 174 (.bin .neq (.t 177) (.t 180))),(oO 182 (.pick (.t 174) (.c (.bool true)) (.t 181)))]) (.cond (.t 182) (.seq (.ops [(oO 4 (.mv (.c (.bool false))))]) .ret) .skip)) (.seq (.ops [(oo 183 (.fad 1 (.t 14))),(oo 184 (.ld1 (.t 183))),(oO 185 (.len (.t 184))),(oO 186 (.mv (.c (.int .i64 0))))]) (.block 10 (.loop (.seq (.ops [(oO 187 (.bin .lss (.t 186) (.t 185)))]) (.seq (.cond (.t 187) .skip (.exit 10)) (.seq (.block 11 (.seq (.ops [(ot 188 186),(oT 16 188)]) (.seq (.cops [((oo 189 (.fad 1 (.t 14))),none),((oo 190 (.ld1 (.t 189))),none),((ot 191 16),none),((oo 192 (.idxS 7 (.t 190) (.t 191))),none),((oo 193 (.fad 0 (.t 192))),none),((oo 194 (.ldA 6 (.t 193))),none),((oo 195 (.fad 1 (.t 15))),none),((oo 196 (.ld1 (.t 195))),none),((ot 197 16),none),((oo 198 (.idxS 7 (.t 196) (.t 197))),none),((oo 199 (.fad 0 (.t 198))),none),((oo 200 (.ldA 6 (.t 199))),none),((oc 201 17 [(.t 194),(.t 200)]),(some [])),((oo 202 (.un .not (.t 201))),none),((ot 203 202),none),((oh 204 203 (.fad 1 (.t 14))),none),((oh 205 203 (.ld1 (.t 204))),none),((oh 206 203 (.mv (.t 16))),none),((oh 207 203 (.idxS 7 (.t 205) (.t 206))),none),((oh 208 203 (.fad 6 (.t 207))),none),((oh 209 203 (.ld1 (.t 208))),none),((oh 210 203 (.fad 1 (.t 15))),none),((oh 211 203 (.ld1 (.t 210))),none),((oh 212 203 (.mv (.t 16))),none),((oh 213 203 (.idxS 7 (.t 211) (.t 212))),none),((oh 214 203 (.fad 6 (.t 213))),none),((oh 215 203 (.ld1 (.t 214))),none),(⟨(some 216),false,(some (203,false)),(.call (.c (.fn 58 [])) [(.t 209),(.t 215)])⟩,(some [])),((oh 217 203 (.un .not (.t 216))),none),((oO 218 (.pick (.t 203) (.c (.bool true)) (.t 217))),none)]) (.cond (.t 218) (.seq (.ops [(oO 4 (.mv (.c (.bool false))))]) .ret) .skip)))) (.ops [(oo 219 (.bin .add (.t 186) (.c (.int .i64 1)))),(oT 186 219)]))))))))))) (.ops [(oo 220 (.bin .add (.t 159) (.c (.int .i64 1)))),(oT 159 220)]))))))) (.seq (.ops [(oO 4 (.mv (.c (.bool true))))]) .ret))))))
def y20:XF:=⟨[0,1],z20,[(.t 4)]⟩
theorem x20:ju Qaf 20=some y20:=by kernel_rfl
def z58:XC:=(.seq (.ops [(oO 4 (.mv (.c (.bool false))))]) (.seq (.seq (.ops [(ot 6 0),(oo 7 (.len (.t 6))),(ot 8 1),(oo 9 (.len (.t 8))),(oO 10 (.bin .neq (.t 7) (.t 9)))]) (.cond (.t 10) (.seq (.ops [(oO 4 (.mv (.c (.bool false))))]) .ret) .skip)) (.seq (.seq (.ops [(ot 11 0),(oO 12 (.len (.t 11))),(oO 13 (.mv (.c (.int .i64 0))))]) (.block 0 (.loop (.seq (.ops [(oO 14 (.bin .lss (.t 13) (.t 12)))]) (.seq (.cond (.t 14) .skip (.exit 0)) (.seq (.block 1 (.seq (.ops [(ot 15 13),(oT 5 15)]) (.seq (.cops [((ot 16 0),none),((ot 17 5),none),((oo 18 (.idxS 9 (.t 16) (.t 17))),none),((oo 19 (.fad 0 (.t 18))),none),((oo 20 (.ld1 (.t 19))),none),((ot 21 1),none),((ot 22 5),none),((oo 23 (.idxS 9 (.t 21) (.t 22))),none),((oo 24 (.fad 0 (.t 23))),none),((oo 25 (.ld1 (.t 24))),none),((oo 26 (.strb .neq (.t 20) (.t 25))),none),((ot 27 26),none),((oh 28 27 (.mv (.t 0))),none),((oh 29 27 (.mv (.t 5))),none),((oh 30 27 (.idxS 9 (.t 28) (.t 29))),none),((oh 31 27 (.fad 1 (.t 30))),none),((oh 32 27 (.ldA 6 (.t 31))),none),((oh 33 27 (.mv (.t 1))),none),((oh 34 27 (.mv (.t 5))),none),((oh 35 27 (.idxS 9 (.t 33) (.t 34))),none),((oh 36 27 (.fad 1 (.t 35))),none),((oh 37 27 (.ldA 6 (.t 36))),none),(⟨(some 38),false,(some (27,false)),(.call (.c (.fn 17 [])) [(.t 32),(.t 37)])⟩,(some [])),((oh 39 27 (.un .not (.t 38))),none),((oO 40 (.pick (.t 27) (.c (.bool true)) (.t 39))),none)]) (.cond (.t 40) (.seq (.ops [(oO 4 (.mv (.c (.bool false))))]) .ret) .skip)))) (.ops [(oo 41 (.bin .add (.t 13) (.c (.int .i64 1)))),(oT 13 41)]))))))) (.seq (.ops [(oO 4 (.mv (.c (.bool true))))]) .ret))))
def y58:XF:=⟨[0,1],z58,[(.t 4)]⟩
theorem x58:ju Qaf 58=some y58:=by kernel_rfl
end Go.Sy
end
noncomputable section
set_option maxRecDepth 100000
namespace Go.Sy
open Go.Ev Go.Proofs
variable {base:Bs}
theorem jef (hb:NB base)(c:Nat):Tot base 83 [.int .u8 (c:Int)] (.bool (jV c)):=by
 refine hb.tot ?_ rfl rfl;refine jz x83 (by rfl) (hb.pur 83 1 (by decide)) ?_;simp only [y83,jj,Qai,Qam,Qag,Qah];unfold z83;try dsimp only [oo,oO,ot,oT,os,og,oh,oc,on,oN,oP]
 repeat' (first | (apply jc <;> intro _) | simp (disch:=first | exact dzA | fail) only [rzZ,Qab,Qac,Qad,Qaa,Qae])
 all_goals (refine G0.v (congrArg AV.bool ?_) rfl; rw [QaW]; simp only [jV,Qbg,Qas,decide_eq_true_eq,Qbb,QbK,QaV,decide_eq_false_iff_not,true_iff,false_iff,iff_true,iff_false,not_true_eq_false,not_false_eq_true,ne_eq,eq_self] <;> omega)
theorem jfP (hb:NB base)(c:Nat):Tot base 85 [.int .u8 (c:Int)] (.bool (jv c)):=by
 refine hb.tot ?_ rfl rfl;refine jz x85 (by rfl) (hb.pur 85 1 (by decide)) ?_;simp only [y85,jj,Qai,Qam,Qag,Qah];unfold z85;try dsimp only [oo,oO,ot,oT,os,og,oh,oc,on,oN,oP]
 repeat' (first | (apply jc <;> intro _) | simp (disch:=first | exact dzA | fail) only [rzZ,Qab,Qac,Qad,Qaa,Qae])
 all_goals (refine G0.v (congrArg AV.bool ?_) rfl; rw [QaW]; simp only [jv,Qbg,Qas,decide_eq_true_eq,Qbb,QbK,QaV,decide_eq_false_iff_not,true_iff,false_iff,iff_true,iff_false,not_true_eq_false,not_false_eq_true,ne_eq,eq_self] <;> omega)
theorem jlb (hb:NB base)(l:List Nat)(S:List (List Nat))(hS:S.length≤1000000):PX Qaf base 130 [.str l,.lst S.length (S.map .str)] (.ok (.bool (decide (l∈S)))):=by
 have st1:∀ {k:Nat} (h:k<S.length) (st:St) (K:AV->St->Prop),jf (ze (.lptr (S.map AV.str) k) st) K=K (.str S[k]) st:=λ{k} h st K=>by
  rw [wx (by simpa using h)]; congr 1; exact v7 h
 refine jz jls (by rfl) (hb.pur 130 1 (by decide)) ?_;simp only [jiB,jj,Qai,Qam,Qag,Qah];unfold jib;try dsimp only [oo,oO,ot,oT,os,og,oh,oc,on,oN,oP]
 repeat' (first | (apply jc <;> intro _) | simp (disch:=first | exact dzA | fail) only [rzZ,Qab,Qac,Qad,Qaa,Qae])
 refine qn S.length (λk L s=>(∀ j (h:j<S.length),j<k->S[j]≠l)∧Has L 0 (.str l)∧Has L 7 (.lst S.length (S.map AV.str))) (by first | assumption | omega) (by decide) (by simp (disch:=decide) only [jd,jb]) (by simp (disch:=decide) only [jd,jb]) ?_ (λk L s v h=>by simp (disch:=decide) only [jb]; exact h) (λk L s v h=>by simp (disch:=decide) only [jb]; exact h) (λk L s hk hI hi hn=>?_) (λL s hI=>?_)
 ·refine ⟨λj h hj=>absurd hj (Qbw _),?_⟩;simp (disch:=decide) only [Qaj,Qan,z0,z1,jd,jb,and_true,true_and]
 ·obtain ⟨h0,i0,i7⟩:=hI;repeat' (first | (apply jc <;> intro _) | simp (disch:=first | exact dzA | fail) only [ja i0,ja i7,ja hi,ja hn,st1,rzZ,Qab,Qac,Qad,Qaa,Qae])
  ·rename_i he;have he:S[k]=l:=by simpa using he
   exact G0.v (by rw [decide_eq_true (he▸Qau hk)]) rfl
  ·rename_i he;have he:¬ S[k]=l:=by simpa using he
   refine ⟨⟨λj h hj=>?_,?_⟩,?_⟩
   ·rcases QaX j k with h2 | h2
    ·exact h0 j h h2
    ·have:j=k:=by omega
     subst this;exact he
   ·simp (disch:=decide) only [Qaj,Qan,z0,z1,jd,jb,and_true,true_and,i0,i7]
   ·simp (disch:=decide) only [Qaj,Qan,z0,z1,jd,jb,and_true,true_and,hi,hn]
 ·obtain ⟨h0,i0,i7⟩:=hI;repeat' (first | (apply jc <;> intro _) | simp (disch:=first | exact dzA | fail) only [ja i0,ja i7,rzZ,Qab,Qac,Qad,Qaa,Qae])
  refine G0.v (congrArg AV.bool ?_) rfl
  symm
  rw [decide_eq_false_iff_not];intro hm;obtain ⟨j,hj,e⟩:=QbS.1 hm;exact h0 j hj hj e
theorem jhS (hb:NB base)(l:List Nat):Tot base 84 [.str l] (.bool (wh l)):=by
 refine hb.tot ?_ rfl rfl;have O:=λst b m x D K Kp=>(jlb hb l Wl (by decide)).xf (st:=st) (aZ':=[.str l,.slice b 0 19 m 1 x]) (ks:=[b]) (Fza.pa rfl (Fza.sl (n:=19) (D:Cl st b (Wl.map AV.str)) (by decide) (wB Wl) .nil)) (λst=>hb.no 130 (by decide) _ _) K Kp;unfold Wl at O;simp only [Qai,Qam] at O;refine jz x84 (by rfl) (hb.pur 84 1 (by decide)) ?_;simp only [y84,jj,Qai,Qam,Qag,Qah];unfold z84;try dsimp only [oo,oO,ot,oT,os,og,oh,oc,on,oN,oP]
 repeat' (first | (apply jc <;> intro _) | simp (disch:=first | exact dzA | fail) only [O,rzZ,Qab,Qac,Qad,Qaa,Qae])
 exact G0.v rfl rfl
def WX (l:List Nat)(i:Nat):Bool:=jV (l.getD i 0) || decide (i≠0) && (jv (l.getD i 0) || decide (l.getD i 0=95))
theorem Gh {p:Nat->Bool}:∀ {l:List Nat},jY p l=l.length->∀ j,j<l.length->p (l.getD j 0)=true
 | [],_,j,h=>by simp at h
 | c :: l,h,j,hj=>by
  simp only [jY] at h;by_cases hc:p c=true
  ·rw [if_pos hc] at h;cases j with
   | zero=>exact hc
   | succ j=>exact Gh (l:=l) (by simpa using h) j (by simpa using hj)
  ·rw [if_neg hc] at h; simp at h
theorem jjy {l:List Nat}{i:Nat}(hi:i<l.length)(h:WX l i=false):nm l=false:=by
 rw [Bool.eq_false_iff];intro hn;unfold nm at hn;simp only [Qas,decide_eq_true_eq] at hn;obtain ⟨⟨⟨_,h2⟩,_⟩,h3⟩:=hn;have:=Gh h3 i hi;unfold WX at h;unfold qO at this;by_cases h0:i=0
 ·subst h0; rw [h2] at h; cases h
 ·rw [decide_eq_true h0] at h;cases h1:jV (l.getD i 0) <;> cases h4:jv (l.getD i 0) <;> cases h5:decide (l.getD i 0=95) <;> simp only [h1,h4,h5] at h this <;> first | (cases h; done) | (cases this; done)
theorem jhn {l:List Nat}(h:∀ i,i<l.length->WX l i=true):nm l=(decide (0<l.length) && decide (l.length≤32) && !wh l):=by
 have e:jY qO l=l.length:=Wk (Qaq _) (λj hj=>by
  have:=h j hj;unfold WX at this;unfold qO;cases h1:jV (l.getD j 0) <;> cases h4:jv (l.getD j 0) <;> cases h5:decide (l.getD j 0=95) <;> rw [h1,h4,h5] at this <;> first | rfl | (simp at this; done)) (.inl rfl)
 unfold nm;cases l with
 | nil=>rfl
 | cons c l=>
  have h0:=h 0 (by simp);unfold WX at h0;have:jV ((c :: l).getD 0 0)=true:=by simpa using h0
  rw [e,this];simp
set_option maxHeartbeats 1000000 in
theorem X5 (hb:NB base)(l:List Nat)(hl:l.length≤4611686018427387904):Tot base 56 [.str l] (.bool (nm l)):=by
 refine hb.tot ?_ rfl rfl;refine jz x56 (by rfl) (hb.pur 56 1 (by decide)) ?_;simp only [y56,jj,Qai,Qam,Qag,Qah];unfold z56;try dsimp only [oo,oO,ot,oT,os,og,oh,oc,on,oN,oP]
 repeat' (first | (apply jc <;> intro _) | simp (disch:=first | exact dzA | fail) only [rzZ,Qab,Qac,Qad,Qaa,Qae])
 refine zG (λmm L s=>∃ k:Nat,k≤l.length∧mm=l.length - k∧(∀ j,j<k->WX l j=true)∧Has L 0 (.str l)∧Has L 3 (.int .i64 (k:Int))) ?_ l.length ?_
 ·rintro m L s ⟨k,hk,rfl,h0,i0,i3⟩;by_cases hlt:k<l.length
  ·have hlt':(k:Int)<(l.length:Int):=by omega
   have LT:=jef hb (l.getD k 0);have DT:=jfP hb (l.getD k 0);have z:((k:Int)=0)=(k=0):=by rw [eq_iff_iff]; omega
   have z9:((l.getD k 0:Int)=95)=(l.getD k 0=95):=by rw [eq_iff_iff]; omega
   have e1:(((k+1:Nat):Int))=(k:Int)+1:=by omega
   have hn:WX l k=(jV (l.getD k 0) || decide (k≠0) && (jv (l.getD k 0) || decide (l.getD k 0=95))):=rfl;repeat' (first | (apply jc <;> intro _) | simp (disch:=first | exact dzA | fail) only [ja i0,ja i3,hlt',LT,DT,z,z9,rzZ,Qab,Qac,Qad,Qaa,Qae])
   all_goals first
    | (refine G0.v (congrArg AV.bool (jjy hlt ?_)).symm rfl; rw [hn]; simp_all; done)
    | (
     refine ⟨l.length - (k+1),by omega,k+1,by omega,rfl,λj hj=>?_,?_⟩
     ·rcases QaX j k with h2 | h2
      ·exact h0 j h2
      ·have:j=k:=by omega
       subst this;rw [hn]; simp_all
     ·simp (disch:=decide) only [Qaj,Qan,z0,z1,jd,jb,and_true,true_and,i0,e1])
  ·have hlt':¬ (k:Int)<(l.length:Int):=by omega
   have hk':k=l.length:=by omega
   subst hk';have g:=jhn h0;repeat' (first | (apply jc <;> intro _) | simp (disch:=first | exact dzA | fail) only [ja i0,ja i3,hlt',jhS hb l,rzZ,Qab,Qac,Qad,Qaa,Qae])
   all_goals (refine G0.v (congrArg AV.bool ?_) rfl; rw [g]; simp_all <;> omega)
 ·refine ⟨0,QaT _,rfl,λj hj=>absurd hj (Qbw _),?_⟩;simp (disch:=decide) only [Qaj,Qan,z0,z1,jd,jb,and_true,true_and]
end Go.Sy
end
noncomputable section
set_option maxRecDepth 100000
namespace Go.Sy
open Go.Ev Go.Proofs
variable {base:Bs}
theorem jeH {b o:Nat}{v:AV}{h:T AO}(ho:o<qq h b)(hv:rat h b o=v)(hc:eqs v=true):(jX Qaf 35 (.ptr b o) v h=true)=True:=eq_true (J4 jf8 jf7 ho hv hc)
theorem Y9 (n:Nat)(cs:List AV):eqs (.lst n cs)=true:=nr rfl
def Ye (op num:Int)(name:List Nat):Bool:=
 if op=1 then decide (0≤num) && decide (num≤1000000)
 else if op=2 then decide (num=0) || decide (num=1)
 else if op=3 then decide (num=0) && nm name
 else if op=4 then true
 else decide (num=0)
mutual
def zJ:Ex->Bool
 | .mk op num name ks _ _=>decide (Xp op=(ks.length:Int)) && zo ks && (decide (op=3) || decide (name=[])) && Ye op num name
def zo:List Ex->Bool
 | []=>true
 | x :: xs=>zJ x && zo xs
end
theorem ua (x:Ex):zJ x=(decide (Xp x.op=(x.kids.length:Int)) && zo x.kids && (decide (x.op=3) || decide (x.name=[])) && Ye x.op x.num x.name):=by cases x; rfl
theorem Ya:∀ xs ys,zo (xs ++ ys)=(zo xs && zo ys)
 | [],ys=>by simp [zo]
 | x :: xs,ys=>by rw [QaB,zo,zo,Ya,Bool.and_assoc]
set_option maxHeartbeats 1000000 in
theorem jhO (hb:NB base):∀ x:Ex,szE x≤BIG->Tot base 92 [.agg (eE x)] (.bool (zJ x)):=by
 refine Ex.indk λx ih hx=>?_;refine hb.tot ?_ (by first | rfl | simp [pa,pc,zn]) rfl;have hd:=ua x;have hz:=JX x;generalize hks:x.kids=ks at *;have hlen:=JW ks;have NM:=X5 hb x.name (by unfold BIG at *; omega);have KT:=jku hb x.op;unfold BIG at *;unfold Ye at hd;refine jz x92 (by rfl) (hb.pur 92 1 (by decide)) ?_;simp only [y92,jj,Qai,Qam,Qag,Qah];unfold z92;try dsimp only [oo,oO,ot,oT,os,og,oh,oc,on,oN,oP]
 (have zz:=aI @yQ (aI @Y9 @hks); (repeat' (first | (apply jc <;> intro _) | simp (disch:=first | exact U2 | fail) only [hks,KT,sm3,jeH,yQ,Y9,hks,je,rzZ,Qab,Qac,Qad,Qaa,Qae])); (all_goals (clear zz)))
 ·rename_i h;exact G0.v (by rw [hd,decide_eq_false h]; rfl) rfl
 refine qn ks.length (λk L s=>zo (ks.take k)=true∧Has L 13 (.lst ks.length (fl eE ks))∧Has L 1 (.ptr 0 0)∧1≤s.nx∧Cl s 0 (eE x)) (by first | assumption | omega) (by decide) (by simp (disch:=decide) only [jd,jb]) (by simp (disch:=decide) only [jd,jb]) ?_ (λk L s v h=>by simp (disch:=decide) only [jb]; exact h) (λk L s v h=>by simp (disch:=decide) only [jb]; exact h) (λk L s hk hI hi hn=>?_) (λL s hI=>?_)
 ·refine ⟨rfl,?_⟩;simp (disch:=decide) only [Qaj,Qan,z0,z1,jd,jb,and_true,true_and];exact ⟨by show 1≤_; simp only [jg,qT]; omega,Cl.new _ _⟩
 ·obtain ⟨h0,i13,i1,n0,C0⟩:=hI;have hk2:=Qk hk;have e:=ih ks[k] (Qau hk) (by omega);repeat' (first | (apply jc <;> intro _) | simp (disch:=first | exact dzB | fail) only [ja i13,ja i1,ja hi,ja hn,e,je,rzZ,Qab,Qac,Qad,Qaa,Qae])
  ·rename_i hf;have e3:=Ya (ks.take (k+1)) (ks.drop (k+1));rw [Qch,Jm hk,Ya] at e3;simp only [zo,hf,Bool.and_false,Bool.false_and,Bool.true_and] at e3;exact G0.v (by rw [hd,e3]; simp) rfl
  ·rename_i hf;refine ⟨⟨?_,?_⟩,?_⟩
   ·rw [Jm hk,Ya,h0];simp_all [zo]
   ·simp (disch:=decide) only [Qaj,Qan,z0,z1,jd,jb,and_true,true_and,i13,i1];exact ⟨by (first | omega | (simp only [jg,jh,jk,jo,jm]; first | done | omega)),by (first | exact C0 | (simp (disch:=first | assumption | decide | (first | omega | (simp only [jg,jh,jk,jo,jm]; first | done | omega))) only [jE,jG,jD,qv,jP,jQ,j6,j3]; exact C0))⟩
   ·simp (disch:=decide) only [Qaj,Qan,z0,z1,jd,jb,and_true,true_and,hi,hn]
 ·obtain ⟨h0,i13,i1,n0,C0⟩:=hI;rw [QaK] at h0;rw [h0] at hd
  (have zz:=C0.r; (repeat' (first | (apply jc <;> intro _) | simp (disch:=first | exact U2 | fail) only [ja i13,ja i1,NM,hks,C0.q,C0.r,je,rzZ,Qab,Qac,Qad,Qaa,Qae])); (all_goals (clear zz)))
  all_goals (refine G0.v (congrArg AV.bool ?_) rfl; rw [hd]; simp_all <;> omega)
end Go.Sy
end
noncomputable section
set_option maxRecDepth 100000
namespace Go.Sy
open Go.Ev Go.Proofs
variable {base:Bs}
theorem jbd (x:Ex):ZQ x=((decide (x.op=3) || decide (x.name=[])) && Ye x.op x.num x.name):=by
 unfold ZQ Ye;by_cases h1:x.op=1
 ·simp [h1,Bool.and_comm]
 ·by_cases h2:x.op=2
  ·simp [h2,Bool.and_comm]
  ·by_cases h3:x.op=3
   ·simp [h3]
   ·by_cases h4:x.op=4
    ·simp [h4]
    ·simp [h1,h2,h3,h4,Bool.and_comm]
theorem wb:∀ xs,zo xs=xs.all zJ
 | []=>rfl
 | x :: xs=>by rw [zo,wb xs]; rfl
theorem Ud {n:Nat}:∀ xs:List Ex,qN xs≤n↔∀ x∈xs,qI x≤n
 | []=>by simp [qN]
 | x :: xs=>by simp [qN,Nat.max_le,Ud xs]
theorem JK:∀ (d:Nat) (x:Ex),yc d x=(decide (qI x≤d) && zJ x)
 | 0,x=>by
  have:qI x=qN x.kids+1:=Qf x;rw [yc,decide_eq_false (by omega)]; rfl
 | d+1,x=>by
  rw [vn,ua,Qf,jbd,wb];have ih:x.kids.all (yc d)=(decide (qN x.kids≤d) && x.kids.all zJ):=by
   rw [QaW];simp only [Qaw,Qas,decide_eq_true_eq,Ud];constructor
   ·intro h;exact ⟨λk hk=>by have:=h k hk; rw [JK d k] at this; simp at this; exact this.1,λk hk=>by have:=h k hk; rw [JK d k] at this; simp at this; exact this.2⟩
   ·rintro ⟨h1,h2⟩ k hk;rw [JK d k];simp [h1 k hk,h2 k hk]
  rw [ih];have e1:decide (qN x.kids+1≤d+1)=decide (qN x.kids≤d):=by simp
  rw [e1];have e2:(decide (1≤x.op) && decide (x.op<31) && decide ((x.kids.length:Int)=if 5≤x.op∧x.op≤13 then 1 else if 14≤x.op∧x.op<31 then 2 else 0))=decide (Xp x.op=(x.kids.length:Int)):=by
   rw [QaW];simp only [Qas,decide_eq_true_eq];unfold Xp;have:(0:Int)≤(x.kids.length:Int):=by omega
   generalize (x.kids.length:Int)=n at *;generalize x.op=op at *;constructor
   ·rintro ⟨⟨h1,h2⟩,h3⟩;split at h3
    ·rw [if_neg (by omega),if_pos (by omega),h3]
    ·split at h3
     ·rw [if_neg (by omega),if_neg (by omega),if_pos (by omega),h3]
     ·rw [if_pos (by omega),h3]
   ·intro h;split at h
    ·exact ⟨⟨by omega,by omega⟩,by rw [if_neg (by omega),if_neg (by omega)]; omega⟩
    ·split at h
     ·exact ⟨⟨by omega,by omega⟩,by rw [if_pos (by omega)]; omega⟩
     ·split at h
      ·exact ⟨⟨by omega,by omega⟩,by rw [if_neg (by omega),if_pos (by omega)]; omega⟩
      ·omega
  rw [e2];cases decide (Xp x.op=(x.kids.length:Int)) <;> cases decide (qN x.kids≤d) <;> cases x.kids.all zJ <;> cases (decide (x.op=3) || decide (x.name=[])) <;> cases Ye x.op x.num x.name <;> rfl
theorem jfL (hb:NB base)(x:Ex)(hx:szE x≤BIG):Tot base 46 [.agg (eE x)] (.bool (yc 60 x)):=by
 refine hb.tot ?_ (by first | rfl | simp [pa,pc,zn]) rfl;have e:=JK 60 x;have D:=uX hb x hx;have S:=jhO hb x hx;refine jz x46 (by rfl) (hb.pur 46 1 (by decide)) ?_;simp only [y46,jj,Qai,Qam,Qag,Qah];unfold z46;try dsimp only [oo,oO,ot,oT,os,og,oh,oc,on,oN,oP]
 repeat' (first | (apply jc <;> intro _) | simp (disch:=first | exact dzB | fail) only [D,S,je,rzZ,Qab,Qac,Qad,Qaa,Qae])
 all_goals (refine G0.v (congrArg AV.bool ?_) rfl; rw [e]; simp_all <;> omega)
def qZ (x:Ex):Bool:=yc 60 x && !wj 4 x
theorem YV (hb:NB base)(x:Ex)(hx:szE x≤BIG):Tot base 12 [.agg (eE x)] (.bool (qZ x)):=by
 refine hb.tot ?_ (by first | rfl | simp [pa,pc,zn]) rfl;have D:=jfL hb x hx;have S:=jld hb 4 x hx;refine jz x12 (by rfl) (hb.pur 12 1 (by decide)) ?_;simp only [y12,jj,Qai,Qam,Qag,Qah];unfold z12;try dsimp only [oo,oO,ot,oT,os,og,oh,oc,on,oN,oP]
 repeat' (first | (apply jc <;> intro _) | simp (disch:=first | exact dzB | fail) only [D,S,je,rzZ,Qab,Qac,Qad,Qaa,Qae])
 all_goals (refine G0.v (congrArg AV.bool ?_) rfl; unfold qZ; simp_all)
theorem jhN (hb:NB base)(op:Int):Tot base 52 [.int .i64 op] (.str (sgn op)):=by
 refine hb.tot ?_ rfl rfl;refine jz x52 (by rfl) (hb.pur 52 1 (by decide)) ?_;simp only [y52,jj,Qai,Qam,Qag,Qah];unfold z52;try dsimp only [oo,oO,ot,oT,os,og,oh,oc,on,oN,oP]
 repeat' (first | (apply jc <;> intro _) | simp (disch:=first | exact dzB | fail) only [je,rzZ,Qab,Qac,Qad,Qaa,Qae])
 ·exact G0.v (by rw [sgn,if_neg (by omega)]) rfl
 ·exact G0.v (by rw [sgn,if_neg (by omega)]) rfl
 ·have h26:(op - 5).toNat<za.length:=by show (op - 5).toNat<26; omega
  show G0 _ ((za.map AV.str).getD _ _) _;rw [v7 h26];exact G0.v (by rw [sgn,if_pos (by omega),QaF,Qay h26]; rfl) rfl
end Go.Sy
end
noncomputable section
set_option maxRecDepth 100000
namespace Go.Sy
open Go.Ev Go.Proofs
variable {base:Bs}
def qC {α β:Type}(f:α->β->Bool):List α->List β->Bool
 | [],[]=>true
 | x :: xs,y :: ys=>f x y && qC f xs ys
 | _,_=>false
section
variable {α β:Type} {f:α->β->Bool}
theorem Hg:∀ {xs:List α} {ys:List β},qC f xs ys=true->xs.length=ys.length
 | [],[],_=>rfl
 | x :: xs,y :: ys,h=>by
  simp only [qC,Qas] at h;simp [Hg h.2]
 | [],y :: ys,h=>by simp [qC] at h
 | x :: xs,[],h=>by simp [qC] at h
theorem Xc {xs:List α}{ys:List β}(h:xs.length≠ys.length):qC f xs ys=false:=by
 rw [Bool.eq_false_iff]; exact λk=>h (Hg k)
theorem Qt:∀ {xs:List α} {ys:List β} {k:Nat} (h:k<xs.length) (h2:k<ys.length),f xs[k] ys[k]=false->qC f xs ys=false
 | x :: xs,y :: ys,0,_,_,h=>by simp only [QbH] at h; simp [qC,h]
 | x :: xs,y :: ys,k+1,h1,h2,h=>by
  simp only [QbI] at h;simp [qC,Qt (by simpa using h1) (by simpa using h2) h]
theorem Xz:∀ {xs:List α} {ys:List β} {k:Nat} (h:k<xs.length) (h2:k<ys.length),qC f (xs.take (k+1)) (ys.take (k+1))=(qC f (xs.take k) (ys.take k) && f xs[k] ys[k])
 | x :: xs,y :: ys,0,_,_=>by simp [qC]
 | x :: xs,y :: ys,k+1,h1,h2=>by
  have:=Xz (xs:=xs) (ys:=ys) (k:=k) (by simpa using h1) (by simpa using h2);simp only [QbZ,qC,QbI,this,Bool.and_assoc]
theorem Qh {xs:List α}{ys:List β}(h:xs.length=ys.length)(h2:qC f (xs.take xs.length) (ys.take xs.length)=true):qC f xs ys=true:=by
 rw [QaK,h,QaK] at h2;exact h2
end
mutual
def Ql:Ex->Ex->Bool
 | .mk op num name ks _ _,y=>decide (op=y.op) && decide (num=y.num) && decide (name=y.name) && wE ks y.kids
def wE:List Ex->List Ex->Bool
 | [],[]=>true
 | x :: xs,y :: ys=>Ql x y && wE xs ys
 | [],_ :: _=>false
 | _ :: _,[]=>false
end
theorem Vq:∀ xs ys,wE xs ys=qC Ql xs ys
 | [],[]=>rfl
 | x :: xs,y :: ys=>by rw [wE,Vq xs ys]; rfl
 | [],_ :: _=>rfl
 | _ :: _,[]=>rfl
theorem jeO (x y:Ex):Ql x y=(decide (x.op=y.op) && decide (x.num=y.num) && decide (x.name=y.name) && qC Ql x.kids y.kids):=by
 cases x; rw [Ql,Vq]; rfl
set_option maxHeartbeats 1000000 in
theorem uW (hb:NB base):∀ x:Ex,szE x≤BIG->∀ y:Ex,szE y≤BIG->Tot base 17 [.agg (eE x),.agg (eE y)] (.bool (Ql x y)):=by
 refine Ex.indk λx ih hx y hy=>?_;refine hb.tot ?_ (by first | rfl | simp [pa,pc,zn]) rfl;have hd:=jeO x y;have hz:=JX x;have hz2:=JX y;generalize hks:x.kids=ks at *;generalize hls:y.kids=ls at *;have hlen:=JW ks;have hlen2:=JW ls;unfold BIG at *;have ene:((ks.length:Int)=(ls.length:Int))=(ks.length=ls.length):=by rw [eq_iff_iff]; omega
 refine jz x17 (by rfl) (hb.pur 17 1 (by decide)) ?_;simp only [y17,jj,Qai,Qam,Qag,Qah];unfold z17;try dsimp only [oo,oO,ot,oT,os,og,oh,oc,on,oN,oP]
 repeat' (first | (apply jc <;> intro _) | simp (disch:=first | exact dzB | fail) only [hks,hls,ene,je,rzZ,Qab,Qac,Qad,Qaa,Qae])
 ·exact G0.v (by rw [hd]; simp_all) rfl
 ·exact G0.v (by rw [hd]; simp_all) rfl
 ·exact G0.v (by rw [hd]; simp_all) rfl
 ·exact G0.v (by rw [hd,Xc (by assumption)]; simp) rfl
 have hl:ks.length=ls.length:=by simp_all
 refine qn ks.length (λk L s=>qC Ql (ks.take k) (ls.take k)=true∧Has L 2 (.ptr 0 0)∧Has L 3 (.ptr 1 0)∧2≤s.nx∧Cl s 0 (eE x)∧Cl s 1 (eE y)) (by first | assumption | omega) (by decide) (by simp (disch:=decide) only [jd,jb]) (by simp (disch:=decide) only [jd,jb]) ?_ (λk L s v h=>by simp (disch:=decide) only [jb]; exact h) (λk L s v h=>by simp (disch:=decide) only [jb]; exact h) (λk L s hk hI hi hn=>?_) (λL s hI=>?_)
 ·refine ⟨rfl,?_⟩;simp (disch:=decide) only [Qaj,Qan,z0,z1,jd,jb,and_true,true_and];exact ⟨by (first | omega | (simp only [jg,jh,jk,jo,jm]; first | done | omega)),by (first | exact cyB | fail),by (first | exact cyB | fail)⟩
 ·obtain ⟨h0,i2,i3,n0,C0,C1⟩:=hI;have hk2:k<ls.length:=by omega
  have g0:=Qk hk;have g1:=Qk hk2;have e:=ih ks[k] (Qau hk) (by omega) ls[k] (by omega)
  (have zz:=aI C0.r C1.r; (repeat' (first | (apply jc <;> intro _) | simp (disch:=first | exact U2 | fail) only [ja i2,ja i3,ja hi,ja hn,e,hks,hls,C0.q,C1.q,C0.r,C1.r,je,rzZ,Qab,Qac,Qad,Qaa,Qae])); (all_goals (clear zz)))
  ·rename_i hf;exact G0.v (by rw [hd,Qt hk hk2 (by simpa using hf)]; simp) rfl
  ·rename_i hf;refine ⟨⟨?_,?_⟩,?_⟩
   ·rw [Xz hk hk2,h0];simpa using hf
   ·simp (disch:=decide) only [Qaj,Qan,z0,z1,jd,jb,and_true,true_and,i2,i3];exact ⟨by (first | omega | (simp only [jg,jh,jk,jo,jm]; first | done | omega)),by (first | exact C0 | (simp (disch:=first | assumption | decide | (first | omega | (simp only [jg,jh,jk,jo,jm]; first | done | omega))) only [jE,jG,jD,qv,jP,jQ,j6,j3]; exact C0)),by (first | exact C1 | (simp (disch:=first | assumption | decide | (first | omega | (simp only [jg,jh,jk,jo,jm]; first | done | omega))) only [jE,jG,jD,qv,jP,jQ,j6,j3]; exact C1))⟩
   ·simp (disch:=decide) only [Qaj,Qan,z0,z1,jd,jb,and_true,true_and,hi,hn]
 ·obtain ⟨h0,i2,i3,n0,C0,C1⟩:=hI;repeat' (first | (apply jc <;> intro _) | simp (disch:=first | exact dzB | fail) only [ja i2,je,rzZ,Qab,Qac,Qad,Qaa,Qae])
  exact G0.v (by rw [hd,Qh hl h0]; simp_all) rfl
end Go.Sy
end
noncomputable section
set_option maxRecDepth 100000
namespace Go.Sy
open Go.Ev Go.Proofs
variable {base:Bs}
theorem Wu (e:EnumT):enE e=[.str e.name,.lst e.vals.length (e.vals.map .str),.int .i64 e.line,.int .i64 e.col]:=rfl
theorem ZV (e:EnumT):(enE e).length=4:=nr (by rw [Wu]; rfl)
theorem K9 (e:EnumT)(k:Nat):(enE e).getD k .bad=([.str e.name,.lst e.vals.length (e.vals.map .str),.int .i64 e.line,.int .i64 e.col]:List AV).getD k .bad:=nr (by rw [Wu])
theorem jgH (e:EnumT)(k:Nat):(enE e).drop k=([.str e.name,.lst e.vals.length (e.vals.map .str),.int .i64 e.line,.int .i64 e.col]:List AV).drop k:=nr (by rw [Wu])
theorem ga (e:EnumT):lall AV.cell (enE e)=true:=nr (by rw [Wu]; rfl)
theorem jgG {st:St}{K:AV->St->Prop}{xs:List EnumT}{i:Nat}(h:i<xs.length):jf (zM 4 (.lptr (fl enE xs) (i * 4)) st) K=K (.agg (enE xs[i])) st:=ZF ZV h
theorem jdQ {st:St}{K:AV->St->Prop}{xs:List EnumT}{i:Nat}(h:i<xs.length){k:Nat}(hk:k<4):jf (ze (.lptr (fl enE xs) (i * 4+k)) st) K=K ((enE xs[i]).getD k .bad) st:=zt ZV h hk
theorem jdR {st:St}{K:AV->St->Prop}{xs:List EnumT}{i:Nat}(h:i<xs.length):jf (ze (.lptr (fl enE xs) (i * 4)) st) K=K ((enE xs[i]).getD 0 .bad) st:=zt (k:=0) ZV h (by decide)
theorem jU:type_of% (aI @ZV (aI @K9 (aI @jgH (aI @ga (aI @jgG (aI @jdR @jdQ)))))):=aI @ZV (aI @K9 (aI @jgH (aI @ga (aI @jgG (aI @jdR @jdQ)))))
theorem QQ:type_of% (aI @ZV (aI @ga @K9)):=aI @ZV (aI @ga @K9)
theorem Za (d:DeclT):qu d=[.str d.name,.str d.ty,.int .i64 d.lo,.int .i64 d.hi,.lst d.begins.length (fl eE d.begins),.int .i64 d.line,.int .i64 d.col]:=rfl
theorem Q9 (d:DeclT):(qu d).length=7:=nr (by rw [Za]; rfl)
theorem Wx (d:DeclT)(k:Nat):(qu d).getD k .bad=([.str d.name,.str d.ty,.int .i64 d.lo,.int .i64 d.hi,.lst d.begins.length (fl eE d.begins),.int .i64 d.line,.int .i64 d.col]:List AV).getD k .bad:=nr (by rw [Za])
theorem jav (d:DeclT)(k:Nat):(qu d).drop k=([.str d.name,.str d.ty,.int .i64 d.lo,.int .i64 d.hi,.lst d.begins.length (fl eE d.begins),.int .i64 d.line,.int .i64 d.col]:List AV).drop k:=nr (by rw [Za])
theorem Wy (d:DeclT):lall AV.cell (qu d)=true:=nr (by rw [Za]; rfl)
theorem jau {st:St}{K:AV->St->Prop}{xs:List DeclT}{i:Nat}(h:i<xs.length):jf (zM 7 (.lptr (fl qu xs) (i * 7)) st) K=K (.agg (qu xs[i])) st:=ZF Q9 h
theorem GT {st:St}{K:AV->St->Prop}{xs:List DeclT}{i:Nat}(h:i<xs.length){k:Nat}(hk:k<7):jf (ze (.lptr (fl qu xs) (i * 7+k)) st) K=K ((qu xs[i]).getD k .bad) st:=zt Q9 h hk
theorem GU {st:St}{K:AV->St->Prop}{xs:List DeclT}{i:Nat}(h:i<xs.length):jf (ze (.lptr (fl qu xs) (i * 7)) st) K=K ((qu xs[i]).getD 0 .bad) st:=zt (k:=0) Q9 h (by decide)
theorem jq:type_of% (aI @Q9 (aI @Wx (aI @jav (aI @Wy (aI @jau (aI @GU @GT)))))):=aI @Q9 (aI @Wx (aI @jav (aI @Wy (aI @jau (aI @GU @GT)))))
theorem zY:type_of% (aI @Q9 (aI @Wy @Wx)):=aI @Q9 (aI @Wy @Wx)
theorem jbP (a:AsT):asE a=[.str a.name,.int .i64 a.to.op,.int .i64 a.to.num,.str a.to.name,.lst a.to.kids.length (fl eE a.to.kids),.int .i64 a.to.line,.int .i64 a.to.col,.int .i64 a.line,.int .i64 a.col]:=(by unfold asE; rw [qH]; rfl)
theorem gc (a:AsT)(k:Nat):(asE a).getD k .bad=([.str a.name,.int .i64 a.to.op,.int .i64 a.to.num,.str a.to.name,.lst a.to.kids.length (fl eE a.to.kids),.int .i64 a.to.line,.int .i64 a.to.col,.int .i64 a.line,.int .i64 a.col]:List AV).getD k .bad:=nr (by rw [jbP])
theorem jgQ (a:AsT)(k:Nat):(asE a).drop k=([.str a.name,.int .i64 a.to.op,.int .i64 a.to.num,.str a.to.name,.lst a.to.kids.length (fl eE a.to.kids),.int .i64 a.to.line,.int .i64 a.to.col,.int .i64 a.line,.int .i64 a.col]:List AV).drop k:=nr (by rw [jbP])
theorem jgP {st:St}{K:AV->St->Prop}{xs:List AsT}{i:Nat}(h:i<xs.length):jf (zM 9 (.lptr (fl asE xs) (i * 9)) st) K=K (.agg (asE xs[i])) st:=ZF YU h
theorem jd4 {st:St}{K:AV->St->Prop}{xs:List AsT}{i:Nat}(h:i<xs.length){k:Nat}(hk:k<9):jf (ze (.lptr (fl asE xs) (i * 9+k)) st) K=K ((asE xs[i]).getD k .bad) st:=zt YU h hk
theorem jd5 {st:St}{K:AV->St->Prop}{xs:List AsT}{i:Nat}(h:i<xs.length):jf (ze (.lptr (fl asE xs) (i * 9)) st) K=K ((asE xs[i]).getD 0 .bad) st:=zt (k:=0) YU h (by decide)
theorem jN:type_of% (aI @YU (aI @gc (aI @jgQ (aI @gd (aI @jgP (aI @jd5 @jd4)))))):=aI @YU (aI @gc (aI @jgQ (aI @gd (aI @jgP (aI @jd5 @jd4)))))
theorem QR:type_of% (aI @YU (aI @gd @gc)):=aI @YU (aI @gd @gc)
theorem KI (r:RuleT):ruE r=[.int .i64 r.when.op,.int .i64 r.when.num,.str r.when.name,.lst r.when.kids.length (fl eE r.when.kids),.int .i64 r.when.line,.int .i64 r.when.col,.lst r.acts.length (fl asE r.acts)]:=uc r
theorem KJ (r:RuleT)(k:Nat):(ruE r).getD k .bad=([.int .i64 r.when.op,.int .i64 r.when.num,.str r.when.name,.lst r.when.kids.length (fl eE r.when.kids),.int .i64 r.when.line,.int .i64 r.when.col,.lst r.acts.length (fl asE r.acts)]:List AV).getD k .bad:=nr (by rw [KI])
theorem jgf (r:RuleT)(k:Nat):(ruE r).drop k=([.int .i64 r.when.op,.int .i64 r.when.num,.str r.when.name,.lst r.when.kids.length (fl eE r.when.kids),.int .i64 r.when.line,.int .i64 r.when.col,.lst r.acts.length (fl asE r.acts)]:List AV).drop k:=nr (by rw [KI])
theorem KK (r:RuleT):lall AV.cell (ruE r)=true:=nr (by rw [KI]; rfl)
theorem jge {st:St}{K:AV->St->Prop}{xs:List RuleT}{i:Nat}(h:i<xs.length):jf (zM 7 (.lptr (fl ruE xs) (i * 7)) st) K=K (.agg (ruE xs[i])) st:=ZF YF h
theorem jcQ {st:St}{K:AV->St->Prop}{xs:List RuleT}{i:Nat}(h:i<xs.length){k:Nat}(hk:k<7):jf (ze (.lptr (fl ruE xs) (i * 7+k)) st) K=K ((ruE xs[i]).getD k .bad) st:=zt YF h hk
theorem jcR {st:St}{K:AV->St->Prop}{xs:List RuleT}{i:Nat}(h:i<xs.length):jf (ze (.lptr (fl ruE xs) (i * 7)) st) K=K ((ruE xs[i]).getD 0 .bad) st:=zt (k:=0) YF h (by decide)
theorem jR:type_of% (aI @YF (aI @KJ (aI @jgf (aI @KK (aI @jge (aI @jcR @jcQ)))))):=aI @YF (aI @KJ (aI @jgf (aI @KK (aI @jge (aI @jcR @jcQ)))))
theorem QI:type_of% (aI @YF (aI @KK @KJ)):=aI @YF (aI @KK @KJ)
theorem Wf (p:ProcT):prE p=[.str p.name,.lst p.rules.length (fl ruE p.rules),.int .i64 p.line,.int .i64 p.col]:=rfl
theorem ZL (p:ProcT):(prE p).length=4:=nr (by rw [Wf]; rfl)
theorem KO (p:ProcT)(k:Nat):(prE p).getD k .bad=([.str p.name,.lst p.rules.length (fl ruE p.rules),.int .i64 p.line,.int .i64 p.col]:List AV).getD k .bad:=nr (by rw [Wf])
theorem jgl (p:ProcT)(k:Nat):(prE p).drop k=([.str p.name,.lst p.rules.length (fl ruE p.rules),.int .i64 p.line,.int .i64 p.col]:List AV).drop k:=nr (by rw [Wf])
theorem KP (p:ProcT):lall AV.cell (prE p)=true:=nr (by rw [Wf]; rfl)
theorem jgk {st:St}{K:AV->St->Prop}{xs:List ProcT}{i:Nat}(h:i<xs.length):jf (zM 4 (.lptr (fl prE xs) (i * 4)) st) K=K (.agg (prE xs[i])) st:=ZF ZL h
theorem jc5 {st:St}{K:AV->St->Prop}{xs:List ProcT}{i:Nat}(h:i<xs.length){k:Nat}(hk:k<4):jf (ze (.lptr (fl prE xs) (i * 4+k)) st) K=K ((prE xs[i]).getD k .bad) st:=zt ZL h hk
theorem jc6 {st:St}{K:AV->St->Prop}{xs:List ProcT}{i:Nat}(h:i<xs.length):jf (ze (.lptr (fl prE xs) (i * 4)) st) K=K ((prE xs[i]).getD 0 .bad) st:=zt (k:=0) ZL h (by decide)
theorem qc:type_of% (aI @ZL (aI @KO (aI @jgl (aI @KP (aI @jgk (aI @jc6 @jc5)))))):=aI @ZL (aI @KO (aI @jgl (aI @KP (aI @jgk (aI @jc6 @jc5)))))
theorem QJ:type_of% (aI @ZL (aI @KP @KO)):=aI @ZL (aI @KP @KO)
theorem u4 (m:SrcT):srE m=[.lst m.enums.length (fl enE m.enums),.lst m.vars.length (fl qu m.vars),.lst m.procs.length (fl prE m.procs)]:=rfl
theorem YD (m:SrcT):(srE m).length=3:=nr (by rw [u4]; rfl)
theorem KB (m:SrcT)(k:Nat):(srE m).getD k .bad=([.lst m.enums.length (fl enE m.enums),.lst m.vars.length (fl qu m.vars),.lst m.procs.length (fl prE m.procs)]:List AV).getD k .bad:=nr (by rw [u4])
theorem jgc (m:SrcT)(k:Nat):(srE m).drop k=([.lst m.enums.length (fl enE m.enums),.lst m.vars.length (fl qu m.vars),.lst m.procs.length (fl prE m.procs)]:List AV).drop k:=nr (by rw [u4])
theorem KC (m:SrcT):lall AV.cell (srE m)=true:=nr (by rw [u4]; rfl)
theorem jgb {st:St}{K:AV->St->Prop}{xs:List SrcT}{i:Nat}(h:i<xs.length):jf (zM 3 (.lptr (fl srE xs) (i * 3)) st) K=K (.agg (srE xs[i])) st:=ZF YD h
theorem jcI {st:St}{K:AV->St->Prop}{xs:List SrcT}{i:Nat}(h:i<xs.length){k:Nat}(hk:k<3):jf (ze (.lptr (fl srE xs) (i * 3+k)) st) K=K ((srE xs[i]).getD k .bad) st:=zt YD h hk
theorem jcJ {st:St}{K:AV->St->Prop}{xs:List SrcT}{i:Nat}(h:i<xs.length):jf (ze (.lptr (fl srE xs) (i * 3)) st) K=K ((srE xs[i]).getD 0 .bad) st:=zt (k:=0) YD h (by decide)
theorem qb:type_of% (aI @YD (aI @KB (aI @jgc (aI @KC (aI @jgb (aI @jcJ @jcI)))))):=aI @YD (aI @KB (aI @jgc (aI @KC (aI @jgb (aI @jcJ @jcI)))))
theorem QH:type_of% (aI @YD (aI @KC @KB)):=aI @YD (aI @KC @KB)
theorem dzE {p:Prop}(h:p:=by first | assumption | decide | omega | (simp only [qV,QR,QI,QQ,zY,QJ,QH,rzN,Qal,Qap]; first | done | omega) | (apply JU <;> first | omega | ((simp (disch:=first | assumption | omega | (simp only [qV,QR,QI,QQ,zY,QJ,QH,rzN,Qal,Qap]; first | done | omega)) only [rzL,Qal,Qap,QaL,Qab,qV,QR,QI,QQ,zY,QJ,QH ]) <;> first | done | omega)) | (simp (disch:=first | assumption | omega | (simp only [qV,QR,QI,QQ,zY,QJ,QH,rzN,Qal,Qap]; first | done | omega)) only [qV,QR,QI,QQ,zY,QJ,QH,rzG,Qag,Qah,Qac,Qbn,Qal,Qap,QaB,QaG]; first | done | omega | decide)):p:=h
theorem cyE {p:Prop}(h:p:=by apply JU <;> first | omega | ((simp (disch:=first | assumption | omega | (simp only [qV,QR,QI,QQ,zY,QJ,QH,rzN,Qal,Qap]; first | done | omega)) only [rzL,Qal,Qap,QaL,Qab,qV,QR,QI,QQ,zY,QJ,QH]) <;> first | done | rfl | omega | (simp; done) | (simp; omega))):p:=h
theorem qE {p:Prop}(h:p:=by first | assumption | decide | omega | (simp only [qV,QR,QI,QQ,zY,QJ,QH,zz,rzN,Qal,Qap]; first | done | omega) | (apply JU <;> first | omega | ((simp (disch:=first | assumption | omega | (simp only [qV,QR,QI,QQ,zY,QJ,QH,zz,rzN,Qal,Qap]; first | done | omega)) only [rzL,Qal,Qap,QaL,Qab,qV,QR,QI,QQ,zY,QJ,QH,zz ]) <;> first | done | omega)) | (simp (disch:=first | assumption | omega | (simp only [qV,QR,QI,QQ,zY,QJ,QH,zz,rzN,Qal,Qap]; first | done | omega)) only [qV,QR,QI,QQ,zY,QJ,QH,zz,rzG,Qag,Qah,Qac,Qbn,Qal,Qap,QaB,QaG]; first | done | omega | decide)):p:=h
theorem jca {S:List (List Nat)}{k:Nat}{st:St}{K:AV->St->Prop}(h:k<S.length):jf (ze (.lptr (S.map AV.str) k) st) K=K (.str S[k]) st:=by
 rw [wx (by simpa using h)]; congr 1; exact v7 h
theorem jcm {α:Type}{enc:α->List AV}{z:Nat}(hz:∀ x,(enc x).length=z){xs:List α}{i:Nat}(h:i<xs.length){k n:Nat}(hk:k+n≤z){st:St}{K:AV->St->Prop}:jf (zM n (.lptr (fl enc xs) (i * z+k)) st) K=K (.agg (((enc xs[i]).drop k).take n)) st:=by
 have:(i+1) * z≤xs.length * z:=QaJ z h;rw [Qbr] at this;rw [jcn (by rw [Xq hz]; omega),←jbk hz h,List.drop_take,Qce,QbC,QbL (by omega)]
theorem jkm {xs:List AsT}{i:Nat}(h:i<xs.length){st:St}{K:AV->St->Prop}:jf (zM 6 (.lptr (fl asE xs) (i * 9+1)) st) K=K (.agg (eE xs[i].to)) st:=by
 rw [jcm YU h (by decide),jbP,qH]; rfl
theorem jeS {xs:List RuleT}{i:Nat}(h:i<xs.length){st:St}{K:AV->St->Prop}:jf (zM 6 (.lptr (fl ruE xs) (i * 7)) st) K=K (.agg (eE xs[i].when)) st:=by
 have:=jcm YF h (k:=0) (n:=6) (by decide) (st:=st) (K:=K);rw [QbV] at this;rw [this,KI,qH]; rfl
end Go.Sy
end
noncomputable section
set_option maxRecDepth 100000
namespace Go.Sy
open Go.Ev Go.Proofs
variable {base:Bs}
def vj (a b:AsT):Bool:=decide (a.name=b.name) && Ql a.to b.to
set_option maxHeartbeats 1000000 in
theorem jfK (hb:NB base)(xs ys:List AsT)(hl:xs.length≤BIG)(h1:∀ a∈xs,szE a.to≤BIG)(h2:∀ a∈ys,szE a.to≤BIG) :
  Tot base 58 [.lst xs.length (fl asE xs),.lst ys.length (fl asE ys)] (.bool (qC vj xs ys)):=by
 refine hb.tot ?_ rfl rfl;have ene:((xs.length:Int)=(ys.length:Int))=(xs.length=ys.length):=by rw [eq_iff_iff]; omega
 unfold BIG at hl;refine jz x58 (by rfl) (hb.pur 58 1 (by decide)) ?_;simp only [y58,jj,Qai,Qam,Qag,Qah];unfold z58;try dsimp only [oo,oO,ot,oT,os,og,oh,oc,on,oN,oP]
 repeat' (first | (apply jc <;> intro _) | simp (disch:=first | exact dzE | fail) only [ene,je,jN,rzZ,Qab,Qac,Qad,Qaa,Qae])
 ·exact G0.v (by rw [Xc (by assumption)]) rfl
 have hl2:xs.length=ys.length:=by simp_all
 refine qn xs.length (λk L s=>qC vj (xs.take k) (ys.take k)=true∧Has L 0 (.lst xs.length (fl asE xs))∧Has L 1 (.lst ys.length (fl asE ys))) (by first | assumption | omega) (by decide) (by simp (disch:=decide) only [jd,jb]) (by simp (disch:=decide) only [jd,jb]) ?_ (λk L s v h=>by simp (disch:=decide) only [jb]; exact h) (λk L s v h=>by simp (disch:=decide) only [jb]; exact h) (λk L s hk hI hi hn=>?_) (λL s hI=>?_)
 ·refine ⟨rfl,?_⟩;simp (disch:=decide) only [Qaj,Qan,z0,z1,jd,jb,and_true,true_and]
 ·obtain ⟨h0,i0,i1⟩:=hI;have hk2:k<ys.length:=by omega
  have e:=uW hb xs[k].to (h1 _ (Qau hk)) ys[k].to (h2 _ (Qau hk2));repeat' (first | (apply jc <;> intro _) | simp (disch:=first | exact dzE | fail) only [ja i0,ja i1,ja hi,ja hn,jkm,e,je,jN,rzZ,Qab,Qac,Qad,Qaa,Qae])
  all_goals first
   | (refine G0.v (congrArg AV.bool (Eq.symm (Qt hk hk2 ?_))) rfl; unfold vj; simp_all; done)
   | (
    refine ⟨⟨?_,?_⟩,?_⟩
    ·rw [Xz hk hk2,h0];unfold vj; simp_all
    ·simp (disch:=decide) only [Qaj,Qan,z0,z1,jd,jb,and_true,true_and,i0,i1]
    ·simp (disch:=decide) only [Qaj,Qan,z0,z1,jd,jb,and_true,true_and,hi,hn])
 ·obtain ⟨h0,i0,i1⟩:=hI;repeat' (first | (apply jc <;> intro _) | simp (disch:=first | exact dzE | fail) only [ja i0,ja i1,je,jN,rzZ,Qab,Qac,Qad,Qaa,Qae])
  exact G0.v (by rw [Qh hl2 h0]) rfl
end Go.Sy
end
noncomputable section
set_option maxRecDepth 100000
namespace Go.Sy
open Go.Ev Go.Proofs
variable {base:Bs}
def Jo (x y:EnumT):Bool:=decide (x.name=y.name) && qC (λa b=>decide (a=b)) x.vals y.vals
def Jj (x y:DeclT):Bool:=decide (x.name=y.name) && decide (x.ty=y.ty) && decide (x.lo=y.lo) && decide (x.hi=y.hi) && qC Ql x.begins y.begins
def Wa (x y:RuleT):Bool:=Ql x.when y.when && qC vj x.acts y.acts
def Jn (x y:ProcT):Bool:=decide (x.name=y.name) && qC Wa x.rules y.rules
def KH (a b:SrcT):Bool:=qC Jo a.enums b.enums && qC Jj a.vars b.vars && qC Jn a.procs b.procs
structure SmR (r:RuleT):Prop where
 when:szE r.when≤BIG
 acts:r.acts.length≤BIG
 to:∀ a∈r.acts,szE a.to≤BIG
structure SmS (m:SrcT):Prop where
 enums:m.enums.length≤BIG
 vals:∀ e∈m.enums,e.vals.length≤BIG
 vars:m.vars.length≤BIG
 begs:∀ d∈m.vars,d.begins.length≤BIG∧∀ x∈d.begins,szE x≤BIG
 procs:m.procs.length≤BIG
 rules:∀ p∈m.procs,p.rules.length≤BIG∧∀ r∈p.rules,SmR r
set_option maxHeartbeats 4000000 in
theorem Hl (hb:NB base)(a b:SrcT)(ha:SmS a)(hb2:SmS b):Tot base 20 [.agg (srE a),.agg (srE b)] (.bool (KH a b)):=by
 refine hb.tot ?_ (by first | rfl | simp [pa,pc,zn,vS,vk,vK,X3,KN,KA]) rfl;have he:=ha.enums;have hv:=ha.vars;have hp:=ha.procs;have ene:((a.enums.length:Int)=(b.enums.length:Int))=(a.enums.length=b.enums.length):=by rw [eq_iff_iff]; omega
 have env:((a.vars.length:Int)=(b.vars.length:Int))=(a.vars.length=b.vars.length):=by rw [eq_iff_iff]; omega
 have enp:((a.procs.length:Int)=(b.procs.length:Int))=(a.procs.length=b.procs.length):=by rw [eq_iff_iff]; omega
 have hd:KH a b=(qC Jo a.enums b.enums && qC Jj a.vars b.vars && qC Jn a.procs b.procs):=rfl;unfold BIG at he hv hp;refine jz x20 (by rfl) (hb.pur 20 1 (by decide)) ?_;simp only [y20,jj,Qai,Qam,Qag,Qah];unfold z20;try dsimp only [oo,oO,ot,oT,os,og,oh,oc,on,oN,oP]
 repeat' (first | (apply jc <;> intro _) | simp (disch:=first | exact dzE | fail) only [ene,env,enp,je,jN,jR,jU,jq,qc,qb,rzZ,Qab,Qac,Qad,Qaa,Qae])
 ·exact G0.v (by rw [hd,Xc (by assumption)]; rfl) rfl
 ·exact G0.v (by rw [hd,Xc (xs:=a.vars) (by assumption)]; simp) rfl
 ·exact G0.v (by rw [hd,Xc (xs:=a.procs) (by assumption)]; simp) rfl
 have le:a.enums.length=b.enums.length:=by simp_all
 have lv:a.vars.length=b.vars.length:=by simp_all
 have lp:a.procs.length=b.procs.length:=by simp_all
 refine qn a.enums.length (λk L s=>qC Jo (a.enums.take k) (b.enums.take k)=true∧Has L 2 (.ptr 0 0)∧Has L 3 (.ptr 1 0)∧Has L 43 (.lst a.enums.length (fl enE a.enums))∧2≤s.nx∧Cl s 0 (srE a)∧Cl s 1 (srE b)) (by first | assumption | omega) (by decide) (by simp (disch:=decide) only [jd,jb]) (by simp (disch:=decide) only [jd,jb]) ?_ (λk L s v h=>by simp (disch:=decide) only [jb]; exact h) (λk L s v h=>by simp (disch:=decide) only [jb]; exact h) (λko Lo so hko hIo hio hno=>?_) (λLo so hIo=>?_)
 ·refine ⟨rfl,?_⟩;simp (disch:=decide) only [Qaj,Qan,z0,z1,jd,jb,and_true,true_and];exact ⟨by (first | omega | (simp only [jg,jh,jk,jo,jm]; first | done | omega)),by first | (first | exact C0 | (simp (disch:=first | assumption | decide | (first | omega | (simp only [jg,jh,jk,jo,jm]; first | done | omega))) only [jE,jG,jD,qv,jP,jQ,j6,j3]; exact C0)) | (first | exact cyE | fail),by first | (first | exact C1 | (simp (disch:=first | assumption | decide | (first | omega | (simp only [jg,jh,jk,jo,jm]; first | done | omega))) only [jE,jG,jD,qv,jP,jQ,j6,j3]; exact C1)) | (first | exact cyE | fail)⟩
 ·obtain ⟨h0,i2,i3,iL,n0,C0,C1⟩:=hIo;have hk2:ko<b.enums.length:=by omega
  obtain ⟨q,hq⟩:∃ q,q=so.nx:=⟨_,rfl⟩;obtain ⟨x,hx⟩:∃ x,x=a.enums[ko]:=⟨_,rfl⟩;obtain ⟨y,hy⟩:∃ y,y=b.enums[ko]:=⟨_,rfl⟩;have bad:Jo x y=false->qC Jo a.enums b.enums=false:=λh=>Qt hko hk2 (by rw [←hx,←hy]; exact h);have good:Jo x y=true->qC Jo (a.enums.take (ko+1)) (b.enums.take (ko+1))=true:=λh=>by rw [Xz hko hk2,h0,←hx,←hy,h]; rfl
  have hxm:x∈a.enums:=hx▸Qau hko;have hym:y∈b.enums:=hy▸Qau hk2;have hin:x.vals.length≤BIG:=ha.vals x hxm;have enx:((x.vals.length:Int)=(y.vals.length:Int))=(x.vals.length=y.vals.length):=by rw [eq_iff_iff]; omega
  unfold BIG at hin
  (have zz:=aI C0.r C1.r; (repeat' (first | (apply jc <;> intro _) | simp (disch:=first | exact qE | fail) only [ja i2,ja i3,ja iL,ja hio,ja hno,←hx,←hy,←hq,enx,C0.q,C1.q,C0.r,C1.r,je,jN,jR,jU,jq,qc,qb,rzZ,Qab,Qac,Qad,Qaa,Qae])); (all_goals (clear zz)))
  ·have hb3:=bad (by unfold Jo; rw [decide_eq_false ‹¬ x.name=y.name›]; rfl);exact G0.v (by rw [hd,hb3]; simp) rfl
  ·have hb3:=bad (by unfold Jo; rw [Xc (by assumption)]; simp);exact G0.v (by rw [hd,hb3]; simp) rfl
  have lx:x.vals.length=y.vals.length:=by simp_all
  refine qn x.vals.length (λj L s=>qC (λa b=>decide (a=b)) (x.vals.take j) (y.vals.take j)=true∧Has L 2 (.ptr 0 0)∧Has L 3 (.ptr 1 0)∧Has L 43 (.lst a.enums.length (fl enE a.enums))∧Has L 44 (.int .i64 (a.enums.length:Int))∧Has L 45 (.int .i64 (ko:Int))∧Has L 6 (.ptr q 0)∧Has L 7 (.ptr (q+1) 0)∧q+2≤s.nx∧Cl s 0 (srE a)∧Cl s 1 (srE b)∧Cl s q (enE x)∧Cl s (q+1) (enE y)) (by first | assumption | omega) (by decide) (by simp (disch:=decide) only [jd,jb]) (by simp (disch:=decide) only [jd,jb]) ?_ (λk L s v h=>by simp (disch:=decide) only [jb]; exact h) (λk L s v h=>by simp (disch:=decide) only [jb]; exact h) (λk L s hk hI hi hn=>?_) (λL s hI=>?_)
  ·refine ⟨rfl,?_⟩;simp (disch:=decide) only [Qaj,Qan,z0,z1,jd,jb,and_true,true_and,i2,i3,iL,hio,hno];exact ⟨by (first | omega | (simp only [jg,jh,jk,jo,jm]; first | done | omega)),by (first | exact C0 | (simp (disch:=first | assumption | decide | (first | omega | (simp only [jg,jh,jk,jo,jm]; first | done | omega))) only [jE,jG,jD,qv,jP,jQ,j6,j3]; exact C0)),by (first | exact C1 | (simp (disch:=first | assumption | decide | (first | omega | (simp only [jg,jh,jk,jo,jm]; first | done | omega))) only [jE,jG,jD,qv,jP,jQ,j6,j3]; exact C1)),by (first | exact cyE | fail),by (first | exact cyE | fail)⟩
  ·clear hio hno i2 i3 iL C0 C1;obtain ⟨g0,i2,i3,iL,hno,hio,iX,iY,n0,C0,C1,C2,C3⟩:=hI;have hj2:k<y.vals.length:=by omega
   (have zz:=aI C0.r (aI C1.r (aI C2.r C3.r)); (repeat' (first | (apply jc <;> intro _) | simp (disch:=first | exact qE | fail) only [ja i2,ja i3,ja iL,ja hi,ja hn,ja iX,ja iY,jca,C0.q,C1.q,C2.q,C3.q,C0.r,C1.r,C2.r,C3.r,je,jN,jR,jU,jq,qc,qb,rzZ,Qab,Qac,Qad,Qaa,Qae])); (all_goals (clear zz)))
   all_goals first
    | (have hb3:=bad (by unfold Jo; rw [Qt hk hj2 (by simp_all)]; simp); exact G0.v (by rw [hd,hb3]; simp) rfl)
    | (
      refine ⟨⟨?_,?_⟩,?_⟩
      · rw [Xz hk hj2,g0]; simp_all
      · simp (disch:=decide) only [Qaj,Qan,z0,z1,jd,jb,and_true,true_and,i2,i3,iL,hio,hno,iX,iY];exact ⟨by (first | omega | (simp only [jg,jh,jk,jo,jm]; first | done | omega)),by (first | exact C0 | (simp (disch:=first | assumption | decide | (first | omega | (simp only [jg,jh,jk,jo,jm]; first | done | omega))) only [jE,jG,jD,qv,jP,jQ,j6,j3]; exact C0)),by (first | exact C1 | (simp (disch:=first | assumption | decide | (first | omega | (simp only [jg,jh,jk,jo,jm]; first | done | omega))) only [jE,jG,jD,qv,jP,jQ,j6,j3]; exact C1)),by (first | exact C2 | (simp (disch:=first | assumption | decide | (first | omega | (simp only [jg,jh,jk,jo,jm]; first | done | omega))) only [jE,jG,jD,qv,jP,jQ,j6,j3]; exact C2)),by (first | exact C3 | (simp (disch:=first | assumption | decide | (first | omega | (simp only [jg,jh,jk,jo,jm]; first | done | omega))) only [jE,jG,jD,qv,jP,jQ,j6,j3]; exact C3))⟩
      · simp (disch:=decide) only [Qaj,Qan,z0,z1,jd,jb,and_true,true_and,hi,hn])
  ·clear hio hno i2 i3 iL C0 C1;obtain ⟨g0,i2,i3,iL,hno,hio,iX,iY,n0,C0,C1,C2,C3⟩:=hI;have g1:=Qh lx g0;repeat' (first | (apply jc <;> intro _) | simp (disch:=first | exact dzE | fail) only [ja i2,ja i3,je,jN,jR,jU,jq,qc,qb,rzZ,Qab,Qac,Qad,Qaa,Qae])
   refine ⟨⟨good ?_,?_⟩,?_⟩
   ·unfold Jo; simp_all
   ·simp (disch:=decide) only [Qaj,Qan,z0,z1,jd,jb,and_true,true_and,i2,i3,iL];exact ⟨by (first | omega | (simp only [jg,jh,jk,jo,jm]; first | done | omega)),by (first | exact C0 | (simp (disch:=first | assumption | decide | (first | omega | (simp only [jg,jh,jk,jo,jm]; first | done | omega))) only [jE,jG,jD,qv,jP,jQ,j6,j3]; exact C0)),by (first | exact C1 | (simp (disch:=first | assumption | decide | (first | omega | (simp only [jg,jh,jk,jo,jm]; first | done | omega))) only [jE,jG,jD,qv,jP,jQ,j6,j3]; exact C1))⟩
   ·simp (disch:=decide) only [Qaj,Qan,z0,z1,jd,jb,and_true,true_and,hio,hno]
 ·obtain ⟨h0,i2,i3,iL,n0,C0,C1⟩:=hIo;have f0:=Qh le h0;rw [f0] at hd
  (have zz:=aI C0.r C1.r; (repeat' (first | (apply jc <;> intro _) | simp (disch:=first | exact qE | fail) only [ja i2,ja i3,ja iL,C0.q,C1.q,C0.r,C1.r,je,jN,jR,jU,jq,qc,qb,rzZ,Qab,Qac,Qad,Qaa,Qae])); (all_goals (clear zz)))
  refine qn a.vars.length (λk L s=>qC Jj (a.vars.take k) (b.vars.take k)=true∧Has L 2 (.ptr 0 0)∧Has L 3 (.ptr 1 0)∧Has L 89 (.lst a.vars.length (fl qu a.vars))∧2≤s.nx∧Cl s 0 (srE a)∧Cl s 1 (srE b)) (by first | assumption | omega) (by decide) (by simp (disch:=decide) only [jd,jb]) (by simp (disch:=decide) only [jd,jb]) ?_ (λk L s v h=>by simp (disch:=decide) only [jb]; exact h) (λk L s v h=>by simp (disch:=decide) only [jb]; exact h) (λko Lo so hko hIo hio hno=>?_) (λLo so hIo=>?_)
  ·refine ⟨rfl,?_⟩;simp (disch:=decide) only [Qaj,Qan,z0,z1,jd,jb,and_true,true_and,i2,i3];exact ⟨by (first | omega | (simp only [jg,jh,jk,jo,jm]; first | done | omega)),by first | (first | exact C0 | (simp (disch:=first | assumption | decide | (first | omega | (simp only [jg,jh,jk,jo,jm]; first | done | omega))) only [jE,jG,jD,qv,jP,jQ,j6,j3]; exact C0)) | (first | exact cyE | fail),by first | (first | exact C1 | (simp (disch:=first | assumption | decide | (first | omega | (simp only [jg,jh,jk,jo,jm]; first | done | omega))) only [jE,jG,jD,qv,jP,jQ,j6,j3]; exact C1)) | (first | exact cyE | fail)⟩
  ·obtain ⟨h0,i2,i3,iL,n0,C0,C1⟩:=hIo;have hk2:ko<b.vars.length:=by omega
   obtain ⟨q,hq⟩:∃ q,q=so.nx:=⟨_,rfl⟩;obtain ⟨x,hx⟩:∃ x,x=a.vars[ko]:=⟨_,rfl⟩;obtain ⟨y,hy⟩:∃ y,y=b.vars[ko]:=⟨_,rfl⟩;have bad:Jj x y=false->qC Jj a.vars b.vars=false:=λh=>Qt hko hk2 (by rw [←hx,←hy]; exact h);have good:Jj x y=true->qC Jj (a.vars.take (ko+1)) (b.vars.take (ko+1))=true:=λh=>by rw [Xz hko hk2,h0,←hx,←hy,h]; rfl
   have hxm:x∈a.vars:=hx▸Qau hko;have hym:y∈b.vars:=hy▸Qau hk2;have hin:x.begins.length≤BIG:=(ha.begs x hxm).1;have enx:((x.begins.length:Int)=(y.begins.length:Int))=(x.begins.length=y.begins.length):=by rw [eq_iff_iff]; omega
   unfold BIG at hin
   (have zz:=aI C0.r C1.r; (repeat' (first | (apply jc <;> intro _) | simp (disch:=first | exact qE | fail) only [ja i2,ja i3,ja iL,ja hio,ja hno,←hx,←hy,←hq,enx,C0.q,C1.q,C0.r,C1.r,je,jN,jR,jU,jq,qc,qb,rzZ,Qab,Qac,Qad,Qaa,Qae])); (all_goals (clear zz)))
   ·have hb3:=bad (by unfold Jj; rw [decide_eq_false ‹¬ x.name=y.name›]; rfl);exact G0.v (by rw [hd,hb3]; simp) rfl
   ·have hb3:=bad (by unfold Jj; rw [decide_eq_false ‹¬ x.ty=y.ty›]; simp);exact G0.v (by rw [hd,hb3]; simp) rfl
   ·have hb3:=bad (by unfold Jj; rw [decide_eq_false ‹¬ x.lo=y.lo›]; simp);exact G0.v (by rw [hd,hb3]; simp) rfl
   ·have hb3:=bad (by unfold Jj; rw [decide_eq_false ‹¬ x.hi=y.hi›]; simp);exact G0.v (by rw [hd,hb3]; simp) rfl
   ·have hb3:=bad (by unfold Jj; rw [Xc (by assumption)]; simp);exact G0.v (by rw [hd,hb3]; simp) rfl
   have lx:x.begins.length=y.begins.length:=by simp_all
   refine qn x.begins.length (λj L s=>qC Ql (x.begins.take j) (y.begins.take j)=true∧Has L 2 (.ptr 0 0)∧Has L 3 (.ptr 1 0)∧Has L 89 (.lst a.vars.length (fl qu a.vars))∧Has L 90 (.int .i64 (a.vars.length:Int))∧Has L 91 (.int .i64 (ko:Int))∧Has L 10 (.ptr q 0)∧Has L 11 (.ptr (q+1) 0)∧q+2≤s.nx∧Cl s 0 (srE a)∧Cl s 1 (srE b)∧Cl s q (qu x)∧Cl s (q+1) (qu y)) (by first | assumption | omega) (by decide) (by simp (disch:=decide) only [jd,jb]) (by simp (disch:=decide) only [jd,jb]) ?_ (λk L s v h=>by simp (disch:=decide) only [jb]; exact h) (λk L s v h=>by simp (disch:=decide) only [jb]; exact h) (λk L s hk hI hi hn=>?_) (λL s hI=>?_)
   ·refine ⟨rfl,?_⟩;simp (disch:=decide) only [Qaj,Qan,z0,z1,jd,jb,and_true,true_and,i2,i3,iL,hio,hno];exact ⟨by (first | omega | (simp only [jg,jh,jk,jo,jm]; first | done | omega)),by (first | exact C0 | (simp (disch:=first | assumption | decide | (first | omega | (simp only [jg,jh,jk,jo,jm]; first | done | omega))) only [jE,jG,jD,qv,jP,jQ,j6,j3]; exact C0)),by (first | exact C1 | (simp (disch:=first | assumption | decide | (first | omega | (simp only [jg,jh,jk,jo,jm]; first | done | omega))) only [jE,jG,jD,qv,jP,jQ,j6,j3]; exact C1)),by (first | exact cyE | fail),by (first | exact cyE | fail)⟩
   ·clear hio hno i2 i3 iL C0 C1;obtain ⟨g0,i2,i3,iL,hno,hio,iX,iY,n0,C0,C1,C2,C3⟩:=hI;have hj2:k<y.begins.length:=by omega
    have e:=uW hb x.begins[k] ((ha.begs x hxm).2 _ (Qau hk)) y.begins[k] ((hb2.begs y hym).2 _ (Qau hj2))
    (have zz:=aI C0.r (aI C1.r (aI C2.r C3.r)); (repeat' (first | (apply jc <;> intro _) | simp (disch:=first | exact qE | fail) only [ja i2,ja i3,ja iL,ja hi,ja hn,ja iX,ja iY,e,C0.q,C1.q,C2.q,C3.q,C0.r,C1.r,C2.r,C3.r,je,jN,jR,jU,jq,qc,qb,rzZ,Qab,Qac,Qad,Qaa,Qae])); (all_goals (clear zz)))
    all_goals first
     | (have hb3:=bad (by unfold Jj; rw [Qt hk hj2 (by simp_all)]; simp); exact G0.v (by rw [hd,hb3]; simp) rfl)
     | (
        refine ⟨⟨?_,?_⟩,?_⟩
        ·rw [Xz hk hj2,g0]; simp_all
        ·simp (disch:=decide) only [Qaj,Qan,z0,z1,jd,jb,and_true,true_and,i2,i3,iL,hio,hno,iX,iY];exact ⟨by (first | omega | (simp only [jg,jh,jk,jo,jm]; first | done | omega)),by (first | exact C0 | (simp (disch:=first | assumption | decide | (first | omega | (simp only [jg,jh,jk,jo,jm]; first | done | omega))) only [jE,jG,jD,qv,jP,jQ,j6,j3]; exact C0)),by (first | exact C1 | (simp (disch:=first | assumption | decide | (first | omega | (simp only [jg,jh,jk,jo,jm]; first | done | omega))) only [jE,jG,jD,qv,jP,jQ,j6,j3]; exact C1)),by (first | exact C2 | (simp (disch:=first | assumption | decide | (first | omega | (simp only [jg,jh,jk,jo,jm]; first | done | omega))) only [jE,jG,jD,qv,jP,jQ,j6,j3]; exact C2)),by (first | exact C3 | (simp (disch:=first | assumption | decide | (first | omega | (simp only [jg,jh,jk,jo,jm]; first | done | omega))) only [jE,jG,jD,qv,jP,jQ,j6,j3]; exact C3))⟩
        ·simp (disch:=decide) only [Qaj,Qan,z0,z1,jd,jb,and_true,true_and,hi,hn])
   ·clear hio hno i2 i3 iL C0 C1;obtain ⟨g0,i2,i3,iL,hno,hio,iX,iY,n0,C0,C1,C2,C3⟩:=hI;have g1:=Qh lx g0;repeat' (first | (apply jc <;> intro _) | simp (disch:=first | exact dzE | fail) only [ja i2,ja i3,je,jN,jR,jU,jq,qc,qb,rzZ,Qab,Qac,Qad,Qaa,Qae])
    refine ⟨⟨good ?_,?_⟩,?_⟩
    ·unfold Jj; simp_all
    ·simp (disch:=decide) only [Qaj,Qan,z0,z1,jd,jb,and_true,true_and,i2,i3,iL];exact ⟨by (first | omega | (simp only [jg,jh,jk,jo,jm]; first | done | omega)),by (first | exact C0 | (simp (disch:=first | assumption | decide | (first | omega | (simp only [jg,jh,jk,jo,jm]; first | done | omega))) only [jE,jG,jD,qv,jP,jQ,j6,j3]; exact C0)),by (first | exact C1 | (simp (disch:=first | assumption | decide | (first | omega | (simp only [jg,jh,jk,jo,jm]; first | done | omega))) only [jE,jG,jD,qv,jP,jQ,j6,j3]; exact C1))⟩
    ·simp (disch:=decide) only [Qaj,Qan,z0,z1,jd,jb,and_true,true_and,hio,hno]
  ·obtain ⟨h0,i2,i3,iL,n0,C0,C1⟩:=hIo;have f0:=Qh lv h0;rw [f0] at hd
   (have zz:=aI C0.r C1.r; (repeat' (first | (apply jc <;> intro _) | simp (disch:=first | exact qE | fail) only [ja i2,ja i3,ja iL,C0.q,C1.q,C0.r,C1.r,je,jN,jR,jU,jq,qc,qb,rzZ,Qab,Qac,Qad,Qaa,Qae])); (all_goals (clear zz)))
   refine qn a.procs.length (λk L s=>qC Jn (a.procs.take k) (b.procs.take k)=true∧Has L 2 (.ptr 0 0)∧Has L 3 (.ptr 1 0)∧Has L 157 (.lst a.procs.length (fl prE a.procs))∧2≤s.nx∧Cl s 0 (srE a)∧Cl s 1 (srE b)) (by first | assumption | omega) (by decide) (by simp (disch:=decide) only [jd,jb]) (by simp (disch:=decide) only [jd,jb]) ?_ (λk L s v h=>by simp (disch:=decide) only [jb]; exact h) (λk L s v h=>by simp (disch:=decide) only [jb]; exact h) (λko Lo so hko hIo hio hno=>?_) (λLo so hIo=>?_)
   ·refine ⟨rfl,?_⟩;simp (disch:=decide) only [Qaj,Qan,z0,z1,jd,jb,and_true,true_and,i2,i3];exact ⟨by (first | omega | (simp only [jg,jh,jk,jo,jm]; first | done | omega)),by first | (first | exact C0 | (simp (disch:=first | assumption | decide | (first | omega | (simp only [jg,jh,jk,jo,jm]; first | done | omega))) only [jE,jG,jD,qv,jP,jQ,j6,j3]; exact C0)) | (first | exact cyE | fail),by first | (first | exact C1 | (simp (disch:=first | assumption | decide | (first | omega | (simp only [jg,jh,jk,jo,jm]; first | done | omega))) only [jE,jG,jD,qv,jP,jQ,j6,j3]; exact C1)) | (first | exact cyE | fail)⟩
   ·obtain ⟨h0,i2,i3,iL,n0,C0,C1⟩:=hIo;have hk2:ko<b.procs.length:=by omega
    obtain ⟨q,hq⟩:∃ q,q=so.nx:=⟨_,rfl⟩;obtain ⟨x,hx⟩:∃ x,x=a.procs[ko]:=⟨_,rfl⟩;obtain ⟨y,hy⟩:∃ y,y=b.procs[ko]:=⟨_,rfl⟩;have bad:Jn x y=false->qC Jn a.procs b.procs=false:=λh=>Qt hko hk2 (by rw [←hx,←hy]; exact h);have good:Jn x y=true->qC Jn (a.procs.take (ko+1)) (b.procs.take (ko+1))=true:=λh=>by rw [Xz hko hk2,h0,←hx,←hy,h]; rfl
    have hxm:x∈a.procs:=hx▸Qau hko;have hym:y∈b.procs:=hy▸Qau hk2;have hin:x.rules.length≤BIG:=(ha.rules x hxm).1;have enx:((x.rules.length:Int)=(y.rules.length:Int))=(x.rules.length=y.rules.length):=by rw [eq_iff_iff]; omega
    unfold BIG at hin
    (have zz:=aI C0.r C1.r; (repeat' (first | (apply jc <;> intro _) | simp (disch:=first | exact qE | fail) only [ja i2,ja i3,ja iL,ja hio,ja hno,←hx,←hy,←hq,enx,C0.q,C1.q,C0.r,C1.r,je,jN,jR,jU,jq,qc,qb,rzZ,Qab,Qac,Qad,Qaa,Qae])); (all_goals (clear zz)))
    ·have hb3:=bad (by unfold Jn; rw [decide_eq_false ‹¬ x.name=y.name›]; rfl);exact G0.v (by rw [hd,hb3]; simp) rfl
    ·have hb3:=bad (by unfold Jn; rw [Xc (by assumption)]; simp);exact G0.v (by rw [hd,hb3]; simp) rfl
    have lx:x.rules.length=y.rules.length:=by simp_all
    refine qn x.rules.length (λj L s=>qC Wa (x.rules.take j) (y.rules.take j)=true∧Has L 2 (.ptr 0 0)∧Has L 3 (.ptr 1 0)∧Has L 157 (.lst a.procs.length (fl prE a.procs))∧Has L 158 (.int .i64 (a.procs.length:Int))∧Has L 159 (.int .i64 (ko:Int))∧Has L 14 (.ptr q 0)∧Has L 15 (.ptr (q+1) 0)∧q+2≤s.nx∧Cl s 0 (srE a)∧Cl s 1 (srE b)∧Cl s q (prE x)∧Cl s (q+1) (prE y)) (by first | assumption | omega) (by decide) (by simp (disch:=decide) only [jd,jb]) (by simp (disch:=decide) only [jd,jb]) ?_ (λk L s v h=>by simp (disch:=decide) only [jb]; exact h) (λk L s v h=>by simp (disch:=decide) only [jb]; exact h) (λk L s hk hI hi hn=>?_) (λL s hI=>?_)
    ·refine ⟨rfl,?_⟩;simp (disch:=decide) only [Qaj,Qan,z0,z1,jd,jb,and_true,true_and,i2,i3,iL,hio,hno];exact ⟨by (first | omega | (simp only [jg,jh,jk,jo,jm]; first | done | omega)),by (first | exact C0 | (simp (disch:=first | assumption | decide | (first | omega | (simp only [jg,jh,jk,jo,jm]; first | done | omega))) only [jE,jG,jD,qv,jP,jQ,j6,j3]; exact C0)),by (first | exact C1 | (simp (disch:=first | assumption | decide | (first | omega | (simp only [jg,jh,jk,jo,jm]; first | done | omega))) only [jE,jG,jD,qv,jP,jQ,j6,j3]; exact C1)),by (first | exact cyE | fail),by (first | exact cyE | fail)⟩
    ·clear hio hno i2 i3 iL C0 C1;obtain ⟨g0,i2,i3,iL,hno,hio,iX,iY,n0,C0,C1,C2,C3⟩:=hI;have hj2:k<y.rules.length:=by omega
     have sx:=(ha.rules x hxm).2 _ (Qau hk);have sy:=(hb2.rules y hym).2 _ (Qau hj2);have e:=uW hb x.rules[k].when sx.when y.rules[k].when sy.when;have e2:=jfK hb x.rules[k].acts y.rules[k].acts sx.acts sx.to sy.to
     (have zz:=aI C0.r (aI C1.r (aI C2.r C3.r)); (repeat' (first | (apply jc <;> intro _) | simp (disch:=first | exact qE | fail) only [ja i2,ja i3,ja iL,ja hi,ja hn,ja iX,ja iY,e,e2,jeS,C0.q,C1.q,C2.q,C3.q,C0.r,C1.r,C2.r,C3.r,je,jN,jR,jU,jq,qc,qb,rzZ,Qab,Qac,Qad,Qaa,Qae])); (all_goals (clear zz)))
     all_goals first
       | (have hb3:=bad (by unfold Jn; rw [Qt hk hj2 (by unfold Wa; simp_all)]; simp); exact G0.v (by rw [hd,hb3]; simp) rfl)
       | (
         refine ⟨⟨?_,?_⟩,?_⟩
         ·rw [Xz hk hj2,g0]; unfold Wa; simp_all
         ·simp (disch:=decide) only [Qaj,Qan,z0,z1,jd,jb,and_true,true_and,i2,i3,iL,hio,hno,iX,iY];exact ⟨by (first | omega | (simp only [jg,jh,jk,jo,jm]; first | done | omega)),by (first | exact C0 | (simp (disch:=first | assumption | decide | (first | omega | (simp only [jg,jh,jk,jo,jm]; first | done | omega))) only [jE,jG,jD,qv,jP,jQ,j6,j3]; exact C0)),by (first | exact C1 | (simp (disch:=first | assumption | decide | (first | omega | (simp only [jg,jh,jk,jo,jm]; first | done | omega))) only [jE,jG,jD,qv,jP,jQ,j6,j3]; exact C1)),by (first | exact C2 | (simp (disch:=first | assumption | decide | (first | omega | (simp only [jg,jh,jk,jo,jm]; first | done | omega))) only [jE,jG,jD,qv,jP,jQ,j6,j3]; exact C2)),by (first | exact C3 | (simp (disch:=first | assumption | decide | (first | omega | (simp only [jg,jh,jk,jo,jm]; first | done | omega))) only [jE,jG,jD,qv,jP,jQ,j6,j3]; exact C3))⟩
         ·simp (disch:=decide) only [Qaj,Qan,z0,z1,jd,jb,and_true,true_and,hi,hn])
    ·clear hio hno i2 i3 iL C0 C1;obtain ⟨g0,i2,i3,iL,hno,hio,iX,iY,n0,C0,C1,C2,C3⟩:=hI;have g1:=Qh lx g0;repeat' (first | (apply jc <;> intro _) | simp (disch:=first | exact dzE | fail) only [ja i2,ja i3,je,jN,jR,jU,jq,qc,qb,rzZ,Qab,Qac,Qad,Qaa,Qae])
     refine ⟨⟨good ?_,?_⟩,?_⟩
     · unfold Jn; simp_all
     · simp (disch:=decide) only [Qaj,Qan,z0,z1,jd,jb,and_true,true_and,i2,i3,iL];exact ⟨by (first | omega | (simp only [jg,jh,jk,jo,jm]; first | done | omega)),by (first | exact C0 | (simp (disch:=first | assumption | decide | (first | omega | (simp only [jg,jh,jk,jo,jm]; first | done | omega))) only [jE,jG,jD,qv,jP,jQ,j6,j3]; exact C0)),by (first | exact C1 | (simp (disch:=first | assumption | decide | (first | omega | (simp only [jg,jh,jk,jo,jm]; first | done | omega))) only [jE,jG,jD,qv,jP,jQ,j6,j3]; exact C1))⟩
     · simp (disch:=decide) only [Qaj,Qan,z0,z1,jd,jb,and_true,true_and,hio,hno]
   ·obtain ⟨h0,i2,i3,iL,n0,C0,C1⟩:=hIo;have f0:=Qh lp h0;rw [f0] at hd
    (have zz:=aI C0.r C1.r; (repeat' (first | (apply jc <;> intro _) | simp (disch:=first | exact qE | fail) only [ja i2,ja i3,ja iL,C0.q,C1.q,C0.r,C1.r,je,jN,jR,jU,jq,qc,qb,rzZ,Qab,Qac,Qad,Qaa,Qae])); (all_goals (clear zz)))
    exact G0.v (by rw [hd]; rfl) rfl
end Go.Sy
end
noncomputable section
set_option maxRecDepth 100000
namespace Go.Sy
open Go.Ev Go.Proofs
variable {base:Bs}
theorem jgZ {a:Nat}{st:St}{K:AV->St->Prop}(h:a≤9223372036854775807):jf (JF .quo (.int .i64 (a:Int)) (.int .i64 10) st) K=K (.int .i64 ((a / 10:Nat):Int)) st:=by
 have e:Ji .i64 ((a / 10:Nat):Int)=((a / 10:Nat):Int):=Zu (by omega) (by omega);show K (.int .i64 (Ji .i64 ((a / 10:Nat):Int))) st=_;rw [e]
theorem jgY {a:Nat}{st:St}{K:AV->St->Prop}:jf (JF .rem (.int .i64 (a:Int)) (.int .i64 10) st) K=K (.int .i64 ((a % 10:Nat):Int)) st:=rfl
def zr (n:Nat):List Nat:=if n<10 then [48+n] else zr (n / 10) ++ [48+n % 10]
termination_by n
decreasing_by omega
def JQ (n:Int):List Nat:=if n<0 then 45 :: zr (-n).toNat else zr n.toNat
theorem jj4:∀ n,n<10->(([48,49,50,51,52,53,54,55,56,57]:List Nat).drop n).take 1=[48+n]:=by decide
theorem QX:∀ (k n:Nat),n<10 ^ (k+1)->(zr n).length≤k+1
 | 0,n,h=>by rw [zr,if_pos (by omega)]; simp
 | k+1,n,h=>by
  rw [zr];by_cases h2:n<10
  ·rw [if_pos h2]; simp
  ·rw [if_neg h2,Qak];have:=QX k (n / 10) (by rw [Nat.pow_succ] at h; omega);simp; omega
theorem jei (hb:NB base)(n:Nat)(h:n≤1000000000000000):Tot base 53 [.int .i64 (n:Int)] (.str (zr n)):=by
 induction n using Nat.strongRecOn with
 | _ n ih=>
 refine hb.tot ?_ rfl rfl;have hd:zr n=if n<10 then [48+n] else zr (n / 10) ++ [48+n % 10]:=by rw [zr]
 by_cases h2:n<10
 ·have g:=jj4 n h2;have e1:((n:Int)+1 - (n:Int)).toNat=1:=by omega
  have e2:(n:Int)<10:=by omega
  refine jz x53 (by rfl) (hb.pur 53 1 (by decide)) ?_;simp only [y53,jj,Qai,Qam,Qag,Qah];unfold z53;try dsimp only [oo,oO,ot,oT,os,og,oh,oc,on,oN,oP]
  repeat' (first | (apply jc <;> intro _) | simp (disch:=first | exact dzB | fail) only [e1,e2,g,je,rzZ,Qab,Qac,Qad,Qaa,Qae])
  exact G0.v (by rw [hd,if_pos h2]) rfl
 ·have i:=ih (n / 10) (by omega) (by omega);have g:=jj4 (n % 10) (by omega);have e1:(((n % 10:Nat):Int)+1 - ((n % 10:Nat):Int)).toNat=1:=by omega
  have e2:¬ (n:Int)<10:=by omega
  have e0:¬ (n:Int)<0:=by omega
  have e3:(n % 10:Nat)+1≤10:=by omega
  have hl:=QX 14 (n / 10) (by
   have:(10:Nat) ^ (14+1)=1000000000000000:=by decide
   omega)
  refine jz x53 (by rfl) (hb.pur 53 1 (by decide)) ?_;simp only [y53,jj,Qai,Qam,Qag,Qah];unfold z53;try dsimp only [oo,oO,ot,oT,os,og,oh,oc,on,oN,oP]
  repeat' (first | (apply jc <;> intro _) | simp (disch:=first | exact dzB | fail) only [e1,e2,e0,g,jgZ,jgY,i,je,rzZ,Qab,Qac,Qad,Qaa,Qae])
  exact G0.v (by rw [hd,if_neg h2]) rfl
theorem jbX (hb:NB base)(n:Int)(h1 : -1000000000000000≤n)(h2:n≤1000000000000000):Tot base 53 [.int .i64 n] (.str (JQ n)):=by
 by_cases h0:n<0
 ·obtain ⟨m,hm⟩:∃ m:Nat,-n=(m:Int):=⟨(-n).toNat,by omega⟩;have D:=jei hb m (by omega);have hl:=QX 15 m (by
   have:(10:Nat) ^ (15+1)=10000000000000000:=by decide
   omega)
  refine hb.tot ?_ rfl rfl;refine jz x53 (by rfl) (hb.pur 53 1 (by decide)) ?_;simp only [y53,jj,Qai,Qam,Qag,Qah];unfold z53;try dsimp only [oo,oO,ot,oT,os,og,oh,oc,on,oN,oP]
  repeat' (first | (apply jc <;> intro _) | simp (disch:=first | exact dzB | fail) only [h0,hm,D,je,rzZ,Qab,Qac,Qad,Qaa,Qae])
  exact G0.v (by rw [JQ,if_pos h0,hm]; rfl) rfl
 ·obtain ⟨m,hm⟩:∃ m:Nat,n=(m:Int):=⟨n.toNat,by omega⟩;subst hm;rw [JQ,if_neg h0];exact jei hb m (by omega)
theorem Zz {n:Int}(h1 : -1000000≤n)(h2:n≤1000000):(JQ n).length≤8:=by
 have e:(10:Nat) ^ (6+1)=10000000:=by decide
 unfold JQ;split
 ·have:=QX 6 (-n).toNat (by omega);simp; omega
 ·have:=QX 6 n.toNat (by omega);omega
def j9:Ex->List Nat
 | .mk op num name ks _ _=>match ks with
  | [x,y]=>(if x.kids.length=0 then j9 x else 40 :: (j9 x ++ [41])) ++ [32] ++ sgn op ++ [32] ++ (if y.kids.length=0 then j9 y else 40 :: (j9 y ++ [41]))
  | [x]=>sgn op ++ (if 6<op then [32] else []) ++ (if x.kids.length=0 then j9 x else 40 :: (j9 x ++ [41]))
  | _=>if op=1 then JQ num else if op=2 then (if num=1 then [116,114,117,101] else [102,97,108,115,101]) else name
termination_by x=>SizeOf.sizeOf x
def zN (x:Ex):List Nat:=if x.kids.length=0 then j9 x else 40 :: (j9 x ++ [41])
theorem u2 (op num:Int)(name:List Nat)(x y:Ex)(l c:Int):j9 (.mk op num name [x,y] l c)=zN x ++ [32] ++ sgn op ++ [32] ++ zN y:=by rw [j9]; rfl
theorem u3 (op num:Int)(name:List Nat)(x:Ex)(l c:Int):j9 (.mk op num name [x] l c)=sgn op ++ (if 6<op then [32] else []) ++ zN x:=by rw [j9]; rfl
theorem YX (op num:Int)(name:List Nat)(l c:Int):j9 (.mk op num name [] l c)=if op=1 then JQ num else if op=2 then (if num=1 then [116,114,117,101] else [102,97,108,115,101]) else name:=by rw [j9] <;> intros <;> simp_all
theorem wD (op:Int):(sgn op).length≤3:=by
 unfold sgn;split
 ·rename_i h;have:∀ n,n<26->(za.getD n []).length≤3:=by decide
  exact this _ (by omega)
 ·simp
theorem vi {x:Ex}(h:zJ x=true):Xp x.op=(x.kids.length:Int)∧(∀ k∈x.kids,zJ k=true)∧Ye x.op x.num x.name=true∧(x.op=3∨x.name=[]):=by
 rw [ua,wb] at h;simp only [Qas,decide_eq_true_eq,Qaw,Qbg] at h;exact ⟨h.1.1.1,h.1.1.2,h.2,h.1.2⟩
theorem Gr (op:Int):Xp op≤2:=by unfold Xp; split <;> (try split) <;> (try split) <;> omega
theorem yR:∀ x:Ex,zJ x=true->(j9 x).length≤16 * szE x:=by
 refine Ex.indk λx ih h=>?_;obtain ⟨h1,h2,h3,h4⟩:=vi h;have h5:=Gr x.op;cases x with
 | mk op num name ks l c=>
 simp only [Ex.op,Ex.num,Ex.name,Ex.kids] at *;have sz:szE (.mk op num name ks l c)=ya ks+name.length+1:=rfl;rw [sz];have inn:∀ k∈ks,(zN k).length≤16 * szE k+2:=λk hk=>by
  have:=ih k hk (h2 k hk);unfold zN; split
  ·omega
  ·simp; omega
 match ks,h1,inn with
 | [],_,_=>
  rw [YX];unfold Ye at h3;split
  ·rename_i h6;rw [if_pos h6] at h3;simp at h3;have:=Zz (n:=num) (by omega) (by omega);omega
  ·split
   ·split <;> simp <;> omega
   ·omega
 | [x],_,inn=>
  rw [u3];have:=inn x (by simp);have:=wD op;simp only [Qak,ya];split <;> simp <;> omega
 | [x,y],_,inn=>
  rw [u2];have:=inn x (by simp);have:=inn y (by simp);have:=wD op;simp only [Qak,ya,Qal,Qap];omega
 | x :: y :: z :: r,h1,_=>
  simp only [Qal] at h1;omega
theorem jfj {x:Ex}(h:zJ x=true):(zN x).length≤16 * szE x+2:=by
 have:=yR x h;unfold zN; split
 ·omega
 ·simp; omega
theorem jjJ (x:Ex)(xs:List Ex){st:St}{K:AV->St->Prop}:jf (zM 6 (.lptr (fl eE (x :: xs)) 0) st) K=K (.agg (eE x)) st:=by
 have:=GO (st:=st) (K:=K) (xs:=x :: xs) (i:=0) (by simp);rw [Qby] at this;exact this
theorem jlL (x y:Ex)(xs:List Ex){st:St}{K:AV->St->Prop}:jf (zM 6 (.lptr (fl eE (x :: y :: xs)) 6) st) K=K (.agg (eE y)) st:=GO (st:=st) (K:=K) (xs:=x :: y :: xs) (i:=1) (by simp)
theorem jfN (hb:NB base){x:Ex}(h:zJ x=true)(hx:szE x≤BIG)(T:Tot base 16 [.agg (eE x)] (.str (j9 x))):Tot base 51 [.agg (eE x)] (.str (zN x)):=by
 refine hb.tot ?_ (by first | rfl | simp [pa,pc,zn]) rfl;have hl:=yR x h;have z:((x.kids.length:Int)=0)=(x.kids.length=0):=by rw [eq_iff_iff]; omega
 unfold BIG at hx;refine jz x51 (by rfl) (hb.pur 51 1 (by decide)) ?_;simp only [y51,jj,Qai,Qam,Qag,Qah];unfold z51;try dsimp only [oo,oO,ot,oT,os,og,oh,oc,on,oN,oP]
 (have zz:=@Qak.{0}; (repeat' (first | (apply jc <;> intro _) | simp (disch:=first | exact U2 | fail) only [T,z,Qak,je,rzZ,Qab,Qac,Qad,Qaa,Qae])); (all_goals (clear zz)))
 ·exact G0.v (by rw [zN,if_pos (by assumption)]) rfl
 ·exact G0.v (by rw [zN,if_neg (by assumption)] <;> rfl) rfl
set_option maxHeartbeats 1000000 in
theorem uV (hb:NB base):∀ x:Ex,szE x≤BIG->zJ x=true->Tot base 16 [.agg (eE x)] (.str (j9 x)):=by
 refine Ex.indk λx ih hx h=>?_;refine hb.tot ?_ (by first | rfl | simp [pa,pc,zn]) rfl;obtain ⟨h1,h2,h3,h4⟩:=vi h;have h5:=Gr x.op;have sz:=JX x;have hl:=yR x h;have SG:=jhN hb x.op;have sl:=wD x.op;have inn:∀ k∈x.kids,Tot base 51 [.agg (eE k)] (.str (zN k))∧(zN k).length≤16 * szE k+2:=λk hk=>by
  have:szE k≤ya x.kids:=by
   obtain ⟨i,hi,rfl⟩:=QbS.1 hk;exact Qk hi
  have hk2:szE k≤BIG:=by omega
  exact ⟨jfN hb (h2 k hk) hk2 (ih k hk hk2 (h2 k hk)),jfj (h2 k hk)⟩
 clear ih hl;unfold BIG at *;cases x with
 | mk op num name ks l c=>
 simp only [Ex.op,Ex.num,Ex.name,Ex.kids] at *
 match ks,h1,sz,inn with
 | [],_,sz,_=>
  rw [YX];have D:op=1->Tot base 53 [.int .i64 num] (.str (JQ num)):=λe=>by
   subst e;unfold Ye at h3;simp at h3;exact jbX hb num (by omega) (by omega)
  have ek:(Ex.mk op num name [] l c).kids=[]:=rfl;have eo:(Ex.mk op num name [] l c).op=op:=rfl;have en:(Ex.mk op num name [] l c).num=num:=rfl;have ea:(Ex.mk op num name [] l c).name=name:=rfl;refine jz x16 (by rfl) (hb.pur 16 1 (by decide)) ?_;simp only [y16,jj,Qai,Qam,Qag,Qah];unfold z16;try dsimp only [oo,oO,ot,oT,os,og,oh,oc,on,oN,oP]
  repeat' (first | (apply jc <;> intro _) | simp (disch:=first | exact dzB | fail) only [D,ek,eo,en,ea,je,rzZ,Qab,Qac,Qad,Qaa,Qae])
  all_goals (refine G0.v (congrArg AV.str ?_) rfl; split <;> (try split) <;> first | rfl | omega | (exfalso; omega) | contradiction)
 | [x],_,sz,inn=>
  obtain ⟨I,il⟩:=inn x (by simp);simp only [ya] at sz;rw [u3];have ek:(Ex.mk op num name [x] l c).kids=[x]:=rfl;have eo:(Ex.mk op num name [x] l c).op=op:=rfl;refine jz x16 (by rfl) (hb.pur 16 1 (by decide)) ?_;simp only [y16,jj,Qai,Qam,Qag,Qah];unfold z16;try dsimp only [oo,oO,ot,oT,os,og,oh,oc,on,oN,oP]
  (have zz:=aI @yQ (aI @Y9 (aI @Qak.{0} (aI @ek @eo))); (repeat' (first | (apply jc <;> intro _) | simp (disch:=first | exact U2 | fail) only [ek,eo,I,SG,jjJ,sm3,jeH,Z9,yQ,Y9,Qak,ek,eo,je,rzZ,Qab,Qac,Qad,Qaa,Qae])); (all_goals (clear zz)))
  all_goals (refine G0.v (congrArg AV.str ?_) rfl; split <;> first | rfl | (exfalso; omega) | (simp; done))
 | [x,y],_,sz,inn=>
  obtain ⟨I,il⟩:=inn x (by simp);obtain ⟨I2,il2⟩:=inn y (by simp);simp only [ya] at sz;rw [u2];have ek:(Ex.mk op num name [x,y] l c).kids=[x,y]:=rfl;have eo:(Ex.mk op num name [x,y] l c).op=op:=rfl;refine jz x16 (by rfl) (hb.pur 16 1 (by decide)) ?_;simp only [y16,jj,Qai,Qam,Qag,Qah];unfold z16;try dsimp only [oo,oO,ot,oT,os,og,oh,oc,on,oN,oP]
  (have zz:=aI @yQ (aI @Y9 (aI @Qak.{0} (aI @ek @eo))); (repeat' (first | (apply jc <;> intro _) | simp (disch:=first | exact U2 | fail) only [ek,eo,I,I2,SG,jjJ,jlL,sm3,jeH,Z9,yQ,Y9,Qak,ek,eo,je,rzZ,Qab,Qac,Qad,Qaa,Qae])); (all_goals (clear zz)))
  exact G0.v rfl rfl
 | x :: y :: z :: r,h1,_,_=>
  simp only [Qal] at h1;omega
end Go.Sy
end
noncomputable section
set_option maxRecDepth 100000
namespace Go.Sy
open Go.Ev Go.Proofs
variable {base:Bs}
def zi:List (List Nat)->List Nat
 | []=>[]
 | x :: xs=>x ++ xs.flatMap λy=>44 :: 32 :: y
theorem VT (xs:List (List Nat))(y:List Nat):zi (xs ++ [y])=zi xs ++ (if xs.length=0 then [] else [44,32]) ++ y:=by
 cases xs with
 | nil=>simp [zi]
 | cons x xs=>simp [zi]
theorem Q1 {n:Nat}:∀ {xs:List (List Nat)},(∀ x∈xs,x.length≤n)->(zi xs).length≤xs.length * (n+2)
 | [],_=>by simp [zi]
 | x :: xs,h=>by
  have h1:=h x (by simp);have:(xs.flatMap λy=>44 :: 32 :: y).length≤xs.length * (n+2):=by
   clear h1;induction xs with
   | nil=>simp
   | cons y ys ih=>
    have h2:=h y (by simp);have:=ih λz hz=>h z (by simp at hz ⊢; rcases hz with rfl | hz <;> simp [*]);rw [QbQ,Qak,show (y :: ys).length=ys.length+1 from rfl,Qbr];simp only [Qal];omega
  rw [zi,Qak,show (x :: xs).length=xs.length+1 from rfl,Qbr];omega
theorem JH {l:List Nat}(h:nm l=true):l.length≤32:=by
 unfold nm at h;simp only [Qas,decide_eq_true_eq] at h;exact h.1.1.1.2
def zT (e:EnumT):Option (List Nat):=if nm e.name=true∧1≤e.vals.length∧e.vals.length≤32∧e.vals.all nm=true then some ([101,110,117,109,32] ++ e.name ++ [32,123,32] ++ zi e.vals ++ [32,125,10]) else none
def UA (o:Option (List Nat)):AV:=.tup [.str (o.getD []),.bool o.isSome]
theorem jcz (l:List Nat):UA (some l)=.tup [.str l,.bool true]:=rfl
theorem G0.tup2 {s:St}{a:List Nat}{b:Bool}{u:AV}(h:u=.tup [.str a,.bool b]):G0 u (.tup [.str a,.bool b]) s:=by
 subst h;exact FzD.tup (.cons (.pc rfl) (.cons (.pc rfl) .nil))
theorem Hf {α:Type}{p:α->Bool}{xs:List α}{k:Nat}(h:k<xs.length)(h2:p xs[k]=false):xs.all p=false:=by
 rw [Bool.eq_false_iff]; intro h3;rw [Qaw] at h3;have:=h3 _ (Qau h);rw [h2] at this; cases this
theorem jbS {α:Type}{p:α->Bool}{xs:List α}{k:Nat}(h:k<xs.length):(xs.take (k+1)).all p=((xs.take k).all p && p xs[k]):=by
 rw [Jm h,Qbk]; simp
set_option maxHeartbeats 1000000 in
theorem jhU (hb:NB base)(e:EnumT)(h1:e.name.length≤BIG)(h2:e.vals.length≤BIG)(h3:∀ v∈e.vals,v.length≤BIG):Tot base 54 [.agg (enE e)] (UA (zT e)):=by
 refine hb.tot ?_ (by first | rfl | simp [pa,pc,zn,vS,vk,vK,X3]) rfl;have NM:=X5 hb e.name (by unfold BIG at *; omega);unfold BIG at *;have c1:((e.vals.length:Int)<1)=(e.vals.length<1):=by rw [eq_iff_iff]; omega
 have c2:((32:Int)<(e.vals.length:Int))=(32<e.vals.length):=by rw [eq_iff_iff]; omega
 refine jz x54 (by rfl) (hb.pur 54 1 (by decide)) ?_;simp only [y54,jj,Qai,Qam,Qag,Qah];unfold z54;try dsimp only [oo,oO,ot,oT,os,og,oh,oc,on,oN,oP]
 (have zz:=@Qak.{0}; (repeat' (first | (apply jc <;> intro _) | simp (disch:=first | exact qE | fail) only [NM,c1,c2,Qak,je,jN,jR,jU,jq,rzZ,Qab,Qac,Qad,Qaa,Qae])); (all_goals (clear zz)))
 ·rename_i h;exact G0.tup2 (by rw [zT,if_neg (by rintro ⟨h6,_⟩; rw [h] at h6; cases h6)]; rfl)
 ·exact G0.tup2 (by rw [zT,if_neg (by omega)]; rfl)
 ·exact G0.tup2 (by rw [zT,if_neg (by omega)]; rfl)
 have hn:nm e.name=true:=by simp_all
 have hnl:=JH hn;have l1:1≤e.vals.length:=by omega
 have l2:e.vals.length≤32:=by omega
 refine qn e.vals.length (λk L s=>(e.vals.take k).all nm=true∧Has L 4 (.str ([101,110,117,109,32] ++ e.name ++ [32,123,32] ++ zi (e.vals.take k)))∧Has L 28 (.lst e.vals.length (e.vals.map AV.str))) (by first | assumption | omega) (by decide) (by simp (disch:=decide) only [jd,jb]) (by simp (disch:=decide) only [jd,jb]) ?_ (λk L s v h=>by simp (disch:=decide) only [jb]; exact h) (λk L s v h=>by simp (disch:=decide) only [jb]; exact h) (λk L s hk hI hi hn=>?_) (λL s hI=>?_)
 ·refine ⟨rfl,?_⟩;rw [Qbm,zi,Qba];simp (disch:=decide) only [Qaj,Qan,z0,z1,jd,jb,and_true,true_and,QaC,QaB,QaG]
 ·obtain ⟨h0,i4,i28⟩:=hI;have N2:=X5 hb e.vals[k] (by have:=h3 _ (Qau hk); omega);have hs:=VT (e.vals.take k) e.vals[k];rw [←Jm hk] at hs;have hjl:(zi (e.vals.take k)).length≤32 * 34:=by
   have:=Q1 (n:=32) (xs:=e.vals.take k) λx hx=>JH (Qaw.1 h0 x hx);have h7:(e.vals.take k).length≤32:=by rw [QaP]; omega
   have:=QaJ 34 h7;omega
  have hvl:=h3 _ (Qau hk);have tl:(e.vals.take k).length=k:=by rw [QaP]; omega
  rw [tl] at hs;have c3:((0:Int)<(k:Int))=(0<k):=by rw [eq_iff_iff]; omega
  (have zz:=@Qak.{0}; (repeat' (first | (apply jc <;> intro _) | simp (disch:=first | exact qE | fail) only [ja i4,ja i28,ja hi,ja hn,jca,N2,c3,Qak,je,jN,jR,jU,jq,rzZ,Qab,Qac,Qad,Qaa,Qae])); (all_goals (clear zz)))
  ·rename_i h;exact G0.tup2 (by rw [zT,if_neg (by rintro ⟨_,_,_,h6⟩; rw [Hf hk h] at h6; cases h6)]; rfl)
  ·rename_i h h8;refine ⟨⟨by rw [jbS hk,h0]; simp_all,?_⟩,?_⟩
   ·rw [hs,if_neg (by omega)];simp (disch:=decide) only [Qaj,Qan,z0,z1,jd,jb,and_true,true_and,i28,QaC,QaB,QaG]
   ·simp (disch:=decide) only [Qaj,Qan,z0,z1,jd,jb,and_true,true_and,hi,hn]
  ·rename_i h h8;refine ⟨⟨by rw [jbS hk,h0]; simp_all,?_⟩,?_⟩
   ·rw [hs,if_pos (by omega)];simp (disch:=decide) only [Qaj,Qan,z0,z1,jd,jb,and_true,true_and,i28,QaC,QaB,QaG]
   ·simp (disch:=decide) only [Qaj,Qan,z0,z1,jd,jb,and_true,true_and,hi,hn]
 ·obtain ⟨h0,i4,i28⟩:=hI;rw [QaK] at h0 i4;have hjl:(zi e.vals).length≤32 * 34:=by
   have:=Q1 (n:=32) (xs:=e.vals) λx hx=>JH (Qaw.1 h0 x hx);have:=QaJ 34 l2;omega
  (have zz:=@Qak.{0}; (repeat' (first | (apply jc <;> intro _) | simp (disch:=first | exact qE | fail) only [ja i4,ja i28,Qak,je,jN,jR,jU,jq,rzZ,Qab,Qac,Qad,Qaa,Qae])); (all_goals (clear zz)))
  exact G0.tup2 (by rw [zT,if_pos ⟨hn,l1,l2,h0⟩]; rfl)
end Go.Sy
end
noncomputable section
set_option maxRecDepth 100000
namespace Go.Sy
open Go.Ev Go.Proofs
variable {base:Bs}
def Qz (n:Int):Bool:=decide (-1000000≤n) && decide (n≤1000000)
def zQ (d:DeclT):Option (List Nat):=
 if d.ty=[] then (if Qz d.lo=true∧Qz d.hi=true then some (JQ d.lo ++ [46,46] ++ JQ d.hi) else none)
 else if d.lo=0∧d.hi=0∧(d.ty=[98,111,111,108]∨nm d.ty=true) then some d.ty else none
def Jh (xs:List Ex):List Nat:=xs.flatMap λx=>[32,61,32] ++ j9 x
def zV (d:DeclT):Option (List Nat):=match zQ d with
 | none=>none
 | some t=>if d.begins.length≤1∧nm d.name=true∧d.begins.all qZ=true then some ([118,97,114,32] ++ d.name ++ [32,58,32] ++ t ++ Jh d.begins ++ [59,10]) else none
theorem Ww {d:DeclT}(h:zQ d=none):zV d=none:=by unfold zV; rw [h]
theorem U5 {d:DeclT}{t:List Nat}(h:zQ d=some t):zV d=if d.begins.length≤1∧nm d.name=true∧d.begins.all qZ=true then some ([118,97,114,32] ++ d.name ++ [32,58,32] ++ t ++ Jh d.begins ++ [59,10]) else none:=by unfold zV; rw [h]
theorem qP {x:Ex}(h:qZ x=true):zJ x=true:=by
 unfold qZ at h;rw [JK] at h;simp only [Qas] at h;exact h.1.2
theorem jjI {xs:List Ex}(h:0<xs.length){st:St}{K:AV->St->Prop}:jf (zM 6 (.lptr (fl eE xs) 0) st) K=K (.agg (eE xs[0])) st:=by
 have:=GO (st:=st) (K:=K) h;rw [Qby] at this;exact this
set_option maxHeartbeats 1000000 in
theorem Kb (hb:NB base)(d:DeclT)(t:List Nat)(hw:zQ d=some t)(ht:t.length≤BIG)(h1:d.name.length≤BIG)(h2:∀ x∈d.begins,szE x≤BIG){L:Sl}{s:St}(i1:Has L 1 (.ptr 0 0))(i4:Has L 4 (.str ([118,97,114,32] ++ d.name ++ [32,58,32] ++ t)))(n0:1≤s.nx)(C0:Cl s 0 (qu d)) :
  xC Qaf base jen L s (Yv Qaf y55.res (Yg G0 (.ok (UA (zV d))))) λv _ s=>Yb G0 (.ok (UA (zV d))) v s.bare:=by
 have NM:=X5 hb d.name (by unfold BIG at *; omega);have c2:((1:Int)<(d.begins.length:Int))=(1<d.begins.length):=by rw [eq_iff_iff]; omega
 have hd:=U5 hw;unfold BIG at *;unfold jen y55;try dsimp only [oo,oO,ot,oT,os,og,oh,oc,on,oN,oP]
 (have zz:=C0.r; (repeat' (first | (apply jc <;> intro _) | simp (disch:=first | exact qE | fail) only [ja i1,ja i4,NM,c2,C0.q,C0.r,je,jN,jR,jU,jq,rzZ,Qab,Qac,Qad,Qaa,Qae])); (all_goals (clear zz)))
 ·exact G0.tup2 (by rw [hd,if_neg (by omega)]; rfl)
 ·rename_i h8 h;exact G0.tup2 (by rw [hd,if_neg (by rintro ⟨_,h6,_⟩; rw [h] at h6; cases h6)]; rfl)
 have hn:nm d.name=true:=by simp_all
 have l1:d.begins.length≤1:=by omega
 have hnl:=JH hn;refine qn d.begins.length (λk L s=>(d.begins.take k).all qZ=true∧Has L 1 (.ptr 0 0)∧Has L 4 (.str ([118,97,114,32] ++ d.name ++ [32,58,32] ++ t ++ Jh (d.begins.take k)))∧Has L 68 (.lst d.begins.length (fl eE d.begins))∧1≤s.nx) (by first | assumption | omega) (by decide) (by simp (disch:=decide) only [jd,jb]) (by simp (disch:=decide) only [jd,jb]) ?_ (λk L s v h=>by simp (disch:=decide) only [jb]; exact h) (λk L s v h=>by simp (disch:=decide) only [jb]; exact h) (λk L s hk hI hi hn=>?_) (λL s hI=>?_)
 ·refine ⟨rfl,?_⟩;rw [Qbm,show Jh []=[] from rfl,Qba];simp (disch:=decide) only [Qaj,Qan,z0,z1,jd,jb,and_true,true_and,i1,i4];exact n0
 ·obtain ⟨h0,i1,i4,i68,n0⟩:=hI;have hk0:k=0:=by omega
  subst hk0;have hi:Has L 70 (.int .i64 0):=hi;have hx:=h2 _ (Qau hk);have WR:=YV hb d.begins[0] hx;have TX:=λ(h:qZ d.begins[0]=true)=>uV hb d.begins[0] hx (qP h);have TL:=λ(h:qZ d.begins[0]=true)=>yR d.begins[0] (qP h);have hs:d.begins.take (0+1)=[d.begins[0]]:=Jm hk;rw [Qbm,show Jh []=[] from rfl,Qba] at i4;by_cases hwr:qZ d.begins[0]=true
  ·have TX:=TX hwr;have TL:=TL hwr;rw [hwr] at WR
   (have zz:=@Qak.{0}; (repeat' (first | (apply jc <;> intro _) | simp (disch:=first | exact qE | fail) only [ja i1,ja i4,ja i68,ja hi,ja hn,jjI hk,WR,TX,Qak,je,jN,jR,jU,jq,rzZ,Qab,Qac,Qad,Qaa,Qae])); (all_goals (clear zz)))
   refine ⟨⟨by rw [hs]; simp [hwr],?_⟩,?_⟩
   ·rw [hs,show Jh [d.begins[0]]=[32,61,32] ++ j9 d.begins[0] from by simp [Jh]];simp (disch:=decide) only [Qaj,Qan,z0,z1,jd,jb,and_true,true_and,i1,i68,QaC,QaB,QaG]
    (first | omega | (simp only [jg,jh,jk,jo,jm]; first | done | omega))
   ·simp (disch:=decide) only [Qaj,Qan,z0,z1,jd,jb,and_true,true_and,hi,hn]
  ·have hf:qZ d.begins[0]=false:=by simpa using hwr
   rw [hf] at WR
   (have zz:=@Qak.{0}; (repeat' (first | (apply jc <;> intro _) | simp (disch:=first | exact qE | fail) only [ja i1,ja i4,ja i68,ja hi,ja hn,jjI hk,WR,Qak,je,jN,jR,jU,jq,rzZ,Qab,Qac,Qad,Qaa,Qae])); (all_goals (clear zz)))
   exact G0.tup2 (by rw [hd,if_neg (by rintro ⟨_,_,h6⟩; rw [Hf hk hf] at h6; cases h6)]; rfl)
 ·obtain ⟨h0,i1,i4,i68,n0⟩:=hI;rw [QaK] at h0 i4;have bl:(Jh d.begins).length≤16 * 1099511627776+3:=by
   match hx:d.begins with
   | []=>simp [Jh]
   | [x]=>
    rw [hx] at h0 h2;have:=yR x (qP (by simpa using h0));have:=h2 x (by simp);simp [Jh]; omega
   | x :: y :: r=>rw [hx] at l1; simp at l1
  (have zz:=@Qak.{0}; (repeat' (first | (apply jc <;> intro _) | simp (disch:=first | exact qE | fail) only [ja i1,ja i4,Qak,je,jN,jR,jU,jq,rzZ,Qab,Qac,Qad,Qaa,Qae])); (all_goals (clear zz)))
  exact G0.tup2 (by rw [hd,if_pos ⟨l1,hn,h0⟩]; simp only [jcz,QaC,QaB,QaG])
set_option maxHeartbeats 1000000 in
theorem jhW (hb:NB base)(d:DeclT)(h1:d.name.length≤BIG)(h3:d.ty.length≤BIG)(h2:∀ x∈d.begins,szE x≤BIG):Tot base 55 [.agg (qu d)] (UA (zV d)):=by
 refine hb.tot ?_ (by first | rfl | simp [pa,pc,zn,vS,vk,vK,X3]) rfl;have NT:=X5 hb d.ty (by unfold BIG at *; omega);have S1:Tot base 96 [.int .i64 d.lo] (.bool (Qz d.lo)):=HR hb d.lo;have S2:Tot base 96 [.int .i64 d.hi] (.bool (Qz d.hi)):=HR hb d.hi;unfold BIG at *;by_cases ht:d.ty=[]
 ·by_cases hs:Qz d.lo=true∧Qz d.hi=true
  ·have e1:=hs.1;have e2:=hs.2;unfold Qz at e1 e2;simp only [Qas,decide_eq_true_eq] at e1 e2;have D1:=jbX hb d.lo (by omega) (by omega);have D2:=jbX hb d.hi (by omega) (by omega);have l1:=Zz e1.1 e1.2;have l2:=Zz e2.1 e2.2;have hw:zQ d=some (JQ d.lo ++ [46,46] ++ JQ d.hi):=by rw [zQ,if_pos ht,if_pos hs]
   rw [hs.1] at S1;rw [hs.2] at S2;refine jz x55 (by rfl) (hb.pur 55 1 (by decide)) ?_;simp only [y55,jj,Qai,Qam,Qag,Qah];unfold z55;try dsimp only [oo,oO,ot,oT,os,og,oh,oc,on,oN,oP]
   (have zz:=aI @Qak.{0} @yQ; (repeat' (first | (apply jc <;> intro _) | simp (disch:=first | exact qE | fail) only [ht,S1,S2,D1,D2,sm2,Qak,yQ,je,jN,jR,jU,jq,rzZ,Qab,Qac,Qad,Qaa,Qae])); (all_goals (clear zz)))
   refine Kb hb d _ hw (by simp [BIG]; omega) (by unfold BIG; omega) (by unfold BIG; exact h2) ?_ ?_ ?_ ?_
   ·simp (disch:=decide) only [Qaj,Qan,z0,z1,jd,jb,and_true,true_and]
   ·simp (disch:=decide) only [Qaj,Qan,z0,z1,jd,jb,and_true,true_and,QaC,QaB,QaG]
   ·(first | omega | (simp only [jg,jh,jk,jo,jm]; first | done | omega))
   ·first | exact Cl.new _ _ | (first | exact cyE | fail)
  ·have hw:zQ d=none:=by rw [zQ,if_pos ht,if_neg hs]
   refine jz x55 (by rfl) (hb.pur 55 1 (by decide)) ?_;simp only [y55,jj,Qai,Qam,Qag,Qah];unfold z55;try dsimp only [oo,oO,ot,oT,os,og,oh,oc,on,oN,oP]
   (have zz:=@Qak.{0}; (repeat' (first | (apply jc <;> intro _) | simp (disch:=first | exact qE | fail) only [ht,S1,S2,Qak,je,jN,jR,jU,jq,rzZ,Qab,Qac,Qad,Qaa,Qae])); (all_goals (clear zz)))
   all_goals first | (exact G0.tup2 (by rw [Ww hw]; rfl)) | (exfalso; simp_all; done)
 ·by_cases hs:d.lo=0∧d.hi=0∧(d.ty=[98,111,111,108]∨nm d.ty=true)
  ·have hw:zQ d=some d.ty:=by rw [zQ,if_neg ht,if_pos hs]
   obtain ⟨e1,e2,e3⟩:=hs;refine jz x55 (by rfl) (hb.pur 55 1 (by decide)) ?_;simp only [y55,jj,Qai,Qam,Qag,Qah];unfold z55;try dsimp only [oo,oO,ot,oT,os,og,oh,oc,on,oN,oP]
   (have zz:=@Qak.{0}; (repeat' (first | (apply jc <;> intro _) | simp (disch:=first | exact qE | fail) only [ht,e1,e2,NT,Qak,je,jN,jR,jU,jq,rzZ,Qab,Qac,Qad,Qaa,Qae])); (all_goals (clear zz)))
   all_goals first
    | (exfalso; simp_all; done)
    | (
     refine Kb hb d _ hw (by unfold BIG; omega) (by unfold BIG; omega) (by unfold BIG; exact h2) ?_ ?_ ?_ ?_
     ·simp (disch:=decide) only [Qaj,Qan,z0,z1,jd,jb,and_true,true_and]
     ·simp (disch:=decide) only [Qaj,Qan,z0,z1,jd,jb,and_true,true_and,QaC,QaB,QaG]
     ·(first | omega | (simp only [jg,jh,jk,jo,jm]; first | done | omega))
     ·first | exact Cl.new _ _ | (first | exact cyE | fail))
  ·have hw:zQ d=none:=by rw [zQ,if_neg ht,if_neg hs]
   refine jz x55 (by rfl) (hb.pur 55 1 (by decide)) ?_;simp only [y55,jj,Qai,Qam,Qag,Qah];unfold z55;try dsimp only [oo,oO,ot,oT,os,og,oh,oc,on,oN,oP]
   (have zz:=@Qak.{0}; (repeat' (first | (apply jc <;> intro _) | simp (disch:=first | exact qE | fail) only [ht,NT,Qak,je,jN,jR,jU,jq,rzZ,Qab,Qac,Qad,Qaa,Qae])); (all_goals (clear zz)))
   all_goals first | (exact G0.tup2 (by rw [Ww hw]; rfl)) | (exfalso; simp_all; done)
end Go.Sy
end
noncomputable section
set_option maxRecDepth 100000
namespace Go.Sy
open Go.Ev Go.Proofs
variable {base:Bs}
theorem jgd {b o:Nat}{cs:List AV}{h:T AO}(ho:o+6≤qq h b)(hv:rats h b o 6=cs)(hc:cs.all eqs=true):(jX Qaf 37 (.ptr b o) (.agg cs) h=true)=True:=eq_true (Zj Kz Ky (by decide) ho hv hc)
theorem gO {s:St}{cs:List AV}{b o k:Nat}(hb:b=s.nx)(h:o+k≤cs.length):rats (nw s cs).h b o k=(cs.drop o).take k:=by
 subst hb;exact (Cl.new s cs).ratsP k o h
theorem qY {s:St}{vs:List AV}{b o o' k:Nat}(h1:o'≤o)(h:o+k≤o'+vs.length):rats (wr s b o' vs).h b o k=(vs.drop (o - o')).take k:=by
 refine Zl (by simp; omega) λi hi=>?_;rw [WA (by omega) (by omega),QaF,QaF,QbJ,if_pos hi,Qcc,show o - o'+i=o+i - o' by omega]
def zy (a:AsT):List Nat:=a.name ++ [32,58,61,32] ++ j9 a.to
def wt (a:AsT):Bool:=nm a.name && qZ a.to
def zw (r:RuleT):Option (List Nat):=if qZ r.when=true∧1≤r.acts.length∧r.acts.length≤32∧r.acts.all wt=true then some ([32,32,119,104,101,110,32] ++ j9 r.when ++ [32,100,111,32] ++ zi (r.acts.map zy) ++ [59,10]) else none
def WL:Nat:=17592186044516
theorem Vb {a:AsT}(h:wt a=true)(h2:szE a.to≤BIG):(zy a).length≤WL:=by
 unfold wt at h;simp only [Qas] at h;have:=JH h.1;have:=yR a.to (qP h.2);unfold BIG at h2;unfold WL zy;simp only [Qak,Qal,Qap];omega
theorem uD:∀ (a b:Int) (nm:List Nat) (n:Nat) (cs:List AV) (l c:Int),([.int .i64 a,.int .i64 b,.str nm,.lst n cs,.int .i64 l,.int .i64 c]:List AV).all eqs=true:=λ_ _ _ _ _ _ _=>nr rfl
set_option maxHeartbeats 2000000 in
theorem jhP (hb:NB base)(r:RuleT)(h1:szE r.when≤BIG)(h2:r.acts.length≤BIG)(h3:∀ a∈r.acts,szE a.to≤BIG∧a.name.length≤BIG):Tot base 57 [.agg (ruE r)] (UA (zw r)):=by
 refine hb.tot ?_ (by first | rfl | simp [pa,pc,zn,vS,vk,vK,X3]) rfl;have c1:((r.acts.length:Int)<1)=(r.acts.length<1):=by rw [eq_iff_iff]; omega
 have c2:((32:Int)<(r.acts.length:Int))=(32<r.acts.length):=by rw [eq_iff_iff]; omega
 have WR:=YV hb r.when h1;by_cases hw:qZ r.when=true
 ·have TX:=uV hb r.when h1 (qP hw);have TL:=yR r.when (qP hw);rw [qH] at WR TX;rw [hw] at WR;unfold BIG at h1 h2;refine jz x57 (by rfl) (hb.pur 57 1 (by decide)) ?_;simp only [y57,jj,Qai,Qam,Qag,Qah];unfold z57;try dsimp only [oo,oO,ot,oT,os,og,oh,oc,on,oN,oP]
  (have zz:=@Qak.{0}; (repeat' (first | (apply jc <;> intro _) | simp (disch:=first | exact qE | fail) only [WR,TX,c1,c2,gO,Qak,je,jN,jR,jU,jq,rzZ,Qab,Qac,Qad,Qaa,Qae])); (all_goals (clear zz)))
  ·exact G0.tup2 (by rw [zw,if_neg (by omega)]; rfl)
  ·exact G0.tup2 (by rw [zw,if_neg (by omega)]; rfl)
  have l1:1≤r.acts.length:=by omega
  have l2:r.acts.length≤32:=by omega
  refine qn r.acts.length (λk L s=>(r.acts.take k).all wt=true∧Has L 4 (.str ([32,32,119,104,101,110,32] ++ j9 r.when ++ [32,100,111,32] ++ zi ((r.acts.take k).map zy)))∧Has L 29 (.lst r.acts.length (fl asE r.acts))∧1≤s.nx) (by first | assumption | omega) (by decide) (by simp (disch:=decide) only [jd,jb]) (by simp (disch:=decide) only [jd,jb]) ?_ (λk L s v h=>by simp (disch:=decide) only [jb]; exact h) (λk L s v h=>by simp (disch:=decide) only [jb]; exact h) (λk L s hk hI hi hn=>?_) (λL s hI=>?_)
  ·refine ⟨rfl,?_⟩;rw [Qbm,Qam,zi,Qba];simp (disch:=decide) only [Qaj,Qan,z0,z1,jd,jb,and_true,true_and,QaC,QaB,QaG]
   (first | omega | (simp only [jg,jh,jk,jo,jm]; first | done | omega))
  ·obtain ⟨h0,i4,i29,n0⟩:=hI;have hx:=h3 _ (Qau hk);have hin:r.acts[k]∈r.acts:=Qau hk;have hact:∀ a∈r.acts.take k,(zy a).length≤WL:=λa ha=>Vb (Qaw.1 h0 a ha) (h3 a (QbR ha)).1;have hbad:wt r.acts[k]=false->zw r=none:=λh=>by rw [zw,if_neg (by rintro ⟨_,_,_,h6⟩; rw [Hf hk h] at h6; cases h6)]
   have hgood:wt r.acts[k]=true->(r.acts.take (k+1)).all wt=true:=λh=>by rw [jbS hk,h0,h]; rfl
   have hs:=VT ((r.acts.take k).map zy) (zy r.acts[k]);have e9:(r.acts.take k).map zy ++ [zy r.acts[k]]=(r.acts.take (k+1)).map zy:=by rw [Jm hk,QbM]; rfl
   rw [e9] at hs;have tl:((r.acts.take k).map zy).length=k:=by rw [QaN,QaP]; omega
   rw [tl] at hs;have hjl:(zi ((r.acts.take k).map zy)).length≤32 * (WL+2):=by
    have:=Q1 (n:=WL) (xs:=(r.acts.take k).map zy) λx hx=>by
     obtain ⟨a,ha,rfl⟩:=Qbi.1 hx;exact hact a ha
    rw [tl] at this;have:=QaJ (WL+2) (show k≤32 by omega);omega
   clear hact e9 tl;have N2:=X5 hb r.acts[k].name (by have:=hx.2; unfold BIG at this; omega);have W2:=YV hb r.acts[k].to hx.1;have T2:=λ(h:qZ r.acts[k].to=true)=>uV hb r.acts[k].to hx.1 (qP h);have T3:=λ(h:qZ r.acts[k].to=true)=>yR r.acts[k].to (qP h);have hdef:wt r.acts[k]=(nm r.acts[k].name && qZ r.acts[k].to):=rfl;have hdw:zy r.acts[k]=r.acts[k].name ++ [32,58,61,32] ++ j9 r.acts[k].to:=rfl;have c3:((0:Int)<(k:Int))=(0<k):=by rw [eq_iff_iff]; omega
   obtain ⟨hx1,hx2⟩:=hx;unfold BIG WL at *;obtain ⟨a,ha⟩:∃ a,a=r.acts[k]:=⟨_,rfl⟩;rw [←ha] at hx1 hx2 hbad hgood hs N2 W2 T2 T3 hdef hdw;by_cases hnm:nm a.name=true
   ·have hnl:=JH hnm;rw [hnm] at N2;by_cases hwb:qZ a.to=true
    ·have T2:=T2 hwb;have T3:=T3 hwb;rw [qH] at W2 T2;rw [hwb] at W2;have hg:=hgood (by rw [hdef,hnm,hwb]; rfl);rw [hdw] at hs;by_cases hk0:k=0
     ·rw [if_pos hk0] at hs;have hk1:¬ 0<k:=by omega
      (have zz:=aI @qY (aI @Qak.{0} (aI @yP @uD)); (repeat' (first | (apply jc <;> intro _) | simp (disch:=first | exact qE | fail) only [ja i4,ja i29,ja hi,ja hn,N2,W2,T2,c3,hk1,←ha,qY,sm9,jgd,qY,Qak,yP,uD,je,jN,jR,jU,jq,rzZ,Qab,Qac,Qad,Qaa,Qae])); (all_goals (clear zz)))
      refine ⟨⟨hg,?_⟩,?_⟩
      ·rw [hs];simp (disch:=decide) only [Qaj,Qan,z0,z1,jd,jb,and_true,true_and,i29,QaC,QaB,QaG]
       (first | omega | (simp only [jg,jh,jk,jo,jm]; first | done | omega))
      ·simp (disch:=decide) only [Qaj,Qan,z0,z1,jd,jb,and_true,true_and,hi,hn]
     ·rw [if_neg hk0] at hs;have hk1:0<k:=by omega
      (have zz:=aI @qY (aI @Qak.{0} (aI @yP @uD)); (repeat' (first | (apply jc <;> intro _) | simp (disch:=first | exact qE | fail) only [ja i4,ja i29,ja hi,ja hn,N2,W2,T2,c3,hk1,←ha,qY,sm9,jgd,qY,Qak,yP,uD,je,jN,jR,jU,jq,rzZ,Qab,Qac,Qad,Qaa,Qae])); (all_goals (clear zz)))
      refine ⟨⟨hg,?_⟩,?_⟩
      ·rw [hs];simp (disch:=decide) only [Qaj,Qan,z0,z1,jd,jb,and_true,true_and,i29,QaC,QaB,QaG]
       (first | omega | (simp only [jg,jh,jk,jo,jm]; first | done | omega))
      ·simp (disch:=decide) only [Qaj,Qan,z0,z1,jd,jb,and_true,true_and,hi,hn]
    ·have hwf:qZ a.to=false:=by simpa using hwb
     rw [qH] at W2;rw [hwf] at W2;have hb9:=hbad (by rw [hdef,hwf]; simp)
     (have zz:=aI @qY (aI @Qak.{0} (aI @yP @uD)); (repeat' (first | (apply jc <;> intro _) | simp (disch:=first | exact qE | fail) only [ja i4,ja i29,ja hi,ja hn,N2,W2,←ha,qY,qY,Qak,yP,uD,je,jN,jR,jU,jq,rzZ,Qab,Qac,Qad,Qaa,Qae])); (all_goals (clear zz)))
     exact G0.tup2 (by rw [hb9]; rfl)
   ·have hnf:nm a.name=false:=by simpa using hnm
    rw [hnf] at N2;have hb9:=hbad (by rw [hdef,hnf]; rfl)
    (have zz:=aI @qY (aI @Qak.{0} (aI @yP @uD)); (repeat' (first | (apply jc <;> intro _) | simp (disch:=first | exact qE | fail) only [ja i4,ja i29,ja hi,ja hn,N2,←ha,qY,qY,Qak,yP,uD,je,jN,jR,jU,jq,rzZ,Qab,Qac,Qad,Qaa,Qae])); (all_goals (clear zz)))
    exact G0.tup2 (by rw [hb9]; rfl)
  ·obtain ⟨h0,i4,i29,n0⟩:=hI;rw [QaK] at h0 i4;have hjl:(zi (r.acts.map zy)).length≤32 * (WL+2):=by
    have:=Q1 (n:=WL) (xs:=r.acts.map zy) λx hx=>by
     obtain ⟨a,ha,rfl⟩:=Qbi.1 hx;exact Vb (Qaw.1 h0 a ha) (h3 a ha).1
    rw [QaN] at this;have:=QaJ (WL+2) l2;omega
   unfold WL at hjl
   (have zz:=@Qak.{0}; (repeat' (first | (apply jc <;> intro _) | simp (disch:=first | exact qE | fail) only [ja i4,ja i29,Qak,je,jN,jR,jU,jq,rzZ,Qab,Qac,Qad,Qaa,Qae])); (all_goals (clear zz)))
   exact G0.tup2 (by rw [zw,if_pos ⟨hw,l1,l2,h0⟩]; simp only [jcz,QaC,QaB,QaG])
 ·have hf:qZ r.when=false:=by simpa using hw
  rw [hf] at WR;rw [qH] at WR;refine jz x57 (by rfl) (hb.pur 57 1 (by decide)) ?_;simp only [y57,jj,Qai,Qam,Qag,Qah];unfold z57;try dsimp only [oo,oO,ot,oT,os,og,oh,oc,on,oN,oP]
  (have zz:=@Qak.{0}; (repeat' (first | (apply jc <;> intro _) | simp (disch:=first | exact qE | fail) only [WR,gO,Qak,je,jN,jR,jU,jq,rzZ,Qab,Qac,Qad,Qaa,Qae])); (all_goals (clear zz)))
  exact G0.tup2 (by rw [zw,if_neg (by rintro ⟨h6,_⟩; exact hw h6)]; rfl)
end Go.Sy
end
noncomputable section
set_option maxRecDepth 100000
namespace Go.Sy
open Go.Ev Go.Proofs
variable {base:Bs}
def qF:List (Option (List Nat))->Option (List Nat)
 | []=>some []
 | none :: _=>none
 | some a :: r=>(qF r).map (a ++ ·)
theorem jdX:∀ {xs:List (Option (List Nat))} {a b:List Nat},qF xs=some a->qF (xs ++ [some b])=some (a ++ b)
 | [],a,b,h=>by simp [qF] at h; subst h; simp [qF]
 | none :: r,a,b,h=>by simp [qF] at h
 | some c :: r,a,b,h=>by
  rw [qF] at h;cases hr:qF r with
  | none=>rw [hr] at h; simp at h
  | some d=>
   rw [hr] at h;simp at h;subst h;rw [QaB,qF,jdX hr];simp
theorem jdY:∀ {xs:List (Option (List Nat))},none∈xs->qF xs=none
 | [],h=>by simp at h
 | none :: r,_=>rfl
 | some c :: r,h=>by
  rw [qF,jdY (by simpa using h)]; rfl
theorem JE {n:Nat}:∀ {xs:List (Option (List Nat))} {a:List Nat},(∀ l,some l∈xs->l.length≤n)->qF xs=some a->a.length≤xs.length * n
 | [],a,_,h=>by simp [qF] at h; subst h; simp
 | none :: r,a,_,h=>by simp [qF] at h
 | some c :: r,a,hl,h=>by
  rw [qF] at h;cases hr:qF r with
  | none=>rw [hr] at h; simp at h
  | some d=>
   rw [hr] at h;simp at h;subst h;have:=JE (xs:=r) (λl h=>hl l (by simp [h])) hr;have:=hl c (by simp);rw [Qak,show (some c :: r).length=r.length+1 from rfl,Qbr];omega
theorem Z3 {α:Type}{f:α->Option (List Nat)}{xs:List α}{k:Nat}(h:k<xs.length){a b:List Nat}(h1:qF ((xs.take k).map f)=some a)(h2:f xs[k]=some b):qF ((xs.take (k+1)).map f)=some (a ++ b):=by
 rw [Jm h,QbM,Qai,Qam,h2];exact jdX h1
theorem vN {α:Type}{f:α->Option (List Nat)}{xs:List α}{k:Nat}(h:k<xs.length)(h2:f xs[k]=none):qF (xs.map f)=none:=jdY (by rw [←h2]; exact List.mem_map_of_mem (Qau h))
theorem uH {e:EnumT}{l:List Nat}(h:zT e=some l):l.length≤2000:=by
 unfold zT at h;split at h
 ·rename_i hh;simp only [Option.some.injEq] at h;subst h;have:=JH hh.1;have:=Q1 (n:=32) (xs:=e.vals) λx hx=>JH (Qaw.1 hh.2.2.2 x hx);have:=QaJ 34 hh.2.2.1;simp only [Qak,Qal,Qap];omega
 ·cases h
theorem jcx {d:DeclT}{t:List Nat}(h:zQ d=some t):t.length≤32:=by
 unfold zQ at h;split at h
 ·split at h
  ·rename_i hh;simp only [Option.some.injEq] at h;subst h;obtain ⟨e1,e2⟩:=hh;unfold Qz at e1 e2;simp only [Qas,decide_eq_true_eq] at e1 e2;have l1:=Zz e1.1 e1.2;have l2:=Zz e2.1 e2.2;simp only [Qak,Qal,Qap];omega
  ·cases h
 ·split at h
  ·rename_i hh;simp only [Option.some.injEq] at h;subst h;rcases hh.2.2 with h | h
   ·rw [h]; decide
   ·exact JH h
  ·cases h
theorem uL {d:DeclT}{l:List Nat}(h:zV d=some l)(h2:∀ x∈d.begins,szE x≤BIG):l.length≤WL:=by
 cases ht:zQ d with
 | none=>rw [Ww ht] at h; cases h
 | some t=>
  rw [U5 ht] at h;have tl:=jcx ht;split at h
  ·rename_i hh;simp only [Option.some.injEq] at h;subst h;have:=JH hh.2.1;have bl:(Jh d.begins).length≤16 * BIG+3:=by
    match hx:d.begins with
    | []=>simp [Jh]
    | [x]=>
     rw [hx] at hh h2;have:=yR x (qP (by simpa using hh.2.2));have:=h2 x (by simp);simp [Jh]; omega
    | x :: y :: r=>rw [hx] at hh; simp at hh
   unfold BIG at bl;unfold WL;simp only [Qak,Qal,Qap];omega
  ·cases h
structure WrR (r:RuleT):Prop where
 when:szE r.when≤BIG
 acts:r.acts.length≤BIG
 to:∀ a∈r.acts,szE a.to≤BIG∧a.name.length≤BIG
structure WrS (m:SrcT):Prop where
 enums:m.enums.length≤BIG
 en:∀ e∈m.enums,e.name.length≤BIG∧e.vals.length≤BIG∧∀ v∈e.vals,v.length≤BIG
 vars:m.vars.length≤BIG
 de:∀ d∈m.vars,d.name.length≤BIG∧d.ty.length≤BIG∧d.begins.length≤BIG∧∀ x∈d.begins,szE x≤BIG
 procs:m.procs.length≤BIG
 pr:∀ p∈m.procs,p.name.length≤BIG∧p.rules.length≤BIG∧∀ r∈p.rules,WrR r
def RL:Nat:=33 * (WL+2)
theorem ZK {r:RuleT}{l:List Nat}(h:zw r=some l)(w:WrR r):l.length≤RL:=by
 unfold zw at h;split at h
 ·rename_i hh;simp only [Option.some.injEq] at h;subst h;have h1:=yR r.when (qP hh.1);have h2:=w.when;have:=Q1 (n:=WL) (xs:=r.acts.map zy) λx hx=>by
   obtain ⟨a,ha,rfl⟩:=Qbi.1 hx;exact Vb (Qaw.1 hh.2.2.2 a ha) (w.to a ha).1
  rw [QaN] at this;have:=QaJ (WL+2) hh.2.2.1;unfold RL;unfold BIG at h2;unfold WL at *;simp only [Qak,Qal,Qap];omega
 ·cases h
def Jb (p:ProcT):Option (List Nat):=if nm p.name=true∧p.rules.length≤32 then (match qF (p.rules.map zw) with | some t=>some ([112,114,111,99,101,115,115,32] ++ p.name ++ [32,123,10] ++ t ++ [125,10]) | none=>none) else none
def PRL:Nat:=33 * RL
theorem jc4 {p:ProcT}{l:List Nat}(h:Jb p=some l)(w:∀ r∈p.rules,WrR r):l.length≤PRL:=by
 unfold Jb at h;split at h
 ·rename_i hh;cases hc:qF (p.rules.map zw) with
  | none=>rw [hc] at h; cases h
  | some t=>
   rw [hc] at h;simp only [Option.some.injEq] at h;subst h;have:=JH hh.1;have h3:=JE (n:=RL) (λl hl=>by
    obtain ⟨r,hr,he⟩:=Qbi.1 hl;exact ZK he (w r hr)) hc
   rw [QaN] at h3;have:=QaJ RL hh.2;unfold PRL;have:1000≤RL:=by unfold RL WL; omega
   simp only [Qak,Qal,Qap];omega
 ·cases h
def JO (m:SrcT):Option (List Nat):=
 if m.enums.length≤32∧m.vars.length≤32∧m.procs.length≤32 then (match qF (m.enums.map zT),qF (m.vars.map zV),qF (m.procs.map Jb) with
  | some a,some b,some c=>some (a ++ b ++ c)
  | _,_,_=>none) else none
theorem jjd {m:SrcT}(h:qF (m.enums.map zT)=none):JO m=none:=by unfold JO; rw [h]; split <;> rfl
theorem jja {m:SrcT}(h:qF (m.vars.map zV)=none):JO m=none:=by unfold JO; rw [h]; split <;> (try split) <;> first | rfl | (rename_i h2 _ _ _; simp at *)
theorem jjb {m:SrcT}(h:qF (m.procs.map Jb)=none):JO m=none:=by unfold JO; rw [h]; split <;> (try split) <;> first | rfl | (simp at *)
theorem jjc {m:SrcT}{a b c:List Nat}(h0:m.enums.length≤32∧m.vars.length≤32∧m.procs.length≤32)(h1:qF (m.enums.map zT)=some a)(h2:qF (m.vars.map zV)=some b)(h3:qF (m.procs.map Jb)=some c):JO m=some (a ++ b ++ c):=by
 unfold JO; rw [if_pos h0,h1,h2,h3]
def jaQ (o:Option (List Nat)):AV:=.tup [.str (o.getD []),.int .i64 (if o.isSome=true then 0 else 141)]
theorem G0.tupw {s:St}{a:List Nat}{n:Int}{u:AV}(h:u=.tup [.str a,.int .i64 n]):G0 u (.tup [.str a,.int .i64 n]) s:=by
 subst h;exact FzD.tup (.cons (.pc rfl) (.cons (.pc rfl) .nil))
end Go.Sy
end
noncomputable section
set_option maxRecDepth 100000
namespace Go.Sy
open Go.Ev Go.Proofs
variable {base:Bs}
set_option maxHeartbeats 4000000 in
theorem jec (hb:NB base)(m:SrcT)(w:WrS m):Tot base 18 [.agg (srE m)] (jaQ (JO m)):=by
 refine hb.tot ?_ (by first | rfl | simp [pa,pc,zn,vS,vk,vK,X3,KN,KA]) rfl;have we:=w.enums;have wv:=w.vars;have wp:=w.procs;have c1:((32:Int)<(m.enums.length:Int))=(32<m.enums.length):=by rw [eq_iff_iff]; omega
 have c2:((32:Int)<(m.vars.length:Int))=(32<m.vars.length):=by rw [eq_iff_iff]; omega
 have c3:((32:Int)<(m.procs.length:Int))=(32<m.procs.length):=by rw [eq_iff_iff]; omega
 unfold BIG at we wv wp;have hbad:∀ s:St,JO m=none->G0 (jaQ (JO m)) (.tup [.str [],.int .i64 141]) s:=λs h=>G0.tupw (by rw [h]; rfl);refine jz x18 (by rfl) (hb.pur 18 1 (by decide)) ?_;simp only [y18,jj,Qai,Qam,Qag,Qah];unfold z18;try dsimp only [oo,oO,ot,oT,os,og,oh,oc,on,oN,oP]
 repeat' (first | (apply jc <;> intro _) | simp (disch:=first | exact dzE | fail) only [c1,c2,c3,je,jN,jR,jU,jq,qc,qb,rzZ,Qab,Qac,Qad,Qaa,Qae])
 ·exact hbad _ (by rw [JO,if_neg (by omega)])
 ·exact hbad _ (by rw [JO,if_neg (by omega)])
 ·exact hbad _ (by rw [JO,if_neg (by omega)])
 have l1:m.enums.length≤32:=by omega
 have l2:m.vars.length≤32:=by omega
 have l3:m.procs.length≤32:=by omega
 clear c1 c2 c3;refine qn m.enums.length (λk L s=>∃ a,qF ((m.enums.take k).map zT)=some a∧Has L 1 (.ptr 0 0)∧Has L 4 (.str a)∧Has L 36 (.lst m.enums.length (fl enE m.enums))∧1≤s.nx∧Cl s 0 (srE m)) (by first | assumption | omega) (by decide) (by simp (disch:=decide) only [jd,jb]) (by simp (disch:=decide) only [jd,jb]) ?_ (λk L s v h=>by simp (disch:=decide) only [jb]; exact h) (λk L s v h=>by simp (disch:=decide) only [jb]; exact h) (λk L s hk hI hi hn=>?_) (λL s hI=>?_)
 ·refine ⟨[],rfl,?_⟩;simp (disch:=decide) only [Qaj,Qan,z0,z1,jd,jb,and_true,true_and];exact ⟨by (first | omega | (simp only [jg,jh,jk,jo,jm]; first | done | omega)),by first | exact Cl.new _ _ | (first | exact cyE | fail)⟩
 ·obtain ⟨a,ha,i1,i4,iL,n0,C0⟩:=hI;obtain ⟨w1,w2,w3⟩:=w.en _ (Qau hk);have E:=jhU hb m.enums[k] w1 w2 w3;have al:a.length≤32 * 2000:=by
   have:=JE (n:=2000) (λl hl=>by
    obtain ⟨e,_,he⟩:=Qbi.1 hl;exact uH he) ha
   rw [QaN,QaP] at this;have:=QaJ 2000 (show min k m.enums.length≤32 by omega);omega
  have good:=λb=>@Z3 _ zT m.enums k hk a b ha;have bad:=@vN _ zT m.enums k hk;have el:=@uH m.enums[k];cases ho:zT m.enums[k] with
  | none=>
   rw [ho] at E;have E:Tot base 54 [.agg (enE m.enums[k])] (.tup [.str [],.bool false]):=E
   (have zz:=aI @Qak.{0} C0.r; (repeat' (first | (apply jc <;> intro _) | simp (disch:=first | exact qE | fail) only [ja i1,ja i4,ja iL,ja hi,ja hn,E,C0.q,Qak,C0.r,je,jN,jR,jU,jq,qc,qb,rzZ,Qab,Qac,Qad,Qaa,Qae])); (all_goals (clear zz)))
   exact hbad _ (jjd (bad ho))
  | some b=>
   rw [ho] at E;have E:Tot base 54 [.agg (enE m.enums[k])] (.tup [.str b,.bool true]):=E;have bl:=el ho
   (have zz:=aI @Qak.{0} C0.r; (repeat' (first | (apply jc <;> intro _) | simp (disch:=first | exact qE | fail) only [ja i1,ja i4,ja iL,ja hi,ja hn,E,C0.q,Qak,C0.r,je,jN,jR,jU,jq,qc,qb,rzZ,Qab,Qac,Qad,Qaa,Qae])); (all_goals (clear zz)))
   refine ⟨⟨a ++ b,good b ho,?_⟩,?_⟩
   ·simp (disch:=decide) only [Qaj,Qan,z0,z1,jd,jb,and_true,true_and,i1,iL];exact ⟨by (first | omega | (simp only [jg,jh,jk,jo,jm]; first | done | omega)),by (first | exact C0 | (simp (disch:=first | assumption | decide | (first | omega | (simp only [jg,jh,jk,jo,jm]; first | done | omega))) only [jE,jG,jD,qv,jP,jQ,j6,j3]; exact C0))⟩
   ·simp (disch:=decide) only [Qaj,Qan,z0,z1,jd,jb,and_true,true_and,hi,hn]
 ·obtain ⟨a,ha,i1,i4,iL,n0,C0⟩:=hI;rw [QaK] at ha;have al:a.length≤32 * 2000:=by
   have:=JE (n:=2000) (λl hl=>by
    obtain ⟨e,_,he⟩:=Qbi.1 hl;exact uH he) ha
   rw [QaN] at this;have:=QaJ 2000 l1;omega
  (have zz:=C0.r; (repeat' (first | (apply jc <;> intro _) | simp (disch:=first | exact qE | fail) only [ja i1,ja i4,ja iL,C0.q,C0.r,je,jN,jR,jU,jq,qc,qb,rzZ,Qab,Qac,Qad,Qaa,Qae])); (all_goals (clear zz)))
  refine qn m.vars.length (λk L s=>∃ b,qF ((m.vars.take k).map zV)=some b∧Has L 1 (.ptr 0 0)∧Has L 4 (.str (a ++ b))∧Has L 54 (.lst m.vars.length (fl qu m.vars))∧1≤s.nx∧Cl s 0 (srE m)) (by first | assumption | omega) (by decide) (by simp (disch:=decide) only [jd,jb]) (by simp (disch:=decide) only [jd,jb]) ?_ (λk L s v h=>by simp (disch:=decide) only [jb]; exact h) (λk L s v h=>by simp (disch:=decide) only [jb]; exact h) (λk L s hk hI hi hn=>?_) (λL s hI=>?_)
  ·refine ⟨[],rfl,?_⟩;simp (disch:=decide) only [Qaj,Qan,z0,z1,jd,jb,and_true,true_and,i1,i4,Qba];exact ⟨n0,C0⟩
  ·clear i1 i4 iL n0 C0;obtain ⟨b,hb2,i1,i4,iL,n0,C0⟩:=hI;obtain ⟨w1,w2,_,w3⟩:=w.de _ (Qau hk);have E:=jhW hb m.vars[k] w1 w2 w3;have bl:b.length≤32 * WL:=by
    have:=JE (n:=WL) (λl hl=>by
     obtain ⟨e,he1,he⟩:=Qbi.1 hl;exact uL he (w.de e (QbR he1)).2.2.2) hb2
    rw [QaN,QaP] at this;have:=QaJ WL (show min k m.vars.length≤32 by omega);omega
   have good:=λc=>@Z3 _ zV m.vars k hk b c hb2;have bad:=@vN _ zV m.vars k hk;have el:=λl (h:zV m.vars[k]=some l)=>uL h w3;unfold WL at *;cases ho:zV m.vars[k] with
   | none=>
    rw [ho] at E;have E:Tot base 55 [.agg (qu m.vars[k])] (.tup [.str [],.bool false]):=E
    (have zz:=aI @Qak.{0} C0.r; (repeat' (first | (apply jc <;> intro _) | simp (disch:=first | exact qE | fail) only [ja i1,ja i4,ja iL,ja hi,ja hn,E,C0.q,Qak,C0.r,je,jN,jR,jU,jq,qc,qb,rzZ,Qab,Qac,Qad,Qaa,Qae])); (all_goals (clear zz)))
    exact hbad _ (jja (bad ho))
   | some c=>
    rw [ho] at E;have E:Tot base 55 [.agg (qu m.vars[k])] (.tup [.str c,.bool true]):=E;have cl:=el _ ho
    (have zz:=aI @Qak.{0} C0.r; (repeat' (first | (apply jc <;> intro _) | simp (disch:=first | exact qE | fail) only [ja i1,ja i4,ja iL,ja hi,ja hn,E,C0.q,Qak,C0.r,je,jN,jR,jU,jq,qc,qb,rzZ,Qab,Qac,Qad,Qaa,Qae])); (all_goals (clear zz)))
    refine ⟨⟨b ++ c,good c ho,?_⟩,?_⟩
    ·simp (disch:=decide) only [Qaj,Qan,z0,z1,jd,jb,and_true,true_and,i1,iL,QaC];exact ⟨by (first | omega | (simp only [jg,jh,jk,jo,jm]; first | done | omega)),by (first | exact C0 | (simp (disch:=first | assumption | decide | (first | omega | (simp only [jg,jh,jk,jo,jm]; first | done | omega))) only [jE,jG,jD,qv,jP,jQ,j6,j3]; exact C0))⟩
    ·simp (disch:=decide) only [Qaj,Qan,z0,z1,jd,jb,and_true,true_and,hi,hn]
  ·clear i1 i4 iL n0 C0;obtain ⟨b,hb2,i1,i4,iL,n0,C0⟩:=hI;rw [QaK] at hb2;have bl:b.length≤32 * WL:=by
    have:=JE (n:=WL) (λl hl=>by
     obtain ⟨e,he1,he⟩:=Qbi.1 hl;exact uL he (w.de e he1).2.2.2) hb2
    rw [QaN] at this;have:=QaJ WL l2;omega
   (have zz:=C0.r; (repeat' (first | (apply jc <;> intro _) | simp (disch:=first | exact qE | fail) only [ja i1,ja i4,ja iL,C0.q,C0.r,je,jN,jR,jU,jq,qc,qb,rzZ,Qab,Qac,Qad,Qaa,Qae])); (all_goals (clear zz)))
   refine qn m.procs.length (λk L s=>∃ c,qF ((m.procs.take k).map Jb)=some c∧Has L 1 (.ptr 0 0)∧Has L 4 (.str (a ++ b ++ c))∧Has L 72 (.lst m.procs.length (fl prE m.procs))∧1≤s.nx) (by first | assumption | omega) (by decide) (by simp (disch:=decide) only [jd,jb]) (by simp (disch:=decide) only [jd,jb]) ?_ (λk L s v h=>by simp (disch:=decide) only [jb]; exact h) (λk L s v h=>by simp (disch:=decide) only [jb]; exact h) (λko Lo so hko hIo hio hno=>?_) (λLo so hIo=>?_)
   ·refine ⟨[],rfl,?_⟩;simp (disch:=decide) only [Qaj,Qan,z0,z1,jd,jb,and_true,true_and,i1,i4,Qba];exact n0
   ·clear i1 i4 iL n0 C0;obtain ⟨c,hc,i1,i4,iL,n0⟩:=hIo;obtain ⟨w1,w2,w3⟩:=w.pr _ (Qau hko);have NM:=X5 hb m.procs[ko].name (by unfold BIG at *; omega);have cl:c.length≤32 * PRL:=by
     have:=JE (n:=PRL) (λl hl=>by
      obtain ⟨e,he1,he⟩:=Qbi.1 hl;exact jc4 he (w.pr e (QbR he1)).2.2) hc
     rw [QaN,QaP] at this;have:=QaJ PRL (show min ko m.procs.length≤32 by omega);omega
    have good:=λd=>@Z3 _ Jb m.procs ko hko c d hc;have bad:=λh=>jjb (@vN _ Jb m.procs ko hko h);obtain ⟨x,hx⟩:∃ x,x=m.procs[ko]:=⟨_,rfl⟩;rw [←hx] at good bad w1 w2 w3 NM;have pb:Jb x=none->∀ s:St,G0 (jaQ (JO m)) (.tup [.str [],.int .i64 141]) s:=λh s=>hbad s (bad h);have c4:((32:Int)<(x.rules.length:Int))=(32<x.rules.length):=by rw [eq_iff_iff]; omega
    have WLv:WL=17592186044516:=rfl;have RLv:RL=33 * (WL+2):=rfl;have PLv:PRL=33 * RL:=rfl;unfold BIG at w1 w2;by_cases hnm:nm x.name=true
    ·have hnl:=JH hnm;rw [hnm] at NM
     (have zz:=@Qak.{0}; (repeat' (first | (apply jc <;> intro _) | simp (disch:=first | exact qE | fail) only [ja i1,ja i4,ja iL,ja hio,ja hno,NM,c4,←hx,Qak,je,jN,jR,jU,jq,qc,qb,rzZ,Qab,Qac,Qad,Qaa,Qae])); (all_goals (clear zz)))
     ·exact pb (by rw [Jb,if_neg (by omega)]) _
     have l5:x.rules.length≤32:=by omega
     refine qn x.rules.length (λj L s=>∃ t,qF ((x.rules.take j).map zw)=some t∧Has L 1 (.ptr 0 0)∧Has L 4 (.str (a ++ b ++ c ++ ([112,114,111,99,101,115,115,32] ++ x.name ++ [32,123,10] ++ t)))∧Has L 72 (.lst m.procs.length (fl prE m.procs))∧Has L 73 (.int .i64 (m.procs.length:Int))∧Has L 74 (.int .i64 (ko:Int))∧Has L 95 (.lst x.rules.length (fl ruE x.rules))∧1≤s.nx) (by first | assumption | omega) (by decide) (by simp (disch:=decide) only [jd,jb]) (by simp (disch:=decide) only [jd,jb]) ?_ (λk L s v h=>by simp (disch:=decide) only [jb]; exact h) (λk L s v h=>by simp (disch:=decide) only [jb]; exact h) (λk L s hk hI hi hn=>?_) (λL s hI=>?_)
     ·refine ⟨[],rfl,?_⟩;simp (disch:=decide) only [Qaj,Qan,z0,z1,jd,jb,and_true,true_and,i1,i4,iL,hno,hio,Qba,QaC,QaB,QaG]
      (first | omega | (simp only [jg,jh,jk,jo,jm]; first | done | omega))
     ·clear i1 i4 iL n0 hio hno;obtain ⟨t,ht,i1,i4,iL,hno,hio,i95,n0⟩:=hI;have wr:=w3 _ (Qau hk);have E:=jhP hb x.rules[k] wr.when wr.acts wr.to;have tl:t.length≤32 * RL:=by
       have:=JE (n:=RL) (λl hl=>by
        obtain ⟨e,he1,he⟩:=Qbi.1 hl;exact ZK he (w3 e (QbR he1))) ht
       rw [QaN,QaP] at this;have:=QaJ RL (show min k x.rules.length≤32 by omega);omega
      have good2:=λd=>@Z3 _ zw x.rules k hk t d ht;have bad2:=@vN _ zw x.rules k hk;have el:=λl (h:zw x.rules[k]=some l)=>ZK h wr;cases ho:zw x.rules[k] with
      | none=>
       rw [ho] at E;have E:Tot base 57 [.agg (ruE x.rules[k])] (.tup [.str [],.bool false]):=E
       (have zz:=@Qak.{0}; (repeat' (first | (apply jc <;> intro _) | simp (disch:=first | exact qE | fail) only [ja i1,ja i4,ja iL,ja i95,ja hi,ja hn,E,Qak,je,jN,jR,jU,jq,qc,qb,rzZ,Qab,Qac,Qad,Qaa,Qae])); (all_goals (clear zz)))
       exact pb (by rw [Jb,if_pos ⟨hnm,l5⟩,bad2 ho]) _
      | some d=>
       rw [ho] at E;have E:Tot base 57 [.agg (ruE x.rules[k])] (.tup [.str d,.bool true]):=E;have dl:=el _ ho
       (have zz:=@Qak.{0}; (repeat' (first | (apply jc <;> intro _) | simp (disch:=first | exact qE | fail) only [ja i1,ja i4,ja iL,ja i95,ja hi,ja hn,E,Qak,je,jN,jR,jU,jq,qc,qb,rzZ,Qab,Qac,Qad,Qaa,Qae])); (all_goals (clear zz)))
       refine ⟨⟨t ++ d,good2 d ho,?_⟩,?_⟩
       ·simp (disch:=decide) only [Qaj,Qan,z0,z1,jd,jb,and_true,true_and,i1,iL,hno,hio,i95,QaC,QaB,QaG]
        (first | omega | (simp only [jg,jh,jk,jo,jm]; first | done | omega))
       ·simp (disch:=decide) only [Qaj,Qan,z0,z1,jd,jb,and_true,true_and,hi,hn]
     ·clear i1 i4 iL n0 hio hno;obtain ⟨t,ht,i1,i4,iL,hno,hio,i95,n0⟩:=hI;rw [QaK] at ht;have tl:t.length≤32 * RL:=by
       have:=JE (n:=RL) (λl hl=>by
        obtain ⟨e,he1,he⟩:=Qbi.1 hl;exact ZK he (w3 e he1)) ht
       rw [QaN] at this;have:=QaJ RL l5;omega
      have hpw:Jb x=some ([112,114,111,99,101,115,115,32] ++ x.name ++ [32,123,10] ++ t ++ [125,10]):=by rw [Jb,if_pos ⟨hnm,l5⟩,ht]
      (have zz:=@Qak.{0}; (repeat' (first | (apply jc <;> intro _) | simp (disch:=first | exact qE | fail) only [ja i1,ja i4,ja iL,Qak,je,jN,jR,jU,jq,qc,qb,rzZ,Qab,Qac,Qad,Qaa,Qae])); (all_goals (clear zz)))
      refine ⟨⟨_,good _ hpw,?_⟩,?_⟩
      ·simp (disch:=decide) only [Qaj,Qan,z0,z1,jd,jb,and_true,true_and,i1,iL,QaC,QaB,QaG]
       (first | omega | (simp only [jg,jh,jk,jo,jm]; first | done | omega))
      ·simp (disch:=decide) only [Qaj,Qan,z0,z1,jd,jb,and_true,true_and,hio,hno]
    ·have hnf:nm x.name=false:=by simpa using hnm
     rw [hnf] at NM
     (have zz:=@Qak.{0}; (repeat' (first | (apply jc <;> intro _) | simp (disch:=first | exact qE | fail) only [ja i1,ja i4,ja iL,ja hio,ja hno,NM,←hx,Qak,je,jN,jR,jU,jq,qc,qb,rzZ,Qab,Qac,Qad,Qaa,Qae])); (all_goals (clear zz)))
     exact pb (by rw [Jb,if_neg (by rintro ⟨h6,_⟩; exact hnm h6)]) _
   ·clear i1 i4 iL n0 C0;obtain ⟨c,hc,i1,i4,iL,n0⟩:=hIo;rw [QaK] at hc;repeat' (first | (apply jc <;> intro _) | simp (disch:=first | exact dzE | fail) only [ja i1,ja i4,je,jN,jR,jU,jq,qc,qb,rzZ,Qab,Qac,Qad,Qaa,Qae])
    exact G0.tupw (by rw [jjc ⟨l1,l2,l3⟩ ha hb2 hc]; rfl)
end Go.Sy
end
noncomputable section
set_option maxRecDepth 100000
namespace Go.Sy
open Go.Ev Go.Proofs
variable {base:Bs}
def zU (x:Ex):Bool:=decide (30<qI x)
def ZW (d:DeclT):Bool:=d.begins.any zU
def YO (r:RuleT):Bool:=zU r.when || r.acts.any λa=>zU a.to
def YP (p:ProcT):Bool:=p.rules.any YO
def JT (m:SrcT):Bool:=m.vars.any ZW || m.procs.any YP
theorem uU {α:Type}{p:α->Bool}{xs:List α}{k:Nat}(h:k<xs.length)(h2:p xs[k]=true):xs.any p=true:=List.any_eq_true.2 ⟨_,Qau h,h2⟩
theorem Uo {α:Type}{p:α->Bool}{xs:List α}{k:Nat}(h:k<xs.length):(xs.take (k+1)).any p=((xs.take k).any p || p xs[k]):=by
 rw [Jm h,List.any_append]; simp
set_option maxHeartbeats 4000000 in
theorem jhV (hb:NB base)(m:SrcT)(w:WrS m):Tot base 19 [.agg (srE m)] (.bool (JT m)):=by
 refine hb.tot ?_ (by first | rfl | simp [pa,pc,zn,vS,vk,vK,X3,KN,KA]) rfl;have wv:=w.vars;have wp:=w.procs;unfold BIG at wv wp;refine jz x19 (by rfl) (hb.pur 19 1 (by decide)) ?_;simp only [y19,jj,Qai,Qam,Qag,Qah];unfold z19;try dsimp only [oo,oO,ot,oT,os,og,oh,oc,on,oN,oP]
 repeat' (first | (apply jc <;> intro _) | simp (disch:=first | exact dzE | fail) only [je,jN,jR,jU,jq,qc,qb,rzZ,Qab,Qac,Qad,Qaa,Qae])
 refine qn m.vars.length (λk L s=>(m.vars.take k).any ZW=false∧Has L 1 (.ptr 0 0)∧Has L 14 (.lst m.vars.length (fl qu m.vars))∧1≤s.nx∧Cl s 0 (srE m)) (by first | assumption | omega) (by decide) (by simp (disch:=decide) only [jd,jb]) (by simp (disch:=decide) only [jd,jb]) ?_ (λk L s v h=>by simp (disch:=decide) only [jb]; exact h) (λk L s v h=>by simp (disch:=decide) only [jb]; exact h) (λko Lo so hko hIo hio hno=>?_) (λLo so hIo=>?_)
 ·refine ⟨rfl,?_⟩;simp (disch:=decide) only [Qaj,Qan,z0,z1,jd,jb,and_true,true_and];exact ⟨by (first | omega | (simp only [jg,jh,jk,jo,jm]; first | done | omega)),by first | exact Cl.new _ _ | (first | exact cyE | fail)⟩
 ·obtain ⟨h0,i1,iL,n0,C0⟩:=hIo;obtain ⟨_,_,w2,w3⟩:=w.de _ (Qau hko);have bad:ZW m.vars[ko]=true->JT m=true:=λh=>by rw [JT,uU hko h]; rfl
  have good:ZW m.vars[ko]=false->(m.vars.take (ko+1)).any ZW=false:=λh=>by rw [Uo hko,h0,h]; rfl
  obtain ⟨x,hx⟩:∃ x,x=m.vars[ko]:=⟨_,rfl⟩;rw [←hx] at bad good w2 w3;have hd:ZW x=x.begins.any zU:=rfl;have w2':=w2;unfold BIG at w2'
  (have zz:=C0.r; (repeat' (first | (apply jc <;> intro _) | simp (disch:=first | exact qE | fail) only [ja i1,ja iL,ja hio,ja hno,←hx,C0.q,C0.r,je,jN,jR,jU,jq,qc,qb,rzZ,Qab,Qac,Qad,Qaa,Qae])); (all_goals (clear zz)))
  refine qn x.begins.length (λk L s=>(x.begins.take k).any zU=false∧Has L 1 (.ptr 0 0)∧Has L 14 (.lst m.vars.length (fl qu m.vars))∧Has L 15 (.int .i64 (m.vars.length:Int))∧Has L 16 (.int .i64 (ko:Int))∧Has L 21 (.lst x.begins.length (fl eE x.begins))∧1≤s.nx∧Cl s 0 (srE m)) (by first | assumption | omega) (by decide) (by simp (disch:=decide) only [jd,jb]) (by simp (disch:=decide) only [jd,jb]) ?_ (λk L s v h=>by simp (disch:=decide) only [jb]; exact h) (λk L s v h=>by simp (disch:=decide) only [jb]; exact h) (λk L s hk hI hi hn=>?_) (λL s hI=>?_)
  ·refine ⟨rfl,?_⟩;simp (disch:=decide) only [Qaj,Qan,z0,z1,jd,jb,and_true,true_and,i1,iL,hio,hno];exact ⟨by (first | omega | (simp only [jg,jh,jk,jo,jm]; first | done | omega)),by (first | exact C0 | (simp (disch:=first | assumption | decide | (first | omega | (simp only [jg,jh,jk,jo,jm]; first | done | omega))) only [jE,jG,jD,qv,jP,jQ,j6,j3]; exact C0))⟩
  ·clear i1 iL n0 C0 hio hno;obtain ⟨g0,i1,iL,hno,hio,i21,n0,C0⟩:=hI;have D:=uX hb x.begins[k] (w3 _ (Qau hk));have c1:((30:Int)<(qI x.begins[k]:Int))=(30<qI x.begins[k]):=by rw [eq_iff_iff]; omega
   (have zz:=C0.r; (repeat' (first | (apply jc <;> intro _) | simp (disch:=first | exact qE | fail) only [ja i1,ja iL,ja i21,ja hi,ja hn,D,c1,C0.q,C0.r,je,jN,jR,jU,jq,qc,qb,rzZ,Qab,Qac,Qad,Qaa,Qae])); (all_goals (clear zz)))
   ·rename_i h;exact G0.v (by rw [bad (by rw [hd]; exact uU hk (by unfold zU; simpa using h))]) rfl
   ·rename_i h;refine ⟨⟨by rw [Uo hk,g0]; unfold zU; simpa using h,?_⟩,?_⟩
    ·simp (disch:=decide) only [Qaj,Qan,z0,z1,jd,jb,and_true,true_and,i1,iL,hno,hio,i21];exact ⟨by (first | omega | (simp only [jg,jh,jk,jo,jm]; first | done | omega)),by (first | exact C0 | (simp (disch:=first | assumption | decide | (first | omega | (simp only [jg,jh,jk,jo,jm]; first | done | omega))) only [jE,jG,jD,qv,jP,jQ,j6,j3]; exact C0))⟩
    ·simp (disch:=decide) only [Qaj,Qan,z0,z1,jd,jb,and_true,true_and,hi,hn]
  ·clear i1 iL n0 C0 hio hno;obtain ⟨g0,i1,iL,hno,hio,i21,n0,C0⟩:=hI;rw [QaK] at g0;repeat' (first | (apply jc <;> intro _) | simp (disch:=first | exact dzE | fail) only [je,jN,jR,jU,jq,qc,qb,rzZ,Qab,Qac,Qad,Qaa,Qae])
   refine ⟨⟨good (by rw [hd]; exact g0),?_⟩,?_⟩
   ·simp (disch:=decide) only [Qaj,Qan,z0,z1,jd,jb,and_true,true_and,i1,iL];exact ⟨n0,C0⟩
   ·simp (disch:=decide) only [Qaj,Qan,z0,z1,jd,jb,and_true,true_and,hio,hno]
 ·obtain ⟨h0,i1,iL,n0,C0⟩:=hIo;rw [QaK] at h0;have hS:JT m=m.procs.any YP:=by rw [JT,h0]; rfl
  (have zz:=C0.r; (repeat' (first | (apply jc <;> intro _) | simp (disch:=first | exact qE | fail) only [ja i1,C0.q,C0.r,je,jN,jR,jU,jq,qc,qb,rzZ,Qab,Qac,Qad,Qaa,Qae])); (all_goals (clear zz)))
  refine qn m.procs.length (λk L s=>(m.procs.take k).any YP=false∧Has L 33 (.lst m.procs.length (fl prE m.procs))∧1≤s.nx) (by first | assumption | omega) (by decide) (by simp (disch:=decide) only [jd,jb]) (by simp (disch:=decide) only [jd,jb]) ?_ (λk L s v h=>by simp (disch:=decide) only [jb]; exact h) (λk L s v h=>by simp (disch:=decide) only [jb]; exact h) (λko Lo so hko hIo hio hno=>?_) (λLo so hIo=>?_)
  ·refine ⟨rfl,?_⟩;simp (disch:=decide) only [Qaj,Qan,z0,z1,jd,jb,and_true,true_and]
   (first | omega | (simp only [jg,jh,jk,jo,jm]; first | done | omega))
  ·clear i1 iL n0 C0;obtain ⟨f0,iL,n0⟩:=hIo;obtain ⟨_,w2,w3⟩:=w.pr _ (Qau hko);have bad:YP m.procs[ko]=true->JT m=true:=λh=>by rw [hS,uU hko h]
   have good:YP m.procs[ko]=false->(m.procs.take (ko+1)).any YP=false:=λh=>by rw [Uo hko,f0,h]; rfl
   obtain ⟨x,hx⟩:∃ x,x=m.procs[ko]:=⟨_,rfl⟩;rw [←hx] at bad good w2 w3;have hd:YP x=x.rules.any YO:=rfl;have w2':=w2;unfold BIG at w2';repeat' (first | (apply jc <;> intro _) | simp (disch:=first | exact dzE | fail) only [ja iL,ja hio,ja hno,←hx,je,jN,jR,jU,jq,qc,qb,rzZ,Qab,Qac,Qad,Qaa,Qae])
   refine qn x.rules.length (λk L s=>(x.rules.take k).any YO=false∧Has L 33 (.lst m.procs.length (fl prE m.procs))∧Has L 34 (.int .i64 (m.procs.length:Int))∧Has L 35 (.int .i64 (ko:Int))∧Has L 40 (.lst x.rules.length (fl ruE x.rules))∧1≤s.nx) (by first | assumption | omega) (by decide) (by simp (disch:=decide) only [jd,jb]) (by simp (disch:=decide) only [jd,jb]) ?_ (λk L s v h=>by simp (disch:=decide) only [jb]; exact h) (λk L s v h=>by simp (disch:=decide) only [jb]; exact h) (λkp Lp sp hkp hIp hip hnp=>?_) (λLp sp hIp=>?_)
   ·refine ⟨rfl,?_⟩;simp (disch:=decide) only [Qaj,Qan,z0,z1,jd,jb,and_true,true_and,iL,hio,hno]
    (first | omega | (simp only [jg,jh,jk,jo,jm]; first | done | omega))
   ·clear iL n0 hio hno;obtain ⟨g0,iL,hno,hio,i40,n0⟩:=hIp;have wr:=w3 _ (Qau hkp);have wa:=wr.acts;have D:=uX hb x.rules[kp].when wr.when;rw [qH] at D;have bad2:YO x.rules[kp]=true->JT m=true:=λh=>bad (by rw [hd]; exact uU hkp h);have good2:YO x.rules[kp]=false->(x.rules.take (kp+1)).any YO=false:=λh=>by rw [Uo hkp,g0,h]; rfl
    obtain ⟨r,hr⟩:∃ r,r=x.rules[kp]:=⟨_,rfl⟩;rw [←hr] at wr wa D bad2 good2;have c1:((30:Int)<(qI r.when:Int))=(30<qI r.when):=by rw [eq_iff_iff]; omega
    have hdr:YO r=(zU r.when || r.acts.any λa=>zU a.to):=rfl;have hdx:zU r.when=decide (30<qI r.when):=rfl;have wa':=wa;unfold BIG at wa'
    (have zz:=@qY; (repeat' (first | (apply jc <;> intro _) | simp (disch:=first | exact qE | fail) only [ja iL,ja i40,ja hip,ja hnp,D,c1,←hr,qY,qY,je,jN,jR,jU,jq,qc,qb,rzZ,Qab,Qac,Qad,Qaa,Qae])); (all_goals (clear zz)))
    ·rename_i h;exact G0.v (by rw [bad2 (by rw [hdr,hdx,decide_eq_true h]; rfl)]) rfl
    rename_i hlow;have hdx0:zU r.when=false:=by rw [hdx,decide_eq_false hlow]
    refine qn r.acts.length (λk L s=>((r.acts.take k).any λa=>zU a.to)=false∧Has L 33 (.lst m.procs.length (fl prE m.procs))∧Has L 34 (.int .i64 (m.procs.length:Int))∧Has L 35 (.int .i64 (ko:Int))∧Has L 40 (.lst x.rules.length (fl ruE x.rules))∧Has L 41 (.int .i64 (x.rules.length:Int))∧Has L 42 (.int .i64 (kp:Int))∧Has L 51 (.lst r.acts.length (fl asE r.acts))∧1≤s.nx) (by first | assumption | omega) (by decide) (by simp (disch:=decide) only [jd,jb]) (by simp (disch:=decide) only [jd,jb]) ?_ (λk L s v h=>by simp (disch:=decide) only [jb]; exact h) (λk L s v h=>by simp (disch:=decide) only [jb]; exact h) (λk L s hk hI hi hn=>?_) (λL s hI=>?_)
    ·refine ⟨rfl,?_⟩;simp (disch:=decide) only [Qaj,Qan,z0,z1,jd,jb,and_true,true_and,iL,hio,hno,i40,hip,hnp]
     (first | omega | (simp only [jg,jh,jk,jo,jm]; first | done | omega))
    ·clear iL n0 hio hno i40 hip hnp;obtain ⟨f1,iL,hno,hio,i40,hnp,hip,i51,n0⟩:=hI;have D2:=uX hb r.acts[k].to (wr.to _ (Qau hk)).1;rw [qH] at D2;have c2:((30:Int)<(qI r.acts[k].to:Int))=(30<qI r.acts[k].to):=by rw [eq_iff_iff]; omega
     (have zz:=@qY; (repeat' (first | (apply jc <;> intro _) | simp (disch:=first | exact qE | fail) only [ja iL,ja i51,ja hi,ja hn,D2,c2,qY,qY,je,jN,jR,jU,jq,qc,qb,rzZ,Qab,Qac,Qad,Qaa,Qae])); (all_goals (clear zz)))
     ·rename_i h;exact G0.v (by rw [bad2 (by rw [hdr,uU hk (by unfold zU; simpa using h)]; simp)]) rfl
     ·rename_i h;refine ⟨⟨by rw [Uo hk,f1]; unfold zU; simpa using h,?_⟩,?_⟩
      ·simp (disch:=decide) only [Qaj,Qan,z0,z1,jd,jb,and_true,true_and,iL,hno,hio,i40,hip,hnp,i51]
       (first | omega | (simp only [jg,jh,jk,jo,jm]; first | done | omega))
      ·simp (disch:=decide) only [Qaj,Qan,z0,z1,jd,jb,and_true,true_and,hi,hn]
    ·clear iL n0 hio hno i40 hip hnp;obtain ⟨f1,iL,hno,hio,i40,hnp,hip,i51,n0⟩:=hI;rw [QaK] at f1;repeat' (first | (apply jc <;> intro _) | simp (disch:=first | exact dzE | fail) only [je,jN,jR,jU,jq,qc,qb,rzZ,Qab,Qac,Qad,Qaa,Qae])
     refine ⟨⟨good2 (by rw [hdr,hdx0,f1]; rfl),?_⟩,?_⟩
     ·simp (disch:=decide) only [Qaj,Qan,z0,z1,jd,jb,and_true,true_and,iL,hno,hio,i40];exact n0
     ·simp (disch:=decide) only [Qaj,Qan,z0,z1,jd,jb,and_true,true_and,hip,hnp]
   ·clear iL n0 hio hno;obtain ⟨g0,iL,hno,hio,i40,n0⟩:=hIp;rw [QaK] at g0;repeat' (first | (apply jc <;> intro _) | simp (disch:=first | exact dzE | fail) only [je,jN,jR,jU,jq,qc,qb,rzZ,Qab,Qac,Qad,Qaa,Qae])
    refine ⟨⟨good (by rw [hd]; exact g0),?_⟩,?_⟩
    ·simp (disch:=decide) only [Qaj,Qan,z0,z1,jd,jb,and_true,true_and,iL];exact n0
    ·simp (disch:=decide) only [Qaj,Qan,z0,z1,jd,jb,and_true,true_and,hio,hno]
  ·clear i1 iL n0 C0;obtain ⟨f0,iL,n0⟩:=hIo;rw [QaK] at f0;repeat' (first | (apply jc <;> intro _) | simp (disch:=first | exact dzE | fail) only [je,jN,jR,jU,jq,qc,qb,rzZ,Qab,Qac,Qad,Qaa,Qae])
   exact G0.v (by rw [hS,f0]) rfl
end Go.Sy
end
noncomputable section
namespace Go.Sy
open Go.Ev Go.RowKit
def frW (w:World):Inj:=⟨λ_=>.unborn,λB=>match w.heap[B]? with | some (.cells c _ _)=>some c.toList | _=>none⟩
theorem jk3 {w:World}{B:Nat}{vs:List Value}(h:(frW w).g B=some vs):∃ c e f,w.heap[B]? = some (.cells c e f)∧c.toList=vs:=by
 unfold frW at h;dsimp only at h;split at h
 ·rename_i c e f hc;exact ⟨c,e,f,hc,by simpa using h⟩
 ·cases h
theorem jjW {w:World}{B:Nat}{c:Array Value}{e:TypeId}{f:Nat×Nat}(h:w.heap[B]? = some (.cells c e f)):(frW w).g B=some c.toList:=by
 unfold frW;dsimp only;rw [h]
theorem jg7 {w:World}(hg:∃ te pe,w.cell? ⟨2,0,none⟩=some (.iface te pe)):Sim (frW w) st0.h st0.nx w:=
 ⟨λb B S e=>(by cases e),λb e=>(by cases e),λb b' B S S' e=>(by cases e),λb e=>absurd rfl e,⟨hg,λb S e=>by cases e⟩,λB vs h=>by
  obtain ⟨c,e,f,h1,h2⟩:=jk3 h;exact ⟨⟨c,e,f.1,f.2,h1,h2,trivial⟩,λb S e=>by cases e⟩⟩
section
variable {H:Type} {enc:TypeId×Value->H} {P:Program} {w:World} {base:Nat} {sp:Nat->Bool} {held:Bool}
mutual
def bulkD:DataW H->Nat
 | .lit (.string bytes)=>bytes.length+1
 | .lit _=>1
 | .nil=>1
 | .ptr d=>bulkD d+1
 | .slice elems spare=>bulkDs elems+bulkDs spare+1
 | .agg parts=>bulkDs parts+1
 | .iface _ d=>bulkD d+1
 | .map entries=>1
 | .held _=>1
def bulkDs:List (DataW H)->Nat
 | []=>0
 | d :: r=>bulkD d+bulkDs r
end
def Reads (H:Type)(P:Program)(w:World)(N:Nat)(t:TypeId){α:Type}(z:Nat)(en:α->List AV)(sz:α->Nat):Prop:=
 P.cellsOf t=z∧(∀ x,(en x).length=z)∧∀ (enc:TypeId×Value->H) (base:Nat) (sp:Nat->Bool) (held:Bool) (fuel:Nat) (cs:List Value) (d:DataW H) (ps:List MemPlace),fuel≤N->DataW.trod enc P w base sp held fuel t cs=some (d,ps)->∃ x:α,VRs (frW w) (en x) cs∧(en x).all AV.cell=true∧sz x≤bulkD d
def jlM (k:IntKind)(n:{n:Int // (Lit.int k n).wf=true}):List AV:=[.int k n.1]
theorem Ja {N:Nat}{t:TypeId}{k:IntKind}(hu:P.underlying t=some (.int k))(hc:P.cellsOf t=1):Reads H P w N t 1 (jlM k) (λ_=>1):=
 ⟨hc,λ_=>rfl,λenc base sp held fuel cs d ps hN h=>by
  obtain ⟨n,rfl,hx,hw⟩:=DataW.trod_int hu h;cases hx;exact ⟨⟨n,hw⟩,⟨_,_,rfl,rfl,rfl⟩,rfl,Qaq _⟩⟩
theorem Zk {N:Nat}{t:TypeId}(hu:P.underlying t=some .string)(hc:P.cellsOf t=1):Reads H P w N t 1 (λs:List Nat=>[.str s]) (λs=>s.length+1):=
 ⟨hc,λ_=>rfl,λenc base sp held fuel cs d ps hN h=>by
  obtain ⟨s,rfl,hx,hm⟩:=DataW.trod_string hu h;cases hx;refine ⟨s.data.toList.map UInt8.toNat,⟨_,_,rfl,⟨s,rfl,rfl⟩,rfl⟩,rfl,?_⟩;show (s.data.toList.map UInt8.toNat).length+1≤_;rw [bulkD,QaN]; exact Qaq _⟩
theorem jax {w:World}{a:Addr}{v:Value}(h:w.cell? a=some v):a.spot=none∧∃ c e f,w.heap[a.block]? = some (.cells c e f)∧c[a.off]? = some v:=by
 unfold World.cell? at h;split at h
 ·rename_i c e f hc;split at h
  ·cases h
  ·rename_i hs;exact ⟨by simpa using hs,c,e,f,hc,h⟩
 ·cases h
theorem GY {w:World}{base:Nat}{a:Addr}{n:Nat}{cs:List Value}(h:w.cells? base a n=some cs):cs.length=n∧∀ i,i<n->w.cell? (a.add i)=some (cs.getD i undef):=by
 unfold World.cells? at h;split at h
 ·refine ⟨by simpa using mapM_some_length h,λi hi=>?_⟩;have:=mapM_some_get h i i (by simp [hi]);rw [this];have hl:cs.length=n:=by simpa using mapM_some_length h
  simp [QaO,show i<cs.length by omega]
 ·cases h
theorem Hh (b o n:Nat):(Addr.add ⟨b,o,none⟩ n)=⟨b,o+n,none⟩:=by
 unfold Addr.add;split
 ·rename_i h; subst h; rfl
 ·rfl
theorem J6 {N:Nat}{α:Type}{t e:TypeId}{z:Nat}{en:α->List AV}{sz:α->Nat}(hz0:0<z)(hu:P.underlying t=some (.slice e))(hc:P.cellsOf t=1)(R:Reads H P w N e z en sz)(hpos:∀ x,1≤sz x) :
  Reads H P w (N+1) t 1 (λxs:List α=>[.lst xs.length (fl en xs)]) (λxs=>(xs.map sz).sum+1):=
 ⟨hc,λ_=>rfl,λenc base sp held fuel cs d ps hN h=>by
  obtain ⟨hz,hl,hr⟩:=R;rcases DataW.trod_slice hu h with ⟨rfl,hx⟩ | ⟨a,len,cap,elems,rest,n,rfl,rfl,hx,hb,hle,hm,hel,h1,_,_⟩
  ·cases hx;exact ⟨[],⟨_,_,rfl,⟨none,0,rfl,Qaq _,rfl,λh=>absurd h (Qcb 0)⟩,rfl⟩,rfl,by simp [bulkD]⟩
  ·rw [hz] at h1;have each:∀ i,i<len->∃ ci d q,w.cells? base (a.add (i * z)) z=some ci∧DataW.trod enc P w base sp held n e ci=some (d,q)∧elems[i]? = some (d,q):=λi hi=>by
    have:=h1 i hi;rw [Qay (by omega)] at this;obtain ⟨ci,e1,e2⟩:=Option.bind_eq_some_iff.1 this;exact ⟨ci,elems[i].1,elems[i].2,e1,e2,Qay (by omega)⟩
   have all:∀ m,m≤len->∃ xs:List α,xs.length=m∧(xs.map sz).sum≤bulkDs ((elems.take m).map (·.1))∧∀ i (hi:i<xs.length),∃ ci,w.cells? base (a.add (i * z)) z=some ci∧VRs (frW w) (en xs[i]) ci∧(en xs[i]).all AV.cell=true:=by
    intro m;induction m with
    | zero=>exact λ_=>⟨[],rfl,by simp [bulkDs],λi hi=>by simp at hi⟩
    | succ m ih=>
     intro hm;obtain ⟨xs,e1,e2,e3⟩:=ih (by omega);obtain ⟨ci,d,q,f1,f2,f3⟩:=each m (by omega);obtain ⟨x,g1,g2,g3⟩:=hr enc base sp held n ci d q (by omega) f2;have app:∀ (l r:List (DataW H)),bulkDs (l ++ r)=bulkDs l+bulkDs r:=λl r=>by
      induction l with
      | nil=>simp [bulkDs]
      | cons y l ih=>rw [QaB,bulkDs,bulkDs,ih,QbB]
     refine ⟨xs ++ [x],by simp [e1],?_,λi hi=>?_⟩
     ·rw [List.take_add_one,f3];simp only [Option.toList,QbM,Qai,Qam,List.sum_append,List.sum_cons,List.sum_nil,app,bulkDs];omega
     ·by_cases hlt:i<xs.length
      ·rw [List.getElem_append_left hlt]; exact e3 i hlt
      ·have:i=m:=by simp at hi; omega
       subst this;rw [List.getElem_append_right (by omega)];simp only [e1,Nat.sub_self,QbH];exact ⟨ci,f1,g1,g2⟩
   obtain ⟨xs,e1,e2,e3⟩:=all len (Qaq _);have hcell:(fl en xs).all AV.cell=true:=by
    rw [Qaw];intro v hv;obtain ⟨y,hy,hv⟩:=List.mem_flatMap.1 hv;obtain ⟨i,hi,rfl⟩:=QbS.1 hy;obtain ⟨_,_,_,h5⟩:=e3 i hi;exact Qaw.1 h5 v hv
   refine ⟨xs,⟨_,_,rfl,?_,rfl⟩,rfl,?_⟩
   ·refine ⟨some a,cap,by rw [e1],by omega,hcell,λhpos=>?_⟩;obtain ⟨c0,f0,_,_⟩:=e3 0 hpos;have f1:=(GY f0).2 0 hz0;rw [Qby] at f1;have z0:(a.add 0).add 0=a:=rfl;rw [z0] at f1;obtain ⟨hs,c,ty,fr,hB,_⟩:=jax f1;obtain ⟨B,o,s⟩:=a;dsimp only at hs hB;subst hs;have cell:∀ i (hi:i<xs.length) j,j<z->∃ v,c[o+(i * z+j)]? = some v∧VR (frW w) ((en xs[i]).getD j .bad) v:=λi hi j hj=>by
     obtain ⟨ci,g0,g1,g2⟩:=e3 i hi;have g3:=(GY g0).2 j hj;rw [Hh,Hh] at g3;obtain ⟨_,c',ty',fr',hB',g4⟩:=jax g3;dsimp only at hB' g4;rw [hB] at hB';cases hB';refine ⟨_,by rw [←QbB]; exact g4,?_⟩;exact g1.get j (by rw [hl]; exact hj)
    have bound:o+xs.length * z≤c.size:=by
     have hl1:0<xs.length:=hpos;obtain ⟨v,g,_⟩:=cell (xs.length - 1) (by omega) (z - 1) (by omega);have:=(Qaz.1 g).1;have e:(xs.length - 1) * z+(z - 1)+1=xs.length * z:=by
      have:(xs.length - 1+1) * z=(xs.length - 1) * z+z:=Qbr _ _;rw [show xs.length - 1+1=xs.length by omega] at this;omega
     omega
    have hfl:=Xq hl xs;have hcs:c.toList.length=c.size:=Qax;refine ⟨B,o,c.toList,rfl,jjW hB,by rw [hfl,hcs]; exact bound,?_⟩;show VRs (frW w) _ _;refine VRs.of_get (by rw [hfl,QaP,QaQ,hcs]; omega) λi hi=>?_;rw [hfl] at hi;have hj:i % z<z:=Nat.mod_lt _ hz0;have hq:i / z<xs.length:=Nat.div_lt_of_lt_mul (by rw [Nat.mul_comm]; exact hi);have hiz:i / z * z+i % z=i:=by rw [Nat.mul_comm]; exact Nat.div_add_mod i z
    obtain ⟨v,g1,g2⟩:=cell (i / z) hq (i % z) hj;rw [hiz] at g1;have g3:=jdF hl hq hj;rw [hiz] at g3;rw [g3];have g4:((c.toList.drop o).take (fl en xs).length).getD i undef=v:=by
     rw [hfl];simp only [QaO,QbJ,hi,if_true,Qcc,Qbz,g1,Qbd]
    rw [g4];exact g2
   ·cases hx;rw [bulkD];have:elems.take len=elems:=by rw [←hel]; exact QaK
    rw [this] at e2;show (xs.map sz).sum+1≤bulkDs (elems.map (·.1))+bulkDs (rest.map (·.1))+1;omega⟩
theorem Reads.mono {N M:Nat}{α:Type}{t:TypeId}{z:Nat}{en:α->List AV}{sz:α->Nat}(R:Reads H P w N t z en sz)(h:M≤N):Reads H P w M t z en sz:=
 ⟨R.1,R.2.1,λenc base sp held fuel cs d ps hN=>R.2.2 enc base sp held fuel cs d ps (by omega)⟩
theorem qo {ι:Inj}{a b:List AV}{cs:List Value}{o z:Nat}(h1:VRs ι a ((cs.drop o).take z))(h2:VRs ι b (cs.drop (o+z))):VRs ι (a ++ b) (cs.drop o):=by
 have:=VRs.append h1 h2;rwa [←QbC,Qch] at this
theorem XI {ι:Inj}{cs:List Value}{o:Nat}(h:cs.length=o):VRs ι [] (cs.drop o):=by
 rw [List.drop_eq_nil_of_le (by omega)]; rfl
end
end Go.Sy
end
noncomputable section
set_option maxRecDepth 100000
namespace Go.Sy
open Go.Ev Go.RowKit Go.Proofs
variable {H:Type} {w:World}
theorem ce2:Tryz.prog.cellsOf 2=1:=by kernel_rfl
theorem ce3:Tryz.prog.cellsOf 3=1:=by kernel_rfl
theorem ce9:Tryz.prog.cellsOf 9=1:=by kernel_rfl
theorem jkf:Tryz.prog.cellsOf 23=1:=by kernel_rfl
theorem jke:Tryz.prog.cellsOf 24=1:=by kernel_rfl
theorem jkd:Tryz.prog.cellsOf 25=1:=by kernel_rfl
theorem jkc:Tryz.prog.cellsOf 27=3:=by kernel_rfl
theorem jbG:Tryz.prog.cellsOf 35=1:=by kernel_rfl
theorem G2:Tryz.prog.cellsOf 37=6:=by kernel_rfl
theorem jkb:Tryz.prog.cellsOf 58=7:=by kernel_rfl
theorem jka:Tryz.prog.cellsOf 91=1:=by kernel_rfl
theorem jj9:Tryz.prog.cellsOf 93=4:=by kernel_rfl
theorem jj8:Tryz.prog.cellsOf 96=1:=by kernel_rfl
theorem jj7:Tryz.prog.cellsOf 98=4:=by kernel_rfl
theorem jgO:Tryz.prog.cellsOf 101=1:=by kernel_rfl
theorem jgN:Tryz.prog.cellsOf 103=7:=by kernel_rfl
theorem jgM:Tryz.prog.cellsOf 105=9:=by kernel_rfl
theorem UE (x:Ex):1≤szE x:=by rw [JX]; omega
theorem Je:∀ xs:List Ex,(xs.map szE).sum=ya xs
 | []=>rfl
 | x :: xs=>by rw [Qai,List.sum_cons,Je xs]; rfl
def szA (a:AsT):Nat:=a.name.length+szE a.to+1
def szR (r:RuleT):Nat:=szE r.when+(r.acts.map szA).sum+1
def szP (p:ProcT):Nat:=p.name.length+(p.rules.map szR).sum+1
def szV (v:List Nat):Nat:=v.length+1
def szN (e:EnumT):Nat:=e.name.length+(e.vals.map szV).sum+1
def szD (d:DeclT):Nat:=d.name.length+d.ty.length+ya d.begins+1
def szS (m:SrcT):Nat:=(m.enums.map szN).sum+(m.vars.map szD).sum+(m.procs.map szP).sum+1
theorem rd_ex:∀ N:Nat,Reads H Qaf w N 37 6 eE szE
 | 0=>⟨G2,JD,λenc base sp held fuel cs d ps hN h=>by
  have:fuel=0:=by omega
  subst this;simp [DataW.trod] at h⟩
 | N+1=>⟨G2,JD,λenc base sp held fuel cs d ps hN h=>by
  obtain ⟨xs,n,rfl,hx,hl,hlen,hf⟩:=DataW.trod_struct Tryz.underlying37 h;cases hx;rw [G2] at hl
  match xs,hlen with
  | [y0,y1,y2,y3,y4,y5],_=>
   have h0:DataW.trod enc Qaf w base sp held n 3 ((cs.drop 0).take (Tryz.prog.cellsOf 3))=some y0:=hf 0 _ rfl;rw [ce3] at h0;obtain ⟨x0,v0,c0,s0⟩:=(Ja (N:=n) Tryz.underlying3 ce3).2.2 enc base sp held n _ y0.1 y0.2 (by omega) h0;have h1:DataW.trod enc Qaf w base sp held n 2 ((cs.drop 1).take (Tryz.prog.cellsOf 2))=some y1:=hf 1 _ rfl;rw [ce2] at h1;obtain ⟨x1,v1,c1,s1⟩:=(Ja (N:=n) Tryz.underlying2 ce2).2.2 enc base sp held n _ y1.1 y1.2 (by omega) h1;have h2:DataW.trod enc Qaf w base sp held n 9 ((cs.drop 2).take (Tryz.prog.cellsOf 9))=some y2:=hf 2 _ rfl;rw [ce9] at h2;obtain ⟨x2,v2,c2,s2⟩:=(Zk (N:=n) Tryz.underlying9 ce9).2.2 enc base sp held n _ y2.1 y2.2 (by omega) h2;have h3:DataW.trod enc Qaf w base sp held n 35 ((cs.drop 3).take (Tryz.prog.cellsOf 35))=some y3:=hf 3 _ rfl;rw [jbG] at h3;obtain ⟨x3,v3,c3,s3⟩:=(J6 (by decide) Tryz.underlying35 jbG ((rd_ex N).mono (M:=N) (Qaq _)) UE).2.2 enc base sp held n _ y3.1 y3.2 (by omega) h3;have h4:DataW.trod enc Qaf w base sp held n 3 ((cs.drop 4).take (Tryz.prog.cellsOf 3))=some y4:=hf 4 _ rfl;rw [ce3] at h4;obtain ⟨x4,v4,c4,s4⟩:=(Ja (N:=n) Tryz.underlying3 ce3).2.2 enc base sp held n _ y4.1 y4.2 (by omega) h4;have h5:DataW.trod enc Qaf w base sp held n 3 ((cs.drop 5).take (Tryz.prog.cellsOf 3))=some y5:=hf 5 _ rfl;rw [ce3] at h5;obtain ⟨x5,v5,c5,s5⟩:=(Ja (N:=n) Tryz.underlying3 ce3).2.2 enc base sp held n _ y5.1 y5.2 (by omega) h5;refine ⟨.mk x0.1 x1.1 x2 x3 x4.1 x5.1,?_,?_,?_⟩
   ·rw [qH];exact qo (z:=1) v0 (qo (z:=1) v1 (qo (z:=1) v2 (qo (z:=1) v3 (qo (z:=1) v4 (qo (z:=1) v5 (XI (by rw [hl])))))))
   ·rw [qH];first | rfl | (simp_all [Qbk,AV.cell]; done) | (simp [AV.cell]; done)
   ·simp only [Qai,Qam,bulkD,bulkDs,JX,Ex.kids,Ex.name];skip
    first | omega | (simp only [Je] at *; omega)⟩
theorem jdE:∀ xs:List (List Nat),fl (λs=>[AV.str s]) xs=xs.map AV.str
 | []=>rfl
 | x :: xs=>by rw [Q8,jdE xs]; rfl
theorem jhb (N:Nat):Reads H Qaf w (N+1) 91 1 (λxs:List (List Nat)=>[.lst xs.length (xs.map AV.str)]) (λxs=>(xs.map szV).sum+1):=by
 have h:Reads H Qaf w (N+1) 91 1 (λxs:List (List Nat)=>[.lst xs.length (fl (λs=>[AV.str s]) xs)]) (λxs=>(xs.map szV).sum+1):=J6 (by decide) Tryz.underlying91 jka (Zk (N:=N) Tryz.underlying9 ce9) (λx=>Qbo _);simpa only [jdE] using h
theorem jhe (N:Nat):Reads H Qaf w N 93 4 enE szN:=
 ⟨jj9,ZV,λenc base sp held fuel cs d ps hN h=>by
  obtain ⟨xs,n,rfl,hx,hl,hlen,hf⟩:=DataW.trod_struct Tryz.underlying93 h;cases hx;rw [jj9] at hl
  match xs,hlen with
  | [y0,y1,y2,y3],_=>
   have h0:DataW.trod enc Qaf w base sp held n 9 ((cs.drop 0).take (Tryz.prog.cellsOf 9))=some y0:=hf 0 _ rfl;rw [ce9] at h0;obtain ⟨x0,v0,c0,s0⟩:=(Zk (N:=n) Tryz.underlying9 ce9).2.2 enc base sp held n _ y0.1 y0.2 (by omega) h0;have h1:DataW.trod enc Qaf w base sp held n 91 ((cs.drop 1).take (Tryz.prog.cellsOf 91))=some y1:=hf 1 _ rfl;rw [jka] at h1;obtain ⟨x1,v1,c1,s1⟩:=(jhb N).2.2 enc base sp held n _ y1.1 y1.2 (by omega) h1;have h2:DataW.trod enc Qaf w base sp held n 3 ((cs.drop 2).take (Tryz.prog.cellsOf 3))=some y2:=hf 2 _ rfl;rw [ce3] at h2;obtain ⟨x2,v2,c2,s2⟩:=(Ja (N:=n) Tryz.underlying3 ce3).2.2 enc base sp held n _ y2.1 y2.2 (by omega) h2;have h3:DataW.trod enc Qaf w base sp held n 3 ((cs.drop 3).take (Tryz.prog.cellsOf 3))=some y3:=hf 3 _ rfl;rw [ce3] at h3;obtain ⟨x3,v3,c3,s3⟩:=(Ja (N:=n) Tryz.underlying3 ce3).2.2 enc base sp held n _ y3.1 y3.2 (by omega) h3;refine ⟨⟨x0,x1,x2.1,x3.1⟩,?_,?_,?_⟩
   ·rw [Wu];exact qo (z:=1) v0 (qo (z:=1) v1 (qo (z:=1) v2 (qo (z:=1) v3 (XI (by rw [hl])))))
   ·rw [Wu];first | rfl | (simp_all [Qbk,AV.cell]; done) | (simp [AV.cell]; done)
   ·simp only [Qai,Qam,bulkD,bulkDs,szN];skip
    first | omega | (simp only [Je] at *; omega)⟩
theorem jhf (N:Nat):Reads H Qaf w N 58 7 qu szD:=
 ⟨jkb,Q9,λenc base sp held fuel cs d ps hN h=>by
  obtain ⟨xs,n,rfl,hx,hl,hlen,hf⟩:=DataW.trod_struct Tryz.underlying58 h;cases hx;rw [jkb] at hl
  match xs,hlen with
  | [y0,y1,y2,y3,y4,y5,y6],_=>
   have h0:DataW.trod enc Qaf w base sp held n 9 ((cs.drop 0).take (Tryz.prog.cellsOf 9))=some y0:=hf 0 _ rfl;rw [ce9] at h0;obtain ⟨x0,v0,c0,s0⟩:=(Zk (N:=n) Tryz.underlying9 ce9).2.2 enc base sp held n _ y0.1 y0.2 (by omega) h0;have h1:DataW.trod enc Qaf w base sp held n 9 ((cs.drop 1).take (Tryz.prog.cellsOf 9))=some y1:=hf 1 _ rfl;rw [ce9] at h1;obtain ⟨x1,v1,c1,s1⟩:=(Zk (N:=n) Tryz.underlying9 ce9).2.2 enc base sp held n _ y1.1 y1.2 (by omega) h1;have h2:DataW.trod enc Qaf w base sp held n 2 ((cs.drop 2).take (Tryz.prog.cellsOf 2))=some y2:=hf 2 _ rfl;rw [ce2] at h2;obtain ⟨x2,v2,c2,s2⟩:=(Ja (N:=n) Tryz.underlying2 ce2).2.2 enc base sp held n _ y2.1 y2.2 (by omega) h2;have h3:DataW.trod enc Qaf w base sp held n 2 ((cs.drop 3).take (Tryz.prog.cellsOf 2))=some y3:=hf 3 _ rfl;rw [ce2] at h3;obtain ⟨x3,v3,c3,s3⟩:=(Ja (N:=n) Tryz.underlying2 ce2).2.2 enc base sp held n _ y3.1 y3.2 (by omega) h3;have h4:DataW.trod enc Qaf w base sp held n 35 ((cs.drop 4).take (Tryz.prog.cellsOf 35))=some y4:=hf 4 _ rfl;rw [jbG] at h4;obtain ⟨x4,v4,c4,s4⟩:=(J6 (by decide) Tryz.underlying35 jbG (rd_ex N) UE).2.2 enc base sp held n _ y4.1 y4.2 (by omega) h4;have h5:DataW.trod enc Qaf w base sp held n 3 ((cs.drop 5).take (Tryz.prog.cellsOf 3))=some y5:=hf 5 _ rfl;rw [ce3] at h5;obtain ⟨x5,v5,c5,s5⟩:=(Ja (N:=n) Tryz.underlying3 ce3).2.2 enc base sp held n _ y5.1 y5.2 (by omega) h5;have h6:DataW.trod enc Qaf w base sp held n 3 ((cs.drop 6).take (Tryz.prog.cellsOf 3))=some y6:=hf 6 _ rfl;rw [ce3] at h6;obtain ⟨x6,v6,c6,s6⟩:=(Ja (N:=n) Tryz.underlying3 ce3).2.2 enc base sp held n _ y6.1 y6.2 (by omega) h6;refine ⟨⟨x0,x1,x2.1,x3.1,x4,x5.1,x6.1⟩,?_,?_,?_⟩
   ·rw [Za];exact qo (z:=1) v0 (qo (z:=1) v1 (qo (z:=1) v2 (qo (z:=1) v3 (qo (z:=1) v4 (qo (z:=1) v5 (qo (z:=1) v6 (XI (by rw [hl]))))))))
   ·rw [Za];first | rfl | (simp_all [Qbk,AV.cell]; done) | (simp [AV.cell]; done)
   ·simp only [Qai,Qam,bulkD,bulkDs,szD];skip
    first | omega | (simp only [Je] at *; omega)⟩
theorem jkY (N:Nat):Reads H Qaf w N 105 9 asE szA:=
 ⟨jgM,YU,λenc base sp held fuel cs d ps hN h=>by
  obtain ⟨xs,n,rfl,hx,hl,hlen,hf⟩:=DataW.trod_struct Tryz.underlying105 h;cases hx;rw [jgM] at hl
  match xs,hlen with
  | [y0,y1,y2,y3],_=>
   have h0:DataW.trod enc Qaf w base sp held n 9 ((cs.drop 0).take (Tryz.prog.cellsOf 9))=some y0:=hf 0 _ rfl;rw [ce9] at h0;obtain ⟨x0,v0,c0,s0⟩:=(Zk (N:=n) Tryz.underlying9 ce9).2.2 enc base sp held n _ y0.1 y0.2 (by omega) h0;have h1:DataW.trod enc Qaf w base sp held n 37 ((cs.drop 1).take (Tryz.prog.cellsOf 37))=some y1:=hf 1 _ rfl;rw [G2] at h1;obtain ⟨x1,v1,c1,s1⟩:=((rd_ex N)).2.2 enc base sp held n _ y1.1 y1.2 (by omega) h1;have h2:DataW.trod enc Qaf w base sp held n 3 ((cs.drop 7).take (Tryz.prog.cellsOf 3))=some y2:=hf 2 _ rfl;rw [ce3] at h2;obtain ⟨x2,v2,c2,s2⟩:=(Ja (N:=n) Tryz.underlying3 ce3).2.2 enc base sp held n _ y2.1 y2.2 (by omega) h2;have h3:DataW.trod enc Qaf w base sp held n 3 ((cs.drop 8).take (Tryz.prog.cellsOf 3))=some y3:=hf 3 _ rfl;rw [ce3] at h3;obtain ⟨x3,v3,c3,s3⟩:=(Ja (N:=n) Tryz.underlying3 ce3).2.2 enc base sp held n _ y3.1 y3.2 (by omega) h3;refine ⟨⟨x0,x1,x2.1,x3.1⟩,?_,?_,?_⟩
   ·rw [asE];exact qo (z:=1) v0 (qo (z:=6) v1 (qo (z:=1) v2 (qo (z:=1) v3 (XI (by rw [hl])))))
   ·rw [asE];first | rfl | (simp_all [Qbk,AV.cell]; done) | (simp [AV.cell]; done)
   ·simp only [Qai,Qam,bulkD,bulkDs,szA];skip
    first | omega | (simp only [Je] at *; omega)⟩
theorem jhc (N:Nat):Reads H Qaf w N 103 7 ruE szR:=
 ⟨jgN,YF,λenc base sp held fuel cs d ps hN h=>by
  obtain ⟨xs,n,rfl,hx,hl,hlen,hf⟩:=DataW.trod_struct Tryz.underlying103 h;cases hx;rw [jgN] at hl
  match xs,hlen with
  | [y0,y1],_=>
   have h0:DataW.trod enc Qaf w base sp held n 37 ((cs.drop 0).take (Tryz.prog.cellsOf 37))=some y0:=hf 0 _ rfl;rw [G2] at h0;obtain ⟨x0,v0,c0,s0⟩:=((rd_ex N)).2.2 enc base sp held n _ y0.1 y0.2 (by omega) h0;have h1:DataW.trod enc Qaf w base sp held n 101 ((cs.drop 6).take (Tryz.prog.cellsOf 101))=some y1:=hf 1 _ rfl;rw [jgO] at h1;obtain ⟨x1,v1,c1,s1⟩:=(J6 (by decide) Tryz.underlying101 jgO (jkY N) (λx=>Qbo _)).2.2 enc base sp held n _ y1.1 y1.2 (by omega) h1;refine ⟨⟨x0,x1⟩,?_,?_,?_⟩
   ·rw [ruE];exact qo (z:=6) v0 (qo (z:=1) v1 (XI (by rw [hl])))
   ·rw [ruE];first | rfl | (simp_all [Qbk,AV.cell]; done) | (simp [AV.cell]; done)
   ·simp only [Qai,Qam,bulkD,bulkDs,szR];skip
    first | omega | (simp only [Je] at *; omega)⟩
theorem jhd (N:Nat):Reads H Qaf w N 98 4 prE szP:=
 ⟨jj7,ZL,λenc base sp held fuel cs d ps hN h=>by
  obtain ⟨xs,n,rfl,hx,hl,hlen,hf⟩:=DataW.trod_struct Tryz.underlying98 h;cases hx;rw [jj7] at hl
  match xs,hlen with
  | [y0,y1,y2,y3],_=>
   have h0:DataW.trod enc Qaf w base sp held n 9 ((cs.drop 0).take (Tryz.prog.cellsOf 9))=some y0:=hf 0 _ rfl;rw [ce9] at h0;obtain ⟨x0,v0,c0,s0⟩:=(Zk (N:=n) Tryz.underlying9 ce9).2.2 enc base sp held n _ y0.1 y0.2 (by omega) h0;have h1:DataW.trod enc Qaf w base sp held n 96 ((cs.drop 1).take (Tryz.prog.cellsOf 96))=some y1:=hf 1 _ rfl;rw [jj8] at h1;obtain ⟨x1,v1,c1,s1⟩:=(J6 (by decide) Tryz.underlying96 jj8 (jhc N) (λx=>Qbo _)).2.2 enc base sp held n _ y1.1 y1.2 (by omega) h1;have h2:DataW.trod enc Qaf w base sp held n 3 ((cs.drop 2).take (Tryz.prog.cellsOf 3))=some y2:=hf 2 _ rfl;rw [ce3] at h2;obtain ⟨x2,v2,c2,s2⟩:=(Ja (N:=n) Tryz.underlying3 ce3).2.2 enc base sp held n _ y2.1 y2.2 (by omega) h2;have h3:DataW.trod enc Qaf w base sp held n 3 ((cs.drop 3).take (Tryz.prog.cellsOf 3))=some y3:=hf 3 _ rfl;rw [ce3] at h3;obtain ⟨x3,v3,c3,s3⟩:=(Ja (N:=n) Tryz.underlying3 ce3).2.2 enc base sp held n _ y3.1 y3.2 (by omega) h3;refine ⟨⟨x0,x1,x2.1,x3.1⟩,?_,?_,?_⟩
   ·rw [Wf];exact qo (z:=1) v0 (qo (z:=1) v1 (qo (z:=1) v2 (qo (z:=1) v3 (XI (by rw [hl])))))
   ·rw [Wf];first | rfl | (simp_all [Qbk,AV.cell]; done) | (simp [AV.cell]; done)
   ·simp only [Qai,Qam,bulkD,bulkDs,szP];skip
    first | omega | (simp only [Je] at *; omega)⟩
theorem rd_src (N:Nat):Reads H Qaf w N 27 3 srE szS:=
 ⟨jkc,YD,λenc base sp held fuel cs d ps hN h=>by
  obtain ⟨xs,n,rfl,hx,hl,hlen,hf⟩:=DataW.trod_struct Tryz.underlying27 h;cases hx;rw [jkc] at hl
  match xs,hlen with
  | [y0,y1,y2],_=>
   have h0:DataW.trod enc Qaf w base sp held n 23 ((cs.drop 0).take (Tryz.prog.cellsOf 23))=some y0:=hf 0 _ rfl;rw [jkf] at h0;obtain ⟨x0,v0,c0,s0⟩:=(J6 (by decide) Tryz.underlying23 jkf (jhe N) (λx=>Qbo _)).2.2 enc base sp held n _ y0.1 y0.2 (by omega) h0;have h1:DataW.trod enc Qaf w base sp held n 24 ((cs.drop 1).take (Tryz.prog.cellsOf 24))=some y1:=hf 1 _ rfl;rw [jke] at h1;obtain ⟨x1,v1,c1,s1⟩:=(J6 (by decide) Tryz.underlying24 jke (jhf N) (λx=>Qbo _)).2.2 enc base sp held n _ y1.1 y1.2 (by omega) h1;have h2:DataW.trod enc Qaf w base sp held n 25 ((cs.drop 2).take (Tryz.prog.cellsOf 25))=some y2:=hf 2 _ rfl;rw [jkd] at h2;obtain ⟨x2,v2,c2,s2⟩:=(J6 (by decide) Tryz.underlying25 jkd (jhd N) (λx=>Qbo _)).2.2 enc base sp held n _ y2.1 y2.2 (by omega) h2;refine ⟨⟨x0,x1,x2⟩,?_,?_,?_⟩
   ·rw [u4];exact qo (z:=1) v0 (qo (z:=1) v1 (qo (z:=1) v2 (XI (by rw [hl]))))
   ·rw [u4];first | rfl | (simp_all [Qbk,AV.cell]; done) | (simp [AV.cell]; done)
   ·simp only [Qai,Qam,bulkD,bulkDs,szS];skip
    first | omega | (simp only [Je] at *; omega)⟩
end Go.Sy
end
noncomputable section
set_option maxRecDepth 100000
namespace Go.Sy
open Go.Ev Go.Proofs
def zu:List Nat->Nat
 | []=>0
 | x :: r=>if jV x=true then jY qO (x :: r) else if jv x=true then jY jv (x :: r) else JR (x :: r)
def wg (rm:Bool):List Nat->Bool
 | []=>rm
 | c :: r=>if c=10 then false else if rm=false∧c=47∧r.head? = some 47 then true else rm
def z7:Bool->List Nat->Nat
 | _,[]=>0
 | rm,c :: r=>if (wg rm (c :: r) || qp c)=true then z7 (wg rm (c :: r)) r+1 else 0
theorem J5 (rm:Bool)(c:Nat)(r:List Nat):wg rm (c :: r)=if c=10 then false else if rm=false∧c=47∧r.head? = some 47 then true else rm:=rfl
theorem z6 (rm:Bool)(c:Nat)(r:List Nat):z7 rm (c :: r)=if (wg rm (c :: r) || qp c)=true then z7 (wg rm (c :: r)) r+1 else 0:=by rw [z7]
theorem Xd (x:Nat)(r:List Nat):zu (x :: r)=if jV x=true then jY qO (x :: r) else if jv x=true then jY jv (x :: r) else JR (x :: r):=rfl
theorem Vm:∀ r:List Nat,z7 true r=jY Jp r+z7 false (r.drop (jY Jp r))
 | []=>rfl
 | c :: r=>by
  by_cases h:c=10
  ·subst h;have h1:jY Jp (10 :: r)=0:=rfl;rw [h1,QbF,QaL,z6,z6,J5,J5,if_pos rfl,if_pos rfl]
  ·have h1:wg true (c :: r)=true:=by rw [J5,if_neg h,if_neg (by simp)]
   have h2:jY Jp (c :: r)=jY Jp r+1:=by
    have:Jp c=true:=by unfold Jp; simp [h]
    simp only [jY,if_pos this]
   have h3:z7 true (c :: r)=z7 true r+1:=by
    rw [z6,h1,Bool.true_or,if_pos rfl]
   rw [h3,h2,Vm r,List.drop_succ_cons];omega
theorem WE:∀ r:List Nat,z7 false r=jY qp r+z7 false (r.drop (jY qp r))
 | []=>rfl
 | c :: r=>by
  by_cases h:qp c=true
  ·have hc:c=32∨c=9∨c=10:=by unfold qp at h; simp at h; omega
   have h1:wg false (c :: r)=false:=by
    rw [J5];by_cases h10:c=10
    ·rw [if_pos h10]
    ·rw [if_neg h10,if_neg (λh=>by have:=h.2.1; omega)]
   have h2:jY qp (c :: r)=jY qp r+1:=by simp only [jY,if_pos h]
   have h3:z7 false (c :: r)=z7 false r+1:=by
    rw [z6,h1,h,Bool.or_true,if_pos rfl]
   rw [h3,h2,WE r,List.drop_succ_cons];omega
  ·have h2:jY qp (c :: r)=0:=by simp only [jY,if_neg h]
   rw [h2,QbF,QaL]
theorem vg (k:Nat):∀ r:List Nat,r.length≤k->z7 false r=jB r:=by
 induction k with
 | zero=>
  intro r hr;have:r=[]:=QaU (by omega);subst this;have hg:=Y8 ([]:List Nat);simp at hg;rw [hg]; rfl
 | succ k ih=>
  intro r hr;have hle:=uu r;have key:z7 false r=gap r+if gap r=0 then 0 else z7 false (r.drop (gap r)):=by
   unfold gap;by_cases hb:jY qp r=0∧begins [47,47] r=true
   ·rw [if_pos hb];have hr2:r.take 2=[47,47]:=of_decide_eq_true hb.2
    match r,hr2 with
    | x :: y :: r',hr2=>
     obtain ⟨rfl,rfl⟩:x=47∧y=47:=by simpa using hr2
     have h2:jY Jp (47 :: 47 :: r')=jY Jp (47 :: r')+1:=rfl;have h3:z7 false (47 :: 47 :: r')=z7 true (47 :: r')+1:=by
      have h4:wg false (47 :: 47 :: r')=true:=by
       rw [J5,if_neg (by decide),if_pos ⟨rfl,rfl,rfl⟩]
      rw [z6,h4,Bool.true_or,if_pos rfl]
     rw [h3,Vm,h2,if_neg (by omega),List.drop_succ_cons];omega
    | [],hr2=>simp at hr2
    | [x],hr2=>simp at hr2
   ·rw [if_neg hb];by_cases h0:jY qp r=0
    ·rw [h0,if_pos rfl];cases r with
     | nil=>rfl
     | cons c r=>
      have hnb:¬ qp c=true:=λh=>by simp only [jY,if_pos h] at h0; omega
      have hnb':qp c=false:=by simpa using hnb
      have h1:wg false (c :: r)=false:=by
       rw [J5];by_cases h10:c=10
       ·rw [if_pos h10]
       ·rw [if_neg h10];refine if_neg λh=>hb ⟨h0,decide_eq_true ?_⟩;obtain ⟨_,rfl,h⟩:=h;cases r with
        | nil=>simp at h
        | cons d r=>simp at h; subst h; rfl
      rw [z6,h1,hnb']; rfl
    ·rw [if_neg h0]; exact WE r
  by_cases h0:gap r=0
  ·rw [key,Gx h0,h0]; rfl
  ·rw [key,Gw h0,if_neg h0,ih _ (by rw [QaQ]; omega)]
theorem Hs {x:Nat}{r:List Nat}{p:Nat×Nat}(hL:jV x=true):qL (x :: r) p=if 32<zu (x :: r) then (132,⟨1,[],0,p.1,p.2⟩,0) else (0,⟨if wh ((x :: r).take (zu (x :: r)))=true then 4 else 1,(x :: r).take (zu (x :: r)),0,p.1,p.2⟩,zu (x :: r)):=by
 have e:zu (x :: r)=jY qO (x :: r):=if_pos hL;rw [e];show (if jV x=true then _ else _)=_;rw [if_pos hL]
theorem ja7 {x:Nat}{r:List Nat}{p:Nat×Nat}(hL:jV x=false)(hD:jv x=true):qL (x :: r) p=if 7<zu (x :: r)∨1000000<Qv ((x :: r).take (zu (x :: r))) then (132,⟨2,[],0,p.1,p.2⟩,0) else (0,⟨2,(x :: r).take (zu (x :: r)),Qv ((x :: r).take (zu (x :: r))),p.1,p.2⟩,zu (x :: r)):=by
 have e:zu (x :: r)=jY jv (x :: r):=by
  rw [Xd,if_neg (by rw [hL]; decide),if_pos hD]
 rw [e];show (if jV x=true then _ else if jv x=true then _ else _)=_;rw [if_neg (by rw [hL]; decide),if_pos hD]
theorem jdd {x:Nat}{r:List Nat}{p:Nat×Nat}(hL:jV x=false)(hD:jv x=false)(hn:zu (x :: r)≠0):qL (x :: r) p=(0,⟨3,(x :: r).take (zu (x :: r)),0,p.1,p.2⟩,zu (x :: r)):=by
 have e:zu (x :: r)=JR (x :: r):=by
  rw [Xd,if_neg (by rw [hL]; decide),if_neg (by rw [hD]; decide)]
 rw [e] at hn ⊢;show (if jV x=true then _ else if jv x=true then _ else _)=_;rw [if_neg (by rw [hL]; decide),if_neg (by rw [hD]; decide)];simp only;rw [if_neg hn]
theorem jdB {x:Nat}{r:List Nat}(h:qp x=false∧x≠47):jB (x :: r)=0:=by
 have h10:x≠10:=λe=>by rw [e] at h; exact absurd h.1 (by decide)
 have e:wg false (x :: r)=false:=by rw [J5,if_neg h10,if_neg (λh'=>h.2 h'.2.1)]
 rw [←vg _ _ (Qaq _),z6,e,h.1];rfl
theorem jfx {x y:List Nat}{p q:Nat×Nat}(h1:x.drop (jB x)=y.drop (jB y))(h2:jC p (x.take (jB x))=jC q (y.take (jB y))):yr x p=yr y q:=by
 generalize hx:qL (x.drop (jB x)) (jC p (x.take (jB x)))=z;obtain ⟨e,t,n⟩:=z;have hy:qL (y.drop (jB y)) (jC q (y.take (jB y)))=(e,t,n):=by rw [←h1,←h2]; exact hx
 rw [Qr x p hx,Qr y q hy,h1,h2]
theorem jfy {r:List Nat}{p:Nat×Nat}{t:Tk}(h:qL (r.drop (jB r)) (jC p (r.take (jB r)))=(0,t,0)):yr r p=([t],(0,0,0)):=by
 rw [Qr r p h,if_neg (by decide),if_pos rfl]
theorem jdV {r:List Nat}{p:Nat×Nat}{n:Nat}{t:Tk}(h:qL (r.drop (jB r)) (jC p (r.take (jB r)))=(0,t,n))(hn:n≠0) :
  yr r p=ahead [t] (yr ((r.drop (jB r)).drop n) (jC (jC p (r.take (jB r))) ((r.drop (jB r)).take n))):=by
 have:=Ur (acc:=[]) h hn;rw [Kl] at this;exact this
end Go.Sy
end
noncomputable section
set_option maxRecDepth 100000
namespace Go.Sy
open Go.Ev Go.Proofs
def Jf (t:Tk):Nat×List Nat×Nat:=(t.kind,t.text,t.num)
mutual
def unE:Ex->Ex
 | .mk o n nm ks _ _=>.mk o n nm (zH ks) 0 0
def zH:List Ex->List Ex
 | []=>[]
 | x :: xs=>unE x :: zH xs
end
theorem gE:∀ xs,zH xs=xs.map unE
 | []=>rfl
 | x :: xs=>by rw [zH,gE xs]; rfl
def Agr (ts us:List Tk)(o i e:Nat):Prop:=∀ k,i≤k->k≤e->Jf (tk us (k+o))=Jf (tk ts k)
theorem Agr.mono {ts us:List Tk}{o i e i' e':Nat}(h:Agr ts us o i e)(h1:i≤i')(h2:e'≤e):Agr ts us o i' e':=λk a b=>h k (by omega) (by omega)
theorem jg3 {a b:Tk}{x y x' y':Ex}(h:Jf a=Jf b)(h1:unE x=unE x')(h2:unE y=unE y'):unE (yF a x y)=unE (yF b x' y'):=by
 unfold Jf at h;simp only [Prod.mk.injEq] at h;unfold yF;rw [h.2.1];split
 ·simp only [unE,zH,h1,h2]
 ·rfl
def RelP (o:Nat):PR->PR->Prop
 | .ok x j,.ok y k=>unE x=unE y∧k=j+o
 | .er _,.er _=>True
 | _,_=>False
theorem RelP.er {o:Nat}{t:Tk}{q:PR}(h:RelP o (.er t) q):∃ t',q=.er t':=by
 cases q with
 | ok x j=>exact h.elim
 | er t'=>exact ⟨t',rfl⟩
theorem RelP.ok {o j:Nat}{x:Ex}{q:PR}(h:RelP o (.ok x j) q):∃ x',q=.ok x' (j+o)∧unE x=unE x':=by
 cases q with
 | ok y k=>exact ⟨y,by rw [h.2],h.1⟩
 | er t'=>exact h.elim
mutual
theorem ud:∀ (d:Nat) (x:Ex),yc d (unE x)=yc d x
 | 0,_=>rfl
 | d+1,.mk o n nm ks l c=>by
  rw [vn,vn];have e1:(unE (.mk o n nm ks l c)).kids=zH ks:=rfl;have e2:ZQ (unE (.mk o n nm ks l c))=ZQ (.mk o n nm ks l c):=rfl;have e3:(zH ks).length=ks.length:=by rw [gE,QaN]
  rw [e1,e2,e3,Vs d ks];rfl
theorem Vs:∀ (d:Nat) (xs:List Ex),(zH xs).all (yc d)=xs.all (yc d)
 | _,[]=>rfl
 | d,x :: xs=>by rw [zH,Qbf,Qbf,ud d x,Vs d xs]
end
theorem jeU {d:Nat}{x y:Ex}(h:unE x=unE y):yc d x=yc d y:=by rw [←ud d x,h,ud]
end Go.Sy
end
noncomputable section
set_option maxRecDepth 100000
namespace Go.Sy
open Go.Ev Go.Proofs
def unA (a:AsT):AsT:=⟨a.name,unE a.to,0,0⟩
def unR (r:RuleT):RuleT:=⟨unE r.when,r.acts.map unA⟩
def unP (p:ProcT):ProcT:=⟨p.name,p.rules.map unR,0,0⟩
def unN (e:EnumT):EnumT:=⟨e.name,e.vals,0,0⟩
def unD (d:DeclT):DeclT:=⟨d.name,d.ty,d.lo,d.hi,d.begins.map unE,0,0⟩
section
variable {α β:Type}
def RelS (un:α->β)(o:Nat):SR α->SR α->Prop
 | .ok x j,.ok y k=>un x=un y∧k=j+o
 | .er _,.er _=>True
 | _,_=>False
theorem RelS.er {un:α->β}{o:Nat}{t:Tk}{q:SR α}(h:RelS un o (.er t) q):∃ t',q=.er t':=by
 cases q with
 | ok x j=>exact h.elim
 | er t'=>exact ⟨t',rfl⟩
theorem RelS.ok {un:α->β}{o j:Nat}{x:α}{q:SR α}(h:RelS un o (.ok x j) q):∃ x',q=.ok x' (j+o)∧un x=un x':=by
 cases q with
 | ok y k=>exact ⟨y,by rw [h.2],h.1⟩
 | er t'=>exact h.elim
end
end Go.Sy
end
noncomputable section
set_option maxRecDepth 100000
namespace Go.Sy
open Go.Ev Go.Proofs
def unS (m:SrcT):SrcT:=⟨m.enums.map unN,m.vars.map unD,m.procs.map unP⟩
def jlI:List (List Nat):=[[101,110,117,109],[118,97,114],[112,114,111,99,101,115,115]]
theorem Vl (ts:List Tk)(n i:Nat)(m:SrcT):yU ts (n+1) i m=if isM (tk ts i) jlI=true then
  (if (tk ts i).text=[101,110,117,109] then
   (if 32≤m.enums.length then .er (tk ts i) else match Xs ts (i+1) with
    | .er t=>.er t
    | .ok e j=>yU ts n j { m with enums:=m.enums ++ [e] })
  else if (tk ts i).text=[118,97,114] then
   (if 32≤m.vars.length then .er (tk ts i) else match Xt ts (i+1) with
    | .er t=>.er t
    | .ok e j=>yU ts n j { m with vars:=m.vars ++ [e] })
  else (if 32≤m.procs.length then .er (tk ts i) else match Xk ts (i+1) with
    | .er t=>.er t
    | .ok e j=>yU ts n j { m with procs:=m.procs ++ [e] }))
 else if (tk ts i).kind=5 then .ok m i else .er (tk ts i):=by rw [yU]; rfl
theorem HP {a b:SrcT}(h:unS a=unS b):a.enums.map unN=b.enums.map unN∧a.vars.map unD=b.vars.map unD∧a.procs.map unP=b.procs.map unP:=by
 unfold unS at h;simp only [SrcT.mk.injEq] at h;exact h
end Go.Sy
end
noncomputable section
set_option maxRecDepth 100000
namespace Go.Sy
open Go.Ev Go.Proofs
mutual
theorem XM:∀ x y:Ex,unE x=unE y->Ql x y=true
 | .mk o n nm ks l c,.mk o' n' nm' ks' l' c',h=>by
  simp only [unE,Ex.mk.injEq] at h;obtain ⟨rfl,rfl,rfl,h4,_⟩:=h;have:=ke ks ks' h4;simp [Ql,Ex.op,Ex.num,Ex.name,Ex.kids,this]
theorem ke:∀ xs ys:List Ex,zH xs=zH ys->wE xs ys=true
 | [],[],_=>rfl
 | x :: xs,y :: ys,h=>by
  simp only [zH,List.cons.injEq] at h;rw [wE,Qas];exact ⟨XM x y h.1,ke xs ys h.2⟩
 | [],y :: ys,h=>by simp [zH] at h
 | x :: xs,[],h=>by simp [zH] at h
end
theorem X4 {α β:Type}{f:α->α->Bool}{un:α->β}(hf:∀ x y,un x=un y->f x y=true):∀ xs ys:List α,xs.map un=ys.map un->qC f xs ys=true
 | [],[],_=>rfl
 | x :: xs,y :: ys,h=>by
  simp only [Qai,List.cons.injEq] at h;simp only [qC,Qas];exact ⟨hf x y h.1,X4 hf xs ys h.2⟩
 | [],y :: ys,h=>by simp at h
 | x :: xs,[],h=>by simp at h
theorem Kk {α:Type} [DecidableEq α]:∀ xs:List α,qC (λa b=>decide (a=b)) xs xs=true
 | []=>rfl
 | x :: xs=>by simp only [qC,Qas,decide_eq_true_eq]; exact ⟨trivial,Kk xs⟩
theorem jeQ (x y:AsT)(h:unA x=unA y):vj x y=true:=by
 simp only [unA,AsT.mk.injEq,and_true] at h;simp only [vj,Qas,decide_eq_true_eq];exact ⟨h.1,XM _ _ h.2⟩
theorem jeN (x y:RuleT)(h:unR x=unR y):Wa x y=true:=by
 simp only [unR,RuleT.mk.injEq] at h;simp only [Wa,Qas];exact ⟨XM _ _ h.1,X4 jeQ _ _ h.2⟩
theorem jcO (x y:ProcT)(h:unP x=unP y):Jn x y=true:=by
 simp only [unP,ProcT.mk.injEq,and_true] at h;simp only [Jn,Qas,decide_eq_true_eq];exact ⟨h.1,X4 jeN _ _ h.2⟩
theorem jcP (x y:EnumT)(h:unN x=unN y):Jo x y=true:=by
 simp only [unN,EnumT.mk.injEq,and_true] at h;simp only [Jo,Qas,decide_eq_true_eq];exact ⟨h.1,by rw [h.2]; exact Kk _⟩
theorem jeP (x y:DeclT)(h:unD x=unD y):Jj x y=true:=by
 simp only [unD,DeclT.mk.injEq,and_true] at h;simp only [Jj,Qas,decide_eq_true_eq];exact ⟨⟨⟨⟨h.1,h.2.1⟩,h.2.2.1⟩,h.2.2.2.1⟩,X4 XM _ _ h.2.2.2.2⟩
theorem jeM {a b:SrcT}(h:unS a=unS b):KH a b=true:=by
 have h:=HP h;simp only [KH,Qas];exact ⟨⟨X4 jcP _ _ h.1,X4 jeP _ _ h.2.1⟩,X4 jcO _ _ h.2.2⟩
end Go.Sy
end
noncomputable section
set_option maxRecDepth 100000
namespace Go.Sy
open Go.Ev Go.Proofs
abbrev qe:=Nat×List Nat×Nat
def Lx (s:List Nat)(cs:List qe)(ok:List Nat->Prop):Prop:=∀ rest p ts,ok rest->yr rest (jC p s)=(ts,(0,0,0))->∃ us,us.map Jf=cs∧yr (s ++ rest) p=(us ++ ts,(0,0,0))
theorem Lx.app {s s':List Nat}{cs cs':List qe}{ok ok':List Nat->Prop}(h:Lx s cs ok)(h':Lx s' cs' ok')(k:∀ r,ok' r->ok (s' ++ r)):Lx (s ++ s') (cs ++ cs') ok':=by
 intro rest p ts hr hc;rw [vZ] at hc;obtain ⟨us',e',c'⟩:=h' rest _ ts hr hc;obtain ⟨us,e,c⟩:=h (s' ++ rest) p _ (k _ hr) c';exact ⟨us ++ us',by rw [QbM,e,e'],by rw [QaC,c,QaC]⟩
theorem Lx.nil {ok:List Nat->Prop}:Lx [] [] ok:=λrest p ts _ h=>⟨[],rfl,h⟩
theorem Lx.word {x:Nat}{w:List Nat}{c:qe}{ok:List Nat->Prop}(hg:qp x=false∧x≠47)(h:∀ rest p,ok rest->∃ t,qL (x :: (w ++ rest)) p=(0,t,w.length+1)∧Jf t=c):Lx (x :: w) [c] ok:=by
 intro rest p ts hr hc;have g:jB (x :: (w ++ rest))=0:=jdB hg;obtain ⟨t,ht,hcore⟩:=h rest p hr;refine ⟨[t],by simp [hcore],?_⟩;have e1:(x :: (w ++ rest)).drop 0=x :: (w ++ rest):=rfl;have e2:jC p ((x :: (w ++ rest)).take 0)=p:=rfl;have:=jdV (r:=x :: (w ++ rest)) (p:=p) (n:=w.length+1) (t:=t) (by rw [g,e1,e2]; exact ht) (by omega);rw [g,e1,e2] at this;have d1:(x :: (w ++ rest)).drop (w.length+1)=rest:=by simp
 have d2:(x :: (w ++ rest)).take (w.length+1)=x :: w:=by simp
 rw [d1,d2,hc] at this;exact this
theorem Lx.gap {c:Nat}(hc:c=32∨c=10){ok:List Nat->Prop}:Lx [c] [] ok:=by
 intro rest p ts _ h;refine ⟨[],rfl,?_⟩;have g:jB (c :: rest)=jB rest+1:=by
  rw [←vg _ _ (Qaq _),←vg _ _ (Qaq _),z6];rcases hc with rfl | rfl <;> rfl
 show yr (c :: rest) p=(ts,(0,0,0));rw [←h];refine jfx ?_ ?_
 ·rw [g]; rfl
 ·rw [g]; rfl
def okI (r:List Nat):Prop:=∀ c,r.head? = some c->qO c=false
def okS (r:List Nat):Prop:=∀ c,r.head? = some c->c≠46∧c≠61∧c≠62∧c≠45
def okZ (_:List Nat):Prop:=True
theorem UQ {p:Nat->Bool}:∀ {w r:List Nat},(∀ c∈w,p c=true)->(∀ c,r.head? = some c->p c=false)->jY p (w ++ r)=w.length
 | [],[],_,_=>rfl
 | [],c :: r,_,h=>by
  have:=h c rfl;show (if p c=true then _ else 0)=0;rw [this]; rfl
 | x :: w,r,h1,h2=>by
  have hx:=h1 x (by simp);show (if p x=true then jY p (w ++ r)+1 else 0)=_;rw [if_pos hx,UQ (λc hc=>h1 c (by simp [hc])) h2]; rfl
theorem gF (w r:List Nat):(w ++ r).take w.length=w:=by simp
theorem jbb {x:Nat}(h:jV x=true):qp x=false∧x≠47:=by
 unfold jV at h; unfold qp;simp at h ⊢; omega
theorem jdT {x:Nat}(h:jv x=true):qp x=false∧x≠47∧jV x=false:=by
 unfold jv at h; unfold qp jV;simp at h ⊢; omega
theorem jac {p:Nat->Bool}:∀ {w:List Nat},jY p w=w.length->∀ c∈w,p c=true
 | [],_,c,h=>by simp at h
 | x :: w,h,c,hc=>by
  by_cases hx:p x=true
  ·have h':jY p w+1=w.length+1:=by
    have e:jY p (x :: w)=jY p w+1:=by show (if p x=true then _ else _)=_; rw [if_pos hx]
    rw [←e]; exact h
   rcases Qbe.1 hc with rfl | hc
   ·exact hx
   ·exact jac (by omega) c hc
  ·have e:jY p (x :: w)=0:=by show (if p x=true then _ else _)=_; rw [if_neg hx]
   rw [e] at h; simp at h
theorem Lx.letters {w:List Nat}(h1:jV (w.getD 0 0)=true)(h2:w.length≤32)(h3:jY qO w=w.length)(h0:w≠[]):Lx w [(if wh w=true then 4 else 1,w,0)] okI:=by
 cases w with
 | nil=>exact absurd rfl h0
 | cons x w=>
  have hx:jV x=true:=h1;refine Lx.word (jbb hx) λrest p hr=>?_;have hw:zu (x :: (w ++ rest))=w.length+1:=by
   rw [Xd,if_pos hx];exact UQ (w:=x :: w) (jac h3) hr
  have ht:(x :: (w ++ rest)).take (w.length+1)=x :: w:=gF (x :: w) rest;have h2':¬ 32<w.length+1:=by simpa using h2
  rw [Hs hx,hw,if_neg h2',ht];exact ⟨_,rfl,rfl⟩
theorem Lx.name {w:List Nat}(h:nm w=true):Lx w [(1,w,0)] okI:=by
 unfold nm at h;simp only [Qas,decide_eq_true_eq,QaV] at h;have:=Lx.letters h.1.1.2 h.1.1.1.2 h.2 h.1.1.1.1;rw [if_neg (by rw [h.1.2]; decide)] at this;exact this
theorem Lx.sign {w:List Nat}{ok:List Nat->Prop}(h0:w≠[])(h1:jV (w.getD 0 0)=false)(h2:jv (w.getD 0 0)=false)(h3:qp (w.getD 0 0)=false∧w.getD 0 0≠47)(h:∀ r,ok r->JR (w ++ r)=w.length):Lx w [(3,w,0)] ok:=by
 cases w with
 | nil=>exact absurd rfl h0
 | cons x w=>
  refine Lx.word h3 λrest p hr=>?_;have hw:zu (x :: (w ++ rest))=w.length+1:=by
   rw [Xd,if_neg (by rw [show jV x=false from h1]; decide),if_neg (by rw [show jv x=false from h2]; decide)];exact h rest hr
  have ht:(x :: (w ++ rest)).take (w.length+1)=x :: w:=gF (x :: w) rest;rw [jdd (x:=x) h1 h2 (by rw [hw]; omega),hw,ht];exact ⟨_,rfl,rfl⟩
theorem jjl {w r:List Nat}(hw:w∈yz)(hr:okS r):JR (w ++ r)=w.length:=by
 cases r with
 | nil=>
  have:∀ w∈yz,JR (w ++ [])=w.length:=by decide
  exact this w hw
 | cons c r=>
  obtain ⟨h1,h2,h3,h4⟩:=hr c rfl;have e1:¬ 46=c:=λe=>h1 e.symm;simp only [yz,Qbe,List.not_mem_nil,or_false] at hw;rcases hw with rfl | rfl | rfl | rfl | rfl | rfl | rfl | rfl | rfl | rfl | rfl | rfl | rfl | rfl | rfl | rfl | rfl | rfl | rfl | rfl | rfl | rfl | rfl <;> simp [JR,yz,Qc,begins,h1,h2,h3,h4]
theorem Lx.signS {w:List Nat}(hw:w∈yz):Lx w [(3,w,0)] okS:=by
 have k:∀ w∈yz,w≠[]∧jV (w.getD 0 0)=false∧jv (w.getD 0 0)=false∧qp (w.getD 0 0)=false∧w.getD 0 0≠47:=by decide
 obtain ⟨h0,h1,h2,h3⟩:=k w hw;exact Lx.sign h0 h1 h2 h3 λr hr=>jjl hw hr
theorem Lx.signA {w:List Nat}(hw:w∈[[40],[41],[46,46],[59],[44]]):Lx w [(3,w,0)] okZ:=by
 have k:∀ w∈([[40],[41],[46,46],[59],[44]]:List (List Nat)),w≠[]∧jV (w.getD 0 0)=false∧jv (w.getD 0 0)=false∧qp (w.getD 0 0)=false∧w.getD 0 0≠47:=by decide
 obtain ⟨h0,h1,h2,h3⟩:=k w hw;refine Lx.sign h0 h1 h2 h3 λr _=>?_;simp only [Qbe,List.not_mem_nil,or_false] at hw;rcases hw with rfl | rfl | rfl | rfl | rfl <;> simp [JR,yz,Qc,begins]
theorem jhE (n:Nat):zr n=if n<10 then [48+n] else zr (n / 10) ++ [48+n % 10]:=by rw [zr]
theorem W7 (n:Nat):(∀ c∈zr n,jv c=true)∧zr n≠[]∧Qv (zr n)=n:=by
 induction n using Nat.strongRecOn with
 | _ n ih=>
 rw [jhE];have d:∀ m,m<10->jv (48+m)=true:=by decide
 by_cases h:n<10
 ·rw [if_pos h];refine ⟨λc hc=>?_,by simp,?_⟩
  ·simp at hc; subst hc; exact d n h
  ·show 10 * 0+(48+n - 48)=n;omega
 ·rw [if_neg h];obtain ⟨i1,i2,i3⟩:=ih (n / 10) (by omega);refine ⟨λc hc=>?_,by simp,?_⟩
  ·rcases List.mem_append.1 hc with hc | hc
   ·exact i1 c hc
   ·simp at hc; subst hc; exact d _ (by omega)
  ·unfold Qv at i3 ⊢;rw [List.foldl_append,i3];show 10 * (n / 10)+(48+n % 10 - 48)=n;omega
theorem p7:(10:Nat) ^ (6+1)=10000000:=by decide
theorem Lx.num {n:Nat}(h:n≤1000000):Lx (zr n) [(2,zr n,n)] okI:=by
 obtain ⟨h1,h0,h2⟩:=W7 n;have h7:=QX 6 n (by rw [p7]; omega)
 revert h1 h0 h2 h7
 generalize zr n=w;intro h1 h0 h2 h7;cases w with
 | nil=>exact absurd rfl h0
 | cons x w=>
  have hx:=h1 x (by simp);obtain ⟨g1,g2,g3⟩:=jdT hx;refine Lx.word ⟨g1,g2⟩ λrest p hr=>?_;have hw:zu (x :: (w ++ rest))=w.length+1:=by
   rw [Xd,if_neg (by rw [g3]; decide),if_pos hx];refine UQ (w:=x :: w) h1 λc hc=>?_;have:=hr c hc;unfold qO at this;simp at this;exact this.1.2
  have ht:(x :: (w ++ rest)).take (w.length+1)=x :: w:=gF (x :: w) rest;have hn:¬ (7<w.length+1∨1000000<Qv (x :: w)):=by
   rw [h2]; simp at h7; omega
  rw [ja7 g3 hx,hw,ht,if_neg hn,h2];exact ⟨_,rfl,rfl⟩
end Go.Sy
end
