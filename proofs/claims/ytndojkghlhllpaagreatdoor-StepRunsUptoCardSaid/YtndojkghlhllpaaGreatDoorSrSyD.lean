/-
  Contracts: the code lowered, what it does told by rules, and the contracts of the functions that the law reaches.
-/
import Derived.Test.YtndojkghlhllpaaGreatDoorSrSyC
import Derived.Test.YtndojkghlhllpaaGreatDoorProg
import Derived.KernelRfl
import Derived.ChangeArms
set_option linter.unusedVariables false
set_option linter.unusedSimpArgs false
open Nat renaming reduceAdd → γ, reduceSub → δ, reduceMul → ζ, reduceBEq → θ, le_refl → τ, le_trans → Qab, zero_le → Qae, zero_add → Qak, le_max_left → Qar, le_max_right → Qas, lt_or_ge → Qau, not_lt_zero → Qaw, lt_of_lt_of_le → Qax, mul_le_mul_right → Qaz, add_mul → QaH, sub_zero → QaL, zero_mul → QaN, succ_pos → QaR, succ_mul → QaT, le_of_eq → QaU, lt_irrefl → Qbb, mul_one → Qbg, ne_of_lt → Qbk, add_assoc → Qbl, lt_succ_self → Qbo, add_zero → Qbq, mod_eq_of_lt → Qbt, one_mul → Qbv, add_comm → Qbw, succ_lt_succ → QbA, min_eq_left → QbD, le_of_lt → QbK, lt_trichotomy → Qcf, le_succ_of_le → Qcn, beq → Qcr, succ → Qcs, ble → Qct, add → Qcu, mul → Qcv, sub → Qcw
open Go.Proofs.Tryz renaming prog → ε
open Int renaming reduceToNat → η, natCast_zero → φ, zero_add → χ, ofNat → Qay, eq_ofNat_of_zero_le → Qbx, natCast_nonneg → QbS, toNat_natCast → QbZ
open List renaming map_cons → κ, map_nil → μ, getD_cons_zero → ν, getD_cons_succ → ξ, length_cons → υ, length_append → ψ, length_nil → ω, getElem_mem → Qac, getD → Qad, take_length → Qaf, cons_append → Qag, range' → Qah, getElem?_eq_getElem → Qai, all_eq_true → Qaj, nil_append → Qal, getD_eq_getElem?_getD → Qam, range → Qan, length_map → Qap, cons → Qaq, length_take → Qat, mem_append → Qav, length_drop → QaD, all_cons → QaF, take_zero → QaG, append_assoc → QaI, mem_map → QaJ, mem_cons → QaS, eq_nil_of_length_eq_zero → QaV, append_nil → QaW, all_append → QaX, map_congr_left → QaY, drop_zero → Qba, length_set → Qbc, map_map → Qbd, map_append → Qbf, mem_singleton → Qbh, ext_getElem → Qbi, range'_succ → Qbj, foldl_append → Qbm, mem_range → Qbn, take_append_drop → Qbp, drop_drop → Qbr, mem_iff_getElem → Qbs, getElem_cons_zero → Qby, length_pos_iff → QbB, getElem?_take → QbC, getElem?_map → QbH, map_toArray → QbI, getElem_cons_succ → QbL, getElem_cons_drop → QbM, drop_length → QbN, getElem?_drop → QbO, mem_of_mem_take → QbP, take_take → QbQ, foldr_cons → QbT, take_add_one → QbU, mem_cons_of_mem → QbW, any_eq_false → QbX, length_eq_zero_iff → QbY, flatMap_cons → Qcb, getElem?_append_left → Qcc, getElem?_append_right → Qcd, mem_append_left → Qch, countP_singleton → Qci, take_succ_cons → Qcj, drop_eq_getElem_cons → Qck, take_of_length_le → Qcl
open Bool renaming and_eq_true → Qaa, eq_iff_iff → QaA, or_eq_true → QaE, not_eq_true' → QaO, false_eq_true → QaP, true_and → QaQ, true_eq_false → Qbz, or_eq_false_iff → QbF, not_true → QbG, and_eq_false_iff → QbR, eq_false_iff → Qcm
open Array renaming length_toList → Qao, getElem?_eq_some_iff → QaB, replicate → QaK, toList_map → Qbu, getElem?_toList → QbJ, getD_eq_getD_getElem? → QbV, toList_append → Qce, mem_toList_iff → Qcg, getElem?_eq_getElem → Qco, getElem?_setIfInBounds_ne → Qcp
open Option renaming map_some → QaC, getD_some → QaM, bind_some → QaZ, map_none → Qbe, map_eq_some_iff → QbE, isSome_iff_exists → Qcq
open Function renaming comp_def → Qca
noncomputable section
set_option maxRecDepth 100000
namespace Go.Sy
open Go.Ev Go.Proofs
variable {base:Bs}
theorem KV {ts:List Tk}(W:Wds ts){i j:Nat}{n:Int}(hi:i<ts.length)(h:Y8 ts i=.ok n j):j<ts.length:=by
 unfold Y8 at h;by_cases c:isM (tk ts i) [[45]]=true
 ·rw[if_pos c] at h;have h1:=W.isM hi c;by_cases k:(tk ts (i+1)).kind=2
  ·rw[if_pos k] at h;cases h;exact W.next _ h1 om
  ·rw[if_neg k] at h;cases h
 ·rw[if_neg c] at h;by_cases k:(tk ts i).kind=2
  ·rw[if_pos k] at h;cases h;exact W.next _ hi om
  ·rw[if_neg k] at h;cases h
set_option maxHeartbeats 4000000 in
theorem jsV (hb:NB base){ts:List Tk}(W:Wds ts)(N:Nbs ts){i:Nat}(hi:i<ts.length){nm:List Nat}{ln co:Nat}{r:SR DeclT}
  (hr:(match Wp ts i with | .er t=>SR.er t | .ok y j=>(match wj ts j with | .er t=>.er t | .ok bs k=>.ok ⟨nm,y.1,y.2.1,y.2.2,bs,ln,co⟩ k))=r) {L:Sl} {s:St} (n0:4<=s.nx) (C0:Cl s 0 (pC ts i 0)) (C1:Cl s 1 zD)
  (C3:Cl s 3 [.str nm,.str [],.int .i64 0,.int .i64 0,.nils,.int .i64 (ln:Int),.int .i64 (co:Int)]) (i0:Has L 0 (.ptr 0 0)) (i2:Has L 2 (.ptr 1 0)) (i4:Has L 4 (.ptr 3 0)) :
  xC ε base jeW L s (Xp ε y79.res (SK ts 0 (λd=>.agg (qk d)) r)) λv _ s=>SP ts r v s.bare:=by
 have wl:=W.len;have L0:=C0.lt;have L1:=C1.lt;have L3:=C3.lt;have T:=Y0 hb hi (d:=0) om [[98,111,111,108]] (cs:=[.str [98,111,111,108]]) (n:=1) rfl rfl dc;have hN:=λst p=>@Y9 base hb ts i 0 hi st p;have hM:=λst p=>@uZ base hb ts i 0 hi om st p;unfold Wp at hr;unfold zD pC at *;rw[(by unfold jeW;simp only[qq];rfl:jeW=_)];by_cases c1:isM (tk ts i) [[98,111,111,108]]=true
 ·rw[if_pos c1] at hr;have hi1:=W.isM hi c1
  (have zz:=aI C0.r (aI C1.r C3.r);(repeat'(first|apply jc<;>intro _|simp(disch:=first|exact qT|fail) only[ja i0,ja i2,ja i4,T,c1,C0.q,C1.q,C3.q,C0.r,C1.r,C3.r,r6,γ,δ,ζ,η,θ]));all_goals clear zz)
  refine jge hb W hi1 hr ?_ ?_ ?_ ?_ ?_ ?_ ?_
  ·simp only[ji,jo,ju];omega
  ·unfold pC
   (have zz:=aI C0.q (aI C1.q (aI C3.q (aI C0.r (aI C1.r C3.r))));first|exact qp|fail)
  ·unfold zD
   (have zz:=aI C0.q (aI C1.q (aI C3.q (aI C0.r (aI C1.r C3.r))));first|exact qp|fail)
  ·(have zz:=aI C0.q (aI C1.q (aI C3.q (aI C0.r (aI C1.r C3.r))));first|exact qp|fail)
  ·simp(disch:=decide) only[h12,i0]
  ·simp(disch:=decide) only[h12,i2]
  ·simp(disch:=decide) only[h12,i4]
 rw[if_neg c1] at hr;by_cases k1:(tk ts i).kind=1
 ·rw[if_pos k1] at hr;have k1':((tk ts i).kind:Int)=1:=om
  have hi1:i+1<ts.length:=W.next i hi om
  (have zz:=aI C0.r (aI C1.r C3.r);(repeat'(first|apply jc<;>intro _|simp(disch:=first|exact qT|fail) only[ja i0,ja i2,ja i4,T,c1,k1,k1',hN,hM,C0.q,C1.q,C3.q,C0.r,C1.r,C3.r,r6,γ,δ,ζ,η,θ]));all_goals clear zz)
  refine jge hb W hi1 hr ?_ ?_ ?_ ?_ ?_ ?_ ?_
  ·simp only[ji,jo,ju];omega
  ·unfold pC
   (have zz:=aI C0.q (aI C1.q (aI C3.q (aI C0.r (aI C1.r C3.r))));first|exact qp|fail)
  ·unfold zD
   (have zz:=aI C0.q (aI C1.q (aI C3.q (aI C0.r (aI C1.r C3.r))));first|exact qp|fail)
  ·(have zz:=aI C0.q (aI C1.q (aI C3.q (aI C0.r (aI C1.r C3.r))));first|exact qp|fail)
  ·simp(disch:=decide) only[h12,i0]
  ·simp(disch:=decide) only[h12,i2]
  ·simp(disch:=decide) only[h12,i4]
 rw[if_neg k1] at hr;have k1':¬ ((tk ts i).kind:Int)=1:=om
 have A:=jb8 hb W N hi (d:=0);cases hn:Y8 ts i with
 |er t=>
  rw[hn] at hr A;have hr:SR.er t=r:=hr;subst hr;obtain⟨i',d',A⟩:=A;have E:∀ st p,Cl st p (pC ts i 0)->∀ K Kp,XB ε base 122 [.ptr p 0] st K Kp=_:=λst p C K Kp=>A.xb C rfl (λst=>hb.no 122 dc _ _) K Kp;unfold pC at *
  (have zz:=aI C0.r (aI C1.r C3.r);(repeat'(first|apply jc<;>intro _|simp(disch:=first|exact qT|fail) only[ja i0,ja i2,ja i4,T,c1,k1',hN,E,zL,C0.q,C1.q,C3.q,C0.r,C1.r,C3.r,r6,γ,δ,ζ,η,θ]));all_goals clear zz)
  refine⟨i',d',?_⟩;unfold pC
  (refine G1.done ?_ (by rfl) (by rfl) ?_;(· (have zz:=aI C0.q (aI C1.q (aI C3.q (aI C0.r (aI C1.r C3.r))));first|exact qp|fail));(· first|exact vyD|skip))
 |ok lo j=>
  rw[hn] at hr A;dsimp only at hr;have A:PM _ _ _ _ _ _ _:=A;have hj:j<ts.length:=KV W hi hn;have E:∀ st p,Cl st p (pC ts i 0)->∀ K Kp,XB ε base 122 [.ptr p 0] st K Kp=_:=λst p C K Kp=>A.xb C rfl (λst=>hb.no 122 dc _ _) K Kp;have M:=λst p=>@QV base hb ts j 0 hj om [46,46] st p;by_cases c2:isM (tk ts j) [[46,46]]=true
  ·rw[if_pos c2] at hr;have hj1:=W.isM hj c2;have B:=jb8 hb W N hj1 (d:=0);cases hn2:Y8 ts (j+1) with
   |er t=>
    rw[hn2] at hr B;have hr:SR.er t=r:=hr;subst hr;obtain⟨i',d',B⟩:=B;have F:∀ st p,Cl st p (pC ts (j+1) 0)->∀ K Kp,XB ε base 122 [.ptr p 0] st K Kp=_:=λst p C K Kp=>B.xb C rfl (λst=>hb.no 122 dc _ _) K Kp;unfold pC at *
    (have zz:=aI C0.r (aI C1.r C3.r);(repeat'(first|apply jc<;>intro _|simp(disch:=first|exact qT|fail) only[ja i0,ja i2,ja i4,T,c1,k1',hN,E,F,M,c2,zL,C0.q,C1.q,C3.q,C0.r,C1.r,C3.r,r6,γ,δ,ζ,η,θ]));all_goals clear zz)
    refine⟨i',d',?_⟩;unfold pC
    (refine G1.done ?_ (by rfl) (by rfl) ?_;(· (have zz:=aI C0.q (aI C1.q (aI C3.q (aI C0.r (aI C1.r C3.r))));first|exact qp|fail));(· first|exact vyD|skip))
   |ok h2 k=>
    rw[hn2] at hr B;have hk:k<ts.length:=KV W hj1 hn2;have B:PM _ _ _ _ _ _ _:=B;have F:∀ st p,Cl st p (pC ts (j+1) 0)->∀ K Kp,XB ε base 122 [.ptr p 0] st K Kp=_:=λst p C K Kp=>B.xb C rfl (λst=>hb.no 122 dc _ _) K Kp;unfold pC at *
    (have zz:=aI C0.r (aI C1.r C3.r);(repeat'(first|apply jc<;>intro _|simp(disch:=first|exact qT|fail) only[ja i0,ja i2,ja i4,T,c1,k1',hN,E,F,M,c2,C0.q,C1.q,C3.q,C0.r,C1.r,C3.r,r6,γ,δ,ζ,η,θ]));all_goals clear zz)
    refine jge hb W hk hr ?_ ?_ ?_ ?_ ?_ ?_ ?_
    ·simp only[ji,jo,ju];omega
    ·unfold pC
     (have zz:=aI C0.q (aI C1.q (aI C3.q (aI C0.r (aI C1.r C3.r))));first|exact qp|fail)
    ·unfold zD
     (have zz:=aI C0.q (aI C1.q (aI C3.q (aI C0.r (aI C1.r C3.r))));first|exact qp|fail)
    ·(have zz:=aI C0.q (aI C1.q (aI C3.q (aI C0.r (aI C1.r C3.r))));first|exact qp|fail)
    ·simp(disch:=decide) only[h12,i0]
    ·simp(disch:=decide) only[h12,i2]
    ·simp(disch:=decide) only[h12,i4]
  ·rw[if_neg c2] at hr;have hr:SR.er (tk ts j)=r:=hr;subst hr;unfold pC at *
   (have zz:=aI C0.r (aI C1.r C3.r);(repeat'(first|apply jc<;>intro _|simp(disch:=first|exact qT|fail) only[ja i0,ja i2,ja i4,T,c1,k1',hN,E,M,c2,zL,C0.q,C1.q,C3.q,C0.r,C1.r,C3.r,r6,γ,δ,ζ,η,θ]));all_goals clear zz)
   refine⟨j,0,?_⟩;unfold pC
   (refine G1.done ?_ (by rfl) (by rfl) ?_;(· (have zz:=aI C0.q (aI C1.q (aI C3.q (aI C0.r (aI C1.r C3.r))));first|exact qp|fail));(· first|exact vyD|skip))
set_option maxHeartbeats 4000000 in
theorem jrt (hb:NB base){ts:List Tk}(W:Wds ts)(N:Nbs ts){i:Nat}(hi:i<ts.length):AnS base 89 (pC ts i 0) [] ts 0 (λd=>.agg (qk d)) (Yw ts i):=by
 have wl:=W.len;have hM:=λst p=>@uZ base hb ts i 0 hi om st p;unfold Yw;by_cases k1:(tk ts i).kind=1
 ·rw[if_pos k1];have hi1:i+1<ts.length:=W.next i hi om
  have M:=λst p=>@QV base hb ts (i+1) 0 hi1 om [58] st p;by_cases c1:isM (tk ts (i+1)) [[58]]=true
  ·rw[if_pos c1];have hi2:=W.isM hi1 c1;suffices h:∀ r:SR DeclT,(match Wp ts (i+2) with | .er t=>SR.er t | .ok y j=>(match wj ts j with | .er t=>.er t | .ok bs k=>.ok ⟨(tk ts i).text,y.1,y.2.1,y.2.2,bs,(tk ts i).line,(tk ts i).col⟩ k))=r->AnS base 89 (pC ts i 0) [] ts 0 (λd=>.agg (qk d)) r from h _ rfl
   intro r hr;refine vR x79 (by rfl) (hb.pur 89 3 dc) ?_;simp only[y79,jt,κ,μ,ν,ξ];rw[(by unfold z79;simp only[qq];rfl:z79=_)];unfold pC at *;repeat'(first|apply jc<;>intro _|simp(disch:=first|exact dzD|fail) only[hM,k1,M,c1,r6,γ,δ,ζ,η,θ])
   refine jsV hb W N hi2 hr ?_ ?_ ?_ ?_ ?_ ?_ ?_
   ·simp only[ji,jo,ju,ym];omega
   ·unfold pC
    (first|exact cyD|fail)
   ·unfold zD
    (first|exact cyD|fail)
   ·(first|exact cyD|fail)
   ·simp(disch:=decide) only[h12]
   ·simp(disch:=decide) only[h12]
   ·simp(disch:=decide) only[h12]
  ·rw[if_neg c1];refine⟨i+1,0,?_⟩;unfold pC at *;refine qc x79 (by rfl) (hb.pur 89 3 dc) rfl ?_;simp only[y79,jt,κ,μ,ν,ξ];rw[(by unfold z79;simp only[qq];rfl:z79=_)];repeat'(first|apply jc<;>intro _|simp(disch:=first|exact dzD|fail) only[hM,k1,M,c1,r6,γ,δ,ζ,η,θ])
   (refine G1.done ?_ (by rfl) (by rfl) ?_;(· (first|exact cyD|fail));(· first|exact vyD|skip))
 ·rw[if_neg k1];refine⟨i,0,?_⟩;unfold pC at *;refine qc x79 (by rfl) (hb.pur 89 3 dc) rfl ?_;simp only[y79,jt,κ,μ,ν,ξ];rw[(by unfold z79;simp only[qq];rfl:z79=_)];repeat'(first|apply jc<;>intro _|simp(disch:=first|exact dzD|fail) only[hM,k1,r6,γ,δ,ζ,η,θ])
  (refine G1.done ?_ (by rfl) (by rfl) ?_;(· (first|exact cyD|fail));(· first|exact vyD|skip))
structure AsT where
 name:List Nat
 to:Ex
 line:Int
 col:Int
def asE (a:AsT):List AV:=.str a.name :: (eE a.to ++ [.int .i64 (a.line:Int),.int .i64 (a.col:Int)])
theorem ZW (a:AsT):(asE a).length=9:=nr (by simp[asE,zK])
theorem Xb (a:AsT):(asE a).all pc=true:=nr (by simp[asE,qZ,pc])
theorem gR (a:AsT):lall AV.cell (asE a)=true:=nr (by unfold asE;rw[qJ];rfl)
structure RuleT where
 when:Ex
 acts:List AsT
def ruE (r:RuleT):List AV:=eE r.when ++ [.lst r.acts.length (fl asE r.acts)]
def QR (ts:List Tk):Nat->Nat->List AsT->SR (List AsT)
 |0,i,_=>.er (tk ts i)
 |n+1,i,vs=>if(tk ts i).kind=1 then
   (if 32<=vs.length then .er (tk ts i)
    else if isM (tk ts (i+1)) [[58,61]]=true then(match yt ts (i+2) with
     |.er t=>.er t
     |.ok x j=>
      if isM (tk ts j) [[44]]=true then QR ts n (j+1) (vs ++ [⟨(tk ts i).text,x,(tk ts i).line,(tk ts i).col⟩])
      else if isM (tk ts j) [[59]]=true then .ok (vs ++ [⟨(tk ts i).text,x,(tk ts i).line,(tk ts i).col⟩]) (j+1)
      else .er (tk ts j))
    else .er (tk ts (i+1)))
  else .er (tk ts i)
def XA (ts:List Tk)(i:Nat):SR RuleT:=
 match yt ts i with
 |.er t=>.er t
 |.ok x j=>if isM (tk ts j) [[100,111]]=true then(match QR ts ts.length (j+1) [] with
   |.ok vs k=>.ok ⟨x,vs⟩ k
   |.er t=>.er t)
  else .er (tk ts j)
theorem jqd:Go.Ev.isAgg ε 118=some false:=by kernel_rfl
theorem jqc:Go.Ev.sizeOf ε 118=some 1:=by kernel_rfl
theorem jat {b o:Nat}{v:AV}{h:T AO}(ho:o<qv h b)(hv:rat h b o=v)(hc:eqs v=true):(j9 ε 118 (.ptr b o) v h=true)=True:=eq_true (Qk jqd jqc ho hv hc)
theorem sm3 {b o:Nat}{v:AV}{h:T AO}(ho:o<qv h b)(hv:rat h b o=v)(hc:eqs v=true):(j9 ε 3 (.ptr b o) v h=true)=True:=eq_true (Qk jqb jqa ho hv hc)
set_option maxHeartbeats 4000000 in
theorem jqv (hb:NB base){ts:List Tk}(W:Wds ts){i:Nat}(hi:i<ts.length):AnS base 123 (pC ts i 0) [] ts 0 (λe=>.agg (ruE e)) (XA ts i):=by
 have wl:=W.len;have A:=Uu hb W hi;unfold XA;cases hw:yt ts i with
 |er t=>
  rw[hw] at A;obtain⟨i',d',A⟩:=A;have E:∀ st p,Cl st p (pC ts i 0)->∀ K Kp,XB ε base 72 [.ptr p 0] st K Kp=_:=λst p C K Kp=>A.xb C rfl (λst=>hb.no 72 dc _ _) K Kp;refine⟨i',d',?_⟩;unfold pC at *;refine qc jkx (by rfl) (hb.pur 123 3 dc) rfl ?_;simp only[je7,jt,κ,μ,ν,ξ];rw[(by unfold kE;simp only[qq];rfl:kE=_)];repeat'(first|apply jc<;>intro _|simp(disch:=first|exact dzD|fail) only[E,r6,γ,δ,ζ,η,θ])
  (refine G1.done ?_ (by rfl) (by rfl) ?_;(· (first|exact cyD|fail));(· first|exact vyD|skip))
 |ok x j=>
  rw[hw] at A;have A:PM _ _ _ _ _ _ _:=A;rw[qJ] at A;have hj:j<ts.length:=(yh W hi hw).2.1;have E:∀ st p,Cl st p (pC ts i 0)->∀ K Kp,XB ε base 72 [.ptr p 0] st K Kp=_:=λst p C K Kp=>A.xb C rfl (λst=>hb.no 72 dc _ _) K Kp;have M:=λst p=>@QV base hb ts j 0 hj om [100,111] st p;dsimp only;by_cases c1:isM (tk ts j) [[100,111]]=true
  ·rw[if_pos c1];have hj1:=W.isM hj c1;suffices h:∀ r:SR RuleT,(match QR ts ts.length (j+1) [] with | .ok vs k=>SR.ok ⟨x,vs⟩ k | .er t=>.er t)=r->AnS base 123 (pC ts i 0) [] ts 0 (λe=>.agg (ruE e)) r from h _ rfl
   intro r hr;refine vR jkx (by rfl) (hb.pur 123 3 dc) ?_;simp only[je7,jt,κ,μ,ν,ξ];rw[(by unfold kE;simp only[qq];rfl:kE=_)];unfold pC at *;repeat'(first|apply jc<;>intro _|simp(disch:=first|exact dzD|fail) only[E,M,c1,r6,γ,δ,ζ,η,θ])
   refine uO λu hu=>?_;have n0:u.nx=3:=by rw[hu];rfl
   have C0:Cl u 0 (pC ts (j+1) 0):=by
    rw[hu];unfold pC
    (first|exact cyD|fail)
   have C1:Cl u 1 [.int .i64 0,.int .i64 0,.str [],.nils,.int .i64 0,.int .i64 0,.nils]:=by
    rw[hu]
    (first|exact cyD|fail)
   have C2:Cl u 2 [.int .i64 x.op,.int .i64 x.num,.str x.name,.lst x.kids.length (fl eE x.kids),.int .i64 x.line,.int .i64 x.col,.nils]:=by
    rw[hu]
    (first|exact cyD|fail)
   clear hu E M A;refine zu (λmm L s=>∃ (m i':Nat) (vs:List AsT) (v:AV),mm=m/\ts.length<=i'+m/\i'<ts.length/\(match QR ts m i' vs with | .ok vs k=>SR.ok ⟨x,vs⟩ k | .er t=>.er t:SR RuleT)=r/\3<=s.nx/\Cl s 0 (pC ts i' 0)/\Cl s 1 [.int .i64 0,.int .i64 0,.str [],.nils,.int .i64 0,.int .i64 0,.nils]/\Cl s 2 [.int .i64 x.op,.int .i64 x.num,.str x.name,.lst x.kids.length (fl eE x.kids),.int .i64 x.line,.int .i64 x.col,v]/\Lv 3 s.nx s v vs.length (fl asE vs) 9/\Has L 0 (.ptr 0 0)/\Has L 2 (.ptr 1 0)/\Has L 3 (.ptr 2 0)) ?_ ts.length ?_
   ·rintro m L s ⟨_,i',vs,v,rfl,hm,hi',hl,n0,C0,C1,C2,V,i0,i2,i3⟩;clear hr;cases m with
    |zero=>omega
    |succ m=>
    unfold QR at hl;obtain⟨q0,hq0⟩:∃ q,q=s.nx:=⟨_,rfl⟩;rw[<-hq0] at V;have hq':q0<=s.nx:=QaU hq0;have hN:=λst p=>@Y9 base hb ts i' 0 hi' st p;have hM:=λst p=>@uZ base hb ts i' 0 hi' om st p;have L0:=C0.lt;have L1:=C1.lt;have L2:=C2.lt;have ve:=V.eqs;have g3:rat s.h 2 6=v:=C2.cell 6 (by simp);have vl:=V.len;by_cases k1:(tk ts i').kind=1
    ·rw[if_pos k1] at hl;have k1':((tk ts i').kind:Int)=1:=om
     have hi1:i'+1<ts.length:=W.next i' hi' om
     by_cases h32:32<=vs.length
     ·rw[if_pos h32] at hl;have hl:SR.er (tk ts i')=r:=hl;subst hl;have R:=wV hb h32 (tk ts i');unfold pC at *
      (have zz:=aI @g3 (aI C0.r (aI C1.r C2.r));(repeat'(first|apply jc<;>intro _|simp(disch:=first|exact qT|fail) only[ja i0,ja i2,ja i3,hN,k1',vl,R,jat,ve,zL,C0.q,C1.q,C2.q,g3,C0.r,C1.r,C2.r,r6,γ,δ,ζ,η,θ]));all_goals clear zz)
      refine⟨i',0,?_⟩;unfold pC
      (refine G1.done ?_ (by rfl) (by rfl) ?_;(· (have zz:=aI C0.q (aI C1.q (aI C2.q (aI C0.r (aI C1.r C2.r))));first|exact qp|fail));(· first|exact vyD|skip))
     ·rw[if_neg h32] at hl;have R:=wU hb (show vs.length<32 by omega) (tk ts i');have M1:=λst p=>@QV base hb ts (i'+1) 0 hi1 om [58,61] st p;by_cases c2:isM (tk ts (i'+1)) [[58,61]]=true
      ·rw[if_pos c2] at hl;have hi2:=W.isM hi1 c2;have A:=Uu hb W hi2;cases hw2:yt ts (i'+2) with
       |er t=>
        rw[hw2] at hl A;have hl:SR.er t=r:=hl;subst hl;obtain⟨i2',d2,A⟩:=A;have E:∀ st p,Cl st p (pC ts (i'+2) 0)->∀ K Kp,XB ε base 72 [.ptr p 0] st K Kp=_:=λst p C K Kp=>A.xb C rfl (λst=>hb.no 72 dc _ _) K Kp;unfold pC at *
        (have zz:=aI @g3 (aI @yS (aI @yR (aI C0.r (aI C1.r C2.r))));(repeat'(first|apply jc<;>intro _|simp(disch:=first|exact qT|fail) only[ja i0,ja i2,ja i3,hN,hM,k1,k1',vl,R,M1,c2,E,jat,sm9,sm3,ve,zL,YH,Vh,Vg (base:=base),C0.q,C1.q,C2.q,g3,yS,yR,C0.r,C1.r,C2.r,r6,γ,δ,ζ,η,θ]));all_goals clear zz)
        refine⟨i2',d2,?_⟩;unfold pC
        (refine G1.done ?_ (by rfl) (by rfl) ?_;(· (have zz:=aI C0.q (aI C1.q (aI C2.q (aI C0.r (aI C1.r C2.r))));first|exact qp|fail));(· first|exact vyD|skip))
       |ok y q=>
        rw[hw2] at hl A;dsimp only at hl;have A:PM _ _ _ _ _ _ _:=A;rw[qJ] at A;have hq:q<ts.length:=(yh W hi2 hw2).2.1;have hq2:i'+3<=q:=(yh W hi2 hw2).1;have E:∀ st p,Cl st p (pC ts (i'+2) 0)->∀ K Kp,XB ε base 72 [.ptr p 0] st K Kp=_:=λst p C K Kp=>A.xb C rfl (λst=>hb.no 72 dc _ _) K Kp;have T:=Y0 hb hq (d:=0) om [[44]] (cs:=[.str [44]]) (n:=1) rfl rfl dc;have M:=λst p=>@QV base hb ts q 0 hq om [59] st p;have Ap:=λst bv xc xx K h hv=>@JS 3 q0 vs.length 9 st v (fl asE vs) K 104 bv xc xx h dc om om hv;obtain⟨a,hav⟩:∃ a:AsT,a=⟨(tk ts i').text,y,(tk ts i').line,(tk ts i').col⟩:=⟨_,rfl⟩;rw[<-hav] at hl;have ea:asE a=[.str (tk ts i').text,.int .i64 y.op,.int .i64 y.num,.str y.name,.lst y.kids.length (fl eE y.kids),.int .i64 y.line,.int .i64 y.col,.int .i64 ((tk ts i').line:Int),.int .i64 ((tk ts i').col:Int)]:=by rw[hav];unfold asE;rw[qJ];rfl
        have V2:∀ st m',Lv 3 q0 st v vs.length (fl asE vs) 9->3<=st.nx->m'=st.nx+1->Lv 3 m' (aps v st [.str (tk ts i').text,.int .i64 y.op,.int .i64 y.num,.str y.name,.lst y.kids.length (fl eE y.kids),.int .i64 y.line,.int .i64 y.col,.int .i64 ((tk ts i').line:Int),.int .i64 ((tk ts i').col:Int)]) (apv 9 v st) (vs ++ [a]).length (fl asE (vs ++ [a])) 9:=λst m' h h2 h3=>by
         rw[ψ,QX,JZ,ea];exact h.put rfl h2 h3
        unfold pC at *
        (have zz:=aI @g3 (aI @yS (aI @yR (aI V.ln (aI V.rts (aI @jA (aI @jF (aI @jJ (aI @V (aI @jC (aI @jI (aI @jL (aI C0.r (aI C1.r C2.r)))))))))))));(repeat'(first|apply jc<;>intro _|simp(disch:=first|exact qT|fail) only[ja i0,ja i2,ja i3,hN,hM,k1,k1',vl,R,M1,c2,E,jat,sm9,sm3,ve,Ap,V.at,jC,C0.q,C1.q,C2.q,g3,yS,yR,V.ln,V.rts,jA,jF,jJ,V,jC,jI,jL,C0.r,C1.r,C2.r,r6,γ,δ,ζ,η,θ]));all_goals clear zz)
        rw[T _ 0 (s.nx+1+1+1) 1 true (by(have zz:=aI C0.q (aI C1.q (aI C2.q (aI @g3 (aI V.ln (aI V.rts (aI @jC (aI @jI (aI @jL (aI C0.r (aI C1.r C2.r))))))))));first|exact qp|fail)) (by(have zz:=aI C0.q (aI C1.q (aI C2.q (aI @g3 (aI V.ln (aI V.rts (aI @jC (aI @jI (aI @jL (aI C0.r (aI C1.r C2.r))))))))));first|exact qp|fail)) om]
        (have zz:=aI @g3 (aI V.ln (aI V.rts (aI @jC (aI @jI (aI @jL (aI C0.r (aI C1.r C2.r)))))));(repeat'(first|apply jc<;>intro _|simp(disch:=first|exact qT|fail) only[ja i0,ja i2,ja i3,M,V.at,jC,C0.q,C1.q,C2.q,g3,V.ln,V.rts,jC,jI,jL,C0.r,C1.r,C2.r,r6,γ,δ,ζ,η,θ]));all_goals clear zz)
        ·rename_i c;rw[if_pos c] at hl;have hi2':=W.isM hq c;refine⟨m,om,m,q+1,vs ++ [a],?v,rfl,om,hi2',hl,om,?c0,?c1,?c2,?lv,?has⟩;case lv=>
          refine Lv.up (hi:=s.nx+3) ?_ om;simp(disch:=first|omega|(simp only[ji,jo,jr,ju];omega)) only[jA,jF,jJ];refine V2 _ _ ?_ ?_ ?_;all_goals first|(simp only[ji,jo];done)|(simp only[ji,jo];omega)|(simp(disch:=first|omega|(simp only[ji,jo];omega)) only[jA,jF];exact V)
         case c0=>(have zz:=aI C0.q (aI C1.q (aI C2.q (aI @g3 (aI V.ln (aI V.rts (aI @jC (aI @jI (aI @jL (aI C0.r (aI C1.r C2.r))))))))));first|exact qp|fail)
         case c1=>(have zz:=aI C0.q (aI C1.q (aI C2.q (aI @g3 (aI V.ln (aI V.rts (aI @jC (aI @jI (aI @jL (aI C0.r (aI C1.r C2.r))))))))));first|exact qp|fail)
         case c2=>(have zz:=aI C0.q (aI C1.q (aI C2.q (aI @g3 (aI V.ln (aI V.rts (aI @jC (aI @jI (aI @jL (aI C0.r (aI C1.r C2.r))))))))));first|exact qp|fail)
         case has=>simp(disch:=decide) only[h12,i0,i2,i3]
        ·rename_i c c4;rw[if_neg c,if_pos c4] at hl;have hl:SR.ok (⟨x,vs ++ [a]⟩:RuleT) (q+1)=r:=hl;subst hl;show G1 3 (pC ts (q+1) 0) (.agg (ruE ⟨x,vs ++ [a]⟩)) _ _;rw[show ruE ⟨x,vs ++ [a]⟩=[.int .i64 x.op,.int .i64 x.num,.str x.name,.lst x.kids.length (fl eE x.kids),.int .i64 x.line,.int .i64 x.col,.lst (vs ++ [a]).length (fl asE (vs ++ [a]))] by unfold ruE;rw[qJ];rfl];refine G1.done ?_ (by rfl) (by rfl) (FzD.agg (.cons (.pc rfl) (.cons (.pc rfl) (.cons (.pc rfl) (.cons (.pc rfl) (.cons (.pc rfl) (.cons (.pc rfl) (.cons (Lv.fz (lo:=3) (hi:=s.nx+3) (z:=9) ?_ dc (yZ Xb _)) .nil))))))))
         ·unfold pC
          (have zz:=aI C0.q (aI C1.q (aI C2.q (aI @g3 (aI V.ln (aI V.rts (aI @jC (aI @jI (aI @jL (aI C0.r (aI C1.r C2.r))))))))));first|exact qp|fail)
         ·simp(disch:=first|omega|(simp only[ji,jo,jr,ju];omega)) only[jH,jA,jF,jJ];refine V2 _ _ ?_ ?_ ?_;all_goals first|(simp only[ji,jo];done)|(simp only[ji,jo];omega)|(simp(disch:=first|omega|(simp only[ji,jo];omega)) only[jA,jF];exact V)
        ·rename_i c c4;rw[if_neg c,if_neg c4] at hl;have hl:SR.er (tk ts q)=r:=hl;subst hl;refine⟨q,0,?_⟩;unfold pC
         (refine G1.done ?_ (by rfl) (by rfl) ?_;(· (have zz:=aI C0.q (aI C1.q (aI C2.q (aI @g3 (aI V.ln (aI V.rts (aI @jC (aI @jI (aI @jL (aI C0.r (aI C1.r C2.r))))))))));first|exact qp|fail));(· first|exact vyD|skip))
      ·rw[if_neg c2] at hl;have hl:SR.er (tk ts (i'+1))=r:=hl;subst hl;unfold pC at *
       (have zz:=aI @g3 (aI C0.r (aI C1.r C2.r));(repeat'(first|apply jc<;>intro _|simp(disch:=first|exact qT|fail) only[ja i0,ja i2,ja i3,hN,hM,k1,k1',vl,R,M1,c2,jat,ve,zL,C0.q,C1.q,C2.q,g3,C0.r,C1.r,C2.r,r6,γ,δ,ζ,η,θ]));all_goals clear zz)
       refine⟨i'+1,0,?_⟩;unfold pC
       (refine G1.done ?_ (by rfl) (by rfl) ?_;(· (have zz:=aI C0.q (aI C1.q (aI C2.q (aI C0.r (aI C1.r C2.r))));first|exact qp|fail));(· first|exact vyD|skip))
    ·rw[if_neg k1] at hl;have k1':¬ ((tk ts i').kind:Int)=1:=om
     have hl:SR.er (tk ts i')=r:=hl;subst hl;unfold pC at *
     (have zz:=aI @g3 (aI C0.r (aI C1.r C2.r));(repeat'(first|apply jc<;>intro _|simp(disch:=first|exact qT|fail) only[ja i0,ja i2,ja i3,hN,hM,k1,k1',zL,C0.q,C1.q,C2.q,g3,C0.r,C1.r,C2.r,r6,γ,δ,ζ,η,θ]));all_goals clear zz)
     refine⟨i',0,?_⟩;unfold pC
     (refine G1.done ?_ (by rfl) (by rfl) ?_;(· (have zz:=aI C0.q (aI C1.q (aI C2.q (aI C0.r (aI C1.r C2.r))));first|exact qp|fail));(· first|exact vyD|skip))
   ·refine⟨ts.length,j+1,[],.nils,rfl,om,hj1,hr,om,C0,C1,C2,Lv.nil,?_⟩;simp(disch:=decide) only[h12]
  ·rw[if_neg c1];refine⟨j,0,?_⟩;unfold pC at *;refine qc jkx (by rfl) (hb.pur 123 3 dc) rfl ?_;simp only[je7,jt,κ,μ,ν,ξ];rw[(by unfold kE;simp only[qq];rfl:kE=_)];repeat'(first|apply jc<;>intro _|simp(disch:=first|exact dzD|fail) only[E,M,c1,r6,γ,δ,ζ,η,θ])
   (refine G1.done ?_ (by rfl) (by rfl) ?_;(· (first|exact cyD|fail));(· first|exact vyD|skip))
theorem Vt (r:RuleT):ruE r=[.int .i64 r.when.op,.int .i64 r.when.num,.str r.when.name,.lst r.when.kids.length (fl eE r.when.kids),.int .i64 r.when.line,.int .i64 r.when.col,.lst r.acts.length (fl asE r.acts)]:=by unfold ruE;rw[qJ];rfl
theorem wy (r:RuleT):(ruE r).length=7:=nr (by rw[Vt];rfl)
theorem Wy (r:RuleT):(ruE r).all pc=true:=nr (by rw[Vt];rfl)
theorem jeP {ts:List Tk}(W:Wds ts):∀ n i vs ws j,i<ts.length->QR ts n i vs=.ok ws j->i<=j/\j<ts.length
 |0,i,vs,ws,j,_,h=>by simp[QR] at h
 |n+1,i,vs,ws,j,hi,h=>by
  unfold QR at h;split at h
  ·rename_i k1;have hi1:i+1<ts.length:=W.next i hi om
   split at h
   ·cases h
   ·split at h
    ·rename_i c;have hi2:=W.isM hi1 c;cases hw:yt ts (i+2) with
     |er t=>rw[hw] at h;cases h
     |ok x q=>
      rw[hw] at h;dsimp only at h;have g:=yh W hi2 hw;split at h
      ·rename_i c2;have:=jeP W n (q+1) _ ws j (W.isM g.2.1 c2) h;have:=g.1;exact⟨om,om⟩
      ·split at h
       ·rename_i c3;cases h;have:=W.isM g.2.1 c3;have:=g.1;exact⟨om,om⟩
       ·cases h
    ·cases h
  ·cases h
theorem UE {ts:List Tk}(W:Wds ts){i j:Nat}{r:RuleT}(hi:i<ts.length)(h:XA ts i=.ok r j):i<j/\j<ts.length:=by
 unfold XA at h;cases hw:yt ts i with
 |er t=>rw[hw] at h;cases h
 |ok x q=>
  rw[hw] at h;dsimp only at h;have g:=yh W hi hw;split at h
  ·rename_i c;have hq1:=W.isM g.2.1 c;cases ha:QR ts ts.length (q+1) [] with
   |er t=>rw[ha] at h;cases h
   |ok vs k=>
    rw[ha] at h;cases h;have:=jeP W _ _ _ _ _ hq1 ha;have:=g.1;exact⟨om,om⟩
  ·cases h
structure ProcT where
 name:List Nat
 rules:List RuleT
 line:Int
 col:Int
def prE (p:ProcT):List AV:=[.str p.name,.lst p.rules.length (fl ruE p.rules),.int .i64 (p.line:Int),.int .i64 (p.col:Int)]
def Ql (ts:List Tk):Nat->Nat->List RuleT->SR (List RuleT)
 |0,i,_=>.er (tk ts i)
 |n+1,i,vs=>if isM (tk ts i) [[119,104,101,110]]=true then
   (if 32<=vs.length then .er (tk ts i) else match XA ts (i+1) with
    |.er t=>.er t
    |.ok r j=>Ql ts n j (vs ++ [r]))
  else if isM (tk ts i) [[125]]=true then .ok vs (i+1) else .er (tk ts i)
def Yj (ts:List Tk)(i:Nat):SR ProcT:=
 if(tk ts i).kind=1 then
  (if isM (tk ts (i+1)) [[123]]=true then(match Ql ts ts.length (i+2) [] with
    |.ok vs j=>.ok ⟨(tk ts i).text,vs,(tk ts i).line,(tk ts i).col⟩ j
    |.er t=>.er t)
   else .er (tk ts (i+1)))
 else .er (tk ts i)
theorem jsi:Go.Ev.isAgg ε 114=some false:=by kernel_rfl
theorem jsh:Go.Ev.sizeOf ε 114=some 1:=by kernel_rfl
theorem jqo {b o:Nat}{v:AV}{h:T AO}(ho:o<qv h b)(hv:rat h b o=v)(hc:eqs v=true):(j9 ε 114 (.ptr b o) v h=true)=True:=eq_true (Qk jsi jsh ho hv hc)
set_option maxHeartbeats 4000000 in
theorem jqH (hb:NB base){ts:List Tk}(W:Wds ts){i:Nat}(hi:i<ts.length):AnS base 90 (pC ts i 0) [] ts 0 (λe=>.agg (prE e)) (Yj ts i):=by
 have wl:=W.len;have N:=λst p=>@uZ base hb ts i 0 hi om st p;unfold Yj;by_cases k1:(tk ts i).kind=1
 ·rw[if_pos k1];have hi1:i+1<ts.length:=W.next i hi om
  have M:=λst p=>@QV base hb ts (i+1) 0 hi1 om [123] st p;by_cases c1:isM (tk ts (i+1)) [[123]]=true
  ·rw[if_pos c1];have hi2:=W.isM hi1 c1;suffices h:∀ r:SR ProcT,(match Ql ts ts.length (i+2) [] with
    |.ok vs j=>SR.ok ⟨(tk ts i).text,vs,(tk ts i).line,(tk ts i).col⟩ j
    |.er t=>.er t:SR ProcT)=r->AnS base 90 (pC ts i 0) [] ts 0 (λe=>.agg (prE e)) r from h _ rfl
   intro r hr;refine vR x80 (by rfl) (hb.pur 90 3 dc) ?_;simp only[y80,jt,κ,μ,ν,ξ];rw[(by unfold z80;simp only[qq];rfl:z80=_)];unfold pC at *;repeat'(first|apply jc<;>intro _|simp(disch:=first|exact dzD|fail) only[N,k1,M,c1,r6,γ,δ,ζ,η,θ])
   refine uO λu hu=>?_;have n0:u.nx=4:=by rw[hu];rfl
   have C0:Cl u 0 (pC ts (i+2) 0):=by
    rw[hu];unfold pC
    (first|exact cyD|fail)
   have C1:Cl u 1 [.str [],.nils,.int .i64 0,.int .i64 0]:=by
    rw[hu]
    (first|exact cyD|fail)
   have C3:Cl u 3 [.str (tk ts i).text,.nils,.int .i64 ((tk ts i).line:Int),.int .i64 ((tk ts i).col:Int)]:=by
    rw[hu]
    (first|exact cyD|fail)
   clear hu N M;generalize (tk ts i).text=nm at *;generalize (tk ts i).line=ln at *;generalize (tk ts i).col=co at *;refine zu (λmm L s=>∃ (m i':Nat) (vs:List RuleT) (v:AV),mm=m/\ts.length<=i'+m/\i'<ts.length/\(match Ql ts m i' vs with | .ok vs j=>SR.ok ⟨nm,vs,ln,co⟩ j | .er t=>.er t:SR ProcT)=r/\4<=s.nx/\Cl s 0 (pC ts i' 0)/\Cl s 1 [.str [],.nils,.int .i64 0,.int .i64 0]/\Cl s 3 [.str nm,v,.int .i64 (ln:Int),.int .i64 (co:Int)]/\Lv 4 s.nx s v vs.length (fl ruE vs) 7/\Has L 0 (.ptr 0 0)/\Has L 2 (.ptr 1 0)/\Has L 4 (.ptr 3 0)) ?_ ts.length ?_
   ·rintro m L s ⟨_,i',vs,v,rfl,hm,hi',hl,n0,C0,C1,C3,V,i0,i2,i4⟩;clear hr;cases m with
    |zero=>omega
    |succ m=>
    unfold Ql at hl;obtain⟨q,hq⟩:∃ q,q=s.nx:=⟨_,rfl⟩;rw[<-hq] at V;have hq':q<=s.nx:=QaU hq;have T:=Y0 hb hi' (d:=0) om [[119,104,101,110]] (cs:=[.str [119,104,101,110]]) (n:=1) rfl rfl dc;have L0:=C0.lt;have L1:=C1.lt;have L3:=C3.lt;have ve:=V.eqs;have g3:rat s.h 3 1=v:=C3.cell 1 (QbA (QaR 2));have vl:=V.len;have vc:∀ l,lall AV.cell (v :: l)=lall AV.cell l:=λl=>by show cond v.cell _ false=_;rw[V.cell];rfl
    by_cases c2:isM (tk ts i') [[119,104,101,110]]=true
    ·rw[if_pos c2] at hl;have hi1:=W.isM hi' c2;by_cases h32:32<=vs.length
     ·rw[if_pos h32] at hl;have hl:SR.er (tk ts i')=r:=hl;subst hl;have R:=wV hb h32 (tk ts i');unfold pC at *
      (have zz:=aI @g3 (aI C0.r (aI C1.r C3.r));(repeat'(first|apply jc<;>intro _|simp(disch:=first|exact qT|fail) only[ja i0,ja i2,ja i4,T,c2,vl,R,g3,zL,C0.q,C1.q,C3.q,g3,C0.r,C1.r,C3.r,r6,γ,δ,ζ,η,θ]));all_goals clear zz)
      refine⟨i'+1,0,?_⟩;unfold pC
      (refine G1.done ?_ (by rfl) (by rfl) ?_;(· (have zz:=aI C0.q (aI C1.q (aI C3.q (aI C0.r (aI C1.r C3.r))));first|exact qp|fail));(· first|exact vyD|skip))
     ·rw[if_neg h32] at hl;have R:=wU hb (show vs.length<32 by omega) (tk ts i');have A:=jqv hb W hi1;cases hw:XA ts (i'+1) with
      |er t=>
       rw[hw] at hl A;have hl:SR.er t=r:=hl;subst hl;obtain⟨i2',d2,A⟩:=A;have E:∀ st p,Cl st p (pC ts (i'+1) 0)->∀ K Kp,XB ε base 123 [.ptr p 0] st K Kp=_:=λst p C K Kp=>A.xb C rfl (λst=>hb.no 123 dc _ _) K Kp;unfold pC at *
       (have zz:=aI @g3 (aI C0.r (aI C1.r C3.r));(repeat'(first|apply jc<;>intro _|simp(disch:=first|exact qT|fail) only[ja i0,ja i2,ja i4,T,c2,vl,R,g3,E,jqo,ve,zL,C0.q,C1.q,C3.q,g3,C0.r,C1.r,C3.r,r6,γ,δ,ζ,η,θ]));all_goals clear zz)
       refine⟨i2',d2,?_⟩;unfold pC
       (refine G1.done ?_ (by rfl) (by rfl) ?_;(· (have zz:=aI C0.q (aI C1.q (aI C3.q (aI C0.r (aI C1.r C3.r))));first|exact qp|fail));(· first|exact vyD|skip))
      |ok a j=>
       rw[hw] at hl A;dsimp only at hl;have A:PM _ _ _ _ _ _ _:=A;have A:PM ε base 123 (pC ts (i'+1) 0) [] (.ok (.agg [.int .i64 a.when.op,.int .i64 a.when.num,.str a.when.name,.lst a.when.kids.length (fl eE a.when.kids),.int .i64 a.when.line,.int .i64 a.when.col,.lst a.acts.length (fl asE a.acts)])) (pC ts j 0):=by rw[<-Vt];exact A
       have hj:=UE W hi1 hw;have E:∀ st p,Cl st p (pC ts (i'+1) 0)->∀ K Kp,XB ε base 123 [.ptr p 0] st K Kp=_:=λst p C K Kp=>A.xb C rfl (λst=>hb.no 123 dc _ _) K Kp;have Ap:=λst bv xc xx K h hv=>@JS 4 q vs.length 7 st v (fl ruE vs) K 96 bv xc xx h dc om om hv;have V2:∀ st m',Lv 4 q st v vs.length (fl ruE vs) 7->4<=st.nx->m'=st.nx+1->Lv 4 m' (aps v st [.int .i64 a.when.op,.int .i64 a.when.num,.str a.when.name,.lst a.when.kids.length (fl eE a.when.kids),.int .i64 a.when.line,.int .i64 a.when.col,.lst a.acts.length (fl asE a.acts)]) (apv 7 v st) (vs ++ [a]).length (fl ruE (vs ++ [a])) 7:=λst m' h h2 h3=>by
        rw[ψ,QX,JZ,Vt a];exact h.put rfl h2 h3
       unfold pC at *
       (have zz:=aI @g3 (aI V.ln (aI V.rts (aI @jA (aI @jF (aI @jJ (aI @V (aI @jC (aI @jI (aI @jL (aI C0.r (aI C1.r C3.r)))))))))));(repeat'(first|apply jc<;>intro _|simp(disch:=first|exact qT|fail) only[ja i0,ja i2,ja i4,T,c2,vl,R,g3,E,jqo,ve,Ap,V.at,jC,C0.q,C1.q,C3.q,g3,V.ln,V.rts,jA,jF,jJ,V,jC,jI,jL,C0.r,C1.r,C3.r,r6,γ,δ,ζ,η,θ]));all_goals clear zz)
       refine⟨m,om,m,j,vs ++ [a],?v,rfl,om,hj.2,hl,om,?c0,?c1,?c3,?lv,?has⟩;case lv=>
        refine Lv.up (hi:=s.nx+4) ?_ om;refine V2 _ _ ?_ ?_ ?_;all_goals first|(simp only[ji,jo,ju];done)|(simp only[ji,jo,ju];omega)|(simp(disch:=first|omega|(simp only[ji,jo,ju];omega)) only[jA,jF,jJ];exact V)
       case c0=>(have zz:=aI C0.q (aI C1.q (aI C3.q (aI @g3 (aI V.ln (aI V.rts (aI @jC (aI @jI (aI @jL (aI C0.r (aI C1.r C3.r))))))))));first|exact qp|fail)
       case c1=>(have zz:=aI C0.q (aI C1.q (aI C3.q (aI @g3 (aI V.ln (aI V.rts (aI @jC (aI @jI (aI @jL (aI C0.r (aI C1.r C3.r))))))))));first|exact qp|fail)
       case c3=>(have zz:=aI C0.q (aI C1.q (aI C3.q (aI @g3 (aI V.ln (aI V.rts (aI @jC (aI @jI (aI @jL (aI C0.r (aI C1.r C3.r))))))))));first|exact qp|fail)
       case has=>simp(disch:=decide) only[h12,i0,i2,i4]
    ·rw[if_neg c2] at hl;have M:=λst p=>@QV base hb ts i' 0 hi' om [125] st p;unfold pC at *
     (have zz:=aI @g3 (aI @vc (aI C0.r (aI C1.r C3.r)));(repeat'(first|apply jc<;>intro _|simp(disch:=first|exact qT|fail) only[ja i0,ja i2,ja i4,T,c2,M,g3,C0.q,C1.q,C3.q,g3,vc,C0.r,C1.r,C3.r,r6,γ,δ,ζ,η,θ]));all_goals clear zz)
     ·rename_i c4;rw[if_pos c4] at hl;have hl:SR.ok (⟨nm,vs,ln,co⟩:ProcT) (i'+1)=r:=hl;subst hl;show G1 3 (pC ts (i'+1) 0) (.agg (prE ⟨nm,vs,ln,co⟩)) _ _;refine G1.done ?_ (by rfl) (by rfl) (FzD.agg (.cons (.pc rfl) (.cons (Lv.fz (lo:=4) (hi:=q) (z:=7) ?_ dc (yZ Wy _)) (.cons (.pc rfl) (.cons (.pc rfl) .nil)))))
      ·unfold pC
       (have zz:=aI C0.q (aI C1.q (aI C3.q (aI @g3 (aI V.ln (aI V.rts (aI @jC (aI @jI (aI @jL (aI C0.r (aI C1.r C3.r))))))))));first|exact qp|fail)
      ·simp(disch:=first|omega|(simp only[ji,jo,ju];omega)) only[jH,jA,jF,jJ];exact V
     ·rename_i c4;rw[if_neg c4] at hl;have hl:SR.er (tk ts i')=r:=hl;subst hl;refine⟨i',0,?_⟩;unfold pC
      (refine G1.done ?_ (by rfl) (by rfl) ?_;(· (have zz:=aI C0.q (aI C1.q (aI C3.q (aI @g3 (aI V.ln (aI V.rts (aI @jC (aI @jI (aI @jL (aI C0.r (aI C1.r C3.r))))))))));first|exact qp|fail));(· first|exact vyD|skip))
   ·refine⟨ts.length,i+2,[],.nils,rfl,om,hi2,hr,om,C0,C1,C3,Lv.nil,?_⟩;simp(disch:=decide) only[h12]
  ·rw[if_neg c1];refine⟨i+1,0,?_⟩;unfold pC at *;refine qc x80 (by rfl) (hb.pur 90 3 dc) rfl ?_;simp only[y80,jt,κ,μ,ν,ξ];rw[(by unfold z80;simp only[qq];rfl:z80=_)];repeat'(first|apply jc<;>intro _|simp(disch:=first|exact dzD|fail) only[N,k1,M,c1,r6,γ,δ,ζ,η,θ])
   (refine G1.done ?_ (by rfl) (by rfl) ?_;(· (first|exact cyD|fail));(· first|exact vyD|skip))
 ·rw[if_neg k1];refine⟨i,0,?_⟩;unfold pC at *;refine qc x80 (by rfl) (hb.pur 90 3 dc) rfl ?_;simp only[y80,jt,κ,μ,ν,ξ];rw[(by unfold z80;simp only[qq];rfl:z80=_)];repeat'(first|apply jc<;>intro _|simp(disch:=first|exact dzD|fail) only[N,k1,r6,γ,δ,ζ,η,θ])
  (refine G1.done ?_ (by rfl) (by rfl) ?_;(· (first|exact cyD|fail));(· first|exact vyD|skip))
def Df:AV->AV->Prop
 |.slice b _ _ _ _ _,.slice c _ _ _ _ _=>c≠b
 |_,_=>True
theorem Lv.apsD {lo hi n z:Nat}{s:St}{v w:AV}{cs news:List AV}(V:Lv lo hi s w n cs z)(h:Df v w):Lv lo hi (Go.Sy.aps v s news) w n cs z:=by
 rcases V with ⟨rfl,h2,h3⟩|⟨b,rfl,h2,h3,h4,h5,h6⟩
 ·exact .inl ⟨rfl,h2,h3⟩
 ·refine .inr ⟨b,rfl,h2,h3,?_,h5,h6⟩;unfold Go.Sy.aps;split
  ·exact h4.apO h
  ·exact h4.nw news
theorem Df.put {lo hi n z z':Nat}{s t:St}{v w:AV}{cs:List AV}(V:Lv lo hi s w n cs z)(h:hi<=t.nx):Df (apv z' v t) w/\Df w (apv z' v t):=by
 rcases V with ⟨rfl,h2,h3⟩|⟨b,rfl,h2,h3,h4,h5,h6⟩
 ·unfold apv;split<;>exact⟨trivial,trivial⟩
 ·unfold apv;split<;>exact⟨by show b≠t.nx;omega,by show t.nx≠b;omega⟩
structure SrcT where
 enums:List EnumT
 vars:List DeclT
 procs:List ProcT
def srE (m:SrcT):List AV:=[.lst m.enums.length (fl enE m.enums),.lst m.vars.length (fl qk m.vars),.lst m.procs.length (fl prE m.procs)]
def XY (ts:List Tk):Nat->Nat->SrcT->SR SrcT
 |0,i,_=>.er (tk ts i)
 |n+1,i,m=>if isM (tk ts i) [[101,110,117,109],[118,97,114],[112,114,111,99,101,115,115]]=true then
   (if(tk ts i).text=[101,110,117,109] then
    (if 32<=m.enums.length then .er (tk ts i) else match Yv ts (i+1) with
     |.er t=>.er t
     |.ok e j=>XY ts n j { m with enums:=m.enums ++ [e] })
   else if(tk ts i).text=[118,97,114] then
    (if 32<=m.vars.length then .er (tk ts i) else match Yw ts (i+1) with
     |.er t=>.er t
     |.ok e j=>XY ts n j { m with vars:=m.vars ++ [e] })
   else(if 32<=m.procs.length then .er (tk ts i) else match Yj ts (i+1) with
     |.er t=>.er t
     |.ok e j=>XY ts n j { m with procs:=m.procs ++ [e] }))
  else if(tk ts i).kind=5 then .ok m i else .er (tk ts i)
theorem jdF {ts:List Tk}(W:Wds ts):∀ n i vs ws j,i<ts.length->Xu ts n i vs=.ok ws j->i<=j/\j<ts.length
 |0,i,vs,ws,j,_,h=>by simp[Xu] at h
 |n+1,i,vs,ws,j,hi,h=>by
  unfold Xu at h;split at h
  ·rename_i k1;have hi1:i+1<ts.length:=W.next i hi om
   split at h
   ·cases h
   ·split at h
    ·rename_i c;have hi2:=W.isM hi1 c;have:=jdF W n (i+2) _ ws j hi2 h;exact⟨om,om⟩
    ·split at h
     ·rename_i c;cases h;have:=W.isM hi1 c;exact⟨om,this⟩
     ·cases h
  ·cases h
theorem GL {ts:List Tk}(W:Wds ts){i j:Nat}{e:EnumT}(hi:i<ts.length)(h:Yv ts i=.ok e j):i<j/\j<ts.length:=by
 unfold Yv at h;split at h
 ·rename_i k1;have hi1:i+1<ts.length:=W.next i hi om
  split at h
  ·rename_i c;have hi2:=W.isM hi1 c;cases hv:Xu ts ts.length (i+2) [] with
   |er t=>rw[hv] at h;cases h
   |ok vs k=>
    rw[hv] at h;cases h;have:=jdF W _ _ _ _ _ hi2 hv;exact⟨om,om⟩
  ·cases h
 ·cases h
theorem jbP {ts:List Tk}(W:Wds ts):∀ n i vs ws j,i<ts.length->Ql ts n i vs=.ok ws j->i<=j/\j<ts.length
 |0,i,vs,ws,j,_,h=>by simp[Ql] at h
 |n+1,i,vs,ws,j,hi,h=>by
  unfold Ql at h;split at h
  ·rename_i c;have hi1:=W.isM hi c;split at h
   ·cases h
   ·cases hr:XA ts (i+1) with
    |er t=>rw[hr] at h;cases h
    |ok r k=>
     rw[hr] at h;dsimp only at h;have g:=UE W hi1 hr;have:=jbP W n k _ ws j g.2 h;exact⟨om,om⟩
  ·split at h
   ·rename_i c;cases h;exact⟨om,W.isM hi c⟩
   ·cases h
theorem Gm {ts:List Tk}(W:Wds ts){i j:Nat}{e:ProcT}(hi:i<ts.length)(h:Yj ts i=.ok e j):i<j/\j<ts.length:=by
 unfold Yj at h;split at h
 ·rename_i k1;have hi1:i+1<ts.length:=W.next i hi om
  split at h
  ·rename_i c;have hi2:=W.isM hi1 c;cases hv:Ql ts ts.length (i+2) [] with
   |er t=>rw[hv] at h;cases h
   |ok vs k=>
    rw[hv] at h;cases h;have:=jbP W _ _ _ _ _ hi2 hv;exact⟨om,om⟩
  ·cases h
 ·cases h
theorem jhS {ts:List Tk}(W:Wds ts){i j:Nat}{n:Int}(h:Y8 ts i=.ok n j):i<j:=by
 unfold Y8 at h;split at h
 ·split at h
  ·cases h;omega
  ·cases h
 ·split at h
  ·cases h;omega
  ·cases h
theorem jbG {ts:List Tk}(W:Wds ts){i j:Nat}{y:List Nat×Int×Int}(hi:i<ts.length)(h:Wp ts i=.ok y j):i<j/\j<ts.length:=by
 unfold Wp at h;split at h
 ·rename_i c;cases h;exact⟨om,W.isM hi c⟩
 ·split at h
  ·rename_i k1;cases h;exact⟨om,W.next i hi om⟩
  ·cases hn:Y8 ts i with
   |er t=>rw[hn] at h;cases h
   |ok lo k=>
    rw[hn] at h;dsimp only at h;have g:=KV W hi hn;have g1:=jhS W hn;split at h
    ·rename_i c;have hk1:=W.isM g c;cases hn2:Y8 ts (k+1) with
     |er t=>rw[hn2] at h;cases h
     |ok h2 q=>
      rw[hn2] at h;cases h;have:=KV W hk1 hn2;have:=jhS W hn2;exact⟨om,om⟩
    ·cases h
theorem jrM {ts:List Tk}(W:Wds ts){i j:Nat}{bs:List Ex}(hi:i<ts.length)(h:wj ts i=.ok bs j):i<j/\j<ts.length:=by
 unfold wj at h;split at h
 ·rename_i c;have hi1:=W.isM hi c;cases hw:yt ts (i+1) with
  |er t=>rw[hw] at h;cases h
  |ok x k=>
   rw[hw] at h;dsimp only at h;have g:=yh W hi1 hw;split at h
   ·rename_i c2;cases h;have:=W.isM g.2.1 c2;have:=g.1;exact⟨om,om⟩
   ·cases h
 ·split at h
  ·rename_i c;cases h;exact⟨om,W.isM hi c⟩
  ·cases h
theorem GQ {ts:List Tk}(W:Wds ts){i j:Nat}{e:DeclT}(hi:i<ts.length)(h:Yw ts i=.ok e j):i<j/\j<ts.length:=by
 unfold Yw at h;split at h
 ·rename_i k1;have hi1:i+1<ts.length:=W.next i hi om
  split at h
  ·rename_i c;have hi2:=W.isM hi1 c;cases ht:Wp ts (i+2) with
   |er t=>rw[ht] at h;cases h
   |ok y k=>
    rw[ht] at h;dsimp only at h;have g:=jbG W hi2 ht;cases hv:wj ts k with
    |er t=>rw[hv] at h;cases h
    |ok bs q=>
     rw[hv] at h;cases h;have:=jrM W g.2 hv;exact⟨om,om⟩
  ·cases h
 ·cases h
theorem J1 (e:EnumT):(enE e).all pc=true:=by
 have:∀ l:List (List Nat),(l.map AV.str).all pc=true:=uS;show([AV.str e.name,.lst e.vals.length (e.vals.map .str),.int .i64 (e.line:Int),.int .i64 (e.col:Int)]).all pc=true;simp[pc]
theorem JG (e:DeclT):(qk e).all pc=true:=by
 show([AV.str e.name,.str e.ty,.int .i64 e.lo,.int .i64 e.hi,.lst e.begins.length (fl eE e.begins),.int .i64 (e.line:Int),.int .i64 (e.col:Int)]).all pc=true;simp[pc]
theorem jaE (e:ProcT):(prE e).all pc=true:=by
 show([AV.str e.name,.lst e.rules.length (fl ruE e.rules),.int .i64 (e.line:Int),.int .i64 (e.col:Int)]).all pc=true;simp[pc]
theorem Df.symm {v w:AV}(h:Df v w):Df w v:=by
 unfold Df at *;split at h<;>first|exact λe=>h e.symm|(cases v<;>cases w<;>first|trivial|(rename_i h2;exact absurd rfl (h2 _ _ _ _ _ _ _ _ _ _ _ _ rfl)))
theorem jsA:Go.Ev.isAgg ε 22=some false:=by kernel_rfl
theorem jsz:Go.Ev.sizeOf ε 22=some 1:=by kernel_rfl
theorem Gg {b o:Nat}{v:AV}{h:T AO}(ho:o<qv h b)(hv:rat h b o=v)(hc:eqs v=true):(j9 ε 22 (.ptr b o) v h=true)=True:=eq_true (Qk jsA jsz ho hv hc)
theorem jsy:Go.Ev.isAgg ε 23=some false:=by kernel_rfl
theorem jsx:Go.Ev.sizeOf ε 23=some 1:=by kernel_rfl
theorem jqr {b o:Nat}{v:AV}{h:T AO}(ho:o<qv h b)(hv:rat h b o=v)(hc:eqs v=true):(j9 ε 23 (.ptr b o) v h=true)=True:=eq_true (Qk jsy jsx ho hv hc)
theorem jsw:Go.Ev.isAgg ε 24=some false:=by kernel_rfl
theorem jsv:Go.Ev.sizeOf ε 24=some 1:=by kernel_rfl
theorem jqq {b o:Nat}{v:AV}{h:T AO}(ho:o<qv h b)(hv:rat h b o=v)(hc:eqs v=true):(j9 ε 24 (.ptr b o) v h=true)=True:=eq_true (Qk jsw jsv ho hv hc)
set_option maxHeartbeats 8000000 in
theorem jkK (hb:NB base){ts:List Tk}(W:Wds ts)(NN:Nbs ts){i:Nat}(hi:i<ts.length):AnS base 66 (pC ts i 0) [] ts 0 (λe=>.agg (srE e)) (XY ts ts.length i ⟨[],[],[]⟩):=by
 have wl:=W.len;suffices h:∀ r:SR SrcT,XY ts ts.length i ⟨[],[],[]⟩=r->AnS base 66 (pC ts i 0) [] ts 0 (λe=>.agg (srE e)) r from h _ rfl
 intro r hr;refine vR x37 (by rfl) (hb.pur 66 3 dc) ?_;simp only[y37,jt,κ,μ,ν,ξ];rw[(by unfold z37;simp only[qq];rfl:z37=_)];unfold pC at *;repeat'(first|apply jc<;>intro _|simp(disch:=first|exact dzD|fail) only[r6,γ,δ,ζ,η,θ])
 refine uO λu hu=>?_;have n0:u.nx=3:=by rw[hu];rfl
 have C0:Cl u 0 (pC ts i 0):=by
  rw[hu];unfold pC
  (first|exact cyD|fail)
 have C1:Cl u 1 [.nils,.nils,.nils]:=by
  rw[hu]
  (first|exact cyD|fail)
 have C2:Cl u 2 [.nils,.nils,.nils]:=by
  rw[hu]
  (first|exact cyD|fail)
 clear hu;refine zu (λmm L s=>∃ (m i':Nat) (x:SrcT) (v1 v2 v3:AV),mm=m/\ts.length<=i'+m/\i'<ts.length/\XY ts m i' x=r/\3<=s.nx/\Cl s 0 (pC ts i' 0)/\Cl s 1 [.nils,.nils,.nils]/\Cl s 2 [v1,v2,v3]/\Lv 3 s.nx s v1 x.enums.length (fl enE x.enums) 4/\Lv 3 s.nx s v2 x.vars.length (fl qk x.vars) 7/\Lv 3 s.nx s v3 x.procs.length (fl prE x.procs) 4/\Df v1 v2/\Df v1 v3/\Df v2 v3/\Has L 0 (.ptr 0 0)/\Has L 2 (.ptr 1 0)/\Has L 3 (.ptr 2 0)) ?_ ts.length ?_
 ·rintro m L s ⟨_,i',x,v1,v2,v3,rfl,hm,hi',hl,n0,C0,C1,C2,V1,V2,V3,D12,D13,D23,i0,i2,i3⟩;clear hr;cases m with
  |zero=>omega
  |succ m=>
  unfold XY at hl;obtain⟨q,hq⟩:∃ q,q=s.nx:=⟨_,rfl⟩;rw[<-hq] at V1 V2 V3;have hq':q<=s.nx:=QaU hq;have T:=Y0 hb hi' (d:=0) om [[101,110,117,109],[118,97,114],[112,114,111,99,101,115,115]] (cs:=[.str [101,110,117,109],.str [118,97,114],.str [112,114,111,99,101,115,115]]) (n:=3) rfl rfl dc;have L0:=C0.lt;have L1:=C1.lt;have L2:=C2.lt;have ve1:=V1.eqs;have ve2:=V2.eqs;have ve3:=V3.eqs;have g1:rat s.h 2 0=v1:=C2.cell 0 (QaR 2);have g2:rat s.h 2 1=v2:=C2.cell 1 (QbA (QaR 1));have g3:rat s.h 2 2=v3:=C2.cell 2 (QbA (QbA (QaR 0)));have vl1:=V1.len;have vl2:=V2.len;have vl3:=V3.len;have vc1:∀ l,lall AV.cell (v1 :: l)=lall AV.cell l:=λl=>by show cond v1.cell _ false=_;rw[V1.cell];rfl
  have vc2:∀ l,lall AV.cell (v2 :: l)=lall AV.cell l:=λl=>by show cond v2.cell _ false=_;rw[V2.cell];rfl
  have vc3:∀ l,lall AV.cell (v3 :: l)=lall AV.cell l:=λl=>by show cond v3.cell _ false=_;rw[V3.cell];rfl
  by_cases c2:isM (tk ts i') [[101,110,117,109],[118,97,114],[112,114,111,99,101,115,115]]=true
  ·rw[if_pos c2] at hl;have hi1:=W.isM hi' c2;by_cases t1:(tk ts i').text=[101,110,117,109]
   ·rw[if_pos t1] at hl;by_cases h32:32<=x.enums.length
    ·rw[if_pos h32] at hl;have hl:SR.er (tk ts i')=r:=hl;subst hl;have R:=wV hb h32 (tk ts i');unfold pC at *
     (have zz:=aI @g1 (aI C0.r (aI C1.r C2.r));(repeat'(first|apply jc<;>intro _|simp(disch:=first|exact qT|fail) only[ja i0,ja i2,ja i3,T,c2,t1,vl1,R,g1,zL,C0.q,C1.q,C2.q,g1,C0.r,C1.r,C2.r,r6,γ,δ,ζ,η,θ]));all_goals clear zz)
     refine⟨i'+1,0,?_⟩;unfold pC
     (refine G1.done ?_ (by rfl) (by rfl) ?_;(· (have zz:=aI C0.q (aI C1.q (aI C2.q (aI C0.r (aI C1.r C2.r))));first|exact qp|fail));(· first|exact vyD|skip))
    ·rw[if_neg h32] at hl;have R:=wU hb (show x.enums.length<32 by omega) (tk ts i');have A:=jrm hb W (d:=0) hi1;cases hw:Yv ts (i'+1) with
     |er t=>
      rw[hw] at hl A;have hl:SR.er t=r:=hl;subst hl;obtain⟨i2',d2,A⟩:=A;have E:∀ st p,Cl st p (pC ts (i'+1) 0)->∀ K Kp,XB ε base 88 [.ptr p 0] st K Kp=_:=λst p C K Kp=>A.xb C rfl (λst=>hb.no 88 dc _ _) K Kp;unfold pC at *
      (have zz:=aI @g1 (aI C0.r (aI C1.r C2.r));(repeat'(first|apply jc<;>intro _|simp(disch:=first|exact qT|fail) only[ja i0,ja i2,ja i3,T,c2,t1,vl1,R,g1,E,Gg,ve1,zL,C0.q,C1.q,C2.q,g1,C0.r,C1.r,C2.r,r6,γ,δ,ζ,η,θ]));all_goals clear zz)
      refine⟨i2',d2,?_⟩;unfold pC
      (refine G1.done ?_ (by rfl) (by rfl) ?_;(· (have zz:=aI C0.q (aI C1.q (aI C2.q (aI C0.r (aI C1.r C2.r))));first|exact qp|fail));(· first|exact vyD|skip))
     |ok a j=>
      rw[hw] at hl A;dsimp only at hl;have A:PM ε base 88 (pC ts (i'+1) 0) [] (.ok (.agg [.str a.name,.lst a.vals.length (a.vals.map .str),.int .i64 (a.line:Int),.int .i64 (a.col:Int)])) (pC ts j 0):=A;have hj:=GL W hi1 hw;have E:∀ st p,Cl st p (pC ts (i'+1) 0)->∀ K Kp,XB ε base 88 [.ptr p 0] st K Kp=_:=λst p C K Kp=>A.xb C rfl (λst=>hb.no 88 dc _ _) K Kp;have Ap:=λst bv xc xx K h hv=>@JS 3 q x.enums.length 4 st v1 (fl enE x.enums) K 56 bv xc xx h dc om om hv;have VP:∀ st m',Lv 3 q st v1 x.enums.length (fl enE x.enums) 4->3<=st.nx->m'=st.nx+1->Lv 3 m' (aps v1 st [.str a.name,.lst a.vals.length (a.vals.map .str),.int .i64 (a.line:Int),.int .i64 (a.col:Int)]) (apv 4 v1 st) (x.enums ++ [a]).length (fl enE (x.enums ++ [a])) 4:=λst m' h h2 h3=>by
       rw[ψ,QX,JZ];exact h.put rfl h2 h3
      unfold pC at *
      (have zz:=aI @g1 (aI V1.ln (aI V1.rts (aI @jA (aI @jF (aI @jJ (aI @V1 (aI @jC (aI @jI (aI @jL (aI C0.r (aI C1.r C2.r)))))))))));(repeat'(first|apply jc<;>intro _|simp(disch:=first|exact qT|fail) only[ja i0,ja i2,ja i3,T,c2,t1,vl1,R,g1,E,Gg,ve1,Ap,V1.at,jC,C0.q,C1.q,C2.q,g1,V1.ln,V1.rts,jA,jF,jJ,V1,jC,jI,jL,C0.r,C1.r,C2.r,r6,γ,δ,ζ,η,θ]));all_goals clear zz)
      refine⟨m,om,m,j,{ x with enums:=x.enums ++ [a] },?v1,v2,v3,rfl,om,hj.2,hl,om,?c0,?c1,?c2,?lv1,?lv2,?lv3,?d12,?d13,?d23,?has⟩;case lv1=>
       refine Lv.up (hi:=s.nx+4) ?_ om;refine VP _ _ ?_ ?_ ?_;all_goals first|(simp only[ji,jo,ju];done)|(simp only[ji,jo,ju];omega)|(simp(disch:=first|omega|(simp only[ji,jo,ju];omega)) only[jA,jF,jJ];exact V1)
      case lv2=>
       refine Lv.up (hi:=q) ?_ om;simp(disch:=first|omega|(simp only[ji,jo,ju];omega)) only[jA,jF,jJ];refine Lv.apsD ?_ D12;simp(disch:=first|omega|(simp only[ji,jo,ju];omega)) only[jA,jF,jJ];exact V2
      case d12=>exact(Df.put V2 (by simp only[ji,jo,ju];omega)).1
      case lv3=>
       refine Lv.up (hi:=q) ?_ om;simp(disch:=first|omega|(simp only[ji,jo,ju];omega)) only[jA,jF,jJ];refine Lv.apsD ?_ D13;simp(disch:=first|omega|(simp only[ji,jo,ju];omega)) only[jA,jF,jJ];exact V3
      case d13=>exact(Df.put V3 (by simp only[ji,jo,ju];omega)).1
      case d23=>exact D23
      case c0=>(have zz:=aI C0.q (aI C1.q (aI C2.q (aI @g1 (aI @g2 (aI @g3 (aI V1.ln (aI V1.rts (aI @jC (aI @jI (aI @jL (aI C0.r (aI C1.r C2.r))))))))))));first|exact qp|fail)
      case c1=>(have zz:=aI C0.q (aI C1.q (aI C2.q (aI @g1 (aI @g2 (aI @g3 (aI V1.ln (aI V1.rts (aI @jC (aI @jI (aI @jL (aI C0.r (aI C1.r C2.r))))))))))));first|exact qp|fail)
      case c2=>(have zz:=aI C0.q (aI C1.q (aI C2.q (aI @g1 (aI @g2 (aI @g3 (aI V1.ln (aI V1.rts (aI @jC (aI @jI (aI @jL (aI C0.r (aI C1.r C2.r))))))))))));first|exact qp|fail)
      case has=>simp(disch:=decide) only[h12,i0,i2,i3]
   ·rw[if_neg t1] at hl;by_cases t2:(tk ts i').text=[118,97,114]
    ·rw[if_pos t2] at hl;by_cases h32:32<=x.vars.length
     ·rw[if_pos h32] at hl;have hl:SR.er (tk ts i')=r:=hl;subst hl;have R:=wV hb h32 (tk ts i');unfold pC at *
      (have zz:=aI @g2 (aI C0.r (aI C1.r C2.r));(repeat'(first|apply jc<;>intro _|simp(disch:=first|exact qT|fail) only[ja i0,ja i2,ja i3,T,c2,t1,t2,vl2,R,g2,zL,C0.q,C1.q,C2.q,g2,C0.r,C1.r,C2.r,r6,γ,δ,ζ,η,θ]));all_goals clear zz)
      refine⟨i'+1,0,?_⟩;unfold pC
      (refine G1.done ?_ (by rfl) (by rfl) ?_;(· (have zz:=aI C0.q (aI C1.q (aI C2.q (aI C0.r (aI C1.r C2.r))));first|exact qp|fail));(· first|exact vyD|skip))
     ·rw[if_neg h32] at hl;have R:=wU hb (show x.vars.length<32 by omega) (tk ts i');have A:=jrt hb W NN hi1;cases hw:Yw ts (i'+1) with
      |er t=>
       rw[hw] at hl A;have hl:SR.er t=r:=hl;subst hl;obtain⟨i2',d2,A⟩:=A;have E:∀ st p,Cl st p (pC ts (i'+1) 0)->∀ K Kp,XB ε base 89 [.ptr p 0] st K Kp=_:=λst p C K Kp=>A.xb C rfl (λst=>hb.no 89 dc _ _) K Kp;unfold pC at *
       (have zz:=aI @g2 (aI C0.r (aI C1.r C2.r));(repeat'(first|apply jc<;>intro _|simp(disch:=first|exact qT|fail) only[ja i0,ja i2,ja i3,T,c2,t1,t2,vl2,R,g2,E,jqr,ve2,zL,C0.q,C1.q,C2.q,g2,C0.r,C1.r,C2.r,r6,γ,δ,ζ,η,θ]));all_goals clear zz)
       refine⟨i2',d2,?_⟩;unfold pC
       (refine G1.done ?_ (by rfl) (by rfl) ?_;(· (have zz:=aI C0.q (aI C1.q (aI C2.q (aI C0.r (aI C1.r C2.r))));first|exact qp|fail));(· first|exact vyD|skip))
      |ok a j=>
       rw[hw] at hl A;dsimp only at hl;have A:PM ε base 89 (pC ts (i'+1) 0) [] (.ok (.agg [.str a.name,.str a.ty,.int .i64 a.lo,.int .i64 a.hi,.lst a.begins.length (fl eE a.begins),.int .i64 (a.line:Int),.int .i64 (a.col:Int)])) (pC ts j 0):=A;have hj:=GQ W hi1 hw;have E:∀ st p,Cl st p (pC ts (i'+1) 0)->∀ K Kp,XB ε base 89 [.ptr p 0] st K Kp=_:=λst p C K Kp=>A.xb C rfl (λst=>hb.no 89 dc _ _) K Kp;have Ap:=λst bv xc xx K h hv=>@JS 3 q x.vars.length 7 st v2 (fl qk x.vars) K 88 bv xc xx h dc om om hv;have VP:∀ st m',Lv 3 q st v2 x.vars.length (fl qk x.vars) 7->3<=st.nx->m'=st.nx+1->Lv 3 m' (aps v2 st [.str a.name,.str a.ty,.int .i64 a.lo,.int .i64 a.hi,.lst a.begins.length (fl eE a.begins),.int .i64 (a.line:Int),.int .i64 (a.col:Int)]) (apv 7 v2 st) (x.vars ++ [a]).length (fl qk (x.vars ++ [a])) 7:=λst m' h h2 h3=>by
        rw[ψ,QX,JZ];exact h.put rfl h2 h3
       unfold pC at *
       (have zz:=aI @g2 (aI V2.ln (aI V2.rts (aI @jA (aI @jF (aI @jJ (aI @V2 (aI @jC (aI @jI (aI @jL (aI C0.r (aI C1.r C2.r)))))))))));(repeat'(first|apply jc<;>intro _|simp(disch:=first|exact qT|fail) only[ja i0,ja i2,ja i3,T,c2,t1,t2,vl2,R,g2,E,jqr,ve2,Ap,V2.at,jC,C0.q,C1.q,C2.q,g2,V2.ln,V2.rts,jA,jF,jJ,V2,jC,jI,jL,C0.r,C1.r,C2.r,r6,γ,δ,ζ,η,θ]));all_goals clear zz)
       refine⟨m,om,m,j,{ x with vars:=x.vars ++ [a] },v1,?v2,v3,rfl,om,hj.2,hl,om,?c0,?c1,?c2,?lv1,?lv2,?lv3,?d12,?d13,?d23,?has⟩;case lv2=>
        refine Lv.up (hi:=s.nx+4) ?_ om;refine VP _ _ ?_ ?_ ?_;all_goals first|(simp only[ji,jo,ju];done)|(simp only[ji,jo,ju];omega)|(simp(disch:=first|omega|(simp only[ji,jo,ju];omega)) only[jA,jF,jJ];exact V2)
       case lv1=>
        refine Lv.up (hi:=q) ?_ om;simp(disch:=first|omega|(simp only[ji,jo,ju];omega)) only[jA,jF,jJ];refine Lv.apsD ?_ D12.symm;simp(disch:=first|omega|(simp only[ji,jo,ju];omega)) only[jA,jF,jJ];exact V1
       case d12=>exact(Df.put V1 (by simp only[ji,jo,ju];omega)).2
       case lv3=>
        refine Lv.up (hi:=q) ?_ om;simp(disch:=first|omega|(simp only[ji,jo,ju];omega)) only[jA,jF,jJ];refine Lv.apsD ?_ D23;simp(disch:=first|omega|(simp only[ji,jo,ju];omega)) only[jA,jF,jJ];exact V3
       case d23=>exact(Df.put V3 (by simp only[ji,jo,ju];omega)).1
       case d13=>exact D13
       case c0=>(have zz:=aI C0.q (aI C1.q (aI C2.q (aI @g1 (aI @g2 (aI @g3 (aI V2.ln (aI V2.rts (aI @jC (aI @jI (aI @jL (aI C0.r (aI C1.r C2.r))))))))))));first|exact qp|fail)
       case c1=>(have zz:=aI C0.q (aI C1.q (aI C2.q (aI @g1 (aI @g2 (aI @g3 (aI V2.ln (aI V2.rts (aI @jC (aI @jI (aI @jL (aI C0.r (aI C1.r C2.r))))))))))));first|exact qp|fail)
       case c2=>(have zz:=aI C0.q (aI C1.q (aI C2.q (aI @g1 (aI @g2 (aI @g3 (aI V2.ln (aI V2.rts (aI @jC (aI @jI (aI @jL (aI C0.r (aI C1.r C2.r))))))))))));first|exact qp|fail)
       case has=>simp(disch:=decide) only[h12,i0,i2,i3]
    ·rw[if_neg t2] at hl;by_cases h32:32<=x.procs.length
     ·rw[if_pos h32] at hl;have hl:SR.er (tk ts i')=r:=hl;subst hl;have R:=wV hb h32 (tk ts i');unfold pC at *
      (have zz:=aI @g3 (aI C0.r (aI C1.r C2.r));(repeat'(first|apply jc<;>intro _|simp(disch:=first|exact qT|fail) only[ja i0,ja i2,ja i3,T,c2,t1,t2,vl3,R,g3,zL,C0.q,C1.q,C2.q,g3,C0.r,C1.r,C2.r,r6,γ,δ,ζ,η,θ]));all_goals clear zz)
      refine⟨i'+1,0,?_⟩;unfold pC
      (refine G1.done ?_ (by rfl) (by rfl) ?_;(· (have zz:=aI C0.q (aI C1.q (aI C2.q (aI C0.r (aI C1.r C2.r))));first|exact qp|fail));(· first|exact vyD|skip))
     ·rw[if_neg h32] at hl;have R:=wU hb (show x.procs.length<32 by omega) (tk ts i');have A:=jqH hb W hi1;cases hw:Yj ts (i'+1) with
      |er t=>
       rw[hw] at hl A;have hl:SR.er t=r:=hl;subst hl;obtain⟨i2',d2,A⟩:=A;have E:∀ st p,Cl st p (pC ts (i'+1) 0)->∀ K Kp,XB ε base 90 [.ptr p 0] st K Kp=_:=λst p C K Kp=>A.xb C rfl (λst=>hb.no 90 dc _ _) K Kp;unfold pC at *
       (have zz:=aI @g3 (aI C0.r (aI C1.r C2.r));(repeat'(first|apply jc<;>intro _|simp(disch:=first|exact qT|fail) only[ja i0,ja i2,ja i3,T,c2,t1,t2,vl3,R,g3,E,jqq,ve3,zL,C0.q,C1.q,C2.q,g3,C0.r,C1.r,C2.r,r6,γ,δ,ζ,η,θ]));all_goals clear zz)
       refine⟨i2',d2,?_⟩;unfold pC
       (refine G1.done ?_ (by rfl) (by rfl) ?_;(· (have zz:=aI C0.q (aI C1.q (aI C2.q (aI C0.r (aI C1.r C2.r))));first|exact qp|fail));(· first|exact vyD|skip))
      |ok a j=>
       rw[hw] at hl A;dsimp only at hl;have A:PM ε base 90 (pC ts (i'+1) 0) [] (.ok (.agg [.str a.name,.lst a.rules.length (fl ruE a.rules),.int .i64 (a.line:Int),.int .i64 (a.col:Int)])) (pC ts j 0):=A;have hj:=Gm W hi1 hw;have E:∀ st p,Cl st p (pC ts (i'+1) 0)->∀ K Kp,XB ε base 90 [.ptr p 0] st K Kp=_:=λst p C K Kp=>A.xb C rfl (λst=>hb.no 90 dc _ _) K Kp;have Ap:=λst bv xc xx K h hv=>@JS 3 q x.procs.length 4 st v3 (fl prE x.procs) K 56 bv xc xx h dc om om hv;have VP:∀ st m',Lv 3 q st v3 x.procs.length (fl prE x.procs) 4->3<=st.nx->m'=st.nx+1->Lv 3 m' (aps v3 st [.str a.name,.lst a.rules.length (fl ruE a.rules),.int .i64 (a.line:Int),.int .i64 (a.col:Int)]) (apv 4 v3 st) (x.procs ++ [a]).length (fl prE (x.procs ++ [a])) 4:=λst m' h h2 h3=>by
        rw[ψ,QX,JZ];exact h.put rfl h2 h3
       unfold pC at *
       (have zz:=aI @g3 (aI V3.ln (aI V3.rts (aI @jA (aI @jF (aI @jJ (aI @V3 (aI @jC (aI @jI (aI @jL (aI C0.r (aI C1.r C2.r)))))))))));(repeat'(first|apply jc<;>intro _|simp(disch:=first|exact qT|fail) only[ja i0,ja i2,ja i3,T,c2,t1,t2,vl3,R,g3,E,jqq,ve3,Ap,V3.at,jC,C0.q,C1.q,C2.q,g3,V3.ln,V3.rts,jA,jF,jJ,V3,jC,jI,jL,C0.r,C1.r,C2.r,r6,γ,δ,ζ,η,θ]));all_goals clear zz)
       refine⟨m,om,m,j,{ x with procs:=x.procs ++ [a] },v1,v2,?v3,rfl,om,hj.2,hl,om,?c0,?c1,?c2,?lv1,?lv2,?lv3,?d12,?d13,?d23,?has⟩;case lv3=>
        refine Lv.up (hi:=s.nx+4) ?_ om;refine VP _ _ ?_ ?_ ?_;all_goals first|(simp only[ji,jo,ju];done)|(simp only[ji,jo,ju];omega)|(simp(disch:=first|omega|(simp only[ji,jo,ju];omega)) only[jA,jF,jJ];exact V3)
       case lv1=>
        refine Lv.up (hi:=q) ?_ om;simp(disch:=first|omega|(simp only[ji,jo,ju];omega)) only[jA,jF,jJ];refine Lv.apsD ?_ D13.symm;simp(disch:=first|omega|(simp only[ji,jo,ju];omega)) only[jA,jF,jJ];exact V1
       case d13=>exact(Df.put V1 (by simp only[ji,jo,ju];omega)).2
       case lv2=>
        refine Lv.up (hi:=q) ?_ om;simp(disch:=first|omega|(simp only[ji,jo,ju];omega)) only[jA,jF,jJ];refine Lv.apsD ?_ D23.symm;simp(disch:=first|omega|(simp only[ji,jo,ju];omega)) only[jA,jF,jJ];exact V2
       case d23=>exact(Df.put V2 (by simp only[ji,jo,ju];omega)).2
       case d12=>exact D12
       case c0=>(have zz:=aI C0.q (aI C1.q (aI C2.q (aI @g1 (aI @g2 (aI @g3 (aI V3.ln (aI V3.rts (aI @jC (aI @jI (aI @jL (aI C0.r (aI C1.r C2.r))))))))))));first|exact qp|fail)
       case c1=>(have zz:=aI C0.q (aI C1.q (aI C2.q (aI @g1 (aI @g2 (aI @g3 (aI V3.ln (aI V3.rts (aI @jC (aI @jI (aI @jL (aI C0.r (aI C1.r C2.r))))))))))));first|exact qp|fail)
       case c2=>(have zz:=aI C0.q (aI C1.q (aI C2.q (aI @g1 (aI @g2 (aI @g3 (aI V3.ln (aI V3.rts (aI @jC (aI @jI (aI @jL (aI C0.r (aI C1.r C2.r))))))))))));first|exact qp|fail)
       case has=>simp(disch:=decide) only[h12,i0,i2,i3]
  ·rw[if_neg c2] at hl;by_cases k5:(tk ts i').kind=5
   ·rw[if_pos k5] at hl;have hl:SR.ok x i'=r:=hl;subst hl;have k5':((tk ts i').kind:Int)=5:=om
    unfold pC at *
    (have zz:=aI @g1 (aI @g2 (aI @g3 (aI @vc1 (aI @vc2 (aI @vc3 (aI C0.r (aI C1.r C2.r)))))));(repeat'(first|apply jc<;>intro _|simp(disch:=first|exact qT|fail) only[ja i0,ja i2,ja i3,T,c2,k5',g1,g2,g3,jav,C0.q,C1.q,C2.q,g1,g2,g3,vc1,vc2,vc3,C0.r,C1.r,C2.r,r6,γ,δ,ζ,η,θ]));all_goals clear zz)
    show G1 3 (pC ts i' 0) (.agg (srE x)) _ _;refine G1.done ?_ (by rfl) (by rfl) (FzD.agg (.cons (Lv.fz (lo:=3) (hi:=q) (z:=4) ?_ dc (yZ J1 _)) (.cons (Lv.fz (lo:=3) (hi:=q) (z:=7) ?_ dc (yZ JG _)) (.cons (Lv.fz (lo:=3) (hi:=q) (z:=4) ?_ dc (yZ jaE _)) .nil))))
    ·unfold pC
     (have zz:=aI C0.q (aI C1.q (aI C2.q (aI @g1 (aI @g2 (aI @g3 (aI C0.r (aI C1.r C2.r)))))));first|exact qp|fail)
    all_goals simp(disch:=first|omega|(simp only[ji,jo,ju];omega)) only[jH,jA,jF,jJ]
    ·exact V1
    ·exact V2
    ·exact V3
   ·rw[if_neg k5] at hl;have hl:SR.er (tk ts i')=r:=hl;subst hl;have k5':¬ ((tk ts i').kind:Int)=5:=om
    unfold pC at *
    (have zz:=aI @g1 (aI C0.r (aI C1.r C2.r));(repeat'(first|apply jc<;>intro _|simp(disch:=first|exact qT|fail) only[ja i0,ja i2,ja i3,T,c2,k5',g1,Qr hb,zL,C0.q,C1.q,C2.q,g1,C0.r,C1.r,C2.r,r6,γ,δ,ζ,η,θ]));all_goals clear zz)
    refine⟨i',0,?_⟩;unfold pC
    (refine G1.done ?_ (by rfl) (by rfl) ?_;(· (have zz:=aI C0.q (aI C1.q (aI C2.q (aI C0.r (aI C1.r C2.r))));first|exact qp|fail));(· first|exact vyD|skip))
 ·refine⟨ts.length,i,⟨[],[],[]⟩,.nils,.nils,.nils,rfl,om,hi,hr,om,C0,C1,C2,Lv.nil,Lv.nil,Lv.nil,trivial,trivial,trivial,?_⟩;simp(disch:=decide) only[h12]
theorem jsu:Go.Ev.isAgg ε 26=some true:=by kernel_rfl
theorem jst:Go.Ev.sizeOf ε 26=some 3:=by kernel_rfl
theorem jfj {b:Nat}{h:T AO}(ho:0+3<=qv h b)(hv:rats h b 0 3=[.nils,.nils,.nils]):(j9 ε 26 (.ptr b 0) (.agg [.nils,.nils,.nils]) h=true)=True:=eq_true (Y4 jsu jst dc ho hv rfl)
def Ww:SrcT:=⟨[],[],[]⟩
def yK (l:List Nat):SrcT×(Nat×Nat×Nat):=
 if(qr l).2.1≠0 then(Ww,(qr l).2) else match XY (qr l).1 (qr l).1.length 0 Ww with
  |.er t=>(Ww,(151,t.line,t.col))
  |.ok m j=>(m,(0,0,0))
theorem Kv (m:SrcT):(srE m).all pc=true:=by
 show([AV.lst m.enums.length (fl enE m.enums),.lst m.vars.length (fl qk m.vars),.lst m.procs.length (fl prE m.procs)]).all pc=true;simp[pc]
theorem jdQ {s:St}{q:Nat×Nat×Nat}{ds:List AV}(h2:ds=zO q):G0 (.tup [.agg (srE Ww),.agg (zO q)]) (.tup [.agg [.nils,.nils,.nils],.agg ds]) s:=by
 subst h2;exact FzD.tup (.cons (.agg (.cons FzD.nils (.cons FzD.nils (.cons FzD.nils .nil)))) (.cons (.agg (.pc (by rfl))) .nil))
theorem jnF {s:St}{m:SrcT}{q:Nat×Nat×Nat}{cs ds:List AV}(h:cs=srE m)(h2:ds=zO q):G0 (.tup [.agg (srE m),.agg (zO q)]) (.tup [.agg cs,.agg ds]) s:=by
 subst h h2;exact FzD.tup (.cons (.agg (.pc (Kv m))) (.cons (.agg (.pc (by rfl))) .nil))
set_option maxHeartbeats 4000000 in
theorem jlJ (hb:NB base)(hP:PI base)(l:List Nat)(hl:l.length<=9223372036854775807)(hW:(qr l).2.1=0->Wds (qr l).1/\(qr l).1≠[]/\(qr l).2=(0,0,0))(hN:(qr l).2.1=0->Nbs (qr l).1) :
  Tot base 52 [.str l] (.tup [.agg (srE (yK l).1),.agg (zO (yK l).2)]):=by
 refine hb.tot ?_ rfl rfl;refine WA x9 (hb.pur 52 1 dc) ?_;simp only[y9,jt,κ,μ,ν,ξ];rw[(by unfold z9;simp only[qq];rfl:z9=_)];have hC:=jng hb hP l hl;have f0:(zO (qr l).2)=[.int .i64 ((qr l).2.1:Int),.int .i64 ((qr l).2.2.1:Int),.int .i64 ((qr l).2.2.2:Int)]:=rfl;by_cases he:(qr l).2.1=0
 ·obtain⟨W,hne,hz⟩:=hW he;have NN:=hN he;have hi:0<(qr l).1.length:=QbB.2 hne;have A:=jkK hb W NN hi;unfold yK;rw[if_neg (by simp[he])];rw[hz] at hC;have s0:Ww=⟨[],[],[]⟩:=rfl;rw[<-s0] at A;generalize (qr l).1=ts at *;have fz:zO (0,0,0)=[.int .i64 0,.int .i64 0,.int .i64 0]:=rfl;rw[fz] at hC;cases hr:XY ts ts.length 0 Ww with
  |er t=>
   rw[hr] at A;obtain⟨i',d',A⟩:=A;have E:∀ st p,Cl st p [.lst ts.length (fl Tk.cells ts),.int .i64 0,.int .i64 0]->∀ K Kp,XB ε base 66 [.ptr p 0] st K Kp=_:=λst p C K Kp=>A.xb C rfl (λst=>hb.no 66 dc _ _) K Kp;unfold pC at *;repeat'(first|apply jc<;>intro _|simp(disch:=first|exact dzD|fail) only[hC,E,wn,Qg (f:=65) (vs:=[.ptr 1 0]),JH (f:=65) (vs:=[.ptr 1 0]),Yx,vP,WD,Y2,jfj,YH,Vh,Vg (base:=base),r6,γ,δ,ζ,η,θ])
   exact jdQ rfl
  |ok m j=>
   rw[hr] at A;have A:PM ε base 66 (pC ts 0 0) [] (.ok (.agg [.lst m.enums.length (fl enE m.enums),.lst m.vars.length (fl qk m.vars),.lst m.procs.length (fl prE m.procs)])) (pC ts j 0):=A;have E:∀ st p,Cl st p [.lst ts.length (fl Tk.cells ts),.int .i64 0,.int .i64 0]->∀ K Kp,XB ε base 66 [.ptr p 0] st K Kp=_:=λst p C K Kp=>A.xb C rfl (λst=>hb.no 66 dc _ _) K Kp;dsimp only;unfold pC at *;repeat'(first|apply jc<;>intro _|simp(disch:=first|exact dzD|fail) only[hC,E,wn,Qg (f:=65) (vs:=[.ptr 1 0]),JH (f:=65) (vs:=[.ptr 1 0]),Yx,vP,WD,Y2,jfj,YH,Vh,Vg (base:=base),r6,γ,δ,ζ,η,θ])
   exact jnF rfl rfl
 ·have he':¬ ((qr l).2.1:Int)=0:=om
  unfold yK;rw[if_pos he];rw[f0] at hC;generalize (qr l).1=ts at *;repeat'(first|apply jc<;>intro _|simp(disch:=first|exact dzD|fail) only[hC,he',wn,Qg (f:=65) (vs:=[.ptr 1 0]),JH (f:=65) (vs:=[.ptr 1 0]),Yx,vP,WD,Y2,jfj,r6,γ,δ,ζ,η,θ])
  exact jdQ rfl
theorem jfC {r:List Nat}{p:Nat×Nat}{n:Nat}{t:Tk}(h:yY r p=(0,t,n)):t.text.length<=r.length/\t.num<=1000000:=by
 cases r with
 |nil=>simp[yY] at h;obtain⟨h1,h2⟩:=h;subst h1;simp
 |cons x r'=>
  unfold yY at h;simp only at h;split at h
  ·split at h
   ·simp at h
   ·simp only[Prod.mk.injEq] at h;obtain⟨_,h1,h2⟩:=h;subst h1;exact⟨by simp only[Qat];omega,by simp⟩
  ·split at h
   ·split at h
    ·simp at h
    ·rename_i hh;simp only[Prod.mk.injEq] at h;obtain⟨_,h1,h2⟩:=h;subst h1;exact⟨by simp only[Qat];omega,by dsimp only;omega⟩
   ·split at h
    ·simp at h
    ·simp only[Prod.mk.injEq] at h;obtain⟨_,h1,h2⟩:=h;subst h1;exact⟨by simp only[Qat];omega,by simp⟩
structure Goods (n:Nat)(ts:List Tk):Prop where
 ne:ts≠[]
 len:ts.length<=n+1
 tok:∀ t∈ts,t.text.length<=n/\t.num<=1000000
 fin:∀ i,i<ts.length->((tk ts i).kind=5↔i+1=ts.length)
theorem jiW (k:Nat):∀ (r:List Nat) (p:Nat×Nat),r.length<=k->(JN r p).2.1=0->(JN r p).2=(0,0,0)/\Goods r.length (JN r p).1:=by
 induction k with
 |zero=>
  intro r p hr;have:r=[]:=QaV om;subst this;have hx:yY (([]:List Nat).drop (qe [])) (qh p (([]:List Nat).take (qe [])))=(0,⟨5,[],0,(qh p (([]:List Nat).take (qe []))).1,(qh p (([]:List Nat).take (qe []))).2⟩,0):=by simp only[List.drop_nil];rfl
  rw[w9 _ p hx,if_neg (by simp),if_pos rfl];intro _;refine⟨rfl,by simp,by simp,by simp,λi hi=>?_⟩;have:i=0:=by simp at hi;omega
  subst this;simp[tk]
 |succ k ih=>
  intro r p hr;have hg:=U2 r;generalize hx:yY (r.drop (qe r)) (qh p (r.take (qe r)))=x;obtain⟨e,t,n⟩:=x;rw[w9 r p hx];by_cases he:e=0
  ·subst he;rw[if_neg (by simp)];have hk:=KX hx;have hgd:=jfC hx;have hle:=kT hx;simp only[QaD] at hgd hle;by_cases hn:n=0
   ·rw[if_pos hn];intro _;refine⟨rfl,by simp,by simp,?_,λi hi=>?_⟩
    ·intro t' ht';have:t'=t:=by simpa using ht'
     subst this;exact⟨om,hgd.2⟩
    ·have:i=0:=by simp at hi;omega
     subst this;have:=hk.1.2 hn;simpa[tk] using this
   ·rw[if_neg hn];have hl:((r.drop (qe r)).drop n).length<=k:=by simp only[QaD];omega
    have hI:=ih ((r.drop (qe r)).drop n) (qh (qh p (r.take (qe r))) ((r.drop (qe r)).take n)) hl;generalize hq:JN ((r.drop (qe r)).drop n) (qh (qh p (r.take (qe r))) ((r.drop (qe r)).take n))=q at hI ⊢;by_cases hf:q.2.1=0
    ·rw[if_neg (by simp[hf])];intro _;obtain⟨h1,h2⟩:=hI hf;have hl2:((r.drop (qe r)).drop n).length+1<=r.length:=by simp only[QaD];omega
     generalize ((r.drop (qe r)).drop n).length=m at *;have h3:=h2.len;refine⟨h1,by simp,by simp only[υ];omega,?_,λi hi=>?_⟩
     ·intro t' ht';rcases QaS.1 ht' with rfl|ht'
      ·exact⟨om,hgd.2⟩
      ·have:=h2.tok t' ht';exact⟨om,this.2⟩
     ·cases i with
      |zero=>
       have hk5:t.kind≠5:=λh=>hn (hk.1.1 h);have:=QbB.2 h2.ne;show t.kind=5↔0+1=q.1.length+1;constructor
       ·intro h;exact absurd h hk5
       ·intro h;omega
      |succ i=>
       show(tk q.1 i).kind=5↔i+1+1=q.1.length+1;have:=h2.fin i (by simpa using hi);constructor
       ·intro h;have:=this.1 h;omega
       ·intro h;exact this.2 om
    ·rw[if_pos hf];intro h;exact absurd h hf
  ·rw[if_pos he];intro h;exact absurd h he
theorem HZ {l:List Nat}(h:(qr l).2.1=0):l.length<=65536/\(qr l).2=(0,0,0)/\Goods l.length (qr l).1:=by
 unfold qr at *;by_cases hl:65536<l.length
 ·rw[if_pos hl] at h;cases h
 ·rw[if_neg hl] at h ⊢;obtain⟨h1,h2⟩:=jiW l.length l (1,1) (τ _) h;exact⟨om,h1,h2⟩
theorem jmj {ts:List Tk}{i:Nat}(h:ts.length<=i):tk ts i=⟨0,[],0,0,0⟩:=by simp[tk,Qad,h]
theorem jhg {ts:List Tk}{i:Nat}(h:i<ts.length):tk ts i∈ts:=by rw[<-jmk h];exact Qac h
theorem Goods.wds {n:Nat}{ts:List Tk}(h:Goods n ts)(hn:n<=65536):Wds ts where
 len:=by have:=h.len;omega
 next:=λi hi hk=>by
  have:=h.fin i hi;rcases Qau (i+1) ts.length with h2|h2
  ·exact h2
  ·exact absurd (this.2 om) hk
 txt:=λi=>by
  rcases Qau i ts.length with h2|h2
  ·have:=(h.tok _ (jhg h2)).1;omega
  ·rw[jmj h2];simp
theorem Goods.nbs {n:Nat}{ts:List Tk}(h:Goods n ts):Nbs ts:=λi=>by
 rcases Qau i ts.length with h2|h2
 ·exact(h.tok _ (jhg h2)).2
 ·rw[jmj h2];simp
theorem Uf {l:List Nat}(h:(qr l).2.1=0):Wds (qr l).1/\(qr l).1≠[]/\(qr l).2=(0,0,0):=
 let ⟨h1,h2,h3⟩:=HZ h
 ⟨h3.wds h1,h3.ne,h2⟩
theorem jiV {l:List Nat}(h:(qr l).2.1=0):Nbs (qr l).1:=(HZ h).2.2.nbs
theorem jjh (hb:NB base)(c:Nat):Tot base 79 [.int .u8 (c:Int)] (.bool (zV c)):=by
 refine hb.tot ?_ rfl rfl;refine jE x83 (by rfl) (hb.pur 79 1 dc) ?_;simp only[y83,jt,κ,μ,ν,ξ];rw[(by unfold z83;simp only[qq];rfl:z83=_)];repeat'(first|apply jc<;>intro _|simp(disch:=first|exact dzA|fail) only[rzZ,γ,δ,ζ,η,θ])
 all_goals(refine G0.v (congrArg AV.bool ?_) rfl;rw[QaA];simp only[zV,QaE,Qaa,decide_eq_true_eq,QaP,Qbz,QaO,decide_eq_false_iff_not,true_iff,false_iff,iff_true,iff_false,not_true_eq_false,not_false_eq_true,ne_eq,eq_self]<;>omega)
theorem jlQ (hb:NB base)(c:Nat):Tot base 80 [.int .u8 (c:Int)] (.bool (qj c)):=by
 refine hb.tot ?_ rfl rfl;refine jE x85 (by rfl) (hb.pur 80 1 dc) ?_;simp only[y85,jt,κ,μ,ν,ξ];rw[(by unfold z85;simp only[qq];rfl:z85=_)];repeat'(first|apply jc<;>intro _|simp(disch:=first|exact dzA|fail) only[rzZ,γ,δ,ζ,η,θ])
 all_goals(refine G0.v (congrArg AV.bool ?_) rfl;rw[QaA];simp only[qj,QaE,Qaa,decide_eq_true_eq,QaP,Qbz,QaO,decide_eq_false_iff_not,true_iff,false_iff,iff_true,iff_false,not_true_eq_false,not_false_eq_true,ne_eq,eq_self]<;>omega)
theorem js0 (hb:NB base)(l:List Nat)(S:List (List Nat))(hS:S.length<=1000000):PX ε base 106 [.str l,.lst S.length (S.map .str)] (.ok (.bool (decide (l∈S)))):=by
 have st1:∀ {k:Nat} (h:k<S.length) (st:St) (K:AV->St->Prop),jp (q9 (.lptr (S.map AV.str) k) st) K=K (.str S[k]) st:=λ{k} h st K=>by
  rw[Jd (by simpa using h)];congr 1;exact Vo h
 refine jE jtS (by rfl) (hb.pur 106 1 dc) ?_;simp only[jpx,jt,κ,μ,ν,ξ];rw[(by unfold jj8;simp only[qq];rfl:jj8=_)];repeat'(first|apply jc<;>intro _|simp(disch:=first|exact dzA|fail) only[rzZ,γ,δ,ζ,η,θ])
 refine jZ S.length (λk L s=>(∀ j (h:j<S.length),j<k->S[j]≠l)/\Has L 0 (.str l)/\Has L 7 (.lst S.length (S.map AV.str))) (by first|assumption|omega) dc (by simp(disch:=decide) only[jf,jb]) (by simp(disch:=decide) only[jf,jb]) ?_ (λk L s v h=>by simp(disch:=decide) only[jb];exact h) (λk L s v h=>by simp(disch:=decide) only[jb];exact h) (λk L s hk hI hi hn=>?_) (λL s hI=>?_)
 ·refine⟨λj h hj=>absurd hj (Qaw _),?_⟩;simp(disch:=decide) only[h12]
 ·obtain⟨h0,i0,i7⟩:=hI;repeat'(first|apply jc<;>intro _|simp(disch:=first|exact dzA|fail) only[ja i0,ja i7,ja hi,ja hn,st1,rzZ,γ,δ,ζ,η,θ])
  ·rename_i he;have he:S[k]=l:=by simpa using he
   exact G0.v (by rw[decide_eq_true (he▸Qac hk)]) rfl
  ·rename_i he;have he:¬ S[k]=l:=by simpa using he
   refine⟨⟨λj h hj=>?_,?_⟩,?_⟩
   ·rcases Qau j k with h2|h2
    ·exact h0 j h h2
    ·have:j=k:=om
     subst this;exact he
   ·simp(disch:=decide) only[h12,i0,i7]
   ·simp(disch:=decide) only[h12,hi,hn]
 ·obtain⟨h0,i0,i7⟩:=hI;repeat'(first|apply jc<;>intro _|simp(disch:=first|exact dzA|fail) only[ja i0,ja i7,rzZ,γ,δ,ζ,η,θ])
  refine G0.v (congrArg AV.bool ?_) rfl
  symm
  rw[decide_eq_false_iff_not];intro hm;obtain⟨j,hj,e⟩:=Qbs.1 hm;exact h0 j hj hj e
theorem joB (hb:NB base)(l:List Nat):Tot base 81 [.str l] (.bool (Gw l)):=by
 refine hb.tot ?_ rfl rfl;have O:=λst b m x D K Kp=>(js0 hb l UW dc).xf (st:=st) (aZ':=[.str l,.slice b 0 19 m 1 x]) (ks:=[b]) (Fza.pa rfl (Fza.sl (n:=19) (D:Cl st b (UW.map AV.str)) dc (uS UW) .nil)) (λst=>hb.no 106 dc _ _) K Kp;unfold UW at O;simp only[κ,μ] at O;refine jE x84 (by rfl) (hb.pur 81 1 dc) ?_;simp only[y84,jt,κ,μ,ν,ξ];rw[(by unfold z84;simp only[qq];rfl:z84=_)];repeat'(first|apply jc<;>intro _|simp(disch:=first|exact dzA|fail) only[O,rzZ,γ,δ,ζ,η,θ])
 exact G0.v rfl rfl
def kS (l:List Nat)(i:Nat):Bool:=zV (l.getD i 0) ||decide (i≠0) && (qj (l.getD i 0) ||decide (l.getD i 0=95))
theorem jcj {p:Nat->Bool}:∀ {l:List Nat},q8 p l=l.length->∀ j,j<l.length->p (l.getD j 0)=true
 |[],_,j,h=>by simp at h
 |c :: l,h,j,hj=>by
  simp only[q8] at h;by_cases hc:p c=true
  ·rw[if_pos hc] at h;cases j with
   |zero=>exact hc
   |succ j=>exact jcj (l:=l) (by simpa using h) j (by simpa using hj)
  ·rw[if_neg hc] at h;simp at h
theorem jqJ {l:List Nat}{i:Nat}(hi:i<l.length)(h:kS l i=false):nm l=false:=by
 rw[Qcm];intro hn;unfold nm at hn;simp only[Qaa,decide_eq_true_eq] at hn;obtain⟨⟨⟨_,h2⟩,_⟩,h3⟩:=hn;have:=jcj h3 i hi;unfold kS at h;unfold Jn at this;by_cases h0:i=0
 ·subst h0;rw[h2] at h;cases h
 ·rw[decide_eq_true h0] at h;cases h1:zV (l.getD i 0)<;>cases h4:qj (l.getD i 0)<;>cases h5:decide (l.getD i 0=95)<;>simp only[h1,h4,h5] at h this<;>first|(cases h;done)|(cases this;done)
theorem jnV {l:List Nat}(h:∀ i,i<l.length->kS l i=true):nm l=(decide (0<l.length) && decide (l.length<=32) && !Gw l):=by
 have e:q8 Jn l=l.length:=UV (τ _) (λj hj=>by
  have:=h j hj;unfold kS at this;unfold Jn;cases h1:zV (l.getD j 0)<;>cases h4:qj (l.getD j 0)<;>cases h5:decide (l.getD j 0=95)<;>rw[h1,h4,h5] at this<;>first|rfl|(simp at this;done)) (.inl rfl)
 unfold nm;cases l with
 |nil=>rfl
 |cons c l=>
  have h0:=h 0 (by simp);unfold kS at h0;have:zV ((c :: l).getD 0 0)=true:=by simpa using h0
  rw[e,this];simp
set_option maxHeartbeats 1000000 in
theorem ZG (hb:NB base)(l:List Nat)(hl:l.length<=4611686018427387904):Tot base 58 [.str l] (.bool (nm l)):=by
 refine hb.tot ?_ rfl rfl;refine jE x56 (by rfl) (hb.pur 58 1 dc) ?_;simp only[y56,jt,κ,μ,ν,ξ];rw[(by unfold z56;simp only[qq];rfl:z56=_)];repeat'(first|apply jc<;>intro _|simp(disch:=first|exact dzA|fail) only[rzZ,γ,δ,ζ,η,θ])
 refine zu (λmm L s=>∃ k:Nat,k<=l.length/\mm=l.length - k/\(∀ j,j<k->kS l j=true)/\Has L 0 (.str l)/\Has L 3 (.int .i64 (k:Int))) ?_ l.length ?_
 ·rintro m L s ⟨k,hk,rfl,h0,i0,i3⟩;by_cases hlt:k<l.length
  ·have hlt':(k:Int)<(l.length:Int):=om
   have LT:=jjh hb (l.getD k 0);have DT:=jlQ hb (l.getD k 0);have z:((k:Int)=0)=(k=0):=by rw[eq_iff_iff];omega
   have z9:((l.getD k 0:Int)=95)=(l.getD k 0=95):=by rw[eq_iff_iff];omega
   have e1:(((k+1:Nat):Int))=(k:Int)+1:=om
   have hn:kS l k=(zV (l.getD k 0) ||decide (k≠0) && (qj (l.getD k 0) ||decide (l.getD k 0=95))):=rfl;repeat'(first|apply jc<;>intro _|simp(disch:=first|exact dzA|fail) only[ja i0,ja i3,hlt',LT,DT,z,z9,rzZ,γ,δ,ζ,η,θ])
   all_goals first
    |(refine G0.v (congrArg AV.bool (jqJ hlt ?_)).symm rfl;rw[hn];simp_all;done)
    |(
     refine⟨l.length - (k+1),om,k+1,om,rfl,λj hj=>?_,?_⟩
     ·rcases Qau j k with h2|h2
      ·exact h0 j h2
      ·have:j=k:=om
       subst this;rw[hn];simp_all
     ·simp(disch:=decide) only[h12,i0,e1])
  ·have hlt':¬ (k:Int)<(l.length:Int):=om
   have hk':k=l.length:=om
   subst hk';have g:=jnV h0;repeat'(first|apply jc<;>intro _|simp(disch:=first|exact dzA|fail) only[ja i0,ja i3,hlt',joB hb l,rzZ,γ,δ,ζ,η,θ])
   all_goals(refine G0.v (congrArg AV.bool ?_) rfl;rw[g];simp_all<;>omega)
 ·refine⟨0,Qae _,rfl,λj hj=>absurd hj (Qaw _),?_⟩;simp(disch:=decide) only[h12]
theorem jkL {b o:Nat}{v:AV}{h:T AO}(ho:o<qv h b)(hv:rat h b o=v)(hc:eqs v=true):(j9 ε 27 (.ptr b o) v h=true)=True:=eq_true (Qk jmh jmg ho hv hc)
theorem w6 (n:Nat)(cs:List AV):eqs (.lst n cs)=true:=nr rfl
def wE (op num:Int)(name:List Nat):Bool:=
 if op=1 then decide (0<=num) && decide (num<=1000000)
 else if op=2 then decide (num=0) ||decide (num=1)
 else if op=3 then decide (num=0) && nm name
 else if op=4 then true
 else decide (num=0)
mutual
def JW:Ex->Bool
 |.mk op num name ks _ _=>decide (JX op=(ks.length:Int)) && Jj ks && (decide (op=3) ||decide (name=[])) && wE op num name
def Jj:List Ex->Bool
 |[]=>true
 |x :: xs=>JW x && Jj xs
end
theorem Vq (x:Ex):JW x=(decide (JX x.op=(x.kids.length:Int)) && Jj x.kids && (decide (x.op=3) ||decide (x.name=[])) && wE x.op x.num x.name):=by cases x;rfl
theorem ZM:∀ xs ys,Jj (xs ++ ys)=(Jj xs && Jj ys)
 |[],ys=>by simp[Jj]
 |x :: xs,ys=>by rw[Qag,Jj,Jj,ZM,Bool.and_assoc]
theorem ckX {p:Prop} (h:p:=by(first|assumption|(simp(disch:=first|assumption|decide|(first|omega|(simp only[ji,jo,ju,jr,jq];first|done|omega))) only[jB,jD,jz,jT,jA,jF,jH,jJ];assumption))):p:=h
set_option maxHeartbeats 1000000 in
theorem jox (hb:NB base):∀ x:Ex,szE x<=BIG->Tot base 60 [.agg (eE x)] (.bool (JW x)):=by
 refine Ex.indk λx ih hx=>?_;refine hb.tot ?_ (by first|rfl|simp[pa,pc,qZ]) rfl;have hd:=Vq x;have hz:=X7 x;generalize hks:x.kids=ks at *;have hlen:=Yz ks;have NM:=ZG hb x.name (by unfold BIG at *;omega);have KT:=jr0 hb x.op;unfold BIG at *;unfold wE at hd;refine jE x92 (by rfl) (hb.pur 60 1 dc) ?_;simp only[y92,jt,κ,μ,ν,ξ];rw[(by unfold z92;simp only[qq];rfl:z92=_)]
 (have zz:=aI @yS (aI @w6 @hks);(repeat'(first|apply jc<;>intro _|simp(disch:=first|exact jcL|fail) only[hks,KT,sm3,jkL,yS,w6,hks,r7,γ,δ,ζ,η,θ]));all_goals clear zz)
 ·rename_i h;exact G0.v (by rw[hd,decide_eq_false h];rfl) rfl
 refine jZ ks.length (λk L s=>Jj (ks.take k)=true/\Has L 13 (.lst ks.length (fl eE ks))/\Has L 1 (.ptr 0 0)/\1<=s.nx/\Cl s 0 (eE x)) (by first|assumption|omega) dc (by simp(disch:=decide) only[jf,jb]) (by simp(disch:=decide) only[jf,jb]) ?_ (λk L s v h=>by simp(disch:=decide) only[jb];exact h) (λk L s v h=>by simp(disch:=decide) only[jb];exact h) (λk L s hk hI hi hn=>?_) (λL s hI=>?_)
 ·refine⟨rfl,?_⟩;simp(disch:=decide) only[h12];exact⟨by show 1<=_;simp only[ji,ym];omega,Cl.new _ _⟩
 ·obtain⟨h0,i13,i1,n0,C0⟩:=hI;have hk2:=Xy hk;have e:=ih ks[k] (Qac hk) om;repeat'(first|apply jc<;>intro _|simp(disch:=first|exact dzB|fail) only[ja i13,ja i1,ja hi,ja hn,e,r7,γ,δ,ζ,η,θ])
  ·rename_i hf;have e3:=ZM (ks.take (k+1)) (ks.drop (k+1));rw[Qbp,yI hk,ZM] at e3;simp only[Jj,hf,Bool.and_false,Bool.false_and,QaQ] at e3;exact G0.v (by rw[hd,e3];simp) rfl
  ·rename_i hf;refine⟨⟨?_,?_⟩,?_⟩
   ·rw[yI hk,ZM,h0];simp_all [Jj]
   ·simp(disch:=decide) only[h12,i13,i1];exact⟨by(first|omega|(simp only[ji,jo,ju,jr,jq];first|done|omega)),ckX⟩
   ·simp(disch:=decide) only[h12,hi,hn]
 ·obtain⟨h0,i13,i1,n0,C0⟩:=hI;rw[Qaf] at h0;rw[h0] at hd
  (have zz:=C0.r;(repeat'(first|apply jc<;>intro _|simp(disch:=first|exact jcL|fail) only[ja i13,ja i1,NM,hks,C0.q,C0.r,r7,γ,δ,ζ,η,θ]));all_goals clear zz)
  all_goals(refine G0.v (congrArg AV.bool ?_) rfl;rw[hd];simp_all<;>omega)
theorem jfI (x:Ex):ub x=((decide (x.op=3) ||decide (x.name=[])) && wE x.op x.num x.name):=by
 unfold ub wE;by_cases h1:x.op=1
 ·simp[h1,Bool.and_comm]
 ·by_cases h2:x.op=2
  ·simp[h2,Bool.and_comm]
  ·by_cases h3:x.op=3
   ·simp[h3]
   ·by_cases h4:x.op=4
    ·simp[h4]
    ·simp[h1,h2,h3,h4,Bool.and_comm]
theorem uE:∀ xs,Jj xs=xs.all JW
 |[]=>rfl
 |x :: xs=>by rw[Jj,uE xs];rfl
theorem gH {n:Nat}:∀ xs:List Ex,yw xs<=n↔∀ x∈xs,wN x<=n
 |[]=>by simp[yw]
 |x :: xs=>by simp[yw,Nat.max_le,gH xs]
theorem X9:∀ (d:Nat) (x:Ex),ze d x=(decide (wN x<=d) && JW x)
 |0,x=>by
  have:wN x=yw x.kids+1:=kZ x;rw[ze,decide_eq_false om];rfl
 |d+1,x=>by
  rw[Wz,Vq,kZ,jfI,uE];have ih:x.kids.all (ze d)=(decide (yw x.kids<=d) && x.kids.all JW):=by
   rw[QaA];simp only[Qaj,Qaa,decide_eq_true_eq,gH];constructor
   ·intro h;exact⟨λk hk=>by have:=h k hk;rw[X9 d k] at this;simp at this;exact this.1,λk hk=>by have:=h k hk;rw[X9 d k] at this;simp at this;exact this.2⟩
   ·rintro ⟨h1,h2⟩ k hk;rw[X9 d k];simp[h1 k hk,h2 k hk]
  rw[ih];have e1:decide (yw x.kids+1<=d+1)=decide (yw x.kids<=d):=by simp
  rw[e1];have e2:(decide (1<=x.op) && decide (x.op<31) && decide ((x.kids.length:Int)=if 5<=x.op/\x.op<=13 then 1 else if 14<=x.op/\x.op<31 then 2 else 0))=decide (JX x.op=(x.kids.length:Int)):=by
   rw[QaA];simp only[Qaa,decide_eq_true_eq];unfold JX;have:(0:Int)<=(x.kids.length:Int):=om
   generalize (x.kids.length:Int)=n at *;generalize x.op=op at *;constructor
   ·rintro ⟨⟨h1,h2⟩,h3⟩;split at h3
    ·rw[if_neg om,if_pos om,h3]
    ·split at h3
     ·rw[if_neg om,if_neg om,if_pos om,h3]
     ·rw[if_pos om,h3]
   ·intro h;split at h
    ·exact⟨⟨om,om⟩,by rw[if_neg om,if_neg om];omega⟩
    ·split at h
     ·exact⟨⟨om,om⟩,by rw[if_pos om];omega⟩
     ·split at h
      ·exact⟨⟨om,om⟩,by rw[if_neg om,if_pos om];omega⟩
      ·omega
  rw[e2];cases decide (JX x.op=(x.kids.length:Int))<;>cases decide (yw x.kids<=d)<;>cases x.kids.all JW<;>cases (decide (x.op=3) ||decide (x.name=[]))<;>cases wE x.op x.num x.name<;>rfl
theorem jlL (hb:NB base)(x:Ex)(hx:szE x<=BIG):Tot base 37 [.agg (eE x)] (.bool (ze 60 x)):=by
 refine hb.tot ?_ (by first|rfl|simp[pa,pc,qZ]) rfl;have e:=X9 60 x;have D:=jr6 hb x hx;have S:=jox hb x hx;refine jE x46 (by rfl) (hb.pur 37 1 dc) ?_;simp only[y46,jt,κ,μ,ν,ξ];rw[(by unfold z46;simp only[qq];rfl:z46=_)];repeat'(first|apply jc<;>intro _|simp(disch:=first|exact dzB|fail) only[D,S,r7,γ,δ,ζ,η,θ])
 all_goals(refine G0.v (congrArg AV.bool ?_) rfl;rw[e];simp_all<;>omega)
def Ji (x:Ex):Bool:=ze 60 x && !jfN 4 x
theorem Vd (hb:NB base)(x:Ex)(hx:szE x<=BIG):Tot base 11 [.agg (eE x)] (.bool (Ji x)):=by
 refine hb.tot ?_ (by first|rfl|simp[pa,pc,qZ]) rfl;have D:=jlL hb x hx;have S:=js3 hb 4 x hx;refine jE x12 (by rfl) (hb.pur 11 1 dc) ?_;simp only[y12,jt,κ,μ,ν,ξ];rw[(by unfold z12;simp only[qq];rfl:z12=_)];repeat'(first|apply jc<;>intro _|simp(disch:=first|exact dzB|fail) only[D,S,r7,γ,δ,ζ,η,θ])
 all_goals(refine G0.v (congrArg AV.bool ?_) rfl;unfold Ji;simp_all)
theorem jow (hb:NB base)(op:Int):Tot base 105 [.int .i64 op] (.str (sgn op)):=by
 refine hb.tot ?_ rfl rfl;refine jE x52 (by rfl) (hb.pur 105 1 dc) ?_;simp only[y52,jt,κ,μ,ν,ξ];rw[(by unfold z52;simp only[qq];rfl:z52=_)];repeat'(first|apply jc<;>intro _|simp(disch:=first|exact dzB|fail) only[r7,γ,δ,ζ,η,θ])
 ·exact G0.v (by rw[sgn,if_neg om]) rfl
 ·exact G0.v (by rw[sgn,if_neg om]) rfl
 ·have h26:(op - 5).toNat<wT.length:=by show(op - 5).toNat<26;omega
  show G0 _ ((wT.map AV.str).getD _ _) _;rw[Vo h26];exact G0.v (by rw[sgn,if_pos om,Qam,Qai h26];rfl) rfl
theorem U6 (e:EnumT):enE e=[.str e.name,.lst e.vals.length (e.vals.map .str),.int .i64 e.line,.int .i64 e.col]:=rfl
theorem Qd (e:EnumT):(enE e).length=4:=nr (by rw[U6];rfl)
theorem W3 (e:EnumT)(k:Nat):(enE e).getD k .bad=([.str e.name,.lst e.vals.length (e.vals.map .str),.int .i64 e.line,.int .i64 e.col]:List AV).getD k .bad:=nr (by rw[U6])
theorem jm2 (e:EnumT)(k:Nat):(enE e).drop k=([.str e.name,.lst e.vals.length (e.vals.map .str),.int .i64 e.line,.int .i64 e.col]:List AV).drop k:=nr (by rw[U6])
theorem ja7 (e:EnumT):lall AV.cell (enE e)=true:=nr (by rw[U6];rfl)
theorem jm1 {st:St}{K:AV->St->Prop}{xs:List EnumT}{i:Nat}(h:i<xs.length):jp (zr 4 (.lptr (fl enE xs) (i * 4)) st) K=K (.agg (enE xs[i])) st:=J9 Qd h
theorem jiQ {st:St}{K:AV->St->Prop}{xs:List EnumT}{i:Nat}(h:i<xs.length){k:Nat}(hk:k<4):jp (q9 (.lptr (fl enE xs) (i * 4+k)) st) K=K ((enE xs[i]).getD k .bad) st:=ye Qd h hk
theorem jiR {st:St}{K:AV->St->Prop}{xs:List EnumT}{i:Nat}(h:i<xs.length):jp (q9 (.lptr (fl enE xs) (i * 4)) st) K=K ((enE xs[i]).getD 0 .bad) st:=ye (k:=0) Qd h dc
theorem jg:type_of% (aI @Qd (aI @W3 (aI @jm2 (aI @ja7 (aI @jm1 (aI @jiR @jiQ)))))):=aI @Qd (aI @W3 (aI @jm2 (aI @ja7 (aI @jm1 (aI @jiR @jiQ)))))
theorem zp:type_of% (aI @Qd (aI @ja7 @W3)):=aI @Qd (aI @ja7 @W3)
theorem w7 (d:DeclT):qk d=[.str d.name,.str d.ty,.int .i64 d.lo,.int .i64 d.hi,.lst d.begins.length (fl eE d.begins),.int .i64 d.line,.int .i64 d.col]:=rfl
theorem Q1 (d:DeclT):(qk d).length=7:=nr (by rw[w7];rfl)
theorem Wd (d:DeclT)(k:Nat):(qk d).getD k .bad=([.str d.name,.str d.ty,.int .i64 d.lo,.int .i64 d.hi,.lst d.begins.length (fl eE d.begins),.int .i64 d.line,.int .i64 d.col]:List AV).getD k .bad:=nr (by rw[w7])
theorem jeE (d:DeclT)(k:Nat):(qk d).drop k=([.str d.name,.str d.ty,.int .i64 d.lo,.int .i64 d.hi,.lst d.begins.length (fl eE d.begins),.int .i64 d.line,.int .i64 d.col]:List AV).drop k:=nr (by rw[w7])
theorem U8 (d:DeclT):lall AV.cell (qk d)=true:=nr (by rw[w7];rfl)
theorem jeD {st:St}{K:AV->St->Prop}{xs:List DeclT}{i:Nat}(h:i<xs.length):jp (zr 7 (.lptr (fl qk xs) (i * 7)) st) K=K (.agg (qk xs[i])) st:=J9 Q1 h
theorem jcS {st:St}{K:AV->St->Prop}{xs:List DeclT}{i:Nat}(h:i<xs.length){k:Nat}(hk:k<7):jp (q9 (.lptr (fl qk xs) (i * 7+k)) st) K=K ((qk xs[i]).getD k .bad) st:=ye Q1 h hk
theorem jcT {st:St}{K:AV->St->Prop}{xs:List DeclT}{i:Nat}(h:i<xs.length):jp (q9 (.lptr (fl qk xs) (i * 7)) st) K=K ((qk xs[i]).getD 0 .bad) st:=ye (k:=0) Q1 h dc
theorem jd:type_of% (aI @Q1 (aI @Wd (aI @jeE (aI @U8 (aI @jeD (aI @jcT @jcS)))))):=aI @Q1 (aI @Wd (aI @jeE (aI @U8 (aI @jeD (aI @jcT @jcS)))))
theorem yc:type_of% (aI @Q1 (aI @U8 @Wd)):=aI @Q1 (aI @U8 @Wd)
theorem jm8 (a:AsT):asE a=[.str a.name,.int .i64 a.to.op,.int .i64 a.to.num,.str a.to.name,.lst a.to.kids.length (fl eE a.to.kids),.int .i64 a.to.line,.int .i64 a.to.col,.int .i64 a.line,.int .i64 a.col]:=(by unfold asE;rw[qJ];rfl)
theorem jbb (a:AsT)(k:Nat):(asE a).getD k .bad=([.str a.name,.int .i64 a.to.op,.int .i64 a.to.num,.str a.to.name,.lst a.to.kids.length (fl eE a.to.kids),.int .i64 a.to.line,.int .i64 a.to.col,.int .i64 a.line,.int .i64 a.col]:List AV).getD k .bad:=nr (by rw[jm8])
theorem jna (a:AsT)(k:Nat):(asE a).drop k=([.str a.name,.int .i64 a.to.op,.int .i64 a.to.num,.str a.to.name,.lst a.to.kids.length (fl eE a.to.kids),.int .i64 a.to.line,.int .i64 a.to.col,.int .i64 a.line,.int .i64 a.col]:List AV).drop k:=nr (by rw[jm8])
theorem jm9 {st:St}{K:AV->St->Prop}{xs:List AsT}{i:Nat}(h:i<xs.length):jp (zr 9 (.lptr (fl asE xs) (i * 9)) st) K=K (.agg (asE xs[i])) st:=J9 ZW h
theorem ji5 {st:St}{K:AV->St->Prop}{xs:List AsT}{i:Nat}(h:i<xs.length){k:Nat}(hk:k<9):jp (q9 (.lptr (fl asE xs) (i * 9+k)) st) K=K ((asE xs[i]).getD k .bad) st:=ye ZW h hk
theorem ji6 {st:St}{K:AV->St->Prop}{xs:List AsT}{i:Nat}(h:i<xs.length):jp (q9 (.lptr (fl asE xs) (i * 9)) st) K=K ((asE xs[i]).getD 0 .bad) st:=ye (k:=0) ZW h dc
theorem jh:type_of% (aI @ZW (aI @jbb (aI @jna (aI @gR (aI @jm9 (aI @ji6 @ji5)))))):=aI @ZW (aI @jbb (aI @jna (aI @gR (aI @jm9 (aI @ji6 @ji5)))))
theorem zq:type_of% (aI @ZW (aI @gR @jbb)):=aI @ZW (aI @gR @jbb)
theorem jfn (r:RuleT):ruE r=[.int .i64 r.when.op,.int .i64 r.when.num,.str r.when.name,.lst r.when.kids.length (fl eE r.when.kids),.int .i64 r.when.line,.int .i64 r.when.col,.lst r.acts.length (fl asE r.acts)]:=Vt r
theorem jay (r:RuleT)(k:Nat):(ruE r).getD k .bad=([.int .i64 r.when.op,.int .i64 r.when.num,.str r.when.name,.lst r.when.kids.length (fl eE r.when.kids),.int .i64 r.when.line,.int .i64 r.when.col,.lst r.acts.length (fl asE r.acts)]:List AV).getD k .bad:=nr (by rw[jfn])
theorem jmu (r:RuleT)(k:Nat):(ruE r).drop k=([.int .i64 r.when.op,.int .i64 r.when.num,.str r.when.name,.lst r.when.kids.length (fl eE r.when.kids),.int .i64 r.when.line,.int .i64 r.when.col,.lst r.acts.length (fl asE r.acts)]:List AV).drop k:=nr (by rw[jfn])
theorem jaz (r:RuleT):lall AV.cell (ruE r)=true:=nr (by rw[jfn];rfl)
theorem jmt {st:St}{K:AV->St->Prop}{xs:List RuleT}{i:Nat}(h:i<xs.length):jp (zr 7 (.lptr (fl ruE xs) (i * 7)) st) K=K (.agg (ruE xs[i])) st:=J9 wy h
theorem jhw {st:St}{K:AV->St->Prop}{xs:List RuleT}{i:Nat}(h:i<xs.length){k:Nat}(hk:k<7):jp (q9 (.lptr (fl ruE xs) (i * 7+k)) st) K=K ((ruE xs[i]).getD k .bad) st:=ye wy h hk
theorem jhx {st:St}{K:AV->St->Prop}{xs:List RuleT}{i:Nat}(h:i<xs.length):jp (q9 (.lptr (fl ruE xs) (i * 7)) st) K=K ((ruE xs[i]).getD 0 .bad) st:=ye (k:=0) wy h dc
theorem jX:type_of% (aI @wy (aI @jay (aI @jmu (aI @jaz (aI @jmt (aI @jhx @jhw)))))):=aI @wy (aI @jay (aI @jmu (aI @jaz (aI @jmt (aI @jhx @jhw)))))
theorem zm:type_of% (aI @wy (aI @jaz @jay)):=aI @wy (aI @jaz @jay)
theorem UJ (p:ProcT):prE p=[.str p.name,.lst p.rules.length (fl ruE p.rules),.int .i64 p.line,.int .i64 p.col]:=rfl
theorem vY (p:ProcT):(prE p).length=4:=nr (by rw[UJ];rfl)
theorem jaF (p:ProcT)(k:Nat):(prE p).getD k .bad=([.str p.name,.lst p.rules.length (fl ruE p.rules),.int .i64 p.line,.int .i64 p.col]:List AV).getD k .bad:=nr (by rw[UJ])
theorem jmA (p:ProcT)(k:Nat):(prE p).drop k=([.str p.name,.lst p.rules.length (fl ruE p.rules),.int .i64 p.line,.int .i64 p.col]:List AV).drop k:=nr (by rw[UJ])
theorem jaG (p:ProcT):lall AV.cell (prE p)=true:=nr (by rw[UJ];rfl)
theorem jmz {st:St}{K:AV->St->Prop}{xs:List ProcT}{i:Nat}(h:i<xs.length):jp (zr 4 (.lptr (fl prE xs) (i * 4)) st) K=K (.agg (prE xs[i])) st:=J9 vY h
theorem jhM {st:St}{K:AV->St->Prop}{xs:List ProcT}{i:Nat}(h:i<xs.length){k:Nat}(hk:k<4):jp (q9 (.lptr (fl prE xs) (i * 4+k)) st) K=K ((prE xs[i]).getD k .bad) st:=ye vY h hk
theorem jhN {st:St}{K:AV->St->Prop}{xs:List ProcT}{i:Nat}(h:i<xs.length):jp (q9 (.lptr (fl prE xs) (i * 4)) st) K=K ((prE xs[i]).getD 0 .bad) st:=ye (k:=0) vY h dc
theorem qP:type_of% (aI @vY (aI @jaF (aI @jmA (aI @jaG (aI @jmz (aI @jhN @jhM)))))):=aI @vY (aI @jaF (aI @jmA (aI @jaG (aI @jmz (aI @jhN @jhM)))))
theorem zn:type_of% (aI @vY (aI @jaG @jaF)):=aI @vY (aI @jaG @jaF)
theorem Uz (m:SrcT):srE m=[.lst m.enums.length (fl enE m.enums),.lst m.vars.length (fl qk m.vars),.lst m.procs.length (fl prE m.procs)]:=rfl
theorem wu (m:SrcT):(srE m).length=3:=nr (by rw[Uz];rfl)
theorem jaq (m:SrcT)(k:Nat):(srE m).getD k .bad=([.lst m.enums.length (fl enE m.enums),.lst m.vars.length (fl qk m.vars),.lst m.procs.length (fl prE m.procs)]:List AV).getD k .bad:=nr (by rw[Uz])
theorem jmp (m:SrcT)(k:Nat):(srE m).drop k=([.lst m.enums.length (fl enE m.enums),.lst m.vars.length (fl qk m.vars),.lst m.procs.length (fl prE m.procs)]:List AV).drop k:=nr (by rw[Uz])
theorem jar (m:SrcT):lall AV.cell (srE m)=true:=nr (by rw[Uz];rfl)
theorem jmo {st:St}{K:AV->St->Prop}{xs:List SrcT}{i:Nat}(h:i<xs.length):jp (zr 3 (.lptr (fl srE xs) (i * 3)) st) K=K (.agg (srE xs[i])) st:=J9 wu h
theorem jhm {st:St}{K:AV->St->Prop}{xs:List SrcT}{i:Nat}(h:i<xs.length){k:Nat}(hk:k<3):jp (q9 (.lptr (fl srE xs) (i * 3+k)) st) K=K ((srE xs[i]).getD k .bad) st:=ye wu h hk
theorem jhn {st:St}{K:AV->St->Prop}{xs:List SrcT}{i:Nat}(h:i<xs.length):jp (q9 (.lptr (fl srE xs) (i * 3)) st) K=K ((srE xs[i]).getD 0 .bad) st:=ye (k:=0) wu h dc
theorem qO:type_of% (aI @wu (aI @jaq (aI @jmp (aI @jar (aI @jmo (aI @jhn @jhm)))))):=aI @wu (aI @jaq (aI @jmp (aI @jar (aI @jmo (aI @jhn @jhm)))))
theorem zk:type_of% (aI @wu (aI @jar @jaq)):=aI @wu (aI @jar @jaq)
theorem dzE {p:Prop}(h:p:=by first|assumption|decide|omega|(simp only[qS,zq,zm,zp,yc,zn,zk,rzN,υ,ω];first|done|omega)|(apply Qf<;>first|omega|((simp(disch:=first|assumption|omega|(simp only[qS,zq,zm,zp,yc,zn,zk,rzN,υ,ω];first|done|omega)) only[rzL,υ,ω,Qak,γ,qS,zq,zm,zp,yc,zn,zk ])<;>first|done|omega))|(simp(disch:=first|assumption|omega|(simp only[qS,zq,zm,zp,yc,zn,zk,rzN,υ,ω];first|done|omega)) only[qS,zq,zm,zp,yc,zn,zk,rzG,ν,ξ,δ,QaL,υ,ω,Qag,Qal];first|done|omega|decide)):p:=h
theorem cyE {p:Prop}(h:p:=by apply Qf<;>first|omega|((simp(disch:=first|assumption|omega|(simp only[qS,zq,zm,zp,yc,zn,zk,rzN,υ,ω];first|done|omega)) only[rzL,υ,ω,Qak,γ,qS,zq,zm,zp,yc,zn,zk])<;>first|done|rfl|omega|(simp;done)|(simp;omega))):p:=h
theorem zH {p:Prop}(h:p:=by first|assumption|decide|omega|(simp only[qS,zq,zm,zp,yc,zn,zk,zz,rzN,υ,ω];first|done|omega)|(apply Qf<;>first|omega|((simp(disch:=first|assumption|omega|(simp only[qS,zq,zm,zp,yc,zn,zk,zz,rzN,υ,ω];first|done|omega)) only[rzL,υ,ω,Qak,γ,qS,zq,zm,zp,yc,zn,zk,zz ])<;>first|done|omega))|(simp(disch:=first|assumption|omega|(simp only[qS,zq,zm,zp,yc,zn,zk,zz,rzN,υ,ω];first|done|omega)) only[qS,zq,zm,zp,yc,zn,zk,zz,rzG,ν,ξ,δ,QaL,υ,ω,Qag,Qal];first|done|omega|decide)):p:=h
theorem jgO {S:List (List Nat)}{k:Nat}{st:St}{K:AV->St->Prop}(h:k<S.length):jp (q9 (.lptr (S.map AV.str) k) st) K=K (.str S[k]) st:=by
 rw[Jd (by simpa using h)];congr 1;exact Vo h
theorem jnu {a:Nat}{st:St}{K:AV->St->Prop}(h:a<=9223372036854775807):jp (Js .quo (.int .i64 (a:Int)) (.int .i64 10) st) K=K (.int .i64 ((a / 10:Nat):Int)) st:=by
 have e:qN .i64 ((a / 10:Nat):Int)=((a / 10:Nat):Int):=YE om om;show K (.int .i64 (qN .i64 ((a / 10:Nat):Int))) st=_;rw[e]
theorem jnt {a:Nat}{st:St}{K:AV->St->Prop}:jp (Js .rem (.int .i64 (a:Int)) (.int .i64 10) st) K=K (.int .i64 ((a % 10:Nat):Int)) st:=rfl
def uK (n:Nat):List Nat:=if n<10 then [48+n] else uK (n / 10) ++ [48+n % 10]
termination_by n
decreasing_by omega
def wh (n:Int):List Nat:=if n<0 then 45 :: uK (-n).toNat else uK n.toNat
theorem jrr:∀ n,n<10->(([48,49,50,51,52,53,54,55,56,57]:List Nat).drop n).take 1=[48+n]:=dc
theorem vL:∀ (k n:Nat),n<10 ^ (k+1)->(uK n).length<=k+1
 |0,n,h=>by rw[uK,if_pos om];simp
 |k+1,n,h=>by
  rw[uK];by_cases h2:n<10
  ·rw[if_pos h2];simp
  ·rw[if_neg h2,ψ];have:=vL k (n / 10) (by rw[Nat.pow_succ] at h;omega);simp;omega
theorem jjk (hb:NB base)(n:Nat)(h:n<=1000000000000000):Tot base 77 [.int .i64 (n:Int)] (.str (uK n)):=by
 induction n using Nat.strongRecOn with
 |_ n ih=>
 refine hb.tot ?_ rfl rfl;have hd:uK n=if n<10 then [48+n] else uK (n / 10) ++ [48+n % 10]:=by rw[uK]
 by_cases h2:n<10
 ·have g:=jrr n h2;have e1:((n:Int)+1 - (n:Int)).toNat=1:=om
  have e2:(n:Int)<10:=om
  refine jE x53 (by rfl) (hb.pur 77 1 dc) ?_;simp only[y53,jt,κ,μ,ν,ξ];rw[(by unfold z53;simp only[qq];rfl:z53=_)];repeat'(first|apply jc<;>intro _|simp(disch:=first|exact dzB|fail) only[e1,e2,g,r7,γ,δ,ζ,η,θ])
  exact G0.v (by rw[hd,if_pos h2]) rfl
 ·have i:=ih (n / 10) om om;have g:=jrr (n % 10) om;have e1:(((n % 10:Nat):Int)+1 - ((n % 10:Nat):Int)).toNat=1:=om
  have e2:¬ (n:Int)<10:=om
  have e0:¬ (n:Int)<0:=om
  have e3:(n % 10:Nat)+1<=10:=om
  have hl:=vL 14 (n / 10) (by
   have:(10:Nat) ^ (14+1)=1000000000000000:=dc
   omega)
  refine jE x53 (by rfl) (hb.pur 77 1 dc) ?_;simp only[y53,jt,κ,μ,ν,ξ];rw[(by unfold z53;simp only[qq];rfl:z53=_)];repeat'(first|apply jc<;>intro _|simp(disch:=first|exact dzB|fail) only[e1,e2,e0,g,jnu,jnt,i,r7,γ,δ,ζ,η,θ])
  exact G0.v (by rw[hd,if_neg h2]) rfl
theorem jgy (hb:NB base)(n:Int)(h1 : -1000000000000000<=n)(h2:n<=1000000000000000):Tot base 77 [.int .i64 n] (.str (wh n)):=by
 by_cases h0:n<0
 ·obtain⟨m,hm⟩:∃ m:Nat,-n=(m:Int):=⟨(-n).toNat,om⟩;have D:=jjk hb m om;have hl:=vL 15 m (by
   have:(10:Nat) ^ (15+1)=10000000000000000:=dc
   omega)
  refine hb.tot ?_ rfl rfl;refine jE x53 (by rfl) (hb.pur 77 1 dc) ?_;simp only[y53,jt,κ,μ,ν,ξ];rw[(by unfold z53;simp only[qq];rfl:z53=_)];repeat'(first|apply jc<;>intro _|simp(disch:=first|exact dzB|fail) only[h0,hm,D,r7,γ,δ,ζ,η,θ])
  exact G0.v (by rw[wh,if_pos h0,hm];rfl) rfl
 ·obtain⟨m,hm⟩:∃ m:Nat,n=(m:Int):=⟨n.toNat,om⟩;subst hm;rw[wh,if_neg h0];exact jjk hb m om
theorem vM {n:Int}(h1 : -1000000<=n)(h2:n<=1000000):(wh n).length<=8:=by
 have e:(10:Nat) ^ (6+1)=10000000:=dc
 unfold wh;split
 ·have:=vL 6 (-n).toNat om;simp;omega
 ·have:=vL 6 n.toNat om;omega
def zx:Ex->List Nat
 |.mk op num name ks _ _=>match ks with
  |[x,y]=>(if x.kids.length=0 then zx x else 40 :: (zx x ++ [41])) ++ [32] ++ sgn op ++ [32] ++ (if y.kids.length=0 then zx y else 40 :: (zx y ++ [41]))
  |[x]=>sgn op ++ (if 6<op then [32] else []) ++ (if x.kids.length=0 then zx x else 40 :: (zx x ++ [41]))
  |_=>if op=1 then wh num else if op=2 then(if num=1 then [116,114,117,101] else [102,97,108,115,101]) else name
termination_by x=>SizeOf.sizeOf x
def wd (x:Ex):List Nat:=if x.kids.length=0 then zx x else 40 :: (zx x ++ [41])
theorem jdN (op num:Int)(name:List Nat)(x y:Ex)(l c:Int):zx (.mk op num name [x,y] l c)=wd x ++ [32] ++ sgn op ++ [32] ++ wd y:=by rw[zx];rfl
theorem jdO (op num:Int)(name:List Nat)(x:Ex)(l c:Int):zx (.mk op num name [x] l c)=sgn op ++ (if 6<op then [32] else []) ++ wd x:=by rw[zx];rfl
theorem jdP (op num:Int)(name:List Nat)(l c:Int):zx (.mk op num name [] l c)=if op=1 then wh num else if op=2 then(if num=1 then [116,114,117,101] else [102,97,108,115,101]) else name:=by rw[zx]<;>intros<;>simp_all
theorem Gh (op:Int):(sgn op).length<=3:=by
 unfold sgn;split
 ·rename_i h;have:∀ n,n<26->(wT.getD n []).length<=3:=dc
  exact this _ om
 ·simp
theorem Kx {x:Ex}(h:JW x=true):JX x.op=(x.kids.length:Int)/\(∀ k∈x.kids,JW k=true)/\wE x.op x.num x.name=true/\(x.op=3\/x.name=[]):=by
 rw[Vq,uE] at h;simp only[Qaa,decide_eq_true_eq,Qaj,QaE] at h;exact⟨h.1.1.1,h.1.1.2,h.2,h.1.2⟩
theorem jcr (op:Int):JX op<=2:=by unfold JX;split<;>(try split)<;>(try split)<;>omega
theorem JD:∀ x:Ex,JW x=true->(zx x).length<=16 * szE x:=by
 refine Ex.indk λx ih h=>?_;obtain⟨h1,h2,h3,h4⟩:=Kx h;have h5:=jcr x.op;cases x with
 |mk op num name ks l c=>
 simp only[Ex.op,Ex.num,Ex.name,Ex.kids] at *;have sz:szE (.mk op num name ks l c)=yJ ks+name.length+1:=rfl;rw[sz];have inn:∀ k∈ks,(wd k).length<=16 * szE k+2:=λk hk=>by
  have:=ih k hk (h2 k hk);unfold wd;split
  ·omega
  ·simp;omega
 match ks,h1,inn with
 |[],_,_=>
  rw[jdP];unfold wE at h3;split
  ·rename_i h6;rw[if_pos h6] at h3;simp at h3;have:=vM (n:=num) om om;omega
  ·split
   ·split<;>simp<;>omega
   ·omega
 |[x],_,inn=>
  rw[jdO];have:=inn x (by simp);have:=Gh op;simp only[ψ,yJ];split<;>simp<;>omega
 |[x,y],_,inn=>
  rw[jdN];have:=inn x (by simp);have:=inn y (by simp);have:=Gh op;simp only[ψ,yJ,υ,ω];omega
 |x :: y :: z :: r,h1,_=>
  simp only[υ] at h1;omega
theorem jlh {x:Ex}(h:JW x=true):(wd x).length<=16 * szE x+2:=by
 have:=JD x h;unfold wd;split
 ·omega
 ·simp;omega
theorem jqX (x:Ex)(xs:List Ex){st:St}{K:AV->St->Prop}:jp (zr 6 (.lptr (fl eE (x :: xs)) 0) st) K=K (.agg (eE x)) st:=by
 have:=jcK (st:=st) (K:=K) (xs:=x :: xs) (i:=0) (by simp);rw[QaN] at this;exact this
theorem jul (x y:Ex)(xs:List Ex){st:St}{K:AV->St->Prop}:jp (zr 6 (.lptr (fl eE (x :: y :: xs)) 6) st) K=K (.agg (eE y)) st:=jcK (st:=st) (K:=K) (xs:=x :: y :: xs) (i:=1) (by simp)
theorem jlO (hb:NB base){x:Ex}(h:JW x=true)(hx:szE x<=BIG)(T:Tot base 78 [.agg (eE x)] (.str (zx x))):Tot base 104 [.agg (eE x)] (.str (wd x)):=by
 refine hb.tot ?_ (by first|rfl|simp[pa,pc,qZ]) rfl;have hl:=JD x h;have z:((x.kids.length:Int)=0)=(x.kids.length=0):=by rw[eq_iff_iff];omega
 unfold BIG at hx;refine jE x51 (by rfl) (hb.pur 104 1 dc) ?_;simp only[y51,jt,κ,μ,ν,ξ];rw[(by unfold z51;simp only[qq];rfl:z51=_)]
 (have zz:=@ψ.{0};(repeat'(first|apply jc<;>intro _|simp(disch:=first|exact jcL|fail) only[T,z,ψ,r7,γ,δ,ζ,η,θ]));all_goals clear zz)
 ·exact G0.v (by rw[wd,if_pos (by assumption)]) rfl
 ·exact G0.v (by rw[wd,if_neg (by assumption)]<;>rfl) rfl
set_option maxHeartbeats 1000000 in
theorem jdh (hb:NB base):∀ x:Ex,szE x<=BIG->JW x=true->Tot base 78 [.agg (eE x)] (.str (zx x)):=by
 refine Ex.indk λx ih hx h=>?_;refine hb.tot ?_ (by first|rfl|simp[pa,pc,qZ]) rfl;obtain⟨h1,h2,h3,h4⟩:=Kx h;have h5:=jcr x.op;have sz:=X7 x;have hl:=JD x h;have SG:=jow hb x.op;have sl:=Gh x.op;have inn:∀ k∈x.kids,Tot base 104 [.agg (eE k)] (.str (wd k))/\(wd k).length<=16 * szE k+2:=λk hk=>by
  have:szE k<=yJ x.kids:=by
   obtain⟨i,hi,rfl⟩:=Qbs.1 hk;exact Xy hi
  have hk2:szE k<=BIG:=om
  exact⟨jlO hb (h2 k hk) hk2 (ih k hk hk2 (h2 k hk)),jlh (h2 k hk)⟩
 clear ih hl;unfold BIG at *;cases x with
 |mk op num name ks l c=>
 simp only[Ex.op,Ex.num,Ex.name,Ex.kids] at *
 match ks,h1,sz,inn with
 |[],_,sz,_=>
  rw[jdP];have D:op=1->Tot base 77 [.int .i64 num] (.str (wh num)):=λe=>by
   subst e;unfold wE at h3;simp at h3;exact jgy hb num om om
  have ek:(Ex.mk op num name [] l c).kids=[]:=rfl;have eo:(Ex.mk op num name [] l c).op=op:=rfl;have en:(Ex.mk op num name [] l c).num=num:=rfl;have ea:(Ex.mk op num name [] l c).name=name:=rfl;refine jE x16 (by rfl) (hb.pur 78 1 dc) ?_;simp only[y16,jt,κ,μ,ν,ξ];rw[(by unfold z16;simp only[qq];rfl:z16=_)];repeat'(first|apply jc<;>intro _|simp(disch:=first|exact dzB|fail) only[D,ek,eo,en,ea,r7,γ,δ,ζ,η,θ])
  all_goals(refine G0.v (congrArg AV.str ?_) rfl;split<;>(try split)<;>first|rfl|omega|(exfalso;omega)|contradiction)
 |[x],_,sz,inn=>
  obtain⟨I,il⟩:=inn x (by simp);simp only[yJ] at sz;rw[jdO];have ek:(Ex.mk op num name [x] l c).kids=[x]:=rfl;have eo:(Ex.mk op num name [x] l c).op=op:=rfl;refine jE x16 (by rfl) (hb.pur 78 1 dc) ?_;simp only[y16,jt,κ,μ,ν,ξ];rw[(by unfold z16;simp only[qq];rfl:z16=_)]
  (have zz:=aI @yS (aI @w6 (aI @ψ.{0} (aI @ek @eo)));(repeat'(first|apply jc<;>intro _|simp(disch:=first|exact jcL|fail) only[ek,eo,I,SG,jqX,sm3,jkL,Q3,yS,w6,ψ,ek,eo,r7,γ,δ,ζ,η,θ]));all_goals clear zz)
  all_goals(refine G0.v (congrArg AV.str ?_) rfl;split<;>first|rfl|(exfalso;omega)|(simp;done))
 |[x,y],_,sz,inn=>
  obtain⟨I,il⟩:=inn x (by simp);obtain⟨I2,il2⟩:=inn y (by simp);simp only[yJ] at sz;rw[jdN];have ek:(Ex.mk op num name [x,y] l c).kids=[x,y]:=rfl;have eo:(Ex.mk op num name [x,y] l c).op=op:=rfl;refine jE x16 (by rfl) (hb.pur 78 1 dc) ?_;simp only[y16,jt,κ,μ,ν,ξ];rw[(by unfold z16;simp only[qq];rfl:z16=_)]
  (have zz:=aI @yS (aI @w6 (aI @ψ.{0} (aI @ek @eo)));(repeat'(first|apply jc<;>intro _|simp(disch:=first|exact jcL|fail) only[ek,eo,I,I2,SG,jqX,jul,sm3,jkL,Q3,yS,w6,ψ,ek,eo,r7,γ,δ,ζ,η,θ]));all_goals clear zz)
  exact G0.v rfl rfl
 |x :: y :: z :: r,h1,_,_=>
  simp only[υ] at h1;omega
def JY:List (List Nat)->List Nat
 |[]=>[]
 |x :: xs=>x ++ xs.flatMap λy=>44 :: 32 :: y
theorem gj (xs:List (List Nat))(y:List Nat):JY (xs ++ [y])=JY xs ++ (if xs.length=0 then [] else [44,32]) ++ y:=by
 cases xs with
 |nil=>simp[JY]
 |cons x xs=>simp[JY]
theorem YO {n:Nat}:∀ {xs:List (List Nat)},(∀ x∈xs,x.length<=n)->(JY xs).length<=xs.length * (n+2)
 |[],_=>by simp[JY]
 |x :: xs,h=>by
  have h1:=h x (by simp);have:(xs.flatMap λy=>44 :: 32 :: y).length<=xs.length * (n+2):=by
   clear h1;induction xs with
   |nil=>simp
   |cons y ys ih=>
    have h2:=h y (by simp);have:=ih λz hz=>h z (by simp at hz ⊢;rcases hz with rfl|hz<;>simp[*]);rw[Qcb,ψ,show(y :: ys).length=ys.length+1 from rfl,QaT];simp only[υ];omega
  rw[JY,ψ,show(x :: xs).length=xs.length+1 from rfl,QaT];omega
theorem QU {l:List Nat}(h:nm l=true):l.length<=32:=by
 unfold nm at h;simp only[Qaa,decide_eq_true_eq] at h;exact h.1.1.1.2
def QP (e:EnumT):Option (List Nat):=if nm e.name=true/\1<=e.vals.length/\e.vals.length<=32/\e.vals.all nm=true then some ([101,110,117,109,32] ++ e.name ++ [32,123,32] ++ JY e.vals ++ [32,125,10]) else none
def Gb (o:Option (List Nat)):AV:=.tup [.str (o.getD []),.bool o.isSome]
theorem jhf (l:List Nat):Gb (some l)=.tup [.str l,.bool true]:=rfl
theorem G0.tup2 {s:St}{a:List Nat}{b:Bool}{u:AV}(h:u=.tup [.str a,.bool b]):G0 u (.tup [.str a,.bool b]) s:=by
 subst h;exact FzD.tup (.cons (.pc rfl) (.cons (.pc rfl) .nil))
theorem jdc {α:Type}{p:α->Bool}{xs:List α}{k:Nat}(h:k<xs.length)(h2:p xs[k]=false):xs.all p=false:=by
 rw[Qcm];intro h3;rw[Qaj] at h3;have:=h3 _ (Qac h);rw[h2] at this;cases this
theorem jbc {α:Type}{p:α->Bool}{xs:List α}{k:Nat}(h:k<xs.length):(xs.take (k+1)).all p=((xs.take k).all p && p xs[k]):=by
 rw[yI h,QaX];simp
theorem r9:type_of%(aI @je (aI @jh (aI @jX (aI @jg (aI @jd @rzZ))))):=aI @je (aI @jh (aI @jX (aI @jg (aI @jd @rzZ))))
set_option maxHeartbeats 1000000 in
theorem joG (hb:NB base)(e:EnumT)(h1:e.name.length<=BIG)(h2:e.vals.length<=BIG)(h3:∀ v∈e.vals,v.length<=BIG):Tot base 56 [.agg (enE e)] (Gb (QP e)):=by
 refine hb.tot ?_ (by first|rfl|simp[pa,pc,qZ,Xb,Wy,J1,JG]) rfl;have NM:=ZG hb e.name (by unfold BIG at *;omega);unfold BIG at *;have c1:((e.vals.length:Int)<1)=(e.vals.length<1):=by rw[eq_iff_iff];omega
 have c2:((32:Int)<(e.vals.length:Int))=(32<e.vals.length):=by rw[eq_iff_iff];omega
 refine jE x54 (by rfl) (hb.pur 56 1 dc) ?_;simp only[y54,jt,κ,μ,ν,ξ];rw[(by unfold z54;simp only[qq];rfl:z54=_)]
 (have zz:=@ψ.{0};(repeat'(first|apply jc<;>intro _|simp(disch:=first|exact zH|fail) only[NM,c1,c2,ψ,r9,γ,δ,ζ,η,θ]));all_goals clear zz)
 ·rename_i h;exact G0.tup2 (by rw[QP,if_neg (by rintro ⟨h6,_⟩;rw[h] at h6;cases h6)];rfl)
 ·exact G0.tup2 (by rw[QP,if_neg om];rfl)
 ·exact G0.tup2 (by rw[QP,if_neg om];rfl)
 have hn:nm e.name=true:=by simp_all
 have hnl:=QU hn;have l1:1<=e.vals.length:=om
 have l2:e.vals.length<=32:=om
 refine jZ e.vals.length (λk L s=>(e.vals.take k).all nm=true/\Has L 4 (.str ([101,110,117,109,32] ++ e.name ++ [32,123,32] ++ JY (e.vals.take k)))/\Has L 28 (.lst e.vals.length (e.vals.map AV.str))) (by first|assumption|omega) dc (by simp(disch:=decide) only[jf,jb]) (by simp(disch:=decide) only[jf,jb]) ?_ (λk L s v h=>by simp(disch:=decide) only[jb];exact h) (λk L s v h=>by simp(disch:=decide) only[jb];exact h) (λk L s hk hI hi hn=>?_) (λL s hI=>?_)
 ·refine⟨rfl,?_⟩;rw[QaG,JY,QaW];simp(disch:=decide) only[h12,QaI,Qag,Qal]
 ·obtain⟨h0,i4,i28⟩:=hI;have N2:=ZG hb e.vals[k] (by have:=h3 _ (Qac hk);omega);have hs:=gj (e.vals.take k) e.vals[k];rw[<-yI hk] at hs;have hjl:(JY (e.vals.take k)).length<=32 * 34:=by
   have:=YO (n:=32) (xs:=e.vals.take k) λx hx=>QU (Qaj.1 h0 x hx);have h7:(e.vals.take k).length<=32:=by rw[Qat];omega
   have:=Qaz 34 h7;omega
  have hvl:=h3 _ (Qac hk);have tl:(e.vals.take k).length=k:=by rw[Qat];omega
  rw[tl] at hs;have c3:((0:Int)<(k:Int))=(0<k):=by rw[eq_iff_iff];omega
  (have zz:=@ψ.{0};(repeat'(first|apply jc<;>intro _|simp(disch:=first|exact zH|fail) only[ja i4,ja i28,ja hi,ja hn,jgO,N2,c3,ψ,r9,γ,δ,ζ,η,θ]));all_goals clear zz)
  ·rename_i h;exact G0.tup2 (by rw[QP,if_neg (by rintro ⟨_,_,_,h6⟩;rw[jdc hk h] at h6;cases h6)];rfl)
  ·rename_i h h8;refine⟨⟨by rw[jbc hk,h0];simp_all,?_⟩,?_⟩
   ·rw[hs,if_neg om];simp(disch:=decide) only[h12,i28,QaI,Qag,Qal]
   ·simp(disch:=decide) only[h12,hi,hn]
  ·rename_i h h8;refine⟨⟨by rw[jbc hk,h0];simp_all,?_⟩,?_⟩
   ·rw[hs,if_pos om];simp(disch:=decide) only[h12,i28,QaI,Qag,Qal]
   ·simp(disch:=decide) only[h12,hi,hn]
 ·obtain⟨h0,i4,i28⟩:=hI;rw[Qaf] at h0 i4;have hjl:(JY e.vals).length<=32 * 34:=by
   have:=YO (n:=32) (xs:=e.vals) λx hx=>QU (Qaj.1 h0 x hx);have:=Qaz 34 l2;omega
  (have zz:=@ψ.{0};(repeat'(first|apply jc<;>intro _|simp(disch:=first|exact zH|fail) only[ja i4,ja i28,ψ,r9,γ,δ,ζ,η,θ]));all_goals clear zz)
  exact G0.tup2 (by rw[QP,if_pos ⟨hn,l1,l2,h0⟩];rfl)
def ZY (n:Int):Bool:=decide (-1000000<=n) && decide (n<=1000000)
def QE (d:DeclT):Option (List Nat):=
 if d.ty=[] then(if ZY d.lo=true/\ZY d.hi=true then some (wh d.lo ++ [46,46] ++ wh d.hi) else none)
 else if d.lo=0/\d.hi=0/\(d.ty=[98,111,111,108]\/nm d.ty=true) then some d.ty else none
def ZF (xs:List Ex):List Nat:=xs.flatMap λx=>[32,61,32] ++ zx x
def Qe (d:DeclT):Option (List Nat):=match QE d with
 |none=>none
 |some t=>if d.begins.length<=1/\nm d.name=true/\d.begins.all Ji=true then some ([118,97,114,32] ++ d.name ++ [32,58,32] ++ t ++ ZF d.begins ++ [59,10]) else none
theorem GR {d:DeclT}(h:QE d=none):Qe d=none:=by unfold Qe;rw[h]
theorem jeC {d:DeclT}{t:List Nat}(h:QE d=some t):Qe d=if d.begins.length<=1/\nm d.name=true/\d.begins.all Ji=true then some ([118,97,114,32] ++ d.name ++ [32,58,32] ++ t ++ ZF d.begins ++ [59,10]) else none:=by unfold Qe;rw[h]
theorem z8 {x:Ex}(h:Ji x=true):JW x=true:=by
 unfold Ji at h;rw[X9] at h;simp only[Qaa] at h;exact h.1.2
theorem jqW {xs:List Ex}(h:0<xs.length){st:St}{K:AV->St->Prop}:jp (zr 6 (.lptr (fl eE xs) 0) st) K=K (.agg (eE xs[0])) st:=by
 have:=jcK (st:=st) (K:=K) h;rw[QaN] at this;exact this
set_option maxHeartbeats 1000000 in
theorem HY (hb:NB base)(d:DeclT)(t:List Nat)(hw:QE d=some t)(ht:t.length<=BIG)(h1:d.name.length<=BIG)(h2:∀ x∈d.begins,szE x<=BIG){L:Sl}{s:St}(i1:Has L 1 (.ptr 0 0))(i4:Has L 4 (.str ([118,97,114,32] ++ d.name ++ [32,58,32] ++ t)))(n0:1<=s.nx)(C0:Cl s 0 (qk d)) :
  xC ε base je0 L s (Xp ε y55.res (XU G0 (.ok (Gb (Qe d))))) λv _ s=>XJ G0 (.ok (Gb (Qe d))) v s.bare:=by
 have NM:=ZG hb d.name (by unfold BIG at *;omega);have c2:((1:Int)<(d.begins.length:Int))=(1<d.begins.length):=by rw[eq_iff_iff];omega
 have hd:=jeC hw;unfold BIG at *;unfold y55;rw[(by unfold je0;simp only[qq];rfl:je0=_)]
 (have zz:=C0.r;(repeat'(first|apply jc<;>intro _|simp(disch:=first|exact zH|fail) only[ja i1,ja i4,NM,c2,C0.q,C0.r,r9,γ,δ,ζ,η,θ]));all_goals clear zz)
 ·exact G0.tup2 (by rw[hd,if_neg om];rfl)
 ·rename_i h8 h;exact G0.tup2 (by rw[hd,if_neg (by rintro ⟨_,h6,_⟩;rw[h] at h6;cases h6)];rfl)
 have hn:nm d.name=true:=by simp_all
 have l1:d.begins.length<=1:=om
 have hnl:=QU hn;refine jZ d.begins.length (λk L s=>(d.begins.take k).all Ji=true/\Has L 1 (.ptr 0 0)/\Has L 4 (.str ([118,97,114,32] ++ d.name ++ [32,58,32] ++ t ++ ZF (d.begins.take k)))/\Has L 68 (.lst d.begins.length (fl eE d.begins))/\1<=s.nx) (by first|assumption|omega) dc (by simp(disch:=decide) only[jf,jb]) (by simp(disch:=decide) only[jf,jb]) ?_ (λk L s v h=>by simp(disch:=decide) only[jb];exact h) (λk L s v h=>by simp(disch:=decide) only[jb];exact h) (λk L s hk hI hi hn=>?_) (λL s hI=>?_)
 ·refine⟨rfl,?_⟩;rw[QaG,show ZF []=[] from rfl,QaW];simp(disch:=decide) only[h12,i1,i4];exact n0
 ·obtain⟨h0,i1,i4,i68,n0⟩:=hI;have hk0:k=0:=om
  subst hk0;have hi:Has L 70 (.int .i64 0):=hi;have hx:=h2 _ (Qac hk);have WR:=Vd hb d.begins[0] hx;have TX:=λ(h:Ji d.begins[0]=true)=>jdh hb d.begins[0] hx (z8 h);have TL:=λ(h:Ji d.begins[0]=true)=>JD d.begins[0] (z8 h);have hs:d.begins.take (0+1)=[d.begins[0]]:=yI hk;rw[QaG,show ZF []=[] from rfl,QaW] at i4;by_cases hwr:Ji d.begins[0]=true
  ·have TX:=TX hwr;have TL:=TL hwr;rw[hwr] at WR
   (have zz:=@ψ.{0};(repeat'(first|apply jc<;>intro _|simp(disch:=first|exact zH|fail) only[ja i1,ja i4,ja i68,ja hi,ja hn,jqW hk,WR,TX,ψ,r9,γ,δ,ζ,η,θ]));all_goals clear zz)
   refine⟨⟨by rw[hs];simp[hwr],?_⟩,?_⟩
   ·rw[hs,show ZF [d.begins[0]]=[32,61,32] ++ zx d.begins[0] from by simp[ZF]];simp(disch:=decide) only[h12,i1,i68,QaI,Qag,Qal]
    (first|omega|(simp only[ji,jo,ju,jr,jq];first|done|omega))
   ·simp(disch:=decide) only[h12,hi,hn]
  ·have hf:Ji d.begins[0]=false:=by simpa using hwr
   rw[hf] at WR
   (have zz:=@ψ.{0};(repeat'(first|apply jc<;>intro _|simp(disch:=first|exact zH|fail) only[ja i1,ja i4,ja i68,ja hi,ja hn,jqW hk,WR,ψ,r9,γ,δ,ζ,η,θ]));all_goals clear zz)
   exact G0.tup2 (by rw[hd,if_neg (by rintro ⟨_,_,h6⟩;rw[jdc hk hf] at h6;cases h6)];rfl)
 ·obtain⟨h0,i1,i4,i68,n0⟩:=hI;rw[Qaf] at h0 i4;have bl:(ZF d.begins).length<=16 * 1099511627776+3:=by
   match hx:d.begins with
   |[]=>simp[ZF]
   |[x]=>
    rw[hx] at h0 h2;have:=JD x (z8 (by simpa using h0));have:=h2 x (by simp);simp[ZF];omega
   |x :: y :: r=>rw[hx] at l1;simp at l1
  (have zz:=@ψ.{0};(repeat'(first|apply jc<;>intro _|simp(disch:=first|exact zH|fail) only[ja i1,ja i4,ψ,r9,γ,δ,ζ,η,θ]));all_goals clear zz)
  exact G0.tup2 (by rw[hd,if_pos ⟨l1,hn,h0⟩];simp only[jhf,QaI,Qag,Qal])
set_option maxHeartbeats 1000000 in
theorem joH (hb:NB base)(d:DeclT)(h1:d.name.length<=BIG)(h3:d.ty.length<=BIG)(h2:∀ x∈d.begins,szE x<=BIG):Tot base 57 [.agg (qk d)] (Gb (Qe d)):=by
 refine hb.tot ?_ (by first|rfl|simp[pa,pc,qZ,Xb,Wy,J1,JG]) rfl;have NT:=ZG hb d.ty (by unfold BIG at *;omega);have S1:Tot base 76 [.int .i64 d.lo] (.bool (ZY d.lo)):=jdS hb d.lo;have S2:Tot base 76 [.int .i64 d.hi] (.bool (ZY d.hi)):=jdS hb d.hi;unfold BIG at *;by_cases ht:d.ty=[]
 ·by_cases hs:ZY d.lo=true/\ZY d.hi=true
  ·have e1:=hs.1;have e2:=hs.2;unfold ZY at e1 e2;simp only[Qaa,decide_eq_true_eq] at e1 e2;have D1:=jgy hb d.lo om om;have D2:=jgy hb d.hi om om;have l1:=vM e1.1 e1.2;have l2:=vM e2.1 e2.2;have hw:QE d=some (wh d.lo ++ [46,46] ++ wh d.hi):=by rw[QE,if_pos ht,if_pos hs]
   rw[hs.1] at S1;rw[hs.2] at S2;refine jE x55 (by rfl) (hb.pur 57 1 dc) ?_;simp only[y55,jt,κ,μ,ν,ξ];rw[(by unfold z55;simp only[qq];rfl:z55=_)]
   (have zz:=aI @ψ.{0} @yS;(repeat'(first|apply jc<;>intro _|simp(disch:=first|exact zH|fail) only[ht,S1,S2,D1,D2,sm2,ψ,yS,r9,γ,δ,ζ,η,θ]));all_goals clear zz)
   refine HY hb d _ hw (by simp[BIG];omega) (by unfold BIG;omega) (by unfold BIG;exact h2) ?_ ?_ ?_ ?_
   ·simp(disch:=decide) only[h12]
   ·simp(disch:=decide) only[h12,QaI,Qag,Qal]
   ·(first|omega|(simp only[ji,jo,ju,jr,jq];first|done|omega))
   ·first|exact Cl.new _ _|(first|exact cyE|fail)
  ·have hw:QE d=none:=by rw[QE,if_pos ht,if_neg hs]
   refine jE x55 (by rfl) (hb.pur 57 1 dc) ?_;simp only[y55,jt,κ,μ,ν,ξ];rw[(by unfold z55;simp only[qq];rfl:z55=_)]
   (have zz:=@ψ.{0};(repeat'(first|apply jc<;>intro _|simp(disch:=first|exact zH|fail) only[ht,S1,S2,ψ,r9,γ,δ,ζ,η,θ]));all_goals clear zz)
   all_goals first|(exact G0.tup2 (by rw[GR hw];rfl))|(exfalso;simp_all;done)
 ·by_cases hs:d.lo=0/\d.hi=0/\(d.ty=[98,111,111,108]\/nm d.ty=true)
  ·have hw:QE d=some d.ty:=by rw[QE,if_neg ht,if_pos hs]
   obtain⟨e1,e2,e3⟩:=hs;refine jE x55 (by rfl) (hb.pur 57 1 dc) ?_;simp only[y55,jt,κ,μ,ν,ξ];rw[(by unfold z55;simp only[qq];rfl:z55=_)]
   (have zz:=@ψ.{0};(repeat'(first|apply jc<;>intro _|simp(disch:=first|exact zH|fail) only[ht,e1,e2,NT,ψ,r9,γ,δ,ζ,η,θ]));all_goals clear zz)
   all_goals first
    |(exfalso;simp_all;done)
    |(
     refine HY hb d _ hw (by unfold BIG;omega) (by unfold BIG;omega) (by unfold BIG;exact h2) ?_ ?_ ?_ ?_
     ·simp(disch:=decide) only[h12]
     ·simp(disch:=decide) only[h12,QaI,Qag,Qal]
     ·(first|omega|(simp only[ji,jo,ju,jr,jq];first|done|omega))
     ·first|exact Cl.new _ _|(first|exact cyE|fail))
  ·have hw:QE d=none:=by rw[QE,if_neg ht,if_neg hs]
   refine jE x55 (by rfl) (hb.pur 57 1 dc) ?_;simp only[y55,jt,κ,μ,ν,ξ];rw[(by unfold z55;simp only[qq];rfl:z55=_)]
   (have zz:=@ψ.{0};(repeat'(first|apply jc<;>intro _|simp(disch:=first|exact zH|fail) only[ht,NT,ψ,r9,γ,δ,ζ,η,θ]));all_goals clear zz)
   all_goals first|(exact G0.tup2 (by rw[GR hw];rfl))|(exfalso;simp_all;done)
theorem jmq {b o:Nat}{cs:List AV}{h:T AO}(ho:o+6<=qv h b)(hv:rats h b o 6=cs)(hc:cs.all eqs=true):(j9 ε 29 (.ptr b o) (.agg cs) h=true)=True:=eq_true (Y4 jao jan dc ho hv hc)
theorem jbX {s:St}{cs:List AV}{b o k:Nat}(hb:b=s.nx)(h:o+k<=cs.length):rats (nw s cs).h b o k=(cs.drop o).take k:=by
 subst hb;exact(Cl.new s cs).ratsP k o h
theorem Jr {s:St}{vs:List AV}{b o o' k:Nat}(h1:o'<=o)(h:o+k<=o'+vs.length):rats (wr s b o' vs).h b o k=(vs.drop (o - o')).take k:=by
 refine Zz (by simp;omega) λi hi=>?_;rw[kd om om,Qam,Qam,QbC,if_pos hi,QbO,show o - o'+i=o+i - o' by omega]
def Xs (a:AsT):List Nat:=a.name ++ [32,58,61,32] ++ zx a.to
def Uq (a:AsT):Bool:=nm a.name && Ji a.to
def Qc (r:RuleT):Option (List Nat):=if Ji r.when=true/\1<=r.acts.length/\r.acts.length<=32/\r.acts.all Uq=true then some ([32,32,119,104,101,110,32] ++ zx r.when ++ [32,100,111,32] ++ JY (r.acts.map Xs) ++ [59,10]) else none
def WL:Nat:=17592186044516
theorem Ke {a:AsT}(h:Uq a=true)(h2:szE a.to<=BIG):(Xs a).length<=WL:=by
 unfold Uq at h;simp only[Qaa] at h;have:=QU h.1;have:=JD a.to (z8 h.2);unfold BIG at h2;unfold WL Xs;simp only[ψ,υ,ω];omega
theorem V5:∀ (a b:Int) (nm:List Nat) (n:Nat) (cs:List AV) (l c:Int),([.int .i64 a,.int .i64 b,.str nm,.lst n cs,.int .i64 l,.int .i64 c]:List AV).all eqs=true:=λ_ _ _ _ _ _ _=>nr rfl
set_option maxHeartbeats 2000000 in
theorem joy (hb:NB base)(r:RuleT)(h1:szE r.when<=BIG)(h2:r.acts.length<=BIG)(h3:∀ a∈r.acts,szE a.to<=BIG/\a.name.length<=BIG):Tot base 59 [.agg (ruE r)] (Gb (Qc r)):=by
 refine hb.tot ?_ (by first|rfl|simp[pa,pc,qZ,Xb,Wy,J1,JG]) rfl;have c1:((r.acts.length:Int)<1)=(r.acts.length<1):=by rw[eq_iff_iff];omega
 have c2:((32:Int)<(r.acts.length:Int))=(32<r.acts.length):=by rw[eq_iff_iff];omega
 have WR:=Vd hb r.when h1;by_cases hw:Ji r.when=true
 ·have TX:=jdh hb r.when h1 (z8 hw);have TL:=JD r.when (z8 hw);rw[qJ] at WR TX;rw[hw] at WR;unfold BIG at h1 h2;refine jE x57 (by rfl) (hb.pur 59 1 dc) ?_;simp only[y57,jt,κ,μ,ν,ξ];rw[(by unfold z57;simp only[qq];rfl:z57=_)]
  (have zz:=@ψ.{0};(repeat'(first|apply jc<;>intro _|simp(disch:=first|exact zH|fail) only[WR,TX,c1,c2,jbX,ψ,r9,γ,δ,ζ,η,θ]));all_goals clear zz)
  ·exact G0.tup2 (by rw[Qc,if_neg om];rfl)
  ·exact G0.tup2 (by rw[Qc,if_neg om];rfl)
  have l1:1<=r.acts.length:=om
  have l2:r.acts.length<=32:=om
  refine jZ r.acts.length (λk L s=>(r.acts.take k).all Uq=true/\Has L 4 (.str ([32,32,119,104,101,110,32] ++ zx r.when ++ [32,100,111,32] ++ JY ((r.acts.take k).map Xs)))/\Has L 29 (.lst r.acts.length (fl asE r.acts))/\1<=s.nx) (by first|assumption|omega) dc (by simp(disch:=decide) only[jf,jb]) (by simp(disch:=decide) only[jf,jb]) ?_ (λk L s v h=>by simp(disch:=decide) only[jb];exact h) (λk L s v h=>by simp(disch:=decide) only[jb];exact h) (λk L s hk hI hi hn=>?_) (λL s hI=>?_)
  ·refine⟨rfl,?_⟩;rw[QaG,μ,JY,QaW];simp(disch:=decide) only[h12,QaI,Qag,Qal]
   (first|omega|(simp only[ji,jo,ju,jr,jq];first|done|omega))
  ·obtain⟨h0,i4,i29,n0⟩:=hI;have hx:=h3 _ (Qac hk);have hin:r.acts[k]∈r.acts:=Qac hk;have hact:∀ a∈r.acts.take k,(Xs a).length<=WL:=λa ha=>Ke (Qaj.1 h0 a ha) (h3 a (QbP ha)).1;have hbad:Uq r.acts[k]=false->Qc r=none:=λh=>by rw[Qc,if_neg (by rintro ⟨_,_,_,h6⟩;rw[jdc hk h] at h6;cases h6)]
   have hgood:Uq r.acts[k]=true->(r.acts.take (k+1)).all Uq=true:=λh=>by rw[jbc hk,h0,h];rfl
   have hs:=gj ((r.acts.take k).map Xs) (Xs r.acts[k]);have e9:(r.acts.take k).map Xs ++ [Xs r.acts[k]]=(r.acts.take (k+1)).map Xs:=by rw[yI hk,Qbf];rfl
   rw[e9] at hs;have tl:((r.acts.take k).map Xs).length=k:=by rw[Qap,Qat];omega
   rw[tl] at hs;have hjl:(JY ((r.acts.take k).map Xs)).length<=32 * (WL+2):=by
    have:=YO (n:=WL) (xs:=(r.acts.take k).map Xs) λx hx=>by
     obtain⟨a,ha,rfl⟩:=QaJ.1 hx;exact hact a ha
    rw[tl] at this;have:=Qaz (WL+2) (show k<=32 by omega);omega
   clear hact e9 tl;have N2:=ZG hb r.acts[k].name (by have:=hx.2;unfold BIG at this;omega);have W2:=Vd hb r.acts[k].to hx.1;have T2:=λ(h:Ji r.acts[k].to=true)=>jdh hb r.acts[k].to hx.1 (z8 h);have T3:=λ(h:Ji r.acts[k].to=true)=>JD r.acts[k].to (z8 h);have hdef:Uq r.acts[k]=(nm r.acts[k].name && Ji r.acts[k].to):=rfl;have hdw:Xs r.acts[k]=r.acts[k].name ++ [32,58,61,32] ++ zx r.acts[k].to:=rfl;have c3:((0:Int)<(k:Int))=(0<k):=by rw[eq_iff_iff];omega
   obtain⟨hx1,hx2⟩:=hx;unfold BIG WL at *;obtain⟨a,ha⟩:∃ a,a=r.acts[k]:=⟨_,rfl⟩;rw[<-ha] at hx1 hx2 hbad hgood hs N2 W2 T2 T3 hdef hdw;by_cases hnm:nm a.name=true
   ·have hnl:=QU hnm;rw[hnm] at N2;by_cases hwb:Ji a.to=true
    ·have T2:=T2 hwb;have T3:=T3 hwb;rw[qJ] at W2 T2;rw[hwb] at W2;have hg:=hgood (by rw[hdef,hnm,hwb];rfl);rw[hdw] at hs;by_cases hk0:k=0
     ·rw[if_pos hk0] at hs;have hk1:¬ 0<k:=om
      (have zz:=aI @Jr (aI @ψ.{0} (aI @yR @V5));(repeat'(first|apply jc<;>intro _|simp(disch:=first|exact zH|fail) only[ja i4,ja i29,ja hi,ja hn,N2,W2,T2,c3,hk1,<-ha,Jr,sm9,jmq,Jr,ψ,yR,V5,r9,γ,δ,ζ,η,θ]));all_goals clear zz)
      refine⟨⟨hg,?_⟩,?_⟩
      ·rw[hs];simp(disch:=decide) only[h12,i29,QaI,Qag,Qal]
       (first|omega|(simp only[ji,jo,ju,jr,jq];first|done|omega))
      ·simp(disch:=decide) only[h12,hi,hn]
     ·rw[if_neg hk0] at hs;have hk1:0<k:=om
      (have zz:=aI @Jr (aI @ψ.{0} (aI @yR @V5));(repeat'(first|apply jc<;>intro _|simp(disch:=first|exact zH|fail) only[ja i4,ja i29,ja hi,ja hn,N2,W2,T2,c3,hk1,<-ha,Jr,sm9,jmq,Jr,ψ,yR,V5,r9,γ,δ,ζ,η,θ]));all_goals clear zz)
      refine⟨⟨hg,?_⟩,?_⟩
      ·rw[hs];simp(disch:=decide) only[h12,i29,QaI,Qag,Qal]
       (first|omega|(simp only[ji,jo,ju,jr,jq];first|done|omega))
      ·simp(disch:=decide) only[h12,hi,hn]
    ·have hwf:Ji a.to=false:=by simpa using hwb
     rw[qJ] at W2;rw[hwf] at W2;have hb9:=hbad (by rw[hdef,hwf];simp)
     (have zz:=aI @Jr (aI @ψ.{0} (aI @yR @V5));(repeat'(first|apply jc<;>intro _|simp(disch:=first|exact zH|fail) only[ja i4,ja i29,ja hi,ja hn,N2,W2,<-ha,Jr,Jr,ψ,yR,V5,r9,γ,δ,ζ,η,θ]));all_goals clear zz)
     exact G0.tup2 (by rw[hb9];rfl)
   ·have hnf:nm a.name=false:=by simpa using hnm
    rw[hnf] at N2;have hb9:=hbad (by rw[hdef,hnf];rfl)
    (have zz:=aI @Jr (aI @ψ.{0} (aI @yR @V5));(repeat'(first|apply jc<;>intro _|simp(disch:=first|exact zH|fail) only[ja i4,ja i29,ja hi,ja hn,N2,<-ha,Jr,Jr,ψ,yR,V5,r9,γ,δ,ζ,η,θ]));all_goals clear zz)
    exact G0.tup2 (by rw[hb9];rfl)
  ·obtain⟨h0,i4,i29,n0⟩:=hI;rw[Qaf] at h0 i4;have hjl:(JY (r.acts.map Xs)).length<=32 * (WL+2):=by
    have:=YO (n:=WL) (xs:=r.acts.map Xs) λx hx=>by
     obtain⟨a,ha,rfl⟩:=QaJ.1 hx;exact Ke (Qaj.1 h0 a ha) (h3 a ha).1
    rw[Qap] at this;have:=Qaz (WL+2) l2;omega
   unfold WL at hjl
   (have zz:=@ψ.{0};(repeat'(first|apply jc<;>intro _|simp(disch:=first|exact zH|fail) only[ja i4,ja i29,ψ,r9,γ,δ,ζ,η,θ]));all_goals clear zz)
   exact G0.tup2 (by rw[Qc,if_pos ⟨hw,l1,l2,h0⟩];simp only[jhf,QaI,Qag,Qal])
 ·have hf:Ji r.when=false:=by simpa using hw
  rw[hf] at WR;rw[qJ] at WR;refine jE x57 (by rfl) (hb.pur 59 1 dc) ?_;simp only[y57,jt,κ,μ,ν,ξ];rw[(by unfold z57;simp only[qq];rfl:z57=_)]
  (have zz:=@ψ.{0};(repeat'(first|apply jc<;>intro _|simp(disch:=first|exact zH|fail) only[WR,jbX,ψ,r9,γ,δ,ζ,η,θ]));all_goals clear zz)
  exact G0.tup2 (by rw[Qc,if_neg (by rintro ⟨h6,_⟩;exact hw h6)];rfl)
def yH:List (Option (List Nat))->Option (List Nat)
 |[]=>some []
 |none :: _=>none
 |some a :: r=>(yH r).map (a ++ ·)
theorem jiY:∀ {xs:List (Option (List Nat))} {a b:List Nat},yH xs=some a->yH (xs ++ [some b])=some (a ++ b)
 |[],a,b,h=>by simp[yH] at h;subst h;simp[yH]
 |none :: r,a,b,h=>by simp[yH] at h
 |some c :: r,a,b,h=>by
  rw[yH] at h;cases hr:yH r with
  |none=>rw[hr] at h;simp at h
  |some d=>
   rw[hr] at h;simp at h;subst h;rw[Qag,yH,jiY hr];simp
theorem jiZ:∀ {xs:List (Option (List Nat))},none∈xs->yH xs=none
 |[],h=>by simp at h
 |none :: r,_=>rfl
 |some c :: r,h=>by
  rw[yH,jiZ (by simpa using h)];rfl
theorem QQ {n:Nat}:∀ {xs:List (Option (List Nat))} {a:List Nat},(∀ l,some l∈xs->l.length<=n)->yH xs=some a->a.length<=xs.length * n
 |[],a,_,h=>by simp[yH] at h;subst h;simp
 |none :: r,a,_,h=>by simp[yH] at h
 |some c :: r,a,hl,h=>by
  rw[yH] at h;cases hr:yH r with
  |none=>rw[hr] at h;simp at h
  |some d=>
   rw[hr] at h;simp at h;subst h;have:=QQ (xs:=r) (λl h=>hl l (by simp[h])) hr;have:=hl c (by simp);rw[ψ,show(some c :: r).length=r.length+1 from rfl,QaT];omega
theorem uv {α:Type}{f:α->Option (List Nat)}{xs:List α}{k:Nat}(h:k<xs.length){a b:List Nat}(h1:yH ((xs.take k).map f)=some a)(h2:f xs[k]=some b):yH ((xs.take (k+1)).map f)=some (a ++ b):=by
 rw[yI h,Qbf,κ,μ,h2];exact jiY h1
theorem W7 {α:Type}{f:α->Option (List Nat)}{xs:List α}{k:Nat}(h:k<xs.length)(h2:f xs[k]=none):yH (xs.map f)=none:=jiZ (by rw[<-h2];exact List.mem_map_of_mem (Qac h))
theorem Ua {e:EnumT}{l:List Nat}(h:QP e=some l):l.length<=2000:=by
 unfold QP at h;split at h
 ·rename_i hh;simp only[Option.some.injEq] at h;subst h;have:=QU hh.1;have:=YO (n:=32) (xs:=e.vals) λx hx=>QU (Qaj.1 hh.2.2.2 x hx);have:=Qaz 34 hh.2.2.1;simp only[ψ,υ,ω];omega
 ·cases h
theorem jhd {d:DeclT}{t:List Nat}(h:QE d=some t):t.length<=32:=by
 unfold QE at h;split at h
 ·split at h
  ·rename_i hh;simp only[Option.some.injEq] at h;subst h;obtain⟨e1,e2⟩:=hh;unfold ZY at e1 e2;simp only[Qaa,decide_eq_true_eq] at e1 e2;have l1:=vM e1.1 e1.2;have l2:=vM e2.1 e2.2;simp only[ψ,υ,ω];omega
  ·cases h
 ·split at h
  ·rename_i hh;simp only[Option.some.injEq] at h;subst h;rcases hh.2.2 with h|h
   ·rw[h];decide
   ·exact QU h
  ·cases h
theorem Ue {d:DeclT}{l:List Nat}(h:Qe d=some l)(h2:∀ x∈d.begins,szE x<=BIG):l.length<=WL:=by
 cases ht:QE d with
 |none=>rw[GR ht] at h;cases h
 |some t=>
  rw[jeC ht] at h;have tl:=jhd ht;split at h
  ·rename_i hh;simp only[Option.some.injEq] at h;subst h;have:=QU hh.2.1;have bl:(ZF d.begins).length<=16 * BIG+3:=by
    match hx:d.begins with
    |[]=>simp[ZF]
    |[x]=>
     rw[hx] at hh h2;have:=JD x (z8 (by simpa using hh.2.2));have:=h2 x (by simp);simp[ZF];omega
    |x :: y :: r=>rw[hx] at hh;simp at hh
   unfold BIG at bl;unfold WL;simp only[ψ,υ,ω];omega
  ·cases h
structure WrR (r:RuleT):Prop where
 when:szE r.when<=BIG
 acts:r.acts.length<=BIG
 to:∀ a∈r.acts,szE a.to<=BIG/\a.name.length<=BIG
structure WrS (m:SrcT):Prop where
 enums:m.enums.length<=BIG
 en:∀ e∈m.enums,e.name.length<=BIG/\e.vals.length<=BIG/\∀ v∈e.vals,v.length<=BIG
 vars:m.vars.length<=BIG
 de:∀ d∈m.vars,d.name.length<=BIG/\d.ty.length<=BIG/\d.begins.length<=BIG/\∀ x∈d.begins,szE x<=BIG
 procs:m.procs.length<=BIG
 pr:∀ p∈m.procs,p.name.length<=BIG/\p.rules.length<=BIG/\∀ r∈p.rules,WrR r
def RL:Nat:=33 * (WL+2)
theorem vX {r:RuleT}{l:List Nat}(h:Qc r=some l)(w:WrR r):l.length<=RL:=by
 unfold Qc at h;split at h
 ·rename_i hh;simp only[Option.some.injEq] at h;subst h;have h1:=JD r.when (z8 hh.1);have h2:=w.when;have:=YO (n:=WL) (xs:=r.acts.map Xs) λx hx=>by
   obtain⟨a,ha,rfl⟩:=QaJ.1 hx;exact Ke (Qaj.1 hh.2.2.2 a ha) (w.to a ha).1
  rw[Qap] at this;have:=Qaz (WL+2) hh.2.2.1;unfold RL;unfold BIG at h2;unfold WL at *;simp only[ψ,υ,ω];omega
 ·cases h
def Q7 (p:ProcT):Option (List Nat):=if nm p.name=true/\p.rules.length<=32 then(match yH (p.rules.map Qc) with|some t=>some ([112,114,111,99,101,115,115,32] ++ p.name ++ [32,123,10] ++ t ++ [125,10])|none=>none) else none
def PRL:Nat:=33 * RL
theorem jhL {p:ProcT}{l:List Nat}(h:Q7 p=some l)(w:∀ r∈p.rules,WrR r):l.length<=PRL:=by
 unfold Q7 at h;split at h
 ·rename_i hh;cases hc:yH (p.rules.map Qc) with
  |none=>rw[hc] at h;cases h
  |some t=>
   rw[hc] at h;simp only[Option.some.injEq] at h;subst h;have:=QU hh.1;have h3:=QQ (n:=RL) (λl hl=>by
    obtain⟨r,hr,he⟩:=QaJ.1 hl;exact vX he (w r hr)) hc
   rw[Qap] at h3;have:=Qaz RL hh.2;unfold PRL;have:1000<=RL:=by unfold RL WL;omega
   simp only[ψ,υ,ω];omega
 ·cases h
def QH (m:SrcT):Option (List Nat):=
 if m.enums.length<=32/\m.vars.length<=32/\m.procs.length<=32 then(match yH (m.enums.map QP),yH (m.vars.map Qe),yH (m.procs.map Q7) with
  |some a,some b,some c=>some (a ++ b ++ c)
  |_,_,_=>none) else none
theorem jqn {m:SrcT}(h:yH (m.enums.map QP)=none):QH m=none:=by unfold QH;rw[h];split<;>rfl
theorem jqk {m:SrcT}(h:yH (m.vars.map Qe)=none):QH m=none:=by unfold QH;rw[h];split<;>(try split)<;>first|rfl|(rename_i h2 _ _ _;simp at *)
theorem jql {m:SrcT}(h:yH (m.procs.map Q7)=none):QH m=none:=by unfold QH;rw[h];split<;>(try split)<;>first|rfl|(simp at *)
theorem jqm {m:SrcT}{a b c:List Nat}(h0:m.enums.length<=32/\m.vars.length<=32/\m.procs.length<=32)(h1:yH (m.enums.map QP)=some a)(h2:yH (m.vars.map Qe)=some b)(h3:yH (m.procs.map Q7)=some c):QH m=some (a ++ b ++ c):=by
 unfold QH;rw[if_pos h0,h1,h2,h3]
def jfg (o:Option (List Nat)):AV:=.tup [.str (o.getD []),.int .i64 (if o.isSome=true then 0 else 141)]
theorem G0.tupw {s:St}{a:List Nat}{n:Int}{u:AV}(h:u=.tup [.str a,.int .i64 n]):G0 u (.tup [.str a,.int .i64 n]) s:=by
 subst h;exact FzD.tup (.cons (.pc rfl) (.cons (.pc rfl) .nil))
theorem r10:type_of%(aI @je (aI @jh (aI @jX (aI @jg (aI @jd (aI @qP (aI @qO @rzZ))))))):=aI @je (aI @jh (aI @jX (aI @jg (aI @jd (aI @qP (aI @qO @rzZ))))))
set_option maxHeartbeats 4000000 in
theorem jjd (hb:NB base)(m:SrcT)(w:WrS m):Tot base 35 [.agg (srE m)] (jfg (QH m)):=by
 refine hb.tot ?_ (by first|rfl|simp[pa,pc,qZ,Xb,Wy,J1,JG,jaE,Kv]) rfl;have we:=w.enums;have wv:=w.vars;have wp:=w.procs;have c1:((32:Int)<(m.enums.length:Int))=(32<m.enums.length):=by rw[eq_iff_iff];omega
 have c2:((32:Int)<(m.vars.length:Int))=(32<m.vars.length):=by rw[eq_iff_iff];omega
 have c3:((32:Int)<(m.procs.length:Int))=(32<m.procs.length):=by rw[eq_iff_iff];omega
 unfold BIG at we wv wp;have hbad:∀ s:St,QH m=none->G0 (jfg (QH m)) (.tup [.str [],.int .i64 141]) s:=λs h=>G0.tupw (by rw[h];rfl);refine jE x18 (by rfl) (hb.pur 35 1 dc) ?_;simp only[y18,jt,κ,μ,ν,ξ];rw[(by unfold z18;simp only[qq];rfl:z18=_)];repeat'(first|apply jc<;>intro _|simp(disch:=first|exact dzE|fail) only[c1,c2,c3,r10,γ,δ,ζ,η,θ])
 ·exact hbad _ (by rw[QH,if_neg om])
 ·exact hbad _ (by rw[QH,if_neg om])
 ·exact hbad _ (by rw[QH,if_neg om])
 have l1:m.enums.length<=32:=om
 have l2:m.vars.length<=32:=om
 have l3:m.procs.length<=32:=om
 clear c1 c2 c3;refine jZ m.enums.length (λk L s=>∃ a,yH ((m.enums.take k).map QP)=some a/\Has L 1 (.ptr 0 0)/\Has L 4 (.str a)/\Has L 36 (.lst m.enums.length (fl enE m.enums))/\1<=s.nx/\Cl s 0 (srE m)) (by first|assumption|omega) dc (by simp(disch:=decide) only[jf,jb]) (by simp(disch:=decide) only[jf,jb]) ?_ (λk L s v h=>by simp(disch:=decide) only[jb];exact h) (λk L s v h=>by simp(disch:=decide) only[jb];exact h) (λk L s hk hI hi hn=>?_) (λL s hI=>?_)
 ·refine⟨[],rfl,?_⟩;simp(disch:=decide) only[h12];exact⟨by(first|omega|(simp only[ji,jo,ju,jr,jq];first|done|omega)),by first|exact Cl.new _ _|(first|exact cyE|fail)⟩
 ·obtain⟨a,ha,i1,i4,iL,n0,C0⟩:=hI;obtain⟨w1,w2,w3⟩:=w.en _ (Qac hk);have E:=joG hb m.enums[k] w1 w2 w3;have al:a.length<=32 * 2000:=by
   have:=QQ (n:=2000) (λl hl=>by
    obtain⟨e,_,he⟩:=QaJ.1 hl;exact Ua he) ha
   rw[Qap,Qat] at this;have:=Qaz 2000 (show min k m.enums.length<=32 by omega);omega
  have good:=λb=>@uv _ QP m.enums k hk a b ha;have bad:=@W7 _ QP m.enums k hk;have el:=@Ua m.enums[k];cases ho:QP m.enums[k] with
  |none=>
   rw[ho] at E;have E:Tot base 56 [.agg (enE m.enums[k])] (.tup [.str [],.bool false]):=E
   (have zz:=aI @ψ.{0} C0.r;(repeat'(first|apply jc<;>intro _|simp(disch:=first|exact zH|fail) only[ja i1,ja i4,ja iL,ja hi,ja hn,E,C0.q,ψ,C0.r,r10,γ,δ,ζ,η,θ]));all_goals clear zz)
   exact hbad _ (jqn (bad ho))
  |some b=>
   rw[ho] at E;have E:Tot base 56 [.agg (enE m.enums[k])] (.tup [.str b,.bool true]):=E;have bl:=el ho
   (have zz:=aI @ψ.{0} C0.r;(repeat'(first|apply jc<;>intro _|simp(disch:=first|exact zH|fail) only[ja i1,ja i4,ja iL,ja hi,ja hn,E,C0.q,ψ,C0.r,r10,γ,δ,ζ,η,θ]));all_goals clear zz)
   refine⟨⟨a ++ b,good b ho,?_⟩,?_⟩
   ·simp(disch:=decide) only[h12,i1,iL];exact⟨by(first|omega|(simp only[ji,jo,ju,jr,jq];first|done|omega)),ckX⟩
   ·simp(disch:=decide) only[h12,hi,hn]
 ·obtain⟨a,ha,i1,i4,iL,n0,C0⟩:=hI;rw[Qaf] at ha;have al:a.length<=32 * 2000:=by
   have:=QQ (n:=2000) (λl hl=>by
    obtain⟨e,_,he⟩:=QaJ.1 hl;exact Ua he) ha
   rw[Qap] at this;have:=Qaz 2000 l1;omega
  (have zz:=C0.r;(repeat'(first|apply jc<;>intro _|simp(disch:=first|exact zH|fail) only[ja i1,ja i4,ja iL,C0.q,C0.r,r10,γ,δ,ζ,η,θ]));all_goals clear zz)
  refine jZ m.vars.length (λk L s=>∃ b,yH ((m.vars.take k).map Qe)=some b/\Has L 1 (.ptr 0 0)/\Has L 4 (.str (a ++ b))/\Has L 54 (.lst m.vars.length (fl qk m.vars))/\1<=s.nx/\Cl s 0 (srE m)) (by first|assumption|omega) dc (by simp(disch:=decide) only[jf,jb]) (by simp(disch:=decide) only[jf,jb]) ?_ (λk L s v h=>by simp(disch:=decide) only[jb];exact h) (λk L s v h=>by simp(disch:=decide) only[jb];exact h) (λk L s hk hI hi hn=>?_) (λL s hI=>?_)
  ·refine⟨[],rfl,?_⟩;simp(disch:=decide) only[h12,i1,i4,QaW];exact⟨n0,C0⟩
  ·clear i1 i4 iL n0 C0;obtain⟨b,hb2,i1,i4,iL,n0,C0⟩:=hI;obtain⟨w1,w2,_,w3⟩:=w.de _ (Qac hk);have E:=joH hb m.vars[k] w1 w2 w3;have bl:b.length<=32 * WL:=by
    have:=QQ (n:=WL) (λl hl=>by
     obtain⟨e,he1,he⟩:=QaJ.1 hl;exact Ue he (w.de e (QbP he1)).2.2.2) hb2
    rw[Qap,Qat] at this;have:=Qaz WL (show min k m.vars.length<=32 by omega);omega
   have good:=λc=>@uv _ Qe m.vars k hk b c hb2;have bad:=@W7 _ Qe m.vars k hk;have el:=λl (h:Qe m.vars[k]=some l)=>Ue h w3;unfold WL at *;cases ho:Qe m.vars[k] with
   |none=>
    rw[ho] at E;have E:Tot base 57 [.agg (qk m.vars[k])] (.tup [.str [],.bool false]):=E
    (have zz:=aI @ψ.{0} C0.r;(repeat'(first|apply jc<;>intro _|simp(disch:=first|exact zH|fail) only[ja i1,ja i4,ja iL,ja hi,ja hn,E,C0.q,ψ,C0.r,r10,γ,δ,ζ,η,θ]));all_goals clear zz)
    exact hbad _ (jqk (bad ho))
   |some c=>
    rw[ho] at E;have E:Tot base 57 [.agg (qk m.vars[k])] (.tup [.str c,.bool true]):=E;have cl:=el _ ho
    (have zz:=aI @ψ.{0} C0.r;(repeat'(first|apply jc<;>intro _|simp(disch:=first|exact zH|fail) only[ja i1,ja i4,ja iL,ja hi,ja hn,E,C0.q,ψ,C0.r,r10,γ,δ,ζ,η,θ]));all_goals clear zz)
    refine⟨⟨b ++ c,good c ho,?_⟩,?_⟩
    ·simp(disch:=decide) only[h12,i1,iL,QaI];exact⟨by(first|omega|(simp only[ji,jo,ju,jr,jq];first|done|omega)),ckX⟩
    ·simp(disch:=decide) only[h12,hi,hn]
  ·clear i1 i4 iL n0 C0;obtain⟨b,hb2,i1,i4,iL,n0,C0⟩:=hI;rw[Qaf] at hb2;have bl:b.length<=32 * WL:=by
    have:=QQ (n:=WL) (λl hl=>by
     obtain⟨e,he1,he⟩:=QaJ.1 hl;exact Ue he (w.de e he1).2.2.2) hb2
    rw[Qap] at this;have:=Qaz WL l2;omega
   (have zz:=C0.r;(repeat'(first|apply jc<;>intro _|simp(disch:=first|exact zH|fail) only[ja i1,ja i4,ja iL,C0.q,C0.r,r10,γ,δ,ζ,η,θ]));all_goals clear zz)
   refine jZ m.procs.length (λk L s=>∃ c,yH ((m.procs.take k).map Q7)=some c/\Has L 1 (.ptr 0 0)/\Has L 4 (.str (a ++ b ++ c))/\Has L 72 (.lst m.procs.length (fl prE m.procs))/\1<=s.nx) (by first|assumption|omega) dc (by simp(disch:=decide) only[jf,jb]) (by simp(disch:=decide) only[jf,jb]) ?_ (λk L s v h=>by simp(disch:=decide) only[jb];exact h) (λk L s v h=>by simp(disch:=decide) only[jb];exact h) (λko Lo so hko hIo hio hno=>?_) (λLo so hIo=>?_)
   ·refine⟨[],rfl,?_⟩;simp(disch:=decide) only[h12,i1,i4,QaW];exact n0
   ·clear i1 i4 iL n0 C0;obtain⟨c,hc,i1,i4,iL,n0⟩:=hIo;obtain⟨w1,w2,w3⟩:=w.pr _ (Qac hko);have NM:=ZG hb m.procs[ko].name (by unfold BIG at *;omega);have cl:c.length<=32 * PRL:=by
     have:=QQ (n:=PRL) (λl hl=>by
      obtain⟨e,he1,he⟩:=QaJ.1 hl;exact jhL he (w.pr e (QbP he1)).2.2) hc
     rw[Qap,Qat] at this;have:=Qaz PRL (show min ko m.procs.length<=32 by omega);omega
    have good:=λd=>@uv _ Q7 m.procs ko hko c d hc;have bad:=λh=>jql (@W7 _ Q7 m.procs ko hko h);obtain⟨x,hx⟩:∃ x,x=m.procs[ko]:=⟨_,rfl⟩;rw[<-hx] at good bad w1 w2 w3 NM;have pb:Q7 x=none->∀ s:St,G0 (jfg (QH m)) (.tup [.str [],.int .i64 141]) s:=λh s=>hbad s (bad h);have c4:((32:Int)<(x.rules.length:Int))=(32<x.rules.length):=by rw[eq_iff_iff];omega
    have WLv:WL=17592186044516:=rfl;have RLv:RL=33 * (WL+2):=rfl;have PLv:PRL=33 * RL:=rfl;unfold BIG at w1 w2;by_cases hnm:nm x.name=true
    ·have hnl:=QU hnm;rw[hnm] at NM
     (have zz:=@ψ.{0};(repeat'(first|apply jc<;>intro _|simp(disch:=first|exact zH|fail) only[ja i1,ja i4,ja iL,ja hio,ja hno,NM,c4,<-hx,ψ,r10,γ,δ,ζ,η,θ]));all_goals clear zz)
     ·exact pb (by rw[Q7,if_neg om]) _
     have l5:x.rules.length<=32:=om
     refine jZ x.rules.length (λj L s=>∃ t,yH ((x.rules.take j).map Qc)=some t/\Has L 1 (.ptr 0 0)/\Has L 4 (.str (a ++ b ++ c ++ ([112,114,111,99,101,115,115,32] ++ x.name ++ [32,123,10] ++ t)))/\Has L 72 (.lst m.procs.length (fl prE m.procs))/\Has L 73 (.int .i64 (m.procs.length:Int))/\Has L 74 (.int .i64 (ko:Int))/\Has L 95 (.lst x.rules.length (fl ruE x.rules))/\1<=s.nx) (by first|assumption|omega) dc (by simp(disch:=decide) only[jf,jb]) (by simp(disch:=decide) only[jf,jb]) ?_ (λk L s v h=>by simp(disch:=decide) only[jb];exact h) (λk L s v h=>by simp(disch:=decide) only[jb];exact h) (λk L s hk hI hi hn=>?_) (λL s hI=>?_)
     ·refine⟨[],rfl,?_⟩;simp(disch:=decide) only[h12,i1,i4,iL,hno,hio,QaW,QaI,Qag,Qal]
      (first|omega|(simp only[ji,jo,ju,jr,jq];first|done|omega))
     ·clear i1 i4 iL n0 hio hno;obtain⟨t,ht,i1,i4,iL,hno,hio,i95,n0⟩:=hI;have wr:=w3 _ (Qac hk);have E:=joy hb x.rules[k] wr.when wr.acts wr.to;have tl:t.length<=32 * RL:=by
       have:=QQ (n:=RL) (λl hl=>by
        obtain⟨e,he1,he⟩:=QaJ.1 hl;exact vX he (w3 e (QbP he1))) ht
       rw[Qap,Qat] at this;have:=Qaz RL (show min k x.rules.length<=32 by omega);omega
      have good2:=λd=>@uv _ Qc x.rules k hk t d ht;have bad2:=@W7 _ Qc x.rules k hk;have el:=λl (h:Qc x.rules[k]=some l)=>vX h wr;cases ho:Qc x.rules[k] with
      |none=>
       rw[ho] at E;have E:Tot base 59 [.agg (ruE x.rules[k])] (.tup [.str [],.bool false]):=E
       (have zz:=@ψ.{0};(repeat'(first|apply jc<;>intro _|simp(disch:=first|exact zH|fail) only[ja i1,ja i4,ja iL,ja i95,ja hi,ja hn,E,ψ,r10,γ,δ,ζ,η,θ]));all_goals clear zz)
       exact pb (by rw[Q7,if_pos ⟨hnm,l5⟩,bad2 ho]) _
      |some d=>
       rw[ho] at E;have E:Tot base 59 [.agg (ruE x.rules[k])] (.tup [.str d,.bool true]):=E;have dl:=el _ ho
       (have zz:=@ψ.{0};(repeat'(first|apply jc<;>intro _|simp(disch:=first|exact zH|fail) only[ja i1,ja i4,ja iL,ja i95,ja hi,ja hn,E,ψ,r10,γ,δ,ζ,η,θ]));all_goals clear zz)
       refine⟨⟨t ++ d,good2 d ho,?_⟩,?_⟩
       ·simp(disch:=decide) only[h12,i1,iL,hno,hio,i95,QaI,Qag,Qal]
        (first|omega|(simp only[ji,jo,ju,jr,jq];first|done|omega))
       ·simp(disch:=decide) only[h12,hi,hn]
     ·clear i1 i4 iL n0 hio hno;obtain⟨t,ht,i1,i4,iL,hno,hio,i95,n0⟩:=hI;rw[Qaf] at ht;have tl:t.length<=32 * RL:=by
       have:=QQ (n:=RL) (λl hl=>by
        obtain⟨e,he1,he⟩:=QaJ.1 hl;exact vX he (w3 e he1)) ht
       rw[Qap] at this;have:=Qaz RL l5;omega
      have hpw:Q7 x=some ([112,114,111,99,101,115,115,32] ++ x.name ++ [32,123,10] ++ t ++ [125,10]):=by rw[Q7,if_pos ⟨hnm,l5⟩,ht]
      (have zz:=@ψ.{0};(repeat'(first|apply jc<;>intro _|simp(disch:=first|exact zH|fail) only[ja i1,ja i4,ja iL,ψ,r10,γ,δ,ζ,η,θ]));all_goals clear zz)
      refine⟨⟨_,good _ hpw,?_⟩,?_⟩
      ·simp(disch:=decide) only[h12,i1,iL,QaI,Qag,Qal]
       (first|omega|(simp only[ji,jo,ju,jr,jq];first|done|omega))
      ·simp(disch:=decide) only[h12,hio,hno]
    ·have hnf:nm x.name=false:=by simpa using hnm
     rw[hnf] at NM
     (have zz:=@ψ.{0};(repeat'(first|apply jc<;>intro _|simp(disch:=first|exact zH|fail) only[ja i1,ja i4,ja iL,ja hio,ja hno,NM,<-hx,ψ,r10,γ,δ,ζ,η,θ]));all_goals clear zz)
     exact pb (by rw[Q7,if_neg (by rintro ⟨h6,_⟩;exact hnm h6)]) _
   ·clear i1 i4 iL n0 C0;obtain⟨c,hc,i1,i4,iL,n0⟩:=hIo;rw[Qaf] at hc;repeat'(first|apply jc<;>intro _|simp(disch:=first|exact dzE|fail) only[ja i1,ja i4,r10,γ,δ,ζ,η,θ])
    exact G0.tupw (by rw[jqm ⟨l1,l2,l3⟩ ha hb2 hc];rfl)
end Go.Sy
end
noncomputable section
set_option maxRecDepth 100000
namespace Go.Sy
open Go.Ev Go.Proofs
variable {base:Bs}
theorem jnb {α:Type}{p:α->Bool}{xs:List α}{k:Nat}(h:k<xs.length):(xs.take (k+1)).any p=((xs.take k).any p ||p xs[k]):=by
 rw[yI h,List.any_append];simp
def z24:XC:=(ov [o8 4 [.nils,.nils,.nils],Tz 5,o8 6 [oB,oB,oB]] (oX [IY 13,Ox 14 52 13,oz 12 14,Tw 15 12,Tx 16 12,o8 7 [.nils,.nils,.nils],o8 8 [oB,oB,oB],o5 3 7 15,o5 3 8 16] (Ic [OO 17 8,oH 18 17,ow 19 (O7 .neq 18)] 19 (Lh [TF 20 [.nils,.nils,.nils] [],TF 21 OI [],T8 22 3 8 8 45,Ty 3 4 20 [(0,45)],Ty 6 5 21 [(1,45)],TU 3 6 22])) (oX [TZ 24 7,Ox 25 53 24,oz 23 25,Tw 26 23,Tx 27 23,o8 9 [.nils,.nils,.nils],o5 3 9 26,o5 3 8 27] (Ic [OO 28 8,oH 29 28,ow 30 (O7 .neq 29)] 30 (Lh [TF 31 [.nils,.nils,.nils] [],TF 32 OI [],T8 33 3 8 8 45,Ty 3 4 31 [(0,45)],Ty 6 5 32 [(1,45)],TU 3 6 33])) (oX [OY 35,Ox 36 54 35,oz 34 36,Tw 37 34,Tx 38 34,Tz 10,TV 10 37,o5 3 8 38] (Ic [OO 39 8,oH 40 39,ow 41 (O7 .neq 40)] 41 (Lh [TF 42 [.nils,.nils,.nils] [],TF 43 OI [],T8 44 3 8 8 45,Ty 3 4 42 [(0,45)],Ty 6 5 43 [(1,45)],TU 3 6 44])) (oX [TZ 46 9,O9 47 10,OA 48 55 46 47,oz 45 48,Tw 49 45,Tx 50 45,Tz 11,TV 11 49,o5 3 8 50] (Ic [OO 51 8,oH 52 51,ow 53 (O7 .neq 52)] 53 (Lh [TF 54 [.nils,.nils,.nils] [],TF 55 OI [],T8 56 3 8 8 45,Ty 3 4 54 [(0,45)],Ty 6 5 55 [(1,45)],TU 3 6 56])) (Lh [T8 57 3 9 9 35,T8 58 6 11 11 29,T8 59 3 8 8 45,Ty 3 4 57 [(0,45),(1,29)],Ty 6 5 58 [(1,45)],TU 3 6 59]))))))
def y24:XF:=⟨[0,1],z24,[(.cA 4 3),(.cA 5 6),(.cA 6 3)]⟩
theorem x24:jx ε 34=some y24:=by kernel_rfl
def z25:XC:=(O8 [TT 2,ID 3 1,Tz 4,o8 5 [oB,oB,oB]] [o3 (.defer (oQ 67 []) [5])] (oX [TZ 7 2,Iv 8 [.nils,.nils,.nils,.nilm,Tj] [((0,3),7),((4,1),Ih)],ol 9 (.box 8),oy 6 9] (.dops [Tq 10 6,T8 11 6 3 3 29,(Ix (Ip 12 75 [10,11,IR 2,.c oJ]) 0 [],some [OP 12,Ij (TZ 13 5) 5 45 [(0,0)],o9 (o3 (.i (.mv II))) 0,o9 (o3 (.i (.mv II))) 0]),ON 13 3 5 5 45 [(0,0)],Ty 6 4 12 [(0,45)],TU 3 5 13]) .ret))
def y25:XF:=⟨[0,1],z25,[(.cA 4 6),(.cA 5 3)]⟩
theorem x25:jx ε 55=some y25:=by kernel_rfl
def je1:XC:=(Lh [Tq 65 4,IO (IQ 66 65),IX 67 0 66,T8 68 3 67 67 35,T8 69 3 3 3 45,Ty 3 2 68 [(0,45)],TU 3 3 69])
def je2:XC:=(.seq (T6 [Ld 38 1,Oh 39 38,IP 40 39,I0 41] 4 42 41 40 42 4 5 [Ik 43 4 39 41,oU 44 4 43,o8 10 [oJ,.nils,oB,oB],o5 4 10 44] (ov [TW 45,OO 46 10,oH 47 46,Ld 48 10,oH 49 48,Tl 50 10,oH 51 50,Ip 52 70 [45,47,49,51]] (T6 [Tv 53 10,Oh 54 53,IP 55 54,I0 56] 6 57 56 55 57 6 7 [Ik 58 7 54 56,oU 59 7 58,o8 12 [oB,oB,oJ,.nils,oB,oB,.nils],o5 7 12 59] (.ops [TW 60,oU 61 7 12,OA 62 71 60 61]) 63 56 56 63)) 64 41 41 64) je1)
def je3:XC:=(.seq (T6 [Tv 27 1,Oh 28 27,IP 29 28,I0 30] 2 31 30 29 31 2 3 [Ik 32 7 28 30,oU 33 7 32,o8 8 [oJ,oJ,oB,oB,.nils,oB,oB],o5 7 8 33] (.ops [TW 34,oU 35 7 8,OA 36 69 34 35]) 37 30 30 37) je2)
def je4:XC:=(.seq (T6 [OO 16 1,Oh 17 16,IP 18 17,I0 19] 0 20 19 18 20 0 1 [Ik 21 4 17 19,oU 22 4 21,o8 6 [oJ,.nils,oB,oB],o5 4 6 22] (.ops [TW 23,oU 24 4 6,OA 25 68 23 24]) 26 19 19 26) je3)
def z26:XC:=(ov [TT 1,o8 2 [.nils,.nils,.nils],o8 3 [oB,oB,oB]] (O8 [o3 (.defer (oQ 67 []) [3])] [ol 13 .mkMap,Iv 14 [.nils,.nils,.nils,.nilm,Tj] [((3,1),13)],ol 15 (.box 14),TK 15] je4))
def y26:XF:=⟨[0],z26,[(.cA 2 3),(.cA 3 3)]⟩
theorem x26:jx ε 53=some y26:=by kernel_rfl
def z33:XC:=(ov [TT 1,I0 2] (OU [Ia 3 (.int .u64 1)] (T6 [OO 6 1,Oh 7 6,IP 8 7,I0 9] 0 10 9 8 10 0 1 [Ik 11 7 7 9,oU 12 7 11,o8 5 [oJ,oB,oJ,oB,oB,Tj,oB],o5 7 5 12] (.ops [oz 13 3,oE 14 4 5,oH 15 14,ol 16 (.cvt .u64 15),Tl 17 5,oH 18 17,ol 19 (.cvt .u64 18),IW 20 .sub 16 19,ol 21 (oI .add 20 (.int .u64 1)),IW 22 .mul 13 21,oy 3 22]) 23 9 9 23) [oz 24 3,ol 25 (.cvt .i64 24),Tp 25]))
def y33:XF:=⟨[0],z33,[(.t 2)]⟩
theorem x33:jx ε 36=some y33:=by kernel_rfl
def z60:XC:=(ov [ID 5 1,Tz 8] (OU [IY 12,O9 13 5,OA 14 103 12 13,oz 11 14,Tw 15 11,Tx 16 11,Tz 9,o8 10 [oB,oJ,oB,oB],TV 9 15,o5 4 10 16] (Oz [OO 17 10,oH 18 17,oz 19 2,IW 20 .neq 18 19,oz 21 20,Oo 22 21 1 10,Ov 23 21 22,IH 24 21 3,If 25 21 (.strb .neq 23 24),Lc 26 21 25] 26 [oE 27 4 5,oH 28 27,oE 29 5 5,oH 30 29,Ip 31 94 [IR 163,28,30]]) [O9 32 9,TV 8 32]))
def y60:XF:=⟨[0,1,2,3],z60,[(.cA 8 6)]⟩
theorem x60:jx ε 75=some y60:=by kernel_rfl
def z61:XC:=(ov [ID 3 1] (oX [IY 6,OO 7 3,oH 8 7,Ld 9 3,oH 10 9,Tl 11 3,oH 12 11,Ip 13 70 [6,8,10,12]] (T6 [Tv 14 3,Oh 15 14,IP 16 15,I0 17] 0 18 17 16 18 0 1 [Li 19 15 17,oH 20 19,oy 5 20] (.ops [IY 21,Lb 22,Ld 23 3,oH 24 23,Tl 25 3,oH 26 25,Ip 27 70 [21,22,24,26]]) 28 17 17 28) (.dops [IO (IY 29),IO (IY 30),IO (IQ 31 30),IX 32 0 31,IX 33 1 32,Ts 34 33 33 22,IX 35 0 3,Ts 36 35 35 9,IX 37 1 3,Ts 38 37 37 106,(TR 39 91 38 0 [(2,9),(4,22)],some [OP 39,o9 (Ld 40 3) 0,Ij (oH 41 40) 40 3 [(1,0)],o9 (Tl 42 3) 0,Ij (oH 43 42) 42 3 [(3,0)],OP 44,OP 45,OP 46,OP 47,OP 48,OP 49,o9 (o3 (.i (.mv II))) 0]),IX 40 2 3,Om 41 40 40 3 [(1,0)],IX 42 3 3,Om 43 42 42 3 [(3,0)],TF 44 [oJ,.nils,oB,oB] [((0,1),36),((1,1),39),((2,1),41),((3,1),43)],IO (Is 45 1 4 [oJ,.nils,oB,oB] [((0,4),44)]),I3 (Oq 46 4 56 34 45) 0 [],IO (IQ 47 29),IX 48 0 47,IX 49 1 48,TU 1 49 46])))
def y61:XF:=⟨[0,1],z61,[]⟩
theorem x61:jx ε 68=some y61:=by kernel_rfl
def jeZ:XC:=(TN [La 139,La 140,IE (IQ 141 140),IE (OO 142 141),IE (OO 143 142),OQ 144 143,IE (oU 145 7 4),IE (Is 146 1 7 [oJ,oB,oJ,oB,oB,Tj,oB] [((0,7),145)]),IE (Oq 147 7 72 144 146),IE (IQ 148 139),IE (OO 149 148),IE (OO 150 149),IE (o5 1 150 147)] (Oz [IY 151,IQ 152 151,OO 153 152,TZ 154 153,Ox 155 36 154,O1 156 .gtr 155 281474976710656] 156 [oE 157 5 3,oH 158 157,oE 159 6 3,oH 160 159,Ip 161 94 [IR 165,158,160]]))
def jbj:XC:=(.seq (T6 [oE 92 4 3,Oh 93 92,IP 94 93,I0 95] 1 96 95 94 96 1 2 [Ik 97 6 93 95,O9 98 97,Tz 7,TV 7 98] (oX [IY 99,O9 100 7,Tv 101 4,oH 102 101,Ld 103 4,oH 104 103,Ip 105 75 [99,100,102,104],Tz 8,TV 8 105] (ov [O9 107 8,Ox 108 95 107,oz 106 108,Tw 109 106,Tx 110 106,Tz 9,TV 9 109,oy 10 110] (Oz [oy 111 10] 111 [oE 112 4 9,oH 113 112,oE 114 5 9,oH 115 114,Ip 116 94 [IR 161,113,115]])) (ov [O9 117 8,Ox 118 96 117,oE 119 5 4,o5 1 119 Ih,oE 120 6 4,o5 1 120 118] (Oz [oE 121 6 4,oH 122 121,Tl 123 4,oH 124 123,IW 125 .lss 122 124,oz 126 125,Oo 127 126 6 4,Ov 128 126 127,Oo 129 126 4 4,Ov 130 126 129,If 131 126 (.bin .gtr 128 130),Lc 132 126 131] 132 [oE 133 4 7,oH 134 133,oE 135 5 7,oH 136 135,Ip 137 94 [IR 164,134,136]]))) 138 95 95 138) jeZ)
def z62:XC:=(ov [ID 3 1] (O8 [IY 11,OO 12 3,oH 13 12,oE 14 5 3,oH 15 14,oE 16 6 3,oH 17 16,Ip 18 70 [11,13,15,17]] [OO 19 3,oH 20 19,Ld 21 3,oH 22 21,Tl 23 3,oH 24 23,Iv 25 [oJ,oB,oJ,oB,oB,Tj,oB] [((0,1),20),((1,1),Tg),((3,1),22),((4,1),24)],o8 4 [oJ,oB,oJ,oB,oB,Tj,oB],o5 7 4 25] (oX [IY 26,IQ 27 26,OO 28 27,Tv 29 28,oH 30 29,ol 31 (.fn 93 [3]),OA 32 92 30 31,oy 5 32] (.block 0 (oK [Tv 34 3,oH 35 34,T5 36 35 [98,111,111,108],oy 33 36] 33 (.ops [Tv 37 4,o5 1 37 (IR 2),Tl 38 4,o5 1 38 OM,oE 39 4 4,o5 1 39 Tg]) (oK [Lb 41,ol 42 (O7 .geq 41),oy 40 42] 40 (.dops [IX 43 1 3,Ts 44 43 43 9,IO (IY 45),IO (IQ 46 45),IX 47 0 46,IX 48 1 47,Ts 49 48 48 22,Tq 50 5,IO (Ik 51 4 49 50),IX 52 1 51,Ts 53 52 52 106,IO (I4 54 53),IO (Ib 55 .sub 54 1),IX 56 1 4,Ty 1 56 (IR 3) [(3,106),(7,22),(12,9)],IX 57 2 4,Ty 1 57 44 [(5,106),(9,22)],IX 58 3 4,Ty 1 58 OM [(7,106),(11,22)],IX 59 4 4,TU 1 59 55]) (oK [Tv 61 3,oH 62 61,IG 63 .neq 62 (.c oJ),oy 60 63] 60 (.ops [oE 64 5 3,oH 65 64,oE 66 6 3,oH 67 66,Ip 68 94 [IR 161,65,67]]) (oK [Ld 70 3,oH 71 70,Tl 72 3,oH 73 72,IW 74 .gtr 71 73,oy 69 74] 69 (.ops [oE 75 5 3,oH 76 75,oE 77 6 3,oH 78 77,Ip 79 94 [IR 164,76,78]]) (Oz [Tl 81 3,oH 82 81,Ld 83 3,oH 84 83,IW 85 .sub 82 84,Ib 86 .geq 85 1024,oy 80 86] 80 [oE 87 5 3,oH 88 87,oE 89 6 3,oH 90 89,Ip 91 94 [IR 165,88,90]])))))) jbj)))
def y62:XF:=⟨[0,1],z62,[]⟩
theorem x62:jx ε 69=some y62:=by kernel_rfl
def z63:XC:=(.seq (Oz [IY 8,IQ 9 8,Tl 10 9,oH 11 10,OY 12,ol 13 (.look 89 11 12 false),ow 14 (O7 .gtr 13)] 14 [oz 15 2,oz 16 3,Ip 17 94 [IR 162,15,16]]) (.ops [IY 18,IQ 19 18,Tl 20 19,oH 21 20,OY 22,ol 23 (.look 89 21 22 false),TA 24 23 1,o3 (.i (.upd 89 21 22 24))]))
def y63:XF:=⟨[0,1,2,3],z63,[]⟩
theorem x63:jx ε 70=some y63:=by kernel_rfl
def jeX:XC:=(.cops [La 73,La 74,IE (IQ 75 74),IE (OO 76 75),IE (Ld 77 76),OQ 78 77,IE (oU 79 7 4),IE (Is 80 1 7 [oB,oB,oJ,.nils,oB,oB,.nils] [((0,7),79)]),IE (Oq 81 7 96 78 80),IE (IQ 82 73),IE (OO 83 82),IE (Ld 84 83),IE (o5 1 84 81)])
def jeY:XC:=(.seq (T6 [oE 13 6 3,Oh 14 13,IP 15 14,I0 16] 0 17 16 15 17 0 1 [oz 18 16,Ik 19 9 14 16,oU 20 9 19,o8 6 [oJ,oB,oB,oJ,.nils,oB,oB,oB,oB],oy 5 18,o5 9 6 20] (oX [IY 21,OO 22 6,oH 23 22,OA 24 97 21 23,oy 7 24] (Oz [oz 25 7,ow 26 (O7 .lss 25)] 26 [oE 27 7 6,oH 28 27,oE 29 8 6,oH 30 29,Ip 31 94 [IR 161,28,30]]) (.seq (Oz [oE 32 6 3,oH 33 32,Lb 34,ol 35 (.slS 9 33 none (some 34)),ol 36 (.fn 99 [6]),T4 37 (oQ 98 []) [35,36]] 37 [oE 38 7 6,oH 39 38,oE 40 8 6,oH 41 40,Ip 42 94 [IR 162,39,41]]) (.dops [IX 43 6 4,Ts 44 43 43 67,Tq 45 7,IO (IY 46),IX 47 1 6,T8 48 6 47 47 29,IO (IY 49),IO (IQ 50 49),IX 51 0 50,IX 52 0 51,Ts 53 52 52 32,Tq 54 7,IO (Ik 55 7 53 54),IX 56 1 55,Ts 57 56 56 3,IO (IY 58),IO (IQ 59 58),IX 60 0 59,IX 61 0 60,Ts 62 61 61 32,Tq 63 7,IO (Ik 64 7 62 63),IX 65 2 64,Ts 66 65 65 9,(Ix (Ip 67 75 [46,48,57,66]) 0 [(22,67)],OJ),TF 68 [oB,oB,oB,oJ,.nils,oB,oB] [((0,1),45),((1,6),67)],IO (Is 69 1 7 [oB,oB,oB,oJ,.nils,oB,oB] [((0,7),68)]),I3 (Oq 70 7 80 44 69) 0 [],IX 71 6 4,TU 1 71 70]))) 72 16 16 72) jeX)
def z64:XC:=(O8 [ID 3 1] [IY 8,OO 9 3,O9 10 9,Ip 11 75 [8,10,IR 2,.c oJ],Iv 12 [oB,oB,oJ,.nils,oB,oB,.nils] [((0,6),11)],o8 4 [oB,oB,oJ,.nils,oB,oB,.nils],o5 7 4 12] jeY)
def y64:XF:=⟨[0,1],z64,[]⟩
theorem x64:jx ε 71=some y64:=by kernel_rfl
def jeS:XC:=(.seq (Oz [oy 151 15] 151 [oE 152 4 3,oH 153 152,oE 154 5 3,oH 155 154,Ip 156 94 [IR 163,153,155]]) (T9 [oz 157 14,O1 158 .neq 157 1] 158 [O9 159 6,oz 160 14,Iv 161 [oB,oJ,oB,oB] [((0,1),160),((3,1),Tg)],TV 4 159,o5 4 5 161] (OU [OO 163 3,oH 164 163,oz 165 7,OA 166 134 164 165,oz 162 166,Tw 167 162,Tx 168 162,oy 18 167,oy 19 168] (Oz [oz 169 18,Ib 170 .lss 169 (-(99999999+1)),oz 171 170,IH 172 171 19,O6 173 171 .gtr 172 100000000,Lc 174 171 173] 174 [oE 175 4 3,oH 176 175,oE 177 5 3,oH 178 177,Ip 179 94 [IR 165,176,178]]) [O9 180 6,oz 181 14,oz 182 18,oz 183 19,Iv 184 [oB,oJ,oB,oB] [((0,1),181),((2,1),182),((3,1),183)],TV 4 180,o5 4 5 184])))
def jbh:XC:=(.seq (T6 [oy 115 7,IP 116 115,I0 117] 3 118 117 116 118 3 4 [Ik 119 4 115 117,oU 120 4 119,o8 17 [oB,oJ,oB,oB],o5 4 17 120] (.cops [TB 121 15,TB 122 121,IE (IH 123 122 13),IE (If 124 122 (O7 .gtr 123)),IE (IH 125 122 124),IE (Oy 126 125 0 17),IE (Ow 127 125 126),IE (IZ 128 125 13),IE (Ig 129 125 (.bin .neq 127 128)),IE (Lk 130 122 125 129 oW),IE (Tc 131 122 130),TB 132 131,IE (Oo 133 132 0 17),IE (Ov 134 132 133),IE (IH 135 132 7),IE (If 136 132 (.idxS 4 135 OM)),IE (Oo 137 132 0 136),IE (Ov 138 132 137),IE (If 139 132 (.bin .neq 134 138)),IE (Tc 140 132 139),TB 141 140,IE (Oo 142 141 1 17),IE (Ov 143 141 142),IE (IH 144 141 7),IE (If 145 141 (.idxS 4 144 OM)),IE (Oo 146 141 1 145),IE (Ov 147 141 146),IE (If 148 141 (.strb .neq 143 147)),IE (Tc 149 141 148),IE (oy 15 149)]) 150 117 117 150) jeS)
def jeT:XC:=(ov [IY 85,oz 86 8,IQ 87 85,oE 88 4 87,o5 1 88 86] (O8 [OO 90 3,oH 91 90,Ox 92 132 91,oz 89 92,Tw 93 89,Tx 94 89,oy 13 93,oy 14 94] [oz 95 7,I4 96 95,ol 97 (TJ 96),oz 98 97,IH 99 98 7,TQ 100 98 99,O6 101 98 .gtr 100 2,Tc 102 98 101,oz 103 102,Oo 104 103 0 3,Ov 105 103 104,Lg 106 103 133 [105],IH 107 103 106,IZ 108 107 0,Ig 109 107 (.nilc 108),Oy 110 107 4 109,Ow 111 107 110,Ig 112 107 (IA 111),Lk 113 103 107 112 oW,Tc 114 103 113,oy 15 114] jbh))
def jbi:XC:=(.seq (T6 [Tl 61 3,Oh 62 61,IP 63 62,I0 64] 1 65 64 63 65 1 2 [Ik 66 6 62 64,O9 67 66,Tz 10,TV 10 67] (O8 [IY 69,O9 70 10,OA 71 103 69 70,oz 68 71,Tw 72 68,Tx 73 68,Tz 11,o8 12 [oB,oJ,oB,oB],TV 11 72,o5 4 12 73] [Tl 74 6,oH 75 74,O9 76 11,Is 77 1 6 OI [((0,6),76)],Oq 78 6 72 75 77,Tl 79 6,o5 1 79 78] (.ops [oz 80 7,oU 81 4 12,Is 82 1 4 [oB,oJ,oB,oB] [((0,4),81)],Oq 83 4 40 80 82,oy 7 83])) 84 64 64 84) jeT)
def jeU:XC:=(ov [O9 41 3,Tz 6,TV 6 41] (O8 [Tl 42 6,o5 1 42 (.c .nils)] [O5 7] (O8 [IY 43,IQ 44 43,oE 45 4 44,oH 46 45,oy 8 46] [IY 47,oz 48 8,oz 49 48,Oy 50 49 0 3,Ow 51 49 50,Td 52 49 .neq 51 17,Tb 53 49 52,oz 54 53,Oy 55 54 0 3,Ow 56 54 55,Td 57 54 .neq 56 18,Tb 58 54 57,IQ 59 47,oE 60 4 59,o5 1 60 58] jbi)))
def Z8:XC:=(.seq (T7 [OO 20 3,Oh 21 20] 0 (Oi 23 21 1 22 23 22 (Lh [T8 24 6 3 3 29,IX 25 1 3,Ts 26 25 25 2,IX 27 1 3,Ts 28 27 27 2,TF 29 [oB,oJ,oB,oB] [((0,1),Tg),((2,1),26),((3,1),28)],Ty 6 4 24 [(1,2),(3,2)],TU 4 5 29]) (Te 31 21 2 30 31 30 [O9 32 3,Iv 33 [oB,oJ,oB,oB] [((0,1),IR 2),((3,1),Tg)],TV 4 32,o5 4 5 33] (Iy (IV 35 21 3 34 35) 34 [IY 36,O9 37 3,OA 38 131 36 37,Tw 39 38,Tx 40 38,TV 4 39,o5 4 5 40])))) jeU)
def z97:XC:=(ov [ID 3 1,Tz 4,o8 5 [oB,oJ,oB,oB]] Z8)
def y97:XF:=⟨[0,1],z97,[(.cA 4 6),(.cA 5 4)]⟩
theorem x97:jx ε 103=some y97:=by kernel_rfl
def z98:XC:=(.ops [IY 6,OY 7,oz 8 2,Iv 9 [oB,oB,oB] [((0,1),6),((1,1),7),((2,1),8)],ol 10 (.iface 45 9),o3 (.pan 10)])
def y98:XF:=⟨[0,1,2],z98,[]⟩
theorem x98:jx ε 94=some y98:=by kernel_rfl
def z99:XC:=(Oe [O5 2] [IY 3,ow 4 (.gen .eql 106 true 3 (.c .nils))] 4 [O5 2] (o4 [TI 5 0 oJ [],IY 6,Oq 7 1 16 5 6,Tp 7]))
def y99:XF:=⟨[0],z99,[(.t 2)]⟩
theorem x99:jx ε 91=some y99:=by kernel_rfl
def jkq:XC:=(OU [I0 4] (T6 [IY 6,IP 7 6,I0 8] 0 9 8 7 9 0 1 (Tf 10 8 5 10) (Iy [OY 11,IY 12,Lb 13,Ik 14 4 12 13,oU 15 4 14,T4 16 11 [15]] 16 (Tf 17 5 4 17)) 18 8 8 18) [OZ 4 (-(0+1))])
def jpP:XF:=⟨[0,1],jkq,[(.t 4)]⟩
theorem jua:jx ε 92=some jpP:=by kernel_rfl
def jkp:XC:=(OK (T0 2 3) [OO 4 2,oH 5 4,Tv 6 1,oH 7 6,Tr 8 5 7,oy 3 8])
def jpO:XF:=⟨[0,1],jkp,[(.t 3)]⟩
theorem jt9:jx ε 93=some jpO:=by kernel_rfl
def jko:XC:=(Oe [TT 1,Tz 2,Ol 3] [OO 8 1,oH 9 8,O1 10 .eql 9 4] 10 [O9 11 1,TV 2 11,Ta 3] (OW (T6 [Tl 12 1,Oh 13 12,IP 14 13,I0 15] 0 16 15 14 16 0 1 [Ik 17 6 13 15,O9 18 17,Tz 5,TV 5 18] (ov [O9 20 5,Ox 21 95 20,oz 19 21,Tw 22 19,Tx 23 19,Tz 6,TV 6 22,oy 7 23] (Iy [oy 24 7] 24 [O9 25 6,TV 2 25,Ta 3])) 26 15 15 26) [O9 27 1,TV 2 27,Ol 3]))
def jpN:XF:=⟨[0],jko,[(.cA 2 6),(.t 3)]⟩
theorem jt8:jx ε 95=some jpN:=by kernel_rfl
def jkn:XC:=(ov [TT 1,I0 2] (oX [o8 3 [oB,oB]] (T6 [Tl 7 1,Oh 8 7,IP 9 8,I0 10] 0 11 10 9 11 0 1 [oz 12 10,Ik 13 6 8 10,O9 14 13,Tz 5,TK 12,TV 5 14] (.ops [TW 15,O9 16 5,Ox 17 96 16,OL 18 2 1 3 15,o5 1 18 17]) 19 10 10 19) (OU [oy 6 (oQ 124 [])] (T7 [OO 20 1,Oh 21 20] 2 (Oi 23 21 4 22 23 22 (.ops [oE 24 4 1,oH 25 24,oE 26 5 1,oH 27 26,Ip 28 94 [IR 161,25,27]]) (Te 30 21 5 29 30 29 [OL 31 2 1 3 OM,oH 32 31,ol 33 (.un .neg 32),Tp 33] (Te 35 21 6 34 35 34 [OL 36 2 1 3 OM,oH 37 36,IW 38 .sub Tg 37,Tp 38] (Te 40 21 14 39 40 39 [OL 41 2 1 3 OM,oH 42 41,OL 43 2 1 3 Tg,oH 44 43,IW 45 .mul 42 44,Tp 45] (Te 47 21 15 46 47 46 [OL 48 2 1 3 OM,oH 49 48,OL 50 2 1 3 Tg,oH 51 50,IW 52 .add 49 51,Tp 52] (Te 54 21 16 53 54 53 [OL 55 2 1 3 OM,oH 56 55,OL 57 2 1 3 Tg,oH 58 57,IW 59 .sub 56 58,Tp 59] (.seq (Tt 61 21 17 60 61 60 (.ops (IV 62 21 30 60 62))) (Ti 60 [TY 63,OL 64 2 1 3 OM,oH 65 64,OL 66 2 1 3 Tg,oH 67 66,IW 68 .eql 65 67,oS 69 none 63 [68],Tp 69] (Te 71 21 18 70 71 70 [TY 72,OL 73 2 1 3 OM,oH 74 73,OL 75 2 1 3 Tg,oH 76 75,IW 77 .neq 74 76,oS 78 none 72 [77],Tp 78] (Te 80 21 19 79 80 79 [TY 81,OL 82 2 1 3 OM,oH 83 82,OL 84 2 1 3 Tg,oH 85 84,IW 86 .lss 83 85,oS 87 none 81 [86],Tp 87] (.seq (Tt 89 21 20 88 89 88 (.ops (IV 90 21 29 88 90))) (Ti 88 [TY 91,OL 92 2 1 3 OM,oH 93 92,OL 94 2 1 3 Tg,oH 95 94,IW 96 .leq 93 95,oS 97 none 91 [96],Tp 97] (Te 99 21 21 98 99 98 [TY 100,OL 101 2 1 3 OM,oH 102 101,OL 103 2 1 3 Tg,oH 104 103,IW 105 .gtr 102 104,oS 106 none 100 [105],Tp 106] (Te 108 21 22 107 108 107 [TY 109,OL 110 2 1 3 OM,oH 111 110,OL 112 2 1 3 Tg,oH 113 112,IW 114 .geq 111 113,oS 115 none 109 [114],Tp 115] (Te 117 21 27 116 117 116 [OL 118 2 1 3 OM,oH 119 118,OL 120 2 1 3 Tg,oH 121 120,IW 122 .mul 119 121,Tp 122] (Iy (IV 124 21 28 123 124) 123 [OL 125 2 1 3 OM,oH 126 125,OL 127 2 1 3 Tg,oH 128 127,ol 129 (.bi .max #[2,2] [126,128]),Tp 129]))))))))))))))))) [Tv 130 1,oH 131 130,Tp 131])))
def jpM:XF:=⟨[0],jkn,[(.t 2)]⟩
theorem jt7:jx ε 96=some jpM:=by kernel_rfl
def jkm:XC:=(OK [ID 3 1,I0 4] [IY 5,IQ 6 5,OO 7 6,OO 8 7,oH 9 8,ol 10 (.fn 126 [3]),OA 11 125 9 10,TK 11])
def jpL:XF:=⟨[0,1],jkm,[(.t 4)]⟩
theorem jt6:jx ε 97=some jpL:=by kernel_rfl
def jkl:XC:=(OK Tu [IY 5,OY 6,OA 7 127 5 6,ol 8 (O7 .geq 7),TK 8])
def jpK:XF:=⟨[0,1],jkl,[(.t 4)]⟩
theorem jt5:jx ε 98=some jpK:=by kernel_rfl
def jkk:XC:=(OK (T0 2 3) [OO 4 2,oH 5 4,OO 6 1,oH 7 6,Tr 8 5 7,oy 3 8])
def jpJ:XF:=⟨[0,1],jkk,[(.t 3)]⟩
theorem jt4:jx ε 99=some jpJ:=by kernel_rfl
def kD:XC:=(oX [ID 3 1,Tz 4,o8 5 [oB,oJ,oB,oB]] (ov [IY 10,Ld 11 3,oH 12 11,OA 13 97 10 12,oy 6 13] (Ic [TY 14,ow 15 (O7 .geq 14)] 15 (oX [IY 16,IQ 17 16,OO 18 17,OO 19 18,oH 20 19,TY 21,Ik 22 7 20 21,oU 23 7 22,o8 7 [oJ,oB,oJ,oB,oB,Tj,oB],o5 7 7 23] (.dops [Tq 24 6,IX 25 4 3,Ts 26 25 25 3,IX 27 5 3,Ts 28 27 27 3,TF 29 OI [((0,1),IR 4),((1,1),24),((4,1),26),((5,1),28)],IX 30 1 7,Ts 31 30 30 3,IX 32 2 7,Ts 33 32 32 9,IX 34 3 7,Ts 35 34 34 2,IX 36 4 7,Ts 37 36 36 2,TF 38 [oB,oJ,oB,oB] [((0,1),31),((1,1),33),((2,1),35),((3,1),37)],Ty 6 4 29 [(1,2),(3,2),(5,9),(7,3)],TU 4 5 38]) .ret))) (OU [IY 40,Ld 41 3,oH 42 41,OA 43 152 40 42,oz 39 43,Tw 44 39,Tx 45 39,oy 8 44,oy 9 45] (Oz [oz 46 9,ow 47 (O7 .lss 46)] 47 [oE 48 4 3,oH 49 48,oE 50 5 3,oH 51 50,Ip 52 94 [IR 161,49,51]]) [oz 53 9,oE 54 4 3,oH 55 54,oE 56 5 3,oH 57 56,Iv 58 OI [((0,1),Tg),((1,1),53),((4,1),55),((5,1),57)],oz 59 8,oz 60 9,oz 61 9,Iv 62 [oB,oJ,oB,oB] [((0,1),IR 3),((1,1),59),((2,1),60),((3,1),61)],TV 4 58,o5 4 5 62]))
def je6:XF:=⟨[0,1],kD,[(.cA 4 6),(.cA 5 4)]⟩
theorem jkw:jx ε 131=some je6:=by kernel_rfl
def jj5:XC:=(OU [I0 2,I0 3] (T7 [TK 0] 0 (.seq (Tt 6 4 5 5 6 5 (Tt 7 4 14 5 7 5 (Tt 8 4 15 5 8 5 (.ops (IV 9 4 16 5 9))))) (Ti 5 [OZ 2 1,OZ 3 1] (.seq (Tt 11 4 19 10 11 10 (Tt 12 4 20 10 12 10 (Tt 13 4 21 10 13 10 (.ops (IV 14 4 22 10 14))))) (Ti 10 [OZ 2 1,OZ 3 2] (.seq (Tt 16 4 17 15 16 15 (.ops (IV 17 4 18 15 17))) (Ti 15 [I0 2,OZ 3 2] .skip))))))) [OZ 2 2,OZ 3 2])
def jpu:XF:=⟨[0],jj5,[(.t 2),(.t 3)]⟩
theorem jtP:jx ε 132=some jpu:=by kernel_rfl
def jj4:XC:=(OK Lj [IY 3,Ib 4 .geq 3 7,TW 5,IZ 6 5 0,Td 7 5 .leq 6 13,Tb 8 5 7,oz 9 8,IH 10 9 0,O6 11 9 .geq 10 23,IH 12 9 11,IZ 13 12 0,Td 14 12 .leq 13 26,Lk 15 9 12 14 oW,Tc 16 9 15,Tp 16])
def jpt:XF:=⟨[0],jj4,[(.t 2)]⟩
theorem jtO:jx ε 133=some jpt:=by kernel_rfl
def jj3:XC:=(O8 [I0 4,I0 5] [OY 8,Ik 9 4 8 OM,oU 10 4 9,o8 6 [oB,oJ,oB,oB],o5 4 6 10] (OU [OY 11,OY 12,I4 13 12,Ib 14 .sub 13 1,Ik 15 4 11 14,oU 16 4 15,o8 7 [oB,oJ,oB,oB],o5 4 7 16] (T7 [oy 17 0] 0 (Te 19 17 5 18 19 18 [Ld 20 6,oH 21 20,ol 22 (.un .neg 21),Tl 23 6,oH 24 23,ol 25 (.un .neg 24),TI 26 2 oB [((0,1),22),((1,1),25)],Ox 27 153 26,Tw 28 27,Tx 29 27,TK 28,oy 5 29] (Te 31 17 15 30 31 30 [Ld 32 6,oH 33 32,Ld 34 7,oH 35 34,IW 36 .add 33 35,Tl 37 6,oH 38 37,Tl 39 7,oH 40 39,IW 41 .add 38 40,TI 42 2 oB [((0,1),36),((1,1),41)],Ox 43 153 42,Tw 44 43,Tx 45 43,TK 44,oy 5 45] (Iy (IV 47 17 16 46 47) 46 [Ld 48 6,oH 49 48,Tl 50 7,oH 51 50,IW 52 .sub 49 51,Tl 53 6,oH 54 53,Ld 55 7,oH 56 55,IW 57 .sub 54 56,TI 58 2 oB [((0,1),52),((1,1),57)],Ox 59 153 58,Tw 60 59,Tx 61 59,TK 60,oy 5 61])))) [Ld 62 6,oH 63 62,Ld 64 7,oH 65 64,IW 66 .mul 63 65,Ld 67 6,oH 68 67,Tl 69 7,oH 70 69,IW 71 .mul 68 70,Tl 72 6,oH 73 72,Ld 74 7,oH 75 74,IW 76 .mul 73 75,Tl 77 6,oH 78 77,Tl 79 7,oH 80 79,IW 81 .mul 78 80,TI 82 4 oB [((0,1),66),((1,1),71),((2,1),76),((3,1),81)],Ox 83 153 82,Tw 84 83,Tx 85 83,TK 84,oy 5 85]))
def jps:XF:=⟨[0,1],jj3,[(.t 4),(.t 5)]⟩
theorem jtN:jx ε 134=some jps:=by kernel_rfl
def jj2:XC:=(Oe [I0 2] [oy 3 0] 3 [OZ 2 1] (o4 [I0 2]))
def jpr:XF:=⟨[0],jj2,[(.t 2)]⟩
theorem jtM:jx ε 124=some jpr:=by kernel_rfl
def jj1:XC:=(OU [I0 4] (T6 [IY 6,IP 7 6,I0 8] 0 9 8 7 9 0 1 (Tf 10 8 5 10) (Iy [OY 11,IY 12,Lb 13,Ik 14 7 12 13,oU 15 7 14,T4 16 11 [15]] 16 (Tf 17 5 4 17)) 18 8 8 18) [OZ 4 (-(0+1))])
def jpq:XF:=⟨[0,1],jj1,[(.t 4)]⟩
theorem jtL:jx ε 125=some jpq:=by kernel_rfl
def jj0:XC:=(OK (T0 2 3) [OO 4 2,oH 5 4,oH 6 1,Tr 7 5 6,oy 3 7])
def jpp:XF:=⟨[0,1],jj0,[(.t 3)]⟩
theorem jtK:jx ε 126=some jpp:=by kernel_rfl
def je5:XC:=(OU [I0 4] (T6 [IY 6,IP 7 6,I0 8] 0 9 8 7 9 0 1 (Tf 10 8 5 10) (Iy [OY 11,IY 12,Lb 13,Ik 14 9 12 13,oU 15 9 14,T4 16 11 [15]] 16 (Tf 17 5 4 17)) 18 8 8 18) [OZ 4 (-(0+1))])
def jpo:XF:=⟨[0,1],je5,[(.t 4)]⟩
theorem jtJ:jx ε 127=some jpo:=by kernel_rfl
def jjQ:XC:=(OU [Ia 4 oJ,I0 5] (T6 [IY 9,IQ 10 9,OO 11 10,Tv 12 11,Oh 13 12,IP 14 13,I0 15] 0 16 15 14 16 0 1 [Ik 17 4 13 15,oU 18 4 17,o8 7 [oJ,.nils,oB,oB],o5 4 7 18] (ov [Tv 19 7,oH 20 19,OY 21,OA 22 164 20 21,oy 8 22] (Iy [oz 23 8,ow 24 (O7 .geq 23)] 24 [OO 25 7,oH 26 25,oz 27 8,TK 26,oy 5 27])) 28 15 15 28) [Ia 4 oJ,OZ 5 (-(0+1))])
def jpe:XF:=⟨[0,1],jjQ,[(.t 4),(.t 5)]⟩
theorem jtz:jx ε 152=some jpe:=by kernel_rfl
def jjP:XC:=(OK [I0 2,I0 3] [IY 4,Ox 5 167 4,IY 6,Ox 7 168 6,Tp 5,oy 3 7])
def jpd:XF:=⟨[0],jjP,[(.t 2),(.t 3)]⟩
theorem jty:jx ε 153=some jpd:=by kernel_rfl
def jjL:XC:=(oX [I0 2] (Oz [IY 5,I4 6 5,O1 7 .lss 6 1] 7 [ol 8 (.iface 9 (o7 [115,108,105,99,101,115,46,77,105,110,58,32,101,109,112,116,121,32,108,105,115,116])),o3 (.pan 8)]) (OU [IY 9,Li 10 9 OM,oH 11 10,oy 3 11] (IU [OZ 4 1] 0 (.seq (O4 [TW 12,IY 13,I4 14 13,I5 15 12 14] 15 (.exit 0)) (Iz 1 (.ops [oz 18 3,IY 19,TW 20,Li 21 19 20,oH 22 21,ol 23 (.bi .min #[2,2] [18,22]),oy 3 23]) [TW 16,TA 17 16 1,TK 17]))) (Tf 24 3 2 24)))
def jo9:XF:=⟨[0],jjL,[(.t 2)]⟩
theorem jtu:jx ε 167=some jo9:=by kernel_rfl
def jjK:XC:=(oX [I0 2] (Oz [IY 5,I4 6 5,O1 7 .lss 6 1] 7 [ol 8 (.iface 9 (o7 [115,108,105,99,101,115,46,77,97,120,58,32,101,109,112,116,121,32,108,105,115,116])),o3 (.pan 8)]) (OU [IY 9,Li 10 9 OM,oH 11 10,oy 3 11] (IU [OZ 4 1] 0 (.seq (O4 [TW 12,IY 13,I4 14 13,I5 15 12 14] 15 (.exit 0)) (Iz 1 (.ops [oz 18 3,IY 19,TW 20,Li 21 19 20,oH 22 21,ol 23 (.bi .max #[2,2] [18,22]),oy 3 23]) [TW 16,TA 17 16 1,TK 17]))) (Tf 24 3 2 24)))
def jo8:XF:=⟨[0],jjK,[(.t 2)]⟩
theorem jtt:jx ε 168=some jo8:=by kernel_rfl
theorem jpR:jaS ε 67=some gX:=by kernel_rfl
end Go.Sy
end
noncomputable section
namespace Go.Sy
open Go.Ev Go.RowKit
def frW (w:World):Inj:=⟨λ_=>.unborn,λB=>match w.heap[B]? with|some (.cells c _ _)=>some c.toList|_=>none⟩
theorem jsQ {w:World}{B:Nat}{vs:List Value}(h:(frW w).g B=some vs):∃ c e f,w.heap[B]? = some (.cells c e f)/\c.toList=vs:=by
 unfold frW at h;dsimp only at h;split at h
 ·rename_i c e f hc;exact⟨c,e,f,hc,by simpa using h⟩
 ·cases h
theorem jq8 {w:World}{B:Nat}{c:Array Value}{e:TypeId}{f:Nat×Nat}(h:w.heap[B]? = some (.cells c e f)):(frW w).g B=some c.toList:=by
 unfold frW;dsimp only;rw[h]
theorem jnG {w:World}(hg:∃ te pe,w.cell? ⟨2,0,none⟩=some (.iface te pe)):Sim (frW w) st0.h st0.nx w:=
 ⟨λb B S e=>(by cases e),λb e=>(by cases e),λb b' B S S' e=>(by cases e),λb e=>absurd rfl e,⟨hg,λb S e=>by cases e⟩,λB vs h=>by
  obtain⟨c,e,f,h1,h2⟩:=jsQ h;exact⟨⟨c,e,f.1,f.2,h1,h2,trivial⟩,λb S e=>by cases e⟩⟩
section
variable {H:Type} {enc:TypeId×Value->H} {P:Program} {w:World} {base:Nat} {sp:Nat->Bool} {held:Bool}
mutual
def bulkD:DataW H->Nat
 |.lit (.string bytes)=>bytes.length+1
 |.lit _=>1
 |.nil=>1
 |.ptr d=>bulkD d+1
 |.slice elems spare=>bulkDs elems+bulkDs spare+1
 |.agg parts=>bulkDs parts+1
 |.iface _ d=>bulkD d+1
 |.map entries=>1
 |.held _=>1
def bulkDs:List (DataW H)->Nat
 |[]=>0
 |d :: r=>bulkD d+bulkDs r
end
def Reads (H:Type)(P:Program)(w:World)(N:Nat)(t:TypeId){α:Type}(z:Nat)(en:α->List AV)(sz:α->Nat):Prop:=
 P.cellsOf t=z/\(∀ x,(en x).length=z)/\∀ (enc:TypeId×Value->H) (base:Nat) (sp:Nat->Bool) (held:Bool) (fuel:Nat) (cs:List Value) (d:DataW H) (ps:List MemPlace),fuel<=N->DataW.trod enc P w base sp held fuel t cs=some (d,ps)->∃ x:α,VRs (frW w) (en x) cs/\(en x).all AV.cell=true/\sz x<=bulkD d
def jcu (k:IntKind)(n:{n:Int // (Lit.int k n).wf=true}):List AV:=[.int k n.1]
theorem JL {N:Nat}{t:TypeId}{k:IntKind}(hu:P.underlying t=some (.int k))(hc:P.cellsOf t=1):Reads H P w N t 1 (jcu k) (λ_=>1):=
 ⟨hc,λ_=>rfl,λenc base sp held fuel cs d ps hN h=>by
  obtain⟨n,rfl,hx,hw⟩:=DataW.trod_int hu h;cases hx;exact⟨⟨n,hw⟩,⟨_,_,rfl,rfl,rfl⟩,rfl,τ _⟩⟩
theorem vr {N:Nat}{t:TypeId}(hu:P.underlying t=some .string)(hc:P.cellsOf t=1):Reads H P w N t 1 (λs:List Nat=>[.str s]) (λs=>s.length+1):=
 ⟨hc,λ_=>rfl,λenc base sp held fuel cs d ps hN h=>by
  obtain⟨s,rfl,hx,hm⟩:=DataW.trod_string hu h;cases hx;refine⟨s.data.toList.map UInt8.toNat,⟨_,_,rfl,⟨s,rfl,rfl⟩,rfl⟩,rfl,?_⟩;show(s.data.toList.map UInt8.toNat).length+1<=_;rw[bulkD,Qap];exact τ _⟩
theorem jeI {w:World}{a:Addr}{v:Value}(h:w.cell? a=some v):a.spot=none/\∃ c e f,w.heap[a.block]? = some (.cells c e f)/\c[a.off]? = some v:=by
 unfold World.cell? at h;split at h
 ·rename_i c e f hc;split at h
  ·cases h
  ·rename_i hs;exact⟨by simpa using hs,c,e,f,hc,h⟩
 ·cases h
theorem jcV {w:World}{base:Nat}{a:Addr}{n:Nat}{cs:List Value}(h:w.cells? base a n=some cs):cs.length=n/\∀ i,i<n->w.cell? (a.add i)=some (cs.getD i undef):=by
 unfold World.cells? at h;split at h
 ·refine⟨by simpa using mapM_some_length h,λi hi=>?_⟩;have:=mapM_some_get h i i (by simp[hi]);rw[this];have hl:cs.length=n:=by simpa using mapM_some_length h
  simp[Qad,show i<cs.length by omega]
 ·cases h
theorem jdd (b o n:Nat):(Addr.add ⟨b,o,none⟩ n)=⟨b,o+n,none⟩:=by
 unfold Addr.add;split
 ·rename_i h;subst h;rfl
 ·rfl
theorem QJ {N:Nat}{α:Type}{t e:TypeId}{z:Nat}{en:α->List AV}{sz:α->Nat}(hz0:0<z)(hu:P.underlying t=some (.slice e))(hc:P.cellsOf t=1)(R:Reads H P w N e z en sz)(hpos:∀ x,1<=sz x) :
  Reads H P w (N+1) t 1 (λxs:List α=>[.lst xs.length (fl en xs)]) (λxs=>(xs.map sz).sum+1):=
 ⟨hc,λ_=>rfl,λenc base sp held fuel cs d ps hN h=>by
  obtain⟨hz,hl,hr⟩:=R;rcases DataW.trod_slice hu h with ⟨rfl,hx⟩|⟨a,len,cap,elems,rest,n,rfl,rfl,hx,hb,hle,hm,hel,h1,_,_⟩
  ·cases hx;exact⟨[],⟨_,_,rfl,⟨none,0,rfl,τ _,rfl,λh=>absurd h (Qbb 0)⟩,rfl⟩,rfl,by simp[bulkD]⟩
  ·rw[hz] at h1;have each:∀ i,i<len->∃ ci d q,w.cells? base (a.add (i * z)) z=some ci/\DataW.trod enc P w base sp held n e ci=some (d,q)/\elems[i]? = some (d,q):=λi hi=>by
    have:=h1 i hi;rw[Qai om] at this;obtain⟨ci,e1,e2⟩:=Option.bind_eq_some_iff.1 this;exact⟨ci,elems[i].1,elems[i].2,e1,e2,Qai om⟩
   have all:∀ m,m<=len->∃ xs:List α,xs.length=m/\(xs.map sz).sum<=bulkDs ((elems.take m).map (·.1))/\∀ i (hi:i<xs.length),∃ ci,w.cells? base (a.add (i * z)) z=some ci/\VRs (frW w) (en xs[i]) ci/\(en xs[i]).all AV.cell=true:=by
    intro m;induction m with
    |zero=>exact λ_=>⟨[],rfl,by simp[bulkDs],λi hi=>by simp at hi⟩
    |succ m ih=>
     intro hm;obtain⟨xs,e1,e2,e3⟩:=ih om;obtain⟨ci,d,q,f1,f2,f3⟩:=each m om;obtain⟨x,g1,g2,g3⟩:=hr enc base sp held n ci d q om f2;have app:∀ (l r:List (DataW H)),bulkDs (l ++ r)=bulkDs l+bulkDs r:=λl r=>by
      induction l with
      |nil=>simp[bulkDs]
      |cons y l ih=>rw[Qag,bulkDs,bulkDs,ih,Qbl]
     refine⟨xs ++ [x],by simp[e1],?_,λi hi=>?_⟩
     ·rw[QbU,f3];simp only[Option.toList,Qbf,κ,μ,List.sum_append,List.sum_cons,List.sum_nil,app,bulkDs];omega
     ·by_cases hlt:i<xs.length
      ·rw[List.getElem_append_left hlt];exact e3 i hlt
      ·have:i=m:=by simp at hi;omega
       subst this;rw[List.getElem_append_right om];simp only[e1,Nat.sub_self,Qby];exact⟨ci,f1,g1,g2⟩
   obtain⟨xs,e1,e2,e3⟩:=all len (τ _);have hcell:(fl en xs).all AV.cell=true:=by
    rw[Qaj];intro v hv;obtain⟨y,hy,hv⟩:=List.mem_flatMap.1 hv;obtain⟨i,hi,rfl⟩:=Qbs.1 hy;obtain⟨_,_,_,h5⟩:=e3 i hi;exact Qaj.1 h5 v hv
   refine⟨xs,⟨_,_,rfl,?_,rfl⟩,rfl,?_⟩
   ·refine⟨some a,cap,by rw[e1],om,hcell,λhpos=>?_⟩;obtain⟨c0,f0,_,_⟩:=e3 0 hpos;have f1:=(jcV f0).2 0 hz0;rw[QaN] at f1;have z0:(a.add 0).add 0=a:=rfl;rw[z0] at f1;obtain⟨hs,c,ty,fr,hB,_⟩:=jeI f1;obtain⟨B,o,s⟩:=a;dsimp only at hs hB;subst hs;have cell:∀ i (hi:i<xs.length) j,j<z->∃ v,c[o+(i * z+j)]? = some v/\VR (frW w) ((en xs[i]).getD j .bad) v:=λi hi j hj=>by
     obtain⟨ci,g0,g1,g2⟩:=e3 i hi;have g3:=(jcV g0).2 j hj;rw[jdd,jdd] at g3;obtain⟨_,c',ty',fr',hB',g4⟩:=jeI g3;dsimp only at hB' g4;rw[hB] at hB';cases hB';refine⟨_,by rw[<-Qbl];exact g4,?_⟩;exact g1.get j (by rw[hl];exact hj)
    have bound:o+xs.length * z<=c.size:=by
     have hl1:0<xs.length:=hpos;obtain⟨v,g,_⟩:=cell (xs.length - 1) om (z - 1) om;have:=(QaB.1 g).1;have e:(xs.length - 1) * z+(z - 1)+1=xs.length * z:=by
      have:(xs.length - 1+1) * z=(xs.length - 1) * z+z:=QaT _ _;rw[show xs.length - 1+1=xs.length by omega] at this;omega
     omega
    have hfl:=Jh hl xs;have hcs:c.toList.length=c.size:=Qao;refine⟨B,o,c.toList,rfl,jq8 hB,by rw[hfl,hcs];exact bound,?_⟩;show VRs (frW w) _ _;refine VRs.of_get (by rw[hfl,Qat,QaD,hcs];omega) λi hi=>?_;rw[hfl] at hi;have hj:i % z<z:=Nat.mod_lt _ hz0;have hq:i / z<xs.length:=Nat.div_lt_of_lt_mul (by rw[Nat.mul_comm];exact hi);have hiz:i / z * z+i % z=i:=by rw[Nat.mul_comm];exact Nat.div_add_mod i z
    obtain⟨v,g1,g2⟩:=cell (i / z) hq (i % z) hj;rw[hiz] at g1;have g3:=vH hl hq hj;rw[hiz] at g3;rw[g3];have g4:((c.toList.drop o).take (fl en xs).length).getD i undef=v:=by
     rw[hfl];simp only[Qad,QbC,hi,if_true,QbO,QbJ,g1,QaM]
    rw[g4];exact g2
   ·cases hx;rw[bulkD];have:elems.take len=elems:=by rw[<-hel];exact Qaf
    rw[this] at e2;show(xs.map sz).sum+1<=bulkDs (elems.map (·.1))+bulkDs (rest.map (·.1))+1;omega⟩
theorem Reads.mono {N M:Nat}{α:Type}{t:TypeId}{z:Nat}{en:α->List AV}{sz:α->Nat}(R:Reads H P w N t z en sz)(h:M<=N):Reads H P w M t z en sz:=
 ⟨R.1,R.2.1,λenc base sp held fuel cs d ps hN=>R.2.2 enc base sp held fuel cs d ps om⟩
theorem qI {ι:Inj}{a b:List AV}{cs:List Value}{o z:Nat}(h1:VRs ι a ((cs.drop o).take z))(h2:VRs ι b (cs.drop (o+z))):VRs ι (a ++ b) (cs.drop o):=by
 have:=VRs.append h1 h2;rwa [<-Qbr,Qbp] at this
theorem Zr {ι:Inj}{cs:List Value}{o:Nat}(h:cs.length=o):VRs ι [] (cs.drop o):=by
 rw[List.drop_eq_nil_of_le om];rfl
end
end Go.Sy
end
noncomputable section
set_option maxRecDepth 100000
namespace Go.Sy
open Go.Ev Go.RowKit Go.Proofs
variable {H:Type} {w:World}
theorem ce2:Tryz.prog.cellsOf 2=1:=by kernel_rfl
theorem ce3:Tryz.prog.cellsOf 3=1:=by kernel_rfl
theorem ce9:Tryz.prog.cellsOf 9=1:=by kernel_rfl
theorem jrH:Tryz.prog.cellsOf 22=1:=by kernel_rfl
theorem jrG:Tryz.prog.cellsOf 23=1:=by kernel_rfl
theorem jrF:Tryz.prog.cellsOf 24=1:=by kernel_rfl
theorem jrE:Tryz.prog.cellsOf 26=3:=by kernel_rfl
theorem jgi:Tryz.prog.cellsOf 27=1:=by kernel_rfl
theorem jcX:Tryz.prog.cellsOf 29=6:=by kernel_rfl
theorem jrD:Tryz.prog.cellsOf 112=7:=by kernel_rfl
theorem jrC:Tryz.prog.cellsOf 106=1:=by kernel_rfl
theorem jrB:Tryz.prog.cellsOf 108=4:=by kernel_rfl
theorem jrA:Tryz.prog.cellsOf 114=1:=by kernel_rfl
theorem jrz:Tryz.prog.cellsOf 116=4:=by kernel_rfl
theorem jm7:Tryz.prog.cellsOf 118=1:=by kernel_rfl
theorem jm6:Tryz.prog.cellsOf 120=7:=by kernel_rfl
theorem jm5:Tryz.prog.cellsOf 155=9:=by kernel_rfl
theorem Ge (x:Ex):1<=szE x:=by rw[X7];omega
theorem J3:∀ xs:List Ex,(xs.map szE).sum=yJ xs
 |[]=>rfl
 |x :: xs=>by rw[κ,List.sum_cons,J3 xs];rfl
def szA (a:AsT):Nat:=a.name.length+szE a.to+1
def szR (r:RuleT):Nat:=szE r.when+(r.acts.map szA).sum+1
def szP (p:ProcT):Nat:=p.name.length+(p.rules.map szR).sum+1
def szV (v:List Nat):Nat:=v.length+1
def szN (e:EnumT):Nat:=e.name.length+(e.vals.map szV).sum+1
def szD (d:DeclT):Nat:=d.name.length+d.ty.length+yJ d.begins+1
def szS (m:SrcT):Nat:=(m.enums.map szN).sum+(m.vars.map szD).sum+(m.procs.map szP).sum+1
theorem jaB:∀ N:Nat,Reads H ε w N 29 6 eE szE
 |0=>⟨jcX,zK,λenc base sp held fuel cs d ps hN h=>by
  have:fuel=0:=om
  subst this;simp[DataW.trod] at h⟩
 |N+1=>⟨jcX,zK,λenc base sp held fuel cs d ps hN h=>by
  obtain⟨xs,n,rfl,hx,hl,hlen,hf⟩:=DataW.trod_struct Tryz.underlying29 h;cases hx;rw[jcX] at hl
  match xs,hlen with
  |[y0,y1,y2,y3,y4,y5],_=>
   have h0:DataW.trod enc ε w base sp held n 3 ((cs.drop 0).take (Tryz.prog.cellsOf 3))=some y0:=hf 0 _ rfl;rw[ce3] at h0;obtain⟨x0,v0,c0,s0⟩:=(JL (N:=n) Tryz.underlying3 ce3).2.2 enc base sp held n _ y0.1 y0.2 om h0;have h1:DataW.trod enc ε w base sp held n 2 ((cs.drop 1).take (Tryz.prog.cellsOf 2))=some y1:=hf 1 _ rfl;rw[ce2] at h1;obtain⟨x1,v1,c1,s1⟩:=(JL (N:=n) Tryz.underlying2 ce2).2.2 enc base sp held n _ y1.1 y1.2 om h1;have h2:DataW.trod enc ε w base sp held n 9 ((cs.drop 2).take (Tryz.prog.cellsOf 9))=some y2:=hf 2 _ rfl;rw[ce9] at h2;obtain⟨x2,v2,c2,s2⟩:=(vr (N:=n) Tryz.underlying9 ce9).2.2 enc base sp held n _ y2.1 y2.2 om h2;have h3:DataW.trod enc ε w base sp held n 27 ((cs.drop 3).take (Tryz.prog.cellsOf 27))=some y3:=hf 3 _ rfl;rw[jgi] at h3;obtain⟨x3,v3,c3,s3⟩:=(QJ dc Tryz.underlying27 jgi ((jaB N).mono (M:=N) (τ _)) Ge).2.2 enc base sp held n _ y3.1 y3.2 om h3;have h4:DataW.trod enc ε w base sp held n 3 ((cs.drop 4).take (Tryz.prog.cellsOf 3))=some y4:=hf 4 _ rfl;rw[ce3] at h4;obtain⟨x4,v4,c4,s4⟩:=(JL (N:=n) Tryz.underlying3 ce3).2.2 enc base sp held n _ y4.1 y4.2 om h4;have h5:DataW.trod enc ε w base sp held n 3 ((cs.drop 5).take (Tryz.prog.cellsOf 3))=some y5:=hf 5 _ rfl;rw[ce3] at h5;obtain⟨x5,v5,c5,s5⟩:=(JL (N:=n) Tryz.underlying3 ce3).2.2 enc base sp held n _ y5.1 y5.2 om h5;refine⟨.mk x0.1 x1.1 x2 x3 x4.1 x5.1,?_,?_,?_⟩
   ·rw[qJ];exact qI (z:=1) v0 (qI (z:=1) v1 (qI (z:=1) v2 (qI (z:=1) v3 (qI (z:=1) v4 (qI (z:=1) v5 (Zr (by rw[hl])))))))
   ·rw[qJ];first|rfl|(simp_all [QaX,AV.cell];done)|(simp[AV.cell];done)
   ·simp only[κ,μ,bulkD,bulkDs,X7,Ex.kids,Ex.name];skip
    first|omega|(simp only[J3] at *;omega)⟩
theorem jiA:∀ xs:List (List Nat),fl (λs=>[AV.str s]) xs=xs.map AV.str
 |[]=>rfl
 |x :: xs=>by rw[XT,jiA xs];rfl
theorem jnL (N:Nat):Reads H ε w (N+1) 106 1 (λxs:List (List Nat)=>[.lst xs.length (xs.map AV.str)]) (λxs=>(xs.map szV).sum+1):=by
 have h:Reads H ε w (N+1) 106 1 (λxs:List (List Nat)=>[.lst xs.length (fl (λs=>[AV.str s]) xs)]) (λxs=>(xs.map szV).sum+1):=QJ dc Tryz.underlying106 jrC (vr (N:=N) Tryz.underlying9 ce9) (λx=>QaR _);simpa only[jiA] using h
theorem jnO (N:Nat):Reads H ε w N 108 4 enE szN:=
 ⟨jrB,Qd,λenc base sp held fuel cs d ps hN h=>by
  obtain⟨xs,n,rfl,hx,hl,hlen,hf⟩:=DataW.trod_struct Tryz.underlying108 h;cases hx;rw[jrB] at hl
  match xs,hlen with
  |[y0,y1,y2,y3],_=>
   have h0:DataW.trod enc ε w base sp held n 9 ((cs.drop 0).take (Tryz.prog.cellsOf 9))=some y0:=hf 0 _ rfl;rw[ce9] at h0;obtain⟨x0,v0,c0,s0⟩:=(vr (N:=n) Tryz.underlying9 ce9).2.2 enc base sp held n _ y0.1 y0.2 om h0;have h1:DataW.trod enc ε w base sp held n 106 ((cs.drop 1).take (Tryz.prog.cellsOf 106))=some y1:=hf 1 _ rfl;rw[jrC] at h1;obtain⟨x1,v1,c1,s1⟩:=(jnL N).2.2 enc base sp held n _ y1.1 y1.2 om h1;have h2:DataW.trod enc ε w base sp held n 3 ((cs.drop 2).take (Tryz.prog.cellsOf 3))=some y2:=hf 2 _ rfl;rw[ce3] at h2;obtain⟨x2,v2,c2,s2⟩:=(JL (N:=n) Tryz.underlying3 ce3).2.2 enc base sp held n _ y2.1 y2.2 om h2;have h3:DataW.trod enc ε w base sp held n 3 ((cs.drop 3).take (Tryz.prog.cellsOf 3))=some y3:=hf 3 _ rfl;rw[ce3] at h3;obtain⟨x3,v3,c3,s3⟩:=(JL (N:=n) Tryz.underlying3 ce3).2.2 enc base sp held n _ y3.1 y3.2 om h3;refine⟨⟨x0,x1,x2.1,x3.1⟩,?_,?_,?_⟩
   ·rw[U6];exact qI (z:=1) v0 (qI (z:=1) v1 (qI (z:=1) v2 (qI (z:=1) v3 (Zr (by rw[hl])))))
   ·rw[U6];first|rfl|(simp_all [QaX,AV.cell];done)|(simp[AV.cell];done)
   ·simp only[κ,μ,bulkD,bulkDs,szN];skip
    first|omega|(simp only[J3] at *;omega)⟩
theorem jnP (N:Nat):Reads H ε w N 112 7 qk szD:=
 ⟨jrD,Q1,λenc base sp held fuel cs d ps hN h=>by
  obtain⟨xs,n,rfl,hx,hl,hlen,hf⟩:=DataW.trod_struct Tryz.underlying112 h;cases hx;rw[jrD] at hl
  match xs,hlen with
  |[y0,y1,y2,y3,y4,y5,y6],_=>
   have h0:DataW.trod enc ε w base sp held n 9 ((cs.drop 0).take (Tryz.prog.cellsOf 9))=some y0:=hf 0 _ rfl;rw[ce9] at h0;obtain⟨x0,v0,c0,s0⟩:=(vr (N:=n) Tryz.underlying9 ce9).2.2 enc base sp held n _ y0.1 y0.2 om h0;have h1:DataW.trod enc ε w base sp held n 9 ((cs.drop 1).take (Tryz.prog.cellsOf 9))=some y1:=hf 1 _ rfl;rw[ce9] at h1;obtain⟨x1,v1,c1,s1⟩:=(vr (N:=n) Tryz.underlying9 ce9).2.2 enc base sp held n _ y1.1 y1.2 om h1;have h2:DataW.trod enc ε w base sp held n 2 ((cs.drop 2).take (Tryz.prog.cellsOf 2))=some y2:=hf 2 _ rfl;rw[ce2] at h2;obtain⟨x2,v2,c2,s2⟩:=(JL (N:=n) Tryz.underlying2 ce2).2.2 enc base sp held n _ y2.1 y2.2 om h2;have h3:DataW.trod enc ε w base sp held n 2 ((cs.drop 3).take (Tryz.prog.cellsOf 2))=some y3:=hf 3 _ rfl;rw[ce2] at h3;obtain⟨x3,v3,c3,s3⟩:=(JL (N:=n) Tryz.underlying2 ce2).2.2 enc base sp held n _ y3.1 y3.2 om h3;have h4:DataW.trod enc ε w base sp held n 27 ((cs.drop 4).take (Tryz.prog.cellsOf 27))=some y4:=hf 4 _ rfl;rw[jgi] at h4;obtain⟨x4,v4,c4,s4⟩:=(QJ dc Tryz.underlying27 jgi (jaB N) Ge).2.2 enc base sp held n _ y4.1 y4.2 om h4;have h5:DataW.trod enc ε w base sp held n 3 ((cs.drop 5).take (Tryz.prog.cellsOf 3))=some y5:=hf 5 _ rfl;rw[ce3] at h5;obtain⟨x5,v5,c5,s5⟩:=(JL (N:=n) Tryz.underlying3 ce3).2.2 enc base sp held n _ y5.1 y5.2 om h5;have h6:DataW.trod enc ε w base sp held n 3 ((cs.drop 6).take (Tryz.prog.cellsOf 3))=some y6:=hf 6 _ rfl;rw[ce3] at h6;obtain⟨x6,v6,c6,s6⟩:=(JL (N:=n) Tryz.underlying3 ce3).2.2 enc base sp held n _ y6.1 y6.2 om h6;refine⟨⟨x0,x1,x2.1,x3.1,x4,x5.1,x6.1⟩,?_,?_,?_⟩
   ·rw[w7];exact qI (z:=1) v0 (qI (z:=1) v1 (qI (z:=1) v2 (qI (z:=1) v3 (qI (z:=1) v4 (qI (z:=1) v5 (qI (z:=1) v6 (Zr (by rw[hl]))))))))
   ·rw[w7];first|rfl|(simp_all [QaX,AV.cell];done)|(simp[AV.cell];done)
   ·simp only[κ,μ,bulkD,bulkDs,szD];skip
    first|omega|(simp only[J3] at *;omega)⟩
theorem jsG (N:Nat):Reads H ε w N 155 9 asE szA:=
 ⟨jm5,ZW,λenc base sp held fuel cs d ps hN h=>by
  obtain⟨xs,n,rfl,hx,hl,hlen,hf⟩:=DataW.trod_struct Tryz.underlying155 h;cases hx;rw[jm5] at hl
  match xs,hlen with
  |[y0,y1,y2,y3],_=>
   have h0:DataW.trod enc ε w base sp held n 9 ((cs.drop 0).take (Tryz.prog.cellsOf 9))=some y0:=hf 0 _ rfl;rw[ce9] at h0;obtain⟨x0,v0,c0,s0⟩:=(vr (N:=n) Tryz.underlying9 ce9).2.2 enc base sp held n _ y0.1 y0.2 om h0;have h1:DataW.trod enc ε w base sp held n 29 ((cs.drop 1).take (Tryz.prog.cellsOf 29))=some y1:=hf 1 _ rfl;rw[jcX] at h1;obtain⟨x1,v1,c1,s1⟩:=((jaB N)).2.2 enc base sp held n _ y1.1 y1.2 om h1;have h2:DataW.trod enc ε w base sp held n 3 ((cs.drop 7).take (Tryz.prog.cellsOf 3))=some y2:=hf 2 _ rfl;rw[ce3] at h2;obtain⟨x2,v2,c2,s2⟩:=(JL (N:=n) Tryz.underlying3 ce3).2.2 enc base sp held n _ y2.1 y2.2 om h2;have h3:DataW.trod enc ε w base sp held n 3 ((cs.drop 8).take (Tryz.prog.cellsOf 3))=some y3:=hf 3 _ rfl;rw[ce3] at h3;obtain⟨x3,v3,c3,s3⟩:=(JL (N:=n) Tryz.underlying3 ce3).2.2 enc base sp held n _ y3.1 y3.2 om h3;refine⟨⟨x0,x1,x2.1,x3.1⟩,?_,?_,?_⟩
   ·rw[asE];exact qI (z:=1) v0 (qI (z:=6) v1 (qI (z:=1) v2 (qI (z:=1) v3 (Zr (by rw[hl])))))
   ·rw[asE];first|rfl|(simp_all [QaX,AV.cell];done)|(simp[AV.cell];done)
   ·simp only[κ,μ,bulkD,bulkDs,szA];skip
    first|omega|(simp only[J3] at *;omega)⟩
theorem jnM (N:Nat):Reads H ε w N 120 7 ruE szR:=
 ⟨jm6,wy,λenc base sp held fuel cs d ps hN h=>by
  obtain⟨xs,n,rfl,hx,hl,hlen,hf⟩:=DataW.trod_struct Tryz.underlying120 h;cases hx;rw[jm6] at hl
  match xs,hlen with
  |[y0,y1],_=>
   have h0:DataW.trod enc ε w base sp held n 29 ((cs.drop 0).take (Tryz.prog.cellsOf 29))=some y0:=hf 0 _ rfl;rw[jcX] at h0;obtain⟨x0,v0,c0,s0⟩:=((jaB N)).2.2 enc base sp held n _ y0.1 y0.2 om h0;have h1:DataW.trod enc ε w base sp held n 118 ((cs.drop 6).take (Tryz.prog.cellsOf 118))=some y1:=hf 1 _ rfl;rw[jm7] at h1;obtain⟨x1,v1,c1,s1⟩:=(QJ dc Tryz.underlying118 jm7 (jsG N) (λx=>QaR _)).2.2 enc base sp held n _ y1.1 y1.2 om h1;refine⟨⟨x0,x1⟩,?_,?_,?_⟩
   ·rw[ruE];exact qI (z:=6) v0 (qI (z:=1) v1 (Zr (by rw[hl])))
   ·rw[ruE];first|rfl|(simp_all [QaX,AV.cell];done)|(simp[AV.cell];done)
   ·simp only[κ,μ,bulkD,bulkDs,szR];skip
    first|omega|(simp only[J3] at *;omega)⟩
theorem jnN (N:Nat):Reads H ε w N 116 4 prE szP:=
 ⟨jrz,vY,λenc base sp held fuel cs d ps hN h=>by
  obtain⟨xs,n,rfl,hx,hl,hlen,hf⟩:=DataW.trod_struct Tryz.underlying116 h;cases hx;rw[jrz] at hl
  match xs,hlen with
  |[y0,y1,y2,y3],_=>
   have h0:DataW.trod enc ε w base sp held n 9 ((cs.drop 0).take (Tryz.prog.cellsOf 9))=some y0:=hf 0 _ rfl;rw[ce9] at h0;obtain⟨x0,v0,c0,s0⟩:=(vr (N:=n) Tryz.underlying9 ce9).2.2 enc base sp held n _ y0.1 y0.2 om h0;have h1:DataW.trod enc ε w base sp held n 114 ((cs.drop 1).take (Tryz.prog.cellsOf 114))=some y1:=hf 1 _ rfl;rw[jrA] at h1;obtain⟨x1,v1,c1,s1⟩:=(QJ dc Tryz.underlying114 jrA (jnM N) (λx=>QaR _)).2.2 enc base sp held n _ y1.1 y1.2 om h1;have h2:DataW.trod enc ε w base sp held n 3 ((cs.drop 2).take (Tryz.prog.cellsOf 3))=some y2:=hf 2 _ rfl;rw[ce3] at h2;obtain⟨x2,v2,c2,s2⟩:=(JL (N:=n) Tryz.underlying3 ce3).2.2 enc base sp held n _ y2.1 y2.2 om h2;have h3:DataW.trod enc ε w base sp held n 3 ((cs.drop 3).take (Tryz.prog.cellsOf 3))=some y3:=hf 3 _ rfl;rw[ce3] at h3;obtain⟨x3,v3,c3,s3⟩:=(JL (N:=n) Tryz.underlying3 ce3).2.2 enc base sp held n _ y3.1 y3.2 om h3;refine⟨⟨x0,x1,x2.1,x3.1⟩,?_,?_,?_⟩
   ·rw[UJ];exact qI (z:=1) v0 (qI (z:=1) v1 (qI (z:=1) v2 (qI (z:=1) v3 (Zr (by rw[hl])))))
   ·rw[UJ];first|rfl|(simp_all [QaX,AV.cell];done)|(simp[AV.cell];done)
   ·simp only[κ,μ,bulkD,bulkDs,szP];skip
    first|omega|(simp only[J3] at *;omega)⟩
theorem rd_src (N:Nat):Reads H ε w N 26 3 srE szS:=
 ⟨jrE,wu,λenc base sp held fuel cs d ps hN h=>by
  obtain⟨xs,n,rfl,hx,hl,hlen,hf⟩:=DataW.trod_struct Tryz.underlying26 h;cases hx;rw[jrE] at hl
  match xs,hlen with
  |[y0,y1,y2],_=>
   have h0:DataW.trod enc ε w base sp held n 22 ((cs.drop 0).take (Tryz.prog.cellsOf 22))=some y0:=hf 0 _ rfl;rw[jrH] at h0;obtain⟨x0,v0,c0,s0⟩:=(QJ dc Tryz.underlying22 jrH (jnO N) (λx=>QaR _)).2.2 enc base sp held n _ y0.1 y0.2 om h0;have h1:DataW.trod enc ε w base sp held n 23 ((cs.drop 1).take (Tryz.prog.cellsOf 23))=some y1:=hf 1 _ rfl;rw[jrG] at h1;obtain⟨x1,v1,c1,s1⟩:=(QJ dc Tryz.underlying23 jrG (jnP N) (λx=>QaR _)).2.2 enc base sp held n _ y1.1 y1.2 om h1;have h2:DataW.trod enc ε w base sp held n 24 ((cs.drop 2).take (Tryz.prog.cellsOf 24))=some y2:=hf 2 _ rfl;rw[jrF] at h2;obtain⟨x2,v2,c2,s2⟩:=(QJ dc Tryz.underlying24 jrF (jnN N) (λx=>QaR _)).2.2 enc base sp held n _ y2.1 y2.2 om h2;refine⟨⟨x0,x1,x2⟩,?_,?_,?_⟩
   ·rw[Uz];exact qI (z:=1) v0 (qI (z:=1) v1 (qI (z:=1) v2 (Zr (by rw[hl]))))
   ·rw[Uz];first|rfl|(simp_all [QaX,AV.cell];done)|(simp[AV.cell];done)
   ·simp only[κ,μ,bulkD,bulkDs,szS];skip
    first|omega|(simp only[J3] at *;omega)⟩
end Go.Sy
end
noncomputable section
namespace Go.Sy
open Go.Ev Go.RowKit
theorem Gv {v:AV}{h:T AO}(hv:pa v=true):lend h v=some v:=by
 have key:∀ v:AV,pa v=true->(fz 9 h v).map (·.1)=some v:=λv hv=>by rw[jaZ (d:=7) hv];rfl
 cases v<;>first|exact key _ hv|(cases hv;done)|skip
 case fn f caps=>
  cases caps with
  |nil=>rfl
  |cons c l=>cases hv
theorem zJ {h:T AO}:QN h []=some []:=rfl
theorem qK {h:T AO}{v u:AV}{l r:List AV}(h1:lend h v=some u)(h2:QN h l=some r):QN h (v :: l)=some (u :: r):=by
 simp only[QN,h1,h2]
theorem zU {h:T AO}{v:AV}{l r:List AV}(h1:pa v=true)(h2:QN h l=some r):QN h (v :: l)=some (v :: r):=qK (Gv h1) h2
theorem Hz {h:T AO}:∀ {l:List AV},l.all Go.Sy.pa=true->QN h l=some l
 |[],_=>rfl
 |v :: l,hp=>by
  simp only[QaF,Qaa] at hp;exact zU hp.1 (Hz hp.2)
theorem jeo {s:St}{d b n m z:Nat}{x:Bool}{cs:List AV}(C:Cl s b cs)(hl:n * z=cs.length)(hp:cs.all pc=true):fz (d+2) s.h (.slice b 0 n m z x)=some (.lst n cs,[b]):=jcz (k:=0) C hl hp
theorem WQ {s:St}{b n m z:Nat}{x:Bool}{cs:List AV}(C:Cl s b cs)(hl:n * z=cs.length)(hp:cs.all pc=true):lend s.h (.slice b 0 n m z x)=some (.lst n cs):=by
 show(fz 9 s.h _).map (·.1)=_;rw[jeo (d:=7) C hl hp];rfl
def Lr (s:St)(v:AV)(n:Nat)(cs:List AV):Prop:=v=.lst n cs\/(v=.nils/\n=0/\cs=[])\/∃ b m z x,v=.slice b 0 n m z x/\n * z=cs.length/\Cl s b cs
theorem Lv.lr {lo hi n z:Nat}{s:St}{v:AV}{cs:List AV}(h:Lv lo hi s v n cs z):Lr s v n cs:=by
 rcases h with ⟨rfl,rfl,rfl⟩|⟨b,rfl,h2,h3,h4,h5,h6⟩
 ·exact .inr (.inl ⟨rfl,rfl,rfl⟩)
 ·exact .inr (.inr ⟨b,n,z,false,rfl,h3.symm,h4⟩)
theorem Lr.fz {s:St}{v:AV}{n:Nat}{cs:List AV}{d:Nat}(h:Lr s v n cs)(hp:cs.all pc=true):∃ ks,fz (d+2) s.h v=some (.lst n cs,ks):=by
 rcases h with rfl|⟨rfl,rfl,rfl⟩|⟨b,m,z,x,rfl,h1,h2⟩
 ·exact⟨[],rfl⟩
 ·exact⟨[],rfl⟩
 ·exact⟨[b],jeo h2 h1 hp⟩
theorem Lr.lend {s:St}{v:AV}{n:Nat}{cs:List AV}(h:Lr s v n cs)(hp:cs.all pc=true):lend s.h v=some (.lst n cs):=by
 have key:(Go.Ev.fz 9 s.h v).map (·.1)=some (.lst n cs):=by
  obtain⟨ks,e⟩:=h.fz (d:=7) hp;rw[e];rfl
 rcases h with rfl|⟨rfl,rfl,rfl⟩|⟨b,m,z,x,rfl,h1,h2⟩<;>exact key
theorem jh8 {s:St}{l r:List AV}(h:∃ ks,fzs (fz 8 s.h) l=some (r,ks)):lend s.h (.agg l)=some (.agg r):=by
 obtain⟨ks,e⟩:=h;show(fz 9 s.h (.agg l)).map (·.1)=_;show((fzs (fz 8 s.h) l).map λp=>(AV.agg p.1,p.2)).map (·.1)=_;rw[e];rfl
theorem jfO {f:AV->Option (AV×List Nat)}{v u:AV}{l r:List AV}(h1:∃ ks,f v=some (u,ks))(h2:∃ ks,fzs f l=some (r,ks)):∃ ks,fzs f (v :: l)=some (u :: r,ks):=by
 obtain⟨k1,e1⟩:=h1;obtain⟨k2,e2⟩:=h2;exact⟨k1 ++ k2,by simp only[fzs,e1,e2]⟩
theorem jsP {f:AV->Option (AV×List Nat)}:∃ ks,fzs f []=some ([],ks):=⟨[],rfl⟩
theorem vC {s:St}{b o:Nat}{cs r:List AV}(C:Cl s b cs)(h:Ys (fz 9 s.h) cs=r):lend s.h (.ptr b o)=some (.lptr r o):=by
 obtain⟨n,zl,z,ct,hrow,hn,hcs⟩:=C.rw_.len;show ZS s.h (.ptr b o)=_;unfold ZS;dsimp only;rw[hrow];dsimp only;rw[hn,h]
theorem Qq {f:AV->Option (AV×List Nat)}{v u:AV}{l r:List AV}(h1:∃ ks,f v=some (u,ks))(hc:u.cell=true)(h2:Ys f l=r):Ys f (v :: l)=u :: r:=by
 obtain⟨ks,e⟩:=h1;simp only[Ys,e,hc,cond_true,h2]
theorem GA {f:AV->Option (AV×List Nat)}:Ys f []=[]:=rfl
theorem WV {h:T AO}{v:AV}(d:Nat)(hv:pc v=true):∃ ks,fz (d+1) h v=some (v,ks):=⟨[],jaY hv d _⟩
section
variable {P:Program} {base:Bs}
theorem PL.xb {f:FuncId}{aZ aZ':List AV}{o:Oc}(h:PL P base f aZ o){st:St}(hf:QN st.h aZ'=some aZ)(hb:∀ st,base.run f aZ' st=.no)(K Kp:AV->St->Prop):XB P base f aZ' st K Kp=YC o K Kp st:=h.cx hf hb K Kp
theorem PL.pa {f:FuncId}{aZ:List AV}{o:Oc}(h:PL P base f aZ o)(hp:aZ.all Go.Sy.pa=true)(hb:∀ st,base.run f aZ st=.no)(st:St)(K Kp:AV->St->Prop):XB P base f aZ st K Kp=YC o K Kp st:=by
 exact h.xb (Hz hp) hb K Kp
theorem zg {f:FuncId}{F:XF}(hl:jx P f=some F)(hnd:F.body.nd=true)(hm:base.pur f=5){aZ:List AV}{o:Oc}(ho:o.flat=true)
  (h:xC P base F.body (jt F.ps aZ) st0 (Xp P F.res (XU G0 o)) λv _ s=>XJ G0 o v s.bare):PL P base f aZ o:=
 PL.of hm ho (YF hl hnd h)
def jqZ (r:ER):ER:=match r with
 |.ok v s=>(match fz 9 s.h v with|some (v',ks)=>.ok v' (kills ks s)|none=>.no)
 |r=>r
theorem BX.ice {f:FuncId}{args:List AV}{st:St}{K Kp:AV->St->Prop}(hm:base.pur f=2)(hb:base.run f args st=.no)(h:BX P base f args st (λv s=>∃ u ks,fz 9 s.h v=some (u,ks)/\K u (kills ks s)) Kp):CX P base f args st K Kp:=by
 obtain⟨r,⟨N,D,h1⟩,h2⟩:=h;have e:∀ n,N<=n->∀ d,D+1<=d->evC P base n d f args st=jqZ r:=λn hn d hd=>by
  obtain⟨d',rfl⟩:∃ d',d=d'+1:=⟨d - 1,om⟩;have h3:=h1 n hn d' om;simp only[evC,hb,hm,v8,jfM,h3];rfl
 refine⟨_,⟨N,D+1,e⟩,?_⟩;cases r with
 |no=>exact h2.elim
 |pn v s=>exact h2
 |ok v s=>
  obtain⟨u,ks,e1,e2⟩:=(h2:∃ u ks,fz 9 s.h v=some (u,ks)/\K u (kills ks s));unfold jqZ;dsimp only;rw[e1];exact e2
theorem WU {f:FuncId}{F:XF}(hl:jx P f=some F)(hnd:F.body.nd=true){args:List AV}{st:St}(hm:base.pur f=2)(hb:base.run f args st=.no){K Kp:AV->St->Prop}
  (h:xC P base F.body (jt F.ps args) st.bare (Xp P F.res λv s=>∃ u ks,fz 9 s.h v=some (u,ks)/\K u (back st (kills ks s))) λv _ s=>Kp v (bk st s)):XB P base f args st K Kp:=
 XB.of (BX.ice hm hb (YF hl hnd h))
end
structure Keep (p:Nat)(s s':St):Prop where
 nx:s.nx<=s'.nx
 fr:s'.fr=s.fr
 get:∀ b,b<s.nx->b≠p->jy s'.h b=jy s.h b
section
variable {p b:Nat} {s s' t:St} {cs:List AV}
theorem Keep.refl:Keep p s s:=⟨τ _,rfl,λ_ _ _=>rfl⟩
theorem Keep.trans (h:Keep p s t)(k:Keep p t s'):Keep p s s':=⟨Qab h.nx k.nx,k.fr.trans h.fr,λb hb hp=>(k.get b (Qax hb h.nx) hp).trans (h.get b hb hp)⟩
theorem Keep.nw (h:Keep p s t)(ds:List AV):Keep p s (nw t ds):=⟨Qcn h.nx,h.fr,λb hb hp=>(JF (by have:=h.nx;omega)).trans (h.get b hb hp)⟩
theorem Keep.wr (h:Keep p s t){c:Nat}(hc:c=p\/s.nx<=c)(o:Nat)(vs:List AV):Keep p s (wr t c o vs):=⟨h.nx,h.fr,λb hb hp=>(Jo om).trans (h.get b hb hp)⟩
theorem Keep.kl (h:Keep p s t){c:Nat}(hc:s.nx<=c):Keep p s (kl c t):=⟨h.nx,h.fr,λb hb hp=>(vF om).trans (h.get b hb hp)⟩
theorem Keep.kills (h:Keep p s t){ks:List Nat}(hc:∀ c∈ks,s.nx<=c):Keep p s (kills ks t):=⟨h.nx,h.fr,λb hb hp=>by
 show jy (ks.foldr _ t.h) b=_;rw[YN,if_neg (λhm=>by have:=hc b hm;omega)];exact h.get b hb hp⟩
theorem Keep.aps {lo hi n z:Nat}{v:AV}{ds:List AV}{u:St}(h:Keep p s t)(V:Lv lo hi u v n ds z)(hlo:s.nx<=lo)(news:List AV):Keep p s (aps v t news):=⟨by rw[jr];exact Qcn h.nx,by rw[Zc];exact h.fr,λb hb hp=>(V.get t news b om (by have:=h.nx;omega)).trans (h.get b hb hp)⟩
theorem Keep.cl (h:Keep p s t)(C:Cl s b cs)(hb:b≠p):Cl t b cs:=C.keep h.nx (h.get b C.lt hb)
theorem Keep.lv {lo hi n z:Nat}{v:AV}(h:Keep p s t)(V:Lv lo hi s v n cs z)(hb:p<lo\/hi<=p):Lv lo hi t v n cs z:=V.imp id λ⟨c,h1,h2,h3,h4,h5,h6⟩=>⟨c,h1,h2,h3,h.cl h4 om,h5,h6⟩
theorem Keep.lr {v:AV}{n:Nat}(h:Keep p s t)(V:Lr s v n cs)(hb:∀ b m z x,v=.slice b 0 n m z x->b≠p):Lr t v n cs:=by
 rcases V with e|e|⟨b,m,z,x,e,h1,h2⟩
 ·exact .inl e
 ·exact .inr (.inl e)
 ·exact .inr (.inr ⟨b,m,z,x,e,h1,h.cl h2 (hb b m z x e)⟩)
theorem Keep.back (h:Keep p s t):Keep p s (back s t):=⟨h.nx,rfl,h.get⟩
theorem Keep.bare (h:Keep p s.bare t)(u:St):Keep p s (Go.Ev.back s t):=⟨h.nx,rfl,h.get⟩
end
end Go.Sy
end
noncomputable section
set_option maxRecDepth 100000
namespace Go.Sy
open Go.Ev Go.Proofs
variable {base:Bs}
structure VarT where
 name:List Nat
 kind:Int
 enum:List Nat
 lo:Int
 hi:Int
 beg:Bool
 first:Int
def vaE (v:VarT):List AV:=[.str v.name,.int .i64 v.kind,.str v.enum,.int .i64 v.lo,.int .i64 v.hi,.bool v.beg,.int .i64 v.first]
structure SetT where
 var:Int
 to:Ex
def seE (s:SetT):List AV:=.int .i64 s.var :: eE s.to
structure MoveT where
 when:Ex
 acts:List SetT
def moE (m:MoveT):List AV:=eE m.when ++ [.lst m.acts.length (fl seE m.acts)]
structure ModT where
 vars:List VarT
 enums:List EnumT
 moves:List MoveT
def mdE (m:ModT):List AV:=[.lst m.vars.length (fl vaE m.vars),.lst m.enums.length (fl enE m.enums),.lst m.moves.length (fl moE m.moves)]
structure MtT where
 kind:Int
 enum:List Nat
 lo:Int
 hi:Int
def mtE (m:MtT):List AV:=[.int .i64 m.kind,.str m.enum,.int .i64 m.lo,.int .i64 m.hi]
theorem Wo (v:VarT):vaE v=[.str v.name,.int .i64 v.kind,.str v.enum,.int .i64 v.lo,.int .i64 v.hi,.bool v.beg,.int .i64 v.first]:=rfl
theorem Xv (v:VarT):(vaE v).length=7:=nr (by rw[Wo];rfl)
theorem jak (v:VarT)(k:Nat):(vaE v).getD k .bad=([.str v.name,.int .i64 v.kind,.str v.enum,.int .i64 v.lo,.int .i64 v.hi,.bool v.beg,.int .i64 v.first]:List AV).getD k .bad:=nr (by rw[Wo])
theorem jl3 (v:VarT)(k:Nat):(vaE v).drop k=([.str v.name,.int .i64 v.kind,.str v.enum,.int .i64 v.lo,.int .i64 v.hi,.bool v.beg,.int .i64 v.first]:List AV).drop k:=nr (by rw[Wo])
theorem jal (v:VarT):lall AV.cell (vaE v)=true:=nr (by rw[Wo];rfl)
theorem YW (v:VarT):(vaE v).all pc=true:=nr (by rw[Wo];rfl)
theorem jl2 {st:St}{K:AV->St->Prop}{xs:List VarT}{i:Nat}(h:i<xs.length):jp (zr 7 (.lptr (fl vaE xs) (i * 7)) st) K=K (.agg (vaE xs[i])) st:=J9 Xv h
theorem jgK {st:St}{K:AV->St->Prop}{xs:List VarT}{i:Nat}(h:i<xs.length){k:Nat}(hk:k<7):jp (q9 (.lptr (fl vaE xs) (i * 7+k)) st) K=K ((vaE xs[i]).getD k .bad) st:=ye Xv h hk
theorem jgL {st:St}{K:AV->St->Prop}{xs:List VarT}{i:Nat}(h:i<xs.length):jp (q9 (.lptr (fl vaE xs) (i * 7)) st) K=K ((vaE xs[i]).getD 0 .bad) st:=ye (k:=0) Xv h dc
theorem jj:type_of% (aI @Xv (aI @jak (aI @jl3 (aI @jal (aI @jl2 (aI @jgL @jgK)))))):=aI @Xv (aI @jak (aI @jl3 (aI @jal (aI @jl2 (aI @jgL @jgK)))))
theorem Yg:type_of% (aI @Xv (aI @jal @jak)):=aI @Xv (aI @jal @jak)
theorem Kz (s:SetT):seE s=[.int .i64 s.var,.int .i64 s.to.op,.int .i64 s.to.num,.str s.to.name,.lst s.to.kids.length (fl eE s.to.kids),.int .i64 s.to.line,.int .i64 s.to.col]:=(by unfold seE;rw[qJ])
theorem Qb (s:SetT):(seE s).length=7:=nr (by rw[Kz];rfl)
theorem jaw (s:SetT)(k:Nat):(seE s).getD k .bad=([.int .i64 s.var,.int .i64 s.to.op,.int .i64 s.to.num,.str s.to.name,.lst s.to.kids.length (fl eE s.to.kids),.int .i64 s.to.line,.int .i64 s.to.col]:List AV).getD k .bad:=nr (by rw[Kz])
theorem jms (s:SetT)(k:Nat):(seE s).drop k=([.int .i64 s.var,.int .i64 s.to.op,.int .i64 s.to.num,.str s.to.name,.lst s.to.kids.length (fl eE s.to.kids),.int .i64 s.to.line,.int .i64 s.to.col]:List AV).drop k:=nr (by rw[Kz])
theorem jax (s:SetT):lall AV.cell (seE s)=true:=nr (by rw[Kz];rfl)
theorem ww (s:SetT):(seE s).all pc=true:=nr (by rw[Kz];rfl)
theorem jmr {st:St}{K:AV->St->Prop}{xs:List SetT}{i:Nat}(h:i<xs.length):jp (zr 7 (.lptr (fl seE xs) (i * 7)) st) K=K (.agg (seE xs[i])) st:=J9 Qb h
theorem jhs {st:St}{K:AV->St->Prop}{xs:List SetT}{i:Nat}(h:i<xs.length){k:Nat}(hk:k<7):jp (q9 (.lptr (fl seE xs) (i * 7+k)) st) K=K ((seE xs[i]).getD k .bad) st:=ye Qb h hk
theorem jht {st:St}{K:AV->St->Prop}{xs:List SetT}{i:Nat}(h:i<xs.length):jp (q9 (.lptr (fl seE xs) (i * 7)) st) K=K ((seE xs[i]).getD 0 .bad) st:=ye (k:=0) Qb h dc
theorem jk:type_of% (aI @Qb (aI @jaw (aI @jms (aI @jax (aI @jmr (aI @jht @jhs)))))):=aI @Qb (aI @jaw (aI @jms (aI @jax (aI @jmr (aI @jht @jhs)))))
theorem Yi:type_of% (aI @Qb (aI @jax @jaw)):=aI @Qb (aI @jax @jaw)
theorem K3 (m:MoveT):moE m=[.int .i64 m.when.op,.int .i64 m.when.num,.str m.when.name,.lst m.when.kids.length (fl eE m.when.kids),.int .i64 m.when.line,.int .i64 m.when.col,.lst m.acts.length (fl seE m.acts)]:=(by unfold moE;rw[qJ];rfl)
theorem wB (m:MoveT):(moE m).length=7:=nr (by rw[K3];rfl)
theorem jaM (m:MoveT)(k:Nat):(moE m).getD k .bad=([.int .i64 m.when.op,.int .i64 m.when.num,.str m.when.name,.lst m.when.kids.length (fl eE m.when.kids),.int .i64 m.when.line,.int .i64 m.when.col,.lst m.acts.length (fl seE m.acts)]:List AV).getD k .bad:=nr (by rw[K3])
theorem jmE (m:MoveT)(k:Nat):(moE m).drop k=([.int .i64 m.when.op,.int .i64 m.when.num,.str m.when.name,.lst m.when.kids.length (fl eE m.when.kids),.int .i64 m.when.line,.int .i64 m.when.col,.lst m.acts.length (fl seE m.acts)]:List AV).drop k:=nr (by rw[K3])
theorem jaN (m:MoveT):lall AV.cell (moE m)=true:=nr (by rw[K3];rfl)
theorem Za (m:MoveT):(moE m).all pc=true:=nr (by rw[K3];rfl)
theorem jmD {st:St}{K:AV->St->Prop}{xs:List MoveT}{i:Nat}(h:i<xs.length):jp (zr 7 (.lptr (fl moE xs) (i * 7)) st) K=K (.agg (moE xs[i])) st:=J9 wB h
theorem jhW {st:St}{K:AV->St->Prop}{xs:List MoveT}{i:Nat}(h:i<xs.length){k:Nat}(hk:k<7):jp (q9 (.lptr (fl moE xs) (i * 7+k)) st) K=K ((moE xs[i]).getD k .bad) st:=ye wB h hk
theorem jhX {st:St}{K:AV->St->Prop}{xs:List MoveT}{i:Nat}(h:i<xs.length):jp (q9 (.lptr (fl moE xs) (i * 7)) st) K=K ((moE xs[i]).getD 0 .bad) st:=ye (k:=0) wB h dc
theorem jm:type_of% (aI @wB (aI @jaM (aI @jmE (aI @jaN (aI @jmD (aI @jhX @jhW)))))):=aI @wB (aI @jaM (aI @jmE (aI @jaN (aI @jmD (aI @jhX @jhW)))))
theorem Yn:type_of% (aI @wB (aI @jaN @jaM)):=aI @wB (aI @jaN @jaM)
theorem UO (m:ModT):mdE m=[.lst m.vars.length (fl vaE m.vars),.lst m.enums.length (fl enE m.enums),.lst m.moves.length (fl moE m.moves)]:=rfl
theorem WK (m:ModT):(mdE m).length=3:=nr (by rw[UO];rfl)
theorem jaP (m:ModT)(k:Nat):(mdE m).getD k .bad=([.lst m.vars.length (fl vaE m.vars),.lst m.enums.length (fl enE m.enums),.lst m.moves.length (fl moE m.moves)]:List AV).getD k .bad:=nr (by rw[UO])
theorem jmI (m:ModT)(k:Nat):(mdE m).drop k=([.lst m.vars.length (fl vaE m.vars),.lst m.enums.length (fl enE m.enums),.lst m.moves.length (fl moE m.moves)]:List AV).drop k:=nr (by rw[UO])
theorem jaQ (m:ModT):lall AV.cell (mdE m)=true:=nr (by rw[UO];rfl)
theorem zC (m:ModT):(mdE m).all pc=true:=nr (by rw[UO];rfl)
theorem jmH (m:ModT):(mdE m).all eqs=true:=nr (by rw[UO];rfl)
theorem jmG {st:St}{K:AV->St->Prop}{xs:List ModT}{i:Nat}(h:i<xs.length):jp (zr 3 (.lptr (fl mdE xs) (i * 3)) st) K=K (.agg (mdE xs[i])) st:=J9 WK h
theorem jhZ {st:St}{K:AV->St->Prop}{xs:List ModT}{i:Nat}(h:i<xs.length){k:Nat}(hk:k<3):jp (q9 (.lptr (fl mdE xs) (i * 3+k)) st) K=K ((mdE xs[i]).getD k .bad) st:=ye WK h hk
theorem jh0 {st:St}{K:AV->St->Prop}{xs:List ModT}{i:Nat}(h:i<xs.length):jp (q9 (.lptr (fl mdE xs) (i * 3)) st) K=K ((mdE xs[i]).getD 0 .bad) st:=ye (k:=0) WK h dc
theorem jn:type_of% (aI @WK (aI @jaP (aI @jmI (aI @jaQ (aI @jmG (aI @jh0 @jhZ)))))):=aI @WK (aI @jaP (aI @jmI (aI @jaQ (aI @jmG (aI @jh0 @jhZ)))))
theorem Yo:type_of% (aI @WK (aI @jaQ @jaP)):=aI @WK (aI @jaQ @jaP)
theorem K2 (m:MtT):mtE m=[.int .i64 m.kind,.str m.enum,.int .i64 m.lo,.int .i64 m.hi]:=rfl
theorem Yl (m:MtT):(mtE m).length=4:=nr (by rw[K2];rfl)
theorem UM (m:MtT)(k:Nat):(mtE m).getD k .bad=([.int .i64 m.kind,.str m.enum,.int .i64 m.lo,.int .i64 m.hi]:List AV).getD k .bad:=nr (by rw[K2])
theorem jmC (m:MtT)(k:Nat):(mtE m).drop k=([.int .i64 m.kind,.str m.enum,.int .i64 m.lo,.int .i64 m.hi]:List AV).drop k:=nr (by rw[K2])
theorem jaL (m:MtT):lall AV.cell (mtE m)=true:=nr (by rw[K2];rfl)
theorem ZR (m:MtT):(mtE m).all pc=true:=nr (by rw[K2];rfl)
theorem jaK {st:St}{K:AV->St->Prop}{xs:List MtT}{i:Nat}(h:i<xs.length):jp (zr 4 (.lptr (fl mtE xs) (i * 4)) st) K=K (.agg (mtE xs[i])) st:=J9 Yl h
theorem jhU {st:St}{K:AV->St->Prop}{xs:List MtT}{i:Nat}(h:i<xs.length){k:Nat}(hk:k<4):jp (q9 (.lptr (fl mtE xs) (i * 4+k)) st) K=K ((mtE xs[i]).getD k .bad) st:=ye Yl h hk
theorem jhV {st:St}{K:AV->St->Prop}{xs:List MtT}{i:Nat}(h:i<xs.length):jp (q9 (.lptr (fl mtE xs) (i * 4)) st) K=K ((mtE xs[i]).getD 0 .bad) st:=ye (k:=0) Yl h dc
theorem jl:type_of% (aI @Yl (aI @UM (aI @jmC (aI @jaL (aI @jaK (aI @jhV @jhU)))))):=aI @Yl (aI @UM (aI @jmC (aI @jaL (aI @jaK (aI @jhV @jhU)))))
theorem Ym:type_of% (aI @Yl (aI @jaL @UM)):=aI @Yl (aI @jaL @UM)
theorem dzG {p:Prop}(h:p:=by first|assumption|decide|omega|(simp only[qS,zq,zm,zp,yc,zn,zk,Yg,Yi,Yn,Yo,Ym,rzN,υ,ω];first|done|omega)|(apply Qf<;>first|omega|((simp(disch:=first|assumption|omega|(simp only[qS,zq,zm,zp,yc,zn,zk,Yg,Yi,Yn,Yo,Ym,rzN,υ,ω];first|done|omega)) only[rzL,υ,ω,Qak,γ,qS,zq,zm,zp,yc,zn,zk,Yg,Yi,Yn,Yo,Ym ])<;>first|done|omega))|(simp(disch:=first|assumption|omega|(simp only[qS,zq,zm,zp,yc,zn,zk,Yg,Yi,Yn,Yo,Ym,rzN,υ,ω];first|done|omega)) only[qS,zq,zm,zp,yc,zn,zk,Yg,Yi,Yn,Yo,Ym,rzG,ν,ξ,δ,QaL,υ,ω,Qag,Qal];first|done|omega|decide)):p:=h
theorem cyG {p:Prop}(h:p:=by apply Qf<;>first|omega|((simp(disch:=first|assumption|omega|(simp only[qS,zq,zm,zp,yc,zn,zk,Yg,Yi,Yn,Yo,Ym,rzN,υ,ω];first|done|omega)) only[rzL,υ,ω,Qak,γ,qS,zq,zm,zp,yc,zn,zk,Yg,Yi,Yn,Yo,Ym])<;>first|done|rfl|omega|(simp;done)|(simp;omega))):p:=h
theorem jY {p:Prop}(h:p:=by first|assumption|decide|omega|(simp only[qS,zq,zm,zp,yc,zn,zk,Yg,Yi,Yn,Yo,Ym,zz,rzN,υ,ω];first|done|omega)|(apply Qf<;>first|omega|((simp(disch:=first|assumption|omega|(simp only[qS,zq,zm,zp,yc,zn,zk,Yg,Yi,Yn,Yo,Ym,zz,rzN,υ,ω];first|done|omega)) only[rzL,υ,ω,Qak,γ,qS,zq,zm,zp,yc,zn,zk,Yg,Yi,Yn,Yo,Ym,zz ])<;>first|done|omega))|(simp(disch:=first|assumption|omega|(simp only[qS,zq,zm,zp,yc,zn,zk,Yg,Yi,Yn,Yo,Ym,zz,rzN,υ,ω];first|done|omega)) only[qS,zq,zm,zp,yc,zn,zk,Yg,Yi,Yn,Yo,Ym,zz,rzG,ν,ξ,δ,QaL,υ,ω,Qag,Qal];first|done|omega|decide)):p:=h
def kf (c l k:Int):AV:=.iface 45 (.agg [.int .i64 c,.int .i64 l,.int .i64 k])
theorem r8:type_of%(aI @je (aI @jh (aI @jg (aI @jd (aI @jj (aI @jk (aI @jm (aI @jn (aI @jl @rzZ))))))))):=aI @je (aI @jh (aI @jg (aI @jd (aI @jj (aI @jk (aI @jm (aI @jn (aI @jl @rzZ))))))))
theorem zZ (hb:NB base)(c l k:Int):Ret base 94 [.int .i64 c,.int .i64 l,.int .i64 k] (.pn (kf c l k)):=by
 refine hb.ret ?_ rfl rfl;refine jE x98 (by rfl) (hb.pur 94 1 dc) ?_;simp only[y98,jt,κ,μ,ν,ξ];rw[(by unfold z98;simp only[qq];rfl:z98=_)];repeat'(first|apply jc<;>intro _|simp(disch:=first|exact dzG|fail) only[r8,γ,δ,ζ,η,θ])
 exact FzD.iface (FzD.agg (.pc rfl))
theorem jnp (hb:NB base)(v:VarT)(s:List Nat):Tot base 126 [.agg (vaE v),.lptr [.str s] 0] (.bool (decide (v.name=s))):=by
 refine hb.tot ?_ (by first|rfl|simp[pa,pc,qZ,Xb,J1,JG,YW,ww,Za,zC,ZR]) rfl;refine jE jtK (by rfl) (hb.pur 126 1 dc) ?_;simp only[jpp,jt,κ,μ,ν,ξ];rw[(by unfold jj0;simp only[qq];rfl:jj0=_)];repeat'(first|apply jc<;>intro _|simp(disch:=first|exact dzG|fail) only[Jd,r8,γ,δ,ζ,η,θ])
 exact G0.v rfl rfl
theorem jlu (hb:NB base)(e:EnumT)(d:DeclT):Tot base 93 [.agg (enE e),.lptr (qk d) 0] (.bool (decide (e.name=d.ty))):=by
 refine hb.tot ?_ (by first|rfl|simp[pa,pc,qZ,Xb,J1,JG,YW,ww,Za,zC,ZR]) rfl;refine jE jt9 (by rfl) (hb.pur 93 1 dc) ?_;simp only[jpO,jt,κ,μ,ν,ξ];rw[(by unfold jkp;simp only[qq];rfl:jkp=_)];repeat'(first|apply jc<;>intro _|simp(disch:=first|exact dzG|fail) only[Jd,r8,γ,δ,ζ,η,θ])
 exact G0.v rfl rfl
theorem jrP (hb:NB base)(b a:AsT):Tot base 99 [.agg (asE b),.lptr (asE a) 0] (.bool (decide (b.name=a.name))):=by
 refine hb.tot ?_ (by first|rfl|simp[pa,pc,qZ,Xb,J1,JG,YW,ww,Za,zC,ZR]) rfl;refine jE jt4 (by rfl) (hb.pur 99 1 dc) ?_;simp only[jpJ,jt,κ,μ,ν,ξ];rw[(by unfold jkk;simp only[qq];rfl:jkk=_)];repeat'(first|apply jc<;>intro _|simp(disch:=first|exact dzG|fail) only[Jd,r8,γ,δ,ζ,η,θ])
 exact G0.v rfl rfl
theorem jiB (hb:NB base)(xs:List VarT)(hl:xs.length<=BIG)(nm:List Nat):PL ε base 125 [.lst xs.length (fl vaE xs),.fn 126 [.lptr [.str nm] 0]] (.ok (.int .i64 (fi (λx=>decide (x.name=nm)) xs))):=by
 refine zg jtL (by rfl) (hb.pur 125 5 dc) rfl ?_;simp only[jpq,jt,κ,μ,ν,ξ];rw[(by unfold jj1;simp only[qq];rfl:jj1=_)];unfold BIG at hl;repeat'(first|apply jc<;>intro _|simp(disch:=first|exact dzG|fail) only[r8,γ,δ,ζ,η,θ])
 refine jZ xs.length (λk L s=>(∀ j (hj:j<xs.length),j<k->(λx=>decide (x.name=nm)) xs[j]=false)/\Has L 0 (.lst xs.length (fl vaE xs))/\Has L 1 (.fn 126 [.lptr [.str nm] 0])) (by first|assumption|omega) dc (by simp(disch:=decide) only[jf,jb]) (by simp(disch:=decide) only[jf,jb]) ?_ (λk L s v h=>by simp(disch:=decide) only[jb];exact h) (λk L s v h=>by simp(disch:=decide) only[jb];exact h) (λk L s hk hI hi hn=>?_) (λL s hI=>?_)
 ·refine⟨λj _ hj=>absurd hj (Qaw _),?_⟩;simp(disch:=decide) only[h12]
 ·obtain⟨h0,i0,i1⟩:=hI;have e:=jnp hb xs[k] nm;repeat'(first|apply jc<;>intro _|simp(disch:=first|exact dzG|fail) only[ja i0,ja i1,ja hi,ja hn,e,r8,γ,δ,ζ,η,θ])
  ·rename_i h;exact G0.v (congrArg _ (ui hk (λj hj=>h0 j om hj) (by simpa using h)).symm) rfl
  ·rename_i h;refine⟨⟨λj hj hjk=>?_,?_⟩,?_⟩
   ·rcases Qau j k with h2|h2
    ·have:=h0 j hj h2;simpa using this
    ·have:j=k:=om
     subst this;simpa using h
   ·simp(disch:=decide) only[h12,i0,i1]
   ·simp(disch:=decide) only[h12,hi,hn]
 ·obtain⟨h0,i0,i1⟩:=hI;repeat'(first|apply jc<;>intro _|simp(disch:=first|exact dzG|fail) only[r8,γ,δ,ζ,η,θ])
  exact G0.v (congrArg _ (uh λj hj=>h0 j hj hj).symm) rfl
theorem jfU (hb:NB base)(xs:List EnumT)(hl:xs.length<=BIG)(d:DeclT):PL ε base 92 [.lst xs.length (fl enE xs),.fn 93 [.lptr (qk d) 0]] (.ok (.int .i64 (fi (λx=>decide (x.name=d.ty)) xs))):=by
 refine zg jua (by rfl) (hb.pur 92 5 dc) rfl ?_;simp only[jpP,jt,κ,μ,ν,ξ];rw[(by unfold jkq;simp only[qq];rfl:jkq=_)];unfold BIG at hl;repeat'(first|apply jc<;>intro _|simp(disch:=first|exact dzG|fail) only[r8,γ,δ,ζ,η,θ])
 refine jZ xs.length (λk L s=>(∀ j (hj:j<xs.length),j<k->(λx=>decide (x.name=d.ty)) xs[j]=false)/\Has L 0 (.lst xs.length (fl enE xs))/\Has L 1 (.fn 93 [.lptr (qk d) 0])) (by first|assumption|omega) dc (by simp(disch:=decide) only[jf,jb]) (by simp(disch:=decide) only[jf,jb]) ?_ (λk L s v h=>by simp(disch:=decide) only[jb];exact h) (λk L s v h=>by simp(disch:=decide) only[jb];exact h) (λk L s hk hI hi hn=>?_) (λL s hI=>?_)
 ·refine⟨λj _ hj=>absurd hj (Qaw _),?_⟩;simp(disch:=decide) only[h12]
 ·obtain⟨h0,i0,i1⟩:=hI;have e:=jlu hb xs[k] d;repeat'(first|apply jc<;>intro _|simp(disch:=first|exact dzG|fail) only[ja i0,ja i1,ja hi,ja hn,e,r8,γ,δ,ζ,η,θ])
  ·rename_i h;exact G0.v (congrArg _ (ui hk (λj hj=>h0 j om hj) (by simpa using h)).symm) rfl
  ·rename_i h;refine⟨⟨λj hj hjk=>?_,?_⟩,?_⟩
   ·rcases Qau j k with h2|h2
    ·have:=h0 j hj h2;simpa using this
    ·have:j=k:=om
     subst this;simpa using h
   ·simp(disch:=decide) only[h12,i0,i1]
   ·simp(disch:=decide) only[h12,hi,hn]
 ·obtain⟨h0,i0,i1⟩:=hI;repeat'(first|apply jc<;>intro _|simp(disch:=first|exact dzG|fail) only[r8,γ,δ,ζ,η,θ])
  exact G0.v (congrArg _ (uh λj hj=>h0 j hj hj).symm) rfl
theorem jln (hb:NB base)(xs:List AsT)(hl:xs.length<=BIG)(a:AsT):PL ε base 127 [.lst xs.length (fl asE xs),.fn 99 [.lptr (asE a) 0]] (.ok (.int .i64 (fi (λx=>decide (x.name=a.name)) xs))):=by
 refine zg jtJ (by rfl) (hb.pur 127 5 dc) rfl ?_;simp only[jpo,jt,κ,μ,ν,ξ];rw[(by unfold je5;simp only[qq];rfl:je5=_)];unfold BIG at hl;repeat'(first|apply jc<;>intro _|simp(disch:=first|exact dzG|fail) only[r8,γ,δ,ζ,η,θ])
 refine jZ xs.length (λk L s=>(∀ j (hj:j<xs.length),j<k->(λx=>decide (x.name=a.name)) xs[j]=false)/\Has L 0 (.lst xs.length (fl asE xs))/\Has L 1 (.fn 99 [.lptr (asE a) 0])) (by first|assumption|omega) dc (by simp(disch:=decide) only[jf,jb]) (by simp(disch:=decide) only[jf,jb]) ?_ (λk L s v h=>by simp(disch:=decide) only[jb];exact h) (λk L s v h=>by simp(disch:=decide) only[jb];exact h) (λk L s hk hI hi hn=>?_) (λL s hI=>?_)
 ·refine⟨λj _ hj=>absurd hj (Qaw _),?_⟩;simp(disch:=decide) only[h12]
 ·obtain⟨h0,i0,i1⟩:=hI;have e:=jrP hb xs[k] a;repeat'(first|apply jc<;>intro _|simp(disch:=first|exact dzG|fail) only[ja i0,ja i1,ja hi,ja hn,e,r8,γ,δ,ζ,η,θ])
  ·rename_i h;exact G0.v (congrArg _ (ui hk (λj hj=>h0 j om hj) (by simpa using h)).symm) rfl
  ·rename_i h;refine⟨⟨λj hj hjk=>?_,?_⟩,?_⟩
   ·rcases Qau j k with h2|h2
    ·have:=h0 j hj h2;simpa using this
    ·have:j=k:=om
     subst this;simpa using h
   ·simp(disch:=decide) only[h12,i0,i1]
   ·simp(disch:=decide) only[h12,hi,hn]
 ·obtain⟨h0,i0,i1⟩:=hI;repeat'(first|apply jc<;>intro _|simp(disch:=first|exact dzG|fail) only[r8,γ,δ,ζ,η,θ])
  exact G0.v (congrArg _ (uh λj hj=>h0 j hj hj).symm) rfl
theorem joc (hb:NB base)(xs:List AsT)(hl:xs.length<=BIG)(a:AsT):PL ε base 98 [.lst xs.length (fl asE xs),.fn 99 [.lptr (asE a) 0]] (.ok (.bool (decide (0<=fi (λx=>decide (x.name=a.name)) xs)))):=by
 refine zg jt5 (by rfl) (hb.pur 98 5 dc) rfl ?_;simp only[jpK,jt,κ,μ,ν,ξ];rw[(by unfold jkl;simp only[qq];rfl:jkl=_)];have F:∀ (st:St) (K Kp:AV->St->Prop),XB ε base 127 [.lst xs.length (fl asE xs),.fn 99 [.lptr (asE a) 0]] st K Kp=_:=λst K Kp=>(jln hb xs hl a).xb (zU rfl (qK rfl rfl)) (λst=>hb.no 127 dc _ _) K Kp;repeat'(first|apply jc<;>intro _|simp(disch:=first|exact dzG|fail) only[F,r8,γ,δ,ζ,η,θ])
 exact G0.v rfl rfl
def qW (op:Int):Int×Int:=if op=5\/op=14\/op=15\/op=16 then(1,1) else if op=19\/op=20\/op=21\/op=22 then(1,2) else if op=17\/op=18 then(0,2) else(2,2)
def YZ (op:Int):Bool:=(decide (7<=op) && decide (op<=13)) ||(decide (23<=op) && decide (op<=26))
theorem G0.tupi {s:St}{a b:Int}{u:AV}(h:u=.tup [.int .i64 a,.int .i64 b]):G0 u (.tup [.int .i64 a,.int .i64 b]) s:=by
 subst h;exact FzD.tup (.cons (.pc rfl) (.cons (.pc rfl) .nil))
theorem jnm (hb:NB base)(op:Int):Tot base 132 [.int .i64 op] (.tup [.int .i64 (qW op).1,.int .i64 (qW op).2]):=by
 refine hb.tot ?_ rfl rfl;refine jE jtP (by rfl) (hb.pur 132 1 dc) ?_;simp only[jpu,jt,κ,μ,ν,ξ];rw[(by unfold jj5;simp only[qq];rfl:jj5=_)];repeat'(first|apply jc<;>intro _|simp(disch:=first|exact dzG|fail) only[r8,γ,δ,ζ,η,θ])
 all_goals(refine G0.tupi ?_;unfold qW;simp_all)
theorem jqe (hb:NB base)(op:Int):Tot base 133 [.int .i64 op] (.bool (YZ op)):=by
 refine hb.tot ?_ rfl rfl;refine jE jtO (by rfl) (hb.pur 133 1 dc) ?_;simp only[jpt,jt,κ,μ,ν,ξ];rw[(by unfold jj4;simp only[qq];rfl:jj4=_)];repeat'(first|apply jc<;>intro _|simp(disch:=first|exact dzG|fail) only[r8,γ,δ,ζ,η,θ])
 all_goals(refine G0.v (congrArg AV.bool ?_) rfl;rw[QaA];simp only[YZ,QaE,Qaa,decide_eq_true_eq,QaP,Qbz,QaO,decide_eq_false_iff_not,true_iff,false_iff,iff_true,iff_false,not_true_eq_false,not_false_eq_true,ne_eq,eq_self]<;>omega)
def VH:List Int->Int
 |[]=>0
 |x :: xs=>xs.foldl min x
def VI:List Int->Int
 |[]=>0
 |x :: xs=>xs.foldl max x
theorem jqO {l:List Int}{k:Nat}(h0:0<k)(h:k<l.length):VH (l.take (k+1))=min (VH (l.take k)) l[k]:=by
 match l,k,h0,h with
 |x :: xs,k+1,_,h=>
  have h':k<xs.length:=by simpa using h
  show(xs.take (k+1)).foldl min x=min ((xs.take k).foldl min x) xs[k];rw[yI h',Qbm];rfl
theorem jqP {l:List Int}{k:Nat}(h0:0<k)(h:k<l.length):VI (l.take (k+1))=max (VI (l.take k)) l[k]:=by
 match l,k,h0,h with
 |x :: xs,k+1,_,h=>
  have h':k<xs.length:=by simpa using h
  show(xs.take (k+1)).foldl max x=max ((xs.take k).foldl max x) xs[k];rw[yI h',Qbm];rfl
theorem Jt {S:List Int}{k:Nat}{st:St}{K:AV->St->Prop}(h:k<S.length):jp (q9 (.lptr (S.map (AV.int .i64)) k) st) K=K (.int .i64 S[k]) st:=by
 rw[Jd (by simpa using h)]
 congr 1
 simp[Qad,h]
theorem js1 (hb:NB base)(l:List Int)(h0:0<l.length)(hl:l.length<=1000000):PX ε base 167 [.lst l.length (l.map (AV.int .i64))] (.ok (.int .i64 (VH l))):=by
 have z:¬ ((l.length:Int)<1):=om
 have e1:VH (l.take 1)=l[0]:=by match l,h0 with|x :: xs,_=>rfl
 refine jE jtu (by rfl) (hb.pur 167 1 dc) ?_;simp only[jo9,jt,κ,μ,ν,ξ];rw[(by unfold jjL;simp only[qq];rfl:jjL=_)];repeat'(first|apply jc<;>intro _|simp(disch:=first|exact dzG|fail) only[z,Jt,r8,γ,δ,ζ,η,θ])
 refine zu (λmm L s=>∃ k:Nat,1<=k/\k<=l.length/\mm=l.length - k/\Has L 0 (.lst l.length (l.map (AV.int .i64)))/\Has L 3 (.int .i64 (VH (l.take k)))/\Has L 4 (.int .i64 (k:Int))) ?_ (l.length - 1) ?_
 ·rintro m L s ⟨k,hk1,hk,rfl,i0,i3,i4⟩;by_cases hlt:k<l.length
  ·have hlt':(k:Int)<(l.length:Int):=om
   have es:=jqO hk1 hlt;have e2:(((k+1:Nat):Int))=(k:Int)+1:=om
   repeat'(first|apply jc<;>intro _|simp(disch:=first|exact dzG|fail) only[ja i0,ja i3,ja i4,hlt',Jt,r8,γ,δ,ζ,η,θ])
   refine⟨l.length - (k+1),om,k+1,om,om,rfl,?_⟩;rw[es];simp(disch:=decide) only[h12,i0,e2]
  ·have hlt':¬ (k:Int)<(l.length:Int):=om
   have hk':k=l.length:=om
   subst hk';rw[Qaf] at i3;repeat'(first|apply jc<;>intro _|simp(disch:=first|exact dzG|fail) only[ja i0,ja i3,ja i4,hlt',r8,γ,δ,ζ,η,θ])
   exact G0.v rfl rfl
 ·refine⟨1,om,om,rfl,?_⟩;rw[e1];simp(disch:=decide) only[h12]
theorem js2 (hb:NB base)(l:List Int)(h0:0<l.length)(hl:l.length<=1000000):PX ε base 168 [.lst l.length (l.map (AV.int .i64))] (.ok (.int .i64 (VI l))):=by
 have z:¬ ((l.length:Int)<1):=om
 have e1:VI (l.take 1)=l[0]:=by match l,h0 with|x :: xs,_=>rfl
 refine jE jtt (by rfl) (hb.pur 168 1 dc) ?_;simp only[jo8,jt,κ,μ,ν,ξ];rw[(by unfold jjK;simp only[qq];rfl:jjK=_)];repeat'(first|apply jc<;>intro _|simp(disch:=first|exact dzG|fail) only[z,Jt,r8,γ,δ,ζ,η,θ])
 refine zu (λmm L s=>∃ k:Nat,1<=k/\k<=l.length/\mm=l.length - k/\Has L 0 (.lst l.length (l.map (AV.int .i64)))/\Has L 3 (.int .i64 (VI (l.take k)))/\Has L 4 (.int .i64 (k:Int))) ?_ (l.length - 1) ?_
 ·rintro m L s ⟨k,hk1,hk,rfl,i0,i3,i4⟩;by_cases hlt:k<l.length
  ·have hlt':(k:Int)<(l.length:Int):=om
   have es:=jqP hk1 hlt;have e2:(((k+1:Nat):Int))=(k:Int)+1:=om
   repeat'(first|apply jc<;>intro _|simp(disch:=first|exact dzG|fail) only[ja i0,ja i3,ja i4,hlt',Jt,r8,γ,δ,ζ,η,θ])
   refine⟨l.length - (k+1),om,k+1,om,om,rfl,?_⟩;rw[es];simp(disch:=decide) only[h12,i0,e2]
  ·have hlt':¬ (k:Int)<(l.length:Int):=om
   have hk':k=l.length:=om
   subst hk';rw[Qaf] at i3;repeat'(first|apply jc<;>intro _|simp(disch:=first|exact dzG|fail) only[ja i0,ja i3,ja i4,hlt',r8,γ,δ,ζ,η,θ])
   exact G0.v rfl rfl
 ·refine⟨1,om,om,rfl,?_⟩;rw[e1];simp(disch:=decide) only[h12]
theorem yb:∀ l:List Int,(l.map (AV.int .i64)).all pc=true
 |[]=>rfl
 |x :: xs=>by rw[κ,QaF,yb xs];rfl
theorem jrX (hb:NB base)(l:List Int)(h0:0<l.length)(hl:l.length<=1000000):PX ε base 153 [.lst l.length (l.map (AV.int .i64))] (.ok (.tup [.int .i64 (VH l),.int .i64 (VI l)])):=by
 have A:=hb.tot (js1 hb l h0 hl) rfl rfl;have B:=hb.tot (js2 hb l h0 hl) rfl rfl;refine jE jty (by rfl) (hb.pur 153 1 dc) ?_;simp only[jpd,jt,κ,μ,ν,ξ];rw[(by unfold jjP;simp only[qq];rfl:jjP=_)];repeat'(first|apply jc<;>intro _|simp(disch:=first|exact dzG|fail) only[A,B,r8,γ,δ,ζ,η,θ])
 exact G0.tupi rfl
theorem jho (hb:NB base)(l:List Int){cs:List AV}{n:Nat}(hc:l.map (AV.int .i64)=cs)(hn:l.length=n)(h0:0<n)(hl:n<=1000000)(st:St)(b m:Nat)(x:Bool)(D:Cl st b cs)(K Kp:AV->St->Prop) :
  XB ε base 153 [.slice b 0 n m 1 x] st K Kp=K (.tup [.int .i64 (VH l),.int .i64 (VI l)]) (kl b st):=by
 subst hc hn;have F:Fza st [.slice b 0 l.length m 1 x] [.lst l.length (l.map (AV.int .i64))] [b]:=Fza.sl D (by simp) (yb l) .nil;exact(jrX hb l h0 hl).xf F (λst=>hb.no 153 dc _ _) K Kp
def zS (op:Int)(a b:MtT):Int×Int:=
 if op=5 then(min (-a.lo) (-a.hi),max (-a.lo) (-a.hi))
 else if op=15 then(min (a.lo+b.lo) (a.hi+b.hi),max (a.lo+b.lo) (a.hi+b.hi))
 else if op=16 then(min (a.lo - b.hi) (a.hi - b.lo),max (a.lo - b.hi) (a.hi - b.lo))
 else(min (min (min (a.lo * b.lo) (a.lo * b.hi)) (a.hi * b.lo)) (a.hi * b.hi),max (max (max (a.lo * b.lo) (a.lo * b.hi)) (a.hi * b.lo)) (a.hi * b.hi))
def wm (m:MtT):Prop:=-100000000<=m.lo/\m.lo<=100000000/\-100000000<=m.hi/\m.hi<=100000000
theorem K0 {a b:Int}(h1 : -100000000<=a)(h2:a<=100000000)(h3 : -100000000<=b)(h4:b<=100000000) : -10000000000000000<=a * b/\a * b<=10000000000000000:=by
 have e:a.natAbs * b.natAbs<=100000000 * 100000000:=Nat.mul_le_mul om om;have e2:(a * b).natAbs=a.natAbs * b.natAbs:=Int.natAbs_mul a b;omega
set_option maxHeartbeats 1000000 in
theorem jjf (hb:NB base)(op:Int)(ms:List MtT)(h0:0<ms.length)(hl:ms.length<=2)(he:∀ m∈ms,wm m)(a b:MtT)(ha:ms[0]=a)(hb2:ms[ms.length - 1]=b) :
  PX ε base 134 [.int .i64 op,.lst ms.length (fl mtE ms)] (.ok (.tup [.int .i64 (zS op a b).1,.int .i64 (zS op a b).2])):=by
 obtain⟨a1,a2,a3,a4⟩:=ha▸he _ (Qac h0);obtain⟨b1,b2,b3,b4⟩:=hb2▸he _ (Qac (show ms.length - 1<ms.length by omega));have m1:=K0 a1 a2 b1 b2;have m2:=K0 a1 a2 b3 b4;have m3:=K0 a3 a4 b1 b2;have m4:=K0 a3 a4 b3 b4;have ld0:∀ (st:St) (K:AV->St->Prop),jp (zr 4 (.lptr (fl mtE ms) 0) st) K=K (.agg (mtE a)) st:=λst K=>by
  have:=jaK (st:=st) (K:=K) h0;rw[QaN,ha] at this;exact this
 have ld1:∀ (st:St) (K:AV->St->Prop),jp (zr 4 (.lptr (fl mtE ms) ((ms.length - 1) * 4)) st) K=K (.agg (mtE b)) st:=λst K=>by
  have:=jaK (st:=st) (K:=K) (show ms.length - 1<ms.length by omega);rw[hb2] at this;exact this
 have el:((ms.length:Int) - 1).toNat=ms.length - 1:=om
 have S2:=λ(p q:Int)=>jho hb [p,q] (cs:=[.int .i64 p,.int .i64 q]) (n:=2) rfl rfl dc dc;have S4:=λ(p q r t:Int)=>jho hb [p,q,r,t] (cs:=[.int .i64 p,.int .i64 q,.int .i64 r,.int .i64 t]) (n:=4) rfl rfl dc dc;have Sa:=S2 (-a.lo) (-a.hi);have Sb:=S2 (a.lo+b.lo) (a.hi+b.hi);have Sc:=S2 (a.lo - b.hi) (a.hi - b.lo);have Sd:=S4 (a.lo * b.lo) (a.lo * b.hi) (a.hi * b.lo) (a.hi * b.hi);clear S2 S4;clear he;refine jE jtN (by rfl) (hb.pur 134 1 dc) ?_;simp only[jps,jt,κ,μ,ν,ξ];rw[(by unfold jj3;simp only[qq];rfl:jj3=_)];repeat'(first|apply jc<;>intro _|simp(disch:=first|exact dzG|fail) only[el,ld0,ld1,Sa,Sb,Sc,Sd,r8,γ,δ,ζ,η,θ])
 all_goals(refine G0.tupi ?_;unfold zS VH VI;simp_all)
inductive KR (α:Type) where
 |ok (x:α)
 |er (c l k:Int)
def qa (vars:List VarT)(s:List Nat):Int:=fi (λx=>decide (x.name=s)) vars
theorem jiC (hb:NB base)(vars:List VarT)(hl:vars.length<=BIG)(s:List Nat)(st:St)(b:Nat)(C:Cl st b [.str s])(K Kp:AV->St->Prop) :
  XB ε base 125 [.lst vars.length (fl vaE vars),.fn 126 [.ptr b 0]] st K Kp=K (.int .i64 (qa vars s)) st:=by
 refine(jiB hb vars hl s).xb (zU rfl (qK ?_ rfl)) (λst=>hb.no 125 dc _ _) K Kp;show(Qo st.h [.ptr b 0]).map (AV.fn 126)=_;have:ZS st.h (.ptr b 0)=some (.lptr [.str s] 0):=vC C (Qq (WV 8 rfl) rfl GA);simp only[Qo,this];rfl
theorem Kl (hb:NB base)(vars:List VarT)(hl:vars.length<=BIG)(s:List Nat)(r:List AV):PL ε base 97 [.lptr (.lst vars.length (fl vaE vars) :: r) 0,.str s] (.ok (.int .i64 (qa vars s))):=by
 refine zg jt6 (by rfl) (hb.pur 97 5 dc) rfl ?_;simp only[jpL,jt,κ,μ,ν,ξ];rw[(by unfold jkm;simp only[qq];rfl:jkm=_)];have F:=jiC hb vars hl s;repeat'(first|apply jc<;>intro _|simp(disch:=first|exact dzG|fail) only[F,Jd,r8,γ,δ,ζ,η,θ])
 exact G0.v rfl rfl
def zw:List EnumT->List Nat->List Nat×Int
 |[],_=>([],-1)
 |e :: es,nm=>if 0<=fi (λv=>decide (nm=v)) e.vals then(e.name,fi (λv=>decide (nm=v)) e.vals) else zw es nm
theorem jbB:∀ {es:List EnumT} {nm:List Nat} {k:Nat} (h:k<es.length),(∀ j (hj:j<es.length),j<k->fi (λv=>decide (nm=v)) es[j].vals<0)->0<=fi (λv=>decide (nm=v)) es[k].vals->zw es nm=(es[k].name,fi (λv=>decide (nm=v)) es[k].vals)
 |e :: es,nm,0,h,_,h2=>by simp only[Qby] at h2 ⊢;rw[zw,if_pos h2]
 |e :: es,nm,k+1,h,h1,h2=>by
  have h0:=h1 0 (by simp) om;simp only[Qby] at h0;rw[zw,if_neg om];simp only[QbL] at h2 ⊢;exact jbB (by simpa using h) (λj hj hjk=>by have:=h1 (j+1) (by simpa using hj) om;simpa only[QbL] using this) h2
theorem jbA:∀ {es:List EnumT} {nm:List Nat},(∀ j (hj:j<es.length),fi (λv=>decide (nm=v)) es[j].vals<0)->zw es nm=([],-1)
 |[],nm,_=>rfl
 |e :: es,nm,h=>by
  have h0:=h 0 (by simp);simp only[Qby] at h0;rw[zw,if_neg om];exact jbA λj hj=>by have:=h (j+1) (by simpa using hj);simpa only[QbL] using this
theorem jdj {s:St}{a:List Nat}{b:Int}{u:AV}(h:u=.tup [.str a,.int .i64 b]):G0 u (.tup [.str a,.int .i64 b]) s:=by
 subst h;exact FzD.tup (.cons (.pc rfl) (.cons (.pc rfl) .nil))
theorem jnr (hb:NB base)(enums:List EnumT)(hl:enums.length<=BIG)(hv:∀ e∈enums,e.vals.length<=1000000)(nm:List Nat)(v:AV)(r:List AV):PL ε base 152 [.lptr (v :: .lst enums.length (fl enE enums) :: r) 0,.str nm] (.ok (.tup [.str (zw enums nm).1,.int .i64 (zw enums nm).2])):=by
 refine zg jtz (by rfl) (hb.pur 152 5 dc) rfl ?_;simp only[jpe,jt,κ,μ,ν,ξ];rw[(by unfold jjQ;simp only[qq];rfl:jjQ=_)];unfold BIG at hl;repeat'(first|apply jc<;>intro _|simp(disch:=first|exact dzG|fail) only[Jd,r8,γ,δ,ζ,η,θ])
 refine jZ enums.length (λk L s=>(∀ j (hj:j<enums.length),j<k->fi (λv=>decide (nm=v)) enums[j].vals<0)/\Has L 1 (.str nm)/\Has L 13 (.lst enums.length (fl enE enums))) (by first|assumption|omega) dc (by simp(disch:=decide) only[jf,jb]) (by simp(disch:=decide) only[jf,jb]) ?_ (λk L s v h=>by simp(disch:=decide) only[jb];exact h) (λk L s v h=>by simp(disch:=decide) only[jb];exact h) (λk L s hk hI hi hn=>?_) (λL s hI=>?_)
 ·refine⟨λj _ hj=>absurd hj (Qaw _),?_⟩;simp(disch:=decide) only[h12]
 ·obtain⟨h0,i1,i13⟩:=hI;have X:=jne hb enums[k].vals (hv _ (Qac hk)) nm;repeat'(first|apply jc<;>intro _|simp(disch:=first|exact dzG|fail) only[ja i1,ja i13,ja hi,ja hn,X,r8,γ,δ,ζ,η,θ])
  ·rename_i h;refine jdj ?_;rw[jbB hk h0 om]
  ·rename_i h;refine⟨⟨λj hj hjk=>?_,?_⟩,?_⟩
   ·rcases Qau j k with h2|h2
    ·exact h0 j hj h2
    ·have:j=k:=om
     subst this;omega
   ·simp(disch:=decide) only[h12,i1,i13]
   ·simp(disch:=decide) only[h12,hi,hn]
 ·obtain⟨h0,i1,i13⟩:=hI;repeat'(first|apply jc<;>intro _|simp(disch:=first|exact dzG|fail) only[r8,γ,δ,ζ,η,θ])
  refine jdj ?_;rw[jbA λj hj=>h0 j hj hj];rfl
def mt0:MtT:=⟨0,[],0,0⟩
def zh (vars:List VarT)(enums:List EnumT)(x:Ex):KR (Ex×MtT):=
 if 0<=qa vars x.name then
  (let v:=vars.getD (qa vars x.name).toNat ⟨[],0,[],0,0,false,0⟩
   .ok (.mk 4 (qa vars x.name) [] [] x.line x.col,⟨v.kind,v.enum,v.lo,v.hi⟩))
 else if(zw enums x.name).2<0 then .er 161 x.line x.col
 else .ok (.mk 1 (zw enums x.name).2 [] [] x.line x.col,⟨3,(zw enums x.name).1,(zw enums x.name).2,(zw enums x.name).2⟩)
def kO (r:KR (Ex×MtT)):Oc:=match r with
 |.ok x=>.ok (.tup [.agg (eE x.1),.agg (mtE x.2)])
 |.er c l k=>.pn (kf c l k)
theorem Zf {α:Type}{q:α->Bool}:∀ {xs:List α},fi q xs<(xs.length:Int)
 |[]=>by simp[fi]
 |x :: xs=>by
  have:=Zf (q:=q) (xs:=xs);have hl:((x :: xs).length:Int)=(xs.length:Int)+1:=by simp
  rw[hl];unfold fi;split
  ·omega
  ·split<;>omega
set_option maxHeartbeats 1000000 in
theorem jnX (hb:NB base)(vars:List VarT)(enums:List EnumT)(hl:vars.length<=BIG)(hl2:enums.length<=BIG)(hv:∀ e∈enums,e.vals.length<=1000000)(x:Ex)(r:List AV) :
  PL ε base 131 [.lptr (.lst vars.length (fl vaE vars) :: .lst enums.length (fl enE enums) :: r) 0,.agg (eE x)] (kO (zh vars enums x)):=by
 have V:=λst K Kp=>(Kl hb vars hl x.name (.lst enums.length (fl enE enums) :: r)).pa (by rfl) (λst=>hb.no 97 dc _ _) st K Kp;have W:=λst K Kp=>(jnr hb enums hl2 hv x.name (.lst vars.length (fl vaE vars)) r).pa (by rfl) (λst=>hb.no 152 dc _ _) st K Kp;have VT:=qa vars x.name;by_cases h1:0<=qa vars x.name
 ·have hlt:qa vars x.name<(vars.length:Int):=Zf;have hlt2:(qa vars x.name).toNat<vars.length:=om
  obtain⟨v,hv⟩:∃ v,vars[(qa vars x.name).toNat]=v:=⟨_,rfl⟩;have hn:zh vars enums x=.ok (.mk 4 (qa vars x.name) [] [] x.line x.col,⟨v.kind,v.enum,v.lo,v.hi⟩):=by
   unfold zh;rw[if_pos h1];simp only[Qam,Qai hlt2,QaM,hv]
  rw[hn];refine zg jkw (by rfl) (hb.pur 131 5 dc) (by rfl) ?_;simp only[je6,jt,κ,μ,ν,ξ];rw[(by unfold kD;simp only[qq];rfl:kD=_)]
  (have zz:=aI @yS @yR;(repeat'(first|apply jc<;>intro _|simp(disch:=first|exact jY|fail) only[V,h1,Jd,hv,sm3,sm9,sm2,yS,yR,r8,γ,δ,ζ,η,θ]));all_goals clear zz)
  exact FzD.tup (.cons YD (.cons (.agg (.pc rfl)) .nil))
 ·have h1':qa vars x.name<0:=om
  by_cases h2:(zw enums x.name).2<0
  ·have hn:zh vars enums x=.er 161 x.line x.col:=by unfold zh;rw[if_neg h1,if_pos h2]
   rw[hn];refine zg jkw (by rfl) (hb.pur 131 5 dc) (by rfl) ?_;simp only[je6,jt,κ,μ,ν,ξ];rw[(by unfold kD;simp only[qq];rfl:kD=_)];repeat'(first|apply jc<;>intro _|simp(disch:=first|exact dzG|fail) only[V,W,h1,h2,zZ hb,Jd,kO,r8,γ,δ,ζ,η,θ])
   exact FzD.iface (FzD.agg (.pc rfl))
  ·have hn:zh vars enums x=.ok (.mk 1 (zw enums x.name).2 [] [] x.line x.col,⟨3,(zw enums x.name).1,(zw enums x.name).2,(zw enums x.name).2⟩):=by unfold zh;rw[if_neg h1,if_neg h2]
   rw[hn];refine zg jkw (by rfl) (hb.pur 131 5 dc) (by rfl) ?_;simp only[je6,jt,κ,μ,ν,ξ];rw[(by unfold kD;simp only[qq];rfl:kD=_)];repeat'(first|apply jc<;>intro _|simp(disch:=first|exact dzG|fail) only[V,W,h1,h2,Jd,r8,γ,δ,ζ,η,θ])
   exact FzD.tup (.cons YD (.cons (.agg (.pc rfl)) .nil))
def Um (part:Int)(ms:List MtT):Bool:=ms.any λm=>(decide (0<part) && decide (m.kind≠part)) ||decide (m.kind≠(ms.getD 0 mt0).kind) ||decide (m.enum≠(ms.getD 0 mt0).enum)
def X5 (fm:Bool)(op num:Int)(name:List Nat)(l c:Int)(ys:List Ex)(ms:List MtT):KR (Ex×MtT):=
 if ms.length=0\/2<ms.length\/(YZ op=true/\fm=false)\/Um (qW op).1 ms=true then .er 163 l c
 else if(qW op).2≠1 then .ok (.mk op num name ys l c,⟨(qW op).2,[],0,1⟩)
 else if(zS op (ms.getD 0 mt0) (ms.getD (ms.length - 1) mt0)).1 < -100000000\/100000000<(zS op (ms.getD 0 mt0) (ms.getD (ms.length - 1) mt0)).2 then .er 165 l c
 else .ok (.mk op num name ys l c,⟨(qW op).2,[],(zS op (ms.getD 0 mt0) (ms.getD (ms.length - 1) mt0)).1,(zS op (ms.getD 0 mt0) (ms.getD (ms.length - 1) mt0)).2⟩)
mutual
def ya (vars:List VarT)(enums:List EnumT):Bool->Ex->KR (Ex×MtT)
 |fm,.mk op num name ks l c=>
  if op=1 then .ok (.mk op num name ks l c,⟨1,[],num,num⟩)
  else if op=2 then .ok (.mk op num name ks l c,⟨2,[],0,1⟩)
  else if op=3 then zh vars enums (.mk op num name ks l c)
  else match qd vars enums (fm && decide (op≠17) && decide (op≠18)) ks with
   |.er a b d=>.er a b d
   |.ok r=>X5 fm op num name l c r.1 r.2
def qd (vars:List VarT)(enums:List EnumT):Bool->List Ex->KR (List Ex×List MtT)
 |_,[]=>.ok ([],[])
 |fm,x :: xs=>match ya vars enums fm x with
  |.er a b d=>.er a b d
  |.ok y=>match qd vars enums fm xs with
   |.er a b d=>.er a b d
   |.ok r=>.ok (y.1 :: r.1,y.2 :: r.2)
end
theorem HG {vars:List VarT}{enums:List EnumT}{fm:Bool}:∀ {xs:List Ex} {ys:List Ex} {ms:List MtT} {x y:Ex} {m:MtT},qd vars enums fm xs=.ok (ys,ms)->ya vars enums fm x=.ok (y,m)->qd vars enums fm (xs ++ [x])=.ok (ys ++ [y],ms ++ [m])
 |[],ys,ms,x,y,m,h,h2=>by
  simp only[qd] at h;cases h;simp only[Qal,qd,h2]
 |z :: xs,ys,ms,x,y,m,h,h2=>by
  simp only[qd] at h;cases hz:ya vars enums fm z with
  |er a b d=>rw[hz] at h;cases h
  |ok w=>
   rw[hz] at h;cases hr:qd vars enums fm xs with
   |er a b d=>rw[hr] at h;cases h
   |ok r=>
    rw[hr] at h;cases h;obtain⟨r1,r2⟩:=r;simp only[Qag,qd,hz,HG hr h2]
theorem HI {vars:List VarT}{enums:List EnumT}{fm:Bool}:∀ {xs:List Ex} {ys:List Ex} {ms:List MtT} {x:Ex} {a b d:Int} (zs:List Ex),qd vars enums fm xs=.ok (ys,ms)->ya vars enums fm x=.er a b d->qd vars enums fm (xs ++ x :: zs)=.er a b d
 |[],ys,ms,x,a,b,d,zs,h,h2=>by simp only[Qal,qd,h2]
 |z :: xs,ys,ms,x,a,b,d,zs,h,h2=>by
  simp only[qd] at h;cases hz:ya vars enums fm z with
  |er a b d=>rw[hz] at h;cases h
  |ok w=>
   rw[hz] at h;cases hr:qd vars enums fm xs with
   |er a b d=>rw[hr] at h;cases h
   |ok r=>
    rw[hr] at h;cases h;obtain⟨r1,r2⟩:=r;simp only[Qag,qd,hz,HI zs hr h2]
theorem Jc {vars:List VarT}{enums:List EnumT}{fm:Bool}:∀ {xs:List Ex} {ys:List Ex} {ms:List MtT},qd vars enums fm xs=.ok (ys,ms)->ys.length=xs.length/\ms.length=xs.length
 |[],ys,ms,h=>by simp only[qd] at h;cases h;exact⟨rfl,rfl⟩
 |z :: xs,ys,ms,h=>by
  simp only[qd] at h;cases hz:ya vars enums fm z with
  |er a b d=>rw[hz] at h;cases h
  |ok w=>
   rw[hz] at h;cases hr:qd vars enums fm xs with
   |er a b d=>rw[hr] at h;cases h
   |ok r=>
    rw[hr] at h;cases h;obtain⟨r1,r2⟩:=r;have:=Jc hr;simp[this.1,this.2]
theorem WS (vars:List VarT)(enums:List EnumT)(fm:Bool)(x:Ex):ya vars enums fm x=if x.op=1 then .ok (x,⟨1,[],x.num,x.num⟩) else if x.op=2 then .ok (x,⟨2,[],0,1⟩) else if x.op=3 then zh vars enums x else match qd vars enums (fm && decide (x.op≠17) && decide (x.op≠18)) x.kids with
 |.er a b d=>.er a b d
 |.ok r=>X5 fm x.op x.num x.name x.line x.col r.1 r.2:=by cases x;rw[ya];rfl
structure VarsOK (vars:List VarT)(enums:List EnumT):Prop where
 len:vars.length<=1000000
 len2:enums.length<=1000000
 vals:∀ e∈enums,e.vals.length<=1000000
 ends:∀ v∈vars,-100000000<=v.lo/\v.lo<=100000000/\-100000000<=v.hi/\v.hi<=100000000
mutual
def ZQ:Ex->Bool
 |.mk op num _ ks _ _=>(decide (op≠1) ||(decide (-100000000<=num) && decide (num<=100000000))) && Qn ks
def Qn:List Ex->Bool
 |[]=>true
 |x :: xs=>ZQ x && Qn xs
end
theorem jkB {enums:List EnumT}{nm:List Nat}(h:∀ e∈enums,e.vals.length<=1000000) : -1<=(zw enums nm).2/\(zw enums nm).2<=1000000:=by
 induction enums with
 |nil=>simp[zw]
 |cons e es ih=>
  rw[zw];have h1:=h e (by simp);have h2:=Zf (q:=λv=>decide (nm=v)) (xs:=e.vals);split
  ·dsimp only;omega
  ·exact ih λe he=>h e (by simp[he])
theorem jdp {vars:List VarT}{enums:List EnumT}(V:VarsOK vars enums){x y:Ex}{m:MtT}(h:zh vars enums x=.ok (y,m)):wm m:=by
 unfold zh at h;split at h
 ·rename_i h1;cases h;have hlt:qa vars x.name<(vars.length:Int):=Zf;have hlt2:(qa vars x.name).toNat<vars.length:=om
  have:vars.getD (qa vars x.name).toNat ⟨[],0,[],0,0,false,0⟩∈vars:=by
   rw[Qam,Qai hlt2];exact Qac hlt2
  exact V.ends _ this
 ·split at h
  ·cases h
  ·cases h;have:=jkB (nm:=x.name) V.vals;unfold wm;dsimp only;omega
mutual
theorem jfK {vars:List VarT}{enums:List EnumT}(V:VarsOK vars enums):∀ (fm:Bool) (x y:Ex) (m:MtT),ZQ x=true->ya vars enums fm x=.ok (y,m)->wm m
 |fm,.mk op num name ks l c,y,m,hn,h=>by
  rw[ZQ,Qaa] at hn;rw[ya] at h;split at h
  ·rename_i h1;cases h;have:=hn.1;simp[h1] at this;exact⟨this.1,this.2,this.1,this.2⟩
  ·split at h
   ·cases h;unfold wm;dsimp only;omega
   ·split at h
    ·exact jdp V h
    ·split at h
     ·cases h
     ·rename_i r hr;unfold X5 at h;split at h
      ·cases h
      ·split at h
       ·cases h;unfold wm;dsimp only;omega
       ·split at h
        ·cases h
        ·rename_i h5;cases h;unfold wm;dsimp only;have e:(zS op (r.2.getD 0 mt0) (r.2.getD (r.2.length - 1) mt0)).1<=(zS op (r.2.getD 0 mt0) (r.2.getD (r.2.length - 1) mt0)).2:=by
          unfold zS;split
          ·dsimp only;omega
          ·split
           ·dsimp only;omega
           ·split
            ·dsimp only;omega
            ·dsimp only;omega
         omega
end
theorem kw {vars:List VarT}{enums:List EnumT}(V:VarsOK vars enums){fm:Bool}:∀ {xs ys:List Ex} {ms:List MtT},Qn xs=true->qd vars enums fm xs=.ok (ys,ms)->∀ m∈ms,wm m
 |[],ys,ms,_,h,m,hm=>by simp only[qd] at h;cases h;cases hm
 |z :: xs,ys,ms,hn,h,m,hm=>by
  rw[Qn,Qaa] at hn;simp only[qd] at h;cases hz:ya vars enums fm z with
  |er a b d=>rw[hz] at h;cases h
  |ok w=>
   rw[hz] at h;cases hr:qd vars enums fm xs with
   |er a b d=>rw[hr] at h;cases h
   |ok r=>
    rw[hr] at h;cases h;obtain⟨r1,r2⟩:=r;obtain⟨w1,w2⟩:=w;rcases QaS.1 hm with rfl|hm
    ·exact jfK V fm z w1 _ hn.1 hz
    ·exact kw V hn.2 hr m hm
theorem Hr:∀ {xs:List Ex} {k:Nat} (h:k<xs.length),Qn xs=true->ZQ xs[k]=true
 |x :: xs,0,_,h=>by rw[Qn,Qaa] at h;exact h.1
 |x :: xs,k+1,hk,h=>by rw[Qn,Qaa] at h;exact Hr (xs:=xs) (k:=k) (by simpa using hk) h.2
structure Ck (p:Nat)(v1 v2 v3 mm:AV)(vars:List VarT)(enums:List EnumT)(fm:Bool)(s:St):Prop where
 cl:Cl s p [v1,v2,v3,mm,.bool fm]
 l1:Lr s v1 vars.length (fl vaE vars)
 l2:Lr s v2 enums.length (fl enE enums)
 n1:∀ b m z x,v1=.slice b 0 vars.length m z x->b≠p
 n2:∀ b m z x,v2=.slice b 0 enums.length m z x->b≠p
section
variable {p:Nat} {v1 v2 v3 mm:AV} {vars:List VarT} {enums:List EnumT} {fm:Bool} {s s':St}
theorem Ck.keep (h:Ck p v1 v2 v3 mm vars enums fm s)(k:Keep p s s'){fm':Bool}(C:Cl s' p [v1,v2,v3,mm,.bool fm']):Ck p v1 v2 v3 mm vars enums fm' s':=⟨C,k.lr h.l1 h.n1,k.lr h.l2 h.n2,h.n1,h.n2⟩
theorem Ck.lend (h:Ck p v1 v2 v3 mm vars enums fm s):∃ r,lend s.h (.ptr p 0)=some (.lptr (.lst vars.length (fl vaE vars) :: .lst enums.length (fl enE enums) :: r) 0):=by
 have e1:=h.l1.fz (d:=7) (yZ YW vars);have e2:=h.l2.fz (d:=7) (yZ J1 enums);exact⟨_,vC h.cl (Qq e1 rfl (Qq e2 rfl rfl))⟩
end
set_option maxHeartbeats 4000000 in
theorem jnY (hb:NB base){vars:List VarT}{enums:List EnumT}(V:VarsOK vars enums)(x:Ex){p:Nat}{v1 v2 v3 mm:AV}{fm:Bool}(st:St)(C:Ck p v1 v2 v3 mm vars enums fm st)(K Kp:AV->St->Prop) :
  XB ε base 131 [.ptr p 0,.agg (eE x)] st K Kp=YC (kO (zh vars enums x)) K Kp st:=by
 obtain⟨r,hr⟩:=C.lend;have h1:=V.len;have h2:=V.len2;exact(jnX hb vars enums (by unfold BIG;omega) (by unfold BIG;omega) V.vals x r).xb (qK hr (zU (by first|rfl|simp[pa,pc,qZ,Xb,J1,JG,YW,ww,Za,zC,ZR]) rfl)) (λst=>hb.no 131 dc _ _) K Kp
def z6:List AV:=[.int .i64 0,.int .i64 0,.str [],.nils,.int .i64 0,.int .i64 0]
def z4:List AV:=[.int .i64 0,.str [],.int .i64 0,.int .i64 0]
def KC (p:Nat)(v1 v2 v3 mm:AV)(fm:Bool)(st:St)(r:KR (Ex×MtT))(K Kp:AV->St->Prop):Prop:=match r with
 |.ok y=>∀ s',Keep p st s'->Cl s' p [v1,v2,v3,mm,.bool fm]->K (.tup [.agg (eE y.1),.agg (mtE y.2)]) s'
 |.er c l k=>∀ s',Keep p st s'->Kp (kf c l k) s'
theorem jeH {st s:St}{b:Nat}{cs:List AV}:Cl (back st s) b cs=Cl s b cs:=propext ⟨λh=>⟨h.lt,h.row,h.len,h.cell⟩,λh=>⟨h.lt,h.row,h.len,h.cell⟩⟩
theorem Cl.kills {s:St}{b:Nat}{cs:List AV}{ks:List Nat}(C:Cl s b cs)(h:b∉ks):Cl (kills ks s) b cs:=C.keep (τ _) (by
 show jy (ks.foldr _ s.h) b=_;rw[YN,if_neg h])
theorem U0 {p:Nat}{st s:St}{v u:AV}{cs:List AV}{K:AV->St->Prop}{m:Nat}(F:FzD m 9 s v u)(hm:st.nx<=m)(hp:p<st.nx)(k:Keep p st.bare s)(C:Cl s p cs)(hK:∀ s',Keep p st s'->Cl s' p cs->K u s') :
  ∃ u ks,fz 9 s.h v=some (u,ks)/\K u (back st (kills ks s)):=by
 obtain⟨ks,e,h⟩:=F;have hnx:st.bare.nx=st.nx:=rfl;refine⟨u,ks,e,hK _ (Keep.bare (k.kills λc hc=>by have:=h c hc;omega) st) ?_⟩;rw[jeH];exact C.kills λhm=>by have:=h p hm;omega
theorem YT {p:Nat}{st s:St}(k:Keep p st.bare s):Keep p st (bk st s):=⟨k.nx,rfl,k.get⟩
def iQ (st:St)(K:AV->St->Prop):Out->Prop:=Xp ε y97.res λv s=>∃ u ks,fz 9 s.h v=some (u,ks)/\K u (back st (kills ks s))
def iP (st:St)(Kp:AV->St->Prop):AV->Sl->St->Prop:=λv _ s=>Kp v (bk st s)
structure KS (p q:Nat)(v1 v2 v3 mm:AV)(x:Ex)(fm:Bool)(st:St)(ys:List Ex)(ms:List MtT)(vk vm:AV)(L:Sl)(s:St):Prop where
 keep:Keep p st.bare s
 nx:q+4<=s.nx
 qn:q=st.nx
 hp:p<q
 cp:Cl s p [v1,v2,v3,mm,.bool fm]
 c0:Cl s q (eE x)
 c1:Cl s (q+1) z6
 c2:Cl s (q+2) z4
 c3:Cl s (q+3) [.int .i64 x.op,.int .i64 x.num,.str x.name,vk,.int .i64 x.line,.int .i64 x.col]
 lk:Lv (q+4) s.nx s vk ys.length (fl eE ys) 6
 lm:Lv (q+4) s.nx s vm ms.length (fl mtE ms) 4
 df:Df vk vm
 i0:Has L 0 (.ptr p 0)
 i3:Has L 3 (.ptr q 0)
 i4:Has L 4 (.ptr (q+1) 0)
 i5:Has L 5 (.ptr (q+2) 0)
 i6:Has L 6 (.ptr (q+3) 0)
 i7:Has L 7 vm
def Kc (fm:Bool)(op:Int)(ms:List MtT):Bool:=decide (ms.length=0) ||decide (2<ms.length) ||(YZ op && !fm) ||Um (qW op).1 ms
theorem jld {fm:Bool}{op num:Int}{name:List Nat}{l c:Int}{ys:List Ex}{ms:List MtT}(h:Kc fm op ms=true):X5 fm op num name l c ys ms=.er 163 l c:=by
 unfold X5;unfold Kc at h;simp only[QaE,decide_eq_true_eq,Qaa,QaO] at h;rw[if_pos (by simpa only[or_assoc] using h)]
theorem jrN {fm:Bool}{op:Int}{ms:List MtT}(h:Kc fm op ms=false):¬ (ms.length=0\/2<ms.length\/(YZ op=true/\fm=false)\/Um (qW op).1 ms=true):=by
 intro h2;have:Kc fm op ms=true:=by
  unfold Kc;simp only[QaE,decide_eq_true_eq,Qaa,QaO];simpa only[or_assoc] using h2
 rw[this] at h;cases h
theorem Lv.klD {lo hi n z:Nat}{s:St}{v:AV}{cs:List AV}{b o m1 m2 z2:Nat}{x:Bool}(V:Lv lo hi s v n cs z)(h:Df v (.slice b o m1 m2 z2 x)):Lv lo hi (kl b s) v n cs z:=by
 rcases V with e|⟨c,rfl,h2,h3,h4,h5,h6⟩
 ·exact .inl e
 ·exact .inr ⟨c,rfl,h2,h3,(jT (λe=>h e.symm)).symm▸h4,h5,h6⟩
theorem jhR (hb:NB base)(op:Int)(ms:List MtT)(h0:0<ms.length)(hl:ms.length<=2)(he:∀ m∈ms,wm m)(st:St)(b m:Nat)(y:Bool)(D:Cl st b (fl mtE ms))(K Kp:AV->St->Prop) :
  XB ε base 134 [.int .i64 op,.slice b 0 ms.length m 4 y] st K Kp=K (.tup [.int .i64 (zS op (ms.getD 0 mt0) (ms.getD (ms.length - 1) mt0)).1,.int .i64 (zS op (ms.getD 0 mt0) (ms.getD (ms.length - 1) mt0)).2]) (kl b st):=by
 have e0:ms[0]=ms.getD 0 mt0:=by simp[Qad,h0]
 have e1:ms[ms.length - 1]=ms.getD (ms.length - 1) mt0:=by simp[Qad,show ms.length - 1<ms.length by omega]
 have F:Fza st [.int .i64 op,.slice b 0 ms.length m 4 y] [.int .i64 op,.lst ms.length (fl mtE ms)] [b]:=Fza.pa rfl (Fza.sl D (Jh Yl ms).symm (yZ ZR ms) .nil);exact(jjf hb op ms h0 hl he _ _ e0 e1).xf F (λst=>hb.no 134 dc _ _) K Kp
set_option maxHeartbeats 4000000 in
theorem jrb (hb:NB base){p q:Nat}{v1 v2 v3 mm:AV}{x:Ex}{fm b:Bool}{st:St}{ys:List Ex}{ms:List MtT}{vk vm:AV}{L:Sl}{s:St}(S:KS p q v1 v2 v3 mm x fm st ys ms vk vm L s)(hb2:Kc fm x.op ms=b)(he:∀ m∈ms,wm m)
  (i13:Has L 13 (.int .i64 (qW x.op).1)) (i14:Has L 14 (.int .i64 (qW x.op).2)) (i15:Has L 15 (.bool b)) (K Kp:AV->St->Prop) (hK:KC p v1 v2 v3 mm fm st (X5 fm x.op x.num x.name x.line x.col ys ms) K Kp) :
  xC ε base jeS L s (iQ st K) (iP st Kp):=by
 obtain⟨k,nx,qn,hp,Cp,C0,C1,C2,C3,lk,lm,df,i0,i3,i4,i5,i6,i7⟩:=S;have hnp:p<s.nx:=Cp.lt;unfold z6 z4 at *;unfold iQ iP y97;rw[(by unfold jeS;simp only[qq];rfl:jeS=_)];cases b with
 |true=>
  rw[jld hb2] at hK
  (have zz:=C0.r;(repeat'(first|apply jc<;>intro _|simp(disch:=first|exact jY|fail) only[ja i0,ja i3,ja i15,zZ hb,C0.q,C0.r,r8,γ,δ,ζ,η,θ]));all_goals clear zz)
  exact hK _ (YT k)
 |false=>
  have hnb:=jrN hb2;have hlen:0<ms.length/\ms.length<=2:=om
  unfold X5 at hK;rw[if_neg hnb] at hK;have vc:∀ l,lall AV.cell (vk :: l)=lall AV.cell l:=λl=>by show cond vk.cell _ false=_;rw[lk.cell];rfl
  have qnx:q+4<=st.nx+4:=om
  by_cases ho:(qW x.op).2=1
  ·rw[if_neg (by simpa using ho)] at hK;rcases lm with ⟨_,h9,_⟩|⟨d,rfl,h2,h3,C5,h5,h6⟩
   ·omega
   have N:=jhR hb x.op ms hlen.1 hlen.2 he;obtain⟨r1,r2,hr⟩:∃ r1 r2,zS x.op (ms.getD 0 mt0) (ms.getD (ms.length - 1) mt0)=(r1,r2):=⟨_,_,rfl⟩;rw[hr] at hK N;dsimp only at hK N;have f1:(r1 < -(99999999+1))=(r1 < -100000000):=by rfl
   by_cases hr1:r1 < -100000000
   ·rw[if_pos (.inl hr1)] at hK
    (have zz:=aI C0.r (aI C1.r (aI C2.r (aI C3.r C5.r)));(repeat'(first|apply jc<;>intro _|simp(disch:=first|exact jY|fail) only[ja i0,ja i3,ja i4,ja i5,ja i6,ja i7,ja i14,ja i15,ho,N,f1,hr1,zZ hb,C0.q,C1.q,C2.q,C3.q,C5.q,C0.r,C1.r,C2.r,C3.r,C5.r,r8,γ,δ,ζ,η,θ]));all_goals clear zz)
    exact hK _ (YT (k.kl (by show st.nx<=_;omega)))
   ·by_cases hr2:100000000<r2
    ·rw[if_pos (.inr hr2)] at hK
     (have zz:=aI C0.r (aI C1.r (aI C2.r (aI C3.r C5.r)));(repeat'(first|apply jc<;>intro _|simp(disch:=first|exact jY|fail) only[ja i0,ja i3,ja i4,ja i5,ja i6,ja i7,ja i14,ja i15,ho,N,f1,hr1,hr2,zZ hb,C0.q,C1.q,C2.q,C3.q,C5.q,C0.r,C1.r,C2.r,C3.r,C5.r,r8,γ,δ,ζ,η,θ]));all_goals clear zz)
     exact hK _ (YT (k.kl (by show st.nx<=_;omega)))
    ·rw[if_neg om] at hK;have hK:∀ s',Keep p st s'->Cl s' p [v1,v2,v3,mm,.bool fm]->K (.tup [.agg (eE (.mk x.op x.num x.name ys x.line x.col)),.agg (mtE ⟨(qW x.op).2,[],r1,r2⟩)]) s':=hK;rw[qJ] at hK
     (have zz:=aI @vc (aI C0.r (aI C1.r (aI C2.r (aI C3.r C5.r))));(repeat'(first|apply jc<;>intro _|simp(disch:=first|exact jY|fail) only[ja i0,ja i3,ja i4,ja i5,ja i6,ja i7,ja i14,ja i15,ho,N,f1,hr1,hr2,C0.q,C1.q,C2.q,C3.q,C5.q,vc,C0.r,C1.r,C2.r,C3.r,C5.r,r8,γ,δ,ζ,η,θ]));all_goals clear zz)
     rw[ho] at hK;refine U0 (m:=st.nx) (cs:=[v1,v2,v3,mm,.bool fm]) (FzD.tup (.cons (FzD.agg (.cons (.pc rfl) (.cons (.pc rfl) (.cons (.pc rfl) (.cons (Lv.fz (lo:=q+4) (hi:=s.nx) (z:=6) ?_ om (yZ qZ _)) (.cons (.pc rfl) (.cons (.pc rfl) .nil))))))) (.cons (.agg (.pc rfl)) .nil))) (τ _) om ?_ ?_ hK
     ·have:=lk.klD df
      exact ckX
     ·exact(((k.kl (by show st.nx<=_;omega)).wr (.inr (by show st.nx<=_;omega)) _ _).wr (.inr (by show st.nx<=_;omega)) _ _)
     ·exact ckX
  ·rw[if_pos ho] at hK;have hK:∀ s',Keep p st s'->Cl s' p [v1,v2,v3,mm,.bool fm]->K (.tup [.agg (eE (.mk x.op x.num x.name ys x.line x.col)),.agg (mtE ⟨(qW x.op).2,[],0,1⟩)]) s':=hK;rw[qJ] at hK
   (have zz:=aI @vc (aI C0.r (aI C1.r (aI C2.r C3.r)));(repeat'(first|apply jc<;>intro _|simp(disch:=first|exact jY|fail) only[ja i0,ja i3,ja i4,ja i5,ja i6,ja i14,ja i15,ho,C0.q,C1.q,C2.q,C3.q,vc,C0.r,C1.r,C2.r,C3.r,r8,γ,δ,ζ,η,θ]));all_goals clear zz)
   refine U0 (m:=st.nx) (cs:=[v1,v2,v3,mm,.bool fm]) (FzD.tup (.cons (FzD.agg (.cons (.pc rfl) (.cons (.pc rfl) (.cons (.pc rfl) (.cons (Lv.fz (lo:=q+4) (hi:=s.nx) (z:=6) ?_ om (yZ qZ _)) (.cons (.pc rfl) (.cons (.pc rfl) .nil))))))) (.cons (.agg (.pc rfl)) .nil))) (τ _) om ?_ ?_ hK
   ·exact ckX
   ·exact((k.wr (.inr (by show st.nx<=_;omega)) _ _).wr (.inr (by show st.nx<=_;omega)) _ _)
   ·exact ckX
def jgp (part:Int)(k0:Int)(e0:List Nat)(m:MtT):Bool:=(decide (0<part) && decide (m.kind≠part)) ||decide (m.kind≠k0) ||decide (m.enum≠e0)
theorem Has.bool {c:Nat}{a b:Bool}{L:Sl}(h:a=b):Has ((c,.bool a) :: L) c (.bool b):=by rw[h];simp only[jf]
theorem jor (part:Int)(ms:List MtT):Um part ms=ms.any (jgp part (ms.getD 0 mt0).kind (ms.getD 0 mt0).enum):=rfl
section
variable {p q:Nat} {v1 v2 v3 mm:AV} {x:Ex} {fm:Bool} {st:St} {ys:List Ex} {ms:List MtT} {vk vm:AV} {L:Sl} {s:St}
theorem KS.nw (S:KS p q v1 v2 v3 mm x fm st ys ms vk vm L s)(ds:List AV):KS p q v1 v2 v3 mm x fm st ys ms vk vm L (nw s ds):=by
 obtain⟨k,nx,qn,hp,Cp,C0,C1,C2,C3,lk,lm,df,i0,i3,i4,i5,i6,i7⟩:=S;have h0:=C0.lt;have h1:=C1.lt;have h2:=C2.lt;have h3:=C3.lt;have h4:=Cp.lt;exact⟨k.nw ds,by rw[ji];omega,qn,hp,ckX,ckX,ckX,ckX,ckX,((jF (τ _)).symm▸lk:Lv _ _ (Go.Sy.nw s ds) _ _ _ _).up (by rw[ji];omega),((jF (τ _)).symm▸lm:Lv _ _ (Go.Sy.nw s ds) _ _ _ _).up (by rw[ji];omega),df,i0,i3,i4,i5,i6,i7⟩
theorem KS.push (S:KS p q v1 v2 v3 mm x fm st ys ms vk vm L s){c:Nat}{v:AV}(h:c≠0/\c≠3/\c≠4/\c≠5/\c≠6/\c≠7):KS p q v1 v2 v3 mm x fm st ys ms vk vm ((c,v) :: L) s:=by
 obtain⟨k,nx,qn,hp,Cp,C0,C1,C2,C3,lk,lm,df,i0,i3,i4,i5,i6,i7⟩:=S;obtain⟨h0,h3,h4,h5,h6,h7⟩:=h;exact⟨k,nx,qn,hp,Cp,C0,C1,C2,C3,lk,lm,df,by rw[jb h0];exact i0,by rw[jb h3];exact i3,by rw[jb h4];exact i4,by rw[jb h5];exact i5,by rw[jb h6];exact i6,by rw[jb h7];exact i7⟩
theorem KS.wr (S:KS p q v1 v2 v3 mm x fm st ys ms vk vm L s){c o:Nat}{ds:List AV}{hi:Nat}(hc:hi<=c)(lk':Lv (q+4) hi s vk ys.length (fl eE ys) 6)(lm':Lv (q+4) hi s vm ms.length (fl mtE ms) 4)(hq:q+4<=hi)(hs:hi<=s.nx):KS p q v1 v2 v3 mm x fm st ys ms vk vm L (wr s c o ds):=by
 obtain⟨k,nx,qn,hp,Cp,C0,C1,C2,C3,lk,lm,df,i0,i3,i4,i5,i6,i7⟩:=S;have h4:=Cp.lt;exact⟨k.wr (.inr (by show st.nx<=_;omega)) _ _,by rw[jo];exact nx,qn,hp,ckX,ckX,ckX,ckX,ckX,((jA (.inr hc)).symm▸lk':Lv _ _ (Go.Sy.wr s c o ds) _ _ _ _).up (by rw[jo];exact hs),((jA (.inr hc)).symm▸lm':Lv _ _ (Go.Sy.wr s c o ds) _ _ _ _).up (by rw[jo];exact hs),df,i0,i3,i4,i5,i6,i7⟩
end
set_option maxHeartbeats 4000000 in
theorem jrc (hb:NB base){p q:Nat}{v1 v2 v3 mm:AV}{x:Ex}{fm b:Bool}{st:St}{ys:List Ex}{ms:List MtT}{vk vm:AV}{L:Sl}{s:St}(S:KS p q v1 v2 v3 mm x fm st ys ms vk vm L s)(hb2:(decide (ms.length=0) ||decide (2<ms.length) ||(YZ x.op && !fm))=b)(hml:ms.length<=1000000)(he:∀ m∈ms,wm m)
  (i13:Has L 13 (.int .i64 (qW x.op).1)) (i14:Has L 14 (.int .i64 (qW x.op).2)) (i15:Has L 15 (.bool b)) (K Kp:AV->St->Prop) (hK:KC p v1 v2 v3 mm fm st (X5 fm x.op x.num x.name x.line x.col ys ms) K Kp) :
  xC ε base jbh L s (iQ st K) (iP st Kp):=by
 have vl:=S.lm.len;have i7:=S.i7;have bq:Kc fm x.op ms=(b ||ms.any (jgp (qW x.op).1 (ms.getD 0 mt0).kind (ms.getD 0 mt0).enum)):=by rw[<-jor,<-hb2];rfl
 rw[(by unfold jbh;simp only[qq];rfl:jbh=_)];repeat'(first|apply jc<;>intro _|simp(disch:=first|exact dzG|fail) only[ja i7,vl,r8,γ,δ,ζ,η,θ])
 refine jZ ms.length (λk L s=>KS p q v1 v2 v3 mm x fm st ys ms vk vm L s/\Has L 13 (.int .i64 (qW x.op).1)/\Has L 14 (.int .i64 (qW x.op).2)/\Has L 15 (.bool (b ||(ms.take k).any (jgp (qW x.op).1 (ms.getD 0 mt0).kind (ms.getD 0 mt0).enum)))/\Has L 115 vm) (by first|assumption|omega) dc (by simp(disch:=decide) only[jf,jb]) (by simp(disch:=decide) only[jf,jb]) ?_ (λk L s v h=>⟨h.1.push dc,by simp(disch:=decide) only[jb];exact h.2⟩) (λk L s v h=>⟨h.1.push dc,by simp(disch:=decide) only[jb];exact h.2⟩) (λk L s hk hI hi hn=>?_) (λL s hI=>?_)
 ·refine⟨((S.push dc).push dc).push dc,?_⟩;simp(disch:=decide) only[jb,jf,QaG,List.any_nil,Bool.or_false];exact⟨i13,i14,i15,trivial⟩
 ·obtain⟨S,j13,j14,j15,j115⟩:=hI;have S0:=S;obtain⟨k',nx,qn,hp,Cp,C0,C1,C2,C3,lk,lm,df,j0,j3,j4,j5,j6,j7⟩:=S;have qnx:q+4<=st.nx+4:=om
  rcases lm with ⟨_,h9,_⟩|⟨d,rfl,h2,h3,C5,h5,h6⟩
  ·omega
  have e0:ms.getD 0 mt0=ms[0]:=by simp[Qad,show 0<ms.length by omega]
  have g0:(fl mtE ms).getD 0 .bad=.int .i64 ms[0].kind:=(vH Yl (i:=0) om (k:=0) dc).trans (by rw[UM];rfl);have g1:(fl mtE ms).getD 1 .bad=.str ms[0].enum:=(vH Yl (i:=0) om (k:=1) dc).trans (by rw[UM];rfl);have tk:List.take (k+1) ms=List.take k ms ++ [ms[k]]:=by rw[QbU,Qai hk];rfl
  rw[e0] at j15;rw[tk,e0,List.any_append,List.any_cons,List.any_nil,Bool.or_false];have S1:∀ ba:Bool,KS p q v1 v2 v3 mm x fm st ys ms vk (.slice d 0 ms.length ms.length 4 false) ((15,.bool ba) :: (17,.ptr s.nx 0) :: L) (Go.Sy.wr (Go.Sy.nw s [.int .i64 0,.str [],.int .i64 0,.int .i64 0]) s.nx 0 (mtE ms[k])):=λba=>
   (((S0.push dc).push dc).nw _).wr (c:=s.nx) (hi:=s.nx) (τ _) (ckX) (by have:=S0.lm;exact ckX) om (by rw[ji];omega)
  (have zz:=C5.r;(repeat'(first|apply jc<;>intro _|simp(disch:=first|exact jY|fail) only[ja j115,ja hi,ja hn,ja j13,ja j14,ja j15,ja j7,jfS Yl,g0,g1,C5.q,C5.r,r8,γ,δ,ζ,η,θ]));all_goals clear zz)
  all_goals simp(disch:=decide) only[jb,jf]
  all_goals refine⟨⟨S1 _,j13,j14,?_,j115⟩,hi,hn⟩
  all_goals apply Has.bool
  all_goals clear hb2 S1 S0 hK he hml bq C5 k' Cp C0 C1 C2 C3 lk df j0 j3 j4 j5 j6 j7 g0 g1 i13 i14 i15 j13 j14 j15 vl i7 e0 tk nx
  all_goals generalize List.any _ _=A at *
  all_goals unfold jgp
  all_goals cases b<;>cases A<;>simp_all<;>omega
 ·obtain⟨S,j13,j14,j15,j115⟩:=hI;rw[Qaf] at j15;exact jrb hb S bq he j13 j14 j15 K Kp hK
theorem KS.setp {p q:Nat}{v1 v2 v3 mm:AV}{x:Ex}{fm:Bool}{st:St}{ys:List Ex}{ms:List MtT}{vk vm:AV}{L:Sl}{s:St}(S:KS p q v1 v2 v3 mm x fm st ys ms vk vm L s)(b:Bool):KS p q v1 v2 v3 mm x b st ys ms vk vm L (Go.Sy.wr s p 4 [.bool b]):=by
 obtain⟨k,nx,qn,hp,Cp,C0,C1,C2,C3,lk,lm,df,i0,i3,i4,i5,i6,i7⟩:=S;have h0:=C0.lt;have h1:=C1.lt;have h2:=C2.lt;have h3:=C3.lt;exact⟨k.wr (.inl rfl) _ _,by rw[jo];exact nx,qn,hp,Cp.wr 4 [.bool b],ckX,ckX,ckX,ckX,ckX,ckX,df,i0,i3,i4,i5,i6,i7⟩
set_option maxHeartbeats 4000000 in
theorem jrd (hb:NB base){p q:Nat}{v1 v2 v3 mm:AV}{x:Ex}{fm fm2:Bool}{st:St}{ys:List Ex}{ms:List MtT}{vk vm:AV}{L:Sl}{s:St}(S:KS p q v1 v2 v3 mm x fm2 st ys ms vk vm L s)(hml:ms.length<=1000000)(he:∀ m∈ms,wm m)
  (i8:Has L 8 (.bool fm)) (K Kp:AV->St->Prop) (hK:KC p v1 v2 v3 mm fm st (X5 fm x.op x.num x.name x.line x.col ys ms) K Kp) :
  xC ε base jeT L s (iQ st K) (iP st Kp):=by
 have vl:=S.lm.len;have i7:=S.i7;have i0:=S.i0;have i3:=S.i3;have Cp:=S.cp;have C0:=S.c0;have hqp:q≠p:=by have:=S.hp;omega
 have S1:=S.setp fm;have C9:=S1.cp;have ee:∀ b,(decide (ms.length=0) ||decide (2<ms.length) ||(YZ x.op && !fm))=b->xC ε base jbh ((15,.bool b) :: (14,.int .i64 (qW x.op).2) :: (13,.int .i64 (qW x.op).1) :: L) (wr s p 4 [.bool fm]) (iQ st K) (iP st Kp):=λb hb2=>jrc hb (((S1.push dc).push dc).push dc) hb2 hml he (by simp(disch:=decide) only[jb,jf]) (by simp(disch:=decide) only[jb,jf]) (by simp only[jf]) K Kp hK;rw[(by unfold jeT;simp only[qq];rfl:jeT=_)]
 (have zz:=aI @Cp.r C0.r;(repeat'(first|apply jc<;>intro _|simp(disch:=first|exact jY|fail) only[ja i0,ja i3,ja i7,ja i8,vl,jnm hb,jqe hb,Cp.q,C0.q,Cp.r,C0.r,r8,γ,δ,ζ,η,θ]));all_goals clear zz)
 all_goals refine ee _ ?_
 all_goals clear ee S1 S hK
 all_goals clear vl
 all_goals(cases fm<;>simp_all<;>first|omega|(left;omega))
theorem Lr.bare {s:St}{v:AV}{n:Nat}{cs:List AV}(h:Lr s v n cs):Lr s.bare v n cs:=by
 rcases h with e|e|⟨b,m,z,x,e,h1,h2⟩
 ·exact .inl e
 ·exact .inr (.inl e)
 ·exact .inr (.inr ⟨b,m,z,x,e,h1,h2.bar⟩)
theorem Ck.bare {p:Nat}{v1 v2 v3 mm:AV}{vars:List VarT}{enums:List EnumT}{fm:Bool}{s:St}(h:Ck p v1 v2 v3 mm vars enums fm s):Ck p v1 v2 v3 mm vars enums fm s.bare:=⟨h.cl.bar,h.l1.bare,h.l2.bare,h.n1,h.n2⟩
section
variable {p q:Nat} {v1 v2 v3 mm:AV} {x:Ex} {fm:Bool} {st:St} {ys:List Ex} {ms:List MtT} {vk vm:AV} {L:Sl} {s t:St}
theorem KS.keep' (S:KS p q v1 v2 v3 mm x fm st ys ms vk vm L s)(k:Keep p s t){fm':Bool}(C:Cl t p [v1,v2,v3,mm,.bool fm']):KS p q v1 v2 v3 mm x fm' st ys ms vk vm L t:=by
 obtain⟨k',nx,qn,hp,Cp,C0,C1,C2,C3,lk,lm,df,i0,i3,i4,i5,i6,i7⟩:=S;exact⟨k'.trans k,by have:=k.nx;omega,qn,hp,C,k.cl C0 om,k.cl C1 om,k.cl C2 om,k.cl C3 om,(k.lv lk (.inl om)).up k.nx,(k.lv lm (.inl om)).up k.nx,df,i0,i3,i4,i5,i6,i7⟩
theorem KS.kid (S:KS p q v1 v2 v3 mm x fm st ys ms vk vm L s)(y:Ex):KS p q v1 v2 v3 mm x fm st (ys ++ [y]) ms (apv 6 vk s) vm L (Go.Sy.wr (Go.Sy.aps vk s (eE y)) (q+3) 3 [apv 6 vk s]):=by
 obtain⟨k,nx,qn,hp,Cp,C0,C1,C2,C3,lk,lm,df,i0,i3,i4,i5,i6,i7⟩:=S;have hn:(Go.Sy.wr (Go.Sy.aps vk s (eE y)) (q+3) 3 [apv 6 vk s]).nx=s.nx+1:=by rw[jo,jr]
 have h4:=Cp.lt;have cq:∀ c ds,Cl s c ds->c<q+4->c≠q+3->Cl (Go.Sy.wr (Go.Sy.aps vk s (eE y)) (q+3) 3 [apv 6 vk s]) c ds:=λc ds C h h3=>by
  rw[jB h3,lk.cl s (eE y) ds c (.inl h) om];exact C
 refine⟨(k.aps lk (by show st.nx<=_;omega) (eE y)).wr (.inr (by show st.nx<=_;omega)) _ _,by rw[hn];omega,qn,hp,cq _ _ Cp om om,cq _ _ C0 om om,cq _ _ C1 om om,cq _ _ C2 om om,?_,?_,?_,?_,i0,i3,i4,i5,i6,i7⟩
 ·have:=(cast (lk.cl s (eE y) _ (q+3) (.inl om) om).symm C3:Cl (Go.Sy.aps vk s (eE y)) (q+3) _);exact this.wr 3 [apv 6 vk s]
 ·rw[hn,jA (.inl om),ψ,QX,JZ];exact lk.put (zK y) om rfl
 ·rw[hn,jA (.inl om)];exact(lm.apsD df).up om
 ·exact(Df.put lm (τ _)).1
theorem KS.mt (S:KS p q v1 v2 v3 mm x fm st ys ms vk vm L s)(m:MtT):KS p q v1 v2 v3 mm x fm st ys (ms ++ [m]) vk (apv 4 vm s) ((7,apv 4 vm s) :: L) (Go.Sy.aps vm s (mtE m)):=by
 obtain⟨k,nx,qn,hp,Cp,C0,C1,C2,C3,lk,lm,df,i0,i3,i4,i5,i6,i7⟩:=S;have hn:(Go.Sy.aps vm s (mtE m)).nx=s.nx+1:=by rw[jr]
 have h4:=Cp.lt;have cq:∀ c ds,Cl s c ds->c<q+4->Cl (Go.Sy.aps vm s (mtE m)) c ds:=λc ds C h=>by
  rw[lm.cl s (mtE m) ds c (.inl h) om];exact C
 refine⟨k.aps lm (by show st.nx<=_;omega) (mtE m),by rw[hn];omega,qn,hp,cq _ _ Cp om,cq _ _ C0 om,cq _ _ C1 om,cq _ _ C2 om,cq _ _ C3 om,?_,?_,?_,?_,?_,?_,?_,?_,?_⟩
 ·rw[hn];exact(lk.apsD (Df.symm df)).up om
 ·rw[hn,ψ,QX,JZ];exact lm.put (Yl m) om rfl
 ·exact(Df.put lk (τ _)).2
 ·rw[jb dc];exact i0
 ·rw[jb dc];exact i3
 ·rw[jb dc];exact i4
 ·rw[jb dc];exact i5
 ·rw[jb dc];exact i6
 ·rw[jf];trivial
end
mutual
def wo:Ex->Bool
 |.mk _ _ _ ks _ _=>decide (ks.length<=1000000) && YV ks
def YV:List Ex->Bool
 |[]=>true
 |x :: xs=>wo x && YV xs
end
theorem Vi:∀ {xs:List Ex} {k:Nat} (h:k<xs.length),YV xs=true->wo xs[k]=true
 |x :: xs,0,_,h=>by rw[YV,Qaa] at h;exact h.1
 |x :: xs,k+1,hk,h=>by rw[YV,Qaa] at h;exact Vi (xs:=xs) (k:=k) (by simpa using hk) h.2
def KE (base:Bs)(vars:List VarT)(enums:List EnumT)(x:Ex):Prop:=∀ (p:Nat) (v1 v2 v3 mm:AV) (fm:Bool) (st:St),Ck p v1 v2 v3 mm vars enums fm st->∀ K Kp,KC p v1 v2 v3 mm fm st (ya vars enums fm x) K Kp->XB ε base 103 [.ptr p 0,.agg (eE x)] st K Kp
set_option maxHeartbeats 4000000 in
theorem jre (hb:NB base){vars:List VarT}{enums:List EnumT}(V:VarsOK vars enums){p q:Nat}{v1 v2 v3 mm:AV}{x:Ex}{fm fm2:Bool}{st:St}{vk vm:AV}{L:Sl}{s:St}(ih:∀ k∈x.kids,KE base vars enums k)(hn:Qn x.kids=true)(hw:x.kids.length<=1000000)(H:Ck p v1 v2 v3 mm vars enums fm st)(S:KS p q v1 v2 v3 mm x fm2 st [] [] vk vm L s)
  (i8:Has L 8 (.bool fm)) (K Kp:AV->St->Prop) (hK:KC p v1 v2 v3 mm fm st (match qd vars enums fm2 x.kids with
   |.er a b d=>.er a b d
   |.ok r=>X5 fm x.op x.num x.name x.line x.col r.1 r.2) K Kp) :
  xC ε base jbi L s (iQ st K) (iP st Kp):=by
 have C0:=S.c0;have i3:=S.i3;rw[(by unfold jbi;simp only[qq];rfl:jbi=_)]
 (have zz:=C0.r;(repeat'(first|apply jc<;>intro _|simp(disch:=first|exact jY|fail) only[ja i3,C0.q,C0.r,r8,γ,δ,ζ,η,θ]));all_goals clear zz)
 refine jZ x.kids.length (λk L s=>∃ ys ms vk vm,KS p q v1 v2 v3 mm x fm2 st ys ms vk vm L s/\qd vars enums fm2 (x.kids.take k)=.ok (ys,ms)/\Has L 8 (.bool fm)/\Has L 62 (.lst x.kids.length (fl eE x.kids))) (by first|assumption|omega) dc (by simp(disch:=decide) only[jf,jb]) (by simp(disch:=decide) only[jf,jb]) ?_ (λk L s v h=>(by obtain⟨ys,ms,vk,vm,h1,h2,h3,h4⟩:=h;exact⟨ys,ms,vk,vm,h1.push dc,h2,by simp(disch:=decide) only[jb];exact h3,by simp(disch:=decide) only[jb];exact h4⟩)) (λk L s v h=>(by obtain⟨ys,ms,vk,vm,h1,h2,h3,h4⟩:=h;exact⟨ys,ms,vk,vm,h1.push dc,h2,by simp(disch:=decide) only[jb];exact h3,by simp(disch:=decide) only[jb];exact h4⟩)) (λk L s hk hI hi hn=>?_) (λL s hI=>?_)
 ·refine⟨[],[],vk,vm,((S.push dc).push dc).push dc,by rw[QaG,qd],?_,?_⟩
  ·simp(disch:=decide) only[jb];exact i8
  ·simp(disch:=decide) only[jb,jf]
 ·obtain⟨ys,ms,vk,vm,S,he,j8,j62⟩:=hI;have Cp:=S.cp;have C3:=S.c3;have j0:=S.i0;have j6:=S.i6;have j7:=S.i7;repeat'(first|apply jc<;>intro _|simp(disch:=first|exact dzG|fail) only[ja j0,ja j62,ja hi,ja hn,r8,γ,δ,ζ,η,θ])
  have S0:KS p q v1 v2 v3 mm x fm2 st ys ms vk vm ((10,.ptr s.nx 0) :: L) (Go.Sy.wr (Go.Sy.nw s [.int .i64 0,.int .i64 0,.str [],.nils,.int .i64 0,.int .i64 0]) s.nx 0 (eE x.kids[k])):=
   ((S.push dc).nw _).wr (c:=s.nx) (hi:=s.nx) (τ _) (by have:=S.lk;exact ckX) (by have:=S.lm;exact ckX) S.nx (by rw[ji];omega)
  refine ih x.kids[k] (Qac hk) p v1 v2 v3 mm fm2 _ (H.bare.keep S0.keep S0.cp) _ _ ?_;cases hx:ya vars enums fm2 x.kids[k] with
  |er a b d=>
   intro s' hk';have e:qd vars enums fm2 x.kids=.er a b d:=by
    have:=HI (x.kids.drop (k+1)) he hx;rwa [QbM,Qbp] at this
   rw[e] at hK;exact hK _ (YT (S0.keep.trans hk'))
  |ok w=>
   intro s' hk' hC;have S1:=S0.keep' hk' hC;obtain⟨y,m⟩:=w;have he':qd vars enums fm2 (x.kids.take (k+1))=.ok (ys ++ [y],ms ++ [m]):=by
    rw[QbU,Qai hk];exact HG he hx
   generalize Go.Sy.wr (Go.Sy.nw s [.int .i64 0,.int .i64 0,.str [],.nils,.int .i64 0,.int .i64 0]) s.nx 0 (eE x.kids[k])=t0 at *;clear S0;have A1:=λst bv xc xx K h hv=>@JS (q+4) s'.nx ys.length 6 st vk (fl eE ys) K 72 bv xc xx h dc (by have:=Jc he;rw[Qat] at this;omega) (by have:=Jc he;rw[Qat] at this;omega) hv;have vk1:=S1.lk;have vm1:=S1.lm;have hq:=S1.nx;have C3':=S1.c3;have S2:=((((S1.push (c:=11) (v:=.ptr s'.nx 0) dc).push (c:=12) (v:=.ptr (s'.nx+1) 0) dc).nw [.int .i64 0,.int .i64 0,.str [],.nils,.int .i64 0,.int .i64 0]).nw [.int .i64 0,.str [],.int .i64 0,.int .i64 0]).wr (c:=s'.nx) (o:=0) (ds:=eE y) (hi:=s'.nx) (τ _) (ckX) (ckX) hq (by(first|omega|(simp only[ji,jo,ju,jr,jq];first|done|omega)));have S2:=(S2.wr (c:=s'.nx+1) (o:=0) (ds:=mtE m) (hi:=s'.nx) om (ckX) (ckX) hq (by(first|omega|(simp only[ji,jo,ju,jr,jq];first|done|omega)))).nw (eE y);have S4:=(S2.kid y).nw (mtE m);have A2:=λbv xc xx K hv=>@JS (q+4) _ ms.length 4 _ vm (fl mtE ms) K 40 bv xc xx S4.lm dc (by have:=Jc he;rw[Qat] at this;omega) (by have:=Jc he;rw[Qat] at this;omega) hv
   (have zz:=aI @vk1.ln (aI @vk1.rts (aI @jA (aI @jF (aI @jJ (aI @vk1 (aI @vm1 (aI @jC (aI @jI (aI @jL @C3'.r)))))))));(repeat'(first|apply jc<;>intro _|simp(disch:=first|exact jY|fail) only[ja j0,ja j6,ja j7,A1,A2,vk1.at,jC,C3'.q,vk1.ln,vk1.rts,jA,jF,jJ,vk1,vm1,jC,jI,jL,C3'.r,r8,γ,δ,ζ,η,θ]));all_goals clear zz)
   refine⟨⟨_,_,_,_,S4.mt m,he',?_,?_⟩,?_,?_⟩;all_goals(simp(disch:=decide) only[jb];assumption)
 ·obtain⟨ys,ms,vk,vm,S,he,j8,j62⟩:=hI;rw[Qaf] at he;rw[he] at hK;refine jrd hb S ?_ ?_ j8 K Kp hK
  ·have:=Jc he;omega
  ·exact kw V hn he
set_option maxHeartbeats 4000000 in
theorem jrf (hb:NB base){vars:List VarT}{enums:List EnumT}(V:VarsOK vars enums){p q:Nat}{v1 v2 v3 mm:AV}{x:Ex}{fm:Bool}{st:St}{L:Sl}{s:St}(ih:∀ k∈x.kids,KE base vars enums k)(hn:Qn x.kids=true)(hw:x.kids.length<=1000000)(H:Ck p v1 v2 v3 mm vars enums fm st)(hop:x.op≠1/\x.op≠2/\x.op≠3)
  (k:Keep p st.bare s) (hs:s.nx=q+3) (qn:q=st.nx) (hp:p<q) (Cp:Cl s p [v1,v2,v3,mm,.bool fm]) (C0:Cl s q (eE x)) (C1:Cl s (q+1) z6) (C2:Cl s (q+2) z4) (i0:Has L 0 (.ptr p 0)) (i3:Has L 3 (.ptr q 0)) (i4:Has L 4 (.ptr (q+1) 0)) (i5:Has L 5 (.ptr (q+2) 0)) (K Kp:AV->St->Prop) (hK:KC p v1 v2 v3 mm fm st (ya vars enums fm x) K Kp) :
  xC ε base jeU L s (iQ st K) (iP st Kp):=by
 rw[WS,if_neg hop.1,if_neg hop.2.1,if_neg hop.2.2] at hK;have hqp:q+3≠p:=om
 have hq3:q≠p:=om
 have hpq:p≠q+3:=om
 have S0:KS p q v1 v2 v3 mm x fm st [] [] .nils .nils ((8,.bool fm) :: (7,.nils) :: (6,.ptr (q+3) 0) :: L) (Go.Sy.wr (Go.Sy.wr (Go.Sy.nw s [.int .i64 0,.int .i64 0,.str [],.nils,.int .i64 0,.int .i64 0]) (q+3) 0 [.int .i64 x.op,.int .i64 x.num,.str x.name,.lst x.kids.length (fl eE x.kids),.int .i64 x.line,.int .i64 x.col]) (q+3) 3 [.nils]):=by
  refine⟨((k.nw _).wr (.inr (by show st.nx<=_;omega)) _ _).wr (.inr (by show st.nx<=_;omega)) _ _,by(first|omega|(simp only[ji,jo,ju,jr,jq];first|done|omega)),qn,hp,ckX,ckX,ckX,ckX,?_,Lv.nil,Lv.nil,trivial,?_,?_,?_,?_,?_,?_⟩
  ·have:=((hs▸Cl.new s [.int .i64 0,.int .i64 0,.str [],.nils,.int .i64 0,.int .i64 0]:Cl (Go.Sy.nw s [.int .i64 0,.int .i64 0,.str [],.nils,.int .i64 0,.int .i64 0]) (q+3) _).wr 0 [.int .i64 x.op,.int .i64 x.num,.str x.name,.lst x.kids.length (fl eE x.kids),.int .i64 x.line,.int .i64 x.col]).wr 3 [.nils];exact this
  all_goals(simp(disch:=decide) only[jb,jf];try assumption)
 have ee:∀ b,(fm && decide (x.op≠17) && decide (x.op≠18))=b->xC ε base jbi ((8,.bool fm) :: (7,.nils) :: (6,.ptr (q+3) 0) :: L) (Go.Sy.wr (Go.Sy.wr (Go.Sy.wr (Go.Sy.nw s [.int .i64 0,.int .i64 0,.str [],.nils,.int .i64 0,.int .i64 0]) (q+3) 0 [.int .i64 x.op,.int .i64 x.num,.str x.name,.lst x.kids.length (fl eE x.kids),.int .i64 x.line,.int .i64 x.col]) (q+3) 3 [.nils]) p 4 [.bool b]) (iQ st K) (iP st Kp):=λb e=>by
  rw[e] at hK;exact jre hb V ih hn hw H (S0.setp b) (by simp only[jf]) K Kp hK
 rw[(by unfold jeU;simp only[qq];rfl:jeU=_)]
 (have zz:=aI @hs (aI @Cp.r C0.r);(repeat'(first|apply jc<;>intro _|simp(disch:=first|exact jY|fail) only[ja i0,ja i3,hs,Cp.q,C0.q,hs,Cp.r,C0.r,r8,γ,δ,ζ,η,θ]));all_goals clear zz)
 all_goals refine ee _ ?_
 all_goals clear ee S0 hK
 all_goals(cases fm<;>simp_all)
theorem jrg (hb:NB base){vars:List VarT}{enums:List EnumT}(V:VarsOK vars enums){p q:Nat}{v1 v2 v3 mm:AV}{x:Ex}{fm:Bool}{st:St}{L:Sl}{s:St}(ih:∀ k∈x.kids,KE base vars enums k)(hn:Qn x.kids=true)(hw:x.kids.length<=1000000)(H:Ck p v1 v2 v3 mm vars enums fm st)
  (k:Keep p st.bare s) (hs:s.nx=q+3) (qn:q=st.nx) (hp:p<q) (Cp:Cl s p [v1,v2,v3,mm,.bool fm]) (C0:Cl s q (eE x)) (C1:Cl s (q+1) z6) (C2:Cl s (q+2) z4) (i0:Has L 0 (.ptr p 0)) (i3:Has L 3 (.ptr q 0)) (i4:Has L 4 (.ptr (q+1) 0)) (i5:Has L 5 (.ptr (q+2) 0)) (K Kp:AV->St->Prop) (hK:KC p v1 v2 v3 mm fm st (ya vars enums fm x) K Kp) :
  xC ε base Z8 L s (iQ st K) (iP st Kp):=by
 have nk:=λK Kp=>jnY hb V x s (H.bare.keep k Cp) K Kp;have fin:∀ (y:Ex) (m:MtT) (s':St),Keep p st.bare s'->Cl s' p [v1,v2,v3,mm,.bool fm]->ya vars enums fm x=.ok (y,m)->∃ u ks,fz 9 s'.h (.tup [.agg (eE y),.agg (mtE m)])=some (u,ks)/\K u (back st (kills ks s')):=λy m s' k' C h=>by
  rw[h] at hK;exact U0 (m:=st.nx) (cs:=[v1,v2,v3,mm,.bool fm]) (FzD.tup (.cons (FzD.agg (.pc (qZ y))) (.cons (.agg (.pc (ZR m))) .nil))) (τ _) om k' C hK
 by_cases h1:x.op=1
 ·have e:=WS vars enums fm x;rw[if_pos h1] at e;unfold iQ iP y97;rw[(by unfold Z8;simp only[qq];rfl:Z8=_)];unfold z6 z4 at *;have f:=fin x ⟨1,[],x.num,x.num⟩ (Go.Sy.wr (Go.Sy.wr s (q+1) 0 (eE x)) (q+2) 0 (mtE ⟨1,[],x.num,x.num⟩)) ((k.wr (.inr (by show st.nx<=_;omega)) _ _).wr (.inr (by show st.nx<=_;omega)) _ _) (ckX) e;rw[qJ,h1] at f
  (have zz:=aI @Cp.r (aI C0.r (aI C1.r C2.r));(repeat'(first|apply jc<;>intro _|simp(disch:=first|exact jY|fail) only[ja i0,ja i3,ja i4,ja i5,h1,Q3,sm2,Cp.q,C0.q,C1.q,C2.q,Cp.r,C0.r,C1.r,C2.r,r8,γ,δ,ζ,η,θ]));all_goals clear zz)
  refine⟨?_,f⟩;have a1:rat s.h q 1=.int .i64 x.num:=(C0.cell 1 (by rw[zK];decide)).trans (by rw[GN];rfl);exact⟨(sm2 (by rw[C0.len,zK];decide) a1 rfl).mpr trivial,(sm2 (by rw[Xj,C0.len,zK];decide) (by rw[Z6 om];exact a1) rfl).mpr trivial⟩
 ·by_cases h2:x.op=2
  ·have e:=WS vars enums fm x;rw[if_neg h1,if_pos h2] at e;unfold iQ iP y97;rw[(by unfold Z8;simp only[qq];rfl:Z8=_)];unfold z6 z4 at *;have f:=fin x ⟨2,[],0,1⟩ (Go.Sy.wr (Go.Sy.wr s (q+1) 0 (eE x)) (q+2) 0 (mtE ⟨2,[],0,1⟩)) ((k.wr (.inr (by show st.nx<=_;omega)) _ _).wr (.inr (by show st.nx<=_;omega)) _ _) (ckX) e;rw[qJ,h2] at f
   (have zz:=aI @Cp.r (aI C0.r (aI C1.r C2.r));(repeat'(first|apply jc<;>intro _|simp(disch:=first|exact jY|fail) only[ja i0,ja i3,ja i4,ja i5,h2,Cp.q,C0.q,C1.q,C2.q,Cp.r,C0.r,C1.r,C2.r,r8,γ,δ,ζ,η,θ]));all_goals clear zz)
   exact f
  ·by_cases h3:x.op=3
   ·have e:=WS vars enums fm x;rw[if_neg h1,if_neg h2,if_pos h3] at e;rw[qJ,h3] at nk;unfold z6 z4 at *;cases hr:zh vars enums x with
    |er a b d=>
     rw[e,hr] at hK;rw[hr] at nk;rw[(by unfold Z8;simp only[qq];rfl:Z8=_)]
     (have zz:=aI @Cp.r (aI C0.r (aI C1.r C2.r));(repeat'(first|apply jc<;>intro _|simp(disch:=first|exact jY|fail) only[ja i0,ja i3,ja i4,ja i5,h3,nk,kO,jfz,Cp.q,C0.q,C1.q,C2.q,Cp.r,C0.r,C1.r,C2.r,r8,γ,δ,ζ,η,θ]));all_goals clear zz)
     exact hK _ (YT k)
    |ok y=>
     obtain⟨y,m⟩:=y;have f:=fin y m (Go.Sy.wr (Go.Sy.wr s (q+1) 0 (eE y)) (q+2) 0 (mtE m)) ((k.wr (.inr (by show st.nx<=_;omega)) _ _).wr (.inr (by show st.nx<=_;omega)) _ _) (ckX) (e.trans hr);rw[hr] at nk;unfold iQ iP y97;rw[(by unfold Z8;simp only[qq];rfl:Z8=_)]
     (have zz:=aI @Cp.r (aI C0.r (aI C1.r C2.r));(repeat'(first|apply jc<;>intro _|simp(disch:=first|exact jY|fail) only[ja i0,ja i3,ja i4,ja i5,h3,nk,kO,Jl,Cp.q,C0.q,C1.q,C2.q,Cp.r,C0.r,C1.r,C2.r,r8,γ,δ,ζ,η,θ]));all_goals clear zz)
     exact f
   ·have ee:=λL (j0:Has L 0 (.ptr p 0)) (j3:Has L 3 (.ptr q 0)) (j4:Has L 4 (.ptr (q+1) 0)) (j5:Has L 5 (.ptr (q+2) 0))=>jrf hb V ih hn hw H ⟨h1,h2,h3⟩ k hs qn hp Cp C0 C1 C2 j0 j3 j4 j5 K Kp hK;rw[(by unfold Z8;simp only[qq];rfl:Z8=_)]
    (have zz:=C0.r;(repeat'(first|apply jc<;>intro _|simp(disch:=first|exact jY|fail) only[ja i0,ja i3,h1,h2,h3,C0.q,C0.r,r8,γ,δ,ζ,η,θ]));all_goals clear zz)
    refine ee _ ?_ ?_ ?_ ?_;all_goals(simp(disch:=decide) only[jb];assumption)
theorem jra (hb:NB base){vars:List VarT}{enums:List EnumT}(V:VarsOK vars enums):∀ x:Ex,ZQ x=true->wo x=true->KE base vars enums x:=by
 refine Ex.indk λx ih hn hw p v1 v2 v3 mm fm st H K Kp hK=>?_;have hn':Qn x.kids=true:=by cases x;rw[ZQ,Qaa] at hn;exact hn.2
 have hw':x.kids.length<=1000000/\YV x.kids=true:=by cases x;rw[wo,Qaa,decide_eq_true_eq] at hw;exact hw
 have ih':∀ k∈x.kids,KE base vars enums k:=λk hk=>by
  obtain⟨i,hi,rfl⟩:=Qbs.1 hk;exact ih _ hk (Hr hi hn') (Vi hi hw'.2)
 refine WU x97 (by rfl) (hb.pur 103 2 dc) (hb.no 103 dc _ _) ?_;simp only[y97,jt,κ,μ,ν,ξ];have Cp:=H.cl.bar;have h0:p<st.nx:=H.cl.lt;have hB:st.bare.nx=st.nx:=rfl;rw[(by unfold z97;simp only[qq];rfl:z97=_)]
 (have zz:=@Cp.r;(repeat'(first|apply jc<;>intro _|simp(disch:=first|exact jY|fail) only[Cp.q,Cp.r,r8,γ,δ,ζ,η,θ]));all_goals clear zz)
 have Hc:=H.cl;have n0:Cl (Go.Sy.nw st.bare (eE x)) st.nx (eE x):=Cl.new st.bare (eE x);have n1:Cl (Go.Sy.nw (Go.Sy.nw st.bare (eE x)) z6) (st.nx+1) z6:=Cl.new _ _;have n2:Cl (Go.Sy.nw (Go.Sy.nw (Go.Sy.nw st.bare (eE x)) z6) z4) (st.nx+2) z4:=Cl.new _ _;refine jrg (L:=[(5,.ptr (st.nx+1+1) 0),(4,.ptr (st.nx+1) 0),(3,.ptr st.nx 0),(0,.ptr p 0),(1,.agg (eE x))]) (s:=Go.Sy.nw (Go.Sy.nw (Go.Sy.nw st.bare (eE x)) z6) z4) (st:=st) hb V ih' hn' hw'.1 H ((((Keep.refl (s:=st.bare)).nw _).nw _).nw _) rfl rfl h0 (ckX) (ckX) (ckX) n2 ?_ ?_ ?_ ?_ K Kp hK;all_goals exact⟨rfl,rfl⟩
end Go.Sy
end
noncomputable section
set_option maxRecDepth 100000
namespace Go.Sy
open Go.Ev Go.Proofs
variable {base:Bs}
def yC (vars:List VarT)(enums:List EnumT)(fm:Bool)(x:Ex)(w:Int)(en:List Nat):KR Ex:=match ya vars enums fm x with
 |.er a b c=>.er a b c
 |.ok r=>if r.2.kind≠w\/r.2.enum≠en then .er 163 x.line x.col else .ok r.1
def KT (p:Nat)(v1 v2 v3 mm:AV)(fm:Bool)(st:St)(r:KR Ex)(K Kp:AV->St->Prop):Prop:=match r with
 |.ok y=>∀ s',Keep p st s'->Cl s' p [v1,v2,v3,mm,.bool fm]->K (.agg (eE y)) s'
 |.er c l k=>∀ s',Keep p st s'->Kp (kf c l k) s'
set_option maxHeartbeats 4000000 in
theorem Ux (hb:NB base){vars:List VarT}{enums:List EnumT}(V:VarsOK vars enums)(x:Ex)(hn:ZQ x=true)(hw:wo x=true)(w:Int)(en:List Nat){p:Nat}{v1 v2 v3 mm:AV}{fm:Bool}{st:St}(H:Ck p v1 v2 v3 mm vars enums fm st)(K Kp:AV->St->Prop)(hK:KT p v1 v2 v3 mm fm st (yC vars enums fm x w en) K Kp):XB ε base 75 [.ptr p 0,.agg (eE x),.int .i64 w,.str en] st K Kp:=by
 refine WU x60 (by rfl) (hb.pur 75 2 dc) (hb.no 75 dc _ _) ?_;simp only[y60,jt,κ,μ,ν,ξ];have Hc:=H.cl;have Cp:=H.cl.bar;have h0:p<st.nx:=H.cl.lt;have hB:st.bare.nx=st.nx:=rfl;have k1:Keep p st.bare (Go.Sy.nw (Go.Sy.nw st.bare (eE x)) [.int .i64 0,.int .i64 0,.str [],.nils,.int .i64 0,.int .i64 0]):=(Keep.refl.nw _).nw _;have C1:Cl (Go.Sy.nw (Go.Sy.nw st.bare (eE x)) [.int .i64 0,.int .i64 0,.str [],.nils,.int .i64 0,.int .i64 0]) p [v1,v2,v3,mm,.bool fm]:=ckX
 have n0:Cl (Go.Sy.nw st.bare (eE x)) st.nx (eE x):=Cl.new st.bare (eE x);have n0:Cl (Go.Sy.nw (Go.Sy.nw st.bare (eE x)) [.int .i64 0,.int .i64 0,.str [],.nils,.int .i64 0,.int .i64 0]) st.nx (eE x):=ckX
 have n1:Cl (Go.Sy.nw (Go.Sy.nw st.bare (eE x)) [.int .i64 0,.int .i64 0,.str [],.nils,.int .i64 0,.int .i64 0]) (st.nx+1) [.int .i64 0,.int .i64 0,.str [],.nils,.int .i64 0,.int .i64 0]:=Cl.new _ _;rw[(by unfold z60;simp only[qq];rfl:z60=_)];repeat'(first|apply jc<;>intro _|simp(disch:=first|exact dzG|fail) only[r8,γ,δ,ζ,η,θ])
 refine jra hb V x hn hw p v1 v2 v3 mm fm _ (H.bare.keep k1 C1) _ _ ?_;unfold yC at hK;cases hr:ya vars enums fm x with
 |er a b c=>
  rw[hr] at hK;intro s' k2;exact hK _ (YT (k1.trans k2))
 |ok y=>
  rw[hr] at hK;obtain⟨y,m⟩:=y;intro s' k2 C2;have k3:=k1.trans k2;have m0:=k2.cl n0 om;have m1:=k2.cl n1 om;have hnx:=k2.nx;have hnx:st.nx+2<=s'.nx:=hnx;have hK:KT p v1 v2 v3 mm fm st (if m.kind≠w\/m.enum≠en then .er 163 x.line x.col else .ok y) K Kp:=hK;generalize Go.Sy.nw (Go.Sy.nw st.bare (eE x)) [.int .i64 0,.int .i64 0,.str [],.nils,.int .i64 0,.int .i64 0]=t0 at *
  (have zz:=aI @m0.r @m1.r;(repeat'(first|apply jc<;>intro _|simp(disch:=first|exact jY|fail) only[zZ hb,m0.q,m1.q,m0.r,m1.r,r8,γ,δ,ζ,η,θ]));all_goals clear zz)
  ·rw[if_pos (.inl (by assumption))] at hK;exact hK _ (YT ((((k3.nw _).nw _).wr (.inr (by show st.nx<=_;omega)) _ _).wr (.inr (by show st.nx<=_;omega)) _ _))
  ·rw[if_pos (.inr (by assumption))] at hK;exact hK _ (YT ((((k3.nw _).nw _).wr (.inr (by show st.nx<=_;omega)) _ _).wr (.inr (by show st.nx<=_;omega)) _ _))
  ·rename_i h1 h2;rw[if_neg (by rintro (h|h)<;>contradiction)] at hK;refine U0 (m:=st.nx) (cs:=[v1,v2,v3,mm,.bool fm]) (FzD.agg (.pc (qZ y))) (τ _) h0 (((((k3.nw _).nw _).wr (.inr (by show st.nx<=_;omega)) _ _).wr (.inr (by show st.nx<=_;omega)) _ _).wr (.inr (by show st.nx<=_;omega)) _ _) (ckX) hK
section
variable {P:Program} {e:En} {st s:St} {K:AV->St->Prop}
def jfE (st:St):ER:=st.alloc (.map []) λb st=>.ok (.map b) st
def jfF (P:Program)(t:TypeId)(ok:Bool)(m k:AV)(st:St):ER:=(XL P t (O m) (O k) ok).run E0 st
def jkC (P:Program)(t:TypeId)(m k v:AV)(st:St):ER:=(Jw P t (O m) (O k) (O v)).run E0 st
theorem jsN:wK P base (.i .mkMap) e st K=jp (jfE st) K:=k_0 (V:=jfE) rfl (λ_=>rfl) K
theorem jii (t:TypeId)(m k:A)(ok:Bool):wK P base (.i (.look t m k ok)) e st K=on1 e m λv=>on1 e k λu=>jp (jfF P t ok v u st) K:=k_2 rfl (λ_=>rfl) K
theorem jmL (t:TypeId)(m k x:A):wK P base (.i (.upd t m k x)) e st K=on1 e m λv=>on1 e k λu=>on1 e x λw=>jp (jkC P t v u w st) K:=k_3 rfl (λ_=>rfl) K
def mpl (ts:List (List Nat)):List (AV×AV):=ts.map λt=>(.str t,.int .i64 1)
def mp (s:St)(b:Nat)(es:List (AV×AV)):St:=⟨s.nx,(qf (jM b)).run (.map es) s.h,min s.dirty b,s.fr⟩
def nmp (s:St):St:=⟨s.nx+1,(qf (jM s.nx)).run (.map []) s.h,s.dirty,s.fr⟩
theorem jfA (s:St)(b:Nat)(es:List (AV×AV)):(mp s b es).nx=s.nx:=nr rfl
theorem jsH (s:St):(nmp s).nx=s.nx+1:=nr rfl
theorem gt (s:St)(b c:Nat)(es:List (AV×AV)):jy (mp s b es).h c=if c=b then some (.map es) else jy s.h c:=by unfold mp;rw[qb]
theorem jis (s:St)(c:Nat):jy (nmp s).h c=if c=s.nx then some (.map []) else jy s.h c:=by unfold nmp;rw[qb]
structure Mp (s:St)(b:Nat)(ts:List (List Nat)):Prop where
 lt:b<s.nx
 get:jy s.h b=some (.map (mpl ts))
theorem Mp.new (s:St):Mp (nmp s) s.nx []:=⟨by rw[jsH];omega,by rw[jis,if_pos rfl];rfl⟩
theorem Mp.keep {b:Nat}{ts:List (List Nat)}{t:St}(h:Mp s b ts)(h1:s.nx<=t.nx)(h2:jy t.h b=jy s.h b):Mp t b ts:=⟨Qax h.lt h1,h2.trans h.get⟩
theorem Mp.put {b:Nat}{ts us:List (List Nat)}(h:Mp s b ts):Mp (mp s b (mpl us)) b us:=⟨by rw[jfA];exact h.lt,by rw[gt,if_pos rfl]⟩
theorem jsf:jp (jfE st) K=K (.map st.nx) (nmp st):=by
 unfold jfE;rw[St.alloc_eq];rfl
end
theorem jmi:Tryz.prog.underlying 89=some (.map 9 3):=by kernel_rfl
theorem jp9:Tryz.prog.underlying 9=some .string:=by kernel_rfl
theorem ze3:Kf ε 3=some (.int .i64 0):=by kernel_rfl
theorem kf9 (s:List Nat):(wa ε 9).run (.str s)=true:=by unfold wa;rw[jp9]
theorem eq9 (s t:List Nat):(eqF ε 20 9).run (.str s) (.str t)=some (decide (s=t)):=by
 show(eqF ε (19+1) 9).run (.str s) (.str t)=_;unfold eqF;rw[jp9,<-J4]
theorem jet (nm:List Nat):∀ ts:List (List Nat),WZ (eqF ε 20 9) (.str nm) (mpl ts)=some (if nm∈ts then some (.int .i64 1) else none)
 |[]=>rfl
 |t :: ts=>by
  show(match (eqF ε 20 9).run (.str nm) (.str t) with|some b=>cond b (some (some (AV.int .i64 1))) (WZ (eqF ε 20 9) (.str nm) (mpl ts))|none=>none)=_;rw[eq9,jet nm ts];by_cases h:nm=t
  ·simp[h]
  ·simp[h]
theorem jha (nm:List Nat):∀ ts:List (List Nat),nm∉ts->Vm (eqF ε 20 9) (.str nm) (.int .i64 1) (mpl ts)=some (mpl (ts ++ [nm]))
 |[],_=>rfl
 |t :: ts,h=>by
  have h1:nm≠t:=λe=>h (by simp[e]);have h2:=jha nm ts λe=>h (by simp[e]);show(match (eqF ε 20 9).run (.str nm) (.str t) with
   |some b=>cond b (cond (U5 (.str nm) (.str t)) (some (Qaq (AV.str nm,AV.int .i64 1) (mpl ts))) none) (match Vm (eqF ε 20 9) (.str nm) (.int .i64 1) (mpl ts) with|some l=>some (Qaq (AV.str t,AV.int .i64 1) l)|none=>none)
   |none=>none)=_
  rw[eq9,h2];simp[h1,mpl]
section
variable {st:St} {K:AV->St->Prop}
theorem jp3 {b:Nat}{ts:List (List Nat)}(h:Mp st b ts)(nm:List Nat):jp (jfF ε 89 false (.map b) (.str nm) st) K=K (.int .i64 (if nm∈ts then 1 else 0)) st:=by
 unfold jfF XL;rw[jmi];simp only[ze3];show jp (cond ((wa ε 9).run (.str nm)) (ZP (jy st.h b) λes=>jU (WZ (eqF ε 20 9) (.str nm) es) λo=>_) .no) K=_;rw[kf9,h.get];show jp (jU (WZ (eqF ε 20 9) (.str nm) (mpl ts)) λo=>_) K=_;rw[jet];by_cases h:nm∈ts
 ·simp only[if_pos h];rfl
 ·simp only[if_neg h];rfl
theorem jsa {b:Nat}{ts:List (List Nat)}(h:Mp st b ts){nm:List Nat}(hn:nm∉ts):jp (jkC ε 89 (.map b) (.str nm) (.int .i64 1) st) K=K qm (mp st b (mpl (ts ++ [nm]))):=by
 unfold jkC Jw;rw[jmi];show jp (cond ((wa ε 9).run (.str nm)) (ZP (jy st.h b) λes=>jU (Vm (eqF ε 20 9) (.str nm) (.int .i64 1) es) λes=>st.put b (.map es) λst=>.ok qm st) .no) K=_;rw[kf9,h.get];show jp (jU (Vm (eqF ε 20 9) (.str nm) (.int .i64 1) (mpl ts)) λes=>st.put b (.map es) λst=>.ok qm st) K=_;rw[jha nm ts hn];show jp (st.put b (.map (mpl (ts ++ [nm]))) λst=>.ok qm st) K=_;rw[St.put_eq];rfl
end
set_option maxHeartbeats 4000000 in
theorem Kt (hb:NB base){p mb:Nat}{v1 v2 v3:AV}{fm:Bool}{ts:List (List Nat)}{st:St}(C:Cl st p [v1,v2,v3,.map mb,.bool fm])(M:Mp st mb ts)(nm:List Nat)(l c:Int)(K Kp:AV->St->Prop)
  (hK:if nm∈ts then Kp (kf 162 l c) st else K (.tup []) (mp st mb (mpl (ts ++ [nm])))):XB ε base 70 [.ptr p 0,.str nm,.int .i64 l,.int .i64 c] st K Kp:=by
 refine Jf x63 (by rfl) (hb.at0 70 dc dc _ _) ?_;simp only[y63,jt,κ,μ,ν,ξ];rw[(by unfold z63;simp only[qq];rfl:z63=_)];have M:Mp st.bare mb ts:=⟨M.lt,M.get⟩;have hK:if nm∈ts then Kp (kf 162 l c) (bk st st.bare) else K (.tup []) (bk st (mp st.bare mb (mpl (ts ++ [nm])))):=hK
 have C:=C.bar;have hbk:bk st st.bare=st:=rfl;have hbc:back st st.bare=st:=rfl;have hbb:st.bare.bare=st.bare:=rfl;generalize st.bare=s0 at *;have L1:=λK nm=>jp3 (st:=s0) (K:=K) M nm;by_cases h:nm∈ts
 ·rw[if_pos h] at hK
  (have zz:=C.r;(repeat'(first|apply jc<;>intro _|simp(disch:=first|exact jY|fail) only[jii,jmL,L1,h,if_true,zZ hb,C.q,C.r,r8,γ,δ,ζ,η,θ]));all_goals clear zz)
  exact hK
 ·rw[if_neg h] at hK;have U1:=λK=>jsa (st:=s0) (K:=K) M h
  (have zz:=C.r;(repeat'(first|apply jc<;>intro _|simp(disch:=first|exact jY|fail) only[jii,jmL,L1,U1,h,if_false,show((0:Int)+1)=1 from rfl,zZ hb,C.q,C.r,r8,γ,δ,ζ,η,θ]));all_goals clear zz)
  exact hK
end Go.Sy
end
