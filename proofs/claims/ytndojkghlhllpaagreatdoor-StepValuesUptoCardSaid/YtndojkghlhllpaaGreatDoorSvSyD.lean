/-
  Contracts: the code lowered, what it does told by rules, and the contracts of the functions that the law reaches.
-/
import Derived.Test.YtndojkghlhllpaaGreatDoorSvSyC
import Derived.Test.YtndojkghlhllpaaGreatDoorProg
import Derived.KernelRfl
import Derived.ChangeArms
set_option linter.unusedVariables false
set_option linter.unusedSimpArgs false
open Int renaming reduceToNat → Qaa, natCast_zero → Qam, zero_add → Qar, ofNat → Qbi, eq_ofNat_of_zero_le → Qbv, natCast_nonneg → Qcg, toNat_natCast → Qcw
open Nat renaming reduceAdd → Qab, reduceSub → Qac, reduceMul → Qad, reduceBEq → Qae, le_refl → Qao, ble → Qap, beq → Qat, le_trans → Qav, mul → Qaw, add → QaC, succ → QaE, zero_le → QaG, le_max_right → QaI, le_max_left → QaL, mul_le_mul_right → QaM, zero_add → QaP, lt_of_lt_of_le → QaQ, lt_or_ge → QaT, not_lt_zero → Qbg, sub → Qbh, sub_zero → Qbj, zero_mul → Qbq, succ_pos → Qbt, add_mul → Qbu, succ_mul → Qbw, lt_irrefl → QbB, le_of_eq → QbG, min_eq_left → QbM, mod_eq_of_lt → QbQ, succ_lt_succ → QbS, add_assoc → QbU, add_zero → Qci, add_comm → Qcj, ne_of_lt → Qcl, le_of_lt → Qct, lt_trichotomy → Qcz, le_succ_of_le → QcA
open Go.Proofs.Tryz renaming prog → Qaf
open List renaming getD_cons_zero → Qag, getD_cons_succ → Qah, map_cons → Qai, map_nil → Qaj, length_cons → Qak, length_append → Qal, length_nil → Qan, getElem?_eq_getElem → Qas, getD_eq_getElem?_getD → Qau, getElem_mem → Qax, cons_append → Qay, all_eq_true → Qaz, take_length → QaB, nil_append → QaF, length_take → QaH, getD → QaJ, range' → QaK, range → QaN, length_map → QaR, eq_nil_of_length_eq_zero → QaS, length_drop → QaU, mem_append → QaX, append_assoc → QaY, take_zero → QaZ, cons → Qba, all_cons → Qbb, append_nil → Qbk, all_append → Qbl, take_append_drop → Qbn, mem_map → Qbp, map_congr_left → Qbr, mem_cons → Qbs, getElem_cons_zero → Qbx, getElem_cons_drop → Qby, range'_succ → QbA, drop_zero → QbC, getElem_cons_succ → QbF, mem_range → QbI, mem_singleton → QbJ, map_map → QbL, mem_iff_getElem → QbN, map_append → QbO, length_pos_iff → QbP, getElem?_take → QbT, getElem?_append_right → QbV, getElem?_map → QbW, foldl_append → QbX, mem_of_mem_take → QbY, getElem?_append_left → QbZ, mem_cons_of_mem → Qca, drop_drop → Qcb, ext_getElem → Qcc, map_toArray → Qcd, getElem?_drop → Qcf, take_add_one → Qch, countP_singleton → Qck, drop_length → Qcn, take_succ_cons → Qcp, foldr_cons → Qcr, drop_eq_getElem_cons → Qcs, take_take → Qcv, flatMap_cons → Qcy
open Bool renaming and_eq_true → Qaq, or_eq_true → QaO, eq_iff_iff → QaW, false_eq_true → Qbd, not_eq_true' → Qbf, or_eq_false_iff → Qbo, true_eq_false → QbK
open Array renaming length_toList → QaA, getElem?_eq_some_iff → QaD, replicate → Qbe, getD_eq_getD_getElem? → QbD, getElem?_toList → QbH, toList_map → QbR, getElem?_setIfInBounds_ne → Qce, mem_toList_iff → Qcm, toList_append → Qco, getElem?_eq_getElem → Qcq
open Option renaming map_some → QaV, getD_some → Qbc, bind_some → Qbm, map_none → Qbz, map_eq_some_iff → QbE, isSome_iff_exists → Qcu
open Function renaming comp_def → Qcx
noncomputable section
set_option maxRecDepth 100000
namespace Go.Sy
open Go.Ev Go.Proofs
variable {base:Bs}
theorem KW {ts:List Tk}(W:Wds ts){i j:Nat}{n:Int}(hi:i<ts.length)(h:YV ts i=.ok n j):j<ts.length:=by
 unfold YV at h;by_cases c:isM (tk ts i) [[45]]=true
 ·rw[if_pos c] at h;have h1:=W.isM hi c;by_cases k:(tk ts (i+1)).kind=2
  ·rw[if_pos k] at h;cases h;exact W.next _ h1 (by omega)
  ·rw[if_neg k] at h;cases h
 ·rw[if_neg c] at h;by_cases k:(tk ts i).kind=2
  ·rw[if_pos k] at h;cases h;exact W.next _ hi (by omega)
  ·rw[if_neg k] at h;cases h
set_option maxHeartbeats 4000000 in
theorem jr6 (hb:NB base){ts:List Tk}(W:Wds ts)(N:Nbs ts){i:Nat}(hi:i<ts.length){nm:List Nat}{ln co:Nat}{r:SR DeclT}
  (hr:(match Ws ts i with | .er t=>SR.er t | .ok y j=>(match Z4 ts j with | .er t=>.er t | .ok bs k=>.ok ⟨nm,y.1,y.2.1,y.2.2,bs,ln,co⟩ k))=r) {L:Sl} {s:St} (n0:4<=s.nx) (C0:Cl s 0 (pC ts i 0)) (C1:Cl s 1 zD)
  (C3:Cl s 3 [.str nm,.str [],.int .i64 0,.int .i64 0,.nils,.int .i64 (ln:Int),.int .i64 (co:Int)]) (i0:Has L 0 (.ptr 0 0)) (i2:Has L 2 (.ptr 1 0)) (i4:Has L 4 (.ptr 3 0)) :
  xC Qaf base jeT L s (QU Qaf y79.res (SK ts 0 (λd=>.agg (qg d)) r)) λv _ s=>SP ts r v s.bare:=by
 have wl:=W.len;have L0:=C0.lt;have L1:=C1.lt;have L3:=C3.lt;have T:=YO hb hi (d:=0) (by omega) [[98,111,111,108]] (cs:=[.str [98,111,111,108]]) (n:=1) rfl rfl (by decide);have hN:=λst p=>@YW base hb ts i 0 hi st p;have hM:=λst p=>@u1 base hb ts i 0 hi (by omega) st p;unfold Ws at hr;unfold zD pC at *;rw[(by unfold jeT;simp only[qq];rfl:jeT=_)];by_cases c1:isM (tk ts i) [[98,111,111,108]]=true
 ·rw[if_pos c1] at hr;have hi1:=W.isM hi c1
  (have zz:=aI C0.r (aI C1.r C3.r);(repeat'(first|apply jc<;>intro _|simp(disch:=first|exact qS|fail) only[ja i0,ja i2,ja i4,T,c1,C0.q,C1.q,C3.q,C0.r,C1.r,C3.r,je,Tk.cells_R,rzZ,Qab,Qac,Qad,Qaa,Qae]));all_goals clear zz)
  refine jga hb W hi1 hr ?_ ?_ ?_ ?_ ?_ ?_ ?_
  ·simp only[jg,jh,jt];omega
  ·unfold pC
   (have zz:=aI C0.q (aI C1.q (aI C3.q (aI C0.r (aI C1.r C3.r))));first|exact qj|fail)
  ·unfold zD
   (have zz:=aI C0.q (aI C1.q (aI C3.q (aI C0.r (aI C1.r C3.r))));first|exact qj|fail)
  ·(have zz:=aI C0.q (aI C1.q (aI C3.q (aI C0.r (aI C1.r C3.r))));first|exact qj|fail)
  ·simp(disch:=decide) only[Qam,Qar,z0,z1,jf,jb,and_true,true_and,i0]
  ·simp(disch:=decide) only[Qam,Qar,z0,z1,jf,jb,and_true,true_and,i2]
  ·simp(disch:=decide) only[Qam,Qar,z0,z1,jf,jb,and_true,true_and,i4]
 rw[if_neg c1] at hr;by_cases k1:(tk ts i).kind=1
 ·rw[if_pos k1] at hr;have k1':((tk ts i).kind:Int)=1:=by omega
  have hi1:i+1<ts.length:=W.next i hi (by omega)
  (have zz:=aI C0.r (aI C1.r C3.r);(repeat'(first|apply jc<;>intro _|simp(disch:=first|exact qS|fail) only[ja i0,ja i2,ja i4,T,c1,k1,k1',hN,hM,C0.q,C1.q,C3.q,C0.r,C1.r,C3.r,je,Tk.cells_R,rzZ,Qab,Qac,Qad,Qaa,Qae]));all_goals clear zz)
  refine jga hb W hi1 hr ?_ ?_ ?_ ?_ ?_ ?_ ?_
  ·simp only[jg,jh,jt];omega
  ·unfold pC
   (have zz:=aI C0.q (aI C1.q (aI C3.q (aI C0.r (aI C1.r C3.r))));first|exact qj|fail)
  ·unfold zD
   (have zz:=aI C0.q (aI C1.q (aI C3.q (aI C0.r (aI C1.r C3.r))));first|exact qj|fail)
  ·(have zz:=aI C0.q (aI C1.q (aI C3.q (aI C0.r (aI C1.r C3.r))));first|exact qj|fail)
  ·simp(disch:=decide) only[Qam,Qar,z0,z1,jf,jb,and_true,true_and,i0]
  ·simp(disch:=decide) only[Qam,Qar,z0,z1,jf,jb,and_true,true_and,i2]
  ·simp(disch:=decide) only[Qam,Qar,z0,z1,jf,jb,and_true,true_and,i4]
 rw[if_neg k1] at hr;have k1':¬ ((tk ts i).kind:Int)=1:=by omega
 have A:=jb3 hb W N hi (d:=0);cases hn:YV ts i with
 |er t=>
  rw[hn] at hr A;have hr:SR.er t=r:=hr;subst hr;obtain⟨i',d',A⟩:=A;have E:∀ st p,Cl st p (pC ts i 0)->∀ K Kp,XB Qaf base 122 [.ptr p 0] st K Kp=_:=λst p C K Kp=>A.xb C rfl (λst=>hb.no 122 (by decide) _ _) K Kp;unfold pC at *
  (have zz:=aI C0.r (aI C1.r C3.r);(repeat'(first|apply jc<;>intro _|simp(disch:=first|exact qS|fail) only[ja i0,ja i2,ja i4,T,c1,k1',hN,E,zy,C0.q,C1.q,C3.q,C0.r,C1.r,C3.r,je,Tk.cells_R,rzZ,Qab,Qac,Qad,Qaa,Qae]));all_goals clear zz)
  refine⟨i',d',?_⟩;unfold pC
  (refine G1.done ?_ (by rfl) (by rfl) ?_;(· (have zz:=aI C0.q (aI C1.q (aI C3.q (aI C0.r (aI C1.r C3.r))));first|exact qj|fail));(· first|exact vyD|skip))
 |ok lo j=>
  rw[hn] at hr A;dsimp only at hr;have A:PM _ _ _ _ _ _ _:=A;have hj:j<ts.length:=KW W hi hn;have E:∀ st p,Cl st p (pC ts i 0)->∀ K Kp,XB Qaf base 122 [.ptr p 0] st K Kp=_:=λst p C K Kp=>A.xb C rfl (λst=>hb.no 122 (by decide) _ _) K Kp;have M:=λst p=>@QJ base hb ts j 0 hj (by omega) [46,46] st p;by_cases c2:isM (tk ts j) [[46,46]]=true
  ·rw[if_pos c2] at hr;have hj1:=W.isM hj c2;have B:=jb3 hb W N hj1 (d:=0);cases hn2:YV ts (j+1) with
   |er t=>
    rw[hn2] at hr B;have hr:SR.er t=r:=hr;subst hr;obtain⟨i',d',B⟩:=B;have F:∀ st p,Cl st p (pC ts (j+1) 0)->∀ K Kp,XB Qaf base 122 [.ptr p 0] st K Kp=_:=λst p C K Kp=>B.xb C rfl (λst=>hb.no 122 (by decide) _ _) K Kp;unfold pC at *
    (have zz:=aI C0.r (aI C1.r C3.r);(repeat'(first|apply jc<;>intro _|simp(disch:=first|exact qS|fail) only[ja i0,ja i2,ja i4,T,c1,k1',hN,E,F,M,c2,zy,C0.q,C1.q,C3.q,C0.r,C1.r,C3.r,je,Tk.cells_R,rzZ,Qab,Qac,Qad,Qaa,Qae]));all_goals clear zz)
    refine⟨i',d',?_⟩;unfold pC
    (refine G1.done ?_ (by rfl) (by rfl) ?_;(· (have zz:=aI C0.q (aI C1.q (aI C3.q (aI C0.r (aI C1.r C3.r))));first|exact qj|fail));(· first|exact vyD|skip))
   |ok h2 k=>
    rw[hn2] at hr B;have hk:k<ts.length:=KW W hj1 hn2;have B:PM _ _ _ _ _ _ _:=B;have F:∀ st p,Cl st p (pC ts (j+1) 0)->∀ K Kp,XB Qaf base 122 [.ptr p 0] st K Kp=_:=λst p C K Kp=>B.xb C rfl (λst=>hb.no 122 (by decide) _ _) K Kp;unfold pC at *
    (have zz:=aI C0.r (aI C1.r C3.r);(repeat'(first|apply jc<;>intro _|simp(disch:=first|exact qS|fail) only[ja i0,ja i2,ja i4,T,c1,k1',hN,E,F,M,c2,C0.q,C1.q,C3.q,C0.r,C1.r,C3.r,je,Tk.cells_R,rzZ,Qab,Qac,Qad,Qaa,Qae]));all_goals clear zz)
    refine jga hb W hk hr ?_ ?_ ?_ ?_ ?_ ?_ ?_
    ·simp only[jg,jh,jt];omega
    ·unfold pC
     (have zz:=aI C0.q (aI C1.q (aI C3.q (aI C0.r (aI C1.r C3.r))));first|exact qj|fail)
    ·unfold zD
     (have zz:=aI C0.q (aI C1.q (aI C3.q (aI C0.r (aI C1.r C3.r))));first|exact qj|fail)
    ·(have zz:=aI C0.q (aI C1.q (aI C3.q (aI C0.r (aI C1.r C3.r))));first|exact qj|fail)
    ·simp(disch:=decide) only[Qam,Qar,z0,z1,jf,jb,and_true,true_and,i0]
    ·simp(disch:=decide) only[Qam,Qar,z0,z1,jf,jb,and_true,true_and,i2]
    ·simp(disch:=decide) only[Qam,Qar,z0,z1,jf,jb,and_true,true_and,i4]
  ·rw[if_neg c2] at hr;have hr:SR.er (tk ts j)=r:=hr;subst hr;unfold pC at *
   (have zz:=aI C0.r (aI C1.r C3.r);(repeat'(first|apply jc<;>intro _|simp(disch:=first|exact qS|fail) only[ja i0,ja i2,ja i4,T,c1,k1',hN,E,M,c2,zy,C0.q,C1.q,C3.q,C0.r,C1.r,C3.r,je,Tk.cells_R,rzZ,Qab,Qac,Qad,Qaa,Qae]));all_goals clear zz)
   refine⟨j,0,?_⟩;unfold pC
   (refine G1.done ?_ (by rfl) (by rfl) ?_;(· (have zz:=aI C0.q (aI C1.q (aI C3.q (aI C0.r (aI C1.r C3.r))));first|exact qj|fail));(· first|exact vyD|skip))
set_option maxHeartbeats 4000000 in
theorem jqJ (hb:NB base){ts:List Tk}(W:Wds ts)(N:Nbs ts){i:Nat}(hi:i<ts.length):AnS base 89 (pC ts i 0) [] ts 0 (λd=>.agg (qg d)) (Yg ts i):=by
 have wl:=W.len;have hM:=λst p=>@u1 base hb ts i 0 hi (by omega) st p;unfold Yg;by_cases k1:(tk ts i).kind=1
 ·rw[if_pos k1];have hi1:i+1<ts.length:=W.next i hi (by omega)
  have M:=λst p=>@QJ base hb ts (i+1) 0 hi1 (by omega) [58] st p;by_cases c1:isM (tk ts (i+1)) [[58]]=true
  ·rw[if_pos c1];have hi2:=W.isM hi1 c1;suffices h:∀ r:SR DeclT,(match Ws ts (i+2) with | .er t=>SR.er t | .ok y j=>(match Z4 ts j with | .er t=>.er t | .ok bs k=>.ok ⟨(tk ts i).text,y.1,y.2.1,y.2.2,bs,(tk ts i).line,(tk ts i).col⟩ k))=r->AnS base 89 (pC ts i 0) [] ts 0 (λd=>.agg (qg d)) r from h _ rfl
   intro r hr;refine vL x79 (by rfl) (hb.pur 89 3 (by decide)) ?_;simp only[y79,ju,Qai,Qaj,Qag,Qah];rw[(by unfold z79;simp only[qq];rfl:z79=_)];unfold pC at *;repeat'(first|apply jc<;>intro _|simp(disch:=first|exact dzD|fail) only[hM,k1,M,c1,je,Tk.cells_R,rzZ,Qab,Qac,Qad,Qaa,Qae])
   refine jr6 hb W N hi2 hr ?_ ?_ ?_ ?_ ?_ ?_ ?_
   ·simp only[jg,jh,jt,yl];omega
   ·unfold pC
    (first|exact cyD|fail)
   ·unfold zD
    (first|exact cyD|fail)
   ·(first|exact cyD|fail)
   ·simp(disch:=decide) only[Qam,Qar,z0,z1,jf,jb,and_true,true_and]
   ·simp(disch:=decide) only[Qam,Qar,z0,z1,jf,jb,and_true,true_and]
   ·simp(disch:=decide) only[Qam,Qar,z0,z1,jf,jb,and_true,true_and]
  ·rw[if_neg c1];refine⟨i+1,0,?_⟩;unfold pC at *;refine qa x79 (by rfl) (hb.pur 89 3 (by decide)) rfl ?_;simp only[y79,ju,Qai,Qaj,Qag,Qah];rw[(by unfold z79;simp only[qq];rfl:z79=_)];repeat'(first|apply jc<;>intro _|simp(disch:=first|exact dzD|fail) only[hM,k1,M,c1,je,Tk.cells_R,rzZ,Qab,Qac,Qad,Qaa,Qae])
   (refine G1.done ?_ (by rfl) (by rfl) ?_;(· (first|exact cyD|fail));(· first|exact vyD|skip))
 ·rw[if_neg k1];refine⟨i,0,?_⟩;unfold pC at *;refine qa x79 (by rfl) (hb.pur 89 3 (by decide)) rfl ?_;simp only[y79,ju,Qai,Qaj,Qag,Qah];rw[(by unfold z79;simp only[qq];rfl:z79=_)];repeat'(first|apply jc<;>intro _|simp(disch:=first|exact dzD|fail) only[hM,k1,je,Tk.cells_R,rzZ,Qab,Qac,Qad,Qaa,Qae])
  (refine G1.done ?_ (by rfl) (by rfl) ?_;(· (first|exact cyD|fail));(· first|exact vyD|skip))
structure AsT where
 name:List Nat
 to:Ex
 line:Int
 col:Int
def asE (a:AsT):List AV:=.str a.name :: (eE a.to ++ [.int .i64 (a.line:Int),.int .i64 (a.col:Int)])
theorem ZK (a:AsT):(asE a).length=9:=nr (by simp[asE,zw])
theorem Q3 (a:AsT):(asE a).all pc=true:=nr (by simp[asE,qO,pc])
theorem gV (a:AsT):lall AV.cell (asE a)=true:=nr (by unfold asE;rw[qE];rfl)
structure RuleT where
 when:Ex
 acts:List AsT
def ruE (r:RuleT):List AV:=eE r.when ++ [.lst r.acts.length (fl asE r.acts)]
def QD (ts:List Tk):Nat->Nat->List AsT->SR (List AsT)
 |0,i,_=>.er (tk ts i)
 |n+1,i,vs=>if(tk ts i).kind=1 then
   (if 32<=vs.length then .er (tk ts i)
    else if isM (tk ts (i+1)) [[58,61]]=true then(match yq ts (i+2) with
     |.er t=>.er t
     |.ok x j=>
      if isM (tk ts j) [[44]]=true then QD ts n (j+1) (vs ++ [⟨(tk ts i).text,x,(tk ts i).line,(tk ts i).col⟩])
      else if isM (tk ts j) [[59]]=true then .ok (vs ++ [⟨(tk ts i).text,x,(tk ts i).line,(tk ts i).col⟩]) (j+1)
      else .er (tk ts j))
    else .er (tk ts (i+1)))
  else .er (tk ts i)
def Xr (ts:List Tk)(i:Nat):SR RuleT:=
 match yq ts i with
 |.er t=>.er t
 |.ok x j=>if isM (tk ts j) [[100,111]]=true then(match QD ts ts.length (j+1) [] with
   |.ok vs k=>.ok ⟨x,vs⟩ k
   |.er t=>.er t)
  else .er (tk ts j)
theorem jpm:Go.Ev.isAgg Qaf 118=some false:=by kernel_rfl
theorem jpl:Go.Ev.sizeOf Qaf 118=some 1:=by kernel_rfl
theorem jay {b o:Nat}{v:AV}{h:T AO}(ho:o<qr h b)(hv:rat h b o=v)(hc:eqs v=true):(jZ Qaf 118 (.ptr b o) v h=true)=True:=eq_true (QE jpm jpl ho hv hc)
theorem sm3 {b o:Nat}{v:AV}{h:T AO}(ho:o<qr h b)(hv:rat h b o=v)(hc:eqs v=true):(jZ Qaf 3 (.ptr b o) v h=true)=True:=eq_true (QE jpk jpj ho hv hc)
set_option maxHeartbeats 4000000 in
theorem jpD (hb:NB base){ts:List Tk}(W:Wds ts){i:Nat}(hi:i<ts.length):AnS base 123 (pC ts i 0) [] ts 0 (λe=>.agg (ruE e)) (Xr ts i):=by
 have wl:=W.len;have A:=Uq hb W hi;unfold Xr;cases hw:yq ts i with
 |er t=>
  rw[hw] at A;obtain⟨i',d',A⟩:=A;have E:∀ st p,Cl st p (pC ts i 0)->∀ K Kp,XB Qaf base 72 [.ptr p 0] st K Kp=_:=λst p C K Kp=>A.xb C rfl (λst=>hb.no 72 (by decide) _ _) K Kp;refine⟨i',d',?_⟩;unfold pC at *;refine qa jkh (by rfl) (hb.pur 123 3 (by decide)) rfl ?_;simp only[je4,ju,Qai,Qaj,Qag,Qah];rw[(by unfold kr;simp only[qq];rfl:kr=_)];repeat'(first|apply jc<;>intro _|simp(disch:=first|exact dzD|fail) only[E,je,Tk.cells_R,rzZ,Qab,Qac,Qad,Qaa,Qae])
  (refine G1.done ?_ (by rfl) (by rfl) ?_;(· (first|exact cyD|fail));(· first|exact vyD|skip))
 |ok x j=>
  rw[hw] at A;have A:PM _ _ _ _ _ _ _:=A;rw[qE] at A;have hj:j<ts.length:=(yd W hi hw).2.1;have E:∀ st p,Cl st p (pC ts i 0)->∀ K Kp,XB Qaf base 72 [.ptr p 0] st K Kp=_:=λst p C K Kp=>A.xb C rfl (λst=>hb.no 72 (by decide) _ _) K Kp;have M:=λst p=>@QJ base hb ts j 0 hj (by omega) [100,111] st p;dsimp only;by_cases c1:isM (tk ts j) [[100,111]]=true
  ·rw[if_pos c1];have hj1:=W.isM hj c1;suffices h:∀ r:SR RuleT,(match QD ts ts.length (j+1) [] with | .ok vs k=>SR.ok ⟨x,vs⟩ k | .er t=>.er t)=r->AnS base 123 (pC ts i 0) [] ts 0 (λe=>.agg (ruE e)) r from h _ rfl
   intro r hr;refine vL jkh (by rfl) (hb.pur 123 3 (by decide)) ?_;simp only[je4,ju,Qai,Qaj,Qag,Qah];rw[(by unfold kr;simp only[qq];rfl:kr=_)];unfold pC at *;repeat'(first|apply jc<;>intro _|simp(disch:=first|exact dzD|fail) only[E,M,c1,je,Tk.cells_R,rzZ,Qab,Qac,Qad,Qaa,Qae])
   refine uR λu hu=>?_;have n0:u.nx=3:=by rw[hu];rfl
   have C0:Cl u 0 (pC ts (j+1) 0):=by
    rw[hu];unfold pC
    (first|exact cyD|fail)
   have C1:Cl u 1 [.int .i64 0,.int .i64 0,.str [],.nils,.int .i64 0,.int .i64 0,.nils]:=by
    rw[hu]
    (first|exact cyD|fail)
   have C2:Cl u 2 [.int .i64 x.op,.int .i64 x.num,.str x.name,.lst x.kids.length (fl eE x.kids),.int .i64 x.line,.int .i64 x.col,.nils]:=by
    rw[hu]
    (first|exact cyD|fail)
   clear hu E M A;refine yH (λmm L s=>∃ (m i':Nat) (vs:List AsT) (v:AV),mm=m/\ts.length<=i'+m/\i'<ts.length/\(match QD ts m i' vs with | .ok vs k=>SR.ok ⟨x,vs⟩ k | .er t=>.er t:SR RuleT)=r/\3<=s.nx/\Cl s 0 (pC ts i' 0)/\Cl s 1 [.int .i64 0,.int .i64 0,.str [],.nils,.int .i64 0,.int .i64 0,.nils]/\Cl s 2 [.int .i64 x.op,.int .i64 x.num,.str x.name,.lst x.kids.length (fl eE x.kids),.int .i64 x.line,.int .i64 x.col,v]/\Lv 3 s.nx s v vs.length (fl asE vs) 9/\Has L 0 (.ptr 0 0)/\Has L 2 (.ptr 1 0)/\Has L 3 (.ptr 2 0)) ?_ ts.length ?_
   ·rintro m L s ⟨_,i',vs,v,rfl,hm,hi',hl,n0,C0,C1,C2,V,i0,i2,i3⟩;clear hr;cases m with
    |zero=>omega
    |succ m=>
    unfold QD at hl;obtain⟨q0,hq0⟩:∃ q,q=s.nx:=⟨_,rfl⟩;rw[<-hq0] at V;have hq':q0<=s.nx:=QbG hq0;have hN:=λst p=>@YW base hb ts i' 0 hi' st p;have hM:=λst p=>@u1 base hb ts i' 0 hi' (by omega) st p;have L0:=C0.lt;have L1:=C1.lt;have L2:=C2.lt;have ve:=V.eqs;have g3:rat s.h 2 6=v:=C2.cell 6 (by simp);have vl:=V.len;by_cases k1:(tk ts i').kind=1
    ·rw[if_pos k1] at hl;have k1':((tk ts i').kind:Int)=1:=by omega
     have hi1:i'+1<ts.length:=W.next i' hi' (by omega)
     by_cases h32:32<=vs.length
     ·rw[if_pos h32] at hl;have hl:SR.er (tk ts i')=r:=hl;subst hl;have R:=wS hb h32 (tk ts i');unfold pC at *
      (have zz:=aI @g3 (aI C0.r (aI C1.r C2.r));(repeat'(first|apply jc<;>intro _|simp(disch:=first|exact qS|fail) only[ja i0,ja i2,ja i3,hN,k1',vl,R,jay,ve,zy,C0.q,C1.q,C2.q,g3,C0.r,C1.r,C2.r,je,Tk.cells_R,rzZ,Qab,Qac,Qad,Qaa,Qae]));all_goals clear zz)
      refine⟨i',0,?_⟩;unfold pC
      (refine G1.done ?_ (by rfl) (by rfl) ?_;(· (have zz:=aI C0.q (aI C1.q (aI C2.q (aI C0.r (aI C1.r C2.r))));first|exact qj|fail));(· first|exact vyD|skip))
     ·rw[if_neg h32] at hl;have R:=wR hb (show vs.length<32 by omega) (tk ts i');have M1:=λst p=>@QJ base hb ts (i'+1) 0 hi1 (by omega) [58,61] st p;by_cases c2:isM (tk ts (i'+1)) [[58,61]]=true
      ·rw[if_pos c2] at hl;have hi2:=W.isM hi1 c2;have A:=Uq hb W hi2;cases hw2:yq ts (i'+2) with
       |er t=>
        rw[hw2] at hl A;have hl:SR.er t=r:=hl;subst hl;obtain⟨i2',d2,A⟩:=A;have E:∀ st p,Cl st p (pC ts (i'+2) 0)->∀ K Kp,XB Qaf base 72 [.ptr p 0] st K Kp=_:=λst p C K Kp=>A.xb C rfl (λst=>hb.no 72 (by decide) _ _) K Kp;unfold pC at *
        (have zz:=aI @g3 (aI @q6 (aI @yf (aI C0.r (aI C1.r C2.r))));(repeat'(first|apply jc<;>intro _|simp(disch:=first|exact qS|fail) only[ja i0,ja i2,ja i3,hN,hM,k1,k1',vl,R,M1,c2,E,jay,sm9,sm3,ve,zy,Yt,Vm,Vl (base:=base),C0.q,C1.q,C2.q,g3,q6,yf,C0.r,C1.r,C2.r,je,Tk.cells_R,rzZ,Qab,Qac,Qad,Qaa,Qae]));all_goals clear zz)
        refine⟨i2',d2,?_⟩;unfold pC
        (refine G1.done ?_ (by rfl) (by rfl) ?_;(· (have zz:=aI C0.q (aI C1.q (aI C2.q (aI C0.r (aI C1.r C2.r))));first|exact qj|fail));(· first|exact vyD|skip))
       |ok y q=>
        rw[hw2] at hl A;dsimp only at hl;have A:PM _ _ _ _ _ _ _:=A;rw[qE] at A;have hq:q<ts.length:=(yd W hi2 hw2).2.1;have hq2:i'+3<=q:=(yd W hi2 hw2).1;have E:∀ st p,Cl st p (pC ts (i'+2) 0)->∀ K Kp,XB Qaf base 72 [.ptr p 0] st K Kp=_:=λst p C K Kp=>A.xb C rfl (λst=>hb.no 72 (by decide) _ _) K Kp;have T:=YO hb hq (d:=0) (by omega) [[44]] (cs:=[.str [44]]) (n:=1) rfl rfl (by decide);have M:=λst p=>@QJ base hb ts q 0 hq (by omega) [59] st p;have Ap:=λst bv xc xx K h hv=>@J5 3 q0 vs.length 9 st v (fl asE vs) K 104 bv xc xx h (by decide) (by omega) (by omega) hv;obtain⟨a,hav⟩:∃ a:AsT,a=⟨(tk ts i').text,y,(tk ts i').line,(tk ts i').col⟩:=⟨_,rfl⟩;rw[<-hav] at hl;have ea:asE a=[.str (tk ts i').text,.int .i64 y.op,.int .i64 y.num,.str y.name,.lst y.kids.length (fl eE y.kids),.int .i64 y.line,.int .i64 y.col,.int .i64 ((tk ts i').line:Int),.int .i64 ((tk ts i').col:Int)]:=by rw[hav];unfold asE;rw[qE];rfl
        have V2:∀ st m',Lv 3 q0 st v vs.length (fl asE vs) 9->3<=st.nx->m'=st.nx+1->Lv 3 m' (aps v st [.str (tk ts i').text,.int .i64 y.op,.int .i64 y.num,.str y.name,.lst y.kids.length (fl eE y.kids),.int .i64 y.line,.int .i64 y.col,.int .i64 ((tk ts i').line:Int),.int .i64 ((tk ts i').col:Int)]) (apv 9 v st) (vs ++ [a]).length (fl asE (vs ++ [a])) 9:=λst m' h h2 h3=>by
         rw[Qal,Qd,JG,ea];exact h.put rfl h2 h3
        unfold pC at *
        (have zz:=aI @g3 (aI @q6 (aI @yf (aI V.ln (aI V.rts (aI @jz (aI @jE (aI @jJ (aI @V (aI @jA (aI @jH (aI @jK (aI C0.r (aI C1.r C2.r)))))))))))));(repeat'(first|apply jc<;>intro _|simp(disch:=first|exact qS|fail) only[ja i0,ja i2,ja i3,hN,hM,k1,k1',vl,R,M1,c2,E,jay,sm9,sm3,ve,Ap,V.at,jA,C0.q,C1.q,C2.q,g3,q6,yf,V.ln,V.rts,jz,jE,jJ,V,jA,jH,jK,C0.r,C1.r,C2.r,je,Tk.cells_R,rzZ,Qab,Qac,Qad,Qaa,Qae]));all_goals clear zz)
        rw[T _ 0 (s.nx+1+1+1) 1 true (by(have zz:=aI C0.q (aI C1.q (aI C2.q (aI @g3 (aI V.ln (aI V.rts (aI @jA (aI @jH (aI @jK (aI C0.r (aI C1.r C2.r))))))))));first|exact qj|fail)) (by(have zz:=aI C0.q (aI C1.q (aI C2.q (aI @g3 (aI V.ln (aI V.rts (aI @jA (aI @jH (aI @jK (aI C0.r (aI C1.r C2.r))))))))));first|exact qj|fail)) (by omega)]
        (have zz:=aI @g3 (aI V.ln (aI V.rts (aI @jA (aI @jH (aI @jK (aI C0.r (aI C1.r C2.r)))))));(repeat'(first|apply jc<;>intro _|simp(disch:=first|exact qS|fail) only[ja i0,ja i2,ja i3,M,V.at,jA,C0.q,C1.q,C2.q,g3,V.ln,V.rts,jA,jH,jK,C0.r,C1.r,C2.r,je,Tk.cells_R,rzZ,Qab,Qac,Qad,Qaa,Qae]));all_goals clear zz)
        ·rename_i c;rw[if_pos c] at hl;have hi2':=W.isM hq c;refine⟨m,by omega,m,q+1,vs ++ [a],?v,rfl,by omega,hi2',hl,by omega,?c0,?c1,?c2,?lv,?has⟩;case lv=>
          refine Lv.up (hi:=s.nx+3) ?_ (by omega);simp(disch:=first|omega|(simp only[jg,jh,jr,jt];omega)) only[jz,jE,jJ];refine V2 _ _ ?_ ?_ ?_;all_goals first|(simp only[jg,jh];done)|(simp only[jg,jh];omega)|(simp(disch:=first|omega|(simp only[jg,jh];omega)) only[jz,jE];exact V)
         case c0=>(have zz:=aI C0.q (aI C1.q (aI C2.q (aI @g3 (aI V.ln (aI V.rts (aI @jA (aI @jH (aI @jK (aI C0.r (aI C1.r C2.r))))))))));first|exact qj|fail)
         case c1=>(have zz:=aI C0.q (aI C1.q (aI C2.q (aI @g3 (aI V.ln (aI V.rts (aI @jA (aI @jH (aI @jK (aI C0.r (aI C1.r C2.r))))))))));first|exact qj|fail)
         case c2=>(have zz:=aI C0.q (aI C1.q (aI C2.q (aI @g3 (aI V.ln (aI V.rts (aI @jA (aI @jH (aI @jK (aI C0.r (aI C1.r C2.r))))))))));first|exact qj|fail)
         case has=>simp(disch:=decide) only[Qam,Qar,z0,z1,jf,jb,and_true,true_and,i0,i2,i3]
        ·rename_i c c4;rw[if_neg c,if_pos c4] at hl;have hl:SR.ok (⟨x,vs ++ [a]⟩:RuleT) (q+1)=r:=hl;subst hl;show G1 3 (pC ts (q+1) 0) (.agg (ruE ⟨x,vs ++ [a]⟩)) _ _;rw[show ruE ⟨x,vs ++ [a]⟩=[.int .i64 x.op,.int .i64 x.num,.str x.name,.lst x.kids.length (fl eE x.kids),.int .i64 x.line,.int .i64 x.col,.lst (vs ++ [a]).length (fl asE (vs ++ [a]))] by unfold ruE;rw[qE];rfl];refine G1.done ?_ (by rfl) (by rfl) (FzD.agg (.cons (.pc rfl) (.cons (.pc rfl) (.cons (.pc rfl) (.cons (.pc rfl) (.cons (.pc rfl) (.cons (.pc rfl) (.cons (Lv.fz (lo:=3) (hi:=s.nx+3) (z:=9) ?_ (by decide) (zp Q3 _)) .nil))))))))
         ·unfold pC
          (have zz:=aI C0.q (aI C1.q (aI C2.q (aI @g3 (aI V.ln (aI V.rts (aI @jA (aI @jH (aI @jK (aI C0.r (aI C1.r C2.r))))))))));first|exact qj|fail)
         ·simp(disch:=first|omega|(simp only[jg,jh,jr,jt];omega)) only[jG,jz,jE,jJ];refine V2 _ _ ?_ ?_ ?_;all_goals first|(simp only[jg,jh];done)|(simp only[jg,jh];omega)|(simp(disch:=first|omega|(simp only[jg,jh];omega)) only[jz,jE];exact V)
        ·rename_i c c4;rw[if_neg c,if_neg c4] at hl;have hl:SR.er (tk ts q)=r:=hl;subst hl;refine⟨q,0,?_⟩;unfold pC
         (refine G1.done ?_ (by rfl) (by rfl) ?_;(· (have zz:=aI C0.q (aI C1.q (aI C2.q (aI @g3 (aI V.ln (aI V.rts (aI @jA (aI @jH (aI @jK (aI C0.r (aI C1.r C2.r))))))))));first|exact qj|fail));(· first|exact vyD|skip))
      ·rw[if_neg c2] at hl;have hl:SR.er (tk ts (i'+1))=r:=hl;subst hl;unfold pC at *
       (have zz:=aI @g3 (aI C0.r (aI C1.r C2.r));(repeat'(first|apply jc<;>intro _|simp(disch:=first|exact qS|fail) only[ja i0,ja i2,ja i3,hN,hM,k1,k1',vl,R,M1,c2,jay,ve,zy,C0.q,C1.q,C2.q,g3,C0.r,C1.r,C2.r,je,Tk.cells_R,rzZ,Qab,Qac,Qad,Qaa,Qae]));all_goals clear zz)
       refine⟨i'+1,0,?_⟩;unfold pC
       (refine G1.done ?_ (by rfl) (by rfl) ?_;(· (have zz:=aI C0.q (aI C1.q (aI C2.q (aI C0.r (aI C1.r C2.r))));first|exact qj|fail));(· first|exact vyD|skip))
    ·rw[if_neg k1] at hl;have k1':¬ ((tk ts i').kind:Int)=1:=by omega
     have hl:SR.er (tk ts i')=r:=hl;subst hl;unfold pC at *
     (have zz:=aI @g3 (aI C0.r (aI C1.r C2.r));(repeat'(first|apply jc<;>intro _|simp(disch:=first|exact qS|fail) only[ja i0,ja i2,ja i3,hN,hM,k1,k1',zy,C0.q,C1.q,C2.q,g3,C0.r,C1.r,C2.r,je,Tk.cells_R,rzZ,Qab,Qac,Qad,Qaa,Qae]));all_goals clear zz)
     refine⟨i',0,?_⟩;unfold pC
     (refine G1.done ?_ (by rfl) (by rfl) ?_;(· (have zz:=aI C0.q (aI C1.q (aI C2.q (aI C0.r (aI C1.r C2.r))));first|exact qj|fail));(· first|exact vyD|skip))
   ·refine⟨ts.length,j+1,[],.nils,rfl,by omega,hj1,hr,by omega,C0,C1,C2,Lv.nil,?_⟩;simp(disch:=decide) only[Qam,Qar,z0,z1,jf,jb,and_true,true_and]
  ·rw[if_neg c1];refine⟨j,0,?_⟩;unfold pC at *;refine qa jkh (by rfl) (hb.pur 123 3 (by decide)) rfl ?_;simp only[je4,ju,Qai,Qaj,Qag,Qah];rw[(by unfold kr;simp only[qq];rfl:kr=_)];repeat'(first|apply jc<;>intro _|simp(disch:=first|exact dzD|fail) only[E,M,c1,je,Tk.cells_R,rzZ,Qab,Qac,Qad,Qaa,Qae])
   (refine G1.done ?_ (by rfl) (by rfl) ?_;(· (first|exact cyD|fail));(· first|exact vyD|skip))
theorem VA (r:RuleT):ruE r=[.int .i64 r.when.op,.int .i64 r.when.num,.str r.when.name,.lst r.when.kids.length (fl eE r.when.kids),.int .i64 r.when.line,.int .i64 r.when.col,.lst r.acts.length (fl asE r.acts)]:=by unfold ruE;rw[qE];rfl
theorem wj (r:RuleT):(ruE r).length=7:=nr (by rw[VA];rfl)
theorem Wy (r:RuleT):(ruE r).all pc=true:=nr (by rw[VA];rfl)
theorem jeL {ts:List Tk}(W:Wds ts):∀ n i vs ws j,i<ts.length->QD ts n i vs=.ok ws j->i<=j/\j<ts.length
 |0,i,vs,ws,j,_,h=>by simp[QD] at h
 |n+1,i,vs,ws,j,hi,h=>by
  unfold QD at h;split at h
  ·rename_i k1;have hi1:i+1<ts.length:=W.next i hi (by omega)
   split at h
   ·cases h
   ·split at h
    ·rename_i c;have hi2:=W.isM hi1 c;cases hw:yq ts (i+2) with
     |er t=>rw[hw] at h;cases h
     |ok x q=>
      rw[hw] at h;dsimp only at h;have g:=yd W hi2 hw;split at h
      ·rename_i c2;have:=jeL W n (q+1) _ ws j (W.isM g.2.1 c2) h;have:=g.1;exact⟨by omega,by omega⟩
      ·split at h
       ·rename_i c3;cases h;have:=W.isM g.2.1 c3;have:=g.1;exact⟨by omega,by omega⟩
       ·cases h
    ·cases h
  ·cases h
theorem Uz {ts:List Tk}(W:Wds ts){i j:Nat}{r:RuleT}(hi:i<ts.length)(h:Xr ts i=.ok r j):i<j/\j<ts.length:=by
 unfold Xr at h;cases hw:yq ts i with
 |er t=>rw[hw] at h;cases h
 |ok x q=>
  rw[hw] at h;dsimp only at h;have g:=yd W hi hw;split at h
  ·rename_i c;have hq1:=W.isM g.2.1 c;cases ha:QD ts ts.length (q+1) [] with
   |er t=>rw[ha] at h;cases h
   |ok vs k=>
    rw[ha] at h;cases h;have:=jeL W _ _ _ _ _ hq1 ha;have:=g.1;exact⟨by omega,by omega⟩
  ·cases h
structure ProcT where
 name:List Nat
 rules:List RuleT
 line:Int
 col:Int
def prE (p:ProcT):List AV:=[.str p.name,.lst p.rules.length (fl ruE p.rules),.int .i64 (p.line:Int),.int .i64 (p.col:Int)]
def J9 (ts:List Tk):Nat->Nat->List RuleT->SR (List RuleT)
 |0,i,_=>.er (tk ts i)
 |n+1,i,vs=>if isM (tk ts i) [[119,104,101,110]]=true then
   (if 32<=vs.length then .er (tk ts i) else match Xr ts (i+1) with
    |.er t=>.er t
    |.ok r j=>J9 ts n j (vs ++ [r]))
  else if isM (tk ts i) [[125]]=true then .ok vs (i+1) else .er (tk ts i)
def X6 (ts:List Tk)(i:Nat):SR ProcT:=
 if(tk ts i).kind=1 then
  (if isM (tk ts (i+1)) [[123]]=true then(match J9 ts ts.length (i+2) [] with
    |.ok vs j=>.ok ⟨(tk ts i).text,vs,(tk ts i).line,(tk ts i).col⟩ j
    |.er t=>.er t)
   else .er (tk ts (i+1)))
 else .er (tk ts i)
theorem jrw:Go.Ev.isAgg Qaf 114=some false:=by kernel_rfl
theorem jrv:Go.Ev.sizeOf Qaf 114=some 1:=by kernel_rfl
theorem jpw {b o:Nat}{v:AV}{h:T AO}(ho:o<qr h b)(hv:rat h b o=v)(hc:eqs v=true):(jZ Qaf 114 (.ptr b o) v h=true)=True:=eq_true (QE jrw jrv ho hv hc)
set_option maxHeartbeats 4000000 in
theorem jpV (hb:NB base){ts:List Tk}(W:Wds ts){i:Nat}(hi:i<ts.length):AnS base 90 (pC ts i 0) [] ts 0 (λe=>.agg (prE e)) (X6 ts i):=by
 have wl:=W.len;have N:=λst p=>@u1 base hb ts i 0 hi (by omega) st p;unfold X6;by_cases k1:(tk ts i).kind=1
 ·rw[if_pos k1];have hi1:i+1<ts.length:=W.next i hi (by omega)
  have M:=λst p=>@QJ base hb ts (i+1) 0 hi1 (by omega) [123] st p;by_cases c1:isM (tk ts (i+1)) [[123]]=true
  ·rw[if_pos c1];have hi2:=W.isM hi1 c1;suffices h:∀ r:SR ProcT,(match J9 ts ts.length (i+2) [] with
    |.ok vs j=>SR.ok ⟨(tk ts i).text,vs,(tk ts i).line,(tk ts i).col⟩ j
    |.er t=>.er t:SR ProcT)=r->AnS base 90 (pC ts i 0) [] ts 0 (λe=>.agg (prE e)) r from h _ rfl
   intro r hr;refine vL x80 (by rfl) (hb.pur 90 3 (by decide)) ?_;simp only[y80,ju,Qai,Qaj,Qag,Qah];rw[(by unfold z80;simp only[qq];rfl:z80=_)];unfold pC at *;repeat'(first|apply jc<;>intro _|simp(disch:=first|exact dzD|fail) only[N,k1,M,c1,je,Tk.cells_R,rzZ,Qab,Qac,Qad,Qaa,Qae])
   refine uR λu hu=>?_;have n0:u.nx=4:=by rw[hu];rfl
   have C0:Cl u 0 (pC ts (i+2) 0):=by
    rw[hu];unfold pC
    (first|exact cyD|fail)
   have C1:Cl u 1 [.str [],.nils,.int .i64 0,.int .i64 0]:=by
    rw[hu]
    (first|exact cyD|fail)
   have C3:Cl u 3 [.str (tk ts i).text,.nils,.int .i64 ((tk ts i).line:Int),.int .i64 ((tk ts i).col:Int)]:=by
    rw[hu]
    (first|exact cyD|fail)
   clear hu N M;generalize (tk ts i).text=nm at *;generalize (tk ts i).line=ln at *;generalize (tk ts i).col=co at *;refine yH (λmm L s=>∃ (m i':Nat) (vs:List RuleT) (v:AV),mm=m/\ts.length<=i'+m/\i'<ts.length/\(match J9 ts m i' vs with | .ok vs j=>SR.ok ⟨nm,vs,ln,co⟩ j | .er t=>.er t:SR ProcT)=r/\4<=s.nx/\Cl s 0 (pC ts i' 0)/\Cl s 1 [.str [],.nils,.int .i64 0,.int .i64 0]/\Cl s 3 [.str nm,v,.int .i64 (ln:Int),.int .i64 (co:Int)]/\Lv 4 s.nx s v vs.length (fl ruE vs) 7/\Has L 0 (.ptr 0 0)/\Has L 2 (.ptr 1 0)/\Has L 4 (.ptr 3 0)) ?_ ts.length ?_
   ·rintro m L s ⟨_,i',vs,v,rfl,hm,hi',hl,n0,C0,C1,C3,V,i0,i2,i4⟩;clear hr;cases m with
    |zero=>omega
    |succ m=>
    unfold J9 at hl;obtain⟨q,hq⟩:∃ q,q=s.nx:=⟨_,rfl⟩;rw[<-hq] at V;have hq':q<=s.nx:=QbG hq;have T:=YO hb hi' (d:=0) (by omega) [[119,104,101,110]] (cs:=[.str [119,104,101,110]]) (n:=1) rfl rfl (by decide);have L0:=C0.lt;have L1:=C1.lt;have L3:=C3.lt;have ve:=V.eqs;have g3:rat s.h 3 1=v:=C3.cell 1 (QbS (Qbt 2));have vl:=V.len;have vc:∀ l,lall AV.cell (v :: l)=lall AV.cell l:=λl=>by show cond v.cell _ false=_;rw[V.cell];rfl
    by_cases c2:isM (tk ts i') [[119,104,101,110]]=true
    ·rw[if_pos c2] at hl;have hi1:=W.isM hi' c2;by_cases h32:32<=vs.length
     ·rw[if_pos h32] at hl;have hl:SR.er (tk ts i')=r:=hl;subst hl;have R:=wS hb h32 (tk ts i');unfold pC at *
      (have zz:=aI @g3 (aI C0.r (aI C1.r C3.r));(repeat'(first|apply jc<;>intro _|simp(disch:=first|exact qS|fail) only[ja i0,ja i2,ja i4,T,c2,vl,R,g3,zy,C0.q,C1.q,C3.q,g3,C0.r,C1.r,C3.r,je,Tk.cells_R,rzZ,Qab,Qac,Qad,Qaa,Qae]));all_goals clear zz)
      refine⟨i'+1,0,?_⟩;unfold pC
      (refine G1.done ?_ (by rfl) (by rfl) ?_;(· (have zz:=aI C0.q (aI C1.q (aI C3.q (aI C0.r (aI C1.r C3.r))));first|exact qj|fail));(· first|exact vyD|skip))
     ·rw[if_neg h32] at hl;have R:=wR hb (show vs.length<32 by omega) (tk ts i');have A:=jpD hb W hi1;cases hw:Xr ts (i'+1) with
      |er t=>
       rw[hw] at hl A;have hl:SR.er t=r:=hl;subst hl;obtain⟨i2',d2,A⟩:=A;have E:∀ st p,Cl st p (pC ts (i'+1) 0)->∀ K Kp,XB Qaf base 123 [.ptr p 0] st K Kp=_:=λst p C K Kp=>A.xb C rfl (λst=>hb.no 123 (by decide) _ _) K Kp;unfold pC at *
       (have zz:=aI @g3 (aI C0.r (aI C1.r C3.r));(repeat'(first|apply jc<;>intro _|simp(disch:=first|exact qS|fail) only[ja i0,ja i2,ja i4,T,c2,vl,R,g3,E,jpw,ve,zy,C0.q,C1.q,C3.q,g3,C0.r,C1.r,C3.r,je,Tk.cells_R,rzZ,Qab,Qac,Qad,Qaa,Qae]));all_goals clear zz)
       refine⟨i2',d2,?_⟩;unfold pC
       (refine G1.done ?_ (by rfl) (by rfl) ?_;(· (have zz:=aI C0.q (aI C1.q (aI C3.q (aI C0.r (aI C1.r C3.r))));first|exact qj|fail));(· first|exact vyD|skip))
      |ok a j=>
       rw[hw] at hl A;dsimp only at hl;have A:PM _ _ _ _ _ _ _:=A;have A:PM Qaf base 123 (pC ts (i'+1) 0) [] (.ok (.agg [.int .i64 a.when.op,.int .i64 a.when.num,.str a.when.name,.lst a.when.kids.length (fl eE a.when.kids),.int .i64 a.when.line,.int .i64 a.when.col,.lst a.acts.length (fl asE a.acts)])) (pC ts j 0):=by rw[<-VA];exact A
       have hj:=Uz W hi1 hw;have E:∀ st p,Cl st p (pC ts (i'+1) 0)->∀ K Kp,XB Qaf base 123 [.ptr p 0] st K Kp=_:=λst p C K Kp=>A.xb C rfl (λst=>hb.no 123 (by decide) _ _) K Kp;have Ap:=λst bv xc xx K h hv=>@J5 4 q vs.length 7 st v (fl ruE vs) K 96 bv xc xx h (by decide) (by omega) (by omega) hv;have V2:∀ st m',Lv 4 q st v vs.length (fl ruE vs) 7->4<=st.nx->m'=st.nx+1->Lv 4 m' (aps v st [.int .i64 a.when.op,.int .i64 a.when.num,.str a.when.name,.lst a.when.kids.length (fl eE a.when.kids),.int .i64 a.when.line,.int .i64 a.when.col,.lst a.acts.length (fl asE a.acts)]) (apv 7 v st) (vs ++ [a]).length (fl ruE (vs ++ [a])) 7:=λst m' h h2 h3=>by
        rw[Qal,Qd,JG,VA a];exact h.put rfl h2 h3
       unfold pC at *
       (have zz:=aI @g3 (aI V.ln (aI V.rts (aI @jz (aI @jE (aI @jJ (aI @V (aI @jA (aI @jH (aI @jK (aI C0.r (aI C1.r C3.r)))))))))));(repeat'(first|apply jc<;>intro _|simp(disch:=first|exact qS|fail) only[ja i0,ja i2,ja i4,T,c2,vl,R,g3,E,jpw,ve,Ap,V.at,jA,C0.q,C1.q,C3.q,g3,V.ln,V.rts,jz,jE,jJ,V,jA,jH,jK,C0.r,C1.r,C3.r,je,Tk.cells_R,rzZ,Qab,Qac,Qad,Qaa,Qae]));all_goals clear zz)
       refine⟨m,by omega,m,j,vs ++ [a],?v,rfl,by omega,hj.2,hl,by omega,?c0,?c1,?c3,?lv,?has⟩;case lv=>
        refine Lv.up (hi:=s.nx+4) ?_ (by omega);refine V2 _ _ ?_ ?_ ?_;all_goals first|(simp only[jg,jh,jt];done)|(simp only[jg,jh,jt];omega)|(simp(disch:=first|omega|(simp only[jg,jh,jt];omega)) only[jz,jE,jJ];exact V)
       case c0=>(have zz:=aI C0.q (aI C1.q (aI C3.q (aI @g3 (aI V.ln (aI V.rts (aI @jA (aI @jH (aI @jK (aI C0.r (aI C1.r C3.r))))))))));first|exact qj|fail)
       case c1=>(have zz:=aI C0.q (aI C1.q (aI C3.q (aI @g3 (aI V.ln (aI V.rts (aI @jA (aI @jH (aI @jK (aI C0.r (aI C1.r C3.r))))))))));first|exact qj|fail)
       case c3=>(have zz:=aI C0.q (aI C1.q (aI C3.q (aI @g3 (aI V.ln (aI V.rts (aI @jA (aI @jH (aI @jK (aI C0.r (aI C1.r C3.r))))))))));first|exact qj|fail)
       case has=>simp(disch:=decide) only[Qam,Qar,z0,z1,jf,jb,and_true,true_and,i0,i2,i4]
    ·rw[if_neg c2] at hl;have M:=λst p=>@QJ base hb ts i' 0 hi' (by omega) [125] st p;unfold pC at *
     (have zz:=aI @g3 (aI @vc (aI C0.r (aI C1.r C3.r)));(repeat'(first|apply jc<;>intro _|simp(disch:=first|exact qS|fail) only[ja i0,ja i2,ja i4,T,c2,M,g3,C0.q,C1.q,C3.q,g3,vc,C0.r,C1.r,C3.r,je,Tk.cells_R,rzZ,Qab,Qac,Qad,Qaa,Qae]));all_goals clear zz)
     ·rename_i c4;rw[if_pos c4] at hl;have hl:SR.ok (⟨nm,vs,ln,co⟩:ProcT) (i'+1)=r:=hl;subst hl;show G1 3 (pC ts (i'+1) 0) (.agg (prE ⟨nm,vs,ln,co⟩)) _ _;refine G1.done ?_ (by rfl) (by rfl) (FzD.agg (.cons (.pc rfl) (.cons (Lv.fz (lo:=4) (hi:=q) (z:=7) ?_ (by decide) (zp Wy _)) (.cons (.pc rfl) (.cons (.pc rfl) .nil)))))
      ·unfold pC
       (have zz:=aI C0.q (aI C1.q (aI C3.q (aI @g3 (aI V.ln (aI V.rts (aI @jA (aI @jH (aI @jK (aI C0.r (aI C1.r C3.r))))))))));first|exact qj|fail)
      ·simp(disch:=first|omega|(simp only[jg,jh,jt];omega)) only[jG,jz,jE,jJ];exact V
     ·rename_i c4;rw[if_neg c4] at hl;have hl:SR.er (tk ts i')=r:=hl;subst hl;refine⟨i',0,?_⟩;unfold pC
      (refine G1.done ?_ (by rfl) (by rfl) ?_;(· (have zz:=aI C0.q (aI C1.q (aI C3.q (aI @g3 (aI V.ln (aI V.rts (aI @jA (aI @jH (aI @jK (aI C0.r (aI C1.r C3.r))))))))));first|exact qj|fail));(· first|exact vyD|skip))
   ·refine⟨ts.length,i+2,[],.nils,rfl,by omega,hi2,hr,by omega,C0,C1,C3,Lv.nil,?_⟩;simp(disch:=decide) only[Qam,Qar,z0,z1,jf,jb,and_true,true_and]
  ·rw[if_neg c1];refine⟨i+1,0,?_⟩;unfold pC at *;refine qa x80 (by rfl) (hb.pur 90 3 (by decide)) rfl ?_;simp only[y80,ju,Qai,Qaj,Qag,Qah];rw[(by unfold z80;simp only[qq];rfl:z80=_)];repeat'(first|apply jc<;>intro _|simp(disch:=first|exact dzD|fail) only[N,k1,M,c1,je,Tk.cells_R,rzZ,Qab,Qac,Qad,Qaa,Qae])
   (refine G1.done ?_ (by rfl) (by rfl) ?_;(· (first|exact cyD|fail));(· first|exact vyD|skip))
 ·rw[if_neg k1];refine⟨i,0,?_⟩;unfold pC at *;refine qa x80 (by rfl) (hb.pur 90 3 (by decide)) rfl ?_;simp only[y80,ju,Qai,Qaj,Qag,Qah];rw[(by unfold z80;simp only[qq];rfl:z80=_)];repeat'(first|apply jc<;>intro _|simp(disch:=first|exact dzD|fail) only[N,k1,je,Tk.cells_R,rzZ,Qab,Qac,Qad,Qaa,Qae])
  (refine G1.done ?_ (by rfl) (by rfl) ?_;(· (first|exact cyD|fail));(· first|exact vyD|skip))
def Df:AV->AV->Prop
 |.slice b _ _ _ _ _,.slice c _ _ _ _ _=>c≠b
 |_,_=>True
theorem Lv.apsD {lo hi n z:Nat}{s:St}{v w:AV}{cs news:List AV}(V:Lv lo hi s w n cs z)(h:Df v w):Lv lo hi (Go.Sy.aps v s news) w n cs z:=by
 rcases V with ⟨rfl,h2,h3⟩|⟨b,rfl,h2,h3,h4,h5,h6⟩
 ·exact .inl ⟨rfl,h2,h3⟩
 ·refine .inr ⟨b,rfl,h2,h3,?_,h5,h6⟩;unfold Go.Sy.aps;split
  ·exact h4.apO h
  ·exact h4.nw news
theorem Df.put {lo hi n z z':Nat}{s t:St}{v w:AV}{cs:List AV}(V:Lv lo hi s w n cs z)(h:hi<=t.nx):Df (apv z' v t) w/\Df w (apv z' v t):=by
 rcases V with ⟨rfl,h2,h3⟩|⟨b,rfl,h2,h3,h4,h5,h6⟩
 ·unfold apv;split<;>exact⟨trivial,trivial⟩
 ·unfold apv;split<;>exact⟨by show b≠t.nx;omega,by show t.nx≠b;omega⟩
structure SrcT where
 enums:List EnumT
 vars:List DeclT
 procs:List ProcT
def srE (m:SrcT):List AV:=[.lst m.enums.length (fl enE m.enums),.lst m.vars.length (fl qg m.vars),.lst m.procs.length (fl prE m.procs)]
def XL (ts:List Tk):Nat->Nat->SrcT->SR SrcT
 |0,i,_=>.er (tk ts i)
 |n+1,i,m=>if isM (tk ts i) [[101,110,117,109],[118,97,114],[112,114,111,99,101,115,115]]=true then
   (if(tk ts i).text=[101,110,117,109] then
    (if 32<=m.enums.length then .er (tk ts i) else match ZE ts (i+1) with
     |.er t=>.er t
     |.ok e j=>XL ts n j { m with enums:=m.enums ++ [e] })
   else if(tk ts i).text=[118,97,114] then
    (if 32<=m.vars.length then .er (tk ts i) else match Yg ts (i+1) with
     |.er t=>.er t
     |.ok e j=>XL ts n j { m with vars:=m.vars ++ [e] })
   else(if 32<=m.procs.length then .er (tk ts i) else match X6 ts (i+1) with
     |.er t=>.er t
     |.ok e j=>XL ts n j { m with procs:=m.procs ++ [e] }))
  else if(tk ts i).kind=5 then .ok m i else .er (tk ts i)
theorem jdA {ts:List Tk}(W:Wds ts):∀ n i vs ws j,i<ts.length->YL ts n i vs=.ok ws j->i<=j/\j<ts.length
 |0,i,vs,ws,j,_,h=>by simp[YL] at h
 |n+1,i,vs,ws,j,hi,h=>by
  unfold YL at h;split at h
  ·rename_i k1;have hi1:i+1<ts.length:=W.next i hi (by omega)
   split at h
   ·cases h
   ·split at h
    ·rename_i c;have hi2:=W.isM hi1 c;have:=jdA W n (i+2) _ ws j hi2 h;exact⟨by omega,by omega⟩
    ·split at h
     ·rename_i c;cases h;have:=W.isM hi1 c;exact⟨by omega,this⟩
     ·cases h
  ·cases h
theorem GR {ts:List Tk}(W:Wds ts){i j:Nat}{e:EnumT}(hi:i<ts.length)(h:ZE ts i=.ok e j):i<j/\j<ts.length:=by
 unfold ZE at h;split at h
 ·rename_i k1;have hi1:i+1<ts.length:=W.next i hi (by omega)
  split at h
  ·rename_i c;have hi2:=W.isM hi1 c;cases hv:YL ts ts.length (i+2) [] with
   |er t=>rw[hv] at h;cases h
   |ok vs k=>
    rw[hv] at h;cases h;have:=jdA W _ _ _ _ _ hi2 hv;exact⟨by omega,by omega⟩
  ·cases h
 ·cases h
theorem jbJ {ts:List Tk}(W:Wds ts):∀ n i vs ws j,i<ts.length->J9 ts n i vs=.ok ws j->i<=j/\j<ts.length
 |0,i,vs,ws,j,_,h=>by simp[J9] at h
 |n+1,i,vs,ws,j,hi,h=>by
  unfold J9 at h;split at h
  ·rename_i c;have hi1:=W.isM hi c;split at h
   ·cases h
   ·cases hr:Xr ts (i+1) with
    |er t=>rw[hr] at h;cases h
    |ok r k=>
     rw[hr] at h;dsimp only at h;have g:=Uz W hi1 hr;have:=jbJ W n k _ ws j g.2 h;exact⟨by omega,by omega⟩
  ·split at h
   ·rename_i c;cases h;exact⟨by omega,W.isM hi c⟩
   ·cases h
theorem Gt {ts:List Tk}(W:Wds ts){i j:Nat}{e:ProcT}(hi:i<ts.length)(h:X6 ts i=.ok e j):i<j/\j<ts.length:=by
 unfold X6 at h;split at h
 ·rename_i k1;have hi1:i+1<ts.length:=W.next i hi (by omega)
  split at h
  ·rename_i c;have hi2:=W.isM hi1 c;cases hv:J9 ts ts.length (i+2) [] with
   |er t=>rw[hv] at h;cases h
   |ok vs k=>
    rw[hv] at h;cases h;have:=jbJ W _ _ _ _ _ hi2 hv;exact⟨by omega,by omega⟩
  ·cases h
 ·cases h
theorem jhO {ts:List Tk}(W:Wds ts){i j:Nat}{n:Int}(h:YV ts i=.ok n j):i<j:=by
 unfold YV at h;split at h
 ·split at h
  ·cases h;omega
  ·cases h
 ·split at h
  ·cases h;omega
  ·cases h
theorem jbC {ts:List Tk}(W:Wds ts){i j:Nat}{y:List Nat×Int×Int}(hi:i<ts.length)(h:Ws ts i=.ok y j):i<j/\j<ts.length:=by
 unfold Ws at h;split at h
 ·rename_i c;cases h;exact⟨by omega,W.isM hi c⟩
 ·split at h
  ·rename_i k1;cases h;exact⟨by omega,W.next i hi (by omega)⟩
  ·cases hn:YV ts i with
   |er t=>rw[hn] at h;cases h
   |ok lo k=>
    rw[hn] at h;dsimp only at h;have g:=KW W hi hn;have g1:=jhO W hn;split at h
    ·rename_i c;have hk1:=W.isM g c;cases hn2:YV ts (k+1) with
     |er t=>rw[hn2] at h;cases h
     |ok h2 q=>
      rw[hn2] at h;cases h;have:=KW W hk1 hn2;have:=jhO W hn2;exact⟨by omega,by omega⟩
    ·cases h
theorem jq2 {ts:List Tk}(W:Wds ts){i j:Nat}{bs:List Ex}(hi:i<ts.length)(h:Z4 ts i=.ok bs j):i<j/\j<ts.length:=by
 unfold Z4 at h;split at h
 ·rename_i c;have hi1:=W.isM hi c;cases hw:yq ts (i+1) with
  |er t=>rw[hw] at h;cases h
  |ok x k=>
   rw[hw] at h;dsimp only at h;have g:=yd W hi1 hw;split at h
   ·rename_i c2;cases h;have:=W.isM g.2.1 c2;have:=g.1;exact⟨by omega,by omega⟩
   ·cases h
 ·split at h
  ·rename_i c;cases h;exact⟨by omega,W.isM hi c⟩
  ·cases h
theorem GW {ts:List Tk}(W:Wds ts){i j:Nat}{e:DeclT}(hi:i<ts.length)(h:Yg ts i=.ok e j):i<j/\j<ts.length:=by
 unfold Yg at h;split at h
 ·rename_i k1;have hi1:i+1<ts.length:=W.next i hi (by omega)
  split at h
  ·rename_i c;have hi2:=W.isM hi1 c;cases ht:Ws ts (i+2) with
   |er t=>rw[ht] at h;cases h
   |ok y k=>
    rw[ht] at h;dsimp only at h;have g:=jbC W hi2 ht;cases hv:Z4 ts k with
    |er t=>rw[hv] at h;cases h
    |ok bs q=>
     rw[hv] at h;cases h;have:=jq2 W g.2 hv;exact⟨by omega,by omega⟩
  ·cases h
 ·cases h
theorem JV (e:EnumT):(enE e).all pc=true:=by
 have:∀ l:List (List Nat),(l.map AV.str).all pc=true:=uV;show([AV.str e.name,.lst e.vals.length (e.vals.map .str),.int .i64 (e.line:Int),.int .i64 (e.col:Int)]).all pc=true;simp[pc]
theorem Jy (e:DeclT):(qg e).all pc=true:=by
 show([AV.str e.name,.str e.ty,.int .i64 e.lo,.int .i64 e.hi,.lst e.begins.length (fl eE e.begins),.int .i64 (e.line:Int),.int .i64 (e.col:Int)]).all pc=true;simp[pc]
theorem jaJ (e:ProcT):(prE e).all pc=true:=by
 show([AV.str e.name,.lst e.rules.length (fl ruE e.rules),.int .i64 (e.line:Int),.int .i64 (e.col:Int)]).all pc=true;simp[pc]
theorem Df.symm {v w:AV}(h:Df v w):Df w v:=by
 unfold Df at *;split at h<;>first|exact λe=>h e.symm|(cases v<;>cases w<;>first|trivial|(rename_i h2;exact absurd rfl (h2 _ _ _ _ _ _ _ _ _ _ _ _ rfl)))
theorem jrO:Go.Ev.isAgg Qaf 22=some false:=by kernel_rfl
theorem jrN:Go.Ev.sizeOf Qaf 22=some 1:=by kernel_rfl
theorem Gj {b o:Nat}{v:AV}{h:T AO}(ho:o<qr h b)(hv:rat h b o=v)(hc:eqs v=true):(jZ Qaf 22 (.ptr b o) v h=true)=True:=eq_true (QE jrO jrN ho hv hc)
theorem jrM:Go.Ev.isAgg Qaf 23=some false:=by kernel_rfl
theorem jrL:Go.Ev.sizeOf Qaf 23=some 1:=by kernel_rfl
theorem jpz {b o:Nat}{v:AV}{h:T AO}(ho:o<qr h b)(hv:rat h b o=v)(hc:eqs v=true):(jZ Qaf 23 (.ptr b o) v h=true)=True:=eq_true (QE jrM jrL ho hv hc)
theorem jrK:Go.Ev.isAgg Qaf 24=some false:=by kernel_rfl
theorem jrJ:Go.Ev.sizeOf Qaf 24=some 1:=by kernel_rfl
theorem jpy {b o:Nat}{v:AV}{h:T AO}(ho:o<qr h b)(hv:rat h b o=v)(hc:eqs v=true):(jZ Qaf 24 (.ptr b o) v h=true)=True:=eq_true (QE jrK jrJ ho hv hc)
set_option maxHeartbeats 8000000 in
theorem jkv (hb:NB base){ts:List Tk}(W:Wds ts)(NN:Nbs ts){i:Nat}(hi:i<ts.length):AnS base 66 (pC ts i 0) [] ts 0 (λe=>.agg (srE e)) (XL ts ts.length i ⟨[],[],[]⟩):=by
 have wl:=W.len;suffices h:∀ r:SR SrcT,XL ts ts.length i ⟨[],[],[]⟩=r->AnS base 66 (pC ts i 0) [] ts 0 (λe=>.agg (srE e)) r from h _ rfl
 intro r hr;refine vL x37 (by rfl) (hb.pur 66 3 (by decide)) ?_;simp only[y37,ju,Qai,Qaj,Qag,Qah];rw[(by unfold z37;simp only[qq];rfl:z37=_)];unfold pC at *;repeat'(first|apply jc<;>intro _|simp(disch:=first|exact dzD|fail) only[je,Tk.cells_R,rzZ,Qab,Qac,Qad,Qaa,Qae])
 refine uR λu hu=>?_;have n0:u.nx=3:=by rw[hu];rfl
 have C0:Cl u 0 (pC ts i 0):=by
  rw[hu];unfold pC
  (first|exact cyD|fail)
 have C1:Cl u 1 [.nils,.nils,.nils]:=by
  rw[hu]
  (first|exact cyD|fail)
 have C2:Cl u 2 [.nils,.nils,.nils]:=by
  rw[hu]
  (first|exact cyD|fail)
 clear hu;refine yH (λmm L s=>∃ (m i':Nat) (x:SrcT) (v1 v2 v3:AV),mm=m/\ts.length<=i'+m/\i'<ts.length/\XL ts m i' x=r/\3<=s.nx/\Cl s 0 (pC ts i' 0)/\Cl s 1 [.nils,.nils,.nils]/\Cl s 2 [v1,v2,v3]/\Lv 3 s.nx s v1 x.enums.length (fl enE x.enums) 4/\Lv 3 s.nx s v2 x.vars.length (fl qg x.vars) 7/\Lv 3 s.nx s v3 x.procs.length (fl prE x.procs) 4/\Df v1 v2/\Df v1 v3/\Df v2 v3/\Has L 0 (.ptr 0 0)/\Has L 2 (.ptr 1 0)/\Has L 3 (.ptr 2 0)) ?_ ts.length ?_
 ·rintro m L s ⟨_,i',x,v1,v2,v3,rfl,hm,hi',hl,n0,C0,C1,C2,V1,V2,V3,D12,D13,D23,i0,i2,i3⟩;clear hr;cases m with
  |zero=>omega
  |succ m=>
  unfold XL at hl;obtain⟨q,hq⟩:∃ q,q=s.nx:=⟨_,rfl⟩;rw[<-hq] at V1 V2 V3;have hq':q<=s.nx:=QbG hq;have T:=YO hb hi' (d:=0) (by omega) [[101,110,117,109],[118,97,114],[112,114,111,99,101,115,115]] (cs:=[.str [101,110,117,109],.str [118,97,114],.str [112,114,111,99,101,115,115]]) (n:=3) rfl rfl (by decide);have L0:=C0.lt;have L1:=C1.lt;have L2:=C2.lt;have ve1:=V1.eqs;have ve2:=V2.eqs;have ve3:=V3.eqs;have g1:rat s.h 2 0=v1:=C2.cell 0 (Qbt 2);have g2:rat s.h 2 1=v2:=C2.cell 1 (QbS (Qbt 1));have g3:rat s.h 2 2=v3:=C2.cell 2 (QbS (QbS (Qbt 0)));have vl1:=V1.len;have vl2:=V2.len;have vl3:=V3.len;have vc1:∀ l,lall AV.cell (v1 :: l)=lall AV.cell l:=λl=>by show cond v1.cell _ false=_;rw[V1.cell];rfl
  have vc2:∀ l,lall AV.cell (v2 :: l)=lall AV.cell l:=λl=>by show cond v2.cell _ false=_;rw[V2.cell];rfl
  have vc3:∀ l,lall AV.cell (v3 :: l)=lall AV.cell l:=λl=>by show cond v3.cell _ false=_;rw[V3.cell];rfl
  by_cases c2:isM (tk ts i') [[101,110,117,109],[118,97,114],[112,114,111,99,101,115,115]]=true
  ·rw[if_pos c2] at hl;have hi1:=W.isM hi' c2;by_cases t1:(tk ts i').text=[101,110,117,109]
   ·rw[if_pos t1] at hl;by_cases h32:32<=x.enums.length
    ·rw[if_pos h32] at hl;have hl:SR.er (tk ts i')=r:=hl;subst hl;have R:=wS hb h32 (tk ts i');unfold pC at *
     (have zz:=aI @g1 (aI C0.r (aI C1.r C2.r));(repeat'(first|apply jc<;>intro _|simp(disch:=first|exact qS|fail) only[ja i0,ja i2,ja i3,T,c2,t1,vl1,R,g1,zy,C0.q,C1.q,C2.q,g1,C0.r,C1.r,C2.r,je,Tk.cells_R,rzZ,Qab,Qac,Qad,Qaa,Qae]));all_goals clear zz)
     refine⟨i'+1,0,?_⟩;unfold pC
     (refine G1.done ?_ (by rfl) (by rfl) ?_;(· (have zz:=aI C0.q (aI C1.q (aI C2.q (aI C0.r (aI C1.r C2.r))));first|exact qj|fail));(· first|exact vyD|skip))
    ·rw[if_neg h32] at hl;have R:=wR hb (show x.enums.length<32 by omega) (tk ts i');have A:=jqB hb W (d:=0) hi1;cases hw:ZE ts (i'+1) with
     |er t=>
      rw[hw] at hl A;have hl:SR.er t=r:=hl;subst hl;obtain⟨i2',d2,A⟩:=A;have E:∀ st p,Cl st p (pC ts (i'+1) 0)->∀ K Kp,XB Qaf base 88 [.ptr p 0] st K Kp=_:=λst p C K Kp=>A.xb C rfl (λst=>hb.no 88 (by decide) _ _) K Kp;unfold pC at *
      (have zz:=aI @g1 (aI C0.r (aI C1.r C2.r));(repeat'(first|apply jc<;>intro _|simp(disch:=first|exact qS|fail) only[ja i0,ja i2,ja i3,T,c2,t1,vl1,R,g1,E,Gj,ve1,zy,C0.q,C1.q,C2.q,g1,C0.r,C1.r,C2.r,je,Tk.cells_R,rzZ,Qab,Qac,Qad,Qaa,Qae]));all_goals clear zz)
      refine⟨i2',d2,?_⟩;unfold pC
      (refine G1.done ?_ (by rfl) (by rfl) ?_;(· (have zz:=aI C0.q (aI C1.q (aI C2.q (aI C0.r (aI C1.r C2.r))));first|exact qj|fail));(· first|exact vyD|skip))
     |ok a j=>
      rw[hw] at hl A;dsimp only at hl;have A:PM Qaf base 88 (pC ts (i'+1) 0) [] (.ok (.agg [.str a.name,.lst a.vals.length (a.vals.map .str),.int .i64 (a.line:Int),.int .i64 (a.col:Int)])) (pC ts j 0):=A;have hj:=GR W hi1 hw;have E:∀ st p,Cl st p (pC ts (i'+1) 0)->∀ K Kp,XB Qaf base 88 [.ptr p 0] st K Kp=_:=λst p C K Kp=>A.xb C rfl (λst=>hb.no 88 (by decide) _ _) K Kp;have Ap:=λst bv xc xx K h hv=>@J5 3 q x.enums.length 4 st v1 (fl enE x.enums) K 56 bv xc xx h (by decide) (by omega) (by omega) hv;have VP:∀ st m',Lv 3 q st v1 x.enums.length (fl enE x.enums) 4->3<=st.nx->m'=st.nx+1->Lv 3 m' (aps v1 st [.str a.name,.lst a.vals.length (a.vals.map .str),.int .i64 (a.line:Int),.int .i64 (a.col:Int)]) (apv 4 v1 st) (x.enums ++ [a]).length (fl enE (x.enums ++ [a])) 4:=λst m' h h2 h3=>by
       rw[Qal,Qd,JG];exact h.put rfl h2 h3
      unfold pC at *
      (have zz:=aI @g1 (aI V1.ln (aI V1.rts (aI @jz (aI @jE (aI @jJ (aI @V1 (aI @jA (aI @jH (aI @jK (aI C0.r (aI C1.r C2.r)))))))))));(repeat'(first|apply jc<;>intro _|simp(disch:=first|exact qS|fail) only[ja i0,ja i2,ja i3,T,c2,t1,vl1,R,g1,E,Gj,ve1,Ap,V1.at,jA,C0.q,C1.q,C2.q,g1,V1.ln,V1.rts,jz,jE,jJ,V1,jA,jH,jK,C0.r,C1.r,C2.r,je,Tk.cells_R,rzZ,Qab,Qac,Qad,Qaa,Qae]));all_goals clear zz)
      refine⟨m,by omega,m,j,{ x with enums:=x.enums ++ [a] },?v1,v2,v3,rfl,by omega,hj.2,hl,by omega,?c0,?c1,?c2,?lv1,?lv2,?lv3,?d12,?d13,?d23,?has⟩;case lv1=>
       refine Lv.up (hi:=s.nx+4) ?_ (by omega);refine VP _ _ ?_ ?_ ?_;all_goals first|(simp only[jg,jh,jt];done)|(simp only[jg,jh,jt];omega)|(simp(disch:=first|omega|(simp only[jg,jh,jt];omega)) only[jz,jE,jJ];exact V1)
      case lv2=>
       refine Lv.up (hi:=q) ?_ (by omega);simp(disch:=first|omega|(simp only[jg,jh,jt];omega)) only[jz,jE,jJ];refine Lv.apsD ?_ D12;simp(disch:=first|omega|(simp only[jg,jh,jt];omega)) only[jz,jE,jJ];exact V2
      case d12=>exact(Df.put V2 (by simp only[jg,jh,jt];omega)).1
      case lv3=>
       refine Lv.up (hi:=q) ?_ (by omega);simp(disch:=first|omega|(simp only[jg,jh,jt];omega)) only[jz,jE,jJ];refine Lv.apsD ?_ D13;simp(disch:=first|omega|(simp only[jg,jh,jt];omega)) only[jz,jE,jJ];exact V3
      case d13=>exact(Df.put V3 (by simp only[jg,jh,jt];omega)).1
      case d23=>exact D23
      case c0=>(have zz:=aI C0.q (aI C1.q (aI C2.q (aI @g1 (aI @g2 (aI @g3 (aI V1.ln (aI V1.rts (aI @jA (aI @jH (aI @jK (aI C0.r (aI C1.r C2.r))))))))))));first|exact qj|fail)
      case c1=>(have zz:=aI C0.q (aI C1.q (aI C2.q (aI @g1 (aI @g2 (aI @g3 (aI V1.ln (aI V1.rts (aI @jA (aI @jH (aI @jK (aI C0.r (aI C1.r C2.r))))))))))));first|exact qj|fail)
      case c2=>(have zz:=aI C0.q (aI C1.q (aI C2.q (aI @g1 (aI @g2 (aI @g3 (aI V1.ln (aI V1.rts (aI @jA (aI @jH (aI @jK (aI C0.r (aI C1.r C2.r))))))))))));first|exact qj|fail)
      case has=>simp(disch:=decide) only[Qam,Qar,z0,z1,jf,jb,and_true,true_and,i0,i2,i3]
   ·rw[if_neg t1] at hl;by_cases t2:(tk ts i').text=[118,97,114]
    ·rw[if_pos t2] at hl;by_cases h32:32<=x.vars.length
     ·rw[if_pos h32] at hl;have hl:SR.er (tk ts i')=r:=hl;subst hl;have R:=wS hb h32 (tk ts i');unfold pC at *
      (have zz:=aI @g2 (aI C0.r (aI C1.r C2.r));(repeat'(first|apply jc<;>intro _|simp(disch:=first|exact qS|fail) only[ja i0,ja i2,ja i3,T,c2,t1,t2,vl2,R,g2,zy,C0.q,C1.q,C2.q,g2,C0.r,C1.r,C2.r,je,Tk.cells_R,rzZ,Qab,Qac,Qad,Qaa,Qae]));all_goals clear zz)
      refine⟨i'+1,0,?_⟩;unfold pC
      (refine G1.done ?_ (by rfl) (by rfl) ?_;(· (have zz:=aI C0.q (aI C1.q (aI C2.q (aI C0.r (aI C1.r C2.r))));first|exact qj|fail));(· first|exact vyD|skip))
     ·rw[if_neg h32] at hl;have R:=wR hb (show x.vars.length<32 by omega) (tk ts i');have A:=jqJ hb W NN hi1;cases hw:Yg ts (i'+1) with
      |er t=>
       rw[hw] at hl A;have hl:SR.er t=r:=hl;subst hl;obtain⟨i2',d2,A⟩:=A;have E:∀ st p,Cl st p (pC ts (i'+1) 0)->∀ K Kp,XB Qaf base 89 [.ptr p 0] st K Kp=_:=λst p C K Kp=>A.xb C rfl (λst=>hb.no 89 (by decide) _ _) K Kp;unfold pC at *
       (have zz:=aI @g2 (aI C0.r (aI C1.r C2.r));(repeat'(first|apply jc<;>intro _|simp(disch:=first|exact qS|fail) only[ja i0,ja i2,ja i3,T,c2,t1,t2,vl2,R,g2,E,jpz,ve2,zy,C0.q,C1.q,C2.q,g2,C0.r,C1.r,C2.r,je,Tk.cells_R,rzZ,Qab,Qac,Qad,Qaa,Qae]));all_goals clear zz)
       refine⟨i2',d2,?_⟩;unfold pC
       (refine G1.done ?_ (by rfl) (by rfl) ?_;(· (have zz:=aI C0.q (aI C1.q (aI C2.q (aI C0.r (aI C1.r C2.r))));first|exact qj|fail));(· first|exact vyD|skip))
      |ok a j=>
       rw[hw] at hl A;dsimp only at hl;have A:PM Qaf base 89 (pC ts (i'+1) 0) [] (.ok (.agg [.str a.name,.str a.ty,.int .i64 a.lo,.int .i64 a.hi,.lst a.begins.length (fl eE a.begins),.int .i64 (a.line:Int),.int .i64 (a.col:Int)])) (pC ts j 0):=A;have hj:=GW W hi1 hw;have E:∀ st p,Cl st p (pC ts (i'+1) 0)->∀ K Kp,XB Qaf base 89 [.ptr p 0] st K Kp=_:=λst p C K Kp=>A.xb C rfl (λst=>hb.no 89 (by decide) _ _) K Kp;have Ap:=λst bv xc xx K h hv=>@J5 3 q x.vars.length 7 st v2 (fl qg x.vars) K 88 bv xc xx h (by decide) (by omega) (by omega) hv;have VP:∀ st m',Lv 3 q st v2 x.vars.length (fl qg x.vars) 7->3<=st.nx->m'=st.nx+1->Lv 3 m' (aps v2 st [.str a.name,.str a.ty,.int .i64 a.lo,.int .i64 a.hi,.lst a.begins.length (fl eE a.begins),.int .i64 (a.line:Int),.int .i64 (a.col:Int)]) (apv 7 v2 st) (x.vars ++ [a]).length (fl qg (x.vars ++ [a])) 7:=λst m' h h2 h3=>by
        rw[Qal,Qd,JG];exact h.put rfl h2 h3
       unfold pC at *
       (have zz:=aI @g2 (aI V2.ln (aI V2.rts (aI @jz (aI @jE (aI @jJ (aI @V2 (aI @jA (aI @jH (aI @jK (aI C0.r (aI C1.r C2.r)))))))))));(repeat'(first|apply jc<;>intro _|simp(disch:=first|exact qS|fail) only[ja i0,ja i2,ja i3,T,c2,t1,t2,vl2,R,g2,E,jpz,ve2,Ap,V2.at,jA,C0.q,C1.q,C2.q,g2,V2.ln,V2.rts,jz,jE,jJ,V2,jA,jH,jK,C0.r,C1.r,C2.r,je,Tk.cells_R,rzZ,Qab,Qac,Qad,Qaa,Qae]));all_goals clear zz)
       refine⟨m,by omega,m,j,{ x with vars:=x.vars ++ [a] },v1,?v2,v3,rfl,by omega,hj.2,hl,by omega,?c0,?c1,?c2,?lv1,?lv2,?lv3,?d12,?d13,?d23,?has⟩;case lv2=>
        refine Lv.up (hi:=s.nx+4) ?_ (by omega);refine VP _ _ ?_ ?_ ?_;all_goals first|(simp only[jg,jh,jt];done)|(simp only[jg,jh,jt];omega)|(simp(disch:=first|omega|(simp only[jg,jh,jt];omega)) only[jz,jE,jJ];exact V2)
       case lv1=>
        refine Lv.up (hi:=q) ?_ (by omega);simp(disch:=first|omega|(simp only[jg,jh,jt];omega)) only[jz,jE,jJ];refine Lv.apsD ?_ D12.symm;simp(disch:=first|omega|(simp only[jg,jh,jt];omega)) only[jz,jE,jJ];exact V1
       case d12=>exact(Df.put V1 (by simp only[jg,jh,jt];omega)).2
       case lv3=>
        refine Lv.up (hi:=q) ?_ (by omega);simp(disch:=first|omega|(simp only[jg,jh,jt];omega)) only[jz,jE,jJ];refine Lv.apsD ?_ D23;simp(disch:=first|omega|(simp only[jg,jh,jt];omega)) only[jz,jE,jJ];exact V3
       case d23=>exact(Df.put V3 (by simp only[jg,jh,jt];omega)).1
       case d13=>exact D13
       case c0=>(have zz:=aI C0.q (aI C1.q (aI C2.q (aI @g1 (aI @g2 (aI @g3 (aI V2.ln (aI V2.rts (aI @jA (aI @jH (aI @jK (aI C0.r (aI C1.r C2.r))))))))))));first|exact qj|fail)
       case c1=>(have zz:=aI C0.q (aI C1.q (aI C2.q (aI @g1 (aI @g2 (aI @g3 (aI V2.ln (aI V2.rts (aI @jA (aI @jH (aI @jK (aI C0.r (aI C1.r C2.r))))))))))));first|exact qj|fail)
       case c2=>(have zz:=aI C0.q (aI C1.q (aI C2.q (aI @g1 (aI @g2 (aI @g3 (aI V2.ln (aI V2.rts (aI @jA (aI @jH (aI @jK (aI C0.r (aI C1.r C2.r))))))))))));first|exact qj|fail)
       case has=>simp(disch:=decide) only[Qam,Qar,z0,z1,jf,jb,and_true,true_and,i0,i2,i3]
    ·rw[if_neg t2] at hl;by_cases h32:32<=x.procs.length
     ·rw[if_pos h32] at hl;have hl:SR.er (tk ts i')=r:=hl;subst hl;have R:=wS hb h32 (tk ts i');unfold pC at *
      (have zz:=aI @g3 (aI C0.r (aI C1.r C2.r));(repeat'(first|apply jc<;>intro _|simp(disch:=first|exact qS|fail) only[ja i0,ja i2,ja i3,T,c2,t1,t2,vl3,R,g3,zy,C0.q,C1.q,C2.q,g3,C0.r,C1.r,C2.r,je,Tk.cells_R,rzZ,Qab,Qac,Qad,Qaa,Qae]));all_goals clear zz)
      refine⟨i'+1,0,?_⟩;unfold pC
      (refine G1.done ?_ (by rfl) (by rfl) ?_;(· (have zz:=aI C0.q (aI C1.q (aI C2.q (aI C0.r (aI C1.r C2.r))));first|exact qj|fail));(· first|exact vyD|skip))
     ·rw[if_neg h32] at hl;have R:=wR hb (show x.procs.length<32 by omega) (tk ts i');have A:=jpV hb W hi1;cases hw:X6 ts (i'+1) with
      |er t=>
       rw[hw] at hl A;have hl:SR.er t=r:=hl;subst hl;obtain⟨i2',d2,A⟩:=A;have E:∀ st p,Cl st p (pC ts (i'+1) 0)->∀ K Kp,XB Qaf base 90 [.ptr p 0] st K Kp=_:=λst p C K Kp=>A.xb C rfl (λst=>hb.no 90 (by decide) _ _) K Kp;unfold pC at *
       (have zz:=aI @g3 (aI C0.r (aI C1.r C2.r));(repeat'(first|apply jc<;>intro _|simp(disch:=first|exact qS|fail) only[ja i0,ja i2,ja i3,T,c2,t1,t2,vl3,R,g3,E,jpy,ve3,zy,C0.q,C1.q,C2.q,g3,C0.r,C1.r,C2.r,je,Tk.cells_R,rzZ,Qab,Qac,Qad,Qaa,Qae]));all_goals clear zz)
       refine⟨i2',d2,?_⟩;unfold pC
       (refine G1.done ?_ (by rfl) (by rfl) ?_;(· (have zz:=aI C0.q (aI C1.q (aI C2.q (aI C0.r (aI C1.r C2.r))));first|exact qj|fail));(· first|exact vyD|skip))
      |ok a j=>
       rw[hw] at hl A;dsimp only at hl;have A:PM Qaf base 90 (pC ts (i'+1) 0) [] (.ok (.agg [.str a.name,.lst a.rules.length (fl ruE a.rules),.int .i64 (a.line:Int),.int .i64 (a.col:Int)])) (pC ts j 0):=A;have hj:=Gt W hi1 hw;have E:∀ st p,Cl st p (pC ts (i'+1) 0)->∀ K Kp,XB Qaf base 90 [.ptr p 0] st K Kp=_:=λst p C K Kp=>A.xb C rfl (λst=>hb.no 90 (by decide) _ _) K Kp;have Ap:=λst bv xc xx K h hv=>@J5 3 q x.procs.length 4 st v3 (fl prE x.procs) K 56 bv xc xx h (by decide) (by omega) (by omega) hv;have VP:∀ st m',Lv 3 q st v3 x.procs.length (fl prE x.procs) 4->3<=st.nx->m'=st.nx+1->Lv 3 m' (aps v3 st [.str a.name,.lst a.rules.length (fl ruE a.rules),.int .i64 (a.line:Int),.int .i64 (a.col:Int)]) (apv 4 v3 st) (x.procs ++ [a]).length (fl prE (x.procs ++ [a])) 4:=λst m' h h2 h3=>by
        rw[Qal,Qd,JG];exact h.put rfl h2 h3
       unfold pC at *
       (have zz:=aI @g3 (aI V3.ln (aI V3.rts (aI @jz (aI @jE (aI @jJ (aI @V3 (aI @jA (aI @jH (aI @jK (aI C0.r (aI C1.r C2.r)))))))))));(repeat'(first|apply jc<;>intro _|simp(disch:=first|exact qS|fail) only[ja i0,ja i2,ja i3,T,c2,t1,t2,vl3,R,g3,E,jpy,ve3,Ap,V3.at,jA,C0.q,C1.q,C2.q,g3,V3.ln,V3.rts,jz,jE,jJ,V3,jA,jH,jK,C0.r,C1.r,C2.r,je,Tk.cells_R,rzZ,Qab,Qac,Qad,Qaa,Qae]));all_goals clear zz)
       refine⟨m,by omega,m,j,{ x with procs:=x.procs ++ [a] },v1,v2,?v3,rfl,by omega,hj.2,hl,by omega,?c0,?c1,?c2,?lv1,?lv2,?lv3,?d12,?d13,?d23,?has⟩;case lv3=>
        refine Lv.up (hi:=s.nx+4) ?_ (by omega);refine VP _ _ ?_ ?_ ?_;all_goals first|(simp only[jg,jh,jt];done)|(simp only[jg,jh,jt];omega)|(simp(disch:=first|omega|(simp only[jg,jh,jt];omega)) only[jz,jE,jJ];exact V3)
       case lv1=>
        refine Lv.up (hi:=q) ?_ (by omega);simp(disch:=first|omega|(simp only[jg,jh,jt];omega)) only[jz,jE,jJ];refine Lv.apsD ?_ D13.symm;simp(disch:=first|omega|(simp only[jg,jh,jt];omega)) only[jz,jE,jJ];exact V1
       case d13=>exact(Df.put V1 (by simp only[jg,jh,jt];omega)).2
       case lv2=>
        refine Lv.up (hi:=q) ?_ (by omega);simp(disch:=first|omega|(simp only[jg,jh,jt];omega)) only[jz,jE,jJ];refine Lv.apsD ?_ D23.symm;simp(disch:=first|omega|(simp only[jg,jh,jt];omega)) only[jz,jE,jJ];exact V2
       case d23=>exact(Df.put V2 (by simp only[jg,jh,jt];omega)).2
       case d12=>exact D12
       case c0=>(have zz:=aI C0.q (aI C1.q (aI C2.q (aI @g1 (aI @g2 (aI @g3 (aI V3.ln (aI V3.rts (aI @jA (aI @jH (aI @jK (aI C0.r (aI C1.r C2.r))))))))))));first|exact qj|fail)
       case c1=>(have zz:=aI C0.q (aI C1.q (aI C2.q (aI @g1 (aI @g2 (aI @g3 (aI V3.ln (aI V3.rts (aI @jA (aI @jH (aI @jK (aI C0.r (aI C1.r C2.r))))))))))));first|exact qj|fail)
       case c2=>(have zz:=aI C0.q (aI C1.q (aI C2.q (aI @g1 (aI @g2 (aI @g3 (aI V3.ln (aI V3.rts (aI @jA (aI @jH (aI @jK (aI C0.r (aI C1.r C2.r))))))))))));first|exact qj|fail)
       case has=>simp(disch:=decide) only[Qam,Qar,z0,z1,jf,jb,and_true,true_and,i0,i2,i3]
  ·rw[if_neg c2] at hl;by_cases k5:(tk ts i').kind=5
   ·rw[if_pos k5] at hl;have hl:SR.ok x i'=r:=hl;subst hl;have k5':((tk ts i').kind:Int)=5:=by omega
    unfold pC at *
    (have zz:=aI @g1 (aI @g2 (aI @g3 (aI @vc1 (aI @vc2 (aI @vc3 (aI C0.r (aI C1.r C2.r)))))));(repeat'(first|apply jc<;>intro _|simp(disch:=first|exact qS|fail) only[ja i0,ja i2,ja i3,T,c2,k5',g1,g2,g3,jaA,C0.q,C1.q,C2.q,g1,g2,g3,vc1,vc2,vc3,C0.r,C1.r,C2.r,je,Tk.cells_R,rzZ,Qab,Qac,Qad,Qaa,Qae]));all_goals clear zz)
    show G1 3 (pC ts i' 0) (.agg (srE x)) _ _;refine G1.done ?_ (by rfl) (by rfl) (FzD.agg (.cons (Lv.fz (lo:=3) (hi:=q) (z:=4) ?_ (by decide) (zp JV _)) (.cons (Lv.fz (lo:=3) (hi:=q) (z:=7) ?_ (by decide) (zp Jy _)) (.cons (Lv.fz (lo:=3) (hi:=q) (z:=4) ?_ (by decide) (zp jaJ _)) .nil))))
    ·unfold pC
     (have zz:=aI C0.q (aI C1.q (aI C2.q (aI @g1 (aI @g2 (aI @g3 (aI C0.r (aI C1.r C2.r)))))));first|exact qj|fail)
    all_goals simp(disch:=first|omega|(simp only[jg,jh,jt];omega)) only[jG,jz,jE,jJ]
    ·exact V1
    ·exact V2
    ·exact V3
   ·rw[if_neg k5] at hl;have hl:SR.er (tk ts i')=r:=hl;subst hl;have k5':¬ ((tk ts i').kind:Int)=5:=by omega
    unfold pC at *
    (have zz:=aI @g1 (aI C0.r (aI C1.r C2.r));(repeat'(first|apply jc<;>intro _|simp(disch:=first|exact qS|fail) only[ja i0,ja i2,ja i3,T,c2,k5',g1,Qe hb,zy,C0.q,C1.q,C2.q,g1,C0.r,C1.r,C2.r,je,Tk.cells_R,rzZ,Qab,Qac,Qad,Qaa,Qae]));all_goals clear zz)
    refine⟨i',0,?_⟩;unfold pC
    (refine G1.done ?_ (by rfl) (by rfl) ?_;(· (have zz:=aI C0.q (aI C1.q (aI C2.q (aI C0.r (aI C1.r C2.r))));first|exact qj|fail));(· first|exact vyD|skip))
 ·refine⟨ts.length,i,⟨[],[],[]⟩,.nils,.nils,.nils,rfl,by omega,hi,hr,by omega,C0,C1,C2,Lv.nil,Lv.nil,Lv.nil,trivial,trivial,trivial,?_⟩;simp(disch:=decide) only[Qam,Qar,z0,z1,jf,jb,and_true,true_and]
theorem jrI:Go.Ev.isAgg Qaf 26=some true:=by kernel_rfl
theorem jrH:Go.Ev.sizeOf Qaf 26=some 3:=by kernel_rfl
theorem jfh {b:Nat}{h:T AO}(ho:0+3<=qr h b)(hv:rats h b 0 3=[.nils,.nils,.nils]):(jZ Qaf 26 (.ptr b 0) (.agg [.nils,.nils,.nils]) h=true)=True:=eq_true (XP jrI jrH (by decide) ho hv rfl)
def Wx:SrcT:=⟨[],[],[]⟩
def yI (l:List Nat):SrcT×(Nat×Nat×Nat):=
 if(qk l).2.1≠0 then(Wx,(qk l).2) else match XL (qk l).1 (qk l).1.length 0 Wx with
  |.er t=>(Wx,(151,t.line,t.col))
  |.ok m j=>(m,(0,0,0))
theorem Kt (m:SrcT):(srE m).all pc=true:=by
 show([AV.lst m.enums.length (fl enE m.enums),.lst m.vars.length (fl qg m.vars),.lst m.procs.length (fl prE m.procs)]).all pc=true;simp[pc]
theorem jdP {s:St}{q:Nat×Nat×Nat}{ds:List AV}(h2:ds=zG q):G0 (.tup [.agg (srE Wx),.agg (zG q)]) (.tup [.agg [.nils,.nils,.nils],.agg ds]) s:=by
 subst h2;exact FzD.tup (.cons (.agg (.cons FzD.nils (.cons FzD.nils (.cons FzD.nils .nil)))) (.cons (.agg (.pc (by rfl))) .nil))
theorem jm9 {s:St}{m:SrcT}{q:Nat×Nat×Nat}{cs ds:List AV}(h:cs=srE m)(h2:ds=zG q):G0 (.tup [.agg (srE m),.agg (zG q)]) (.tup [.agg cs,.agg ds]) s:=by
 subst h h2;exact FzD.tup (.cons (.agg (.pc (Kt m))) (.cons (.agg (.pc (by rfl))) .nil))
set_option maxHeartbeats 4000000 in
theorem jlr (hb:NB base)(hP:PI base)(l:List Nat)(hl:l.length<=9223372036854775807)(hW:(qk l).2.1=0->Wds (qk l).1/\(qk l).1≠[]/\(qk l).2=(0,0,0))(hN:(qk l).2.1=0->Nbs (qk l).1) :
  Tot base 52 [.str l] (.tup [.agg (srE (yI l).1),.agg (zG (yI l).2)]):=by
 refine hb.tot ?_ rfl rfl;refine WE x9 (hb.pur 52 1 (by decide)) ?_;simp only[y9,ju,Qai,Qaj,Qag,Qah];rw[(by unfold z9;simp only[qq];rfl:z9=_)];have hC:=jmR hb hP l hl;have f0:(zG (qk l).2)=[.int .i64 ((qk l).2.1:Int),.int .i64 ((qk l).2.2.1:Int),.int .i64 ((qk l).2.2.2:Int)]:=rfl;by_cases he:(qk l).2.1=0
 ·obtain⟨W,hne,hz⟩:=hW he;have NN:=hN he;have hi:0<(qk l).1.length:=QbP.2 hne;have A:=jkv hb W NN hi;unfold yI;rw[if_neg (by simp[he])];rw[hz] at hC;have s0:Wx=⟨[],[],[]⟩:=rfl;rw[<-s0] at A;generalize (qk l).1=ts at *;have fz:zG (0,0,0)=[.int .i64 0,.int .i64 0,.int .i64 0]:=rfl;rw[fz] at hC;cases hr:XL ts ts.length 0 Wx with
  |er t=>
   rw[hr] at A;obtain⟨i',d',A⟩:=A;have E:∀ st p,Cl st p [.lst ts.length (fl Tk.cells ts),.int .i64 0,.int .i64 0]->∀ K Kp,XB Qaf base 66 [.ptr p 0] st K Kp=_:=λst p C K Kp=>A.xb C rfl (λst=>hb.no 66 (by decide) _ _) K Kp;unfold pC at *;repeat'(first|apply jc<;>intro _|simp(disch:=first|exact dzD|fail) only[hC,E,Z8,J6 (f:=65) (vs:=[.ptr 1 0]),Jz (f:=65) (vs:=[.ptr 1 0]),Yh,vJ,WI,Yl,jfh,Yt,Vm,Vl (base:=base),je,Tk.cells_R,rzZ,Qab,Qac,Qad,Qaa,Qae])
   exact jdP rfl
  |ok m j=>
   rw[hr] at A;have A:PM Qaf base 66 (pC ts 0 0) [] (.ok (.agg [.lst m.enums.length (fl enE m.enums),.lst m.vars.length (fl qg m.vars),.lst m.procs.length (fl prE m.procs)])) (pC ts j 0):=A;have E:∀ st p,Cl st p [.lst ts.length (fl Tk.cells ts),.int .i64 0,.int .i64 0]->∀ K Kp,XB Qaf base 66 [.ptr p 0] st K Kp=_:=λst p C K Kp=>A.xb C rfl (λst=>hb.no 66 (by decide) _ _) K Kp;dsimp only;unfold pC at *;repeat'(first|apply jc<;>intro _|simp(disch:=first|exact dzD|fail) only[hC,E,Z8,J6 (f:=65) (vs:=[.ptr 1 0]),Jz (f:=65) (vs:=[.ptr 1 0]),Yh,vJ,WI,Yl,jfh,Yt,Vm,Vl (base:=base),je,Tk.cells_R,rzZ,Qab,Qac,Qad,Qaa,Qae])
   exact jm9 rfl rfl
 ·have he':¬ ((qk l).2.1:Int)=0:=by omega
  unfold yI;rw[if_pos he];rw[f0] at hC;generalize (qk l).1=ts at *;repeat'(first|apply jc<;>intro _|simp(disch:=first|exact dzD|fail) only[hC,he',Z8,J6 (f:=65) (vs:=[.ptr 1 0]),Jz (f:=65) (vs:=[.ptr 1 0]),Yh,vJ,WI,Yl,jfh,je,Tk.cells_R,rzZ,Qab,Qac,Qad,Qaa,Qae])
  exact jdP rfl
theorem jfx {r:List Nat}{p:Nat×Nat}{n:Nat}{t:Tk}(h:yT r p=(0,t,n)):t.text.length<=r.length/\t.num<=1000000:=by
 cases r with
 |nil=>simp[yT] at h;obtain⟨h1,h2⟩:=h;subst h1;simp
 |cons x r'=>
  unfold yT at h;simp only at h;split at h
  ·split at h
   ·simp at h
   ·simp only[Prod.mk.injEq] at h;obtain⟨_,h1,h2⟩:=h;subst h1;exact⟨by simp only[QaH];omega,by simp⟩
  ·split at h
   ·split at h
    ·simp at h
    ·rename_i hh;simp only[Prod.mk.injEq] at h;obtain⟨_,h1,h2⟩:=h;subst h1;exact⟨by simp only[QaH];omega,by dsimp only;omega⟩
   ·split at h
    ·simp at h
    ·simp only[Prod.mk.injEq] at h;obtain⟨_,h1,h2⟩:=h;subst h1;exact⟨by simp only[QaH];omega,by simp⟩
structure Goods (n:Nat)(ts:List Tk):Prop where
 ne:ts≠[]
 len:ts.length<=n+1
 tok:∀ t∈ts,t.text.length<=n/\t.num<=1000000
 fin:∀ i,i<ts.length->((tk ts i).kind=5↔i+1=ts.length)
theorem jiT (k:Nat):∀ (r:List Nat) (p:Nat×Nat),r.length<=k->(JH r p).2.1=0->(JH r p).2=(0,0,0)/\Goods r.length (JH r p).1:=by
 induction k with
 |zero=>
  intro r p hr;have:r=[]:=QaS (by omega);subst this;have hx:yT (([]:List Nat).drop (qb [])) (qc p (([]:List Nat).take (qb [])))=(0,⟨5,[],0,(qc p (([]:List Nat).take (qb []))).1,(qc p (([]:List Nat).take (qb []))).2⟩,0):=by simp only[List.drop_nil];rfl
  rw[w6 _ p hx,if_neg (by simp),if_pos rfl];intro _;refine⟨rfl,by simp,by simp,by simp,λi hi=>?_⟩;have:i=0:=by simp at hi;omega
  subst this;simp[tk]
 |succ k ih=>
  intro r p hr;have hg:=US r;generalize hx:yT (r.drop (qb r)) (qc p (r.take (qb r)))=x;obtain⟨e,t,n⟩:=x;rw[w6 r p hx];by_cases he:e=0
  ·subst he;rw[if_neg (by simp)];have hk:=KY hx;have hgd:=jfx hx;have hle:=kP hx;simp only[QaU] at hgd hle;by_cases hn:n=0
   ·rw[if_pos hn];intro _;refine⟨rfl,by simp,by simp,?_,λi hi=>?_⟩
    ·intro t' ht';have:t'=t:=by simpa using ht'
     subst this;exact⟨by omega,hgd.2⟩
    ·have:i=0:=by simp at hi;omega
     subst this;have:=hk.1.2 hn;simpa[tk] using this
   ·rw[if_neg hn];have hl:((r.drop (qb r)).drop n).length<=k:=by simp only[QaU];omega
    have hI:=ih ((r.drop (qb r)).drop n) (qc (qc p (r.take (qb r))) ((r.drop (qb r)).take n)) hl;generalize hq:JH ((r.drop (qb r)).drop n) (qc (qc p (r.take (qb r))) ((r.drop (qb r)).take n))=q at hI ⊢;by_cases hf:q.2.1=0
    ·rw[if_neg (by simp[hf])];intro _;obtain⟨h1,h2⟩:=hI hf;have hl2:((r.drop (qb r)).drop n).length+1<=r.length:=by simp only[QaU];omega
     generalize ((r.drop (qb r)).drop n).length=m at *;have h3:=h2.len;refine⟨h1,by simp,by simp only[Qak];omega,?_,λi hi=>?_⟩
     ·intro t' ht';rcases Qbs.1 ht' with rfl|ht'
      ·exact⟨by omega,hgd.2⟩
      ·have:=h2.tok t' ht';exact⟨by omega,this.2⟩
     ·cases i with
      |zero=>
       have hk5:t.kind≠5:=λh=>hn (hk.1.1 h);have:=QbP.2 h2.ne;show t.kind=5↔0+1=q.1.length+1;constructor
       ·intro h;exact absurd h hk5
       ·intro h;omega
      |succ i=>
       show(tk q.1 i).kind=5↔i+1+1=q.1.length+1;have:=h2.fin i (by simpa using hi);constructor
       ·intro h;have:=this.1 h;omega
       ·intro h;exact this.2 (by omega)
    ·rw[if_pos hf];intro h;exact absurd h hf
  ·rw[if_pos he];intro h;exact absurd h he
theorem H8 {l:List Nat}(h:(qk l).2.1=0):l.length<=65536/\(qk l).2=(0,0,0)/\Goods l.length (qk l).1:=by
 unfold qk at *;by_cases hl:65536<l.length
 ·rw[if_pos hl] at h;cases h
 ·rw[if_neg hl] at h ⊢;obtain⟨h1,h2⟩:=jiT l.length l (1,1) (Qao _) h;exact⟨by omega,h1,h2⟩
theorem jlS {ts:List Tk}{i:Nat}(h:ts.length<=i):tk ts i=⟨0,[],0,0,0⟩:=by simp[tk,QaJ,h]
theorem jhc {ts:List Tk}{i:Nat}(h:i<ts.length):tk ts i∈ts:=by rw[<-jlT h];exact Qax h
theorem Goods.wds {n:Nat}{ts:List Tk}(h:Goods n ts)(hn:n<=65536):Wds ts where
 len:=by have:=h.len;omega
 next:=λi hi hk=>by
  have:=h.fin i hi;rcases QaT (i+1) ts.length with h2|h2
  ·exact h2
  ·exact absurd (this.2 (by omega)) hk
 txt:=λi=>by
  rcases QaT i ts.length with h2|h2
  ·have:=(h.tok _ (jhc h2)).1;omega
  ·rw[jlS h2];simp
theorem Goods.nbs {n:Nat}{ts:List Tk}(h:Goods n ts):Nbs ts:=λi=>by
 rcases QaT i ts.length with h2|h2
 ·exact(h.tok _ (jhc h2)).2
 ·rw[jlS h2];simp
theorem Ud {l:List Nat}(h:(qk l).2.1=0):Wds (qk l).1/\(qk l).1≠[]/\(qk l).2=(0,0,0):=
 let ⟨h1,h2,h3⟩:=H8 h
 ⟨h3.wds h1,h3.ne,h2⟩
theorem jiS {l:List Nat}(h:(qk l).2.1=0):Nbs (qk l).1:=(H8 h).2.2.nbs
theorem jjf (hb:NB base)(c:Nat):Tot base 79 [.int .u8 (c:Int)] (.bool (zM c)):=by
 refine hb.tot ?_ rfl rfl;refine jF x83 (by rfl) (hb.pur 79 1 (by decide)) ?_;simp only[y83,ju,Qai,Qaj,Qag,Qah];rw[(by unfold z83;simp only[qq];rfl:z83=_)];repeat'(first|apply jc<;>intro _|simp(disch:=first|exact dzA|fail) only[rzZ,Qab,Qac,Qad,Qaa,Qae])
 all_goals(refine G0.v (congrArg AV.bool ?_) rfl;rw[QaW];simp only[zM,QaO,Qaq,decide_eq_true_eq,Qbd,QbK,Qbf,decide_eq_false_iff_not,true_iff,false_iff,iff_true,iff_false,not_true_eq_false,not_false_eq_true,ne_eq,eq_self]<;>omega)
theorem jlw (hb:NB base)(c:Nat):Tot base 80 [.int .u8 (c:Int)] (.bool (qf c)):=by
 refine hb.tot ?_ rfl rfl;refine jF x85 (by rfl) (hb.pur 80 1 (by decide)) ?_;simp only[y85,ju,Qai,Qaj,Qag,Qah];rw[(by unfold z85;simp only[qq];rfl:z85=_)];repeat'(first|apply jc<;>intro _|simp(disch:=first|exact dzA|fail) only[rzZ,Qab,Qac,Qad,Qaa,Qae])
 all_goals(refine G0.v (congrArg AV.bool ?_) rfl;rw[QaW];simp only[qf,QaO,Qaq,decide_eq_true_eq,Qbd,QbK,Qbf,decide_eq_false_iff_not,true_iff,false_iff,iff_true,iff_false,not_true_eq_false,not_false_eq_true,ne_eq,eq_self]<;>omega)
theorem jsb (hb:NB base)(l:List Nat)(S:List (List Nat))(hS:S.length<=1000000):PX Qaf base 106 [.str l,.lst S.length (S.map .str)] (.ok (.bool (decide (l∈S)))):=by
 have st1:∀ {k:Nat} (h:k<S.length) (st:St) (K:AV->St->Prop),jk (qZ (.lptr (S.map AV.str) k) st) K=K (.str S[k]) st:=λ{k} h st K=>by
  rw[JA (by simpa using h)];congr 1;exact Vw h
 refine jF jsO (by rfl) (hb.pur 106 1 (by decide)) ?_;simp only[joH,ju,Qai,Qaj,Qag,Qah];rw[(by unfold jjS;simp only[qq];rfl:jjS=_)];repeat'(first|apply jc<;>intro _|simp(disch:=first|exact dzA|fail) only[rzZ,Qab,Qac,Qad,Qaa,Qae])
 refine qp S.length (λk L s=>(∀ j (h:j<S.length),j<k->S[j]≠l)/\Has L 0 (.str l)/\Has L 7 (.lst S.length (S.map AV.str))) (by first|assumption|omega) (by decide) (by simp(disch:=decide) only[jf,jb]) (by simp(disch:=decide) only[jf,jb]) ?_ (λk L s v h=>by simp(disch:=decide) only[jb];exact h) (λk L s v h=>by simp(disch:=decide) only[jb];exact h) (λk L s hk hI hi hn=>?_) (λL s hI=>?_)
 ·refine⟨λj h hj=>absurd hj (Qbg _),?_⟩;simp(disch:=decide) only[Qam,Qar,z0,z1,jf,jb,and_true,true_and]
 ·obtain⟨h0,i0,i7⟩:=hI;repeat'(first|apply jc<;>intro _|simp(disch:=first|exact dzA|fail) only[ja i0,ja i7,ja hi,ja hn,st1,rzZ,Qab,Qac,Qad,Qaa,Qae])
  ·rename_i he;have he:S[k]=l:=by simpa using he
   exact G0.v (by rw[decide_eq_true (he▸Qax hk)]) rfl
  ·rename_i he;have he:¬ S[k]=l:=by simpa using he
   refine⟨⟨λj h hj=>?_,?_⟩,?_⟩
   ·rcases QaT j k with h2|h2
    ·exact h0 j h h2
    ·have:j=k:=by omega
     subst this;exact he
   ·simp(disch:=decide) only[Qam,Qar,z0,z1,jf,jb,and_true,true_and,i0,i7]
   ·simp(disch:=decide) only[Qam,Qar,z0,z1,jf,jb,and_true,true_and,hi,hn]
 ·obtain⟨h0,i0,i7⟩:=hI;repeat'(first|apply jc<;>intro _|simp(disch:=first|exact dzA|fail) only[ja i0,ja i7,rzZ,Qab,Qac,Qad,Qaa,Qae])
  refine G0.v (congrArg AV.bool ?_) rfl
  symm
  rw[decide_eq_false_iff_not];intro hm;obtain⟨j,hj,e⟩:=QbN.1 hm;exact h0 j hj hj e
theorem jn1 (hb:NB base)(l:List Nat):Tot base 81 [.str l] (.bool (GC l)):=by
 refine hb.tot ?_ rfl rfl;have O:=λst b m x D K Kp=>(jsb hb l UN (by decide)).xf (st:=st) (aZ':=[.str l,.slice b 0 19 m 1 x]) (ks:=[b]) (Fza.pa rfl (Fza.sl (n:=19) (D:Cl st b (UN.map AV.str)) (by decide) (uV UN) .nil)) (λst=>hb.no 106 (by decide) _ _) K Kp;unfold UN at O;simp only[Qai,Qaj] at O;refine jF x84 (by rfl) (hb.pur 81 1 (by decide)) ?_;simp only[y84,ju,Qai,Qaj,Qag,Qah];rw[(by unfold z84;simp only[qq];rfl:z84=_)];repeat'(first|apply jc<;>intro _|simp(disch:=first|exact dzA|fail) only[O,rzZ,Qab,Qac,Qad,Qaa,Qae])
 exact G0.v rfl rfl
def kN (l:List Nat)(i:Nat):Bool:=zM (l.getD i 0) ||decide (i≠0) && (qf (l.getD i 0) ||decide (l.getD i 0=95))
theorem jce {p:Nat->Bool}:∀ {l:List Nat},qY p l=l.length->∀ j,j<l.length->p (l.getD j 0)=true
 |[],_,j,h=>by simp at h
 |c :: l,h,j,hj=>by
  simp only[qY] at h;by_cases hc:p c=true
  ·rw[if_pos hc] at h;cases j with
   |zero=>exact hc
   |succ j=>exact jce (l:=l) (by simpa using h) j (by simpa using hj)
  ·rw[if_neg hc] at h;simp at h
theorem jpX {l:List Nat}{i:Nat}(hi:i<l.length)(h:kN l i=false):nm l=false:=by
 rw[Bool.eq_false_iff];intro hn;unfold nm at hn;simp only[Qaq,decide_eq_true_eq] at hn;obtain⟨⟨⟨_,h2⟩,_⟩,h3⟩:=hn;have:=jce h3 i hi;unfold kN at h;unfold Jd at this;by_cases h0:i=0
 ·subst h0;rw[h2] at h;cases h
 ·rw[decide_eq_true h0] at h;cases h1:zM (l.getD i 0)<;>cases h4:qf (l.getD i 0)<;>cases h5:decide (l.getD i 0=95)<;>simp only[h1,h4,h5] at h this<;>first|(cases h;done)|(cases this;done)
theorem jnn {l:List Nat}(h:∀ i,i<l.length->kN l i=true):nm l=(decide (0<l.length) && decide (l.length<=32) && !GC l):=by
 have e:qY Jd l=l.length:=UM (Qao _) (λj hj=>by
  have:=h j hj;unfold kN at this;unfold Jd;cases h1:zM (l.getD j 0)<;>cases h4:qf (l.getD j 0)<;>cases h5:decide (l.getD j 0=95)<;>rw[h1,h4,h5] at this<;>first|rfl|(simp at this;done)) (.inl rfl)
 unfold nm;cases l with
 |nil=>rfl
 |cons c l=>
  have h0:=h 0 (by simp);unfold kN at h0;have:zM ((c :: l).getD 0 0)=true:=by simpa using h0
  rw[e,this];simp
set_option maxHeartbeats 1000000 in
theorem Zt (hb:NB base)(l:List Nat)(hl:l.length<=4611686018427387904):Tot base 58 [.str l] (.bool (nm l)):=by
 refine hb.tot ?_ rfl rfl;refine jF x56 (by rfl) (hb.pur 58 1 (by decide)) ?_;simp only[y56,ju,Qai,Qaj,Qag,Qah];rw[(by unfold z56;simp only[qq];rfl:z56=_)];repeat'(first|apply jc<;>intro _|simp(disch:=first|exact dzA|fail) only[rzZ,Qab,Qac,Qad,Qaa,Qae])
 refine yH (λmm L s=>∃ k:Nat,k<=l.length/\mm=l.length - k/\(∀ j,j<k->kN l j=true)/\Has L 0 (.str l)/\Has L 3 (.int .i64 (k:Int))) ?_ l.length ?_
 ·rintro m L s ⟨k,hk,rfl,h0,i0,i3⟩;by_cases hlt:k<l.length
  ·have hlt':(k:Int)<(l.length:Int):=by omega
   have LT:=jjf hb (l.getD k 0);have DT:=jlw hb (l.getD k 0);have z:((k:Int)=0)=(k=0):=by rw[eq_iff_iff];omega
   have z9:((l.getD k 0:Int)=95)=(l.getD k 0=95):=by rw[eq_iff_iff];omega
   have e1:(((k+1:Nat):Int))=(k:Int)+1:=by omega
   have hn:kN l k=(zM (l.getD k 0) ||decide (k≠0) && (qf (l.getD k 0) ||decide (l.getD k 0=95))):=rfl;repeat'(first|apply jc<;>intro _|simp(disch:=first|exact dzA|fail) only[ja i0,ja i3,hlt',LT,DT,z,z9,rzZ,Qab,Qac,Qad,Qaa,Qae])
   all_goals first
    |(refine G0.v (congrArg AV.bool (jpX hlt ?_)).symm rfl;rw[hn];simp_all;done)
    |(
     refine⟨l.length - (k+1),by omega,k+1,by omega,rfl,λj hj=>?_,?_⟩
     ·rcases QaT j k with h2|h2
      ·exact h0 j h2
      ·have:j=k:=by omega
       subst this;rw[hn];simp_all
     ·simp(disch:=decide) only[Qam,Qar,z0,z1,jf,jb,and_true,true_and,i0,e1])
  ·have hlt':¬ (k:Int)<(l.length:Int):=by omega
   have hk':k=l.length:=by omega
   subst hk';have g:=jnn h0;repeat'(first|apply jc<;>intro _|simp(disch:=first|exact dzA|fail) only[ja i0,ja i3,hlt',jn1 hb l,rzZ,Qab,Qac,Qad,Qaa,Qae])
   all_goals(refine G0.v (congrArg AV.bool ?_) rfl;rw[g];simp_all<;>omega)
 ·refine⟨0,QaG _,rfl,λj hj=>absurd hj (Qbg _),?_⟩;simp(disch:=decide) only[Qam,Qar,z0,z1,jf,jb,and_true,true_and]
theorem jkw {b o:Nat}{v:AV}{h:T AO}(ho:o<qr h b)(hv:rat h b o=v)(hc:eqs v=true):(jZ Qaf 27 (.ptr b o) v h=true)=True:=eq_true (QE jlQ jlP ho hv hc)
theorem wZ (n:Nat)(cs:List AV):eqs (.lst n cs)=true:=nr rfl
def wy (op num:Int)(name:List Nat):Bool:=
 if op=1 then decide (0<=num) && decide (num<=1000000)
 else if op=2 then decide (num=0) ||decide (num=1)
 else if op=3 then decide (num=0) && nm name
 else if op=4 then true
 else decide (num=0)
mutual
def JQ:Ex->Bool
 |.mk op num name ks _ _=>decide (Jn op=(ks.length:Int)) && z8 ks && (decide (op=3) ||decide (name=[])) && wy op num name
def z8:List Ex->Bool
 |[]=>true
 |x :: xs=>JQ x && z8 xs
end
theorem Vy (x:Ex):JQ x=(decide (Jn x.op=(x.kids.length:Int)) && z8 x.kids && (decide (x.op=3) ||decide (x.name=[])) && wy x.op x.num x.name):=by cases x;rfl
theorem Zy:∀ xs ys,z8 (xs ++ ys)=(z8 xs && z8 ys)
 |[],ys=>by simp[z8]
 |x :: xs,ys=>by rw[Qay,z8,z8,Zy,Bool.and_assoc]
theorem ckX {p:Prop} (h:p:=by(first|assumption|(simp(disch:=first|assumption|decide|(first|omega|(simp only[jg,jh,jt,jr,jl];first|done|omega))) only[jB,jD,jy,jQ,jz,jE,jG,jJ];assumption))):p:=h
set_option maxHeartbeats 1000000 in
theorem jnW (hb:NB base):∀ x:Ex,szE x<=BIG->Tot base 60 [.agg (eE x)] (.bool (JQ x)):=by
 refine Ex.indk λx ih hx=>?_;refine hb.tot ?_ (by first|rfl|simp[pa,pc,qO]) rfl;have hd:=Vy x;have hz:=zW x;generalize hks:x.kids=ks at *;have hlen:=Yk ks;have NM:=Zt hb x.name (by unfold BIG at *;omega);have KT:=jrf hb x.op;unfold BIG at *;unfold wy at hd;refine jF x92 (by rfl) (hb.pur 60 1 (by decide)) ?_;simp only[y92,ju,Qai,Qaj,Qag,Qah];rw[(by unfold z92;simp only[qq];rfl:z92=_)]
 (have zz:=aI @q6 (aI @wZ @hks);(repeat'(first|apply jc<;>intro _|simp(disch:=first|exact jcH|fail) only[hks,KT,sm3,jkw,q6,wZ,hks,je,rzZ,Qab,Qac,Qad,Qaa,Qae]));all_goals clear zz)
 ·rename_i h;exact G0.v (by rw[hd,decide_eq_false h];rfl) rfl
 refine qp ks.length (λk L s=>z8 (ks.take k)=true/\Has L 13 (.lst ks.length (fl eE ks))/\Has L 1 (.ptr 0 0)/\1<=s.nx/\Cl s 0 (eE x)) (by first|assumption|omega) (by decide) (by simp(disch:=decide) only[jf,jb]) (by simp(disch:=decide) only[jf,jb]) ?_ (λk L s v h=>by simp(disch:=decide) only[jb];exact h) (λk L s v h=>by simp(disch:=decide) only[jb];exact h) (λk L s hk hI hi hn=>?_) (λL s hI=>?_)
 ·refine⟨rfl,?_⟩;simp(disch:=decide) only[Qam,Qar,z0,z1,jf,jb,and_true,true_and];exact⟨by show 1<=_;simp only[jg,yl];omega,Cl.new _ _⟩
 ·obtain⟨h0,i13,i1,n0,C0⟩:=hI;have hk2:=Xq hk;have e:=ih ks[k] (Qax hk) (by omega);repeat'(first|apply jc<;>intro _|simp(disch:=first|exact dzB|fail) only[ja i13,ja i1,ja hi,ja hn,e,je,rzZ,Qab,Qac,Qad,Qaa,Qae])
  ·rename_i hf;have e3:=Zy (ks.take (k+1)) (ks.drop (k+1));rw[Qbn,yO hk,Zy] at e3;simp only[z8,hf,Bool.and_false,Bool.false_and,Bool.true_and] at e3;exact G0.v (by rw[hd,e3];simp) rfl
  ·rename_i hf;refine⟨⟨?_,?_⟩,?_⟩
   ·rw[yO hk,Zy,h0];simp_all [z8]
   ·simp(disch:=decide) only[Qam,Qar,z0,z1,jf,jb,and_true,true_and,i13,i1];exact⟨by(first|omega|(simp only[jg,jh,jt,jr,jl];first|done|omega)),ckX⟩
   ·simp(disch:=decide) only[Qam,Qar,z0,z1,jf,jb,and_true,true_and,hi,hn]
 ·obtain⟨h0,i13,i1,n0,C0⟩:=hI;rw[QaB] at h0;rw[h0] at hd
  (have zz:=C0.r;(repeat'(first|apply jc<;>intro _|simp(disch:=first|exact jcH|fail) only[ja i13,ja i1,NM,hks,C0.q,C0.r,je,rzZ,Qab,Qac,Qad,Qaa,Qae]));all_goals clear zz)
  all_goals(refine G0.v (congrArg AV.bool ?_) rfl;rw[hd];simp_all<;>omega)
theorem jfE (x:Ex):ue x=((decide (x.op=3) ||decide (x.name=[])) && wy x.op x.num x.name):=by
 unfold ue wy;by_cases h1:x.op=1
 ·simp[h1,Bool.and_comm]
 ·by_cases h2:x.op=2
  ·simp[h2,Bool.and_comm]
  ·by_cases h3:x.op=3
   ·simp[h3]
   ·by_cases h4:x.op=4
    ·simp[h4]
    ·simp[h1,h2,h3,h4,Bool.and_comm]
theorem uG:∀ xs,z8 xs=xs.all JQ
 |[]=>rfl
 |x :: xs=>by rw[z8,uG xs];rfl
theorem gL {n:Nat}:∀ xs:List Ex,yt xs<=n↔∀ x∈xs,ZG x<=n
 |[]=>by simp[yt]
 |x :: xs=>by simp[yt,Nat.max_le,gL xs]
theorem XR:∀ (d:Nat) (x:Ex),yG d x=(decide (ZG x<=d) && JQ x)
 |0,x=>by
  have:ZG x=yt x.kids+1:=kV x;rw[yG,decide_eq_false (by omega)];rfl
 |d+1,x=>by
  rw[vj,Vy,kV,jfE,uG];have ih:x.kids.all (yG d)=(decide (yt x.kids<=d) && x.kids.all JQ):=by
   rw[QaW];simp only[Qaz,Qaq,decide_eq_true_eq,gL];constructor
   ·intro h;exact⟨λk hk=>by have:=h k hk;rw[XR d k] at this;simp at this;exact this.1,λk hk=>by have:=h k hk;rw[XR d k] at this;simp at this;exact this.2⟩
   ·rintro ⟨h1,h2⟩ k hk;rw[XR d k];simp[h1 k hk,h2 k hk]
  rw[ih];have e1:decide (yt x.kids+1<=d+1)=decide (yt x.kids<=d):=by simp
  rw[e1];have e2:(decide (1<=x.op) && decide (x.op<31) && decide ((x.kids.length:Int)=if 5<=x.op/\x.op<=13 then 1 else if 14<=x.op/\x.op<31 then 2 else 0))=decide (Jn x.op=(x.kids.length:Int)):=by
   rw[QaW];simp only[Qaq,decide_eq_true_eq];unfold Jn;have:(0:Int)<=(x.kids.length:Int):=by omega
   generalize (x.kids.length:Int)=n at *;generalize x.op=op at *;constructor
   ·rintro ⟨⟨h1,h2⟩,h3⟩;split at h3
    ·rw[if_neg (by omega),if_pos (by omega),h3]
    ·split at h3
     ·rw[if_neg (by omega),if_neg (by omega),if_pos (by omega),h3]
     ·rw[if_pos (by omega),h3]
   ·intro h;split at h
    ·exact⟨⟨by omega,by omega⟩,by rw[if_neg (by omega),if_neg (by omega)];omega⟩
    ·split at h
     ·exact⟨⟨by omega,by omega⟩,by rw[if_pos (by omega)];omega⟩
     ·split at h
      ·exact⟨⟨by omega,by omega⟩,by rw[if_neg (by omega),if_pos (by omega)];omega⟩
      ·omega
  rw[e2];cases decide (Jn x.op=(x.kids.length:Int))<;>cases decide (yt x.kids<=d)<;>cases x.kids.all JQ<;>cases (decide (x.op=3) ||decide (x.name=[]))<;>cases wy x.op x.num x.name<;>rfl
theorem jls (hb:NB base)(x:Ex)(hx:szE x<=BIG):Tot base 37 [.agg (eE x)] (.bool (yG 60 x)):=by
 refine hb.tot ?_ (by first|rfl|simp[pa,pc,qO]) rfl;have e:=XR 60 x;have D:=jjh hb x hx;have S:=jnW hb x hx;refine jF x46 (by rfl) (hb.pur 37 1 (by decide)) ?_;simp only[y46,ju,Qai,Qaj,Qag,Qah];rw[(by unfold z46;simp only[qq];rfl:z46=_)];repeat'(first|apply jc<;>intro _|simp(disch:=first|exact dzB|fail) only[D,S,je,rzZ,Qab,Qac,Qad,Qaa,Qae])
 all_goals(refine G0.v (congrArg AV.bool ?_) rfl;rw[e];simp_all<;>omega)
def zx (x:Ex):Bool:=yG 60 x && !zu 4 x
theorem wN (hb:NB base)(x:Ex)(hx:szE x<=BIG):Tot base 11 [.agg (eE x)] (.bool (zx x)):=by
 refine hb.tot ?_ (by first|rfl|simp[pa,pc,qO]) rfl;have D:=jls hb x hx;have S:=jmP hb 4 x hx;refine jF x12 (by rfl) (hb.pur 11 1 (by decide)) ?_;simp only[y12,ju,Qai,Qaj,Qag,Qah];rw[(by unfold z12;simp only[qq];rfl:z12=_)];repeat'(first|apply jc<;>intro _|simp(disch:=first|exact dzB|fail) only[D,S,je,rzZ,Qab,Qac,Qad,Qaa,Qae])
 all_goals(refine G0.v (congrArg AV.bool ?_) rfl;unfold zx;simp_all)
theorem jnV (hb:NB base)(op:Int):Tot base 105 [.int .i64 op] (.str (sgn op)):=by
 refine hb.tot ?_ rfl rfl;refine jF x52 (by rfl) (hb.pur 105 1 (by decide)) ?_;simp only[y52,ju,Qai,Qaj,Qag,Qah];rw[(by unfold z52;simp only[qq];rfl:z52=_)];repeat'(first|apply jc<;>intro _|simp(disch:=first|exact dzB|fail) only[je,rzZ,Qab,Qac,Qad,Qaa,Qae])
 ·exact G0.v (by rw[sgn,if_neg (by omega)]) rfl
 ·exact G0.v (by rw[sgn,if_neg (by omega)]) rfl
 ·have h26:(op - 5).toNat<wQ.length:=by show(op - 5).toNat<26;omega
  show G0 _ ((wQ.map AV.str).getD _ _) _;rw[Vw h26];exact G0.v (by rw[sgn,if_pos (by omega),Qau,Qas h26];rfl) rfl
theorem UX (e:EnumT):enE e=[.str e.name,.lst e.vals.length (e.vals.map .str),.int .i64 e.line,.int .i64 e.col]:=rfl
theorem Jq (e:EnumT):(enE e).length=4:=nr (by rw[UX];rfl)
theorem W7 (e:EnumT)(k:Nat):(enE e).getD k .bad=([.str e.name,.lst e.vals.length (e.vals.map .str),.int .i64 e.line,.int .i64 e.col]:List AV).getD k .bad:=nr (by rw[UX])
theorem jmC (e:EnumT)(k:Nat):(enE e).drop k=([.str e.name,.lst e.vals.length (e.vals.map .str),.int .i64 e.line,.int .i64 e.col]:List AV).drop k:=nr (by rw[UX])
theorem ja7 (e:EnumT):lall AV.cell (enE e)=true:=nr (by rw[UX];rfl)
theorem jmB {st:St}{K:AV->St->Prop}{xs:List EnumT}{i:Nat}(h:i<xs.length):jk (zf 4 (.lptr (fl enE xs) (i * 4)) st) K=K (.agg (enE xs[i])) st:=J0 Jq h
theorem jiN {st:St}{K:AV->St->Prop}{xs:List EnumT}{i:Nat}(h:i<xs.length){k:Nat}(hk:k<4):jk (qZ (.lptr (fl enE xs) (i * 4+k)) st) K=K ((enE xs[i]).getD k .bad) st:=ya Jq h hk
theorem jiO {st:St}{K:AV->St->Prop}{xs:List EnumT}{i:Nat}(h:i<xs.length):jk (qZ (.lptr (fl enE xs) (i * 4)) st) K=K ((enE xs[i]).getD 0 .bad) st:=ya (k:=0) Jq h (by decide)
theorem ji:type_of% (aI @Jq (aI @W7 (aI @jmC (aI @ja7 (aI @jmB (aI @jiO @jiN)))))):=aI @Jq (aI @W7 (aI @jmC (aI @ja7 (aI @jmB (aI @jiO @jiN)))))
theorem zd:type_of% (aI @Jq (aI @ja7 @W7)):=aI @Jq (aI @ja7 @W7)
theorem w4 (d:DeclT):qg d=[.str d.name,.str d.ty,.int .i64 d.lo,.int .i64 d.hi,.lst d.begins.length (fl eE d.begins),.int .i64 d.line,.int .i64 d.col]:=rfl
theorem QP (d:DeclT):(qg d).length=7:=nr (by rw[w4];rfl)
theorem Wf (d:DeclT)(k:Nat):(qg d).getD k .bad=([.str d.name,.str d.ty,.int .i64 d.lo,.int .i64 d.hi,.lst d.begins.length (fl eE d.begins),.int .i64 d.line,.int .i64 d.col]:List AV).getD k .bad:=nr (by rw[w4])
theorem jeC (d:DeclT)(k:Nat):(qg d).drop k=([.str d.name,.str d.ty,.int .i64 d.lo,.int .i64 d.hi,.lst d.begins.length (fl eE d.begins),.int .i64 d.line,.int .i64 d.col]:List AV).drop k:=nr (by rw[w4])
theorem UZ (d:DeclT):lall AV.cell (qg d)=true:=nr (by rw[w4];rfl)
theorem jeB {st:St}{K:AV->St->Prop}{xs:List DeclT}{i:Nat}(h:i<xs.length):jk (zf 7 (.lptr (fl qg xs) (i * 7)) st) K=K (.agg (qg xs[i])) st:=J0 QP h
theorem jcN {st:St}{K:AV->St->Prop}{xs:List DeclT}{i:Nat}(h:i<xs.length){k:Nat}(hk:k<7):jk (qZ (.lptr (fl qg xs) (i * 7+k)) st) K=K ((qg xs[i]).getD k .bad) st:=ya QP h hk
theorem jcO {st:St}{K:AV->St->Prop}{xs:List DeclT}{i:Nat}(h:i<xs.length):jk (qZ (.lptr (fl qg xs) (i * 7)) st) K=K ((qg xs[i]).getD 0 .bad) st:=ya (k:=0) QP h (by decide)
theorem jd:type_of% (aI @QP (aI @Wf (aI @jeC (aI @UZ (aI @jeB (aI @jcO @jcN)))))):=aI @QP (aI @Wf (aI @jeC (aI @UZ (aI @jeB (aI @jcO @jcN)))))
theorem q8:type_of% (aI @QP (aI @UZ @Wf)):=aI @QP (aI @UZ @Wf)
theorem jmJ (a:AsT):asE a=[.str a.name,.int .i64 a.to.op,.int .i64 a.to.num,.str a.to.name,.lst a.to.kids.length (fl eE a.to.kids),.int .i64 a.to.line,.int .i64 a.to.col,.int .i64 a.line,.int .i64 a.col]:=(by unfold asE;rw[qE];rfl)
theorem jba (a:AsT)(k:Nat):(asE a).getD k .bad=([.str a.name,.int .i64 a.to.op,.int .i64 a.to.num,.str a.to.name,.lst a.to.kids.length (fl eE a.to.kids),.int .i64 a.to.line,.int .i64 a.to.col,.int .i64 a.line,.int .i64 a.col]:List AV).getD k .bad:=nr (by rw[jmJ])
theorem jmL (a:AsT)(k:Nat):(asE a).drop k=([.str a.name,.int .i64 a.to.op,.int .i64 a.to.num,.str a.to.name,.lst a.to.kids.length (fl eE a.to.kids),.int .i64 a.to.line,.int .i64 a.to.col,.int .i64 a.line,.int .i64 a.col]:List AV).drop k:=nr (by rw[jmJ])
theorem jmK {st:St}{K:AV->St->Prop}{xs:List AsT}{i:Nat}(h:i<xs.length):jk (zf 9 (.lptr (fl asE xs) (i * 9)) st) K=K (.agg (asE xs[i])) st:=J0 ZK h
theorem ji2 {st:St}{K:AV->St->Prop}{xs:List AsT}{i:Nat}(h:i<xs.length){k:Nat}(hk:k<9):jk (qZ (.lptr (fl asE xs) (i * 9+k)) st) K=K ((asE xs[i]).getD k .bad) st:=ya ZK h hk
theorem ji3 {st:St}{K:AV->St->Prop}{xs:List AsT}{i:Nat}(h:i<xs.length):jk (qZ (.lptr (fl asE xs) (i * 9)) st) K=K ((asE xs[i]).getD 0 .bad) st:=ya (k:=0) ZK h (by decide)
theorem jj:type_of% (aI @ZK (aI @jba (aI @jmL (aI @gV (aI @jmK (aI @ji3 @ji2)))))):=aI @ZK (aI @jba (aI @jmL (aI @gV (aI @jmK (aI @ji3 @ji2)))))
theorem ze:type_of% (aI @ZK (aI @gV @jba)):=aI @ZK (aI @gV @jba)
theorem jfl (r:RuleT):ruE r=[.int .i64 r.when.op,.int .i64 r.when.num,.str r.when.name,.lst r.when.kids.length (fl eE r.when.kids),.int .i64 r.when.line,.int .i64 r.when.col,.lst r.acts.length (fl asE r.acts)]:=VA r
theorem jaE (r:RuleT)(k:Nat):(ruE r).getD k .bad=([.int .i64 r.when.op,.int .i64 r.when.num,.str r.when.name,.lst r.when.kids.length (fl eE r.when.kids),.int .i64 r.when.line,.int .i64 r.when.col,.lst r.acts.length (fl asE r.acts)]:List AV).getD k .bad:=nr (by rw[jfl])
theorem jl4 (r:RuleT)(k:Nat):(ruE r).drop k=([.int .i64 r.when.op,.int .i64 r.when.num,.str r.when.name,.lst r.when.kids.length (fl eE r.when.kids),.int .i64 r.when.line,.int .i64 r.when.col,.lst r.acts.length (fl asE r.acts)]:List AV).drop k:=nr (by rw[jfl])
theorem jaF (r:RuleT):lall AV.cell (ruE r)=true:=nr (by rw[jfl];rfl)
theorem jl3 {st:St}{K:AV->St->Prop}{xs:List RuleT}{i:Nat}(h:i<xs.length):jk (zf 7 (.lptr (fl ruE xs) (i * 7)) st) K=K (.agg (ruE xs[i])) st:=J0 wj h
theorem jhs {st:St}{K:AV->St->Prop}{xs:List RuleT}{i:Nat}(h:i<xs.length){k:Nat}(hk:k<7):jk (qZ (.lptr (fl ruE xs) (i * 7+k)) st) K=K ((ruE xs[i]).getD k .bad) st:=ya wj h hk
theorem jht {st:St}{K:AV->St->Prop}{xs:List RuleT}{i:Nat}(h:i<xs.length):jk (qZ (.lptr (fl ruE xs) (i * 7)) st) K=K ((ruE xs[i]).getD 0 .bad) st:=ya (k:=0) wj h (by decide)
theorem jX:type_of% (aI @wj (aI @jaE (aI @jl4 (aI @jaF (aI @jl3 (aI @jht @jhs)))))):=aI @wj (aI @jaE (aI @jl4 (aI @jaF (aI @jl3 (aI @jht @jhs)))))
theorem zb:type_of% (aI @wj (aI @jaF @jaE)):=aI @wj (aI @jaF @jaE)
theorem UD (p:ProcT):prE p=[.str p.name,.lst p.rules.length (fl ruE p.rules),.int .i64 p.line,.int .i64 p.col]:=rfl
theorem v7 (p:ProcT):(prE p).length=4:=nr (by rw[UD];rfl)
theorem jaK (p:ProcT)(k:Nat):(prE p).getD k .bad=([.str p.name,.lst p.rules.length (fl ruE p.rules),.int .i64 p.line,.int .i64 p.col]:List AV).getD k .bad:=nr (by rw[UD])
theorem jma (p:ProcT)(k:Nat):(prE p).drop k=([.str p.name,.lst p.rules.length (fl ruE p.rules),.int .i64 p.line,.int .i64 p.col]:List AV).drop k:=nr (by rw[UD])
theorem jaL (p:ProcT):lall AV.cell (prE p)=true:=nr (by rw[UD];rfl)
theorem jl9 {st:St}{K:AV->St->Prop}{xs:List ProcT}{i:Nat}(h:i<xs.length):jk (zf 4 (.lptr (fl prE xs) (i * 4)) st) K=K (.agg (prE xs[i])) st:=J0 v7 h
theorem jhI {st:St}{K:AV->St->Prop}{xs:List ProcT}{i:Nat}(h:i<xs.length){k:Nat}(hk:k<4):jk (qZ (.lptr (fl prE xs) (i * 4+k)) st) K=K ((prE xs[i]).getD k .bad) st:=ya v7 h hk
theorem jhJ {st:St}{K:AV->St->Prop}{xs:List ProcT}{i:Nat}(h:i<xs.length):jk (qZ (.lptr (fl prE xs) (i * 4)) st) K=K ((prE xs[i]).getD 0 .bad) st:=ya (k:=0) v7 h (by decide)
theorem qN:type_of% (aI @v7 (aI @jaK (aI @jma (aI @jaL (aI @jl9 (aI @jhJ @jhI)))))):=aI @v7 (aI @jaK (aI @jma (aI @jaL (aI @jl9 (aI @jhJ @jhI)))))
theorem zc:type_of% (aI @v7 (aI @jaL @jaK)):=aI @v7 (aI @jaL @jaK)
theorem Uu (m:SrcT):srE m=[.lst m.enums.length (fl enE m.enums),.lst m.vars.length (fl qg m.vars),.lst m.procs.length (fl prE m.procs)]:=rfl
theorem wg (m:SrcT):(srE m).length=3:=nr (by rw[Uu];rfl)
theorem jaw (m:SrcT)(k:Nat):(srE m).getD k .bad=([.lst m.enums.length (fl enE m.enums),.lst m.vars.length (fl qg m.vars),.lst m.procs.length (fl prE m.procs)]:List AV).getD k .bad:=nr (by rw[Uu])
theorem jlZ (m:SrcT)(k:Nat):(srE m).drop k=([.lst m.enums.length (fl enE m.enums),.lst m.vars.length (fl qg m.vars),.lst m.procs.length (fl prE m.procs)]:List AV).drop k:=nr (by rw[Uu])
theorem jax (m:SrcT):lall AV.cell (srE m)=true:=nr (by rw[Uu];rfl)
theorem jlY {st:St}{K:AV->St->Prop}{xs:List SrcT}{i:Nat}(h:i<xs.length):jk (zf 3 (.lptr (fl srE xs) (i * 3)) st) K=K (.agg (srE xs[i])) st:=J0 wg h
theorem jhi {st:St}{K:AV->St->Prop}{xs:List SrcT}{i:Nat}(h:i<xs.length){k:Nat}(hk:k<3):jk (qZ (.lptr (fl srE xs) (i * 3+k)) st) K=K ((srE xs[i]).getD k .bad) st:=ya wg h hk
theorem jhj {st:St}{K:AV->St->Prop}{xs:List SrcT}{i:Nat}(h:i<xs.length):jk (qZ (.lptr (fl srE xs) (i * 3)) st) K=K ((srE xs[i]).getD 0 .bad) st:=ya (k:=0) wg h (by decide)
theorem qM:type_of% (aI @wg (aI @jaw (aI @jlZ (aI @jax (aI @jlY (aI @jhj @jhi)))))):=aI @wg (aI @jaw (aI @jlZ (aI @jax (aI @jlY (aI @jhj @jhi)))))
theorem za:type_of% (aI @wg (aI @jax @jaw)):=aI @wg (aI @jax @jaw)
theorem dzE {p:Prop}(h:p:=by first|assumption|decide|omega|(simp only[qQ,ze,zb,zd,q8,zc,za,rzN,Qak,Qan];first|done|omega)|(apply J4<;>first|omega|((simp(disch:=first|assumption|omega|(simp only[qQ,ze,zb,zd,q8,zc,za,rzN,Qak,Qan];first|done|omega)) only[rzL,Qak,Qan,QaP,Qab,qQ,ze,zb,zd,q8,zc,za ])<;>first|done|omega))|(simp(disch:=first|assumption|omega|(simp only[qQ,ze,zb,zd,q8,zc,za,rzN,Qak,Qan];first|done|omega)) only[qQ,ze,zb,zd,q8,zc,za,rzG,Qag,Qah,Qac,Qbj,Qak,Qan,Qay,QaF];first|done|omega|decide)):p:=h
theorem cyE {p:Prop}(h:p:=by apply J4<;>first|omega|((simp(disch:=first|assumption|omega|(simp only[qQ,ze,zb,zd,q8,zc,za,rzN,Qak,Qan];first|done|omega)) only[rzL,Qak,Qan,QaP,Qab,qQ,ze,zb,zd,q8,zc,za])<;>first|done|rfl|omega|(simp;done)|(simp;omega))):p:=h
theorem zq {p:Prop}(h:p:=by first|assumption|decide|omega|(simp only[qQ,ze,zb,zd,q8,zc,za,zz,rzN,Qak,Qan];first|done|omega)|(apply J4<;>first|omega|((simp(disch:=first|assumption|omega|(simp only[qQ,ze,zb,zd,q8,zc,za,zz,rzN,Qak,Qan];first|done|omega)) only[rzL,Qak,Qan,QaP,Qab,qQ,ze,zb,zd,q8,zc,za,zz ])<;>first|done|omega))|(simp(disch:=first|assumption|omega|(simp only[qQ,ze,zb,zd,q8,zc,za,zz,rzN,Qak,Qan];first|done|omega)) only[qQ,ze,zb,zd,q8,zc,za,zz,rzG,Qag,Qah,Qac,Qbj,Qak,Qan,Qay,QaF];first|done|omega|decide)):p:=h
theorem jbx {S:List (List Nat)}{k:Nat}{st:St}{K:AV->St->Prop}(h:k<S.length):jk (qZ (.lptr (S.map AV.str) k) st) K=K (.str S[k]) st:=by
 rw[JA (by simpa using h)];congr 1;exact Vw h
theorem jm1 {a:Nat}{st:St}{K:AV->St->Prop}(h:a<=9223372036854775807):jk (Ji .quo (.int .i64 (a:Int)) (.int .i64 10) st) K=K (.int .i64 ((a / 10:Nat):Int)) st:=by
 have e:qW .i64 ((a / 10:Nat):Int)=((a / 10:Nat):Int):=Zq (by omega) (by omega);show K (.int .i64 (qW .i64 ((a / 10:Nat):Int))) st=_;rw[e]
theorem jm0 {a:Nat}{st:St}{K:AV->St->Prop}:jk (Ji .rem (.int .i64 (a:Int)) (.int .i64 10) st) K=K (.int .i64 ((a % 10:Nat):Int)) st:=rfl
def uN (n:Nat):List Nat:=if n<10 then [48+n] else uN (n / 10) ++ [48+n % 10]
termination_by n
decreasing_by omega
def Z2 (n:Int):List Nat:=if n<0 then 45 :: uN (-n).toNat else uN n.toNat
theorem jqH:∀ n,n<10->(([48,49,50,51,52,53,54,55,56,57]:List Nat).drop n).take 1=[48+n]:=by decide
theorem vF:∀ (k n:Nat),n<10 ^ (k+1)->(uN n).length<=k+1
 |0,n,h=>by rw[uN,if_pos (by omega)];simp
 |k+1,n,h=>by
  rw[uN];by_cases h2:n<10
  ·rw[if_pos h2];simp
  ·rw[if_neg h2,Qal];have:=vF k (n / 10) (by rw[Nat.pow_succ] at h;omega);simp;omega
theorem jji (hb:NB base)(n:Nat)(h:n<=1000000000000000):Tot base 77 [.int .i64 (n:Int)] (.str (uN n)):=by
 induction n using Nat.strongRecOn with
 |_ n ih=>
 refine hb.tot ?_ rfl rfl;have hd:uN n=if n<10 then [48+n] else uN (n / 10) ++ [48+n % 10]:=by rw[uN]
 by_cases h2:n<10
 ·have g:=jqH n h2;have e1:((n:Int)+1 - (n:Int)).toNat=1:=by omega
  have e2:(n:Int)<10:=by omega
  refine jF x53 (by rfl) (hb.pur 77 1 (by decide)) ?_;simp only[y53,ju,Qai,Qaj,Qag,Qah];rw[(by unfold z53;simp only[qq];rfl:z53=_)];repeat'(first|apply jc<;>intro _|simp(disch:=first|exact dzB|fail) only[e1,e2,g,je,rzZ,Qab,Qac,Qad,Qaa,Qae])
  exact G0.v (by rw[hd,if_pos h2]) rfl
 ·have i:=ih (n / 10) (by omega) (by omega);have g:=jqH (n % 10) (by omega);have e1:(((n % 10:Nat):Int)+1 - ((n % 10:Nat):Int)).toNat=1:=by omega
  have e2:¬ (n:Int)<10:=by omega
  have e0:¬ (n:Int)<0:=by omega
  have e3:(n % 10:Nat)+1<=10:=by omega
  have hl:=vF 14 (n / 10) (by
   have:(10:Nat) ^ (14+1)=1000000000000000:=by decide
   omega)
  refine jF x53 (by rfl) (hb.pur 77 1 (by decide)) ?_;simp only[y53,ju,Qai,Qaj,Qag,Qah];rw[(by unfold z53;simp only[qq];rfl:z53=_)];repeat'(first|apply jc<;>intro _|simp(disch:=first|exact dzB|fail) only[e1,e2,e0,g,jm1,jm0,i,je,rzZ,Qab,Qac,Qad,Qaa,Qae])
  exact G0.v (by rw[hd,if_neg h2]) rfl
theorem jgt (hb:NB base)(n:Int)(h1 : -1000000000000000<=n)(h2:n<=1000000000000000):Tot base 77 [.int .i64 n] (.str (Z2 n)):=by
 by_cases h0:n<0
 ·obtain⟨m,hm⟩:∃ m:Nat,-n=(m:Int):=⟨(-n).toNat,by omega⟩;have D:=jji hb m (by omega);have hl:=vF 15 m (by
   have:(10:Nat) ^ (15+1)=10000000000000000:=by decide
   omega)
  refine hb.tot ?_ rfl rfl;refine jF x53 (by rfl) (hb.pur 77 1 (by decide)) ?_;simp only[y53,ju,Qai,Qaj,Qag,Qah];rw[(by unfold z53;simp only[qq];rfl:z53=_)];repeat'(first|apply jc<;>intro _|simp(disch:=first|exact dzB|fail) only[h0,hm,D,je,rzZ,Qab,Qac,Qad,Qaa,Qae])
  exact G0.v (by rw[Z2,if_pos h0,hm];rfl) rfl
 ·obtain⟨m,hm⟩:∃ m:Nat,n=(m:Int):=⟨n.toNat,by omega⟩;subst hm;rw[Z2,if_neg h0];exact jji hb m (by omega)
theorem vG {n:Int}(h1 : -1000000<=n)(h2:n<=1000000):(Z2 n).length<=8:=by
 have e:(10:Nat) ^ (6+1)=10000000:=by decide
 unfold Z2;split
 ·have:=vF 6 (-n).toNat (by omega);simp;omega
 ·have:=vF 6 n.toNat (by omega);omega
def zi:Ex->List Nat
 |.mk op num name ks _ _=>match ks with
  |[x,y]=>(if x.kids.length=0 then zi x else 40 :: (zi x ++ [41])) ++ [32] ++ sgn op ++ [32] ++ (if y.kids.length=0 then zi y else 40 :: (zi y ++ [41]))
  |[x]=>sgn op ++ (if 6<op then [32] else []) ++ (if x.kids.length=0 then zi x else 40 :: (zi x ++ [41]))
  |_=>if op=1 then Z2 num else if op=2 then(if num=1 then [116,114,117,101] else [102,97,108,115,101]) else name
termination_by x=>SizeOf.sizeOf x
def Z0 (x:Ex):List Nat:=if x.kids.length=0 then zi x else 40 :: (zi x ++ [41])
theorem jdK (op num:Int)(name:List Nat)(x y:Ex)(l c:Int):zi (.mk op num name [x,y] l c)=Z0 x ++ [32] ++ sgn op ++ [32] ++ Z0 y:=by rw[zi];rfl
theorem jdL (op num:Int)(name:List Nat)(x:Ex)(l c:Int):zi (.mk op num name [x] l c)=sgn op ++ (if 6<op then [32] else []) ++ Z0 x:=by rw[zi];rfl
theorem jdM (op num:Int)(name:List Nat)(l c:Int):zi (.mk op num name [] l c)=if op=1 then Z2 num else if op=2 then(if num=1 then [116,114,117,101] else [102,97,108,115,101]) else name:=by rw[zi]<;>intros<;>simp_all
theorem Gk (op:Int):(sgn op).length<=3:=by
 unfold sgn;split
 ·rename_i h;have:∀ n,n<26->(wQ.getD n []).length<=3:=by decide
  exact this _ (by omega)
 ·simp
theorem Kv {x:Ex}(h:JQ x=true):Jn x.op=(x.kids.length:Int)/\(∀ k∈x.kids,JQ k=true)/\wy x.op x.num x.name=true/\(x.op=3\/x.name=[]):=by
 rw[Vy,uG] at h;simp only[Qaq,decide_eq_true_eq,Qaz,QaO] at h;exact⟨h.1.1.1,h.1.1.2,h.2,h.1.2⟩
theorem jcm (op:Int):Jn op<=2:=by unfold Jn;split<;>(try split)<;>(try split)<;>omega
theorem Ju:∀ x:Ex,JQ x=true->(zi x).length<=16 * szE x:=by
 refine Ex.indk λx ih h=>?_;obtain⟨h1,h2,h3,h4⟩:=Kv h;have h5:=jcm x.op;cases x with
 |mk op num name ks l c=>
 simp only[Ex.op,Ex.num,Ex.name,Ex.kids] at *;have sz:szE (.mk op num name ks l c)=yu ks+name.length+1:=rfl;rw[sz];have inn:∀ k∈ks,(Z0 k).length<=16 * szE k+2:=λk hk=>by
  have:=ih k hk (h2 k hk);unfold Z0;split
  ·omega
  ·simp;omega
 match ks,h1,inn with
 |[],_,_=>
  rw[jdM];unfold wy at h3;split
  ·rename_i h6;rw[if_pos h6] at h3;simp at h3;have:=vG (n:=num) (by omega) (by omega);omega
  ·split
   ·split<;>simp<;>omega
   ·omega
 |[x],_,inn=>
  rw[jdL];have:=inn x (by simp);have:=Gk op;simp only[Qal,yu];split<;>simp<;>omega
 |[x,y],_,inn=>
  rw[jdK];have:=inn x (by simp);have:=inn y (by simp);have:=Gk op;simp only[Qal,yu,Qak,Qan];omega
 |x :: y :: z :: r,h1,_=>
  simp only[Qak] at h1;omega
theorem jk2 {x:Ex}(h:JQ x=true):(Z0 x).length<=16 * szE x+2:=by
 have:=Ju x h;unfold Z0;split
 ·omega
 ·simp;omega
theorem jqc (x:Ex)(xs:List Ex){st:St}{K:AV->St->Prop}:jk (zf 6 (.lptr (fl eE (x :: xs)) 0) st) K=K (.agg (eE x)) st:=by
 have:=jcG (st:=st) (K:=K) (xs:=x :: xs) (i:=0) (by simp);rw[Qbq] at this;exact this
theorem jth (x y:Ex)(xs:List Ex){st:St}{K:AV->St->Prop}:jk (zf 6 (.lptr (fl eE (x :: y :: xs)) 6) st) K=K (.agg (eE y)) st:=jcG (st:=st) (K:=K) (xs:=x :: y :: xs) (i:=1) (by simp)
theorem jlu (hb:NB base){x:Ex}(h:JQ x=true)(hx:szE x<=BIG)(T:Tot base 78 [.agg (eE x)] (.str (zi x))):Tot base 104 [.agg (eE x)] (.str (Z0 x)):=by
 refine hb.tot ?_ (by first|rfl|simp[pa,pc,qO]) rfl;have hl:=Ju x h;have z:((x.kids.length:Int)=0)=(x.kids.length=0):=by rw[eq_iff_iff];omega
 unfold BIG at hx;refine jF x51 (by rfl) (hb.pur 104 1 (by decide)) ?_;simp only[y51,ju,Qai,Qaj,Qag,Qah];rw[(by unfold z51;simp only[qq];rfl:z51=_)]
 (have zz:=@Qal.{0};(repeat'(first|apply jc<;>intro _|simp(disch:=first|exact jcH|fail) only[T,z,Qal,je,rzZ,Qab,Qac,Qad,Qaa,Qae]));all_goals clear zz)
 ·exact G0.v (by rw[Z0,if_pos (by assumption)]) rfl
 ·exact G0.v (by rw[Z0,if_neg (by assumption)]<;>rfl) rfl
set_option maxHeartbeats 1000000 in
theorem jdc (hb:NB base):∀ x:Ex,szE x<=BIG->JQ x=true->Tot base 78 [.agg (eE x)] (.str (zi x)):=by
 refine Ex.indk λx ih hx h=>?_;refine hb.tot ?_ (by first|rfl|simp[pa,pc,qO]) rfl;obtain⟨h1,h2,h3,h4⟩:=Kv h;have h5:=jcm x.op;have sz:=zW x;have hl:=Ju x h;have SG:=jnV hb x.op;have sl:=Gk x.op;have inn:∀ k∈x.kids,Tot base 104 [.agg (eE k)] (.str (Z0 k))/\(Z0 k).length<=16 * szE k+2:=λk hk=>by
  have:szE k<=yu x.kids:=by
   obtain⟨i,hi,rfl⟩:=QbN.1 hk;exact Xq hi
  have hk2:szE k<=BIG:=by omega
  exact⟨jlu hb (h2 k hk) hk2 (ih k hk hk2 (h2 k hk)),jk2 (h2 k hk)⟩
 clear ih hl;unfold BIG at *;cases x with
 |mk op num name ks l c=>
 simp only[Ex.op,Ex.num,Ex.name,Ex.kids] at *
 match ks,h1,sz,inn with
 |[],_,sz,_=>
  rw[jdM];have D:op=1->Tot base 77 [.int .i64 num] (.str (Z2 num)):=λe=>by
   subst e;unfold wy at h3;simp at h3;exact jgt hb num (by omega) (by omega)
  have ek:(Ex.mk op num name [] l c).kids=[]:=rfl;have eo:(Ex.mk op num name [] l c).op=op:=rfl;have en:(Ex.mk op num name [] l c).num=num:=rfl;have ea:(Ex.mk op num name [] l c).name=name:=rfl;refine jF x16 (by rfl) (hb.pur 78 1 (by decide)) ?_;simp only[y16,ju,Qai,Qaj,Qag,Qah];rw[(by unfold z16;simp only[qq];rfl:z16=_)];repeat'(first|apply jc<;>intro _|simp(disch:=first|exact dzB|fail) only[D,ek,eo,en,ea,je,rzZ,Qab,Qac,Qad,Qaa,Qae])
  all_goals(refine G0.v (congrArg AV.str ?_) rfl;split<;>(try split)<;>first|rfl|omega|(exfalso;omega)|contradiction)
 |[x],_,sz,inn=>
  obtain⟨I,il⟩:=inn x (by simp);simp only[yu] at sz;rw[jdL];have ek:(Ex.mk op num name [x] l c).kids=[x]:=rfl;have eo:(Ex.mk op num name [x] l c).op=op:=rfl;refine jF x16 (by rfl) (hb.pur 78 1 (by decide)) ?_;simp only[y16,ju,Qai,Qaj,Qag,Qah];rw[(by unfold z16;simp only[qq];rfl:z16=_)]
  (have zz:=aI @q6 (aI @wZ (aI @Qal.{0} (aI @ek @eo)));(repeat'(first|apply jc<;>intro _|simp(disch:=first|exact jcH|fail) only[ek,eo,I,SG,jqc,sm3,jkw,QR,q6,wZ,Qal,ek,eo,je,rzZ,Qab,Qac,Qad,Qaa,Qae]));all_goals clear zz)
  all_goals(refine G0.v (congrArg AV.str ?_) rfl;split<;>first|rfl|(exfalso;omega)|(simp;done))
 |[x,y],_,sz,inn=>
  obtain⟨I,il⟩:=inn x (by simp);obtain⟨I2,il2⟩:=inn y (by simp);simp only[yu] at sz;rw[jdK];have ek:(Ex.mk op num name [x,y] l c).kids=[x,y]:=rfl;have eo:(Ex.mk op num name [x,y] l c).op=op:=rfl;refine jF x16 (by rfl) (hb.pur 78 1 (by decide)) ?_;simp only[y16,ju,Qai,Qaj,Qag,Qah];rw[(by unfold z16;simp only[qq];rfl:z16=_)]
  (have zz:=aI @q6 (aI @wZ (aI @Qal.{0} (aI @ek @eo)));(repeat'(first|apply jc<;>intro _|simp(disch:=first|exact jcH|fail) only[ek,eo,I,I2,SG,jqc,jth,sm3,jkw,QR,q6,wZ,Qal,ek,eo,je,rzZ,Qab,Qac,Qad,Qaa,Qae]));all_goals clear zz)
  exact G0.v rfl rfl
 |x :: y :: z :: r,h1,_,_=>
  simp only[Qak] at h1;omega
def JT:List (List Nat)->List Nat
 |[]=>[]
 |x :: xs=>x ++ xs.flatMap λy=>44 :: 32 :: y
theorem gh (xs:List (List Nat))(y:List Nat):JT (xs ++ [y])=JT xs ++ (if xs.length=0 then [] else [44,32]) ++ y:=by
 cases xs with
 |nil=>simp[JT]
 |cons x xs=>simp[JT]
theorem YD {n:Nat}:∀ {xs:List (List Nat)},(∀ x∈xs,x.length<=n)->(JT xs).length<=xs.length * (n+2)
 |[],_=>by simp[JT]
 |x :: xs,h=>by
  have h1:=h x (by simp);have:(xs.flatMap λy=>44 :: 32 :: y).length<=xs.length * (n+2):=by
   clear h1;induction xs with
   |nil=>simp
   |cons y ys ih=>
    have h2:=h y (by simp);have:=ih λz hz=>h z (by simp at hz ⊢;rcases hz with rfl|hz<;>simp[*]);rw[Qcy,Qal,show(y :: ys).length=ys.length+1 from rfl,Qbw];simp only[Qak];omega
  rw[JT,Qal,show(x :: xs).length=xs.length+1 from rfl,Qbw];omega
theorem QI {l:List Nat}(h:nm l=true):l.length<=32:=by
 unfold nm at h;simp only[Qaq,decide_eq_true_eq] at h;exact h.1.1.1.2
def QA (e:EnumT):Option (List Nat):=if nm e.name=true/\1<=e.vals.length/\e.vals.length<=32/\e.vals.all nm=true then some ([101,110,117,109,32] ++ e.name ++ [32,123,32] ++ JT e.vals ++ [32,125,10]) else none
def Ge (o:Option (List Nat)):AV:=.tup [.str (o.getD []),.bool o.isSome]
theorem jha (l:List Nat):Ge (some l)=.tup [.str l,.bool true]:=rfl
theorem G0.tup2 {s:St}{a:List Nat}{b:Bool}{u:AV}(h:u=.tup [.str a,.bool b]):G0 u (.tup [.str a,.bool b]) s:=by
 subst h;exact FzD.tup (.cons (.pc rfl) (.cons (.pc rfl) .nil))
theorem jc7 {α:Type}{p:α->Bool}{xs:List α}{k:Nat}(h:k<xs.length)(h2:p xs[k]=false):xs.all p=false:=by
 rw[Bool.eq_false_iff];intro h3;rw[Qaz] at h3;have:=h3 _ (Qax h);rw[h2] at this;cases this
theorem jgo {α:Type}{p:α->Bool}{xs:List α}{k:Nat}(h:k<xs.length):(xs.take (k+1)).all p=((xs.take k).all p && p xs[k]):=by
 rw[yO h,Qbl];simp
set_option maxHeartbeats 1000000 in
theorem jn5 (hb:NB base)(e:EnumT)(h1:e.name.length<=BIG)(h2:e.vals.length<=BIG)(h3:∀ v∈e.vals,v.length<=BIG):Tot base 56 [.agg (enE e)] (Ge (QA e)):=by
 refine hb.tot ?_ (by first|rfl|simp[pa,pc,qO,Q3,Wy,JV,Jy]) rfl;have NM:=Zt hb e.name (by unfold BIG at *;omega);unfold BIG at *;have c1:((e.vals.length:Int)<1)=(e.vals.length<1):=by rw[eq_iff_iff];omega
 have c2:((32:Int)<(e.vals.length:Int))=(32<e.vals.length):=by rw[eq_iff_iff];omega
 refine jF x54 (by rfl) (hb.pur 56 1 (by decide)) ?_;simp only[y54,ju,Qai,Qaj,Qag,Qah];rw[(by unfold z54;simp only[qq];rfl:z54=_)]
 (have zz:=@Qal.{0};(repeat'(first|apply jc<;>intro _|simp(disch:=first|exact zq|fail) only[NM,c1,c2,Qal,je,jj,jX,ji,jd,rzZ,Qab,Qac,Qad,Qaa,Qae]));all_goals clear zz)
 ·rename_i h;exact G0.tup2 (by rw[QA,if_neg (by rintro ⟨h6,_⟩;rw[h] at h6;cases h6)];rfl)
 ·exact G0.tup2 (by rw[QA,if_neg (by omega)];rfl)
 ·exact G0.tup2 (by rw[QA,if_neg (by omega)];rfl)
 have hn:nm e.name=true:=by simp_all
 have hnl:=QI hn;have l1:1<=e.vals.length:=by omega
 have l2:e.vals.length<=32:=by omega
 refine qp e.vals.length (λk L s=>(e.vals.take k).all nm=true/\Has L 4 (.str ([101,110,117,109,32] ++ e.name ++ [32,123,32] ++ JT (e.vals.take k)))/\Has L 28 (.lst e.vals.length (e.vals.map AV.str))) (by first|assumption|omega) (by decide) (by simp(disch:=decide) only[jf,jb]) (by simp(disch:=decide) only[jf,jb]) ?_ (λk L s v h=>by simp(disch:=decide) only[jb];exact h) (λk L s v h=>by simp(disch:=decide) only[jb];exact h) (λk L s hk hI hi hn=>?_) (λL s hI=>?_)
 ·refine⟨rfl,?_⟩;rw[QaZ,JT,Qbk];simp(disch:=decide) only[Qam,Qar,z0,z1,jf,jb,and_true,true_and,QaY,Qay,QaF]
 ·obtain⟨h0,i4,i28⟩:=hI;have N2:=Zt hb e.vals[k] (by have:=h3 _ (Qax hk);omega);have hs:=gh (e.vals.take k) e.vals[k];rw[<-yO hk] at hs;have hjl:(JT (e.vals.take k)).length<=32 * 34:=by
   have:=YD (n:=32) (xs:=e.vals.take k) λx hx=>QI (Qaz.1 h0 x hx);have h7:(e.vals.take k).length<=32:=by rw[QaH];omega
   have:=QaM 34 h7;omega
  have hvl:=h3 _ (Qax hk);have tl:(e.vals.take k).length=k:=by rw[QaH];omega
  rw[tl] at hs;have c3:((0:Int)<(k:Int))=(0<k):=by rw[eq_iff_iff];omega
  (have zz:=@Qal.{0};(repeat'(first|apply jc<;>intro _|simp(disch:=first|exact zq|fail) only[ja i4,ja i28,ja hi,ja hn,jbx,N2,c3,Qal,je,jj,jX,ji,jd,rzZ,Qab,Qac,Qad,Qaa,Qae]));all_goals clear zz)
  ·rename_i h;exact G0.tup2 (by rw[QA,if_neg (by rintro ⟨_,_,_,h6⟩;rw[jc7 hk h] at h6;cases h6)];rfl)
  ·rename_i h h8;refine⟨⟨by rw[jgo hk,h0];simp_all,?_⟩,?_⟩
   ·rw[hs,if_neg (by omega)];simp(disch:=decide) only[Qam,Qar,z0,z1,jf,jb,and_true,true_and,i28,QaY,Qay,QaF]
   ·simp(disch:=decide) only[Qam,Qar,z0,z1,jf,jb,and_true,true_and,hi,hn]
  ·rename_i h h8;refine⟨⟨by rw[jgo hk,h0];simp_all,?_⟩,?_⟩
   ·rw[hs,if_pos (by omega)];simp(disch:=decide) only[Qam,Qar,z0,z1,jf,jb,and_true,true_and,i28,QaY,Qay,QaF]
   ·simp(disch:=decide) only[Qam,Qar,z0,z1,jf,jb,and_true,true_and,hi,hn]
 ·obtain⟨h0,i4,i28⟩:=hI;rw[QaB] at h0 i4;have hjl:(JT e.vals).length<=32 * 34:=by
   have:=YD (n:=32) (xs:=e.vals) λx hx=>QI (Qaz.1 h0 x hx);have:=QaM 34 l2;omega
  (have zz:=@Qal.{0};(repeat'(first|apply jc<;>intro _|simp(disch:=first|exact zq|fail) only[ja i4,ja i28,Qal,je,jj,jX,ji,jd,rzZ,Qab,Qac,Qad,Qaa,Qae]));all_goals clear zz)
  exact G0.tup2 (by rw[QA,if_pos ⟨hn,l1,l2,h0⟩];rfl)
def ZL (n:Int):Bool:=decide (-1000000<=n) && decide (n<=1000000)
def Qq (d:DeclT):Option (List Nat):=
 if d.ty=[] then(if ZL d.lo=true/\ZL d.hi=true then some (Z2 d.lo ++ [46,46] ++ Z2 d.hi) else none)
 else if d.lo=0/\d.hi=0/\(d.ty=[98,111,111,108]\/nm d.ty=true) then some d.ty else none
def Zs (xs:List Ex):List Nat:=xs.flatMap λx=>[32,61,32] ++ zi x
def J3 (d:DeclT):Option (List Nat):=match Qq d with
 |none=>none
 |some t=>if d.begins.length<=1/\nm d.name=true/\d.begins.all zx=true then some ([118,97,114,32] ++ d.name ++ [32,58,32] ++ t ++ Zs d.begins ++ [59,10]) else none
theorem GX {d:DeclT}(h:Qq d=none):J3 d=none:=by unfold J3;rw[h]
theorem jeA {d:DeclT}{t:List Nat}(h:Qq d=some t):J3 d=if d.begins.length<=1/\nm d.name=true/\d.begins.all zx=true then some ([118,97,114,32] ++ d.name ++ [32,58,32] ++ t ++ Zs d.begins ++ [59,10]) else none:=by unfold J3;rw[h]
theorem zR {x:Ex}(h:zx x=true):JQ x=true:=by
 unfold zx at h;rw[XR] at h;simp only[Qaq] at h;exact h.1.2
theorem jqb {xs:List Ex}(h:0<xs.length){st:St}{K:AV->St->Prop}:jk (zf 6 (.lptr (fl eE xs) 0) st) K=K (.agg (eE xs[0])) st:=by
 have:=jcG (st:=st) (K:=K) h;rw[Qbq] at this;exact this
set_option maxHeartbeats 1000000 in
theorem H7 (hb:NB base)(d:DeclT)(t:List Nat)(hw:Qq d=some t)(ht:t.length<=BIG)(h1:d.name.length<=BIG)(h2:∀ x∈d.begins,szE x<=BIG){L:Sl}{s:St}(i1:Has L 1 (.ptr 0 0))(i4:Has L 4 (.str ([118,97,114,32] ++ d.name ++ [32,58,32] ++ t)))(n0:1<=s.nx)(C0:Cl s 0 (qg d)) :
  xC Qaf base jeX L s (QU Qaf y55.res (Q1 G0 (.ok (Ge (J3 d))))) λv _ s=>QX G0 (.ok (Ge (J3 d))) v s.bare:=by
 have NM:=Zt hb d.name (by unfold BIG at *;omega);have c2:((1:Int)<(d.begins.length:Int))=(1<d.begins.length):=by rw[eq_iff_iff];omega
 have hd:=jeA hw;unfold BIG at *;unfold y55;rw[(by unfold jeX;simp only[qq];rfl:jeX=_)]
 (have zz:=C0.r;(repeat'(first|apply jc<;>intro _|simp(disch:=first|exact zq|fail) only[ja i1,ja i4,NM,c2,C0.q,C0.r,je,jj,jX,ji,jd,rzZ,Qab,Qac,Qad,Qaa,Qae]));all_goals clear zz)
 ·exact G0.tup2 (by rw[hd,if_neg (by omega)];rfl)
 ·rename_i h8 h;exact G0.tup2 (by rw[hd,if_neg (by rintro ⟨_,h6,_⟩;rw[h] at h6;cases h6)];rfl)
 have hn:nm d.name=true:=by simp_all
 have l1:d.begins.length<=1:=by omega
 have hnl:=QI hn;refine qp d.begins.length (λk L s=>(d.begins.take k).all zx=true/\Has L 1 (.ptr 0 0)/\Has L 4 (.str ([118,97,114,32] ++ d.name ++ [32,58,32] ++ t ++ Zs (d.begins.take k)))/\Has L 68 (.lst d.begins.length (fl eE d.begins))/\1<=s.nx) (by first|assumption|omega) (by decide) (by simp(disch:=decide) only[jf,jb]) (by simp(disch:=decide) only[jf,jb]) ?_ (λk L s v h=>by simp(disch:=decide) only[jb];exact h) (λk L s v h=>by simp(disch:=decide) only[jb];exact h) (λk L s hk hI hi hn=>?_) (λL s hI=>?_)
 ·refine⟨rfl,?_⟩;rw[QaZ,show Zs []=[] from rfl,Qbk];simp(disch:=decide) only[Qam,Qar,z0,z1,jf,jb,and_true,true_and,i1,i4];exact n0
 ·obtain⟨h0,i1,i4,i68,n0⟩:=hI;have hk0:k=0:=by omega
  subst hk0;have hi:Has L 70 (.int .i64 0):=hi;have hx:=h2 _ (Qax hk);have WR:=wN hb d.begins[0] hx;have TX:=λ(h:zx d.begins[0]=true)=>jdc hb d.begins[0] hx (zR h);have TL:=λ(h:zx d.begins[0]=true)=>Ju d.begins[0] (zR h);have hs:d.begins.take (0+1)=[d.begins[0]]:=yO hk;rw[QaZ,show Zs []=[] from rfl,Qbk] at i4;by_cases hwr:zx d.begins[0]=true
  ·have TX:=TX hwr;have TL:=TL hwr;rw[hwr] at WR
   (have zz:=@Qal.{0};(repeat'(first|apply jc<;>intro _|simp(disch:=first|exact zq|fail) only[ja i1,ja i4,ja i68,ja hi,ja hn,jqb hk,WR,TX,Qal,je,jj,jX,ji,jd,rzZ,Qab,Qac,Qad,Qaa,Qae]));all_goals clear zz)
   refine⟨⟨by rw[hs];simp[hwr],?_⟩,?_⟩
   ·rw[hs,show Zs [d.begins[0]]=[32,61,32] ++ zi d.begins[0] from by simp[Zs]];simp(disch:=decide) only[Qam,Qar,z0,z1,jf,jb,and_true,true_and,i1,i68,QaY,Qay,QaF]
    (first|omega|(simp only[jg,jh,jt,jr,jl];first|done|omega))
   ·simp(disch:=decide) only[Qam,Qar,z0,z1,jf,jb,and_true,true_and,hi,hn]
  ·have hf:zx d.begins[0]=false:=by simpa using hwr
   rw[hf] at WR
   (have zz:=@Qal.{0};(repeat'(first|apply jc<;>intro _|simp(disch:=first|exact zq|fail) only[ja i1,ja i4,ja i68,ja hi,ja hn,jqb hk,WR,Qal,je,jj,jX,ji,jd,rzZ,Qab,Qac,Qad,Qaa,Qae]));all_goals clear zz)
   exact G0.tup2 (by rw[hd,if_neg (by rintro ⟨_,_,h6⟩;rw[jc7 hk hf] at h6;cases h6)];rfl)
 ·obtain⟨h0,i1,i4,i68,n0⟩:=hI;rw[QaB] at h0 i4;have bl:(Zs d.begins).length<=16 * 1099511627776+3:=by
   match hx:d.begins with
   |[]=>simp[Zs]
   |[x]=>
    rw[hx] at h0 h2;have:=Ju x (zR (by simpa using h0));have:=h2 x (by simp);simp[Zs];omega
   |x :: y :: r=>rw[hx] at l1;simp at l1
  (have zz:=@Qal.{0};(repeat'(first|apply jc<;>intro _|simp(disch:=first|exact zq|fail) only[ja i1,ja i4,Qal,je,jj,jX,ji,jd,rzZ,Qab,Qac,Qad,Qaa,Qae]));all_goals clear zz)
  exact G0.tup2 (by rw[hd,if_pos ⟨l1,hn,h0⟩];simp only[jha,QaY,Qay,QaF])
set_option maxHeartbeats 1000000 in
theorem jn6 (hb:NB base)(d:DeclT)(h1:d.name.length<=BIG)(h3:d.ty.length<=BIG)(h2:∀ x∈d.begins,szE x<=BIG):Tot base 57 [.agg (qg d)] (Ge (J3 d)):=by
 refine hb.tot ?_ (by first|rfl|simp[pa,pc,qO,Q3,Wy,JV,Jy]) rfl;have NT:=Zt hb d.ty (by unfold BIG at *;omega);have S1:Tot base 76 [.int .i64 d.lo] (.bool (ZL d.lo)):=jdR hb d.lo;have S2:Tot base 76 [.int .i64 d.hi] (.bool (ZL d.hi)):=jdR hb d.hi;unfold BIG at *;by_cases ht:d.ty=[]
 ·by_cases hs:ZL d.lo=true/\ZL d.hi=true
  ·have e1:=hs.1;have e2:=hs.2;unfold ZL at e1 e2;simp only[Qaq,decide_eq_true_eq] at e1 e2;have D1:=jgt hb d.lo (by omega) (by omega);have D2:=jgt hb d.hi (by omega) (by omega);have l1:=vG e1.1 e1.2;have l2:=vG e2.1 e2.2;have hw:Qq d=some (Z2 d.lo ++ [46,46] ++ Z2 d.hi):=by rw[Qq,if_pos ht,if_pos hs]
   rw[hs.1] at S1;rw[hs.2] at S2;refine jF x55 (by rfl) (hb.pur 57 1 (by decide)) ?_;simp only[y55,ju,Qai,Qaj,Qag,Qah];rw[(by unfold z55;simp only[qq];rfl:z55=_)]
   (have zz:=aI @Qal.{0} @q6;(repeat'(first|apply jc<;>intro _|simp(disch:=first|exact zq|fail) only[ht,S1,S2,D1,D2,sm2,Qal,q6,je,jj,jX,ji,jd,rzZ,Qab,Qac,Qad,Qaa,Qae]));all_goals clear zz)
   refine H7 hb d _ hw (by simp[BIG];omega) (by unfold BIG;omega) (by unfold BIG;exact h2) ?_ ?_ ?_ ?_
   ·simp(disch:=decide) only[Qam,Qar,z0,z1,jf,jb,and_true,true_and]
   ·simp(disch:=decide) only[Qam,Qar,z0,z1,jf,jb,and_true,true_and,QaY,Qay,QaF]
   ·(first|omega|(simp only[jg,jh,jt,jr,jl];first|done|omega))
   ·first|exact Cl.new _ _|(first|exact cyE|fail)
  ·have hw:Qq d=none:=by rw[Qq,if_pos ht,if_neg hs]
   refine jF x55 (by rfl) (hb.pur 57 1 (by decide)) ?_;simp only[y55,ju,Qai,Qaj,Qag,Qah];rw[(by unfold z55;simp only[qq];rfl:z55=_)]
   (have zz:=@Qal.{0};(repeat'(first|apply jc<;>intro _|simp(disch:=first|exact zq|fail) only[ht,S1,S2,Qal,je,jj,jX,ji,jd,rzZ,Qab,Qac,Qad,Qaa,Qae]));all_goals clear zz)
   all_goals first|(exact G0.tup2 (by rw[GX hw];rfl))|(exfalso;simp_all;done)
 ·by_cases hs:d.lo=0/\d.hi=0/\(d.ty=[98,111,111,108]\/nm d.ty=true)
  ·have hw:Qq d=some d.ty:=by rw[Qq,if_neg ht,if_pos hs]
   obtain⟨e1,e2,e3⟩:=hs;refine jF x55 (by rfl) (hb.pur 57 1 (by decide)) ?_;simp only[y55,ju,Qai,Qaj,Qag,Qah];rw[(by unfold z55;simp only[qq];rfl:z55=_)]
   (have zz:=@Qal.{0};(repeat'(first|apply jc<;>intro _|simp(disch:=first|exact zq|fail) only[ht,e1,e2,NT,Qal,je,jj,jX,ji,jd,rzZ,Qab,Qac,Qad,Qaa,Qae]));all_goals clear zz)
   all_goals first
    |(exfalso;simp_all;done)
    |(
     refine H7 hb d _ hw (by unfold BIG;omega) (by unfold BIG;omega) (by unfold BIG;exact h2) ?_ ?_ ?_ ?_
     ·simp(disch:=decide) only[Qam,Qar,z0,z1,jf,jb,and_true,true_and]
     ·simp(disch:=decide) only[Qam,Qar,z0,z1,jf,jb,and_true,true_and,QaY,Qay,QaF]
     ·(first|omega|(simp only[jg,jh,jt,jr,jl];first|done|omega))
     ·first|exact Cl.new _ _|(first|exact cyE|fail))
  ·have hw:Qq d=none:=by rw[Qq,if_neg ht,if_neg hs]
   refine jF x55 (by rfl) (hb.pur 57 1 (by decide)) ?_;simp only[y55,ju,Qai,Qaj,Qag,Qah];rw[(by unfold z55;simp only[qq];rfl:z55=_)]
   (have zz:=@Qal.{0};(repeat'(first|apply jc<;>intro _|simp(disch:=first|exact zq|fail) only[ht,NT,Qal,je,jj,jX,ji,jd,rzZ,Qab,Qac,Qad,Qaa,Qae]));all_goals clear zz)
   all_goals first|(exact G0.tup2 (by rw[GX hw];rfl))|(exfalso;simp_all;done)
theorem jl0 {b o:Nat}{cs:List AV}{h:T AO}(ho:o+6<=qr h b)(hv:rats h b o 6=cs)(hc:cs.all eqs=true):(jZ Qaf 29 (.ptr b o) (.agg cs) h=true)=True:=eq_true (XP jau jat (by decide) ho hv hc)
theorem jbR {s:St}{cs:List AV}{b o k:Nat}(hb:b=s.nx)(h:o+k<=cs.length):rats (nw s cs).h b o k=(cs.drop o).take k:=by
 subst hb;exact(Cl.new s cs).ratsP k o h
theorem Jh {s:St}{vs:List AV}{b o o' k:Nat}(h1:o'<=o)(h:o+k<=o'+vs.length):rats (wr s b o' vs).h b o k=(vs.drop (o - o')).take k:=by
 refine Zj (by simp;omega) λi hi=>?_;rw[U2 (by omega) (by omega),Qau,Qau,QbT,if_pos hi,Qcf,show o - o'+i=o+i - o' by omega]
def Xl (a:AsT):List Nat:=a.name ++ [32,58,61,32] ++ zi a.to
def Uo (a:AsT):Bool:=nm a.name && zx a.to
def J2 (r:RuleT):Option (List Nat):=if zx r.when=true/\1<=r.acts.length/\r.acts.length<=32/\r.acts.all Uo=true then some ([32,32,119,104,101,110,32] ++ zi r.when ++ [32,100,111,32] ++ JT (r.acts.map Xl) ++ [59,10]) else none
def WL:Nat:=17592186044516
theorem Ka {a:AsT}(h:Uo a=true)(h2:szE a.to<=BIG):(Xl a).length<=WL:=by
 unfold Uo at h;simp only[Qaq] at h;have:=QI h.1;have:=Ju a.to (zR h.2);unfold BIG at h2;unfold WL Xl;simp only[Qal,Qak,Qan];omega
theorem VZ:∀ (a b:Int) (nm:List Nat) (n:Nat) (cs:List AV) (l c:Int),([.int .i64 a,.int .i64 b,.str nm,.lst n cs,.int .i64 l,.int .i64 c]:List AV).all eqs=true:=λ_ _ _ _ _ _ _=>nr rfl
set_option maxHeartbeats 2000000 in
theorem jnX (hb:NB base)(r:RuleT)(h1:szE r.when<=BIG)(h2:r.acts.length<=BIG)(h3:∀ a∈r.acts,szE a.to<=BIG/\a.name.length<=BIG):Tot base 59 [.agg (ruE r)] (Ge (J2 r)):=by
 refine hb.tot ?_ (by first|rfl|simp[pa,pc,qO,Q3,Wy,JV,Jy]) rfl;have c1:((r.acts.length:Int)<1)=(r.acts.length<1):=by rw[eq_iff_iff];omega
 have c2:((32:Int)<(r.acts.length:Int))=(32<r.acts.length):=by rw[eq_iff_iff];omega
 have WR:=wN hb r.when h1;by_cases hw:zx r.when=true
 ·have TX:=jdc hb r.when h1 (zR hw);have TL:=Ju r.when (zR hw);rw[qE] at WR TX;rw[hw] at WR;unfold BIG at h1 h2;refine jF x57 (by rfl) (hb.pur 59 1 (by decide)) ?_;simp only[y57,ju,Qai,Qaj,Qag,Qah];rw[(by unfold z57;simp only[qq];rfl:z57=_)]
  (have zz:=@Qal.{0};(repeat'(first|apply jc<;>intro _|simp(disch:=first|exact zq|fail) only[WR,TX,c1,c2,jbR,Qal,je,jj,jX,ji,jd,rzZ,Qab,Qac,Qad,Qaa,Qae]));all_goals clear zz)
  ·exact G0.tup2 (by rw[J2,if_neg (by omega)];rfl)
  ·exact G0.tup2 (by rw[J2,if_neg (by omega)];rfl)
  have l1:1<=r.acts.length:=by omega
  have l2:r.acts.length<=32:=by omega
  refine qp r.acts.length (λk L s=>(r.acts.take k).all Uo=true/\Has L 4 (.str ([32,32,119,104,101,110,32] ++ zi r.when ++ [32,100,111,32] ++ JT ((r.acts.take k).map Xl)))/\Has L 29 (.lst r.acts.length (fl asE r.acts))/\1<=s.nx) (by first|assumption|omega) (by decide) (by simp(disch:=decide) only[jf,jb]) (by simp(disch:=decide) only[jf,jb]) ?_ (λk L s v h=>by simp(disch:=decide) only[jb];exact h) (λk L s v h=>by simp(disch:=decide) only[jb];exact h) (λk L s hk hI hi hn=>?_) (λL s hI=>?_)
  ·refine⟨rfl,?_⟩;rw[QaZ,Qaj,JT,Qbk];simp(disch:=decide) only[Qam,Qar,z0,z1,jf,jb,and_true,true_and,QaY,Qay,QaF]
   (first|omega|(simp only[jg,jh,jt,jr,jl];first|done|omega))
  ·obtain⟨h0,i4,i29,n0⟩:=hI;have hx:=h3 _ (Qax hk);have hin:r.acts[k]∈r.acts:=Qax hk;have hact:∀ a∈r.acts.take k,(Xl a).length<=WL:=λa ha=>Ka (Qaz.1 h0 a ha) (h3 a (QbY ha)).1;have hbad:Uo r.acts[k]=false->J2 r=none:=λh=>by rw[J2,if_neg (by rintro ⟨_,_,_,h6⟩;rw[jc7 hk h] at h6;cases h6)]
   have hgood:Uo r.acts[k]=true->(r.acts.take (k+1)).all Uo=true:=λh=>by rw[jgo hk,h0,h];rfl
   have hs:=gh ((r.acts.take k).map Xl) (Xl r.acts[k]);have e9:(r.acts.take k).map Xl ++ [Xl r.acts[k]]=(r.acts.take (k+1)).map Xl:=by rw[yO hk,QbO];rfl
   rw[e9] at hs;have tl:((r.acts.take k).map Xl).length=k:=by rw[QaR,QaH];omega
   rw[tl] at hs;have hjl:(JT ((r.acts.take k).map Xl)).length<=32 * (WL+2):=by
    have:=YD (n:=WL) (xs:=(r.acts.take k).map Xl) λx hx=>by
     obtain⟨a,ha,rfl⟩:=Qbp.1 hx;exact hact a ha
    rw[tl] at this;have:=QaM (WL+2) (show k<=32 by omega);omega
   clear hact e9 tl;have N2:=Zt hb r.acts[k].name (by have:=hx.2;unfold BIG at this;omega);have W2:=wN hb r.acts[k].to hx.1;have T2:=λ(h:zx r.acts[k].to=true)=>jdc hb r.acts[k].to hx.1 (zR h);have T3:=λ(h:zx r.acts[k].to=true)=>Ju r.acts[k].to (zR h);have hdef:Uo r.acts[k]=(nm r.acts[k].name && zx r.acts[k].to):=rfl;have hdw:Xl r.acts[k]=r.acts[k].name ++ [32,58,61,32] ++ zi r.acts[k].to:=rfl;have c3:((0:Int)<(k:Int))=(0<k):=by rw[eq_iff_iff];omega
   obtain⟨hx1,hx2⟩:=hx;unfold BIG WL at *;obtain⟨a,ha⟩:∃ a,a=r.acts[k]:=⟨_,rfl⟩;rw[<-ha] at hx1 hx2 hbad hgood hs N2 W2 T2 T3 hdef hdw;by_cases hnm:nm a.name=true
   ·have hnl:=QI hnm;rw[hnm] at N2;by_cases hwb:zx a.to=true
    ·have T2:=T2 hwb;have T3:=T3 hwb;rw[qE] at W2 T2;rw[hwb] at W2;have hg:=hgood (by rw[hdef,hnm,hwb];rfl);rw[hdw] at hs;by_cases hk0:k=0
     ·rw[if_pos hk0] at hs;have hk1:¬ 0<k:=by omega
      (have zz:=aI @Jh (aI @Qal.{0} (aI @yf @VZ));(repeat'(first|apply jc<;>intro _|simp(disch:=first|exact zq|fail) only[ja i4,ja i29,ja hi,ja hn,N2,W2,T2,c3,hk1,<-ha,Jh,sm9,jl0,Jh,Qal,yf,VZ,je,jj,jX,ji,jd,rzZ,Qab,Qac,Qad,Qaa,Qae]));all_goals clear zz)
      refine⟨⟨hg,?_⟩,?_⟩
      ·rw[hs];simp(disch:=decide) only[Qam,Qar,z0,z1,jf,jb,and_true,true_and,i29,QaY,Qay,QaF]
       (first|omega|(simp only[jg,jh,jt,jr,jl];first|done|omega))
      ·simp(disch:=decide) only[Qam,Qar,z0,z1,jf,jb,and_true,true_and,hi,hn]
     ·rw[if_neg hk0] at hs;have hk1:0<k:=by omega
      (have zz:=aI @Jh (aI @Qal.{0} (aI @yf @VZ));(repeat'(first|apply jc<;>intro _|simp(disch:=first|exact zq|fail) only[ja i4,ja i29,ja hi,ja hn,N2,W2,T2,c3,hk1,<-ha,Jh,sm9,jl0,Jh,Qal,yf,VZ,je,jj,jX,ji,jd,rzZ,Qab,Qac,Qad,Qaa,Qae]));all_goals clear zz)
      refine⟨⟨hg,?_⟩,?_⟩
      ·rw[hs];simp(disch:=decide) only[Qam,Qar,z0,z1,jf,jb,and_true,true_and,i29,QaY,Qay,QaF]
       (first|omega|(simp only[jg,jh,jt,jr,jl];first|done|omega))
      ·simp(disch:=decide) only[Qam,Qar,z0,z1,jf,jb,and_true,true_and,hi,hn]
    ·have hwf:zx a.to=false:=by simpa using hwb
     rw[qE] at W2;rw[hwf] at W2;have hb9:=hbad (by rw[hdef,hwf];simp)
     (have zz:=aI @Jh (aI @Qal.{0} (aI @yf @VZ));(repeat'(first|apply jc<;>intro _|simp(disch:=first|exact zq|fail) only[ja i4,ja i29,ja hi,ja hn,N2,W2,<-ha,Jh,Jh,Qal,yf,VZ,je,jj,jX,ji,jd,rzZ,Qab,Qac,Qad,Qaa,Qae]));all_goals clear zz)
     exact G0.tup2 (by rw[hb9];rfl)
   ·have hnf:nm a.name=false:=by simpa using hnm
    rw[hnf] at N2;have hb9:=hbad (by rw[hdef,hnf];rfl)
    (have zz:=aI @Jh (aI @Qal.{0} (aI @yf @VZ));(repeat'(first|apply jc<;>intro _|simp(disch:=first|exact zq|fail) only[ja i4,ja i29,ja hi,ja hn,N2,<-ha,Jh,Jh,Qal,yf,VZ,je,jj,jX,ji,jd,rzZ,Qab,Qac,Qad,Qaa,Qae]));all_goals clear zz)
    exact G0.tup2 (by rw[hb9];rfl)
  ·obtain⟨h0,i4,i29,n0⟩:=hI;rw[QaB] at h0 i4;have hjl:(JT (r.acts.map Xl)).length<=32 * (WL+2):=by
    have:=YD (n:=WL) (xs:=r.acts.map Xl) λx hx=>by
     obtain⟨a,ha,rfl⟩:=Qbp.1 hx;exact Ka (Qaz.1 h0 a ha) (h3 a ha).1
    rw[QaR] at this;have:=QaM (WL+2) l2;omega
   unfold WL at hjl
   (have zz:=@Qal.{0};(repeat'(first|apply jc<;>intro _|simp(disch:=first|exact zq|fail) only[ja i4,ja i29,Qal,je,jj,jX,ji,jd,rzZ,Qab,Qac,Qad,Qaa,Qae]));all_goals clear zz)
   exact G0.tup2 (by rw[J2,if_pos ⟨hw,l1,l2,h0⟩];simp only[jha,QaY,Qay,QaF])
 ·have hf:zx r.when=false:=by simpa using hw
  rw[hf] at WR;rw[qE] at WR;refine jF x57 (by rfl) (hb.pur 59 1 (by decide)) ?_;simp only[y57,ju,Qai,Qaj,Qag,Qah];rw[(by unfold z57;simp only[qq];rfl:z57=_)]
  (have zz:=@Qal.{0};(repeat'(first|apply jc<;>intro _|simp(disch:=first|exact zq|fail) only[WR,jbR,Qal,je,jj,jX,ji,jd,rzZ,Qab,Qac,Qad,Qaa,Qae]));all_goals clear zz)
  exact G0.tup2 (by rw[J2,if_neg (by rintro ⟨h6,_⟩;exact hw h6)];rfl)
def yE:List (Option (List Nat))->Option (List Nat)
 |[]=>some []
 |none :: _=>none
 |some a :: r=>(yE r).map (a ++ ·)
theorem jiV:∀ {xs:List (Option (List Nat))} {a b:List Nat},yE xs=some a->yE (xs ++ [some b])=some (a ++ b)
 |[],a,b,h=>by simp[yE] at h;subst h;simp[yE]
 |none :: r,a,b,h=>by simp[yE] at h
 |some c :: r,a,b,h=>by
  rw[yE] at h;cases hr:yE r with
  |none=>rw[hr] at h;simp at h
  |some d=>
   rw[hr] at h;simp at h;subst h;rw[Qay,yE,jiV hr];simp
theorem jiW:∀ {xs:List (Option (List Nat))},none∈xs->yE xs=none
 |[],h=>by simp at h
 |none :: r,_=>rfl
 |some c :: r,h=>by
  rw[yE,jiW (by simpa using h)];rfl
theorem QC {n:Nat}:∀ {xs:List (Option (List Nat))} {a:List Nat},(∀ l,some l∈xs->l.length<=n)->yE xs=some a->a.length<=xs.length * n
 |[],a,_,h=>by simp[yE] at h;subst h;simp
 |none :: r,a,_,h=>by simp[yE] at h
 |some c :: r,a,hl,h=>by
  rw[yE] at h;cases hr:yE r with
  |none=>rw[hr] at h;simp at h
  |some d=>
   rw[hr] at h;simp at h;subst h;have:=QC (xs:=r) (λl h=>hl l (by simp[h])) hr;have:=hl c (by simp);rw[Qal,show(some c :: r).length=r.length+1 from rfl,Qbw];omega
theorem uz {α:Type}{f:α->Option (List Nat)}{xs:List α}{k:Nat}(h:k<xs.length){a b:List Nat}(h1:yE ((xs.take k).map f)=some a)(h2:f xs[k]=some b):yE ((xs.take (k+1)).map f)=some (a ++ b):=by
 rw[yO h,QbO,Qai,Qaj,h2];exact jiV h1
theorem Vb {α:Type}{f:α->Option (List Nat)}{xs:List α}{k:Nat}(h:k<xs.length)(h2:f xs[k]=none):yE (xs.map f)=none:=jiW (by rw[<-h2];exact List.mem_map_of_mem (Qax h))
theorem V8 {e:EnumT}{l:List Nat}(h:QA e=some l):l.length<=2000:=by
 unfold QA at h;split at h
 ·rename_i hh;simp only[Option.some.injEq] at h;subst h;have:=QI hh.1;have:=YD (n:=32) (xs:=e.vals) λx hx=>QI (Qaz.1 hh.2.2.2 x hx);have:=QaM 34 hh.2.2.1;simp only[Qal,Qak,Qan];omega
 ·cases h
theorem jg8 {d:DeclT}{t:List Nat}(h:Qq d=some t):t.length<=32:=by
 unfold Qq at h;split at h
 ·split at h
  ·rename_i hh;simp only[Option.some.injEq] at h;subst h;obtain⟨e1,e2⟩:=hh;unfold ZL at e1 e2;simp only[Qaq,decide_eq_true_eq] at e1 e2;have l1:=vG e1.1 e1.2;have l2:=vG e2.1 e2.2;simp only[Qal,Qak,Qan];omega
  ·cases h
 ·split at h
  ·rename_i hh;simp only[Option.some.injEq] at h;subst h;rcases hh.2.2 with h|h
   ·rw[h];decide
   ·exact QI h
  ·cases h
theorem Uc {d:DeclT}{l:List Nat}(h:J3 d=some l)(h2:∀ x∈d.begins,szE x<=BIG):l.length<=WL:=by
 cases ht:Qq d with
 |none=>rw[GX ht] at h;cases h
 |some t=>
  rw[jeA ht] at h;have tl:=jg8 ht;split at h
  ·rename_i hh;simp only[Option.some.injEq] at h;subst h;have:=QI hh.2.1;have bl:(Zs d.begins).length<=16 * BIG+3:=by
    match hx:d.begins with
    |[]=>simp[Zs]
    |[x]=>
     rw[hx] at hh h2;have:=Ju x (zR (by simpa using hh.2.2));have:=h2 x (by simp);simp[Zs];omega
    |x :: y :: r=>rw[hx] at hh;simp at hh
   unfold BIG at bl;unfold WL;simp only[Qal,Qak,Qan];omega
  ·cases h
structure WrR (r:RuleT):Prop where
 when:szE r.when<=BIG
 acts:r.acts.length<=BIG
 to:∀ a∈r.acts,szE a.to<=BIG/\a.name.length<=BIG
structure WrS (m:SrcT):Prop where
 enums:m.enums.length<=BIG
 en:∀ e∈m.enums,e.name.length<=BIG/\e.vals.length<=BIG/\∀ v∈e.vals,v.length<=BIG
 vars:m.vars.length<=BIG
 de:∀ d∈m.vars,d.name.length<=BIG/\d.ty.length<=BIG/\d.begins.length<=BIG/\∀ x∈d.begins,szE x<=BIG
 procs:m.procs.length<=BIG
 pr:∀ p∈m.procs,p.name.length<=BIG/\p.rules.length<=BIG/\∀ r∈p.rules,WrR r
def RL:Nat:=33 * (WL+2)
theorem vZ {r:RuleT}{l:List Nat}(h:J2 r=some l)(w:WrR r):l.length<=RL:=by
 unfold J2 at h;split at h
 ·rename_i hh;simp only[Option.some.injEq] at h;subst h;have h1:=Ju r.when (zR hh.1);have h2:=w.when;have:=YD (n:=WL) (xs:=r.acts.map Xl) λx hx=>by
   obtain⟨a,ha,rfl⟩:=Qbp.1 hx;exact Ka (Qaz.1 hh.2.2.2 a ha) (w.to a ha).1
  rw[QaR] at this;have:=QaM (WL+2) hh.2.2.1;unfold RL;unfold BIG at h2;unfold WL at *;simp only[Qal,Qak,Qan];omega
 ·cases h
def QW (p:ProcT):Option (List Nat):=if nm p.name=true/\p.rules.length<=32 then(match yE (p.rules.map J2) with|some t=>some ([112,114,111,99,101,115,115,32] ++ p.name ++ [32,123,10] ++ t ++ [125,10])|none=>none) else none
def PRL:Nat:=33 * RL
theorem jhH {p:ProcT}{l:List Nat}(h:QW p=some l)(w:∀ r∈p.rules,WrR r):l.length<=PRL:=by
 unfold QW at h;split at h
 ·rename_i hh;cases hc:yE (p.rules.map J2) with
  |none=>rw[hc] at h;cases h
  |some t=>
   rw[hc] at h;simp only[Option.some.injEq] at h;subst h;have:=QI hh.1;have h3:=QC (n:=RL) (λl hl=>by
    obtain⟨r,hr,he⟩:=Qbp.1 hl;exact vZ he (w r hr)) hc
   rw[QaR] at h3;have:=QaM RL hh.2;unfold PRL;have:1000<=RL:=by unfold RL WL;omega
   simp only[Qal,Qak,Qan];omega
 ·cases h
def Qs (m:SrcT):Option (List Nat):=
 if m.enums.length<=32/\m.vars.length<=32/\m.procs.length<=32 then(match yE (m.enums.map QA),yE (m.vars.map J3),yE (m.procs.map QW) with
  |some a,some b,some c=>some (a ++ b ++ c)
  |_,_,_=>none) else none
theorem jpv {m:SrcT}(h:yE (m.enums.map QA)=none):Qs m=none:=by unfold Qs;rw[h];split<;>rfl
theorem jps {m:SrcT}(h:yE (m.vars.map J3)=none):Qs m=none:=by unfold Qs;rw[h];split<;>(try split)<;>first|rfl|(rename_i h2 _ _ _;simp at *)
theorem jpt {m:SrcT}(h:yE (m.procs.map QW)=none):Qs m=none:=by unfold Qs;rw[h];split<;>(try split)<;>first|rfl|(simp at *)
theorem jpu {m:SrcT}{a b c:List Nat}(h0:m.enums.length<=32/\m.vars.length<=32/\m.procs.length<=32)(h1:yE (m.enums.map QA)=some a)(h2:yE (m.vars.map J3)=some b)(h3:yE (m.procs.map QW)=some c):Qs m=some (a ++ b ++ c):=by
 unfold Qs;rw[if_pos h0,h1,h2,h3]
def jff (o:Option (List Nat)):AV:=.tup [.str (o.getD []),.int .i64 (if o.isSome=true then 0 else 141)]
theorem G0.tupw {s:St}{a:List Nat}{n:Int}{u:AV}(h:u=.tup [.str a,.int .i64 n]):G0 u (.tup [.str a,.int .i64 n]) s:=by
 subst h;exact FzD.tup (.cons (.pc rfl) (.cons (.pc rfl) .nil))
set_option maxHeartbeats 4000000 in
theorem jjb (hb:NB base)(m:SrcT)(w:WrS m):Tot base 35 [.agg (srE m)] (jff (Qs m)):=by
 refine hb.tot ?_ (by first|rfl|simp[pa,pc,qO,Q3,Wy,JV,Jy,jaJ,Kt]) rfl;have we:=w.enums;have wv:=w.vars;have wp:=w.procs;have c1:((32:Int)<(m.enums.length:Int))=(32<m.enums.length):=by rw[eq_iff_iff];omega
 have c2:((32:Int)<(m.vars.length:Int))=(32<m.vars.length):=by rw[eq_iff_iff];omega
 have c3:((32:Int)<(m.procs.length:Int))=(32<m.procs.length):=by rw[eq_iff_iff];omega
 unfold BIG at we wv wp;have hbad:∀ s:St,Qs m=none->G0 (jff (Qs m)) (.tup [.str [],.int .i64 141]) s:=λs h=>G0.tupw (by rw[h];rfl);refine jF x18 (by rfl) (hb.pur 35 1 (by decide)) ?_;simp only[y18,ju,Qai,Qaj,Qag,Qah];rw[(by unfold z18;simp only[qq];rfl:z18=_)];repeat'(first|apply jc<;>intro _|simp(disch:=first|exact dzE|fail) only[c1,c2,c3,je,jj,jX,ji,jd,qN,qM,rzZ,Qab,Qac,Qad,Qaa,Qae])
 ·exact hbad _ (by rw[Qs,if_neg (by omega)])
 ·exact hbad _ (by rw[Qs,if_neg (by omega)])
 ·exact hbad _ (by rw[Qs,if_neg (by omega)])
 have l1:m.enums.length<=32:=by omega
 have l2:m.vars.length<=32:=by omega
 have l3:m.procs.length<=32:=by omega
 clear c1 c2 c3;refine qp m.enums.length (λk L s=>∃ a,yE ((m.enums.take k).map QA)=some a/\Has L 1 (.ptr 0 0)/\Has L 4 (.str a)/\Has L 36 (.lst m.enums.length (fl enE m.enums))/\1<=s.nx/\Cl s 0 (srE m)) (by first|assumption|omega) (by decide) (by simp(disch:=decide) only[jf,jb]) (by simp(disch:=decide) only[jf,jb]) ?_ (λk L s v h=>by simp(disch:=decide) only[jb];exact h) (λk L s v h=>by simp(disch:=decide) only[jb];exact h) (λk L s hk hI hi hn=>?_) (λL s hI=>?_)
 ·refine⟨[],rfl,?_⟩;simp(disch:=decide) only[Qam,Qar,z0,z1,jf,jb,and_true,true_and];exact⟨by(first|omega|(simp only[jg,jh,jt,jr,jl];first|done|omega)),by first|exact Cl.new _ _|(first|exact cyE|fail)⟩
 ·obtain⟨a,ha,i1,i4,iL,n0,C0⟩:=hI;obtain⟨w1,w2,w3⟩:=w.en _ (Qax hk);have E:=jn5 hb m.enums[k] w1 w2 w3;have al:a.length<=32 * 2000:=by
   have:=QC (n:=2000) (λl hl=>by
    obtain⟨e,_,he⟩:=Qbp.1 hl;exact V8 he) ha
   rw[QaR,QaH] at this;have:=QaM 2000 (show min k m.enums.length<=32 by omega);omega
  have good:=λb=>@uz _ QA m.enums k hk a b ha;have bad:=@Vb _ QA m.enums k hk;have el:=@V8 m.enums[k];cases ho:QA m.enums[k] with
  |none=>
   rw[ho] at E;have E:Tot base 56 [.agg (enE m.enums[k])] (.tup [.str [],.bool false]):=E
   (have zz:=aI @Qal.{0} C0.r;(repeat'(first|apply jc<;>intro _|simp(disch:=first|exact zq|fail) only[ja i1,ja i4,ja iL,ja hi,ja hn,E,C0.q,Qal,C0.r,je,jj,jX,ji,jd,qN,qM,rzZ,Qab,Qac,Qad,Qaa,Qae]));all_goals clear zz)
   exact hbad _ (jpv (bad ho))
  |some b=>
   rw[ho] at E;have E:Tot base 56 [.agg (enE m.enums[k])] (.tup [.str b,.bool true]):=E;have bl:=el ho
   (have zz:=aI @Qal.{0} C0.r;(repeat'(first|apply jc<;>intro _|simp(disch:=first|exact zq|fail) only[ja i1,ja i4,ja iL,ja hi,ja hn,E,C0.q,Qal,C0.r,je,jj,jX,ji,jd,qN,qM,rzZ,Qab,Qac,Qad,Qaa,Qae]));all_goals clear zz)
   refine⟨⟨a ++ b,good b ho,?_⟩,?_⟩
   ·simp(disch:=decide) only[Qam,Qar,z0,z1,jf,jb,and_true,true_and,i1,iL];exact⟨by(first|omega|(simp only[jg,jh,jt,jr,jl];first|done|omega)),ckX⟩
   ·simp(disch:=decide) only[Qam,Qar,z0,z1,jf,jb,and_true,true_and,hi,hn]
 ·obtain⟨a,ha,i1,i4,iL,n0,C0⟩:=hI;rw[QaB] at ha;have al:a.length<=32 * 2000:=by
   have:=QC (n:=2000) (λl hl=>by
    obtain⟨e,_,he⟩:=Qbp.1 hl;exact V8 he) ha
   rw[QaR] at this;have:=QaM 2000 l1;omega
  (have zz:=C0.r;(repeat'(first|apply jc<;>intro _|simp(disch:=first|exact zq|fail) only[ja i1,ja i4,ja iL,C0.q,C0.r,je,jj,jX,ji,jd,qN,qM,rzZ,Qab,Qac,Qad,Qaa,Qae]));all_goals clear zz)
  refine qp m.vars.length (λk L s=>∃ b,yE ((m.vars.take k).map J3)=some b/\Has L 1 (.ptr 0 0)/\Has L 4 (.str (a ++ b))/\Has L 54 (.lst m.vars.length (fl qg m.vars))/\1<=s.nx/\Cl s 0 (srE m)) (by first|assumption|omega) (by decide) (by simp(disch:=decide) only[jf,jb]) (by simp(disch:=decide) only[jf,jb]) ?_ (λk L s v h=>by simp(disch:=decide) only[jb];exact h) (λk L s v h=>by simp(disch:=decide) only[jb];exact h) (λk L s hk hI hi hn=>?_) (λL s hI=>?_)
  ·refine⟨[],rfl,?_⟩;simp(disch:=decide) only[Qam,Qar,z0,z1,jf,jb,and_true,true_and,i1,i4,Qbk];exact⟨n0,C0⟩
  ·clear i1 i4 iL n0 C0;obtain⟨b,hb2,i1,i4,iL,n0,C0⟩:=hI;obtain⟨w1,w2,_,w3⟩:=w.de _ (Qax hk);have E:=jn6 hb m.vars[k] w1 w2 w3;have bl:b.length<=32 * WL:=by
    have:=QC (n:=WL) (λl hl=>by
     obtain⟨e,he1,he⟩:=Qbp.1 hl;exact Uc he (w.de e (QbY he1)).2.2.2) hb2
    rw[QaR,QaH] at this;have:=QaM WL (show min k m.vars.length<=32 by omega);omega
   have good:=λc=>@uz _ J3 m.vars k hk b c hb2;have bad:=@Vb _ J3 m.vars k hk;have el:=λl (h:J3 m.vars[k]=some l)=>Uc h w3;unfold WL at *;cases ho:J3 m.vars[k] with
   |none=>
    rw[ho] at E;have E:Tot base 57 [.agg (qg m.vars[k])] (.tup [.str [],.bool false]):=E
    (have zz:=aI @Qal.{0} C0.r;(repeat'(first|apply jc<;>intro _|simp(disch:=first|exact zq|fail) only[ja i1,ja i4,ja iL,ja hi,ja hn,E,C0.q,Qal,C0.r,je,jj,jX,ji,jd,qN,qM,rzZ,Qab,Qac,Qad,Qaa,Qae]));all_goals clear zz)
    exact hbad _ (jps (bad ho))
   |some c=>
    rw[ho] at E;have E:Tot base 57 [.agg (qg m.vars[k])] (.tup [.str c,.bool true]):=E;have cl:=el _ ho
    (have zz:=aI @Qal.{0} C0.r;(repeat'(first|apply jc<;>intro _|simp(disch:=first|exact zq|fail) only[ja i1,ja i4,ja iL,ja hi,ja hn,E,C0.q,Qal,C0.r,je,jj,jX,ji,jd,qN,qM,rzZ,Qab,Qac,Qad,Qaa,Qae]));all_goals clear zz)
    refine⟨⟨b ++ c,good c ho,?_⟩,?_⟩
    ·simp(disch:=decide) only[Qam,Qar,z0,z1,jf,jb,and_true,true_and,i1,iL,QaY];exact⟨by(first|omega|(simp only[jg,jh,jt,jr,jl];first|done|omega)),ckX⟩
    ·simp(disch:=decide) only[Qam,Qar,z0,z1,jf,jb,and_true,true_and,hi,hn]
  ·clear i1 i4 iL n0 C0;obtain⟨b,hb2,i1,i4,iL,n0,C0⟩:=hI;rw[QaB] at hb2;have bl:b.length<=32 * WL:=by
    have:=QC (n:=WL) (λl hl=>by
     obtain⟨e,he1,he⟩:=Qbp.1 hl;exact Uc he (w.de e he1).2.2.2) hb2
    rw[QaR] at this;have:=QaM WL l2;omega
   (have zz:=C0.r;(repeat'(first|apply jc<;>intro _|simp(disch:=first|exact zq|fail) only[ja i1,ja i4,ja iL,C0.q,C0.r,je,jj,jX,ji,jd,qN,qM,rzZ,Qab,Qac,Qad,Qaa,Qae]));all_goals clear zz)
   refine qp m.procs.length (λk L s=>∃ c,yE ((m.procs.take k).map QW)=some c/\Has L 1 (.ptr 0 0)/\Has L 4 (.str (a ++ b ++ c))/\Has L 72 (.lst m.procs.length (fl prE m.procs))/\1<=s.nx) (by first|assumption|omega) (by decide) (by simp(disch:=decide) only[jf,jb]) (by simp(disch:=decide) only[jf,jb]) ?_ (λk L s v h=>by simp(disch:=decide) only[jb];exact h) (λk L s v h=>by simp(disch:=decide) only[jb];exact h) (λko Lo so hko hIo hio hno=>?_) (λLo so hIo=>?_)
   ·refine⟨[],rfl,?_⟩;simp(disch:=decide) only[Qam,Qar,z0,z1,jf,jb,and_true,true_and,i1,i4,Qbk];exact n0
   ·clear i1 i4 iL n0 C0;obtain⟨c,hc,i1,i4,iL,n0⟩:=hIo;obtain⟨w1,w2,w3⟩:=w.pr _ (Qax hko);have NM:=Zt hb m.procs[ko].name (by unfold BIG at *;omega);have cl:c.length<=32 * PRL:=by
     have:=QC (n:=PRL) (λl hl=>by
      obtain⟨e,he1,he⟩:=Qbp.1 hl;exact jhH he (w.pr e (QbY he1)).2.2) hc
     rw[QaR,QaH] at this;have:=QaM PRL (show min ko m.procs.length<=32 by omega);omega
    have good:=λd=>@uz _ QW m.procs ko hko c d hc;have bad:=λh=>jpt (@Vb _ QW m.procs ko hko h);obtain⟨x,hx⟩:∃ x,x=m.procs[ko]:=⟨_,rfl⟩;rw[<-hx] at good bad w1 w2 w3 NM;have pb:QW x=none->∀ s:St,G0 (jff (Qs m)) (.tup [.str [],.int .i64 141]) s:=λh s=>hbad s (bad h);have c4:((32:Int)<(x.rules.length:Int))=(32<x.rules.length):=by rw[eq_iff_iff];omega
    have WLv:WL=17592186044516:=rfl;have RLv:RL=33 * (WL+2):=rfl;have PLv:PRL=33 * RL:=rfl;unfold BIG at w1 w2;by_cases hnm:nm x.name=true
    ·have hnl:=QI hnm;rw[hnm] at NM
     (have zz:=@Qal.{0};(repeat'(first|apply jc<;>intro _|simp(disch:=first|exact zq|fail) only[ja i1,ja i4,ja iL,ja hio,ja hno,NM,c4,<-hx,Qal,je,jj,jX,ji,jd,qN,qM,rzZ,Qab,Qac,Qad,Qaa,Qae]));all_goals clear zz)
     ·exact pb (by rw[QW,if_neg (by omega)]) _
     have l5:x.rules.length<=32:=by omega
     refine qp x.rules.length (λj L s=>∃ t,yE ((x.rules.take j).map J2)=some t/\Has L 1 (.ptr 0 0)/\Has L 4 (.str (a ++ b ++ c ++ ([112,114,111,99,101,115,115,32] ++ x.name ++ [32,123,10] ++ t)))/\Has L 72 (.lst m.procs.length (fl prE m.procs))/\Has L 73 (.int .i64 (m.procs.length:Int))/\Has L 74 (.int .i64 (ko:Int))/\Has L 95 (.lst x.rules.length (fl ruE x.rules))/\1<=s.nx) (by first|assumption|omega) (by decide) (by simp(disch:=decide) only[jf,jb]) (by simp(disch:=decide) only[jf,jb]) ?_ (λk L s v h=>by simp(disch:=decide) only[jb];exact h) (λk L s v h=>by simp(disch:=decide) only[jb];exact h) (λk L s hk hI hi hn=>?_) (λL s hI=>?_)
     ·refine⟨[],rfl,?_⟩;simp(disch:=decide) only[Qam,Qar,z0,z1,jf,jb,and_true,true_and,i1,i4,iL,hno,hio,Qbk,QaY,Qay,QaF]
      (first|omega|(simp only[jg,jh,jt,jr,jl];first|done|omega))
     ·clear i1 i4 iL n0 hio hno;obtain⟨t,ht,i1,i4,iL,hno,hio,i95,n0⟩:=hI;have wr:=w3 _ (Qax hk);have E:=jnX hb x.rules[k] wr.when wr.acts wr.to;have tl:t.length<=32 * RL:=by
       have:=QC (n:=RL) (λl hl=>by
        obtain⟨e,he1,he⟩:=Qbp.1 hl;exact vZ he (w3 e (QbY he1))) ht
       rw[QaR,QaH] at this;have:=QaM RL (show min k x.rules.length<=32 by omega);omega
      have good2:=λd=>@uz _ J2 x.rules k hk t d ht;have bad2:=@Vb _ J2 x.rules k hk;have el:=λl (h:J2 x.rules[k]=some l)=>vZ h wr;cases ho:J2 x.rules[k] with
      |none=>
       rw[ho] at E;have E:Tot base 59 [.agg (ruE x.rules[k])] (.tup [.str [],.bool false]):=E
       (have zz:=@Qal.{0};(repeat'(first|apply jc<;>intro _|simp(disch:=first|exact zq|fail) only[ja i1,ja i4,ja iL,ja i95,ja hi,ja hn,E,Qal,je,jj,jX,ji,jd,qN,qM,rzZ,Qab,Qac,Qad,Qaa,Qae]));all_goals clear zz)
       exact pb (by rw[QW,if_pos ⟨hnm,l5⟩,bad2 ho]) _
      |some d=>
       rw[ho] at E;have E:Tot base 59 [.agg (ruE x.rules[k])] (.tup [.str d,.bool true]):=E;have dl:=el _ ho
       (have zz:=@Qal.{0};(repeat'(first|apply jc<;>intro _|simp(disch:=first|exact zq|fail) only[ja i1,ja i4,ja iL,ja i95,ja hi,ja hn,E,Qal,je,jj,jX,ji,jd,qN,qM,rzZ,Qab,Qac,Qad,Qaa,Qae]));all_goals clear zz)
       refine⟨⟨t ++ d,good2 d ho,?_⟩,?_⟩
       ·simp(disch:=decide) only[Qam,Qar,z0,z1,jf,jb,and_true,true_and,i1,iL,hno,hio,i95,QaY,Qay,QaF]
        (first|omega|(simp only[jg,jh,jt,jr,jl];first|done|omega))
       ·simp(disch:=decide) only[Qam,Qar,z0,z1,jf,jb,and_true,true_and,hi,hn]
     ·clear i1 i4 iL n0 hio hno;obtain⟨t,ht,i1,i4,iL,hno,hio,i95,n0⟩:=hI;rw[QaB] at ht;have tl:t.length<=32 * RL:=by
       have:=QC (n:=RL) (λl hl=>by
        obtain⟨e,he1,he⟩:=Qbp.1 hl;exact vZ he (w3 e he1)) ht
       rw[QaR] at this;have:=QaM RL l5;omega
      have hpw:QW x=some ([112,114,111,99,101,115,115,32] ++ x.name ++ [32,123,10] ++ t ++ [125,10]):=by rw[QW,if_pos ⟨hnm,l5⟩,ht]
      (have zz:=@Qal.{0};(repeat'(first|apply jc<;>intro _|simp(disch:=first|exact zq|fail) only[ja i1,ja i4,ja iL,Qal,je,jj,jX,ji,jd,qN,qM,rzZ,Qab,Qac,Qad,Qaa,Qae]));all_goals clear zz)
      refine⟨⟨_,good _ hpw,?_⟩,?_⟩
      ·simp(disch:=decide) only[Qam,Qar,z0,z1,jf,jb,and_true,true_and,i1,iL,QaY,Qay,QaF]
       (first|omega|(simp only[jg,jh,jt,jr,jl];first|done|omega))
      ·simp(disch:=decide) only[Qam,Qar,z0,z1,jf,jb,and_true,true_and,hio,hno]
    ·have hnf:nm x.name=false:=by simpa using hnm
     rw[hnf] at NM
     (have zz:=@Qal.{0};(repeat'(first|apply jc<;>intro _|simp(disch:=first|exact zq|fail) only[ja i1,ja i4,ja iL,ja hio,ja hno,NM,<-hx,Qal,je,jj,jX,ji,jd,qN,qM,rzZ,Qab,Qac,Qad,Qaa,Qae]));all_goals clear zz)
     exact pb (by rw[QW,if_neg (by rintro ⟨h6,_⟩;exact hnm h6)]) _
   ·clear i1 i4 iL n0 C0;obtain⟨c,hc,i1,i4,iL,n0⟩:=hIo;rw[QaB] at hc;repeat'(first|apply jc<;>intro _|simp(disch:=first|exact dzE|fail) only[ja i1,ja i4,je,jj,jX,ji,jd,qN,qM,rzZ,Qab,Qac,Qad,Qaa,Qae])
    exact G0.tupw (by rw[jpu ⟨l1,l2,l3⟩ ha hb2 hc];rfl)
end Go.Sy
end
noncomputable section
set_option maxRecDepth 100000
namespace Go.Sy
open Go.Ev Go.Proofs
def z24:XC:=(ov [o8 4 [.nils,.nils,.nils],Tz 5,o8 6 [oB,oB,oB]] (oX [IY 13,Ox 14 52 13,oz 12 14,Tw 15 12,Tx 16 12,o8 7 [.nils,.nils,.nils],o8 8 [oB,oB,oB],o5 3 7 15,o5 3 8 16] (Ic [OO 17 8,oH 18 17,ow 19 (O7 .neq 18)] 19 (Lh [TF 20 [.nils,.nils,.nils] [],TF 21 OI [],T8 22 3 8 8 45,Ty 3 4 20 [(0,45)],Ty 6 5 21 [(1,45)],TU 3 6 22])) (oX [TZ 24 7,Ox 25 53 24,oz 23 25,Tw 26 23,Tx 27 23,o8 9 [.nils,.nils,.nils],o5 3 9 26,o5 3 8 27] (Ic [OO 28 8,oH 29 28,ow 30 (O7 .neq 29)] 30 (Lh [TF 31 [.nils,.nils,.nils] [],TF 32 OI [],T8 33 3 8 8 45,Ty 3 4 31 [(0,45)],Ty 6 5 32 [(1,45)],TU 3 6 33])) (oX [OY 35,Ox 36 54 35,oz 34 36,Tw 37 34,Tx 38 34,Tz 10,TV 10 37,o5 3 8 38] (Ic [OO 39 8,oH 40 39,ow 41 (O7 .neq 40)] 41 (Lh [TF 42 [.nils,.nils,.nils] [],TF 43 OI [],T8 44 3 8 8 45,Ty 3 4 42 [(0,45)],Ty 6 5 43 [(1,45)],TU 3 6 44])) (oX [TZ 46 9,O9 47 10,OA 48 55 46 47,oz 45 48,Tw 49 45,Tx 50 45,Tz 11,TV 11 49,o5 3 8 50] (Ic [OO 51 8,oH 52 51,ow 53 (O7 .neq 52)] 53 (Lh [TF 54 [.nils,.nils,.nils] [],TF 55 OI [],T8 56 3 8 8 45,Ty 3 4 54 [(0,45)],Ty 6 5 55 [(1,45)],TU 3 6 56])) (Lh [T8 57 3 9 9 35,T8 58 6 11 11 29,T8 59 3 8 8 45,Ty 3 4 57 [(0,45),(1,29)],Ty 6 5 58 [(1,45)],TU 3 6 59]))))))
def y24:XF:=⟨[0,1],z24,[(.cA 4 3),(.cA 5 6),(.cA 6 3)]⟩
theorem x24:jC Qaf 34=some y24:=by kernel_rfl
def z25:XC:=(O8 [TT 2,ID 3 1,Tz 4,o8 5 [oB,oB,oB]] [o3 (.defer (oQ 67 []) [5])] (oX [TZ 7 2,Iv 8 [.nils,.nils,.nils,.nilm,Tj] [((0,3),7),((4,1),Ih)],ol 9 (.box 8),oy 6 9] (.dops [Tq 10 6,T8 11 6 3 3 29,(Ix (Ip 12 75 [10,11,IR 2,.c oJ]) 0 [],some [OP 12,Ij (TZ 13 5) 5 45 [(0,0)],o9 (o3 (.i (.mv II))) 0,o9 (o3 (.i (.mv II))) 0]),ON 13 3 5 5 45 [(0,0)],Ty 6 4 12 [(0,45)],TU 3 5 13]) .ret))
def y25:XF:=⟨[0,1],z25,[(.cA 4 6),(.cA 5 3)]⟩
theorem x25:jC Qaf 55=some y25:=by kernel_rfl
def jeY:XC:=(Lh [Tq 65 4,IO (IQ 66 65),IX 67 0 66,T8 68 3 67 67 35,T8 69 3 3 3 45,Ty 3 2 68 [(0,45)],TU 3 3 69])
def jeZ:XC:=(.seq (T6 [Ld 38 1,Oh 39 38,IP 40 39,I0 41] 4 42 41 40 42 4 5 [Ik 43 4 39 41,oU 44 4 43,o8 10 [oJ,.nils,oB,oB],o5 4 10 44] (ov [TW 45,OO 46 10,oH 47 46,Ld 48 10,oH 49 48,Tl 50 10,oH 51 50,Ip 52 70 [45,47,49,51]] (T6 [Tv 53 10,Oh 54 53,IP 55 54,I0 56] 6 57 56 55 57 6 7 [Ik 58 7 54 56,oU 59 7 58,o8 12 [oB,oB,oJ,.nils,oB,oB,.nils],o5 7 12 59] (.ops [TW 60,oU 61 7 12,OA 62 71 60 61]) 63 56 56 63)) 64 41 41 64) jeY)
def je0:XC:=(.seq (T6 [Tv 27 1,Oh 28 27,IP 29 28,I0 30] 2 31 30 29 31 2 3 [Ik 32 7 28 30,oU 33 7 32,o8 8 [oJ,oJ,oB,oB,.nils,oB,oB],o5 7 8 33] (.ops [TW 34,oU 35 7 8,OA 36 69 34 35]) 37 30 30 37) jeZ)
def je1:XC:=(.seq (T6 [OO 16 1,Oh 17 16,IP 18 17,I0 19] 0 20 19 18 20 0 1 [Ik 21 4 17 19,oU 22 4 21,o8 6 [oJ,.nils,oB,oB],o5 4 6 22] (.ops [TW 23,oU 24 4 6,OA 25 68 23 24]) 26 19 19 26) je0)
def z26:XC:=(ov [TT 1,o8 2 [.nils,.nils,.nils],o8 3 [oB,oB,oB]] (O8 [o3 (.defer (oQ 67 []) [3])] [ol 13 .mkMap,Iv 14 [.nils,.nils,.nils,.nilm,Tj] [((3,1),13)],ol 15 (.box 14),TK 15] je1))
def y26:XF:=⟨[0],z26,[(.cA 2 3),(.cA 3 3)]⟩
theorem x26:jC Qaf 53=some y26:=by kernel_rfl
def z33:XC:=(ov [TT 1,I0 2] (OU [Ia 3 (.int .u64 1)] (T6 [OO 6 1,Oh 7 6,IP 8 7,I0 9] 0 10 9 8 10 0 1 [Ik 11 7 7 9,oU 12 7 11,o8 5 [oJ,oB,oJ,oB,oB,Tj,oB],o5 7 5 12] (.ops [oz 13 3,oE 14 4 5,oH 15 14,ol 16 (.cvt .u64 15),Tl 17 5,oH 18 17,ol 19 (.cvt .u64 18),IW 20 .sub 16 19,ol 21 (oI .add 20 (.int .u64 1)),IW 22 .mul 13 21,oy 3 22]) 23 9 9 23) [oz 24 3,ol 25 (.cvt .i64 24),Tp 25]))
def y33:XF:=⟨[0],z33,[(.t 2)]⟩
theorem x33:jC Qaf 36=some y33:=by kernel_rfl
def z60:XC:=(ov [ID 5 1,Tz 8] (OU [IY 12,O9 13 5,OA 14 103 12 13,oz 11 14,Tw 15 11,Tx 16 11,Tz 9,o8 10 [oB,oJ,oB,oB],TV 9 15,o5 4 10 16] (Oz [OO 17 10,oH 18 17,oz 19 2,IW 20 .neq 18 19,oz 21 20,Oo 22 21 1 10,Ov 23 21 22,IH 24 21 3,If 25 21 (.strb .neq 23 24),Lc 26 21 25] 26 [oE 27 4 5,oH 28 27,oE 29 5 5,oH 30 29,Ip 31 94 [IR 163,28,30]]) [O9 32 9,TV 8 32]))
def y60:XF:=⟨[0,1,2,3],z60,[(.cA 8 6)]⟩
theorem x60:jC Qaf 75=some y60:=by kernel_rfl
def z61:XC:=(ov [ID 3 1] (oX [IY 6,OO 7 3,oH 8 7,Ld 9 3,oH 10 9,Tl 11 3,oH 12 11,Ip 13 70 [6,8,10,12]] (T6 [Tv 14 3,Oh 15 14,IP 16 15,I0 17] 0 18 17 16 18 0 1 [Li 19 15 17,oH 20 19,oy 5 20] (.ops [IY 21,Lb 22,Ld 23 3,oH 24 23,Tl 25 3,oH 26 25,Ip 27 70 [21,22,24,26]]) 28 17 17 28) (.dops [IO (IY 29),IO (IY 30),IO (IQ 31 30),IX 32 0 31,IX 33 1 32,Ts 34 33 33 22,IX 35 0 3,Ts 36 35 35 9,IX 37 1 3,Ts 38 37 37 106,(TR 39 91 38 0 [(2,9),(4,22)],some [OP 39,o9 (Ld 40 3) 0,Ij (oH 41 40) 40 3 [(1,0)],o9 (Tl 42 3) 0,Ij (oH 43 42) 42 3 [(3,0)],OP 44,OP 45,OP 46,OP 47,OP 48,OP 49,o9 (o3 (.i (.mv II))) 0]),IX 40 2 3,Om 41 40 40 3 [(1,0)],IX 42 3 3,Om 43 42 42 3 [(3,0)],TF 44 [oJ,.nils,oB,oB] [((0,1),36),((1,1),39),((2,1),41),((3,1),43)],IO (Is 45 1 4 [oJ,.nils,oB,oB] [((0,4),44)]),I3 (Oq 46 4 56 34 45) 0 [],IO (IQ 47 29),IX 48 0 47,IX 49 1 48,TU 1 49 46])))
def y61:XF:=⟨[0,1],z61,[]⟩
theorem x61:jC Qaf 68=some y61:=by kernel_rfl
def jeW:XC:=(TN [La 139,La 140,IE (IQ 141 140),IE (OO 142 141),IE (OO 143 142),OQ 144 143,IE (oU 145 7 4),IE (Is 146 1 7 [oJ,oB,oJ,oB,oB,Tj,oB] [((0,7),145)]),IE (Oq 147 7 72 144 146),IE (IQ 148 139),IE (OO 149 148),IE (OO 150 149),IE (o5 1 150 147)] (Oz [IY 151,IQ 152 151,OO 153 152,TZ 154 153,Ox 155 36 154,O1 156 .gtr 155 281474976710656] 156 [oE 157 5 3,oH 158 157,oE 159 6 3,oH 160 159,Ip 161 94 [IR 165,158,160]]))
def jbh:XC:=(.seq (T6 [oE 92 4 3,Oh 93 92,IP 94 93,I0 95] 1 96 95 94 96 1 2 [Ik 97 6 93 95,O9 98 97,Tz 7,TV 7 98] (oX [IY 99,O9 100 7,Tv 101 4,oH 102 101,Ld 103 4,oH 104 103,Ip 105 75 [99,100,102,104],Tz 8,TV 8 105] (ov [O9 107 8,Ox 108 95 107,oz 106 108,Tw 109 106,Tx 110 106,Tz 9,TV 9 109,oy 10 110] (Oz [oy 111 10] 111 [oE 112 4 9,oH 113 112,oE 114 5 9,oH 115 114,Ip 116 94 [IR 161,113,115]])) (ov [O9 117 8,Ox 118 96 117,oE 119 5 4,o5 1 119 Ih,oE 120 6 4,o5 1 120 118] (Oz [oE 121 6 4,oH 122 121,Tl 123 4,oH 124 123,IW 125 .lss 122 124,oz 126 125,Oo 127 126 6 4,Ov 128 126 127,Oo 129 126 4 4,Ov 130 126 129,If 131 126 (.bin .gtr 128 130),Lc 132 126 131] 132 [oE 133 4 7,oH 134 133,oE 135 5 7,oH 136 135,Ip 137 94 [IR 164,134,136]]))) 138 95 95 138) jeW)
def z62:XC:=(ov [ID 3 1] (O8 [IY 11,OO 12 3,oH 13 12,oE 14 5 3,oH 15 14,oE 16 6 3,oH 17 16,Ip 18 70 [11,13,15,17]] [OO 19 3,oH 20 19,Ld 21 3,oH 22 21,Tl 23 3,oH 24 23,Iv 25 [oJ,oB,oJ,oB,oB,Tj,oB] [((0,1),20),((1,1),Tg),((3,1),22),((4,1),24)],o8 4 [oJ,oB,oJ,oB,oB,Tj,oB],o5 7 4 25] (oX [IY 26,IQ 27 26,OO 28 27,Tv 29 28,oH 30 29,ol 31 (.fn 93 [3]),OA 32 92 30 31,oy 5 32] (.block 0 (oK [Tv 34 3,oH 35 34,T5 36 35 [98,111,111,108],oy 33 36] 33 (.ops [Tv 37 4,o5 1 37 (IR 2),Tl 38 4,o5 1 38 OM,oE 39 4 4,o5 1 39 Tg]) (oK [Lb 41,ol 42 (O7 .geq 41),oy 40 42] 40 (.dops [IX 43 1 3,Ts 44 43 43 9,IO (IY 45),IO (IQ 46 45),IX 47 0 46,IX 48 1 47,Ts 49 48 48 22,Tq 50 5,IO (Ik 51 4 49 50),IX 52 1 51,Ts 53 52 52 106,IO (I4 54 53),IO (Ib 55 .sub 54 1),IX 56 1 4,Ty 1 56 (IR 3) [(3,106),(7,22),(12,9)],IX 57 2 4,Ty 1 57 44 [(5,106),(9,22)],IX 58 3 4,Ty 1 58 OM [(7,106),(11,22)],IX 59 4 4,TU 1 59 55]) (oK [Tv 61 3,oH 62 61,IG 63 .neq 62 (.c oJ),oy 60 63] 60 (.ops [oE 64 5 3,oH 65 64,oE 66 6 3,oH 67 66,Ip 68 94 [IR 161,65,67]]) (oK [Ld 70 3,oH 71 70,Tl 72 3,oH 73 72,IW 74 .gtr 71 73,oy 69 74] 69 (.ops [oE 75 5 3,oH 76 75,oE 77 6 3,oH 78 77,Ip 79 94 [IR 164,76,78]]) (Oz [Tl 81 3,oH 82 81,Ld 83 3,oH 84 83,IW 85 .sub 82 84,Ib 86 .geq 85 1024,oy 80 86] 80 [oE 87 5 3,oH 88 87,oE 89 6 3,oH 90 89,Ip 91 94 [IR 165,88,90]])))))) jbh)))
def y62:XF:=⟨[0,1],z62,[]⟩
theorem x62:jC Qaf 69=some y62:=by kernel_rfl
def z63:XC:=(.seq (Oz [IY 8,IQ 9 8,Tl 10 9,oH 11 10,OY 12,ol 13 (.look 89 11 12 false),ow 14 (O7 .gtr 13)] 14 [oz 15 2,oz 16 3,Ip 17 94 [IR 162,15,16]]) (.ops [IY 18,IQ 19 18,Tl 20 19,oH 21 20,OY 22,ol 23 (.look 89 21 22 false),TA 24 23 1,o3 (.i (.upd 89 21 22 24))]))
def y63:XF:=⟨[0,1,2,3],z63,[]⟩
theorem x63:jC Qaf 70=some y63:=by kernel_rfl
def jeU:XC:=(.cops [La 73,La 74,IE (IQ 75 74),IE (OO 76 75),IE (Ld 77 76),OQ 78 77,IE (oU 79 7 4),IE (Is 80 1 7 [oB,oB,oJ,.nils,oB,oB,.nils] [((0,7),79)]),IE (Oq 81 7 96 78 80),IE (IQ 82 73),IE (OO 83 82),IE (Ld 84 83),IE (o5 1 84 81)])
def jeV:XC:=(.seq (T6 [oE 13 6 3,Oh 14 13,IP 15 14,I0 16] 0 17 16 15 17 0 1 [oz 18 16,Ik 19 9 14 16,oU 20 9 19,o8 6 [oJ,oB,oB,oJ,.nils,oB,oB,oB,oB],oy 5 18,o5 9 6 20] (oX [IY 21,OO 22 6,oH 23 22,OA 24 97 21 23,oy 7 24] (Oz [oz 25 7,ow 26 (O7 .lss 25)] 26 [oE 27 7 6,oH 28 27,oE 29 8 6,oH 30 29,Ip 31 94 [IR 161,28,30]]) (.seq (Oz [oE 32 6 3,oH 33 32,Lb 34,ol 35 (.slS 9 33 none (some 34)),ol 36 (.fn 99 [6]),T4 37 (oQ 98 []) [35,36]] 37 [oE 38 7 6,oH 39 38,oE 40 8 6,oH 41 40,Ip 42 94 [IR 162,39,41]]) (.dops [IX 43 6 4,Ts 44 43 43 67,Tq 45 7,IO (IY 46),IX 47 1 6,T8 48 6 47 47 29,IO (IY 49),IO (IQ 50 49),IX 51 0 50,IX 52 0 51,Ts 53 52 52 32,Tq 54 7,IO (Ik 55 7 53 54),IX 56 1 55,Ts 57 56 56 3,IO (IY 58),IO (IQ 59 58),IX 60 0 59,IX 61 0 60,Ts 62 61 61 32,Tq 63 7,IO (Ik 64 7 62 63),IX 65 2 64,Ts 66 65 65 9,(Ix (Ip 67 75 [46,48,57,66]) 0 [(22,67)],OJ),TF 68 [oB,oB,oB,oJ,.nils,oB,oB] [((0,1),45),((1,6),67)],IO (Is 69 1 7 [oB,oB,oB,oJ,.nils,oB,oB] [((0,7),68)]),I3 (Oq 70 7 80 44 69) 0 [],IX 71 6 4,TU 1 71 70]))) 72 16 16 72) jeU)
def z64:XC:=(O8 [ID 3 1] [IY 8,OO 9 3,O9 10 9,Ip 11 75 [8,10,IR 2,.c oJ],Iv 12 [oB,oB,oJ,.nils,oB,oB,.nils] [((0,6),11)],o8 4 [oB,oB,oJ,.nils,oB,oB,.nils],o5 7 4 12] jeV)
def y64:XF:=⟨[0,1],z64,[]⟩
theorem x64:jC Qaf 71=some y64:=by kernel_rfl
def jeP:XC:=(.seq (Oz [oy 151 15] 151 [oE 152 4 3,oH 153 152,oE 154 5 3,oH 155 154,Ip 156 94 [IR 163,153,155]]) (T9 [oz 157 14,O1 158 .neq 157 1] 158 [O9 159 6,oz 160 14,Iv 161 [oB,oJ,oB,oB] [((0,1),160),((3,1),Tg)],TV 4 159,o5 4 5 161] (OU [OO 163 3,oH 164 163,oz 165 7,OA 166 134 164 165,oz 162 166,Tw 167 162,Tx 168 162,oy 18 167,oy 19 168] (Oz [oz 169 18,Ib 170 .lss 169 (-(99999999+1)),oz 171 170,IH 172 171 19,O6 173 171 .gtr 172 100000000,Lc 174 171 173] 174 [oE 175 4 3,oH 176 175,oE 177 5 3,oH 178 177,Ip 179 94 [IR 165,176,178]]) [O9 180 6,oz 181 14,oz 182 18,oz 183 19,Iv 184 [oB,oJ,oB,oB] [((0,1),181),((2,1),182),((3,1),183)],TV 4 180,o5 4 5 184])))
def jbf:XC:=(.seq (T6 [oy 115 7,IP 116 115,I0 117] 3 118 117 116 118 3 4 [Ik 119 4 115 117,oU 120 4 119,o8 17 [oB,oJ,oB,oB],o5 4 17 120] (.cops [TB 121 15,TB 122 121,IE (IH 123 122 13),IE (If 124 122 (O7 .gtr 123)),IE (IH 125 122 124),IE (Oy 126 125 0 17),IE (Ow 127 125 126),IE (IZ 128 125 13),IE (Ig 129 125 (.bin .neq 127 128)),IE (Lk 130 122 125 129 oW),IE (Tc 131 122 130),TB 132 131,IE (Oo 133 132 0 17),IE (Ov 134 132 133),IE (IH 135 132 7),IE (If 136 132 (.idxS 4 135 OM)),IE (Oo 137 132 0 136),IE (Ov 138 132 137),IE (If 139 132 (.bin .neq 134 138)),IE (Tc 140 132 139),TB 141 140,IE (Oo 142 141 1 17),IE (Ov 143 141 142),IE (IH 144 141 7),IE (If 145 141 (.idxS 4 144 OM)),IE (Oo 146 141 1 145),IE (Ov 147 141 146),IE (If 148 141 (.strb .neq 143 147)),IE (Tc 149 141 148),IE (oy 15 149)]) 150 117 117 150) jeP)
def jeQ:XC:=(ov [IY 85,oz 86 8,IQ 87 85,oE 88 4 87,o5 1 88 86] (O8 [OO 90 3,oH 91 90,Ox 92 132 91,oz 89 92,Tw 93 89,Tx 94 89,oy 13 93,oy 14 94] [oz 95 7,I4 96 95,ol 97 (TJ 96),oz 98 97,IH 99 98 7,TQ 100 98 99,O6 101 98 .gtr 100 2,Tc 102 98 101,oz 103 102,Oo 104 103 0 3,Ov 105 103 104,Lg 106 103 133 [105],IH 107 103 106,IZ 108 107 0,Ig 109 107 (.nilc 108),Oy 110 107 4 109,Ow 111 107 110,Ig 112 107 (IA 111),Lk 113 103 107 112 oW,Tc 114 103 113,oy 15 114] jbf))
def jbg:XC:=(.seq (T6 [Tl 61 3,Oh 62 61,IP 63 62,I0 64] 1 65 64 63 65 1 2 [Ik 66 6 62 64,O9 67 66,Tz 10,TV 10 67] (O8 [IY 69,O9 70 10,OA 71 103 69 70,oz 68 71,Tw 72 68,Tx 73 68,Tz 11,o8 12 [oB,oJ,oB,oB],TV 11 72,o5 4 12 73] [Tl 74 6,oH 75 74,O9 76 11,Is 77 1 6 OI [((0,6),76)],Oq 78 6 72 75 77,Tl 79 6,o5 1 79 78] (.ops [oz 80 7,oU 81 4 12,Is 82 1 4 [oB,oJ,oB,oB] [((0,4),81)],Oq 83 4 40 80 82,oy 7 83])) 84 64 64 84) jeQ)
def jeR:XC:=(ov [O9 41 3,Tz 6,TV 6 41] (O8 [Tl 42 6,o5 1 42 (.c .nils)] [O5 7] (O8 [IY 43,IQ 44 43,oE 45 4 44,oH 46 45,oy 8 46] [IY 47,oz 48 8,oz 49 48,Oy 50 49 0 3,Ow 51 49 50,Td 52 49 .neq 51 17,Tb 53 49 52,oz 54 53,Oy 55 54 0 3,Ow 56 54 55,Td 57 54 .neq 56 18,Tb 58 54 57,IQ 59 47,oE 60 4 59,o5 1 60 58] jbg)))
def ZV:XC:=(.seq (T7 [OO 20 3,Oh 21 20] 0 (Oi 23 21 1 22 23 22 (Lh [T8 24 6 3 3 29,IX 25 1 3,Ts 26 25 25 2,IX 27 1 3,Ts 28 27 27 2,TF 29 [oB,oJ,oB,oB] [((0,1),Tg),((2,1),26),((3,1),28)],Ty 6 4 24 [(1,2),(3,2)],TU 4 5 29]) (Te 31 21 2 30 31 30 [O9 32 3,Iv 33 [oB,oJ,oB,oB] [((0,1),IR 2),((3,1),Tg)],TV 4 32,o5 4 5 33] (Iy (IV 35 21 3 34 35) 34 [IY 36,O9 37 3,OA 38 131 36 37,Tw 39 38,Tx 40 38,TV 4 39,o5 4 5 40])))) jeR)
def z97:XC:=(ov [ID 3 1,Tz 4,o8 5 [oB,oJ,oB,oB]] ZV)
def y97:XF:=⟨[0,1],z97,[(.cA 4 6),(.cA 5 4)]⟩
theorem x97:jC Qaf 103=some y97:=by kernel_rfl
def z98:XC:=(.ops [IY 6,OY 7,oz 8 2,Iv 9 [oB,oB,oB] [((0,1),6),((1,1),7),((2,1),8)],ol 10 (.iface 45 9),o3 (.pan 10)])
def y98:XF:=⟨[0,1,2],z98,[]⟩
theorem x98:jC Qaf 94=some y98:=by kernel_rfl
def z99:XC:=(Oe [O5 2] [IY 3,ow 4 (.gen .eql 106 true 3 (.c .nils))] 4 [O5 2] (o4 [TI 5 0 oJ [],IY 6,Oq 7 1 16 5 6,Tp 7]))
def y99:XF:=⟨[0],z99,[(.t 2)]⟩
theorem x99:jC Qaf 91=some y99:=by kernel_rfl
def jka:XC:=(OU [I0 4] (T6 [IY 6,IP 7 6,I0 8] 0 9 8 7 9 0 1 (Tf 10 8 5 10) (Iy [OY 11,IY 12,Lb 13,Ik 14 4 12 13,oU 15 4 14,T4 16 11 [15]] 16 (Tf 17 5 4 17)) 18 8 8 18) [OZ 4 (-(0+1))])
def joZ:XF:=⟨[0,1],jka,[(.t 4)]⟩
theorem js6:jC Qaf 92=some joZ:=by kernel_rfl
def jj9:XC:=(OK (T0 2 3) [OO 4 2,oH 5 4,Tv 6 1,oH 7 6,Tr 8 5 7,oy 3 8])
def joY:XF:=⟨[0,1],jj9,[(.t 3)]⟩
theorem js5:jC Qaf 93=some joY:=by kernel_rfl
def jj8:XC:=(Oe [TT 1,Tz 2,Ol 3] [OO 8 1,oH 9 8,O1 10 .eql 9 4] 10 [O9 11 1,TV 2 11,Ta 3] (OW (T6 [Tl 12 1,Oh 13 12,IP 14 13,I0 15] 0 16 15 14 16 0 1 [Ik 17 6 13 15,O9 18 17,Tz 5,TV 5 18] (ov [O9 20 5,Ox 21 95 20,oz 19 21,Tw 22 19,Tx 23 19,Tz 6,TV 6 22,oy 7 23] (Iy [oy 24 7] 24 [O9 25 6,TV 2 25,Ta 3])) 26 15 15 26) [O9 27 1,TV 2 27,Ol 3]))
def joX:XF:=⟨[0],jj8,[(.cA 2 6),(.t 3)]⟩
theorem js4:jC Qaf 95=some joX:=by kernel_rfl
def jj7:XC:=(ov [TT 1,I0 2] (oX [o8 3 [oB,oB]] (T6 [Tl 7 1,Oh 8 7,IP 9 8,I0 10] 0 11 10 9 11 0 1 [oz 12 10,Ik 13 6 8 10,O9 14 13,Tz 5,TK 12,TV 5 14] (.ops [TW 15,O9 16 5,Ox 17 96 16,OL 18 2 1 3 15,o5 1 18 17]) 19 10 10 19) (OU [oy 6 (oQ 124 [])] (T7 [OO 20 1,Oh 21 20] 2 (Oi 23 21 4 22 23 22 (.ops [oE 24 4 1,oH 25 24,oE 26 5 1,oH 27 26,Ip 28 94 [IR 161,25,27]]) (Te 30 21 5 29 30 29 [OL 31 2 1 3 OM,oH 32 31,ol 33 (.un .neg 32),Tp 33] (Te 35 21 6 34 35 34 [OL 36 2 1 3 OM,oH 37 36,IW 38 .sub Tg 37,Tp 38] (Te 40 21 14 39 40 39 [OL 41 2 1 3 OM,oH 42 41,OL 43 2 1 3 Tg,oH 44 43,IW 45 .mul 42 44,Tp 45] (Te 47 21 15 46 47 46 [OL 48 2 1 3 OM,oH 49 48,OL 50 2 1 3 Tg,oH 51 50,IW 52 .add 49 51,Tp 52] (Te 54 21 16 53 54 53 [OL 55 2 1 3 OM,oH 56 55,OL 57 2 1 3 Tg,oH 58 57,IW 59 .sub 56 58,Tp 59] (.seq (Tt 61 21 17 60 61 60 (.ops (IV 62 21 30 60 62))) (Ti 60 [TY 63,OL 64 2 1 3 OM,oH 65 64,OL 66 2 1 3 Tg,oH 67 66,IW 68 .eql 65 67,oS 69 none 63 [68],Tp 69] (Te 71 21 18 70 71 70 [TY 72,OL 73 2 1 3 OM,oH 74 73,OL 75 2 1 3 Tg,oH 76 75,IW 77 .neq 74 76,oS 78 none 72 [77],Tp 78] (Te 80 21 19 79 80 79 [TY 81,OL 82 2 1 3 OM,oH 83 82,OL 84 2 1 3 Tg,oH 85 84,IW 86 .lss 83 85,oS 87 none 81 [86],Tp 87] (.seq (Tt 89 21 20 88 89 88 (.ops (IV 90 21 29 88 90))) (Ti 88 [TY 91,OL 92 2 1 3 OM,oH 93 92,OL 94 2 1 3 Tg,oH 95 94,IW 96 .leq 93 95,oS 97 none 91 [96],Tp 97] (Te 99 21 21 98 99 98 [TY 100,OL 101 2 1 3 OM,oH 102 101,OL 103 2 1 3 Tg,oH 104 103,IW 105 .gtr 102 104,oS 106 none 100 [105],Tp 106] (Te 108 21 22 107 108 107 [TY 109,OL 110 2 1 3 OM,oH 111 110,OL 112 2 1 3 Tg,oH 113 112,IW 114 .geq 111 113,oS 115 none 109 [114],Tp 115] (Te 117 21 27 116 117 116 [OL 118 2 1 3 OM,oH 119 118,OL 120 2 1 3 Tg,oH 121 120,IW 122 .mul 119 121,Tp 122] (Iy (IV 124 21 28 123 124) 123 [OL 125 2 1 3 OM,oH 126 125,OL 127 2 1 3 Tg,oH 128 127,ol 129 (.bi .max #[2,2] [126,128]),Tp 129]))))))))))))))))) [Tv 130 1,oH 131 130,Tp 131])))
def joW:XF:=⟨[0],jj7,[(.t 2)]⟩
theorem js3:jC Qaf 96=some joW:=by kernel_rfl
def jj6:XC:=(OK [ID 3 1,I0 4] [IY 5,IQ 6 5,OO 7 6,OO 8 7,oH 9 8,ol 10 (.fn 126 [3]),OA 11 125 9 10,TK 11])
def joV:XF:=⟨[0,1],jj6,[(.t 4)]⟩
theorem js2:jC Qaf 97=some joV:=by kernel_rfl
def jj5:XC:=(OK Tu [IY 5,OY 6,OA 7 127 5 6,ol 8 (O7 .geq 7),TK 8])
def joU:XF:=⟨[0,1],jj5,[(.t 4)]⟩
theorem js1:jC Qaf 98=some joU:=by kernel_rfl
def jj4:XC:=(OK (T0 2 3) [OO 4 2,oH 5 4,OO 6 1,oH 7 6,Tr 8 5 7,oy 3 8])
def joT:XF:=⟨[0,1],jj4,[(.t 3)]⟩
theorem js0:jC Qaf 99=some joT:=by kernel_rfl
def kn:XC:=(oX [ID 3 1,Tz 4,o8 5 [oB,oJ,oB,oB]] (ov [IY 10,Ld 11 3,oH 12 11,OA 13 97 10 12,oy 6 13] (Ic [TY 14,ow 15 (O7 .geq 14)] 15 (oX [IY 16,IQ 17 16,OO 18 17,OO 19 18,oH 20 19,TY 21,Ik 22 7 20 21,oU 23 7 22,o8 7 [oJ,oB,oJ,oB,oB,Tj,oB],o5 7 7 23] (.dops [Tq 24 6,IX 25 4 3,Ts 26 25 25 3,IX 27 5 3,Ts 28 27 27 3,TF 29 OI [((0,1),IR 4),((1,1),24),((4,1),26),((5,1),28)],IX 30 1 7,Ts 31 30 30 3,IX 32 2 7,Ts 33 32 32 9,IX 34 3 7,Ts 35 34 34 2,IX 36 4 7,Ts 37 36 36 2,TF 38 [oB,oJ,oB,oB] [((0,1),31),((1,1),33),((2,1),35),((3,1),37)],Ty 6 4 29 [(1,2),(3,2),(5,9),(7,3)],TU 4 5 38]) .ret))) (OU [IY 40,Ld 41 3,oH 42 41,OA 43 152 40 42,oz 39 43,Tw 44 39,Tx 45 39,oy 8 44,oy 9 45] (Oz [oz 46 9,ow 47 (O7 .lss 46)] 47 [oE 48 4 3,oH 49 48,oE 50 5 3,oH 51 50,Ip 52 94 [IR 161,49,51]]) [oz 53 9,oE 54 4 3,oH 55 54,oE 56 5 3,oH 57 56,Iv 58 OI [((0,1),Tg),((1,1),53),((4,1),55),((5,1),57)],oz 59 8,oz 60 9,oz 61 9,Iv 62 [oB,oJ,oB,oB] [((0,1),IR 3),((1,1),59),((2,1),60),((3,1),61)],TV 4 58,o5 4 5 62]))
def je3:XF:=⟨[0,1],kn,[(.cA 4 6),(.cA 5 4)]⟩
theorem jkg:jC Qaf 131=some je3:=by kernel_rfl
def jjP:XC:=(OU [I0 2,I0 3] (T7 [TK 0] 0 (.seq (Tt 6 4 5 5 6 5 (Tt 7 4 14 5 7 5 (Tt 8 4 15 5 8 5 (.ops (IV 9 4 16 5 9))))) (Ti 5 [OZ 2 1,OZ 3 1] (.seq (Tt 11 4 19 10 11 10 (Tt 12 4 20 10 12 10 (Tt 13 4 21 10 13 10 (.ops (IV 14 4 22 10 14))))) (Ti 10 [OZ 2 1,OZ 3 2] (.seq (Tt 16 4 17 15 16 15 (.ops (IV 17 4 18 15 17))) (Ti 15 [I0 2,OZ 3 2] .skip))))))) [OZ 2 2,OZ 3 2])
def joE:XF:=⟨[0],jjP,[(.t 2),(.t 3)]⟩
theorem jsL:jC Qaf 132=some joE:=by kernel_rfl
def jjO:XC:=(OK Lj [IY 3,Ib 4 .geq 3 7,TW 5,IZ 6 5 0,Td 7 5 .leq 6 13,Tb 8 5 7,oz 9 8,IH 10 9 0,O6 11 9 .geq 10 23,IH 12 9 11,IZ 13 12 0,Td 14 12 .leq 13 26,Lk 15 9 12 14 oW,Tc 16 9 15,Tp 16])
def joD:XF:=⟨[0],jjO,[(.t 2)]⟩
theorem jsK:jC Qaf 133=some joD:=by kernel_rfl
def jjN:XC:=(O8 [I0 4,I0 5] [OY 8,Ik 9 4 8 OM,oU 10 4 9,o8 6 [oB,oJ,oB,oB],o5 4 6 10] (OU [OY 11,OY 12,I4 13 12,Ib 14 .sub 13 1,Ik 15 4 11 14,oU 16 4 15,o8 7 [oB,oJ,oB,oB],o5 4 7 16] (T7 [oy 17 0] 0 (Te 19 17 5 18 19 18 [Ld 20 6,oH 21 20,ol 22 (.un .neg 21),Tl 23 6,oH 24 23,ol 25 (.un .neg 24),TI 26 2 oB [((0,1),22),((1,1),25)],Ox 27 153 26,Tw 28 27,Tx 29 27,TK 28,oy 5 29] (Te 31 17 15 30 31 30 [Ld 32 6,oH 33 32,Ld 34 7,oH 35 34,IW 36 .add 33 35,Tl 37 6,oH 38 37,Tl 39 7,oH 40 39,IW 41 .add 38 40,TI 42 2 oB [((0,1),36),((1,1),41)],Ox 43 153 42,Tw 44 43,Tx 45 43,TK 44,oy 5 45] (Iy (IV 47 17 16 46 47) 46 [Ld 48 6,oH 49 48,Tl 50 7,oH 51 50,IW 52 .sub 49 51,Tl 53 6,oH 54 53,Ld 55 7,oH 56 55,IW 57 .sub 54 56,TI 58 2 oB [((0,1),52),((1,1),57)],Ox 59 153 58,Tw 60 59,Tx 61 59,TK 60,oy 5 61])))) [Ld 62 6,oH 63 62,Ld 64 7,oH 65 64,IW 66 .mul 63 65,Ld 67 6,oH 68 67,Tl 69 7,oH 70 69,IW 71 .mul 68 70,Tl 72 6,oH 73 72,Ld 74 7,oH 75 74,IW 76 .mul 73 75,Tl 77 6,oH 78 77,Tl 79 7,oH 80 79,IW 81 .mul 78 80,TI 82 4 oB [((0,1),66),((1,1),71),((2,1),76),((3,1),81)],Ox 83 153 82,Tw 84 83,Tx 85 83,TK 84,oy 5 85]))
def joC:XF:=⟨[0,1],jjN,[(.t 4),(.t 5)]⟩
theorem jsJ:jC Qaf 134=some joC:=by kernel_rfl
def jjM:XC:=(Oe [I0 2] [oy 3 0] 3 [OZ 2 1] (o4 [I0 2]))
def joB:XF:=⟨[0],jjM,[(.t 2)]⟩
theorem jsI:jC Qaf 124=some joB:=by kernel_rfl
def jjL:XC:=(OU [I0 4] (T6 [IY 6,IP 7 6,I0 8] 0 9 8 7 9 0 1 (Tf 10 8 5 10) (Iy [OY 11,IY 12,Lb 13,Ik 14 7 12 13,oU 15 7 14,T4 16 11 [15]] 16 (Tf 17 5 4 17)) 18 8 8 18) [OZ 4 (-(0+1))])
def joA:XF:=⟨[0,1],jjL,[(.t 4)]⟩
theorem jsH:jC Qaf 125=some joA:=by kernel_rfl
def jjK:XC:=(OK (T0 2 3) [OO 4 2,oH 5 4,oH 6 1,Tr 7 5 6,oy 3 7])
def joz:XF:=⟨[0,1],jjK,[(.t 3)]⟩
theorem jsG:jC Qaf 126=some joz:=by kernel_rfl
def je2:XC:=(OU [I0 4] (T6 [IY 6,IP 7 6,I0 8] 0 9 8 7 9 0 1 (Tf 10 8 5 10) (Iy [OY 11,IY 12,Lb 13,Ik 14 9 12 13,oU 15 9 14,T4 16 11 [15]] 16 (Tf 17 5 4 17)) 18 8 8 18) [OZ 4 (-(0+1))])
def joy:XF:=⟨[0,1],je2,[(.t 4)]⟩
theorem jsF:jC Qaf 127=some joy:=by kernel_rfl
def jjA:XC:=(OU [Ia 4 oJ,I0 5] (T6 [IY 9,IQ 10 9,OO 11 10,Tv 12 11,Oh 13 12,IP 14 13,I0 15] 0 16 15 14 16 0 1 [Ik 17 4 13 15,oU 18 4 17,o8 7 [oJ,.nils,oB,oB],o5 4 7 18] (ov [Tv 19 7,oH 20 19,OY 21,OA 22 164 20 21,oy 8 22] (Iy [oz 23 8,ow 24 (O7 .geq 23)] 24 [OO 25 7,oH 26 25,oz 27 8,TK 26,oy 5 27])) 28 15 15 28) [Ia 4 oJ,OZ 5 (-(0+1))])
def joo:XF:=⟨[0,1],jjA,[(.t 4),(.t 5)]⟩
theorem jsv:jC Qaf 152=some joo:=by kernel_rfl
def jjz:XC:=(OK [I0 2,I0 3] [IY 4,Ox 5 167 4,IY 6,Ox 7 168 6,Tp 5,oy 3 7])
def jon:XF:=⟨[0],jjz,[(.t 2),(.t 3)]⟩
theorem jsu:jC Qaf 153=some jon:=by kernel_rfl
def jjv:XC:=(oX [I0 2] (Oz [IY 5,I4 6 5,O1 7 .lss 6 1] 7 [ol 8 (.iface 9 (o7 [115,108,105,99,101,115,46,77,105,110,58,32,101,109,112,116,121,32,108,105,115,116])),o3 (.pan 8)]) (OU [IY 9,Li 10 9 OM,oH 11 10,oy 3 11] (IU [OZ 4 1] 0 (.seq (O4 [TW 12,IY 13,I4 14 13,I5 15 12 14] 15 (.exit 0)) (Iz 1 (.ops [oz 18 3,IY 19,TW 20,Li 21 19 20,oH 22 21,ol 23 (.bi .min #[2,2] [18,22]),oy 3 23]) [TW 16,TA 17 16 1,TK 17]))) (Tf 24 3 2 24)))
def joj:XF:=⟨[0],jjv,[(.t 2)]⟩
theorem jsq:jC Qaf 167=some joj:=by kernel_rfl
def jju:XC:=(oX [I0 2] (Oz [IY 5,I4 6 5,O1 7 .lss 6 1] 7 [ol 8 (.iface 9 (o7 [115,108,105,99,101,115,46,77,97,120,58,32,101,109,112,116,121,32,108,105,115,116])),o3 (.pan 8)]) (OU [IY 9,Li 10 9 OM,oH 11 10,oy 3 11] (IU [OZ 4 1] 0 (.seq (O4 [TW 12,IY 13,I4 14 13,I5 15 12 14] 15 (.exit 0)) (Iz 1 (.ops [oz 18 3,IY 19,TW 20,Li 21 19 20,oH 22 21,ol 23 (.bi .max #[2,2] [18,22]),oy 3 23]) [TW 16,TA 17 16 1,TK 17]))) (Tf 24 3 2 24)))
def joi:XF:=⟨[0],jju,[(.t 2)]⟩
theorem jsp:jC Qaf 168=some joi:=by kernel_rfl
theorem jo1:jaX Qaf 67=some hY:=by kernel_rfl
end Go.Sy
end
noncomputable section
namespace Go.Sy
open Go.Ev Go.RowKit
def frW (w:World):Inj:=⟨λ_=>.unborn,λB=>match w.heap[B]? with|some (.cells c _ _)=>some c.toList|_=>none⟩
theorem jr2 {w:World}{B:Nat}{vs:List Value}(h:(frW w).g B=some vs):∃ c e f,w.heap[B]? = some (.cells c e f)/\c.toList=vs:=by
 unfold frW at h;dsimp only at h;split at h
 ·rename_i c e f hc;exact⟨c,e,f,hc,by simpa using h⟩
 ·cases h
theorem jqn {w:World}{B:Nat}{c:Array Value}{e:TypeId}{f:Nat×Nat}(h:w.heap[B]? = some (.cells c e f)):(frW w).g B=some c.toList:=by
 unfold frW;dsimp only;rw[h]
theorem jna {w:World}(hg:∃ te pe,w.cell? ⟨2,0,none⟩=some (.iface te pe)):Sim (frW w) st0.h st0.nx w:=
 ⟨λb B S e=>(by cases e),λb e=>(by cases e),λb b' B S S' e=>(by cases e),λb e=>absurd rfl e,⟨hg,λb S e=>by cases e⟩,λB vs h=>by
  obtain⟨c,e,f,h1,h2⟩:=jr2 h;exact⟨⟨c,e,f.1,f.2,h1,h2,trivial⟩,λb S e=>by cases e⟩⟩
section
variable {H:Type} {enc:TypeId×Value->H} {P:Program} {w:World} {base:Nat} {sp:Nat->Bool} {held:Bool}
mutual
def bulkD:DataW H->Nat
 |.lit (.string bytes)=>bytes.length+1
 |.lit _=>1
 |.nil=>1
 |.ptr d=>bulkD d+1
 |.slice elems spare=>bulkDs elems+bulkDs spare+1
 |.agg parts=>bulkDs parts+1
 |.iface _ d=>bulkD d+1
 |.map entries=>1
 |.held _=>1
def bulkDs:List (DataW H)->Nat
 |[]=>0
 |d :: r=>bulkD d+bulkDs r
end
def Reads (H:Type)(P:Program)(w:World)(N:Nat)(t:TypeId){α:Type}(z:Nat)(en:α->List AV)(sz:α->Nat):Prop:=
 P.cellsOf t=z/\(∀ x,(en x).length=z)/\∀ (enc:TypeId×Value->H) (base:Nat) (sp:Nat->Bool) (held:Bool) (fuel:Nat) (cs:List Value) (d:DataW H) (ps:List MemPlace),fuel<=N->DataW.trod enc P w base sp held fuel t cs=some (d,ps)->∃ x:α,VRs (frW w) (en x) cs/\(en x).all AV.cell=true/\sz x<=bulkD d
def jcp (k:IntKind)(n:{n:Int // (Lit.int k n).wf=true}):List AV:=[.int k n.1]
theorem JE {N:Nat}{t:TypeId}{k:IntKind}(hu:P.underlying t=some (.int k))(hc:P.cellsOf t=1):Reads H P w N t 1 (jcp k) (λ_=>1):=
 ⟨hc,λ_=>rfl,λenc base sp held fuel cs d ps hN h=>by
  obtain⟨n,rfl,hx,hw⟩:=DataW.trod_int hu h;cases hx;exact⟨⟨n,hw⟩,⟨_,_,rfl,rfl,rfl⟩,rfl,Qao _⟩⟩
theorem vn {N:Nat}{t:TypeId}(hu:P.underlying t=some .string)(hc:P.cellsOf t=1):Reads H P w N t 1 (λs:List Nat=>[.str s]) (λs=>s.length+1):=
 ⟨hc,λ_=>rfl,λenc base sp held fuel cs d ps hN h=>by
  obtain⟨s,rfl,hx,hm⟩:=DataW.trod_string hu h;cases hx;refine⟨s.data.toList.map UInt8.toNat,⟨_,_,rfl,⟨s,rfl,rfl⟩,rfl⟩,rfl,?_⟩;show(s.data.toList.map UInt8.toNat).length+1<=_;rw[bulkD,QaR];exact Qao _⟩
theorem jeE {w:World}{a:Addr}{v:Value}(h:w.cell? a=some v):a.spot=none/\∃ c e f,w.heap[a.block]? = some (.cells c e f)/\c[a.off]? = some v:=by
 unfold World.cell? at h;split at h
 ·rename_i c e f hc;split at h
  ·cases h
  ·rename_i hs;exact⟨by simpa using hs,c,e,f,hc,h⟩
 ·cases h
theorem jcQ {w:World}{base:Nat}{a:Addr}{n:Nat}{cs:List Value}(h:w.cells? base a n=some cs):cs.length=n/\∀ i,i<n->w.cell? (a.add i)=some (cs.getD i undef):=by
 unfold World.cells? at h;split at h
 ·refine⟨by simpa using mapM_some_length h,λi hi=>?_⟩;have:=mapM_some_get h i i (by simp[hi]);rw[this];have hl:cs.length=n:=by simpa using mapM_some_length h
  simp[QaJ,show i<cs.length by omega]
 ·cases h
theorem jc8 (b o n:Nat):(Addr.add ⟨b,o,none⟩ n)=⟨b,o+n,none⟩:=by
 unfold Addr.add;split
 ·rename_i h;subst h;rfl
 ·rfl
theorem Qu {N:Nat}{α:Type}{t e:TypeId}{z:Nat}{en:α->List AV}{sz:α->Nat}(hz0:0<z)(hu:P.underlying t=some (.slice e))(hc:P.cellsOf t=1)(R:Reads H P w N e z en sz)(hpos:∀ x,1<=sz x) :
  Reads H P w (N+1) t 1 (λxs:List α=>[.lst xs.length (fl en xs)]) (λxs=>(xs.map sz).sum+1):=
 ⟨hc,λ_=>rfl,λenc base sp held fuel cs d ps hN h=>by
  obtain⟨hz,hl,hr⟩:=R;rcases DataW.trod_slice hu h with ⟨rfl,hx⟩|⟨a,len,cap,elems,rest,n,rfl,rfl,hx,hb,hle,hm,hel,h1,_,_⟩
  ·cases hx;exact⟨[],⟨_,_,rfl,⟨none,0,rfl,Qao _,rfl,λh=>absurd h (QbB 0)⟩,rfl⟩,rfl,by simp[bulkD]⟩
  ·rw[hz] at h1;have each:∀ i,i<len->∃ ci d q,w.cells? base (a.add (i * z)) z=some ci/\DataW.trod enc P w base sp held n e ci=some (d,q)/\elems[i]? = some (d,q):=λi hi=>by
    have:=h1 i hi;rw[Qas (by omega)] at this;obtain⟨ci,e1,e2⟩:=Option.bind_eq_some_iff.1 this;exact⟨ci,elems[i].1,elems[i].2,e1,e2,Qas (by omega)⟩
   have all:∀ m,m<=len->∃ xs:List α,xs.length=m/\(xs.map sz).sum<=bulkDs ((elems.take m).map (·.1))/\∀ i (hi:i<xs.length),∃ ci,w.cells? base (a.add (i * z)) z=some ci/\VRs (frW w) (en xs[i]) ci/\(en xs[i]).all AV.cell=true:=by
    intro m;induction m with
    |zero=>exact λ_=>⟨[],rfl,by simp[bulkDs],λi hi=>by simp at hi⟩
    |succ m ih=>
     intro hm;obtain⟨xs,e1,e2,e3⟩:=ih (by omega);obtain⟨ci,d,q,f1,f2,f3⟩:=each m (by omega);obtain⟨x,g1,g2,g3⟩:=hr enc base sp held n ci d q (by omega) f2;have app:∀ (l r:List (DataW H)),bulkDs (l ++ r)=bulkDs l+bulkDs r:=λl r=>by
      induction l with
      |nil=>simp[bulkDs]
      |cons y l ih=>rw[Qay,bulkDs,bulkDs,ih,QbU]
     refine⟨xs ++ [x],by simp[e1],?_,λi hi=>?_⟩
     ·rw[Qch,f3];simp only[Option.toList,QbO,Qai,Qaj,List.sum_append,List.sum_cons,List.sum_nil,app,bulkDs];omega
     ·by_cases hlt:i<xs.length
      ·rw[List.getElem_append_left hlt];exact e3 i hlt
      ·have:i=m:=by simp at hi;omega
       subst this;rw[List.getElem_append_right (by omega)];simp only[e1,Nat.sub_self,Qbx];exact⟨ci,f1,g1,g2⟩
   obtain⟨xs,e1,e2,e3⟩:=all len (Qao _);have hcell:(fl en xs).all AV.cell=true:=by
    rw[Qaz];intro v hv;obtain⟨y,hy,hv⟩:=List.mem_flatMap.1 hv;obtain⟨i,hi,rfl⟩:=QbN.1 hy;obtain⟨_,_,_,h5⟩:=e3 i hi;exact Qaz.1 h5 v hv
   refine⟨xs,⟨_,_,rfl,?_,rfl⟩,rfl,?_⟩
   ·refine⟨some a,cap,by rw[e1],by omega,hcell,λhpos=>?_⟩;obtain⟨c0,f0,_,_⟩:=e3 0 hpos;have f1:=(jcQ f0).2 0 hz0;rw[Qbq] at f1;have z0:(a.add 0).add 0=a:=rfl;rw[z0] at f1;obtain⟨hs,c,ty,fr,hB,_⟩:=jeE f1;obtain⟨B,o,s⟩:=a;dsimp only at hs hB;subst hs;have cell:∀ i (hi:i<xs.length) j,j<z->∃ v,c[o+(i * z+j)]? = some v/\VR (frW w) ((en xs[i]).getD j .bad) v:=λi hi j hj=>by
     obtain⟨ci,g0,g1,g2⟩:=e3 i hi;have g3:=(jcQ g0).2 j hj;rw[jc8,jc8] at g3;obtain⟨_,c',ty',fr',hB',g4⟩:=jeE g3;dsimp only at hB' g4;rw[hB] at hB';cases hB';refine⟨_,by rw[<-QbU];exact g4,?_⟩;exact g1.get j (by rw[hl];exact hj)
    have bound:o+xs.length * z<=c.size:=by
     have hl1:0<xs.length:=hpos;obtain⟨v,g,_⟩:=cell (xs.length - 1) (by omega) (z - 1) (by omega);have:=(QaD.1 g).1;have e:(xs.length - 1) * z+(z - 1)+1=xs.length * z:=by
      have:(xs.length - 1+1) * z=(xs.length - 1) * z+z:=Qbw _ _;rw[show xs.length - 1+1=xs.length by omega] at this;omega
     omega
    have hfl:=zF hl xs;have hcs:c.toList.length=c.size:=QaA;refine⟨B,o,c.toList,rfl,jqn hB,by rw[hfl,hcs];exact bound,?_⟩;show VRs (frW w) _ _;refine VRs.of_get (by rw[hfl,QaH,QaU,hcs];omega) λi hi=>?_;rw[hfl] at hi;have hj:i % z<z:=Nat.mod_lt _ hz0;have hq:i / z<xs.length:=Nat.div_lt_of_lt_mul (by rw[Nat.mul_comm];exact hi);have hiz:i / z * z+i % z=i:=by rw[Nat.mul_comm];exact Nat.div_add_mod i z
    obtain⟨v,g1,g2⟩:=cell (i / z) hq (i % z) hj;rw[hiz] at g1;have g3:=vB hl hq hj;rw[hiz] at g3;rw[g3];have g4:((c.toList.drop o).take (fl en xs).length).getD i undef=v:=by
     rw[hfl];simp only[QaJ,QbT,hi,if_true,Qcf,QbH,g1,Qbc]
    rw[g4];exact g2
   ·cases hx;rw[bulkD];have:elems.take len=elems:=by rw[<-hel];exact QaB
    rw[this] at e2;show(xs.map sz).sum+1<=bulkDs (elems.map (·.1))+bulkDs (rest.map (·.1))+1;omega⟩
theorem Reads.mono {N M:Nat}{α:Type}{t:TypeId}{z:Nat}{en:α->List AV}{sz:α->Nat}(R:Reads H P w N t z en sz)(h:M<=N):Reads H P w M t z en sz:=
 ⟨R.1,R.2.1,λenc base sp held fuel cs d ps hN=>R.2.2 enc base sp held fuel cs d ps (by omega)⟩
theorem qI {ι:Inj}{a b:List AV}{cs:List Value}{o z:Nat}(h1:VRs ι a ((cs.drop o).take z))(h2:VRs ι b (cs.drop (o+z))):VRs ι (a ++ b) (cs.drop o):=by
 have:=VRs.append h1 h2;rwa [<-Qcb,Qbn] at this
theorem Za {ι:Inj}{cs:List Value}{o:Nat}(h:cs.length=o):VRs ι [] (cs.drop o):=by
 rw[List.drop_eq_nil_of_le (by omega)];rfl
end
end Go.Sy
end
noncomputable section
set_option maxRecDepth 100000
namespace Go.Sy
open Go.Ev Go.RowKit Go.Proofs
variable {H:Type} {w:World}
theorem ce2:Tryz.prog.cellsOf 2=1:=by kernel_rfl
theorem ce3:Tryz.prog.cellsOf 3=1:=by kernel_rfl
theorem ce9:Tryz.prog.cellsOf 9=1:=by kernel_rfl
theorem jqX:Tryz.prog.cellsOf 22=1:=by kernel_rfl
theorem jqW:Tryz.prog.cellsOf 23=1:=by kernel_rfl
theorem jqV:Tryz.prog.cellsOf 24=1:=by kernel_rfl
theorem jqU:Tryz.prog.cellsOf 26=3:=by kernel_rfl
theorem jge:Tryz.prog.cellsOf 27=1:=by kernel_rfl
theorem jcS:Tryz.prog.cellsOf 29=6:=by kernel_rfl
theorem jqT:Tryz.prog.cellsOf 112=7:=by kernel_rfl
theorem jqS:Tryz.prog.cellsOf 106=1:=by kernel_rfl
theorem jqR:Tryz.prog.cellsOf 108=4:=by kernel_rfl
theorem jqQ:Tryz.prog.cellsOf 114=1:=by kernel_rfl
theorem jqP:Tryz.prog.cellsOf 116=4:=by kernel_rfl
theorem jmH:Tryz.prog.cellsOf 118=1:=by kernel_rfl
theorem jmG:Tryz.prog.cellsOf 120=7:=by kernel_rfl
theorem jmF:Tryz.prog.cellsOf 155=9:=by kernel_rfl
theorem Gh (x:Ex):1<=szE x:=by rw[zW];omega
theorem JX:∀ xs:List Ex,(xs.map szE).sum=yu xs
 |[]=>rfl
 |x :: xs=>by rw[Qai,List.sum_cons,JX xs];rfl
def szA (a:AsT):Nat:=a.name.length+szE a.to+1
def szR (r:RuleT):Nat:=szE r.when+(r.acts.map szA).sum+1
def szP (p:ProcT):Nat:=p.name.length+(p.rules.map szR).sum+1
def szV (v:List Nat):Nat:=v.length+1
def szN (e:EnumT):Nat:=e.name.length+(e.vals.map szV).sum+1
def szD (d:DeclT):Nat:=d.name.length+d.ty.length+yu d.begins+1
def szS (m:SrcT):Nat:=(m.enums.map szN).sum+(m.vars.map szD).sum+(m.procs.map szP).sum+1
theorem rd_ex:∀ N:Nat,Reads H Qaf w N 29 6 eE szE
 |0=>⟨jcS,zw,λenc base sp held fuel cs d ps hN h=>by
  have:fuel=0:=by omega
  subst this;simp[DataW.trod] at h⟩
 |N+1=>⟨jcS,zw,λenc base sp held fuel cs d ps hN h=>by
  obtain⟨xs,n,rfl,hx,hl,hlen,hf⟩:=DataW.trod_struct Tryz.underlying29 h;cases hx;rw[jcS] at hl
  match xs,hlen with
  |[y0,y1,y2,y3,y4,y5],_=>
   have h0:DataW.trod enc Qaf w base sp held n 3 ((cs.drop 0).take (Tryz.prog.cellsOf 3))=some y0:=hf 0 _ rfl;rw[ce3] at h0;obtain⟨x0,v0,c0,s0⟩:=(JE (N:=n) Tryz.underlying3 ce3).2.2 enc base sp held n _ y0.1 y0.2 (by omega) h0;have h1:DataW.trod enc Qaf w base sp held n 2 ((cs.drop 1).take (Tryz.prog.cellsOf 2))=some y1:=hf 1 _ rfl;rw[ce2] at h1;obtain⟨x1,v1,c1,s1⟩:=(JE (N:=n) Tryz.underlying2 ce2).2.2 enc base sp held n _ y1.1 y1.2 (by omega) h1;have h2:DataW.trod enc Qaf w base sp held n 9 ((cs.drop 2).take (Tryz.prog.cellsOf 9))=some y2:=hf 2 _ rfl;rw[ce9] at h2;obtain⟨x2,v2,c2,s2⟩:=(vn (N:=n) Tryz.underlying9 ce9).2.2 enc base sp held n _ y2.1 y2.2 (by omega) h2;have h3:DataW.trod enc Qaf w base sp held n 27 ((cs.drop 3).take (Tryz.prog.cellsOf 27))=some y3:=hf 3 _ rfl;rw[jge] at h3;obtain⟨x3,v3,c3,s3⟩:=(Qu (by decide) Tryz.underlying27 jge ((rd_ex N).mono (M:=N) (Qao _)) Gh).2.2 enc base sp held n _ y3.1 y3.2 (by omega) h3;have h4:DataW.trod enc Qaf w base sp held n 3 ((cs.drop 4).take (Tryz.prog.cellsOf 3))=some y4:=hf 4 _ rfl;rw[ce3] at h4;obtain⟨x4,v4,c4,s4⟩:=(JE (N:=n) Tryz.underlying3 ce3).2.2 enc base sp held n _ y4.1 y4.2 (by omega) h4;have h5:DataW.trod enc Qaf w base sp held n 3 ((cs.drop 5).take (Tryz.prog.cellsOf 3))=some y5:=hf 5 _ rfl;rw[ce3] at h5;obtain⟨x5,v5,c5,s5⟩:=(JE (N:=n) Tryz.underlying3 ce3).2.2 enc base sp held n _ y5.1 y5.2 (by omega) h5;refine⟨.mk x0.1 x1.1 x2 x3 x4.1 x5.1,?_,?_,?_⟩
   ·rw[qE];exact qI (z:=1) v0 (qI (z:=1) v1 (qI (z:=1) v2 (qI (z:=1) v3 (qI (z:=1) v4 (qI (z:=1) v5 (Za (by rw[hl])))))))
   ·rw[qE];first|rfl|(simp_all [Qbl,AV.cell];done)|(simp[AV.cell];done)
   ·simp only[Qai,Qaj,bulkD,bulkDs,zW,Ex.kids,Ex.name];skip
    first|omega|(simp only[JX] at *;omega)⟩
theorem jiy:∀ xs:List (List Nat),fl (λs=>[AV.str s]) xs=xs.map AV.str
 |[]=>rfl
 |x :: xs=>by rw[XE,jiy xs];rfl
theorem jnf (N:Nat):Reads H Qaf w (N+1) 106 1 (λxs:List (List Nat)=>[.lst xs.length (xs.map AV.str)]) (λxs=>(xs.map szV).sum+1):=by
 have h:Reads H Qaf w (N+1) 106 1 (λxs:List (List Nat)=>[.lst xs.length (fl (λs=>[AV.str s]) xs)]) (λxs=>(xs.map szV).sum+1):=Qu (by decide) Tryz.underlying106 jqS (vn (N:=N) Tryz.underlying9 ce9) (λx=>Qbt _);simpa only[jiy] using h
theorem jni (N:Nat):Reads H Qaf w N 108 4 enE szN:=
 ⟨jqR,Jq,λenc base sp held fuel cs d ps hN h=>by
  obtain⟨xs,n,rfl,hx,hl,hlen,hf⟩:=DataW.trod_struct Tryz.underlying108 h;cases hx;rw[jqR] at hl
  match xs,hlen with
  |[y0,y1,y2,y3],_=>
   have h0:DataW.trod enc Qaf w base sp held n 9 ((cs.drop 0).take (Tryz.prog.cellsOf 9))=some y0:=hf 0 _ rfl;rw[ce9] at h0;obtain⟨x0,v0,c0,s0⟩:=(vn (N:=n) Tryz.underlying9 ce9).2.2 enc base sp held n _ y0.1 y0.2 (by omega) h0;have h1:DataW.trod enc Qaf w base sp held n 106 ((cs.drop 1).take (Tryz.prog.cellsOf 106))=some y1:=hf 1 _ rfl;rw[jqS] at h1;obtain⟨x1,v1,c1,s1⟩:=(jnf N).2.2 enc base sp held n _ y1.1 y1.2 (by omega) h1;have h2:DataW.trod enc Qaf w base sp held n 3 ((cs.drop 2).take (Tryz.prog.cellsOf 3))=some y2:=hf 2 _ rfl;rw[ce3] at h2;obtain⟨x2,v2,c2,s2⟩:=(JE (N:=n) Tryz.underlying3 ce3).2.2 enc base sp held n _ y2.1 y2.2 (by omega) h2;have h3:DataW.trod enc Qaf w base sp held n 3 ((cs.drop 3).take (Tryz.prog.cellsOf 3))=some y3:=hf 3 _ rfl;rw[ce3] at h3;obtain⟨x3,v3,c3,s3⟩:=(JE (N:=n) Tryz.underlying3 ce3).2.2 enc base sp held n _ y3.1 y3.2 (by omega) h3;refine⟨⟨x0,x1,x2.1,x3.1⟩,?_,?_,?_⟩
   ·rw[UX];exact qI (z:=1) v0 (qI (z:=1) v1 (qI (z:=1) v2 (qI (z:=1) v3 (Za (by rw[hl])))))
   ·rw[UX];first|rfl|(simp_all [Qbl,AV.cell];done)|(simp[AV.cell];done)
   ·simp only[Qai,Qaj,bulkD,bulkDs,szN];skip
    first|omega|(simp only[JX] at *;omega)⟩
theorem jnj (N:Nat):Reads H Qaf w N 112 7 qg szD:=
 ⟨jqT,QP,λenc base sp held fuel cs d ps hN h=>by
  obtain⟨xs,n,rfl,hx,hl,hlen,hf⟩:=DataW.trod_struct Tryz.underlying112 h;cases hx;rw[jqT] at hl
  match xs,hlen with
  |[y0,y1,y2,y3,y4,y5,y6],_=>
   have h0:DataW.trod enc Qaf w base sp held n 9 ((cs.drop 0).take (Tryz.prog.cellsOf 9))=some y0:=hf 0 _ rfl;rw[ce9] at h0;obtain⟨x0,v0,c0,s0⟩:=(vn (N:=n) Tryz.underlying9 ce9).2.2 enc base sp held n _ y0.1 y0.2 (by omega) h0;have h1:DataW.trod enc Qaf w base sp held n 9 ((cs.drop 1).take (Tryz.prog.cellsOf 9))=some y1:=hf 1 _ rfl;rw[ce9] at h1;obtain⟨x1,v1,c1,s1⟩:=(vn (N:=n) Tryz.underlying9 ce9).2.2 enc base sp held n _ y1.1 y1.2 (by omega) h1;have h2:DataW.trod enc Qaf w base sp held n 2 ((cs.drop 2).take (Tryz.prog.cellsOf 2))=some y2:=hf 2 _ rfl;rw[ce2] at h2;obtain⟨x2,v2,c2,s2⟩:=(JE (N:=n) Tryz.underlying2 ce2).2.2 enc base sp held n _ y2.1 y2.2 (by omega) h2;have h3:DataW.trod enc Qaf w base sp held n 2 ((cs.drop 3).take (Tryz.prog.cellsOf 2))=some y3:=hf 3 _ rfl;rw[ce2] at h3;obtain⟨x3,v3,c3,s3⟩:=(JE (N:=n) Tryz.underlying2 ce2).2.2 enc base sp held n _ y3.1 y3.2 (by omega) h3;have h4:DataW.trod enc Qaf w base sp held n 27 ((cs.drop 4).take (Tryz.prog.cellsOf 27))=some y4:=hf 4 _ rfl;rw[jge] at h4;obtain⟨x4,v4,c4,s4⟩:=(Qu (by decide) Tryz.underlying27 jge (rd_ex N) Gh).2.2 enc base sp held n _ y4.1 y4.2 (by omega) h4;have h5:DataW.trod enc Qaf w base sp held n 3 ((cs.drop 5).take (Tryz.prog.cellsOf 3))=some y5:=hf 5 _ rfl;rw[ce3] at h5;obtain⟨x5,v5,c5,s5⟩:=(JE (N:=n) Tryz.underlying3 ce3).2.2 enc base sp held n _ y5.1 y5.2 (by omega) h5;have h6:DataW.trod enc Qaf w base sp held n 3 ((cs.drop 6).take (Tryz.prog.cellsOf 3))=some y6:=hf 6 _ rfl;rw[ce3] at h6;obtain⟨x6,v6,c6,s6⟩:=(JE (N:=n) Tryz.underlying3 ce3).2.2 enc base sp held n _ y6.1 y6.2 (by omega) h6;refine⟨⟨x0,x1,x2.1,x3.1,x4,x5.1,x6.1⟩,?_,?_,?_⟩
   ·rw[w4];exact qI (z:=1) v0 (qI (z:=1) v1 (qI (z:=1) v2 (qI (z:=1) v3 (qI (z:=1) v4 (qI (z:=1) v5 (qI (z:=1) v6 (Za (by rw[hl]))))))))
   ·rw[w4];first|rfl|(simp_all [Qbl,AV.cell];done)|(simp[AV.cell];done)
   ·simp only[Qai,Qaj,bulkD,bulkDs,szD];skip
    first|omega|(simp only[JX] at *;omega)⟩
theorem jrX (N:Nat):Reads H Qaf w N 155 9 asE szA:=
 ⟨jmF,ZK,λenc base sp held fuel cs d ps hN h=>by
  obtain⟨xs,n,rfl,hx,hl,hlen,hf⟩:=DataW.trod_struct Tryz.underlying155 h;cases hx;rw[jmF] at hl
  match xs,hlen with
  |[y0,y1,y2,y3],_=>
   have h0:DataW.trod enc Qaf w base sp held n 9 ((cs.drop 0).take (Tryz.prog.cellsOf 9))=some y0:=hf 0 _ rfl;rw[ce9] at h0;obtain⟨x0,v0,c0,s0⟩:=(vn (N:=n) Tryz.underlying9 ce9).2.2 enc base sp held n _ y0.1 y0.2 (by omega) h0;have h1:DataW.trod enc Qaf w base sp held n 29 ((cs.drop 1).take (Tryz.prog.cellsOf 29))=some y1:=hf 1 _ rfl;rw[jcS] at h1;obtain⟨x1,v1,c1,s1⟩:=((rd_ex N)).2.2 enc base sp held n _ y1.1 y1.2 (by omega) h1;have h2:DataW.trod enc Qaf w base sp held n 3 ((cs.drop 7).take (Tryz.prog.cellsOf 3))=some y2:=hf 2 _ rfl;rw[ce3] at h2;obtain⟨x2,v2,c2,s2⟩:=(JE (N:=n) Tryz.underlying3 ce3).2.2 enc base sp held n _ y2.1 y2.2 (by omega) h2;have h3:DataW.trod enc Qaf w base sp held n 3 ((cs.drop 8).take (Tryz.prog.cellsOf 3))=some y3:=hf 3 _ rfl;rw[ce3] at h3;obtain⟨x3,v3,c3,s3⟩:=(JE (N:=n) Tryz.underlying3 ce3).2.2 enc base sp held n _ y3.1 y3.2 (by omega) h3;refine⟨⟨x0,x1,x2.1,x3.1⟩,?_,?_,?_⟩
   ·rw[asE];exact qI (z:=1) v0 (qI (z:=6) v1 (qI (z:=1) v2 (qI (z:=1) v3 (Za (by rw[hl])))))
   ·rw[asE];first|rfl|(simp_all [Qbl,AV.cell];done)|(simp[AV.cell];done)
   ·simp only[Qai,Qaj,bulkD,bulkDs,szA];skip
    first|omega|(simp only[JX] at *;omega)⟩
theorem jng (N:Nat):Reads H Qaf w N 120 7 ruE szR:=
 ⟨jmG,wj,λenc base sp held fuel cs d ps hN h=>by
  obtain⟨xs,n,rfl,hx,hl,hlen,hf⟩:=DataW.trod_struct Tryz.underlying120 h;cases hx;rw[jmG] at hl
  match xs,hlen with
  |[y0,y1],_=>
   have h0:DataW.trod enc Qaf w base sp held n 29 ((cs.drop 0).take (Tryz.prog.cellsOf 29))=some y0:=hf 0 _ rfl;rw[jcS] at h0;obtain⟨x0,v0,c0,s0⟩:=((rd_ex N)).2.2 enc base sp held n _ y0.1 y0.2 (by omega) h0;have h1:DataW.trod enc Qaf w base sp held n 118 ((cs.drop 6).take (Tryz.prog.cellsOf 118))=some y1:=hf 1 _ rfl;rw[jmH] at h1;obtain⟨x1,v1,c1,s1⟩:=(Qu (by decide) Tryz.underlying118 jmH (jrX N) (λx=>Qbt _)).2.2 enc base sp held n _ y1.1 y1.2 (by omega) h1;refine⟨⟨x0,x1⟩,?_,?_,?_⟩
   ·rw[ruE];exact qI (z:=6) v0 (qI (z:=1) v1 (Za (by rw[hl])))
   ·rw[ruE];first|rfl|(simp_all [Qbl,AV.cell];done)|(simp[AV.cell];done)
   ·simp only[Qai,Qaj,bulkD,bulkDs,szR];skip
    first|omega|(simp only[JX] at *;omega)⟩
theorem jnh (N:Nat):Reads H Qaf w N 116 4 prE szP:=
 ⟨jqP,v7,λenc base sp held fuel cs d ps hN h=>by
  obtain⟨xs,n,rfl,hx,hl,hlen,hf⟩:=DataW.trod_struct Tryz.underlying116 h;cases hx;rw[jqP] at hl
  match xs,hlen with
  |[y0,y1,y2,y3],_=>
   have h0:DataW.trod enc Qaf w base sp held n 9 ((cs.drop 0).take (Tryz.prog.cellsOf 9))=some y0:=hf 0 _ rfl;rw[ce9] at h0;obtain⟨x0,v0,c0,s0⟩:=(vn (N:=n) Tryz.underlying9 ce9).2.2 enc base sp held n _ y0.1 y0.2 (by omega) h0;have h1:DataW.trod enc Qaf w base sp held n 114 ((cs.drop 1).take (Tryz.prog.cellsOf 114))=some y1:=hf 1 _ rfl;rw[jqQ] at h1;obtain⟨x1,v1,c1,s1⟩:=(Qu (by decide) Tryz.underlying114 jqQ (jng N) (λx=>Qbt _)).2.2 enc base sp held n _ y1.1 y1.2 (by omega) h1;have h2:DataW.trod enc Qaf w base sp held n 3 ((cs.drop 2).take (Tryz.prog.cellsOf 3))=some y2:=hf 2 _ rfl;rw[ce3] at h2;obtain⟨x2,v2,c2,s2⟩:=(JE (N:=n) Tryz.underlying3 ce3).2.2 enc base sp held n _ y2.1 y2.2 (by omega) h2;have h3:DataW.trod enc Qaf w base sp held n 3 ((cs.drop 3).take (Tryz.prog.cellsOf 3))=some y3:=hf 3 _ rfl;rw[ce3] at h3;obtain⟨x3,v3,c3,s3⟩:=(JE (N:=n) Tryz.underlying3 ce3).2.2 enc base sp held n _ y3.1 y3.2 (by omega) h3;refine⟨⟨x0,x1,x2.1,x3.1⟩,?_,?_,?_⟩
   ·rw[UD];exact qI (z:=1) v0 (qI (z:=1) v1 (qI (z:=1) v2 (qI (z:=1) v3 (Za (by rw[hl])))))
   ·rw[UD];first|rfl|(simp_all [Qbl,AV.cell];done)|(simp[AV.cell];done)
   ·simp only[Qai,Qaj,bulkD,bulkDs,szP];skip
    first|omega|(simp only[JX] at *;omega)⟩
theorem rd_src (N:Nat):Reads H Qaf w N 26 3 srE szS:=
 ⟨jqU,wg,λenc base sp held fuel cs d ps hN h=>by
  obtain⟨xs,n,rfl,hx,hl,hlen,hf⟩:=DataW.trod_struct Tryz.underlying26 h;cases hx;rw[jqU] at hl
  match xs,hlen with
  |[y0,y1,y2],_=>
   have h0:DataW.trod enc Qaf w base sp held n 22 ((cs.drop 0).take (Tryz.prog.cellsOf 22))=some y0:=hf 0 _ rfl;rw[jqX] at h0;obtain⟨x0,v0,c0,s0⟩:=(Qu (by decide) Tryz.underlying22 jqX (jni N) (λx=>Qbt _)).2.2 enc base sp held n _ y0.1 y0.2 (by omega) h0;have h1:DataW.trod enc Qaf w base sp held n 23 ((cs.drop 1).take (Tryz.prog.cellsOf 23))=some y1:=hf 1 _ rfl;rw[jqW] at h1;obtain⟨x1,v1,c1,s1⟩:=(Qu (by decide) Tryz.underlying23 jqW (jnj N) (λx=>Qbt _)).2.2 enc base sp held n _ y1.1 y1.2 (by omega) h1;have h2:DataW.trod enc Qaf w base sp held n 24 ((cs.drop 2).take (Tryz.prog.cellsOf 24))=some y2:=hf 2 _ rfl;rw[jqV] at h2;obtain⟨x2,v2,c2,s2⟩:=(Qu (by decide) Tryz.underlying24 jqV (jnh N) (λx=>Qbt _)).2.2 enc base sp held n _ y2.1 y2.2 (by omega) h2;refine⟨⟨x0,x1,x2⟩,?_,?_,?_⟩
   ·rw[Uu];exact qI (z:=1) v0 (qI (z:=1) v1 (qI (z:=1) v2 (Za (by rw[hl]))))
   ·rw[Uu];first|rfl|(simp_all [Qbl,AV.cell];done)|(simp[AV.cell];done)
   ·simp only[Qai,Qaj,bulkD,bulkDs,szS];skip
    first|omega|(simp only[JX] at *;omega)⟩
end Go.Sy
end
noncomputable section
namespace Go.Sy
open Go.Ev Go.RowKit
theorem jeb {v:AV}{h:T AO}(hv:pa v=true):lend h v=some v:=by
 have key:∀ v:AV,pa v=true->(fz 9 h v).map (·.1)=some v:=λv hv=>by rw[gu (d:=7) hv];rfl
 cases v<;>first|exact key _ hv|(cases hv;done)|skip
 case fn f caps=>
  cases caps with
  |nil=>rfl
  |cons c l=>cases hv
theorem ud {h:T AO}:Qz h []=some []:=rfl
theorem Jm {h:T AO}{v u:AV}{l r:List AV}(h1:lend h v=some u)(h2:Qz h l=some r):Qz h (v :: l)=some (u :: r):=by
 simp only[Qz,h1,h2]
theorem Zo {h:T AO}{v:AV}{l r:List AV}(h1:pa v=true)(h2:Qz h l=some r):Qz h (v :: l)=some (v :: r):=Jm (jeb h1) h2
theorem HE {h:T AO}:∀ {l:List AV},l.all Go.Sy.pa=true->Qz h l=some l
 |[],_=>rfl
 |v :: l,hp=>by
  simp only[Qbb,Qaq] at hp;exact Zo hp.1 (HE hp.2)
theorem jel {s:St}{d b n m z:Nat}{x:Bool}{cs:List AV}(C:Cl s b cs)(hl:n * z=cs.length)(hp:cs.all pc=true):fz (d+2) s.h (.slice b 0 n m z x)=some (.lst n cs,[b]):=jcv (k:=0) C hl hp
theorem jfC {s:St}{b n m z:Nat}{x:Bool}{cs:List AV}(C:Cl s b cs)(hl:n * z=cs.length)(hp:cs.all pc=true):lend s.h (.slice b 0 n m z x)=some (.lst n cs):=by
 show(fz 9 s.h _).map (·.1)=_;rw[jel (d:=7) C hl hp];rfl
def Lr (s:St)(v:AV)(n:Nat)(cs:List AV):Prop:=v=.lst n cs\/(v=.nils/\n=0/\cs=[])\/∃ b m z x,v=.slice b 0 n m z x/\n * z=cs.length/\Cl s b cs
theorem Lv.lr {lo hi n z:Nat}{s:St}{v:AV}{cs:List AV}(h:Lv lo hi s v n cs z):Lr s v n cs:=by
 rcases h with ⟨rfl,rfl,rfl⟩|⟨b,rfl,h2,h3,h4,h5,h6⟩
 ·exact .inr (.inl ⟨rfl,rfl,rfl⟩)
 ·exact .inr (.inr ⟨b,n,z,false,rfl,h3.symm,h4⟩)
theorem Lr.fz {s:St}{v:AV}{n:Nat}{cs:List AV}{d:Nat}(h:Lr s v n cs)(hp:cs.all pc=true):∃ ks,fz (d+2) s.h v=some (.lst n cs,ks):=by
 rcases h with rfl|⟨rfl,rfl,rfl⟩|⟨b,m,z,x,rfl,h1,h2⟩
 ·exact⟨[],rfl⟩
 ·exact⟨[],rfl⟩
 ·exact⟨[b],jel h2 h1 hp⟩
theorem Lr.lend {s:St}{v:AV}{n:Nat}{cs:List AV}(h:Lr s v n cs)(hp:cs.all pc=true):lend s.h v=some (.lst n cs):=by
 have key:(Go.Ev.fz 9 s.h v).map (·.1)=some (.lst n cs):=by
  obtain⟨ks,e⟩:=h.fz (d:=7) hp;rw[e];rfl
 rcases h with rfl|⟨rfl,rfl,rfl⟩|⟨b,m,z,x,rfl,h1,h2⟩<;>exact key
theorem jh5 {s:St}{l r:List AV}(h:∃ ks,fzs (fz 8 s.h) l=some (r,ks)):lend s.h (.agg l)=some (.agg r):=by
 obtain⟨ks,e⟩:=h;show(fz 9 s.h (.agg l)).map (·.1)=_;show((fzs (fz 8 s.h) l).map λp=>(AV.agg p.1,p.2)).map (·.1)=_;rw[e];rfl
theorem jfL {f:AV->Option (AV×List Nat)}{v u:AV}{l r:List AV}(h1:∃ ks,f v=some (u,ks))(h2:∃ ks,fzs f l=some (r,ks)):∃ ks,fzs f (v :: l)=some (u :: r,ks):=by
 obtain⟨k1,e1⟩:=h1;obtain⟨k2,e2⟩:=h2;exact⟨k1 ++ k2,by simp only[fzs,e1,e2]⟩
theorem jr1 {f:AV->Option (AV×List Nat)}:∃ ks,fzs f []=some ([],ks):=⟨[],rfl⟩
theorem WX {s:St}{b o:Nat}{cs r:List AV}(C:Cl s b cs)(h:Yd (fz 9 s.h) cs=r):lend s.h (.ptr b o)=some (.lptr r o):=by
 obtain⟨n,zl,z,ct,hrow,hn,hcs⟩:=C.rw_.len;show wx s.h (.ptr b o)=_;unfold wx;dsimp only;rw[hrow];dsimp only;rw[hn,h]
theorem Qc {f:AV->Option (AV×List Nat)}{v u:AV}{l r:List AV}(h1:∃ ks,f v=some (u,ks))(hc:u.cell=true)(h2:Yd f l=r):Yd f (v :: l)=u :: r:=by
 obtain⟨ks,e⟩:=h1;simp only[Yd,e,hc,cond_true,h2]
theorem GI {f:AV->Option (AV×List Nat)}:Yd f []=[]:=rfl
theorem W0 {h:T AO}{v:AV}(d:Nat)(hv:pc v=true):∃ ks,fz (d+1) h v=some (v,ks):=⟨[],ja1 hv d _⟩
section
variable {P:Program} {base:Bs}
theorem PL.xb {f:FuncId}{aZ aZ':List AV}{o:Oc}(h:PL P base f aZ o){st:St}(hf:Qz st.h aZ'=some aZ)(hb:∀ st,base.run f aZ' st=.no)(K Kp:AV->St->Prop):XB P base f aZ' st K Kp=Yo o K Kp st:=h.cx hf hb K Kp
theorem PL.pa {f:FuncId}{aZ:List AV}{o:Oc}(h:PL P base f aZ o)(hp:aZ.all Go.Sy.pa=true)(hb:∀ st,base.run f aZ st=.no)(st:St)(K Kp:AV->St->Prop):XB P base f aZ st K Kp=Yo o K Kp st:=by
 exact h.xb (HE hp) hb K Kp
theorem QM {f:FuncId}{F:XF}(hl:jC P f=some F)(hnd:F.body.nd=true)(hm:base.pur f=5){aZ:List AV}{o:Oc}(ho:o.flat=true)
  (h:xC P base F.body (ju F.ps aZ) st0 (QU P F.res (Q1 G0 o)) λv _ s=>QX G0 o v s.bare):PL P base f aZ o:=
 PL.of hm ho (Yq hl hnd h)
def jqe (r:ER):ER:=match r with
 |.ok v s=>(match fz 9 s.h v with|some (v',ks)=>.ok v' (kills ks s)|none=>.no)
 |r=>r
theorem BX.ice {f:FuncId}{args:List AV}{st:St}{K Kp:AV->St->Prop}(hm:base.pur f=2)(hb:base.run f args st=.no)(h:BX P base f args st (λv s=>∃ u ks,fz 9 s.h v=some (u,ks)/\K u (kills ks s)) Kp):CX P base f args st K Kp:=by
 obtain⟨r,⟨N,D,h1⟩,h2⟩:=h;have e:∀ n,N<=n->∀ d,D+1<=d->evC P base n d f args st=jqe r:=λn hn d hd=>by
  obtain⟨d',rfl⟩:∃ d',d=d'+1:=⟨d - 1,by omega⟩;have h3:=h1 n hn d' (by omega);simp only[evC,hb,hm,ub,jfJ,h3];rfl
 refine⟨_,⟨N,D+1,e⟩,?_⟩;cases r with
 |no=>exact h2.elim
 |pn v s=>exact h2
 |ok v s=>
  obtain⟨u,ks,e1,e2⟩:=(h2:∃ u ks,fz 9 s.h v=some (u,ks)/\K u (kills ks s));unfold jqe;dsimp only;rw[e1];exact e2
theorem jcq {f:FuncId}{F:XF}(hl:jC P f=some F)(hnd:F.body.nd=true){args:List AV}{st:St}(hm:base.pur f=2)(hb:base.run f args st=.no){K Kp:AV->St->Prop}
  (h:xC P base F.body (ju F.ps args) st.bare (QU P F.res λv s=>∃ u ks,fz 9 s.h v=some (u,ks)/\K u (back st (kills ks s))) λv _ s=>Kp v (bk st s)):XB P base f args st K Kp:=
 XB.of (BX.ice hm hb (Yq hl hnd h))
end
structure Keep (p:Nat)(s s':St):Prop where
 nx:s.nx<=s'.nx
 fr:s'.fr=s.fr
 get:∀ b,b<s.nx->b≠p->jx s'.h b=jx s.h b
section
variable {p b:Nat} {s s' t:St} {cs:List AV}
theorem Keep.refl:Keep p s s:=⟨Qao _,rfl,λ_ _ _=>rfl⟩
theorem Keep.trans (h:Keep p s t)(k:Keep p t s'):Keep p s s':=⟨Qav h.nx k.nx,k.fr.trans h.fr,λb hb hp=>(k.get b (QaQ hb h.nx) hp).trans (h.get b hb hp)⟩
theorem Keep.nw (h:Keep p s t)(ds:List AV):Keep p s (nw t ds):=⟨QcA h.nx,h.fr,λb hb hp=>(Jx (by have:=h.nx;omega)).trans (h.get b hb hp)⟩
theorem Keep.wr (h:Keep p s t){c:Nat}(hc:c=p\/s.nx<=c)(o:Nat)(vs:List AV):Keep p s (wr t c o vs):=⟨h.nx,h.fr,λb hb hp=>(Je (by omega)).trans (h.get b hb hp)⟩
theorem Keep.kl (h:Keep p s t){c:Nat}(hc:s.nx<=c):Keep p s (kl c t):=⟨h.nx,h.fr,λb hb hp=>(vv (by omega)).trans (h.get b hb hp)⟩
theorem Keep.kills (h:Keep p s t){ks:List Nat}(hc:∀ c∈ks,s.nx<=c):Keep p s (kills ks t):=⟨h.nx,h.fr,λb hb hp=>by
 show jx (ks.foldr _ t.h) b=_;rw[YC,if_neg (λhm=>by have:=hc b hm;omega)];exact h.get b hb hp⟩
theorem Keep.aps {lo hi n z:Nat}{v:AV}{ds:List AV}{u:St}(h:Keep p s t)(V:Lv lo hi u v n ds z)(hlo:s.nx<=lo)(news:List AV):Keep p s (aps v t news):=⟨by rw[jr];exact QcA h.nx,by rw[Wa];exact h.fr,λb hb hp=>(V.get t news b (by omega) (by have:=h.nx;omega)).trans (h.get b hb hp)⟩
theorem Keep.cl (h:Keep p s t)(C:Cl s b cs)(hb:b≠p):Cl t b cs:=C.keep h.nx (h.get b C.lt hb)
theorem Keep.lv {lo hi n z:Nat}{v:AV}(h:Keep p s t)(V:Lv lo hi s v n cs z)(hb:p<lo\/hi<=p):Lv lo hi t v n cs z:=V.imp id λ⟨c,h1,h2,h3,h4,h5,h6⟩=>⟨c,h1,h2,h3,h.cl h4 (by omega),h5,h6⟩
theorem Keep.lr {v:AV}{n:Nat}(h:Keep p s t)(V:Lr s v n cs)(hb:∀ b m z x,v=.slice b 0 n m z x->b≠p):Lr t v n cs:=by
 rcases V with e|e|⟨b,m,z,x,e,h1,h2⟩
 ·exact .inl e
 ·exact .inr (.inl e)
 ·exact .inr (.inr ⟨b,m,z,x,e,h1,h.cl h2 (hb b m z x e)⟩)
theorem Keep.back (h:Keep p s t):Keep p s (back s t):=⟨h.nx,rfl,h.get⟩
theorem Keep.bare (h:Keep p s.bare t)(u:St):Keep p s (Go.Ev.back s t):=⟨h.nx,rfl,h.get⟩
end
end Go.Sy
end
noncomputable section
set_option maxRecDepth 100000
namespace Go.Sy
open Go.Ev Go.Proofs
variable {base:Bs}
structure VarT where
 name:List Nat
 kind:Int
 enum:List Nat
 lo:Int
 hi:Int
 beg:Bool
 first:Int
def vaE (v:VarT):List AV:=[.str v.name,.int .i64 v.kind,.str v.enum,.int .i64 v.lo,.int .i64 v.hi,.bool v.beg,.int .i64 v.first]
structure SetT where
 var:Int
 to:Ex
def seE (s:SetT):List AV:=.int .i64 s.var :: eE s.to
structure MoveT where
 when:Ex
 acts:List SetT
def moE (m:MoveT):List AV:=eE m.when ++ [.lst m.acts.length (fl seE m.acts)]
structure ModT where
 vars:List VarT
 enums:List EnumT
 moves:List MoveT
def mdE (m:ModT):List AV:=[.lst m.vars.length (fl vaE m.vars),.lst m.enums.length (fl enE m.enums),.lst m.moves.length (fl moE m.moves)]
structure MtT where
 kind:Int
 enum:List Nat
 lo:Int
 hi:Int
def mtE (m:MtT):List AV:=[.int .i64 m.kind,.str m.enum,.int .i64 m.lo,.int .i64 m.hi]
theorem Wr (v:VarT):vaE v=[.str v.name,.int .i64 v.kind,.str v.enum,.int .i64 v.lo,.int .i64 v.hi,.bool v.beg,.int .i64 v.first]:=rfl
theorem Xm (v:VarT):(vaE v).length=7:=nr (by rw[Wr];rfl)
theorem jaq (v:VarT)(k:Nat):(vaE v).getD k .bad=([.str v.name,.int .i64 v.kind,.str v.enum,.int .i64 v.lo,.int .i64 v.hi,.bool v.beg,.int .i64 v.first]:List AV).getD k .bad:=nr (by rw[Wr])
theorem jlG (v:VarT)(k:Nat):(vaE v).drop k=([.str v.name,.int .i64 v.kind,.str v.enum,.int .i64 v.lo,.int .i64 v.hi,.bool v.beg,.int .i64 v.first]:List AV).drop k:=nr (by rw[Wr])
theorem jar (v:VarT):lall AV.cell (vaE v)=true:=nr (by rw[Wr];rfl)
theorem YM (v:VarT):(vaE v).all pc=true:=nr (by rw[Wr];rfl)
theorem jlF {st:St}{K:AV->St->Prop}{xs:List VarT}{i:Nat}(h:i<xs.length):jk (zf 7 (.lptr (fl vaE xs) (i * 7)) st) K=K (.agg (vaE xs[i])) st:=J0 Xm h
theorem jgG {st:St}{K:AV->St->Prop}{xs:List VarT}{i:Nat}(h:i<xs.length){k:Nat}(hk:k<7):jk (qZ (.lptr (fl vaE xs) (i * 7+k)) st) K=K ((vaE xs[i]).getD k .bad) st:=ya Xm h hk
theorem jgH {st:St}{K:AV->St->Prop}{xs:List VarT}{i:Nat}(h:i<xs.length):jk (qZ (.lptr (fl vaE xs) (i * 7)) st) K=K ((vaE xs[i]).getD 0 .bad) st:=ya (k:=0) Xm h (by decide)
theorem jm:type_of% (aI @Xm (aI @jaq (aI @jlG (aI @jar (aI @jlF (aI @jgH @jgG)))))):=aI @Xm (aI @jaq (aI @jlG (aI @jar (aI @jlF (aI @jgH @jgG)))))
theorem XZ:type_of% (aI @Xm (aI @jar @jaq)):=aI @Xm (aI @jar @jaq)
theorem Kx (s:SetT):seE s=[.int .i64 s.var,.int .i64 s.to.op,.int .i64 s.to.num,.str s.to.name,.lst s.to.kids.length (fl eE s.to.kids),.int .i64 s.to.line,.int .i64 s.to.col]:=(by unfold seE;rw[qE])
theorem vX (s:SetT):(seE s).length=7:=nr (by rw[Kx];rfl)
theorem jaB (s:SetT)(k:Nat):(seE s).getD k .bad=([.int .i64 s.var,.int .i64 s.to.op,.int .i64 s.to.num,.str s.to.name,.lst s.to.kids.length (fl eE s.to.kids),.int .i64 s.to.line,.int .i64 s.to.col]:List AV).getD k .bad:=nr (by rw[Kx])
theorem jl2 (s:SetT)(k:Nat):(seE s).drop k=([.int .i64 s.var,.int .i64 s.to.op,.int .i64 s.to.num,.str s.to.name,.lst s.to.kids.length (fl eE s.to.kids),.int .i64 s.to.line,.int .i64 s.to.col]:List AV).drop k:=nr (by rw[Kx])
theorem jaC (s:SetT):lall AV.cell (seE s)=true:=nr (by rw[Kx];rfl)
theorem wh (s:SetT):(seE s).all pc=true:=nr (by rw[Kx];rfl)
theorem jl1 {st:St}{K:AV->St->Prop}{xs:List SetT}{i:Nat}(h:i<xs.length):jk (zf 7 (.lptr (fl seE xs) (i * 7)) st) K=K (.agg (seE xs[i])) st:=J0 vX h
theorem jho {st:St}{K:AV->St->Prop}{xs:List SetT}{i:Nat}(h:i<xs.length){k:Nat}(hk:k<7):jk (qZ (.lptr (fl seE xs) (i * 7+k)) st) K=K ((seE xs[i]).getD k .bad) st:=ya vX h hk
theorem jhp {st:St}{K:AV->St->Prop}{xs:List SetT}{i:Nat}(h:i<xs.length):jk (qZ (.lptr (fl seE xs) (i * 7)) st) K=K ((seE xs[i]).getD 0 .bad) st:=ya (k:=0) vX h (by decide)
theorem jn:type_of% (aI @vX (aI @jaB (aI @jl2 (aI @jaC (aI @jl1 (aI @jhp @jho)))))):=aI @vX (aI @jaB (aI @jl2 (aI @jaC (aI @jl1 (aI @jhp @jho)))))
theorem X5:type_of% (aI @vX (aI @jaC @jaB)):=aI @vX (aI @jaC @jaB)
theorem K2 (m:MoveT):moE m=[.int .i64 m.when.op,.int .i64 m.when.num,.str m.when.name,.lst m.when.kids.length (fl eE m.when.kids),.int .i64 m.when.line,.int .i64 m.when.col,.lst m.acts.length (fl seE m.acts)]:=(by unfold moE;rw[qE];rfl)
theorem WQ (m:MoveT):(moE m).length=7:=nr (by rw[K2];rfl)
theorem jaR (m:MoveT)(k:Nat):(moE m).getD k .bad=([.int .i64 m.when.op,.int .i64 m.when.num,.str m.when.name,.lst m.when.kids.length (fl eE m.when.kids),.int .i64 m.when.line,.int .i64 m.when.col,.lst m.acts.length (fl seE m.acts)]:List AV).getD k .bad:=nr (by rw[K2])
theorem jmf (m:MoveT)(k:Nat):(moE m).drop k=([.int .i64 m.when.op,.int .i64 m.when.num,.str m.when.name,.lst m.when.kids.length (fl eE m.when.kids),.int .i64 m.when.line,.int .i64 m.when.col,.lst m.acts.length (fl seE m.acts)]:List AV).drop k:=nr (by rw[K2])
theorem jaS (m:MoveT):lall AV.cell (moE m)=true:=nr (by rw[K2];rfl)
theorem wt (m:MoveT):(moE m).all pc=true:=nr (by rw[K2];rfl)
theorem jme {st:St}{K:AV->St->Prop}{xs:List MoveT}{i:Nat}(h:i<xs.length):jk (zf 7 (.lptr (fl moE xs) (i * 7)) st) K=K (.agg (moE xs[i])) st:=J0 WQ h
theorem jhT {st:St}{K:AV->St->Prop}{xs:List MoveT}{i:Nat}(h:i<xs.length){k:Nat}(hk:k<7):jk (qZ (.lptr (fl moE xs) (i * 7+k)) st) K=K ((moE xs[i]).getD k .bad) st:=ya WQ h hk
theorem jhU {st:St}{K:AV->St->Prop}{xs:List MoveT}{i:Nat}(h:i<xs.length):jk (qZ (.lptr (fl moE xs) (i * 7)) st) K=K ((moE xs[i]).getD 0 .bad) st:=ya (k:=0) WQ h (by decide)
theorem jp:type_of% (aI @WQ (aI @jaR (aI @jmf (aI @jaS (aI @jme (aI @jhU @jhT)))))):=aI @WQ (aI @jaR (aI @jmf (aI @jaS (aI @jme (aI @jhU @jhT)))))
theorem X8:type_of% (aI @WQ (aI @jaS @jaR)):=aI @WQ (aI @jaS @jaR)
theorem UH (m:ModT):mdE m=[.lst m.vars.length (fl vaE m.vars),.lst m.enums.length (fl enE m.enums),.lst m.moves.length (fl moE m.moves)]:=rfl
theorem WS (m:ModT):(mdE m).length=3:=nr (by rw[UH];rfl)
theorem jaU (m:ModT)(k:Nat):(mdE m).getD k .bad=([.lst m.vars.length (fl vaE m.vars),.lst m.enums.length (fl enE m.enums),.lst m.moves.length (fl moE m.moves)]:List AV).getD k .bad:=nr (by rw[UH])
theorem jmj (m:ModT)(k:Nat):(mdE m).drop k=([.lst m.vars.length (fl vaE m.vars),.lst m.enums.length (fl enE m.enums),.lst m.moves.length (fl moE m.moves)]:List AV).drop k:=nr (by rw[UH])
theorem jaV (m:ModT):lall AV.cell (mdE m)=true:=nr (by rw[UH];rfl)
theorem QY (m:ModT):(mdE m).all pc=true:=nr (by rw[UH];rfl)
theorem jmi (m:ModT):(mdE m).all eqs=true:=nr (by rw[UH];rfl)
theorem jmh {st:St}{K:AV->St->Prop}{xs:List ModT}{i:Nat}(h:i<xs.length):jk (zf 3 (.lptr (fl mdE xs) (i * 3)) st) K=K (.agg (mdE xs[i])) st:=J0 WS h
theorem jhW {st:St}{K:AV->St->Prop}{xs:List ModT}{i:Nat}(h:i<xs.length){k:Nat}(hk:k<3):jk (qZ (.lptr (fl mdE xs) (i * 3+k)) st) K=K ((mdE xs[i]).getD k .bad) st:=ya WS h hk
theorem jhX {st:St}{K:AV->St->Prop}{xs:List ModT}{i:Nat}(h:i<xs.length):jk (qZ (.lptr (fl mdE xs) (i * 3)) st) K=K ((mdE xs[i]).getD 0 .bad) st:=ya (k:=0) WS h (by decide)
theorem jq:type_of% (aI @WS (aI @jaU (aI @jmj (aI @jaV (aI @jmh (aI @jhX @jhW)))))):=aI @WS (aI @jaU (aI @jmj (aI @jaV (aI @jmh (aI @jhX @jhW)))))
theorem X9:type_of% (aI @WS (aI @jaV @jaU)):=aI @WS (aI @jaV @jaU)
theorem K1 (m:MtT):mtE m=[.int .i64 m.kind,.str m.enum,.int .i64 m.lo,.int .i64 m.hi]:=rfl
theorem JL (m:MtT):(mtE m).length=4:=nr (by rw[K1];rfl)
theorem UG (m:MtT)(k:Nat):(mtE m).getD k .bad=([.int .i64 m.kind,.str m.enum,.int .i64 m.lo,.int .i64 m.hi]:List AV).getD k .bad:=nr (by rw[K1])
theorem jmd (m:MtT)(k:Nat):(mtE m).drop k=([.int .i64 m.kind,.str m.enum,.int .i64 m.lo,.int .i64 m.hi]:List AV).drop k:=nr (by rw[K1])
theorem jaQ (m:MtT):lall AV.cell (mtE m)=true:=nr (by rw[K1];rfl)
theorem YX (m:MtT):(mtE m).all pc=true:=nr (by rw[K1];rfl)
theorem jaP {st:St}{K:AV->St->Prop}{xs:List MtT}{i:Nat}(h:i<xs.length):jk (zf 4 (.lptr (fl mtE xs) (i * 4)) st) K=K (.agg (mtE xs[i])) st:=J0 JL h
theorem jhR {st:St}{K:AV->St->Prop}{xs:List MtT}{i:Nat}(h:i<xs.length){k:Nat}(hk:k<4):jk (qZ (.lptr (fl mtE xs) (i * 4+k)) st) K=K ((mtE xs[i]).getD k .bad) st:=ya JL h hk
theorem jhS {st:St}{K:AV->St->Prop}{xs:List MtT}{i:Nat}(h:i<xs.length):jk (qZ (.lptr (fl mtE xs) (i * 4)) st) K=K ((mtE xs[i]).getD 0 .bad) st:=ya (k:=0) JL h (by decide)
theorem jo:type_of% (aI @JL (aI @UG (aI @jmd (aI @jaQ (aI @jaP (aI @jhS @jhR)))))):=aI @JL (aI @UG (aI @jmd (aI @jaQ (aI @jaP (aI @jhS @jhR)))))
theorem X7:type_of% (aI @JL (aI @jaQ @UG)):=aI @JL (aI @jaQ @UG)
theorem dzG {p:Prop}(h:p:=by first|assumption|decide|omega|(simp only[qQ,ze,zb,zd,q8,zc,za,XZ,X5,X8,X9,X7,rzN,Qak,Qan];first|done|omega)|(apply J4<;>first|omega|((simp(disch:=first|assumption|omega|(simp only[qQ,ze,zb,zd,q8,zc,za,XZ,X5,X8,X9,X7,rzN,Qak,Qan];first|done|omega)) only[rzL,Qak,Qan,QaP,Qab,qQ,ze,zb,zd,q8,zc,za,XZ,X5,X8,X9,X7 ])<;>first|done|omega))|(simp(disch:=first|assumption|omega|(simp only[qQ,ze,zb,zd,q8,zc,za,XZ,X5,X8,X9,X7,rzN,Qak,Qan];first|done|omega)) only[qQ,ze,zb,zd,q8,zc,za,XZ,X5,X8,X9,X7,rzG,Qag,Qah,Qac,Qbj,Qak,Qan,Qay,QaF];first|done|omega|decide)):p:=h
theorem cyG {p:Prop}(h:p:=by apply J4<;>first|omega|((simp(disch:=first|assumption|omega|(simp only[qQ,ze,zb,zd,q8,zc,za,XZ,X5,X8,X9,X7,rzN,Qak,Qan];first|done|omega)) only[rzL,Qak,Qan,QaP,Qab,qQ,ze,zb,zd,q8,zc,za,XZ,X5,X8,X9,X7])<;>first|done|rfl|omega|(simp;done)|(simp;omega))):p:=h
theorem jO {p:Prop}(h:p:=by first|assumption|decide|omega|(simp only[qQ,ze,zb,zd,q8,zc,za,XZ,X5,X8,X9,X7,zz,rzN,Qak,Qan];first|done|omega)|(apply J4<;>first|omega|((simp(disch:=first|assumption|omega|(simp only[qQ,ze,zb,zd,q8,zc,za,XZ,X5,X8,X9,X7,zz,rzN,Qak,Qan];first|done|omega)) only[rzL,Qak,Qan,QaP,Qab,qQ,ze,zb,zd,q8,zc,za,XZ,X5,X8,X9,X7,zz ])<;>first|done|omega))|(simp(disch:=first|assumption|omega|(simp only[qQ,ze,zb,zd,q8,zc,za,XZ,X5,X8,X9,X7,zz,rzN,Qak,Qan];first|done|omega)) only[qQ,ze,zb,zd,q8,zc,za,XZ,X5,X8,X9,X7,zz,rzG,Qag,Qah,Qac,Qbj,Qak,Qan,Qay,QaF];first|done|omega|decide)):p:=h
def kf (c l k:Int):AV:=.iface 45 (.agg [.int .i64 c,.int .i64 l,.int .i64 k])
theorem zQ (hb:NB base)(c l k:Int):Ret base 94 [.int .i64 c,.int .i64 l,.int .i64 k] (.pn (kf c l k)):=by
 refine hb.ret ?_ rfl rfl;refine jF x98 (by rfl) (hb.pur 94 1 (by decide)) ?_;simp only[y98,ju,Qai,Qaj,Qag,Qah];rw[(by unfold z98;simp only[qq];rfl:z98=_)];repeat'(first|apply jc<;>intro _|simp(disch:=first|exact dzG|fail) only[je,jj,ji,jd,jm,jn,jp,jq,jo,rzZ,Qab,Qac,Qad,Qaa,Qae])
 exact FzD.iface (FzD.agg (.pc rfl))
theorem jmW (hb:NB base)(v:VarT)(s:List Nat):Tot base 126 [.agg (vaE v),.lptr [.str s] 0] (.bool (decide (v.name=s))):=by
 refine hb.tot ?_ (by first|rfl|simp[pa,pc,qO,Q3,JV,Jy,YM,wh,wt,QY,YX]) rfl;refine jF jsG (by rfl) (hb.pur 126 1 (by decide)) ?_;simp only[joz,ju,Qai,Qaj,Qag,Qah];rw[(by unfold jjK;simp only[qq];rfl:jjK=_)];repeat'(first|apply jc<;>intro _|simp(disch:=first|exact dzG|fail) only[JA,je,jj,ji,jd,jm,jn,jp,jq,jo,rzZ,Qab,Qac,Qad,Qaa,Qae])
 exact G0.v rfl rfl
theorem jlc (hb:NB base)(e:EnumT)(d:DeclT):Tot base 93 [.agg (enE e),.lptr (qg d) 0] (.bool (decide (e.name=d.ty))):=by
 refine hb.tot ?_ (by first|rfl|simp[pa,pc,qO,Q3,JV,Jy,YM,wh,wt,QY,YX]) rfl;refine jF js5 (by rfl) (hb.pur 93 1 (by decide)) ?_;simp only[joY,ju,Qai,Qaj,Qag,Qah];rw[(by unfold jj9;simp only[qq];rfl:jj9=_)];repeat'(first|apply jc<;>intro _|simp(disch:=first|exact dzG|fail) only[JA,je,jj,ji,jd,jm,jn,jp,jq,jo,rzZ,Qab,Qac,Qad,Qaa,Qae])
 exact G0.v rfl rfl
theorem jq6 (hb:NB base)(b a:AsT):Tot base 99 [.agg (asE b),.lptr (asE a) 0] (.bool (decide (b.name=a.name))):=by
 refine hb.tot ?_ (by first|rfl|simp[pa,pc,qO,Q3,JV,Jy,YM,wh,wt,QY,YX]) rfl;refine jF js0 (by rfl) (hb.pur 99 1 (by decide)) ?_;simp only[joT,ju,Qai,Qaj,Qag,Qah];rw[(by unfold jj4;simp only[qq];rfl:jj4=_)];repeat'(first|apply jc<;>intro _|simp(disch:=first|exact dzG|fail) only[JA,je,jj,ji,jd,jm,jn,jp,jq,jo,rzZ,Qab,Qac,Qad,Qaa,Qae])
 exact G0.v rfl rfl
theorem jiz (hb:NB base)(xs:List VarT)(hl:xs.length<=BIG)(nm:List Nat):PL Qaf base 125 [.lst xs.length (fl vaE xs),.fn 126 [.lptr [.str nm] 0]] (.ok (.int .i64 (fi (λx=>decide (x.name=nm)) xs))):=by
 refine QM jsH (by rfl) (hb.pur 125 5 (by decide)) rfl ?_;simp only[joA,ju,Qai,Qaj,Qag,Qah];rw[(by unfold jjL;simp only[qq];rfl:jjL=_)];unfold BIG at hl;repeat'(first|apply jc<;>intro _|simp(disch:=first|exact dzG|fail) only[je,jj,ji,jd,jm,jn,jp,jq,jo,rzZ,Qab,Qac,Qad,Qaa,Qae])
 refine qp xs.length (λk L s=>(∀ j (hj:j<xs.length),j<k->(λx=>decide (x.name=nm)) xs[j]=false)/\Has L 0 (.lst xs.length (fl vaE xs))/\Has L 1 (.fn 126 [.lptr [.str nm] 0])) (by first|assumption|omega) (by decide) (by simp(disch:=decide) only[jf,jb]) (by simp(disch:=decide) only[jf,jb]) ?_ (λk L s v h=>by simp(disch:=decide) only[jb];exact h) (λk L s v h=>by simp(disch:=decide) only[jb];exact h) (λk L s hk hI hi hn=>?_) (λL s hI=>?_)
 ·refine⟨λj _ hj=>absurd hj (Qbg _),?_⟩;simp(disch:=decide) only[Qam,Qar,z0,z1,jf,jb,and_true,true_and]
 ·obtain⟨h0,i0,i1⟩:=hI;have e:=jmW hb xs[k] nm;repeat'(first|apply jc<;>intro _|simp(disch:=first|exact dzG|fail) only[ja i0,ja i1,ja hi,ja hn,e,je,jj,ji,jd,jm,jn,jp,jq,jo,rzZ,Qab,Qac,Qad,Qaa,Qae])
  ·rename_i h;exact G0.v (congrArg _ (wD hk (λj hj=>h0 j (by omega) hj) (by simpa using h)).symm) rfl
  ·rename_i h;refine⟨⟨λj hj hjk=>?_,?_⟩,?_⟩
   ·rcases QaT j k with h2|h2
    ·have:=h0 j hj h2;simpa using this
    ·have:j=k:=by omega
     subst this;simpa using h
   ·simp(disch:=decide) only[Qam,Qar,z0,z1,jf,jb,and_true,true_and,i0,i1]
   ·simp(disch:=decide) only[Qam,Qar,z0,z1,jf,jb,and_true,true_and,hi,hn]
 ·obtain⟨h0,i0,i1⟩:=hI;repeat'(first|apply jc<;>intro _|simp(disch:=first|exact dzG|fail) only[je,jj,ji,jd,jm,jn,jp,jq,jo,rzZ,Qab,Qac,Qad,Qaa,Qae])
  exact G0.v (congrArg _ (wC λj hj=>h0 j hj hj).symm) rfl
theorem jfQ (hb:NB base)(xs:List EnumT)(hl:xs.length<=BIG)(d:DeclT):PL Qaf base 92 [.lst xs.length (fl enE xs),.fn 93 [.lptr (qg d) 0]] (.ok (.int .i64 (fi (λx=>decide (x.name=d.ty)) xs))):=by
 refine QM js6 (by rfl) (hb.pur 92 5 (by decide)) rfl ?_;simp only[joZ,ju,Qai,Qaj,Qag,Qah];rw[(by unfold jka;simp only[qq];rfl:jka=_)];unfold BIG at hl;repeat'(first|apply jc<;>intro _|simp(disch:=first|exact dzG|fail) only[je,jj,ji,jd,jm,jn,jp,jq,jo,rzZ,Qab,Qac,Qad,Qaa,Qae])
 refine qp xs.length (λk L s=>(∀ j (hj:j<xs.length),j<k->(λx=>decide (x.name=d.ty)) xs[j]=false)/\Has L 0 (.lst xs.length (fl enE xs))/\Has L 1 (.fn 93 [.lptr (qg d) 0])) (by first|assumption|omega) (by decide) (by simp(disch:=decide) only[jf,jb]) (by simp(disch:=decide) only[jf,jb]) ?_ (λk L s v h=>by simp(disch:=decide) only[jb];exact h) (λk L s v h=>by simp(disch:=decide) only[jb];exact h) (λk L s hk hI hi hn=>?_) (λL s hI=>?_)
 ·refine⟨λj _ hj=>absurd hj (Qbg _),?_⟩;simp(disch:=decide) only[Qam,Qar,z0,z1,jf,jb,and_true,true_and]
 ·obtain⟨h0,i0,i1⟩:=hI;have e:=jlc hb xs[k] d;repeat'(first|apply jc<;>intro _|simp(disch:=first|exact dzG|fail) only[ja i0,ja i1,ja hi,ja hn,e,je,jj,ji,jd,jm,jn,jp,jq,jo,rzZ,Qab,Qac,Qad,Qaa,Qae])
  ·rename_i h;exact G0.v (congrArg _ (wD hk (λj hj=>h0 j (by omega) hj) (by simpa using h)).symm) rfl
  ·rename_i h;refine⟨⟨λj hj hjk=>?_,?_⟩,?_⟩
   ·rcases QaT j k with h2|h2
    ·have:=h0 j hj h2;simpa using this
    ·have:j=k:=by omega
     subst this;simpa using h
   ·simp(disch:=decide) only[Qam,Qar,z0,z1,jf,jb,and_true,true_and,i0,i1]
   ·simp(disch:=decide) only[Qam,Qar,z0,z1,jf,jb,and_true,true_and,hi,hn]
 ·obtain⟨h0,i0,i1⟩:=hI;repeat'(first|apply jc<;>intro _|simp(disch:=first|exact dzG|fail) only[je,jj,ji,jd,jm,jn,jp,jq,jo,rzZ,Qab,Qac,Qad,Qaa,Qae])
  exact G0.v (congrArg _ (wC λj hj=>h0 j hj hj).symm) rfl
theorem jk5 (hb:NB base)(xs:List AsT)(hl:xs.length<=BIG)(a:AsT):PL Qaf base 127 [.lst xs.length (fl asE xs),.fn 99 [.lptr (asE a) 0]] (.ok (.int .i64 (fi (λx=>decide (x.name=a.name)) xs))):=by
 refine QM jsF (by rfl) (hb.pur 127 5 (by decide)) rfl ?_;simp only[joy,ju,Qai,Qaj,Qag,Qah];rw[(by unfold je2;simp only[qq];rfl:je2=_)];unfold BIG at hl;repeat'(first|apply jc<;>intro _|simp(disch:=first|exact dzG|fail) only[je,jj,ji,jd,jm,jn,jp,jq,jo,rzZ,Qab,Qac,Qad,Qaa,Qae])
 refine qp xs.length (λk L s=>(∀ j (hj:j<xs.length),j<k->(λx=>decide (x.name=a.name)) xs[j]=false)/\Has L 0 (.lst xs.length (fl asE xs))/\Has L 1 (.fn 99 [.lptr (asE a) 0])) (by first|assumption|omega) (by decide) (by simp(disch:=decide) only[jf,jb]) (by simp(disch:=decide) only[jf,jb]) ?_ (λk L s v h=>by simp(disch:=decide) only[jb];exact h) (λk L s v h=>by simp(disch:=decide) only[jb];exact h) (λk L s hk hI hi hn=>?_) (λL s hI=>?_)
 ·refine⟨λj _ hj=>absurd hj (Qbg _),?_⟩;simp(disch:=decide) only[Qam,Qar,z0,z1,jf,jb,and_true,true_and]
 ·obtain⟨h0,i0,i1⟩:=hI;have e:=jq6 hb xs[k] a;repeat'(first|apply jc<;>intro _|simp(disch:=first|exact dzG|fail) only[ja i0,ja i1,ja hi,ja hn,e,je,jj,ji,jd,jm,jn,jp,jq,jo,rzZ,Qab,Qac,Qad,Qaa,Qae])
  ·rename_i h;exact G0.v (congrArg _ (wD hk (λj hj=>h0 j (by omega) hj) (by simpa using h)).symm) rfl
  ·rename_i h;refine⟨⟨λj hj hjk=>?_,?_⟩,?_⟩
   ·rcases QaT j k with h2|h2
    ·have:=h0 j hj h2;simpa using this
    ·have:j=k:=by omega
     subst this;simpa using h
   ·simp(disch:=decide) only[Qam,Qar,z0,z1,jf,jb,and_true,true_and,i0,i1]
   ·simp(disch:=decide) only[Qam,Qar,z0,z1,jf,jb,and_true,true_and,hi,hn]
 ·obtain⟨h0,i0,i1⟩:=hI;repeat'(first|apply jc<;>intro _|simp(disch:=first|exact dzG|fail) only[je,jj,ji,jd,jm,jn,jp,jq,jo,rzZ,Qab,Qac,Qad,Qaa,Qae])
  exact G0.v (congrArg _ (wC λj hj=>h0 j hj hj).symm) rfl
theorem jnD (hb:NB base)(xs:List AsT)(hl:xs.length<=BIG)(a:AsT):PL Qaf base 98 [.lst xs.length (fl asE xs),.fn 99 [.lptr (asE a) 0]] (.ok (.bool (decide (0<=fi (λx=>decide (x.name=a.name)) xs)))):=by
 refine QM js1 (by rfl) (hb.pur 98 5 (by decide)) rfl ?_;simp only[joU,ju,Qai,Qaj,Qag,Qah];rw[(by unfold jj5;simp only[qq];rfl:jj5=_)];have F:∀ (st:St) (K Kp:AV->St->Prop),XB Qaf base 127 [.lst xs.length (fl asE xs),.fn 99 [.lptr (asE a) 0]] st K Kp=_:=λst K Kp=>(jk5 hb xs hl a).xb (Zo rfl (Jm rfl rfl)) (λst=>hb.no 127 (by decide) _ _) K Kp;repeat'(first|apply jc<;>intro _|simp(disch:=first|exact dzG|fail) only[F,je,jj,ji,jd,jm,jn,jp,jq,jo,rzZ,Qab,Qac,Qad,Qaa,Qae])
 exact G0.v rfl rfl
def qJ (op:Int):Int×Int:=if op=5\/op=14\/op=15\/op=16 then(1,1) else if op=19\/op=20\/op=21\/op=22 then(1,2) else if op=17\/op=18 then(0,2) else(2,2)
def zS (op:Int):Bool:=(decide (7<=op) && decide (op<=13)) ||(decide (23<=op) && decide (op<=26))
theorem G0.tupi {s:St}{a b:Int}{u:AV}(h:u=.tup [.int .i64 a,.int .i64 b]):G0 u (.tup [.int .i64 a,.int .i64 b]) s:=by
 subst h;exact FzD.tup (.cons (.pc rfl) (.cons (.pc rfl) .nil))
theorem jmV (hb:NB base)(op:Int):Tot base 132 [.int .i64 op] (.tup [.int .i64 (qJ op).1,.int .i64 (qJ op).2]):=by
 refine hb.tot ?_ rfl rfl;refine jF jsL (by rfl) (hb.pur 132 1 (by decide)) ?_;simp only[joE,ju,Qai,Qaj,Qag,Qah];rw[(by unfold jjP;simp only[qq];rfl:jjP=_)];repeat'(first|apply jc<;>intro _|simp(disch:=first|exact dzG|fail) only[je,jj,ji,jd,jm,jn,jp,jq,jo,rzZ,Qab,Qac,Qad,Qaa,Qae])
 all_goals(refine G0.tupi ?_;unfold qJ;simp_all)
theorem jpn (hb:NB base)(op:Int):Tot base 133 [.int .i64 op] (.bool (zS op)):=by
 refine hb.tot ?_ rfl rfl;refine jF jsK (by rfl) (hb.pur 133 1 (by decide)) ?_;simp only[joD,ju,Qai,Qaj,Qag,Qah];rw[(by unfold jjO;simp only[qq];rfl:jjO=_)];repeat'(first|apply jc<;>intro _|simp(disch:=first|exact dzG|fail) only[je,jj,ji,jd,jm,jn,jp,jq,jo,rzZ,Qab,Qac,Qad,Qaa,Qae])
 all_goals(refine G0.v (congrArg AV.bool ?_) rfl;rw[QaW];simp only[zS,QaO,Qaq,decide_eq_true_eq,Qbd,QbK,Qbf,decide_eq_false_iff_not,true_iff,false_iff,iff_true,iff_false,not_true_eq_false,not_false_eq_true,ne_eq,eq_self]<;>omega)
def VJ:List Int->Int
 |[]=>0
 |x :: xs=>xs.foldl min x
def VK:List Int->Int
 |[]=>0
 |x :: xs=>xs.foldl max x
theorem jp3 {l:List Int}{k:Nat}(h0:0<k)(h:k<l.length):VJ (l.take (k+1))=min (VJ (l.take k)) l[k]:=by
 match l,k,h0,h with
 |x :: xs,k+1,_,h=>
  have h':k<xs.length:=by simpa using h
  show(xs.take (k+1)).foldl min x=min ((xs.take k).foldl min x) xs[k];rw[yO h',QbX];rfl
theorem jp4 {l:List Int}{k:Nat}(h0:0<k)(h:k<l.length):VK (l.take (k+1))=max (VK (l.take k)) l[k]:=by
 match l,k,h0,h with
 |x :: xs,k+1,_,h=>
  have h':k<xs.length:=by simpa using h
  show(xs.take (k+1)).foldl max x=max ((xs.take k).foldl max x) xs[k];rw[yO h',QbX];rfl
theorem vf {S:List Int}{k:Nat}{st:St}{K:AV->St->Prop}(h:k<S.length):jk (qZ (.lptr (S.map (AV.int .i64)) k) st) K=K (.int .i64 S[k]) st:=by
 rw[JA (by simpa using h)]
 congr 1
 simp[QaJ,h]
theorem jsc (hb:NB base)(l:List Int)(h0:0<l.length)(hl:l.length<=1000000):PX Qaf base 167 [.lst l.length (l.map (AV.int .i64))] (.ok (.int .i64 (VJ l))):=by
 have z:¬ ((l.length:Int)<1):=by omega
 have e1:VJ (l.take 1)=l[0]:=by match l,h0 with|x :: xs,_=>rfl
 refine jF jsq (by rfl) (hb.pur 167 1 (by decide)) ?_;simp only[joj,ju,Qai,Qaj,Qag,Qah];rw[(by unfold jjv;simp only[qq];rfl:jjv=_)];repeat'(first|apply jc<;>intro _|simp(disch:=first|exact dzG|fail) only[z,vf,je,jj,ji,jd,jm,jn,jp,jq,jo,rzZ,Qab,Qac,Qad,Qaa,Qae])
 refine yH (λmm L s=>∃ k:Nat,1<=k/\k<=l.length/\mm=l.length - k/\Has L 0 (.lst l.length (l.map (AV.int .i64)))/\Has L 3 (.int .i64 (VJ (l.take k)))/\Has L 4 (.int .i64 (k:Int))) ?_ (l.length - 1) ?_
 ·rintro m L s ⟨k,hk1,hk,rfl,i0,i3,i4⟩;by_cases hlt:k<l.length
  ·have hlt':(k:Int)<(l.length:Int):=by omega
   have es:=jp3 hk1 hlt;have e2:(((k+1:Nat):Int))=(k:Int)+1:=by omega
   repeat'(first|apply jc<;>intro _|simp(disch:=first|exact dzG|fail) only[ja i0,ja i3,ja i4,hlt',vf,je,jj,ji,jd,jm,jn,jp,jq,jo,rzZ,Qab,Qac,Qad,Qaa,Qae])
   refine⟨l.length - (k+1),by omega,k+1,by omega,by omega,rfl,?_⟩;rw[es];simp(disch:=decide) only[Qam,Qar,z0,z1,jf,jb,and_true,true_and,i0,e2]
  ·have hlt':¬ (k:Int)<(l.length:Int):=by omega
   have hk':k=l.length:=by omega
   subst hk';rw[QaB] at i3;repeat'(first|apply jc<;>intro _|simp(disch:=first|exact dzG|fail) only[ja i0,ja i3,ja i4,hlt',je,jj,ji,jd,jm,jn,jp,jq,jo,rzZ,Qab,Qac,Qad,Qaa,Qae])
   exact G0.v rfl rfl
 ·refine⟨1,by omega,by omega,rfl,?_⟩;rw[e1];simp(disch:=decide) only[Qam,Qar,z0,z1,jf,jb,and_true,true_and]
theorem jsd (hb:NB base)(l:List Int)(h0:0<l.length)(hl:l.length<=1000000):PX Qaf base 168 [.lst l.length (l.map (AV.int .i64))] (.ok (.int .i64 (VK l))):=by
 have z:¬ ((l.length:Int)<1):=by omega
 have e1:VK (l.take 1)=l[0]:=by match l,h0 with|x :: xs,_=>rfl
 refine jF jsp (by rfl) (hb.pur 168 1 (by decide)) ?_;simp only[joi,ju,Qai,Qaj,Qag,Qah];rw[(by unfold jju;simp only[qq];rfl:jju=_)];repeat'(first|apply jc<;>intro _|simp(disch:=first|exact dzG|fail) only[z,vf,je,jj,ji,jd,jm,jn,jp,jq,jo,rzZ,Qab,Qac,Qad,Qaa,Qae])
 refine yH (λmm L s=>∃ k:Nat,1<=k/\k<=l.length/\mm=l.length - k/\Has L 0 (.lst l.length (l.map (AV.int .i64)))/\Has L 3 (.int .i64 (VK (l.take k)))/\Has L 4 (.int .i64 (k:Int))) ?_ (l.length - 1) ?_
 ·rintro m L s ⟨k,hk1,hk,rfl,i0,i3,i4⟩;by_cases hlt:k<l.length
  ·have hlt':(k:Int)<(l.length:Int):=by omega
   have es:=jp4 hk1 hlt;have e2:(((k+1:Nat):Int))=(k:Int)+1:=by omega
   repeat'(first|apply jc<;>intro _|simp(disch:=first|exact dzG|fail) only[ja i0,ja i3,ja i4,hlt',vf,je,jj,ji,jd,jm,jn,jp,jq,jo,rzZ,Qab,Qac,Qad,Qaa,Qae])
   refine⟨l.length - (k+1),by omega,k+1,by omega,by omega,rfl,?_⟩;rw[es];simp(disch:=decide) only[Qam,Qar,z0,z1,jf,jb,and_true,true_and,i0,e2]
  ·have hlt':¬ (k:Int)<(l.length:Int):=by omega
   have hk':k=l.length:=by omega
   subst hk';rw[QaB] at i3;repeat'(first|apply jc<;>intro _|simp(disch:=first|exact dzG|fail) only[ja i0,ja i3,ja i4,hlt',je,jj,ji,jd,jm,jn,jp,jq,jo,rzZ,Qab,Qac,Qad,Qaa,Qae])
   exact G0.v rfl rfl
 ·refine⟨1,by omega,by omega,rfl,?_⟩;rw[e1];simp(disch:=decide) only[Qam,Qar,z0,z1,jf,jb,and_true,true_and]
theorem QO:∀ l:List Int,(l.map (AV.int .i64)).all pc=true
 |[]=>rfl
 |x :: xs=>by rw[Qai,Qbb,QO xs];rfl
theorem jrc (hb:NB base)(l:List Int)(h0:0<l.length)(hl:l.length<=1000000):PX Qaf base 153 [.lst l.length (l.map (AV.int .i64))] (.ok (.tup [.int .i64 (VJ l),.int .i64 (VK l)])):=by
 have A:=hb.tot (jsc hb l h0 hl) rfl rfl;have B:=hb.tot (jsd hb l h0 hl) rfl rfl;refine jF jsu (by rfl) (hb.pur 153 1 (by decide)) ?_;simp only[jon,ju,Qai,Qaj,Qag,Qah];rw[(by unfold jjz;simp only[qq];rfl:jjz=_)];repeat'(first|apply jc<;>intro _|simp(disch:=first|exact dzG|fail) only[A,B,je,jj,ji,jd,jm,jn,jp,jq,jo,rzZ,Qab,Qac,Qad,Qaa,Qae])
 exact G0.tupi rfl
theorem jhk (hb:NB base)(l:List Int){cs:List AV}{n:Nat}(hc:l.map (AV.int .i64)=cs)(hn:l.length=n)(h0:0<n)(hl:n<=1000000)(st:St)(b m:Nat)(x:Bool)(D:Cl st b cs)(K Kp:AV->St->Prop) :
  XB Qaf base 153 [.slice b 0 n m 1 x] st K Kp=K (.tup [.int .i64 (VJ l),.int .i64 (VK l)]) (kl b st):=by
 subst hc hn;have F:Fza st [.slice b 0 l.length m 1 x] [.lst l.length (l.map (AV.int .i64))] [b]:=Fza.sl D (by simp) (QO l) .nil;exact(jrc hb l h0 hl).xf F (λst=>hb.no 153 (by decide) _ _) K Kp
def zK (op:Int)(a b:MtT):Int×Int:=
 if op=5 then(min (-a.lo) (-a.hi),max (-a.lo) (-a.hi))
 else if op=15 then(min (a.lo+b.lo) (a.hi+b.hi),max (a.lo+b.lo) (a.hi+b.hi))
 else if op=16 then(min (a.lo - b.hi) (a.hi - b.lo),max (a.lo - b.hi) (a.hi - b.lo))
 else(min (min (min (a.lo * b.lo) (a.lo * b.hi)) (a.hi * b.lo)) (a.hi * b.hi),max (max (max (a.lo * b.lo) (a.lo * b.hi)) (a.hi * b.lo)) (a.hi * b.hi))
def Z7 (m:MtT):Prop:=-100000000<=m.lo/\m.lo<=100000000/\-100000000<=m.hi/\m.hi<=100000000
theorem K0 {a b:Int}(h1 : -100000000<=a)(h2:a<=100000000)(h3 : -100000000<=b)(h4:b<=100000000) : -10000000000000000<=a * b/\a * b<=10000000000000000:=by
 have e:a.natAbs * b.natAbs<=100000000 * 100000000:=Nat.mul_le_mul (by omega) (by omega);have e2:(a * b).natAbs=a.natAbs * b.natAbs:=Int.natAbs_mul a b;omega
set_option maxHeartbeats 1000000 in
theorem jje (hb:NB base)(op:Int)(ms:List MtT)(h0:0<ms.length)(hl:ms.length<=2)(he:∀ m∈ms,Z7 m)(a b:MtT)(ha:ms[0]=a)(hb2:ms[ms.length - 1]=b) :
  PX Qaf base 134 [.int .i64 op,.lst ms.length (fl mtE ms)] (.ok (.tup [.int .i64 (zK op a b).1,.int .i64 (zK op a b).2])):=by
 obtain⟨a1,a2,a3,a4⟩:=ha▸he _ (Qax h0);obtain⟨b1,b2,b3,b4⟩:=hb2▸he _ (Qax (show ms.length - 1<ms.length by omega));have m1:=K0 a1 a2 b1 b2;have m2:=K0 a1 a2 b3 b4;have m3:=K0 a3 a4 b1 b2;have m4:=K0 a3 a4 b3 b4;have ld0:∀ (st:St) (K:AV->St->Prop),jk (zf 4 (.lptr (fl mtE ms) 0) st) K=K (.agg (mtE a)) st:=λst K=>by
  have:=jaP (st:=st) (K:=K) h0;rw[Qbq,ha] at this;exact this
 have ld1:∀ (st:St) (K:AV->St->Prop),jk (zf 4 (.lptr (fl mtE ms) ((ms.length - 1) * 4)) st) K=K (.agg (mtE b)) st:=λst K=>by
  have:=jaP (st:=st) (K:=K) (show ms.length - 1<ms.length by omega);rw[hb2] at this;exact this
 have el:((ms.length:Int) - 1).toNat=ms.length - 1:=by omega
 have S2:=λ(p q:Int)=>jhk hb [p,q] (cs:=[.int .i64 p,.int .i64 q]) (n:=2) rfl rfl (by decide) (by decide);have S4:=λ(p q r t:Int)=>jhk hb [p,q,r,t] (cs:=[.int .i64 p,.int .i64 q,.int .i64 r,.int .i64 t]) (n:=4) rfl rfl (by decide) (by decide);have Sa:=S2 (-a.lo) (-a.hi);have Sb:=S2 (a.lo+b.lo) (a.hi+b.hi);have Sc:=S2 (a.lo - b.hi) (a.hi - b.lo);have Sd:=S4 (a.lo * b.lo) (a.lo * b.hi) (a.hi * b.lo) (a.hi * b.hi);clear S2 S4;clear he;refine jF jsJ (by rfl) (hb.pur 134 1 (by decide)) ?_;simp only[joC,ju,Qai,Qaj,Qag,Qah];rw[(by unfold jjN;simp only[qq];rfl:jjN=_)];repeat'(first|apply jc<;>intro _|simp(disch:=first|exact dzG|fail) only[el,ld0,ld1,Sa,Sb,Sc,Sd,je,jj,ji,jd,jm,jn,jp,jq,jo,rzZ,Qab,Qac,Qad,Qaa,Qae])
 all_goals(refine G0.tupi ?_;unfold zK VJ VK;simp_all)
inductive KR (α:Type) where
 |ok (x:α)
 |er (c l k:Int)
def jY (vars:List VarT)(s:List Nat):Int:=fi (λx=>decide (x.name=s)) vars
theorem jiA (hb:NB base)(vars:List VarT)(hl:vars.length<=BIG)(s:List Nat)(st:St)(b:Nat)(C:Cl st b [.str s])(K Kp:AV->St->Prop) :
  XB Qaf base 125 [.lst vars.length (fl vaE vars),.fn 126 [.ptr b 0]] st K Kp=K (.int .i64 (jY vars s)) st:=by
 refine(jiz hb vars hl s).xb (Zo rfl (Jm ?_ rfl)) (λst=>hb.no 125 (by decide) _ _) K Kp;show(Xa st.h [.ptr b 0]).map (AV.fn 126)=_;have:wx st.h (.ptr b 0)=some (.lptr [.str s] 0):=WX C (Qc (W0 8 rfl) rfl GI);simp only[Xa,this];rfl
theorem Ki (hb:NB base)(vars:List VarT)(hl:vars.length<=BIG)(s:List Nat)(r:List AV):PL Qaf base 97 [.lptr (.lst vars.length (fl vaE vars) :: r) 0,.str s] (.ok (.int .i64 (jY vars s))):=by
 refine QM js2 (by rfl) (hb.pur 97 5 (by decide)) rfl ?_;simp only[joV,ju,Qai,Qaj,Qag,Qah];rw[(by unfold jj6;simp only[qq];rfl:jj6=_)];have F:=jiA hb vars hl s;repeat'(first|apply jc<;>intro _|simp(disch:=first|exact dzG|fail) only[F,JA,je,jj,ji,jd,jm,jn,jp,jq,jo,rzZ,Qab,Qac,Qad,Qaa,Qae])
 exact G0.v rfl rfl
def yx:List EnumT->List Nat->List Nat×Int
 |[],_=>([],-1)
 |e :: es,nm=>if 0<=fi (λv=>decide (nm=v)) e.vals then(e.name,fi (λv=>decide (nm=v)) e.vals) else yx es nm
theorem kD:∀ {es:List EnumT} {nm:List Nat} {k:Nat} (h:k<es.length),(∀ j (hj:j<es.length),j<k->fi (λv=>decide (nm=v)) es[j].vals<0)->0<=fi (λv=>decide (nm=v)) es[k].vals->yx es nm=(es[k].name,fi (λv=>decide (nm=v)) es[k].vals)
 |e :: es,nm,0,h,_,h2=>by simp only[Qbx] at h2 ⊢;rw[yx,if_pos h2]
 |e :: es,nm,k+1,h,h1,h2=>by
  have h0:=h1 0 (by simp) (by omega);simp only[Qbx] at h0;rw[yx,if_neg (by omega)];simp only[QbF] at h2 ⊢;exact kD (by simpa using h) (λj hj hjk=>by have:=h1 (j+1) (by simpa using hj) (by omega);simpa only[QbF] using this) h2
theorem kC:∀ {es:List EnumT} {nm:List Nat},(∀ j (hj:j<es.length),fi (λv=>decide (nm=v)) es[j].vals<0)->yx es nm=([],-1)
 |[],nm,_=>rfl
 |e :: es,nm,h=>by
  have h0:=h 0 (by simp);simp only[Qbx] at h0;rw[yx,if_neg (by omega)];exact kC λj hj=>by have:=h (j+1) (by simpa using hj);simpa only[QbF] using this
theorem jde {s:St}{a:List Nat}{b:Int}{u:AV}(h:u=.tup [.str a,.int .i64 b]):G0 u (.tup [.str a,.int .i64 b]) s:=by
 subst h;exact FzD.tup (.cons (.pc rfl) (.cons (.pc rfl) .nil))
theorem jmY (hb:NB base)(enums:List EnumT)(hl:enums.length<=BIG)(hv:∀ e∈enums,e.vals.length<=1000000)(nm:List Nat)(v:AV)(r:List AV):PL Qaf base 152 [.lptr (v :: .lst enums.length (fl enE enums) :: r) 0,.str nm] (.ok (.tup [.str (yx enums nm).1,.int .i64 (yx enums nm).2])):=by
 refine QM jsv (by rfl) (hb.pur 152 5 (by decide)) rfl ?_;simp only[joo,ju,Qai,Qaj,Qag,Qah];rw[(by unfold jjA;simp only[qq];rfl:jjA=_)];unfold BIG at hl;repeat'(first|apply jc<;>intro _|simp(disch:=first|exact dzG|fail) only[JA,je,jj,ji,jd,jm,jn,jp,jq,jo,rzZ,Qab,Qac,Qad,Qaa,Qae])
 refine qp enums.length (λk L s=>(∀ j (hj:j<enums.length),j<k->fi (λv=>decide (nm=v)) enums[j].vals<0)/\Has L 1 (.str nm)/\Has L 13 (.lst enums.length (fl enE enums))) (by first|assumption|omega) (by decide) (by simp(disch:=decide) only[jf,jb]) (by simp(disch:=decide) only[jf,jb]) ?_ (λk L s v h=>by simp(disch:=decide) only[jb];exact h) (λk L s v h=>by simp(disch:=decide) only[jb];exact h) (λk L s hk hI hi hn=>?_) (λL s hI=>?_)
 ·refine⟨λj _ hj=>absurd hj (Qbg _),?_⟩;simp(disch:=decide) only[Qam,Qar,z0,z1,jf,jb,and_true,true_and]
 ·obtain⟨h0,i1,i13⟩:=hI;have X:=jmO hb enums[k].vals (hv _ (Qax hk)) nm;repeat'(first|apply jc<;>intro _|simp(disch:=first|exact dzG|fail) only[ja i1,ja i13,ja hi,ja hn,X,je,jj,ji,jd,jm,jn,jp,jq,jo,rzZ,Qab,Qac,Qad,Qaa,Qae])
  ·rename_i h;refine jde ?_;rw[kD hk h0 (by omega)]
  ·rename_i h;refine⟨⟨λj hj hjk=>?_,?_⟩,?_⟩
   ·rcases QaT j k with h2|h2
    ·exact h0 j hj h2
    ·have:j=k:=by omega
     subst this;omega
   ·simp(disch:=decide) only[Qam,Qar,z0,z1,jf,jb,and_true,true_and,i1,i13]
   ·simp(disch:=decide) only[Qam,Qar,z0,z1,jf,jb,and_true,true_and,hi,hn]
 ·obtain⟨h0,i1,i13⟩:=hI;repeat'(first|apply jc<;>intro _|simp(disch:=first|exact dzG|fail) only[je,jj,ji,jd,jm,jn,jp,jq,jo,rzZ,Qab,Qac,Qad,Qaa,Qae])
  refine jde ?_;rw[kC λj hj=>h0 j hj hj];rfl
def mt0:MtT:=⟨0,[],0,0⟩
def zC (vars:List VarT)(enums:List EnumT)(x:Ex):KR (Ex×MtT):=
 if 0<=jY vars x.name then
  (let v:=vars.getD (jY vars x.name).toNat ⟨[],0,[],0,0,false,0⟩
   .ok (.mk 4 (jY vars x.name) [] [] x.line x.col,⟨v.kind,v.enum,v.lo,v.hi⟩))
 else if(yx enums x.name).2<0 then .er 161 x.line x.col
 else .ok (.mk 1 (yx enums x.name).2 [] [] x.line x.col,⟨3,(yx enums x.name).1,(yx enums x.name).2,(yx enums x.name).2⟩)
def kO (r:KR (Ex×MtT)):Oc:=match r with
 |.ok x=>.ok (.tup [.agg (eE x.1),.agg (mtE x.2)])
 |.er c l k=>.pn (kf c l k)
theorem ZD {α:Type}{q:α->Bool}:∀ {xs:List α},fi q xs<(xs.length:Int)
 |[]=>by simp[fi]
 |x :: xs=>by
  have:=ZD (q:=q) (xs:=xs);have hl:((x :: xs).length:Int)=(xs.length:Int)+1:=by simp
  rw[hl];unfold fi;split
  ·omega
  ·split<;>omega
set_option maxHeartbeats 1000000 in
theorem jnp (hb:NB base)(vars:List VarT)(enums:List EnumT)(hl:vars.length<=BIG)(hl2:enums.length<=BIG)(hv:∀ e∈enums,e.vals.length<=1000000)(x:Ex)(r:List AV) :
  PL Qaf base 131 [.lptr (.lst vars.length (fl vaE vars) :: .lst enums.length (fl enE enums) :: r) 0,.agg (eE x)] (kO (zC vars enums x)):=by
 have V:=λst K Kp=>(Ki hb vars hl x.name (.lst enums.length (fl enE enums) :: r)).pa (by rfl) (λst=>hb.no 97 (by decide) _ _) st K Kp;have W:=λst K Kp=>(jmY hb enums hl2 hv x.name (.lst vars.length (fl vaE vars)) r).pa (by rfl) (λst=>hb.no 152 (by decide) _ _) st K Kp;have VT:=jY vars x.name;by_cases h1:0<=jY vars x.name
 ·have hlt:jY vars x.name<(vars.length:Int):=ZD;have hlt2:(jY vars x.name).toNat<vars.length:=by omega
  obtain⟨v,hv⟩:∃ v,vars[(jY vars x.name).toNat]=v:=⟨_,rfl⟩;have hn:zC vars enums x=.ok (.mk 4 (jY vars x.name) [] [] x.line x.col,⟨v.kind,v.enum,v.lo,v.hi⟩):=by
   unfold zC;rw[if_pos h1];simp only[Qau,Qas hlt2,Qbc,hv]
  rw[hn];refine QM jkg (by rfl) (hb.pur 131 5 (by decide)) (by rfl) ?_;simp only[je3,ju,Qai,Qaj,Qag,Qah];rw[(by unfold kn;simp only[qq];rfl:kn=_)]
  (have zz:=aI @q6 @yf;(repeat'(first|apply jc<;>intro _|simp(disch:=first|exact jO|fail) only[V,h1,JA,hv,sm3,sm9,sm2,q6,yf,je,jj,ji,jd,jm,jn,jp,jq,jo,rzZ,Qab,Qac,Qad,Qaa,Qae]));all_goals clear zz)
  exact FzD.tup (.cons Yp (.cons (.agg (.pc rfl)) .nil))
 ·have h1':jY vars x.name<0:=by omega
  by_cases h2:(yx enums x.name).2<0
  ·have hn:zC vars enums x=.er 161 x.line x.col:=by unfold zC;rw[if_neg h1,if_pos h2]
   rw[hn];refine QM jkg (by rfl) (hb.pur 131 5 (by decide)) (by rfl) ?_;simp only[je3,ju,Qai,Qaj,Qag,Qah];rw[(by unfold kn;simp only[qq];rfl:kn=_)];repeat'(first|apply jc<;>intro _|simp(disch:=first|exact dzG|fail) only[V,W,h1,h2,zQ hb,JA,kO,je,jj,ji,jd,jm,jn,jp,jq,jo,rzZ,Qab,Qac,Qad,Qaa,Qae])
   exact FzD.iface (FzD.agg (.pc rfl))
  ·have hn:zC vars enums x=.ok (.mk 1 (yx enums x.name).2 [] [] x.line x.col,⟨3,(yx enums x.name).1,(yx enums x.name).2,(yx enums x.name).2⟩):=by unfold zC;rw[if_neg h1,if_neg h2]
   rw[hn];refine QM jkg (by rfl) (hb.pur 131 5 (by decide)) (by rfl) ?_;simp only[je3,ju,Qai,Qaj,Qag,Qah];rw[(by unfold kn;simp only[qq];rfl:kn=_)];repeat'(first|apply jc<;>intro _|simp(disch:=first|exact dzG|fail) only[V,W,h1,h2,JA,je,jj,ji,jd,jm,jn,jp,jq,jo,rzZ,Qab,Qac,Qad,Qaa,Qae])
   exact FzD.tup (.cons Yp (.cons (.agg (.pc rfl)) .nil))
def Uk (part:Int)(ms:List MtT):Bool:=ms.any λm=>(decide (0<part) && decide (m.kind≠part)) ||decide (m.kind≠(ms.getD 0 mt0).kind) ||decide (m.enum≠(ms.getD 0 mt0).enum)
def YZ (fm:Bool)(op num:Int)(name:List Nat)(l c:Int)(ys:List Ex)(ms:List MtT):KR (Ex×MtT):=
 if ms.length=0\/2<ms.length\/(zS op=true/\fm=false)\/Uk (qJ op).1 ms=true then .er 163 l c
 else if(qJ op).2≠1 then .ok (.mk op num name ys l c,⟨(qJ op).2,[],0,1⟩)
 else if(zK op (ms.getD 0 mt0) (ms.getD (ms.length - 1) mt0)).1 < -100000000\/100000000<(zK op (ms.getD 0 mt0) (ms.getD (ms.length - 1) mt0)).2 then .er 165 l c
 else .ok (.mk op num name ys l c,⟨(qJ op).2,[],(zK op (ms.getD 0 mt0) (ms.getD (ms.length - 1) mt0)).1,(zK op (ms.getD 0 mt0) (ms.getD (ms.length - 1) mt0)).2⟩)
mutual
def yn (vars:List VarT)(enums:List EnumT):Bool->Ex->KR (Ex×MtT)
 |fm,.mk op num name ks l c=>
  if op=1 then .ok (.mk op num name ks l c,⟨1,[],num,num⟩)
  else if op=2 then .ok (.mk op num name ks l c,⟨2,[],0,1⟩)
  else if op=3 then zC vars enums (.mk op num name ks l c)
  else match qt vars enums (fm && decide (op≠17) && decide (op≠18)) ks with
   |.er a b d=>.er a b d
   |.ok r=>YZ fm op num name l c r.1 r.2
def qt (vars:List VarT)(enums:List EnumT):Bool->List Ex->KR (List Ex×List MtT)
 |_,[]=>.ok ([],[])
 |fm,x :: xs=>match yn vars enums fm x with
  |.er a b d=>.er a b d
  |.ok y=>match qt vars enums fm xs with
   |.er a b d=>.er a b d
   |.ok r=>.ok (y.1 :: r.1,y.2 :: r.2)
end
theorem HK {vars:List VarT}{enums:List EnumT}{fm:Bool}:∀ {xs:List Ex} {ys:List Ex} {ms:List MtT} {x y:Ex} {m:MtT},qt vars enums fm xs=.ok (ys,ms)->yn vars enums fm x=.ok (y,m)->qt vars enums fm (xs ++ [x])=.ok (ys ++ [y],ms ++ [m])
 |[],ys,ms,x,y,m,h,h2=>by
  simp only[qt] at h;cases h;simp only[QaF,qt,h2]
 |z :: xs,ys,ms,x,y,m,h,h2=>by
  simp only[qt] at h;cases hz:yn vars enums fm z with
  |er a b d=>rw[hz] at h;cases h
  |ok w=>
   rw[hz] at h;cases hr:qt vars enums fm xs with
   |er a b d=>rw[hr] at h;cases h
   |ok r=>
    rw[hr] at h;cases h;obtain⟨r1,r2⟩:=r;simp only[Qay,qt,hz,HK hr h2]
theorem HL {vars:List VarT}{enums:List EnumT}{fm:Bool}:∀ {xs:List Ex} {ys:List Ex} {ms:List MtT} {x:Ex} {a b d:Int} (zs:List Ex),qt vars enums fm xs=.ok (ys,ms)->yn vars enums fm x=.er a b d->qt vars enums fm (xs ++ x :: zs)=.er a b d
 |[],ys,ms,x,a,b,d,zs,h,h2=>by simp only[QaF,qt,h2]
 |z :: xs,ys,ms,x,a,b,d,zs,h,h2=>by
  simp only[qt] at h;cases hz:yn vars enums fm z with
  |er a b d=>rw[hz] at h;cases h
  |ok w=>
   rw[hz] at h;cases hr:qt vars enums fm xs with
   |er a b d=>rw[hr] at h;cases h
   |ok r=>
    rw[hr] at h;cases h;obtain⟨r1,r2⟩:=r;simp only[Qay,qt,hz,HL zs hr h2]
theorem JS {vars:List VarT}{enums:List EnumT}{fm:Bool}:∀ {xs:List Ex} {ys:List Ex} {ms:List MtT},qt vars enums fm xs=.ok (ys,ms)->ys.length=xs.length/\ms.length=xs.length
 |[],ys,ms,h=>by simp only[qt] at h;cases h;exact⟨rfl,rfl⟩
 |z :: xs,ys,ms,h=>by
  simp only[qt] at h;cases hz:yn vars enums fm z with
  |er a b d=>rw[hz] at h;cases h
  |ok w=>
   rw[hz] at h;cases hr:qt vars enums fm xs with
   |er a b d=>rw[hr] at h;cases h
   |ok r=>
    rw[hr] at h;cases h;obtain⟨r1,r2⟩:=r;have:=JS hr;simp[this.1,this.2]
theorem WY (vars:List VarT)(enums:List EnumT)(fm:Bool)(x:Ex):yn vars enums fm x=if x.op=1 then .ok (x,⟨1,[],x.num,x.num⟩) else if x.op=2 then .ok (x,⟨2,[],0,1⟩) else if x.op=3 then zC vars enums x else match qt vars enums (fm && decide (x.op≠17) && decide (x.op≠18)) x.kids with
 |.er a b d=>.er a b d
 |.ok r=>YZ fm x.op x.num x.name x.line x.col r.1 r.2:=by cases x;rw[yn];rfl
structure VarsOK (vars:List VarT)(enums:List EnumT):Prop where
 len:vars.length<=1000000
 len2:enums.length<=1000000
 vals:∀ e∈enums,e.vals.length<=1000000
 ends:∀ v∈vars,-100000000<=v.lo/\v.lo<=100000000/\-100000000<=v.hi/\v.hi<=100000000
mutual
def ZC:Ex->Bool
 |.mk op num _ ks _ _=>(decide (op≠1) ||(decide (-100000000<=num) && decide (num<=100000000))) && Qa ks
def Qa:List Ex->Bool
 |[]=>true
 |x :: xs=>ZC x && Qa xs
end
theorem jkl {enums:List EnumT}{nm:List Nat}(h:∀ e∈enums,e.vals.length<=1000000) : -1<=(yx enums nm).2/\(yx enums nm).2<=1000000:=by
 induction enums with
 |nil=>simp[yx]
 |cons e es ih=>
  rw[yx];have h1:=h e (by simp);have h2:=ZD (q:=λv=>decide (nm=v)) (xs:=e.vals);split
  ·dsimp only;omega
  ·exact ih λe he=>h e (by simp[he])
theorem jdk {vars:List VarT}{enums:List EnumT}(V:VarsOK vars enums){x y:Ex}{m:MtT}(h:zC vars enums x=.ok (y,m)):Z7 m:=by
 unfold zC at h;split at h
 ·rename_i h1;cases h;have hlt:jY vars x.name<(vars.length:Int):=ZD;have hlt2:(jY vars x.name).toNat<vars.length:=by omega
  have:vars.getD (jY vars x.name).toNat ⟨[],0,[],0,0,false,0⟩∈vars:=by
   rw[Qau,Qas hlt2];exact Qax hlt2
  exact V.ends _ this
 ·split at h
  ·cases h
  ·cases h;have:=jkl (nm:=x.name) V.vals;unfold Z7;dsimp only;omega
mutual
theorem jfG {vars:List VarT}{enums:List EnumT}(V:VarsOK vars enums):∀ (fm:Bool) (x y:Ex) (m:MtT),ZC x=true->yn vars enums fm x=.ok (y,m)->Z7 m
 |fm,.mk op num name ks l c,y,m,hn,h=>by
  rw[ZC,Qaq] at hn;rw[yn] at h;split at h
  ·rename_i h1;cases h;have:=hn.1;simp[h1] at this;exact⟨this.1,this.2,this.1,this.2⟩
  ·split at h
   ·cases h;unfold Z7;dsimp only;omega
   ·split at h
    ·exact jdk V h
    ·split at h
     ·cases h
     ·rename_i r hr;unfold YZ at h;split at h
      ·cases h
      ·split at h
       ·cases h;unfold Z7;dsimp only;omega
       ·split at h
        ·cases h
        ·rename_i h5;cases h;unfold Z7;dsimp only;have e:(zK op (r.2.getD 0 mt0) (r.2.getD (r.2.length - 1) mt0)).1<=(zK op (r.2.getD 0 mt0) (r.2.getD (r.2.length - 1) mt0)).2:=by
          unfold zK;split
          ·dsimp only;omega
          ·split
           ·dsimp only;omega
           ·split
            ·dsimp only;omega
            ·dsimp only;omega
         omega
end
theorem ke {vars:List VarT}{enums:List EnumT}(V:VarsOK vars enums){fm:Bool}:∀ {xs ys:List Ex} {ms:List MtT},Qa xs=true->qt vars enums fm xs=.ok (ys,ms)->∀ m∈ms,Z7 m
 |[],ys,ms,_,h,m,hm=>by simp only[qt] at h;cases h;cases hm
 |z :: xs,ys,ms,hn,h,m,hm=>by
  rw[Qa,Qaq] at hn;simp only[qt] at h;cases hz:yn vars enums fm z with
  |er a b d=>rw[hz] at h;cases h
  |ok w=>
   rw[hz] at h;cases hr:qt vars enums fm xs with
   |er a b d=>rw[hr] at h;cases h
   |ok r=>
    rw[hr] at h;cases h;obtain⟨r1,r2⟩:=r;obtain⟨w1,w2⟩:=w;rcases Qbs.1 hm with rfl|hm
    ·exact jfG V fm z w1 _ hn.1 hz
    ·exact ke V hn.2 hr m hm
theorem Hx:∀ {xs:List Ex} {k:Nat} (h:k<xs.length),Qa xs=true->ZC xs[k]=true
 |x :: xs,0,_,h=>by rw[Qa,Qaq] at h;exact h.1
 |x :: xs,k+1,hk,h=>by rw[Qa,Qaq] at h;exact Hx (xs:=xs) (k:=k) (by simpa using hk) h.2
structure Ck (p:Nat)(v1 v2 v3 mm:AV)(vars:List VarT)(enums:List EnumT)(fm:Bool)(s:St):Prop where
 cl:Cl s p [v1,v2,v3,mm,.bool fm]
 l1:Lr s v1 vars.length (fl vaE vars)
 l2:Lr s v2 enums.length (fl enE enums)
 n1:∀ b m z x,v1=.slice b 0 vars.length m z x->b≠p
 n2:∀ b m z x,v2=.slice b 0 enums.length m z x->b≠p
section
variable {p:Nat} {v1 v2 v3 mm:AV} {vars:List VarT} {enums:List EnumT} {fm:Bool} {s s':St}
theorem Ck.keep (h:Ck p v1 v2 v3 mm vars enums fm s)(k:Keep p s s'){fm':Bool}(C:Cl s' p [v1,v2,v3,mm,.bool fm']):Ck p v1 v2 v3 mm vars enums fm' s':=⟨C,k.lr h.l1 h.n1,k.lr h.l2 h.n2,h.n1,h.n2⟩
theorem Ck.lend (h:Ck p v1 v2 v3 mm vars enums fm s):∃ r,lend s.h (.ptr p 0)=some (.lptr (.lst vars.length (fl vaE vars) :: .lst enums.length (fl enE enums) :: r) 0):=by
 have e1:=h.l1.fz (d:=7) (zp YM vars);have e2:=h.l2.fz (d:=7) (zp JV enums);exact⟨_,WX h.cl (Qc e1 rfl (Qc e2 rfl rfl))⟩
end
set_option maxHeartbeats 4000000 in
theorem jnq (hb:NB base){vars:List VarT}{enums:List EnumT}(V:VarsOK vars enums)(x:Ex){p:Nat}{v1 v2 v3 mm:AV}{fm:Bool}(st:St)(C:Ck p v1 v2 v3 mm vars enums fm st)(K Kp:AV->St->Prop) :
  XB Qaf base 131 [.ptr p 0,.agg (eE x)] st K Kp=Yo (kO (zC vars enums x)) K Kp st:=by
 obtain⟨r,hr⟩:=C.lend;have h1:=V.len;have h2:=V.len2;exact(jnp hb vars enums (by unfold BIG;omega) (by unfold BIG;omega) V.vals x r).xb (Jm hr (Zo (by first|rfl|simp[pa,pc,qO,Q3,JV,Jy,YM,wh,wt,QY,YX]) rfl)) (λst=>hb.no 131 (by decide) _ _) K Kp
def z6:List AV:=[.int .i64 0,.int .i64 0,.str [],.nils,.int .i64 0,.int .i64 0]
def z4:List AV:=[.int .i64 0,.str [],.int .i64 0,.int .i64 0]
def KC (p:Nat)(v1 v2 v3 mm:AV)(fm:Bool)(st:St)(r:KR (Ex×MtT))(K Kp:AV->St->Prop):Prop:=match r with
 |.ok y=>∀ s',Keep p st s'->Cl s' p [v1,v2,v3,mm,.bool fm]->K (.tup [.agg (eE y.1),.agg (mtE y.2)]) s'
 |.er c l k=>∀ s',Keep p st s'->Kp (kf c l k) s'
theorem jnL {st s:St}{b:Nat}{cs:List AV}:Cl (back st s) b cs=Cl s b cs:=propext ⟨λh=>⟨h.lt,h.row,h.len,h.cell⟩,λh=>⟨h.lt,h.row,h.len,h.cell⟩⟩
theorem Cl.kills {s:St}{b:Nat}{cs:List AV}{ks:List Nat}(C:Cl s b cs)(h:b∉ks):Cl (kills ks s) b cs:=C.keep (Qao _) (by
 show jx (ks.foldr _ s.h) b=_;rw[YC,if_neg h])
theorem UR {p:Nat}{st s:St}{v u:AV}{cs:List AV}{K:AV->St->Prop}{m:Nat}(F:FzD m 9 s v u)(hm:st.nx<=m)(hp:p<st.nx)(k:Keep p st.bare s)(C:Cl s p cs)(hK:∀ s',Keep p st s'->Cl s' p cs->K u s') :
  ∃ u ks,fz 9 s.h v=some (u,ks)/\K u (back st (kills ks s)):=by
 obtain⟨ks,e,h⟩:=F;have hnx:st.bare.nx=st.nx:=rfl;refine⟨u,ks,e,hK _ (Keep.bare (k.kills λc hc=>by have:=h c hc;omega) st) ?_⟩;rw[jnL];exact C.kills λhm=>by have:=h p hm;omega
theorem YI {p:Nat}{st s:St}(k:Keep p st.bare s):Keep p st (bk st s):=⟨k.nx,rfl,k.get⟩
def iQ (st:St)(K:AV->St->Prop):Out->Prop:=QU Qaf y97.res λv s=>∃ u ks,fz 9 s.h v=some (u,ks)/\K u (back st (kills ks s))
def iP (st:St)(Kp:AV->St->Prop):AV->Sl->St->Prop:=λv _ s=>Kp v (bk st s)
structure KS (p q:Nat)(v1 v2 v3 mm:AV)(x:Ex)(fm:Bool)(st:St)(ys:List Ex)(ms:List MtT)(vk vm:AV)(L:Sl)(s:St):Prop where
 keep:Keep p st.bare s
 nx:q+4<=s.nx
 qn:q=st.nx
 hp:p<q
 cp:Cl s p [v1,v2,v3,mm,.bool fm]
 c0:Cl s q (eE x)
 c1:Cl s (q+1) z6
 c2:Cl s (q+2) z4
 c3:Cl s (q+3) [.int .i64 x.op,.int .i64 x.num,.str x.name,vk,.int .i64 x.line,.int .i64 x.col]
 lk:Lv (q+4) s.nx s vk ys.length (fl eE ys) 6
 lm:Lv (q+4) s.nx s vm ms.length (fl mtE ms) 4
 df:Df vk vm
 i0:Has L 0 (.ptr p 0)
 i3:Has L 3 (.ptr q 0)
 i4:Has L 4 (.ptr (q+1) 0)
 i5:Has L 5 (.ptr (q+2) 0)
 i6:Has L 6 (.ptr (q+3) 0)
 i7:Has L 7 vm
def k8 (fm:Bool)(op:Int)(ms:List MtT):Bool:=decide (ms.length=0) ||decide (2<ms.length) ||(zS op && !fm) ||Uk (qJ op).1 ms
theorem jkY {fm:Bool}{op num:Int}{name:List Nat}{l c:Int}{ys:List Ex}{ms:List MtT}(h:k8 fm op ms=true):YZ fm op num name l c ys ms=.er 163 l c:=by
 unfold YZ;unfold k8 at h;simp only[QaO,decide_eq_true_eq,Qaq,Qbf] at h;rw[if_pos (by simpa only[or_assoc] using h)]
theorem jq3 {fm:Bool}{op:Int}{ms:List MtT}(h:k8 fm op ms=false):¬ (ms.length=0\/2<ms.length\/(zS op=true/\fm=false)\/Uk (qJ op).1 ms=true):=by
 intro h2;have:k8 fm op ms=true:=by
  unfold k8;simp only[QaO,decide_eq_true_eq,Qaq,Qbf];simpa only[or_assoc] using h2
 rw[this] at h;cases h
theorem Lv.klD {lo hi n z:Nat}{s:St}{v:AV}{cs:List AV}{b o m1 m2 z2:Nat}{x:Bool}(V:Lv lo hi s v n cs z)(h:Df v (.slice b o m1 m2 z2 x)):Lv lo hi (kl b s) v n cs z:=by
 rcases V with e|⟨c,rfl,h2,h3,h4,h5,h6⟩
 ·exact .inl e
 ·exact .inr ⟨c,rfl,h2,h3,(jQ (λe=>h e.symm)).symm▸h4,h5,h6⟩
theorem jhN (hb:NB base)(op:Int)(ms:List MtT)(h0:0<ms.length)(hl:ms.length<=2)(he:∀ m∈ms,Z7 m)(st:St)(b m:Nat)(y:Bool)(D:Cl st b (fl mtE ms))(K Kp:AV->St->Prop) :
  XB Qaf base 134 [.int .i64 op,.slice b 0 ms.length m 4 y] st K Kp=K (.tup [.int .i64 (zK op (ms.getD 0 mt0) (ms.getD (ms.length - 1) mt0)).1,.int .i64 (zK op (ms.getD 0 mt0) (ms.getD (ms.length - 1) mt0)).2]) (kl b st):=by
 have e0:ms[0]=ms.getD 0 mt0:=by simp[QaJ,h0]
 have e1:ms[ms.length - 1]=ms.getD (ms.length - 1) mt0:=by simp[QaJ,show ms.length - 1<ms.length by omega]
 have F:Fza st [.int .i64 op,.slice b 0 ms.length m 4 y] [.int .i64 op,.lst ms.length (fl mtE ms)] [b]:=Fza.pa rfl (Fza.sl D (zF JL ms).symm (zp YX ms) .nil);exact(jje hb op ms h0 hl he _ _ e0 e1).xf F (λst=>hb.no 134 (by decide) _ _) K Kp
set_option maxHeartbeats 4000000 in
theorem jqq (hb:NB base){p q:Nat}{v1 v2 v3 mm:AV}{x:Ex}{fm b:Bool}{st:St}{ys:List Ex}{ms:List MtT}{vk vm:AV}{L:Sl}{s:St}(S:KS p q v1 v2 v3 mm x fm st ys ms vk vm L s)(hb2:k8 fm x.op ms=b)(he:∀ m∈ms,Z7 m)
  (i13:Has L 13 (.int .i64 (qJ x.op).1)) (i14:Has L 14 (.int .i64 (qJ x.op).2)) (i15:Has L 15 (.bool b)) (K Kp:AV->St->Prop) (hK:KC p v1 v2 v3 mm fm st (YZ fm x.op x.num x.name x.line x.col ys ms) K Kp) :
  xC Qaf base jeP L s (iQ st K) (iP st Kp):=by
 obtain⟨k,nx,qn,hp,Cp,C0,C1,C2,C3,lk,lm,df,i0,i3,i4,i5,i6,i7⟩:=S;have hnp:p<s.nx:=Cp.lt;unfold z6 z4 at *;unfold iQ iP y97;rw[(by unfold jeP;simp only[qq];rfl:jeP=_)];cases b with
 |true=>
  rw[jkY hb2] at hK
  (have zz:=C0.r;(repeat'(first|apply jc<;>intro _|simp(disch:=first|exact jO|fail) only[ja i0,ja i3,ja i15,zQ hb,C0.q,C0.r,je,jj,ji,jd,jm,jn,jp,jq,jo,rzZ,Qab,Qac,Qad,Qaa,Qae]));all_goals clear zz)
  exact hK _ (YI k)
 |false=>
  have hnb:=jq3 hb2;have hlen:0<ms.length/\ms.length<=2:=by omega
  unfold YZ at hK;rw[if_neg hnb] at hK;have vc:∀ l,lall AV.cell (vk :: l)=lall AV.cell l:=λl=>by show cond vk.cell _ false=_;rw[lk.cell];rfl
  have qnx:q+4<=st.nx+4:=by omega
  by_cases ho:(qJ x.op).2=1
  ·rw[if_neg (by simpa using ho)] at hK;rcases lm with ⟨_,h9,_⟩|⟨d,rfl,h2,h3,C5,h5,h6⟩
   ·omega
   have N:=jhN hb x.op ms hlen.1 hlen.2 he;obtain⟨r1,r2,hr⟩:∃ r1 r2,zK x.op (ms.getD 0 mt0) (ms.getD (ms.length - 1) mt0)=(r1,r2):=⟨_,_,rfl⟩;rw[hr] at hK N;dsimp only at hK N;have f1:(r1 < -(99999999+1))=(r1 < -100000000):=by rfl
   by_cases hr1:r1 < -100000000
   ·rw[if_pos (.inl hr1)] at hK
    (have zz:=aI C0.r (aI C1.r (aI C2.r (aI C3.r C5.r)));(repeat'(first|apply jc<;>intro _|simp(disch:=first|exact jO|fail) only[ja i0,ja i3,ja i4,ja i5,ja i6,ja i7,ja i14,ja i15,ho,N,f1,hr1,zQ hb,C0.q,C1.q,C2.q,C3.q,C5.q,C0.r,C1.r,C2.r,C3.r,C5.r,je,jj,ji,jd,jm,jn,jp,jq,jo,rzZ,Qab,Qac,Qad,Qaa,Qae]));all_goals clear zz)
    exact hK _ (YI (k.kl (by show st.nx<=_;omega)))
   ·by_cases hr2:100000000<r2
    ·rw[if_pos (.inr hr2)] at hK
     (have zz:=aI C0.r (aI C1.r (aI C2.r (aI C3.r C5.r)));(repeat'(first|apply jc<;>intro _|simp(disch:=first|exact jO|fail) only[ja i0,ja i3,ja i4,ja i5,ja i6,ja i7,ja i14,ja i15,ho,N,f1,hr1,hr2,zQ hb,C0.q,C1.q,C2.q,C3.q,C5.q,C0.r,C1.r,C2.r,C3.r,C5.r,je,jj,ji,jd,jm,jn,jp,jq,jo,rzZ,Qab,Qac,Qad,Qaa,Qae]));all_goals clear zz)
     exact hK _ (YI (k.kl (by show st.nx<=_;omega)))
    ·rw[if_neg (by omega)] at hK;have hK:∀ s',Keep p st s'->Cl s' p [v1,v2,v3,mm,.bool fm]->K (.tup [.agg (eE (.mk x.op x.num x.name ys x.line x.col)),.agg (mtE ⟨(qJ x.op).2,[],r1,r2⟩)]) s':=hK;rw[qE] at hK
     (have zz:=aI @vc (aI C0.r (aI C1.r (aI C2.r (aI C3.r C5.r))));(repeat'(first|apply jc<;>intro _|simp(disch:=first|exact jO|fail) only[ja i0,ja i3,ja i4,ja i5,ja i6,ja i7,ja i14,ja i15,ho,N,f1,hr1,hr2,C0.q,C1.q,C2.q,C3.q,C5.q,vc,C0.r,C1.r,C2.r,C3.r,C5.r,je,jj,ji,jd,jm,jn,jp,jq,jo,rzZ,Qab,Qac,Qad,Qaa,Qae]));all_goals clear zz)
     rw[ho] at hK;refine UR (m:=st.nx) (cs:=[v1,v2,v3,mm,.bool fm]) (FzD.tup (.cons (FzD.agg (.cons (.pc rfl) (.cons (.pc rfl) (.cons (.pc rfl) (.cons (Lv.fz (lo:=q+4) (hi:=s.nx) (z:=6) ?_ (by omega) (zp qO _)) (.cons (.pc rfl) (.cons (.pc rfl) .nil))))))) (.cons (.agg (.pc rfl)) .nil))) (Qao _) (by omega) ?_ ?_ hK
     ·have:=lk.klD df
      exact ckX
     ·exact(((k.kl (by show st.nx<=_;omega)).wr (.inr (by show st.nx<=_;omega)) _ _).wr (.inr (by show st.nx<=_;omega)) _ _)
     ·exact ckX
  ·rw[if_pos ho] at hK;have hK:∀ s',Keep p st s'->Cl s' p [v1,v2,v3,mm,.bool fm]->K (.tup [.agg (eE (.mk x.op x.num x.name ys x.line x.col)),.agg (mtE ⟨(qJ x.op).2,[],0,1⟩)]) s':=hK;rw[qE] at hK
   (have zz:=aI @vc (aI C0.r (aI C1.r (aI C2.r C3.r)));(repeat'(first|apply jc<;>intro _|simp(disch:=first|exact jO|fail) only[ja i0,ja i3,ja i4,ja i5,ja i6,ja i14,ja i15,ho,C0.q,C1.q,C2.q,C3.q,vc,C0.r,C1.r,C2.r,C3.r,je,jj,ji,jd,jm,jn,jp,jq,jo,rzZ,Qab,Qac,Qad,Qaa,Qae]));all_goals clear zz)
   refine UR (m:=st.nx) (cs:=[v1,v2,v3,mm,.bool fm]) (FzD.tup (.cons (FzD.agg (.cons (.pc rfl) (.cons (.pc rfl) (.cons (.pc rfl) (.cons (Lv.fz (lo:=q+4) (hi:=s.nx) (z:=6) ?_ (by omega) (zp qO _)) (.cons (.pc rfl) (.cons (.pc rfl) .nil))))))) (.cons (.agg (.pc rfl)) .nil))) (Qao _) (by omega) ?_ ?_ hK
   ·exact ckX
   ·exact((k.wr (.inr (by show st.nx<=_;omega)) _ _).wr (.inr (by show st.nx<=_;omega)) _ _)
   ·exact ckX
def jgl (part:Int)(k0:Int)(e0:List Nat)(m:MtT):Bool:=(decide (0<part) && decide (m.kind≠part)) ||decide (m.kind≠k0) ||decide (m.enum≠e0)
theorem Has.bool {c:Nat}{a b:Bool}{L:Sl}(h:a=b):Has ((c,.bool a) :: L) c (.bool b):=by rw[h];simp only[jf]
theorem jnR (part:Int)(ms:List MtT):Uk part ms=ms.any (jgl part (ms.getD 0 mt0).kind (ms.getD 0 mt0).enum):=rfl
section
variable {p q:Nat} {v1 v2 v3 mm:AV} {x:Ex} {fm:Bool} {st:St} {ys:List Ex} {ms:List MtT} {vk vm:AV} {L:Sl} {s:St}
theorem KS.nw (S:KS p q v1 v2 v3 mm x fm st ys ms vk vm L s)(ds:List AV):KS p q v1 v2 v3 mm x fm st ys ms vk vm L (nw s ds):=by
 obtain⟨k,nx,qn,hp,Cp,C0,C1,C2,C3,lk,lm,df,i0,i3,i4,i5,i6,i7⟩:=S;have h0:=C0.lt;have h1:=C1.lt;have h2:=C2.lt;have h3:=C3.lt;have h4:=Cp.lt;exact⟨k.nw ds,by rw[jg];omega,qn,hp,ckX,ckX,ckX,ckX,ckX,((jE (Qao _)).symm▸lk:Lv _ _ (Go.Sy.nw s ds) _ _ _ _).up (by rw[jg];omega),((jE (Qao _)).symm▸lm:Lv _ _ (Go.Sy.nw s ds) _ _ _ _).up (by rw[jg];omega),df,i0,i3,i4,i5,i6,i7⟩
theorem KS.push (S:KS p q v1 v2 v3 mm x fm st ys ms vk vm L s){c:Nat}{v:AV}(h:c≠0/\c≠3/\c≠4/\c≠5/\c≠6/\c≠7):KS p q v1 v2 v3 mm x fm st ys ms vk vm ((c,v) :: L) s:=by
 obtain⟨k,nx,qn,hp,Cp,C0,C1,C2,C3,lk,lm,df,i0,i3,i4,i5,i6,i7⟩:=S;obtain⟨h0,h3,h4,h5,h6,h7⟩:=h;exact⟨k,nx,qn,hp,Cp,C0,C1,C2,C3,lk,lm,df,by rw[jb h0];exact i0,by rw[jb h3];exact i3,by rw[jb h4];exact i4,by rw[jb h5];exact i5,by rw[jb h6];exact i6,by rw[jb h7];exact i7⟩
theorem KS.wr (S:KS p q v1 v2 v3 mm x fm st ys ms vk vm L s){c o:Nat}{ds:List AV}{hi:Nat}(hc:hi<=c)(lk':Lv (q+4) hi s vk ys.length (fl eE ys) 6)(lm':Lv (q+4) hi s vm ms.length (fl mtE ms) 4)(hq:q+4<=hi)(hs:hi<=s.nx):KS p q v1 v2 v3 mm x fm st ys ms vk vm L (wr s c o ds):=by
 obtain⟨k,nx,qn,hp,Cp,C0,C1,C2,C3,lk,lm,df,i0,i3,i4,i5,i6,i7⟩:=S;have h4:=Cp.lt;exact⟨k.wr (.inr (by show st.nx<=_;omega)) _ _,by rw[jh];exact nx,qn,hp,ckX,ckX,ckX,ckX,ckX,((jz (.inr hc)).symm▸lk':Lv _ _ (Go.Sy.wr s c o ds) _ _ _ _).up (by rw[jh];exact hs),((jz (.inr hc)).symm▸lm':Lv _ _ (Go.Sy.wr s c o ds) _ _ _ _).up (by rw[jh];exact hs),df,i0,i3,i4,i5,i6,i7⟩
end
set_option maxHeartbeats 4000000 in
theorem jqr (hb:NB base){p q:Nat}{v1 v2 v3 mm:AV}{x:Ex}{fm b:Bool}{st:St}{ys:List Ex}{ms:List MtT}{vk vm:AV}{L:Sl}{s:St}(S:KS p q v1 v2 v3 mm x fm st ys ms vk vm L s)(hb2:(decide (ms.length=0) ||decide (2<ms.length) ||(zS x.op && !fm))=b)(hml:ms.length<=1000000)(he:∀ m∈ms,Z7 m)
  (i13:Has L 13 (.int .i64 (qJ x.op).1)) (i14:Has L 14 (.int .i64 (qJ x.op).2)) (i15:Has L 15 (.bool b)) (K Kp:AV->St->Prop) (hK:KC p v1 v2 v3 mm fm st (YZ fm x.op x.num x.name x.line x.col ys ms) K Kp) :
  xC Qaf base jbf L s (iQ st K) (iP st Kp):=by
 have vl:=S.lm.len;have i7:=S.i7;have bq:k8 fm x.op ms=(b ||ms.any (jgl (qJ x.op).1 (ms.getD 0 mt0).kind (ms.getD 0 mt0).enum)):=by rw[<-jnR,<-hb2];rfl
 rw[(by unfold jbf;simp only[qq];rfl:jbf=_)];repeat'(first|apply jc<;>intro _|simp(disch:=first|exact dzG|fail) only[ja i7,vl,je,jj,ji,jd,jm,jn,jp,jq,jo,rzZ,Qab,Qac,Qad,Qaa,Qae])
 refine qp ms.length (λk L s=>KS p q v1 v2 v3 mm x fm st ys ms vk vm L s/\Has L 13 (.int .i64 (qJ x.op).1)/\Has L 14 (.int .i64 (qJ x.op).2)/\Has L 15 (.bool (b ||(ms.take k).any (jgl (qJ x.op).1 (ms.getD 0 mt0).kind (ms.getD 0 mt0).enum)))/\Has L 115 vm) (by first|assumption|omega) (by decide) (by simp(disch:=decide) only[jf,jb]) (by simp(disch:=decide) only[jf,jb]) ?_ (λk L s v h=>⟨h.1.push (by decide),by simp(disch:=decide) only[jb];exact h.2⟩) (λk L s v h=>⟨h.1.push (by decide),by simp(disch:=decide) only[jb];exact h.2⟩) (λk L s hk hI hi hn=>?_) (λL s hI=>?_)
 ·refine⟨((S.push (by decide)).push (by decide)).push (by decide),?_⟩;simp(disch:=decide) only[jb,jf,QaZ,List.any_nil,Bool.or_false];exact⟨i13,i14,i15,trivial⟩
 ·obtain⟨S,j13,j14,j15,j115⟩:=hI;have S0:=S;obtain⟨k',nx,qn,hp,Cp,C0,C1,C2,C3,lk,lm,df,j0,j3,j4,j5,j6,j7⟩:=S;have qnx:q+4<=st.nx+4:=by omega
  rcases lm with ⟨_,h9,_⟩|⟨d,rfl,h2,h3,C5,h5,h6⟩
  ·omega
  have e0:ms.getD 0 mt0=ms[0]:=by simp[QaJ,show 0<ms.length by omega]
  have g0:(fl mtE ms).getD 0 .bad=.int .i64 ms[0].kind:=(vB JL (i:=0) (by omega) (k:=0) (by decide)).trans (by rw[UG];rfl);have g1:(fl mtE ms).getD 1 .bad=.str ms[0].enum:=(vB JL (i:=0) (by omega) (k:=1) (by decide)).trans (by rw[UG];rfl);have tk:List.take (k+1) ms=List.take k ms ++ [ms[k]]:=by rw[Qch,Qas hk];rfl
  rw[e0] at j15;rw[tk,e0,List.any_append,List.any_cons,List.any_nil,Bool.or_false];have S1:∀ ba:Bool,KS p q v1 v2 v3 mm x fm st ys ms vk (.slice d 0 ms.length ms.length 4 false) ((15,.bool ba) :: (17,.ptr s.nx 0) :: L) (Go.Sy.wr (Go.Sy.nw s [.int .i64 0,.str [],.int .i64 0,.int .i64 0]) s.nx 0 (mtE ms[k])):=λba=>
   (((S0.push (by decide)).push (by decide)).nw _).wr (c:=s.nx) (hi:=s.nx) (Qao _) (ckX) (by have:=S0.lm;exact ckX) (by omega) (by rw[jg];omega)
  (have zz:=C5.r;(repeat'(first|apply jc<;>intro _|simp(disch:=first|exact jO|fail) only[ja j115,ja hi,ja hn,ja j13,ja j14,ja j15,ja j7,gy JL,g0,g1,C5.q,C5.r,je,jj,ji,jd,jm,jn,jp,jq,jo,rzZ,Qab,Qac,Qad,Qaa,Qae]));all_goals clear zz)
  all_goals simp(disch:=decide) only[jb,jf]
  all_goals refine⟨⟨S1 _,j13,j14,?_,j115⟩,hi,hn⟩
  all_goals apply Has.bool
  all_goals clear hb2 S1 S0 hK he hml bq C5 k' Cp C0 C1 C2 C3 lk df j0 j3 j4 j5 j6 j7 g0 g1 i13 i14 i15 j13 j14 j15 vl i7 e0 tk nx
  all_goals generalize List.any _ _=A at *
  all_goals unfold jgl
  all_goals cases b<;>cases A<;>simp_all<;>omega
 ·obtain⟨S,j13,j14,j15,j115⟩:=hI;rw[QaB] at j15;exact jqq hb S bq he j13 j14 j15 K Kp hK
theorem KS.setp {p q:Nat}{v1 v2 v3 mm:AV}{x:Ex}{fm:Bool}{st:St}{ys:List Ex}{ms:List MtT}{vk vm:AV}{L:Sl}{s:St}(S:KS p q v1 v2 v3 mm x fm st ys ms vk vm L s)(b:Bool):KS p q v1 v2 v3 mm x b st ys ms vk vm L (Go.Sy.wr s p 4 [.bool b]):=by
 obtain⟨k,nx,qn,hp,Cp,C0,C1,C2,C3,lk,lm,df,i0,i3,i4,i5,i6,i7⟩:=S;have h0:=C0.lt;have h1:=C1.lt;have h2:=C2.lt;have h3:=C3.lt;exact⟨k.wr (.inl rfl) _ _,by rw[jh];exact nx,qn,hp,Cp.wr 4 [.bool b],ckX,ckX,ckX,ckX,ckX,ckX,df,i0,i3,i4,i5,i6,i7⟩
set_option maxHeartbeats 4000000 in
theorem jqs (hb:NB base){p q:Nat}{v1 v2 v3 mm:AV}{x:Ex}{fm fm2:Bool}{st:St}{ys:List Ex}{ms:List MtT}{vk vm:AV}{L:Sl}{s:St}(S:KS p q v1 v2 v3 mm x fm2 st ys ms vk vm L s)(hml:ms.length<=1000000)(he:∀ m∈ms,Z7 m)
  (i8:Has L 8 (.bool fm)) (K Kp:AV->St->Prop) (hK:KC p v1 v2 v3 mm fm st (YZ fm x.op x.num x.name x.line x.col ys ms) K Kp) :
  xC Qaf base jeQ L s (iQ st K) (iP st Kp):=by
 have vl:=S.lm.len;have i7:=S.i7;have i0:=S.i0;have i3:=S.i3;have Cp:=S.cp;have C0:=S.c0;have hqp:q≠p:=by have:=S.hp;omega
 have S1:=S.setp fm;have C9:=S1.cp;have ee:∀ b,(decide (ms.length=0) ||decide (2<ms.length) ||(zS x.op && !fm))=b->xC Qaf base jbf ((15,.bool b) :: (14,.int .i64 (qJ x.op).2) :: (13,.int .i64 (qJ x.op).1) :: L) (wr s p 4 [.bool fm]) (iQ st K) (iP st Kp):=λb hb2=>jqr hb (((S1.push (by decide)).push (by decide)).push (by decide)) hb2 hml he (by simp(disch:=decide) only[jb,jf]) (by simp(disch:=decide) only[jb,jf]) (by simp only[jf]) K Kp hK;rw[(by unfold jeQ;simp only[qq];rfl:jeQ=_)]
 (have zz:=aI @Cp.r C0.r;(repeat'(first|apply jc<;>intro _|simp(disch:=first|exact jO|fail) only[ja i0,ja i3,ja i7,ja i8,vl,jmV hb,jpn hb,Cp.q,C0.q,Cp.r,C0.r,je,jj,ji,jd,jm,jn,jp,jq,jo,rzZ,Qab,Qac,Qad,Qaa,Qae]));all_goals clear zz)
 all_goals refine ee _ ?_
 all_goals clear ee S1 S hK
 all_goals clear vl
 all_goals(cases fm<;>simp_all<;>first|omega|(left;omega))
theorem Lr.bare {s:St}{v:AV}{n:Nat}{cs:List AV}(h:Lr s v n cs):Lr s.bare v n cs:=by
 rcases h with e|e|⟨b,m,z,x,e,h1,h2⟩
 ·exact .inl e
 ·exact .inr (.inl e)
 ·exact .inr (.inr ⟨b,m,z,x,e,h1,h2.bar⟩)
theorem Ck.bare {p:Nat}{v1 v2 v3 mm:AV}{vars:List VarT}{enums:List EnumT}{fm:Bool}{s:St}(h:Ck p v1 v2 v3 mm vars enums fm s):Ck p v1 v2 v3 mm vars enums fm s.bare:=⟨h.cl.bar,h.l1.bare,h.l2.bare,h.n1,h.n2⟩
section
variable {p q:Nat} {v1 v2 v3 mm:AV} {x:Ex} {fm:Bool} {st:St} {ys:List Ex} {ms:List MtT} {vk vm:AV} {L:Sl} {s t:St}
theorem KS.keep' (S:KS p q v1 v2 v3 mm x fm st ys ms vk vm L s)(k:Keep p s t){fm':Bool}(C:Cl t p [v1,v2,v3,mm,.bool fm']):KS p q v1 v2 v3 mm x fm' st ys ms vk vm L t:=by
 obtain⟨k',nx,qn,hp,Cp,C0,C1,C2,C3,lk,lm,df,i0,i3,i4,i5,i6,i7⟩:=S;exact⟨k'.trans k,by have:=k.nx;omega,qn,hp,C,k.cl C0 (by omega),k.cl C1 (by omega),k.cl C2 (by omega),k.cl C3 (by omega),(k.lv lk (.inl (by omega))).up k.nx,(k.lv lm (.inl (by omega))).up k.nx,df,i0,i3,i4,i5,i6,i7⟩
theorem KS.kid (S:KS p q v1 v2 v3 mm x fm st ys ms vk vm L s)(y:Ex):KS p q v1 v2 v3 mm x fm st (ys ++ [y]) ms (apv 6 vk s) vm L (Go.Sy.wr (Go.Sy.aps vk s (eE y)) (q+3) 3 [apv 6 vk s]):=by
 obtain⟨k,nx,qn,hp,Cp,C0,C1,C2,C3,lk,lm,df,i0,i3,i4,i5,i6,i7⟩:=S;have hn:(Go.Sy.wr (Go.Sy.aps vk s (eE y)) (q+3) 3 [apv 6 vk s]).nx=s.nx+1:=by rw[jh,jr]
 have h4:=Cp.lt;have cq:∀ c ds,Cl s c ds->c<q+4->c≠q+3->Cl (Go.Sy.wr (Go.Sy.aps vk s (eE y)) (q+3) 3 [apv 6 vk s]) c ds:=λc ds C h h3=>by
  rw[jB h3,lk.cl s (eE y) ds c (.inl h) (by omega)];exact C
 refine⟨(k.aps lk (by show st.nx<=_;omega) (eE y)).wr (.inr (by show st.nx<=_;omega)) _ _,by rw[hn];omega,qn,hp,cq _ _ Cp (by omega) (by omega),cq _ _ C0 (by omega) (by omega),cq _ _ C1 (by omega) (by omega),cq _ _ C2 (by omega) (by omega),?_,?_,?_,?_,i0,i3,i4,i5,i6,i7⟩
 ·have:=(cast (lk.cl s (eE y) _ (q+3) (.inl (by omega)) (by omega)).symm C3:Cl (Go.Sy.aps vk s (eE y)) (q+3) _);exact this.wr 3 [apv 6 vk s]
 ·rw[hn,jz (.inl (by omega)),Qal,Qd,JG];exact lk.put (zw y) (by omega) rfl
 ·rw[hn,jz (.inl (by omega))];exact(lm.apsD df).up (by omega)
 ·exact(Df.put lm (Qao _)).1
theorem KS.mt (S:KS p q v1 v2 v3 mm x fm st ys ms vk vm L s)(m:MtT):KS p q v1 v2 v3 mm x fm st ys (ms ++ [m]) vk (apv 4 vm s) ((7,apv 4 vm s) :: L) (Go.Sy.aps vm s (mtE m)):=by
 obtain⟨k,nx,qn,hp,Cp,C0,C1,C2,C3,lk,lm,df,i0,i3,i4,i5,i6,i7⟩:=S;have hn:(Go.Sy.aps vm s (mtE m)).nx=s.nx+1:=by rw[jr]
 have h4:=Cp.lt;have cq:∀ c ds,Cl s c ds->c<q+4->Cl (Go.Sy.aps vm s (mtE m)) c ds:=λc ds C h=>by
  rw[lm.cl s (mtE m) ds c (.inl h) (by omega)];exact C
 refine⟨k.aps lm (by show st.nx<=_;omega) (mtE m),by rw[hn];omega,qn,hp,cq _ _ Cp (by omega),cq _ _ C0 (by omega),cq _ _ C1 (by omega),cq _ _ C2 (by omega),cq _ _ C3 (by omega),?_,?_,?_,?_,?_,?_,?_,?_,?_⟩
 ·rw[hn];exact(lk.apsD (Df.symm df)).up (by omega)
 ·rw[hn,Qal,Qd,JG];exact lm.put (JL m) (by omega) rfl
 ·exact(Df.put lk (Qao _)).2
 ·rw[jb (by decide)];exact i0
 ·rw[jb (by decide)];exact i3
 ·rw[jb (by decide)];exact i4
 ·rw[jb (by decide)];exact i5
 ·rw[jb (by decide)];exact i6
 ·rw[jf];trivial
end
mutual
def Z9:Ex->Bool
 |.mk _ _ _ ks _ _=>decide (ks.length<=1000000) && YK ks
def YK:List Ex->Bool
 |[]=>true
 |x :: xs=>Z9 x && YK xs
end
theorem Vp:∀ {xs:List Ex} {k:Nat} (h:k<xs.length),YK xs=true->Z9 xs[k]=true
 |x :: xs,0,_,h=>by rw[YK,Qaq] at h;exact h.1
 |x :: xs,k+1,hk,h=>by rw[YK,Qaq] at h;exact Vp (xs:=xs) (k:=k) (by simpa using hk) h.2
def KE (base:Bs)(vars:List VarT)(enums:List EnumT)(x:Ex):Prop:=∀ (p:Nat) (v1 v2 v3 mm:AV) (fm:Bool) (st:St),Ck p v1 v2 v3 mm vars enums fm st->∀ K Kp,KC p v1 v2 v3 mm fm st (yn vars enums fm x) K Kp->XB Qaf base 103 [.ptr p 0,.agg (eE x)] st K Kp
set_option maxHeartbeats 4000000 in
theorem jqt (hb:NB base){vars:List VarT}{enums:List EnumT}(V:VarsOK vars enums){p q:Nat}{v1 v2 v3 mm:AV}{x:Ex}{fm fm2:Bool}{st:St}{vk vm:AV}{L:Sl}{s:St}(ih:∀ k∈x.kids,KE base vars enums k)(hn:Qa x.kids=true)(hw:x.kids.length<=1000000)(H:Ck p v1 v2 v3 mm vars enums fm st)(S:KS p q v1 v2 v3 mm x fm2 st [] [] vk vm L s)
  (i8:Has L 8 (.bool fm)) (K Kp:AV->St->Prop) (hK:KC p v1 v2 v3 mm fm st (match qt vars enums fm2 x.kids with
   |.er a b d=>.er a b d
   |.ok r=>YZ fm x.op x.num x.name x.line x.col r.1 r.2) K Kp) :
  xC Qaf base jbg L s (iQ st K) (iP st Kp):=by
 have C0:=S.c0;have i3:=S.i3;rw[(by unfold jbg;simp only[qq];rfl:jbg=_)]
 (have zz:=C0.r;(repeat'(first|apply jc<;>intro _|simp(disch:=first|exact jO|fail) only[ja i3,C0.q,C0.r,je,jj,ji,jd,jm,jn,jp,jq,jo,rzZ,Qab,Qac,Qad,Qaa,Qae]));all_goals clear zz)
 refine qp x.kids.length (λk L s=>∃ ys ms vk vm,KS p q v1 v2 v3 mm x fm2 st ys ms vk vm L s/\qt vars enums fm2 (x.kids.take k)=.ok (ys,ms)/\Has L 8 (.bool fm)/\Has L 62 (.lst x.kids.length (fl eE x.kids))) (by first|assumption|omega) (by decide) (by simp(disch:=decide) only[jf,jb]) (by simp(disch:=decide) only[jf,jb]) ?_ (λk L s v h=>(by obtain⟨ys,ms,vk,vm,h1,h2,h3,h4⟩:=h;exact⟨ys,ms,vk,vm,h1.push (by decide),h2,by simp(disch:=decide) only[jb];exact h3,by simp(disch:=decide) only[jb];exact h4⟩)) (λk L s v h=>(by obtain⟨ys,ms,vk,vm,h1,h2,h3,h4⟩:=h;exact⟨ys,ms,vk,vm,h1.push (by decide),h2,by simp(disch:=decide) only[jb];exact h3,by simp(disch:=decide) only[jb];exact h4⟩)) (λk L s hk hI hi hn=>?_) (λL s hI=>?_)
 ·refine⟨[],[],vk,vm,((S.push (by decide)).push (by decide)).push (by decide),by rw[QaZ,qt],?_,?_⟩
  ·simp(disch:=decide) only[jb];exact i8
  ·simp(disch:=decide) only[jb,jf]
 ·obtain⟨ys,ms,vk,vm,S,he,j8,j62⟩:=hI;have Cp:=S.cp;have C3:=S.c3;have j0:=S.i0;have j6:=S.i6;have j7:=S.i7;repeat'(first|apply jc<;>intro _|simp(disch:=first|exact dzG|fail) only[ja j0,ja j62,ja hi,ja hn,je,jj,ji,jd,jm,jn,jp,jq,jo,rzZ,Qab,Qac,Qad,Qaa,Qae])
  have S0:KS p q v1 v2 v3 mm x fm2 st ys ms vk vm ((10,.ptr s.nx 0) :: L) (Go.Sy.wr (Go.Sy.nw s [.int .i64 0,.int .i64 0,.str [],.nils,.int .i64 0,.int .i64 0]) s.nx 0 (eE x.kids[k])):=
   ((S.push (by decide)).nw _).wr (c:=s.nx) (hi:=s.nx) (Qao _) (by have:=S.lk;exact ckX) (by have:=S.lm;exact ckX) S.nx (by rw[jg];omega)
  refine ih x.kids[k] (Qax hk) p v1 v2 v3 mm fm2 _ (H.bare.keep S0.keep S0.cp) _ _ ?_;cases hx:yn vars enums fm2 x.kids[k] with
  |er a b d=>
   intro s' hk';have e:qt vars enums fm2 x.kids=.er a b d:=by
    have:=HL (x.kids.drop (k+1)) he hx;rwa [Qby,Qbn] at this
   rw[e] at hK;exact hK _ (YI (S0.keep.trans hk'))
  |ok w=>
   intro s' hk' hC;have S1:=S0.keep' hk' hC;obtain⟨y,m⟩:=w;have he':qt vars enums fm2 (x.kids.take (k+1))=.ok (ys ++ [y],ms ++ [m]):=by
    rw[Qch,Qas hk];exact HK he hx
   generalize Go.Sy.wr (Go.Sy.nw s [.int .i64 0,.int .i64 0,.str [],.nils,.int .i64 0,.int .i64 0]) s.nx 0 (eE x.kids[k])=t0 at *;clear S0;have A1:=λst bv xc xx K h hv=>@J5 (q+4) s'.nx ys.length 6 st vk (fl eE ys) K 72 bv xc xx h (by decide) (by have:=JS he;rw[QaH] at this;omega) (by have:=JS he;rw[QaH] at this;omega) hv;have vk1:=S1.lk;have vm1:=S1.lm;have hq:=S1.nx;have C3':=S1.c3;have S2:=((((S1.push (c:=11) (v:=.ptr s'.nx 0) (by decide)).push (c:=12) (v:=.ptr (s'.nx+1) 0) (by decide)).nw [.int .i64 0,.int .i64 0,.str [],.nils,.int .i64 0,.int .i64 0]).nw [.int .i64 0,.str [],.int .i64 0,.int .i64 0]).wr (c:=s'.nx) (o:=0) (ds:=eE y) (hi:=s'.nx) (Qao _) (ckX) (ckX) hq (by(first|omega|(simp only[jg,jh,jt,jr,jl];first|done|omega)));have S2:=(S2.wr (c:=s'.nx+1) (o:=0) (ds:=mtE m) (hi:=s'.nx) (by omega) (ckX) (ckX) hq (by(first|omega|(simp only[jg,jh,jt,jr,jl];first|done|omega)))).nw (eE y);have S4:=(S2.kid y).nw (mtE m);have A2:=λbv xc xx K hv=>@J5 (q+4) _ ms.length 4 _ vm (fl mtE ms) K 40 bv xc xx S4.lm (by decide) (by have:=JS he;rw[QaH] at this;omega) (by have:=JS he;rw[QaH] at this;omega) hv
   (have zz:=aI @vk1.ln (aI @vk1.rts (aI @jz (aI @jE (aI @jJ (aI @vk1 (aI @vm1 (aI @jA (aI @jH (aI @jK @C3'.r)))))))));(repeat'(first|apply jc<;>intro _|simp(disch:=first|exact jO|fail) only[ja j0,ja j6,ja j7,A1,A2,vk1.at,jA,C3'.q,vk1.ln,vk1.rts,jz,jE,jJ,vk1,vm1,jA,jH,jK,C3'.r,je,jj,ji,jd,jm,jn,jp,jq,jo,rzZ,Qab,Qac,Qad,Qaa,Qae]));all_goals clear zz)
   refine⟨⟨_,_,_,_,S4.mt m,he',?_,?_⟩,?_,?_⟩;all_goals(simp(disch:=decide) only[jb];assumption)
 ·obtain⟨ys,ms,vk,vm,S,he,j8,j62⟩:=hI;rw[QaB] at he;rw[he] at hK;refine jqs hb S ?_ ?_ j8 K Kp hK
  ·have:=JS he;omega
  ·exact ke V hn he
set_option maxHeartbeats 4000000 in
theorem jqu (hb:NB base){vars:List VarT}{enums:List EnumT}(V:VarsOK vars enums){p q:Nat}{v1 v2 v3 mm:AV}{x:Ex}{fm:Bool}{st:St}{L:Sl}{s:St}(ih:∀ k∈x.kids,KE base vars enums k)(hn:Qa x.kids=true)(hw:x.kids.length<=1000000)(H:Ck p v1 v2 v3 mm vars enums fm st)(hop:x.op≠1/\x.op≠2/\x.op≠3)
  (k:Keep p st.bare s) (hs:s.nx=q+3) (qn:q=st.nx) (hp:p<q) (Cp:Cl s p [v1,v2,v3,mm,.bool fm]) (C0:Cl s q (eE x)) (C1:Cl s (q+1) z6) (C2:Cl s (q+2) z4) (i0:Has L 0 (.ptr p 0)) (i3:Has L 3 (.ptr q 0)) (i4:Has L 4 (.ptr (q+1) 0)) (i5:Has L 5 (.ptr (q+2) 0)) (K Kp:AV->St->Prop) (hK:KC p v1 v2 v3 mm fm st (yn vars enums fm x) K Kp) :
  xC Qaf base jeR L s (iQ st K) (iP st Kp):=by
 rw[WY,if_neg hop.1,if_neg hop.2.1,if_neg hop.2.2] at hK;have hqp:q+3≠p:=by omega
 have hq3:q≠p:=by omega
 have hpq:p≠q+3:=by omega
 have S0:KS p q v1 v2 v3 mm x fm st [] [] .nils .nils ((8,.bool fm) :: (7,.nils) :: (6,.ptr (q+3) 0) :: L) (Go.Sy.wr (Go.Sy.wr (Go.Sy.nw s [.int .i64 0,.int .i64 0,.str [],.nils,.int .i64 0,.int .i64 0]) (q+3) 0 [.int .i64 x.op,.int .i64 x.num,.str x.name,.lst x.kids.length (fl eE x.kids),.int .i64 x.line,.int .i64 x.col]) (q+3) 3 [.nils]):=by
  refine⟨((k.nw _).wr (.inr (by show st.nx<=_;omega)) _ _).wr (.inr (by show st.nx<=_;omega)) _ _,by(first|omega|(simp only[jg,jh,jt,jr,jl];first|done|omega)),qn,hp,ckX,ckX,ckX,ckX,?_,Lv.nil,Lv.nil,trivial,?_,?_,?_,?_,?_,?_⟩
  ·have:=((hs▸Cl.new s [.int .i64 0,.int .i64 0,.str [],.nils,.int .i64 0,.int .i64 0]:Cl (Go.Sy.nw s [.int .i64 0,.int .i64 0,.str [],.nils,.int .i64 0,.int .i64 0]) (q+3) _).wr 0 [.int .i64 x.op,.int .i64 x.num,.str x.name,.lst x.kids.length (fl eE x.kids),.int .i64 x.line,.int .i64 x.col]).wr 3 [.nils];exact this
  all_goals(simp(disch:=decide) only[jb,jf];try assumption)
 have ee:∀ b,(fm && decide (x.op≠17) && decide (x.op≠18))=b->xC Qaf base jbg ((8,.bool fm) :: (7,.nils) :: (6,.ptr (q+3) 0) :: L) (Go.Sy.wr (Go.Sy.wr (Go.Sy.wr (Go.Sy.nw s [.int .i64 0,.int .i64 0,.str [],.nils,.int .i64 0,.int .i64 0]) (q+3) 0 [.int .i64 x.op,.int .i64 x.num,.str x.name,.lst x.kids.length (fl eE x.kids),.int .i64 x.line,.int .i64 x.col]) (q+3) 3 [.nils]) p 4 [.bool b]) (iQ st K) (iP st Kp):=λb e=>by
  rw[e] at hK;exact jqt hb V ih hn hw H (S0.setp b) (by simp only[jf]) K Kp hK
 rw[(by unfold jeR;simp only[qq];rfl:jeR=_)]
 (have zz:=aI @hs (aI @Cp.r C0.r);(repeat'(first|apply jc<;>intro _|simp(disch:=first|exact jO|fail) only[ja i0,ja i3,hs,Cp.q,C0.q,hs,Cp.r,C0.r,je,jj,ji,jd,jm,jn,jp,jq,jo,rzZ,Qab,Qac,Qad,Qaa,Qae]));all_goals clear zz)
 all_goals refine ee _ ?_
 all_goals clear ee S0 hK
 all_goals(cases fm<;>simp_all)
theorem jqv (hb:NB base){vars:List VarT}{enums:List EnumT}(V:VarsOK vars enums){p q:Nat}{v1 v2 v3 mm:AV}{x:Ex}{fm:Bool}{st:St}{L:Sl}{s:St}(ih:∀ k∈x.kids,KE base vars enums k)(hn:Qa x.kids=true)(hw:x.kids.length<=1000000)(H:Ck p v1 v2 v3 mm vars enums fm st)
  (k:Keep p st.bare s) (hs:s.nx=q+3) (qn:q=st.nx) (hp:p<q) (Cp:Cl s p [v1,v2,v3,mm,.bool fm]) (C0:Cl s q (eE x)) (C1:Cl s (q+1) z6) (C2:Cl s (q+2) z4) (i0:Has L 0 (.ptr p 0)) (i3:Has L 3 (.ptr q 0)) (i4:Has L 4 (.ptr (q+1) 0)) (i5:Has L 5 (.ptr (q+2) 0)) (K Kp:AV->St->Prop) (hK:KC p v1 v2 v3 mm fm st (yn vars enums fm x) K Kp) :
  xC Qaf base ZV L s (iQ st K) (iP st Kp):=by
 have nk:=λK Kp=>jnq hb V x s (H.bare.keep k Cp) K Kp;have fin:∀ (y:Ex) (m:MtT) (s':St),Keep p st.bare s'->Cl s' p [v1,v2,v3,mm,.bool fm]->yn vars enums fm x=.ok (y,m)->∃ u ks,fz 9 s'.h (.tup [.agg (eE y),.agg (mtE m)])=some (u,ks)/\K u (back st (kills ks s')):=λy m s' k' C h=>by
  rw[h] at hK;exact UR (m:=st.nx) (cs:=[v1,v2,v3,mm,.bool fm]) (FzD.tup (.cons (FzD.agg (.pc (qO y))) (.cons (.agg (.pc (YX m))) .nil))) (Qao _) (by omega) k' C hK
 by_cases h1:x.op=1
 ·have e:=WY vars enums fm x;rw[if_pos h1] at e;unfold iQ iP y97;rw[(by unfold ZV;simp only[qq];rfl:ZV=_)];unfold z6 z4 at *;have f:=fin x ⟨1,[],x.num,x.num⟩ (Go.Sy.wr (Go.Sy.wr s (q+1) 0 (eE x)) (q+2) 0 (mtE ⟨1,[],x.num,x.num⟩)) ((k.wr (.inr (by show st.nx<=_;omega)) _ _).wr (.inr (by show st.nx<=_;omega)) _ _) (ckX) e;rw[qE,h1] at f
  (have zz:=aI @Cp.r (aI C0.r (aI C1.r C2.r));(repeat'(first|apply jc<;>intro _|simp(disch:=first|exact jO|fail) only[ja i0,ja i3,ja i4,ja i5,h1,QR,sm2,Cp.q,C0.q,C1.q,C2.q,Cp.r,C0.r,C1.r,C2.r,je,jj,ji,jd,jm,jn,jp,jq,jo,rzZ,Qab,Qac,Qad,Qaa,Qae]));all_goals clear zz)
  refine⟨?_,f⟩;have a1:rat s.h q 1=.int .i64 x.num:=(C0.cell 1 (by rw[zw];decide)).trans (by rw[GT];rfl);exact⟨(sm2 (by rw[C0.len,zw];decide) a1 rfl).mpr trivial,(sm2 (by rw[Xb,C0.len,zw];decide) (by rw[ZT (by omega)];exact a1) rfl).mpr trivial⟩
 ·by_cases h2:x.op=2
  ·have e:=WY vars enums fm x;rw[if_neg h1,if_pos h2] at e;unfold iQ iP y97;rw[(by unfold ZV;simp only[qq];rfl:ZV=_)];unfold z6 z4 at *;have f:=fin x ⟨2,[],0,1⟩ (Go.Sy.wr (Go.Sy.wr s (q+1) 0 (eE x)) (q+2) 0 (mtE ⟨2,[],0,1⟩)) ((k.wr (.inr (by show st.nx<=_;omega)) _ _).wr (.inr (by show st.nx<=_;omega)) _ _) (ckX) e;rw[qE,h2] at f
   (have zz:=aI @Cp.r (aI C0.r (aI C1.r C2.r));(repeat'(first|apply jc<;>intro _|simp(disch:=first|exact jO|fail) only[ja i0,ja i3,ja i4,ja i5,h2,Cp.q,C0.q,C1.q,C2.q,Cp.r,C0.r,C1.r,C2.r,je,jj,ji,jd,jm,jn,jp,jq,jo,rzZ,Qab,Qac,Qad,Qaa,Qae]));all_goals clear zz)
   exact f
  ·by_cases h3:x.op=3
   ·have e:=WY vars enums fm x;rw[if_neg h1,if_neg h2,if_pos h3] at e;rw[qE,h3] at nk;unfold z6 z4 at *;cases hr:zC vars enums x with
    |er a b d=>
     rw[e,hr] at hK;rw[hr] at nk;rw[(by unfold ZV;simp only[qq];rfl:ZV=_)]
     (have zz:=aI @Cp.r (aI C0.r (aI C1.r C2.r));(repeat'(first|apply jc<;>intro _|simp(disch:=first|exact jO|fail) only[ja i0,ja i3,ja i4,ja i5,h3,nk,kO,jft,Cp.q,C0.q,C1.q,C2.q,Cp.r,C0.r,C1.r,C2.r,je,jj,ji,jd,jm,jn,jp,jq,jo,rzZ,Qab,Qac,Qad,Qaa,Qae]));all_goals clear zz)
     exact hK _ (YI k)
    |ok y=>
     obtain⟨y,m⟩:=y;have f:=fin y m (Go.Sy.wr (Go.Sy.wr s (q+1) 0 (eE y)) (q+2) 0 (mtE m)) ((k.wr (.inr (by show st.nx<=_;omega)) _ _).wr (.inr (by show st.nx<=_;omega)) _ _) (ckX) (e.trans hr);rw[hr] at nk;unfold iQ iP y97;rw[(by unfold ZV;simp only[qq];rfl:ZV=_)]
     (have zz:=aI @Cp.r (aI C0.r (aI C1.r C2.r));(repeat'(first|apply jc<;>intro _|simp(disch:=first|exact jO|fail) only[ja i0,ja i3,ja i4,ja i5,h3,nk,kO,jfu,Cp.q,C0.q,C1.q,C2.q,Cp.r,C0.r,C1.r,C2.r,je,jj,ji,jd,jm,jn,jp,jq,jo,rzZ,Qab,Qac,Qad,Qaa,Qae]));all_goals clear zz)
     exact f
   ·have ee:=λL (j0:Has L 0 (.ptr p 0)) (j3:Has L 3 (.ptr q 0)) (j4:Has L 4 (.ptr (q+1) 0)) (j5:Has L 5 (.ptr (q+2) 0))=>jqu hb V ih hn hw H ⟨h1,h2,h3⟩ k hs qn hp Cp C0 C1 C2 j0 j3 j4 j5 K Kp hK;rw[(by unfold ZV;simp only[qq];rfl:ZV=_)]
    (have zz:=C0.r;(repeat'(first|apply jc<;>intro _|simp(disch:=first|exact jO|fail) only[ja i0,ja i3,h1,h2,h3,C0.q,C0.r,je,jj,ji,jd,jm,jn,jp,jq,jo,rzZ,Qab,Qac,Qad,Qaa,Qae]));all_goals clear zz)
    refine ee _ ?_ ?_ ?_ ?_;all_goals(simp(disch:=decide) only[jb];assumption)
theorem jqp (hb:NB base){vars:List VarT}{enums:List EnumT}(V:VarsOK vars enums):∀ x:Ex,ZC x=true->Z9 x=true->KE base vars enums x:=by
 refine Ex.indk λx ih hn hw p v1 v2 v3 mm fm st H K Kp hK=>?_;have hn':Qa x.kids=true:=by cases x;rw[ZC,Qaq] at hn;exact hn.2
 have hw':x.kids.length<=1000000/\YK x.kids=true:=by cases x;rw[Z9,Qaq,decide_eq_true_eq] at hw;exact hw
 have ih':∀ k∈x.kids,KE base vars enums k:=λk hk=>by
  obtain⟨i,hi,rfl⟩:=QbN.1 hk;exact ih _ hk (Hx hi hn') (Vp hi hw'.2)
 refine jcq x97 (by rfl) (hb.pur 103 2 (by decide)) (hb.no 103 (by decide) _ _) ?_;simp only[y97,ju,Qai,Qaj,Qag,Qah];have Cp:=H.cl.bar;have h0:p<st.nx:=H.cl.lt;have hB:st.bare.nx=st.nx:=rfl;rw[(by unfold z97;simp only[qq];rfl:z97=_)]
 (have zz:=@Cp.r;(repeat'(first|apply jc<;>intro _|simp(disch:=first|exact jO|fail) only[Cp.q,Cp.r,je,jj,ji,jd,jm,jn,jp,jq,jo,rzZ,Qab,Qac,Qad,Qaa,Qae]));all_goals clear zz)
 have Hc:=H.cl;have n0:Cl (Go.Sy.nw st.bare (eE x)) st.nx (eE x):=Cl.new st.bare (eE x);have n1:Cl (Go.Sy.nw (Go.Sy.nw st.bare (eE x)) z6) (st.nx+1) z6:=Cl.new _ _;have n2:Cl (Go.Sy.nw (Go.Sy.nw (Go.Sy.nw st.bare (eE x)) z6) z4) (st.nx+2) z4:=Cl.new _ _;refine jqv (L:=[(5,.ptr (st.nx+1+1) 0),(4,.ptr (st.nx+1) 0),(3,.ptr st.nx 0),(0,.ptr p 0),(1,.agg (eE x))]) (s:=Go.Sy.nw (Go.Sy.nw (Go.Sy.nw st.bare (eE x)) z6) z4) (st:=st) hb V ih' hn' hw'.1 H ((((Keep.refl (s:=st.bare)).nw _).nw _).nw _) rfl rfl h0 (ckX) (ckX) (ckX) n2 ?_ ?_ ?_ ?_ K Kp hK;all_goals exact⟨rfl,rfl⟩
end Go.Sy
end
noncomputable section
set_option maxRecDepth 100000
namespace Go.Sy
open Go.Ev Go.Proofs
variable {base:Bs}
def yz (vars:List VarT)(enums:List EnumT)(fm:Bool)(x:Ex)(w:Int)(en:List Nat):KR Ex:=match yn vars enums fm x with
 |.er a b c=>.er a b c
 |.ok r=>if r.2.kind≠w\/r.2.enum≠en then .er 163 x.line x.col else .ok r.1
def KT (p:Nat)(v1 v2 v3 mm:AV)(fm:Bool)(st:St)(r:KR Ex)(K Kp:AV->St->Prop):Prop:=match r with
 |.ok y=>∀ s',Keep p st s'->Cl s' p [v1,v2,v3,mm,.bool fm]->K (.agg (eE y)) s'
 |.er c l k=>∀ s',Keep p st s'->Kp (kf c l k) s'
set_option maxHeartbeats 4000000 in
theorem Us (hb:NB base){vars:List VarT}{enums:List EnumT}(V:VarsOK vars enums)(x:Ex)(hn:ZC x=true)(hw:Z9 x=true)(w:Int)(en:List Nat){p:Nat}{v1 v2 v3 mm:AV}{fm:Bool}{st:St}(H:Ck p v1 v2 v3 mm vars enums fm st)(K Kp:AV->St->Prop)(hK:KT p v1 v2 v3 mm fm st (yz vars enums fm x w en) K Kp):XB Qaf base 75 [.ptr p 0,.agg (eE x),.int .i64 w,.str en] st K Kp:=by
 refine jcq x60 (by rfl) (hb.pur 75 2 (by decide)) (hb.no 75 (by decide) _ _) ?_;simp only[y60,ju,Qai,Qaj,Qag,Qah];have Hc:=H.cl;have Cp:=H.cl.bar;have h0:p<st.nx:=H.cl.lt;have hB:st.bare.nx=st.nx:=rfl;have k1:Keep p st.bare (Go.Sy.nw (Go.Sy.nw st.bare (eE x)) [.int .i64 0,.int .i64 0,.str [],.nils,.int .i64 0,.int .i64 0]):=(Keep.refl.nw _).nw _;have C1:Cl (Go.Sy.nw (Go.Sy.nw st.bare (eE x)) [.int .i64 0,.int .i64 0,.str [],.nils,.int .i64 0,.int .i64 0]) p [v1,v2,v3,mm,.bool fm]:=ckX
 have n0:Cl (Go.Sy.nw st.bare (eE x)) st.nx (eE x):=Cl.new st.bare (eE x);have n0:Cl (Go.Sy.nw (Go.Sy.nw st.bare (eE x)) [.int .i64 0,.int .i64 0,.str [],.nils,.int .i64 0,.int .i64 0]) st.nx (eE x):=ckX
 have n1:Cl (Go.Sy.nw (Go.Sy.nw st.bare (eE x)) [.int .i64 0,.int .i64 0,.str [],.nils,.int .i64 0,.int .i64 0]) (st.nx+1) [.int .i64 0,.int .i64 0,.str [],.nils,.int .i64 0,.int .i64 0]:=Cl.new _ _;rw[(by unfold z60;simp only[qq];rfl:z60=_)];repeat'(first|apply jc<;>intro _|simp(disch:=first|exact dzG|fail) only[je,jj,ji,jd,jm,jn,jp,jq,jo,rzZ,Qab,Qac,Qad,Qaa,Qae])
 refine jqp hb V x hn hw p v1 v2 v3 mm fm _ (H.bare.keep k1 C1) _ _ ?_;unfold yz at hK;cases hr:yn vars enums fm x with
 |er a b c=>
  rw[hr] at hK;intro s' k2;exact hK _ (YI (k1.trans k2))
 |ok y=>
  rw[hr] at hK;obtain⟨y,m⟩:=y;intro s' k2 C2;have k3:=k1.trans k2;have m0:=k2.cl n0 (by omega);have m1:=k2.cl n1 (by omega);have hnx:=k2.nx;have hnx:st.nx+2<=s'.nx:=hnx;have hK:KT p v1 v2 v3 mm fm st (if m.kind≠w\/m.enum≠en then .er 163 x.line x.col else .ok y) K Kp:=hK;generalize Go.Sy.nw (Go.Sy.nw st.bare (eE x)) [.int .i64 0,.int .i64 0,.str [],.nils,.int .i64 0,.int .i64 0]=t0 at *
  (have zz:=aI @m0.r @m1.r;(repeat'(first|apply jc<;>intro _|simp(disch:=first|exact jO|fail) only[zQ hb,m0.q,m1.q,m0.r,m1.r,je,jj,ji,jd,jm,jn,jp,jq,jo,rzZ,Qab,Qac,Qad,Qaa,Qae]));all_goals clear zz)
  ·rw[if_pos (.inl (by assumption))] at hK;exact hK _ (YI ((((k3.nw _).nw _).wr (.inr (by show st.nx<=_;omega)) _ _).wr (.inr (by show st.nx<=_;omega)) _ _))
  ·rw[if_pos (.inr (by assumption))] at hK;exact hK _ (YI ((((k3.nw _).nw _).wr (.inr (by show st.nx<=_;omega)) _ _).wr (.inr (by show st.nx<=_;omega)) _ _))
  ·rename_i h1 h2;rw[if_neg (by rintro (h|h)<;>contradiction)] at hK;refine UR (m:=st.nx) (cs:=[v1,v2,v3,mm,.bool fm]) (FzD.agg (.pc (qO y))) (Qao _) h0 (((((k3.nw _).nw _).wr (.inr (by show st.nx<=_;omega)) _ _).wr (.inr (by show st.nx<=_;omega)) _ _).wr (.inr (by show st.nx<=_;omega)) _ _) (ckX) hK
section
variable {P:Program} {e:En} {st s:St} {K:AV->St->Prop}
def jfz (st:St):ER:=st.alloc (.map []) λb st=>.ok (.map b) st
def jfA (P:Program)(t:TypeId)(ok:Bool)(m k:AV)(st:St):ER:=(Xw P t (O m) (O k) ok).run E0 st
def jkm (P:Program)(t:TypeId)(m k v:AV)(st:St):ER:=(Jl P t (O m) (O k) (O v)).run E0 st
theorem jr0:wK P base (.i .mkMap) e st K=jk (jfz st) K:=k_0 (V:=jfz) rfl (λ_=>rfl) K
theorem jih (t:TypeId)(m k:A)(ok:Bool):wK P base (.i (.look t m k ok)) e st K=on1 e m λv=>on1 e k λu=>jk (jfA P t ok v u st) K:=k_2 rfl (λ_=>rfl) K
theorem jmm (t:TypeId)(m k x:A):wK P base (.i (.upd t m k x)) e st K=on1 e m λv=>on1 e k λu=>on1 e x λw=>jk (jkm P t v u w st) K:=k_3 rfl (λ_=>rfl) K
def mpl (ts:List (List Nat)):List (AV×AV):=ts.map λt=>(.str t,.int .i64 1)
def mp (s:St)(b:Nat)(es:List (AV×AV)):St:=⟨s.nx,(qd (jM b)).run (.map es) s.h,min s.dirty b,s.fr⟩
def nmp (s:St):St:=⟨s.nx+1,(qd (jM s.nx)).run (.map []) s.h,s.dirty,s.fr⟩
theorem jfv (s:St)(b:Nat)(es:List (AV×AV)):(mp s b es).nx=s.nx:=nr rfl
theorem jrY (s:St):(nmp s).nx=s.nx+1:=nr rfl
theorem gn (s:St)(b c:Nat)(es:List (AV×AV)):jx (mp s b es).h c=if c=b then some (.map es) else jx s.h c:=by unfold mp;rw[j9]
theorem jir (s:St)(c:Nat):jx (nmp s).h c=if c=s.nx then some (.map []) else jx s.h c:=by unfold nmp;rw[j9]
structure Mp (s:St)(b:Nat)(ts:List (List Nat)):Prop where
 lt:b<s.nx
 get:jx s.h b=some (.map (mpl ts))
theorem Mp.new (s:St):Mp (nmp s) s.nx []:=⟨by rw[jrY];omega,by rw[jir,if_pos rfl];rfl⟩
theorem Mp.keep {b:Nat}{ts:List (List Nat)}{t:St}(h:Mp s b ts)(h1:s.nx<=t.nx)(h2:jx t.h b=jx s.h b):Mp t b ts:=⟨QaQ h.lt h1,h2.trans h.get⟩
theorem Mp.put {b:Nat}{ts us:List (List Nat)}(h:Mp s b ts):Mp (mp s b (mpl us)) b us:=⟨by rw[jfv];exact h.lt,by rw[gn,if_pos rfl]⟩
theorem jrt:jk (jfz st) K=K (.map st.nx) (nmp st):=by
 unfold jfz;rw[St.alloc_eq];rfl
end
theorem jlR:Tryz.prog.underlying 89=some (.map 9 3):=by kernel_rfl
theorem jpi:Tryz.prog.underlying 9=some .string:=by kernel_rfl
theorem ze3:Kc Qaf 3=some (.int .i64 0):=by kernel_rfl
theorem kf9 (s:List Nat):(ZY Qaf 9).run (.str s)=true:=by unfold ZY;rw[jpi]
theorem eq9 (s t:List Nat):(eqF Qaf 20 9).run (.str s) (.str t)=some (decide (s=t)):=by
 show(eqF Qaf (19+1) 9).run (.str s) (.str t)=_;unfold eqF;rw[jpi,<-JY]
theorem jeq (nm:List Nat):∀ ts:List (List Nat),W4 (eqF Qaf 20 9) (.str nm) (mpl ts)=some (if nm∈ts then some (.int .i64 1) else none)
 |[]=>rfl
 |t :: ts=>by
  show(match (eqF Qaf 20 9).run (.str nm) (.str t) with|some b=>cond b (some (some (AV.int .i64 1))) (W4 (eqF Qaf 20 9) (.str nm) (mpl ts))|none=>none)=_;rw[eq9,jeq nm ts];by_cases h:nm=t
  ·simp[h]
  ·simp[h]
theorem jg5 (nm:List Nat):∀ ts:List (List Nat),nm∉ts->Vu (eqF Qaf 20 9) (.str nm) (.int .i64 1) (mpl ts)=some (mpl (ts ++ [nm]))
 |[],_=>rfl
 |t :: ts,h=>by
  have h1:nm≠t:=λe=>h (by simp[e]);have h2:=jg5 nm ts λe=>h (by simp[e]);show(match (eqF Qaf 20 9).run (.str nm) (.str t) with
   |some b=>cond b (cond (UW (.str nm) (.str t)) (some (Qba (AV.str nm,AV.int .i64 1) (mpl ts))) none) (match Vu (eqF Qaf 20 9) (.str nm) (.int .i64 1) (mpl ts) with|some l=>some (Qba (AV.str t,AV.int .i64 1) l)|none=>none)
   |none=>none)=_
  rw[eq9,h2];simp[h1,mpl]
section
variable {st:St} {K:AV->St->Prop}
theorem jpd {b:Nat}{ts:List (List Nat)}(h:Mp st b ts)(nm:List Nat):jk (jfA Qaf 89 false (.map b) (.str nm) st) K=K (.int .i64 (if nm∈ts then 1 else 0)) st:=by
 unfold jfA Xw;rw[jlR];simp only[ze3];show jk (cond ((ZY Qaf 9).run (.str nm)) (ZB (jx st.h b) λes=>jR (W4 (eqF Qaf 20 9) (.str nm) es) λo=>_) .no) K=_;rw[kf9,h.get];show jk (jR (W4 (eqF Qaf 20 9) (.str nm) (mpl ts)) λo=>_) K=_;rw[jeq];by_cases h:nm∈ts
 ·simp only[if_pos h];rfl
 ·simp only[if_neg h];rfl
theorem jro {b:Nat}{ts:List (List Nat)}(h:Mp st b ts){nm:List Nat}(hn:nm∉ts):jk (jkm Qaf 89 (.map b) (.str nm) (.int .i64 1) st) K=K qh (mp st b (mpl (ts ++ [nm]))):=by
 unfold jkm Jl;rw[jlR];show jk (cond ((ZY Qaf 9).run (.str nm)) (ZB (jx st.h b) λes=>jR (Vu (eqF Qaf 20 9) (.str nm) (.int .i64 1) es) λes=>st.put b (.map es) λst=>.ok qh st) .no) K=_;rw[kf9,h.get];show jk (jR (Vu (eqF Qaf 20 9) (.str nm) (.int .i64 1) (mpl ts)) λes=>st.put b (.map es) λst=>.ok qh st) K=_;rw[jg5 nm ts hn];show jk (st.put b (.map (mpl (ts ++ [nm]))) λst=>.ok qh st) K=_;rw[St.put_eq];rfl
end
set_option maxHeartbeats 4000000 in
theorem Ko (hb:NB base){p mb:Nat}{v1 v2 v3:AV}{fm:Bool}{ts:List (List Nat)}{st:St}(C:Cl st p [v1,v2,v3,.map mb,.bool fm])(M:Mp st mb ts)(nm:List Nat)(l c:Int)(K Kp:AV->St->Prop)
  (hK:if nm∈ts then Kp (kf 162 l c) st else K (.tup []) (mp st mb (mpl (ts ++ [nm])))):XB Qaf base 70 [.ptr p 0,.str nm,.int .i64 l,.int .i64 c] st K Kp:=by
 refine Jv x63 (by rfl) (hb.at0 70 (by decide) (by decide) _ _) ?_;simp only[y63,ju,Qai,Qaj,Qag,Qah];rw[(by unfold z63;simp only[qq];rfl:z63=_)];have M:Mp st.bare mb ts:=⟨M.lt,M.get⟩;have hK:if nm∈ts then Kp (kf 162 l c) (bk st st.bare) else K (.tup []) (bk st (mp st.bare mb (mpl (ts ++ [nm])))):=hK
 have C:=C.bar;have hbk:bk st st.bare=st:=rfl;have hbc:back st st.bare=st:=rfl;have hbb:st.bare.bare=st.bare:=rfl;generalize st.bare=s0 at *;have L1:=λK nm=>jpd (st:=s0) (K:=K) M nm;by_cases h:nm∈ts
 ·rw[if_pos h] at hK
  (have zz:=C.r;(repeat'(first|apply jc<;>intro _|simp(disch:=first|exact jO|fail) only[jih,jmm,L1,h,if_true,zQ hb,C.q,C.r,je,jj,ji,jd,jm,jn,jp,jq,jo,rzZ,Qab,Qac,Qad,Qaa,Qae]));all_goals clear zz)
  exact hK
 ·rw[if_neg h] at hK;have U1:=λK=>jro (st:=s0) (K:=K) M h
  (have zz:=C.r;(repeat'(first|apply jc<;>intro _|simp(disch:=first|exact jO|fail) only[jih,jmm,L1,U1,h,if_false,show((0:Int)+1)=1 from rfl,zQ hb,C.q,C.r,je,jj,ji,jd,jm,jn,jp,jq,jo,rzZ,Qab,Qac,Qad,Qaa,Qae]));all_goals clear zz)
  exact hK
end Go.Sy
end
