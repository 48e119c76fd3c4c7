/-
  Contracts: the code lowered, what it does told by rules, and the contracts of the functions that the law reaches.
-/
import Derived.Test.YtndojkghlhllpaaGreatDoorSgSyC
import Derived.Test.YtndojkghlhllpaaGreatDoorProg
import Derived.KernelRfl
import Derived.ChangeArms
set_option linter.unusedVariables false
set_option linter.unusedSimpArgs false
open Int renaming reduceToNat → Qaa, natCast_zero → Qam, zero_add → Qaq, ofNat → Qbi, eq_ofNat_of_zero_le → Qbt, natCast_nonneg → Qci
open Nat renaming reduceAdd → Qab, reduceSub → Qac, reduceMul → Qad, reduceBEq → Qae, le_refl → Qao, ble → Qap, beq → Qas, mul → Qav, le_trans → Qaw, add → QaC, succ → QaE, zero_le → QaG, le_max_right → QaI, zero_add → QaK, le_max_left → QaL, mul_le_mul_right → QaM, lt_of_lt_of_le → QaO, lt_or_ge → QaT, not_lt_zero → QaZ, sub → Qbh, sub_zero → Qbj, add_mul → Qbn, zero_mul → Qbp, succ_pos → Qbr, succ_mul → Qbw, le_of_eq → QbC, lt_irrefl → QbD, mod_eq_of_lt → QbP, lt_succ_self → QbR, succ_lt_succ → QbS, min_eq_left → QbU, add_assoc → QbW, add_zero → Qcm, add_comm → Qco, ne_of_lt → Qcq, mul_one → Qcs, le_of_lt → Qcx, lt_trichotomy → QcD, le_succ_of_le → QcE
open Go.Proofs.Tryz renaming prog → Qaf
open List renaming getD_cons_zero → Qag, getD_cons_succ → Qah, map_cons → Qai, map_nil → Qaj, length_cons → Qak, length_append → Qal, length_nil → Qan, getElem_mem → Qat, getElem?_eq_getElem → Qau, getD_eq_getElem?_getD → Qax, cons_append → Qay, take_length → Qaz, all_eq_true → QaA, nil_append → QaF, length_take → QaH, range' → QaJ, getD → QaN, length_map → QaP, eq_nil_of_length_eq_zero → QaQ, length_drop → QaR, range → QaU, mem_append → QaV, append_assoc → QaY, cons → Qba, take_zero → Qbd, all_cons → Qbe, append_nil → Qbk, all_append → Qbl, mem_map → Qbo, mem_singleton → Qbq, take_append_drop → Qbs, mem_iff_getElem → Qbu, mem_cons → Qbv, drop_zero → Qbx, getElem_cons_zero → Qby, map_congr_left → Qbz, range'_succ → QbB, getElem_cons_succ → QbG, getElem_cons_drop → QbH, ext_getElem → QbI, map_map → QbL, mem_of_mem_take → QbM, length_pos_iff → QbO, getElem?_take → QbT, map_append → QbV, getElem?_append_right → QbX, getElem?_map → QbY, getElem?_append_left → QbZ, mem_cons_of_mem → Qca, drop_eq_getElem_cons → Qcb, drop_drop → Qcc, map_toArray → Qcd, drop_length → Qce, getElem?_drop → Qch, length_set → Qcj, take_add_one → Qck, foldl_append → Qcl, countP_singleton → Qcp, take_succ_cons → Qcu, foldr_cons → Qcw, take_take → Qcz, mem_range → QcA, flatMap_cons → QcC
open Bool renaming and_eq_true → Qar, eq_iff_iff → QaW, or_eq_true → QaX, not_eq_true' → Qbb, false_eq_true → Qbc, true_eq_false → QbK, or_eq_false_iff → QbN, true_and → Qcg, and_eq_false_iff → Qcn
open Array renaming length_toList → QaB, getElem?_eq_some_iff → QaD, replicate → Qbg, getD_eq_getD_getElem? → QbE, getElem?_toList → QbJ, toList_map → QbQ, getElem?_setIfInBounds_ne → Qcf, mem_toList_iff → Qcr, toList_append → Qct, getElem?_eq_getElem → Qcv
open Option renaming map_some → QaS, getD_some → Qbf, bind_some → Qbm, map_none → QbA, map_eq_some_iff → QbF, isSome_iff_exists → Qcy
open Function renaming comp_def → QcB
noncomputable section
set_option maxRecDepth 100000
namespace Go.Sy
open Go.Ev Go.Proofs
variable {base:Bs}
theorem Kx {ts:List Tk}(W:Wds ts){i j:Nat}{n:Int}(hi:i<ts.length)(h:YV ts i=.ok n j):j<ts.length:=by
 unfold YV at h;by_cases c:isM (tk ts i) [[45]]=true
 ·rw[if_pos c] at h;have h1:=W.isM hi c;by_cases k:(tk ts (i+1)).kind=2
  ·rw[if_pos k] at h;cases h;exact W.next _ h1 (by omega)
  ·rw[if_neg k] at h;cases h
 ·rw[if_neg c] at h;by_cases k:(tk ts i).kind=2
  ·rw[if_pos k] at h;cases h;exact W.next _ hi (by omega)
  ·rw[if_neg k] at h;cases h
set_option maxHeartbeats 4000000 in
theorem jr4 (hb:NB base){ts:List Tk}(W:Wds ts)(N:Nbs ts){i:Nat}(hi:i<ts.length){nm:List Nat}{ln co:Nat}{r:SR DeclT}
  (hr:(match Wi ts i with | .er t=>SR.er t | .ok y j=>(match Z7 ts j with | .er t=>.er t | .ok bs k=>.ok ⟨nm,y.1,y.2.1,y.2.2,bs,ln,co⟩ k))=r) {L:Sl} {s:St} (n0:4<=s.nx) (C0:Cl s 0 (pC ts i 0)) (C1:Cl s 1 zD)
  (C3:Cl s 3 [.str nm,.str [],.int .i64 0,.int .i64 0,.nils,.int .i64 (ln:Int),.int .i64 (co:Int)]) (i0:Has L 0 (.ptr 0 0)) (i2:Has L 2 (.ptr 1 0)) (i4:Has L 4 (.ptr 3 0)) :
  xC Qaf base jer L s (Xa Qaf y79.res (SK ts 0 (λd=>.agg (qh d)) r)) λv _ s=>SP ts r v s.bare:=by
 have wl:=W.len;have L0:=C0.lt;have L1:=C1.lt;have L3:=C3.lt;have T:=YN hb hi (d:=0) (by omega) [[98,111,111,108]] (cs:=[.str [98,111,111,108]]) (n:=1) rfl rfl (by decide);have hN:=λst p=>@YW base hb ts i 0 hi st p;have hM:=λst p=>@uS base hb ts i 0 hi (by omega) st p;unfold Wi at hr;unfold zD pC at *;rw[(by unfold jer;simp only[qq];rfl:jer=_)];by_cases c1:isM (tk ts i) [[98,111,111,108]]=true
 ·rw[if_pos c1] at hr;have hi1:=W.isM hi c1
  (have zz:=aI C0.r (aI C1.r C3.r);(repeat'(first|(apply jc<;>intro _)|simp(disch:=first|exact qO|fail) only[ja i0,ja i2,ja i4,T,c1,C0.q,C1.q,C3.q,C0.r,C1.r,C3.r,je,Tk.cells_R,rzZ,Qab,Qac,Qad,Qaa,Qae]));(all_goals(clear zz)))
  refine jfK hb W hi1 hr ?_ ?_ ?_ ?_ ?_ ?_ ?_
  ·simp only[jg,jj,ju];omega
  ·unfold pC
   (have zz:=aI C0.q (aI C1.q (aI C3.q (aI C0.r (aI C1.r C3.r))));first|exact qm|fail)
  ·unfold zD
   (have zz:=aI C0.q (aI C1.q (aI C3.q (aI C0.r (aI C1.r C3.r))));first|exact qm|fail)
  ·(have zz:=aI C0.q (aI C1.q (aI C3.q (aI C0.r (aI C1.r C3.r))));first|exact qm|fail)
  ·simp(disch:=decide) only[Qam,Qaq,z0,z1,jf,jb,and_true,true_and,i0]
  ·simp(disch:=decide) only[Qam,Qaq,z0,z1,jf,jb,and_true,true_and,i2]
  ·simp(disch:=decide) only[Qam,Qaq,z0,z1,jf,jb,and_true,true_and,i4]
 rw[if_neg c1] at hr;by_cases k1:(tk ts i).kind=1
 ·rw[if_pos k1] at hr;have k1':((tk ts i).kind:Int)=1:=by omega
  have hi1:i+1<ts.length:=W.next i hi (by omega)
  (have zz:=aI C0.r (aI C1.r C3.r);(repeat'(first|(apply jc<;>intro _)|simp(disch:=first|exact qO|fail) only[ja i0,ja i2,ja i4,T,c1,k1,k1',hN,hM,C0.q,C1.q,C3.q,C0.r,C1.r,C3.r,je,Tk.cells_R,rzZ,Qab,Qac,Qad,Qaa,Qae]));(all_goals(clear zz)))
  refine jfK hb W hi1 hr ?_ ?_ ?_ ?_ ?_ ?_ ?_
  ·simp only[jg,jj,ju];omega
  ·unfold pC
   (have zz:=aI C0.q (aI C1.q (aI C3.q (aI C0.r (aI C1.r C3.r))));first|exact qm|fail)
  ·unfold zD
   (have zz:=aI C0.q (aI C1.q (aI C3.q (aI C0.r (aI C1.r C3.r))));first|exact qm|fail)
  ·(have zz:=aI C0.q (aI C1.q (aI C3.q (aI C0.r (aI C1.r C3.r))));first|exact qm|fail)
  ·simp(disch:=decide) only[Qam,Qaq,z0,z1,jf,jb,and_true,true_and,i0]
  ·simp(disch:=decide) only[Qam,Qaq,z0,z1,jf,jb,and_true,true_and,i2]
  ·simp(disch:=decide) only[Qam,Qaq,z0,z1,jf,jb,and_true,true_and,i4]
 rw[if_neg k1] at hr;have k1':¬ ((tk ts i).kind:Int)=1:=by omega
 have A:=jbE hb W N hi (d:=0);cases hn:YV ts i with
 |er t=>
  rw[hn] at hr A;have hr:SR.er t=r:=hr;subst hr;obtain⟨i',d',A⟩:=A;have E:∀ st p,Cl st p (pC ts i 0)->∀ K Kp,XB Qaf base 122 [.ptr p 0] st K Kp=_:=λst p C K Kp=>A.xb C rfl (λst=>hb.no 122 (by decide) _ _) K Kp;unfold pC at *
  (have zz:=aI C0.r (aI C1.r C3.r);(repeat'(first|(apply jc<;>intro _)|simp(disch:=first|exact qO|fail) only[ja i0,ja i2,ja i4,T,c1,k1',hN,E,zA,C0.q,C1.q,C3.q,C0.r,C1.r,C3.r,je,Tk.cells_R,rzZ,Qab,Qac,Qad,Qaa,Qae]));(all_goals(clear zz)))
  refine⟨i',d',?_⟩;unfold pC
  (refine G1.done ?_ (by rfl) (by rfl) ?_;(· (have zz:=aI C0.q (aI C1.q (aI C3.q (aI C0.r (aI C1.r C3.r))));first|exact qm|fail));(· first|exact vyD|skip))
 |ok lo j=>
  rw[hn] at hr A;dsimp only at hr;have A:PM _ _ _ _ _ _ _:=A;have hj:j<ts.length:=Kx W hi hn;have E:∀ st p,Cl st p (pC ts i 0)->∀ K Kp,XB Qaf base 122 [.ptr p 0] st K Kp=_:=λst p C K Kp=>A.xb C rfl (λst=>hb.no 122 (by decide) _ _) K Kp;have M:=λst p=>@QE base hb ts j 0 hj (by omega) [46,46] st p;by_cases c2:isM (tk ts j) [[46,46]]=true
  ·rw[if_pos c2] at hr;have hj1:=W.isM hj c2;have B:=jbE hb W N hj1 (d:=0);cases hn2:YV ts (j+1) with
   |er t=>
    rw[hn2] at hr B;have hr:SR.er t=r:=hr;subst hr;obtain⟨i',d',B⟩:=B;have F:∀ st p,Cl st p (pC ts (j+1) 0)->∀ K Kp,XB Qaf base 122 [.ptr p 0] st K Kp=_:=λst p C K Kp=>B.xb C rfl (λst=>hb.no 122 (by decide) _ _) K Kp;unfold pC at *
    (have zz:=aI C0.r (aI C1.r C3.r);(repeat'(first|(apply jc<;>intro _)|simp(disch:=first|exact qO|fail) only[ja i0,ja i2,ja i4,T,c1,k1',hN,E,F,M,c2,zA,C0.q,C1.q,C3.q,C0.r,C1.r,C3.r,je,Tk.cells_R,rzZ,Qab,Qac,Qad,Qaa,Qae]));(all_goals(clear zz)))
    refine⟨i',d',?_⟩;unfold pC
    (refine G1.done ?_ (by rfl) (by rfl) ?_;(· (have zz:=aI C0.q (aI C1.q (aI C3.q (aI C0.r (aI C1.r C3.r))));first|exact qm|fail));(· first|exact vyD|skip))
   |ok h2 k=>
    rw[hn2] at hr B;have hk:k<ts.length:=Kx W hj1 hn2;have B:PM _ _ _ _ _ _ _:=B;have F:∀ st p,Cl st p (pC ts (j+1) 0)->∀ K Kp,XB Qaf base 122 [.ptr p 0] st K Kp=_:=λst p C K Kp=>B.xb C rfl (λst=>hb.no 122 (by decide) _ _) K Kp;unfold pC at *
    (have zz:=aI C0.r (aI C1.r C3.r);(repeat'(first|(apply jc<;>intro _)|simp(disch:=first|exact qO|fail) only[ja i0,ja i2,ja i4,T,c1,k1',hN,E,F,M,c2,C0.q,C1.q,C3.q,C0.r,C1.r,C3.r,je,Tk.cells_R,rzZ,Qab,Qac,Qad,Qaa,Qae]));(all_goals(clear zz)))
    refine jfK hb W hk hr ?_ ?_ ?_ ?_ ?_ ?_ ?_
    ·simp only[jg,jj,ju];omega
    ·unfold pC
     (have zz:=aI C0.q (aI C1.q (aI C3.q (aI C0.r (aI C1.r C3.r))));first|exact qm|fail)
    ·unfold zD
     (have zz:=aI C0.q (aI C1.q (aI C3.q (aI C0.r (aI C1.r C3.r))));first|exact qm|fail)
    ·(have zz:=aI C0.q (aI C1.q (aI C3.q (aI C0.r (aI C1.r C3.r))));first|exact qm|fail)
    ·simp(disch:=decide) only[Qam,Qaq,z0,z1,jf,jb,and_true,true_and,i0]
    ·simp(disch:=decide) only[Qam,Qaq,z0,z1,jf,jb,and_true,true_and,i2]
    ·simp(disch:=decide) only[Qam,Qaq,z0,z1,jf,jb,and_true,true_and,i4]
  ·rw[if_neg c2] at hr;have hr:SR.er (tk ts j)=r:=hr;subst hr;unfold pC at *
   (have zz:=aI C0.r (aI C1.r C3.r);(repeat'(first|(apply jc<;>intro _)|simp(disch:=first|exact qO|fail) only[ja i0,ja i2,ja i4,T,c1,k1',hN,E,M,c2,zA,C0.q,C1.q,C3.q,C0.r,C1.r,C3.r,je,Tk.cells_R,rzZ,Qab,Qac,Qad,Qaa,Qae]));(all_goals(clear zz)))
   refine⟨j,0,?_⟩;unfold pC
   (refine G1.done ?_ (by rfl) (by rfl) ?_;(· (have zz:=aI C0.q (aI C1.q (aI C3.q (aI C0.r (aI C1.r C3.r))));first|exact qm|fail));(· first|exact vyD|skip))
set_option maxHeartbeats 4000000 in
theorem jqD (hb:NB base){ts:List Tk}(W:Wds ts)(N:Nbs ts){i:Nat}(hi:i<ts.length):AnS base 89 (pC ts i 0) [] ts 0 (λd=>.agg (qh d)) (Yh ts i):=by
 have wl:=W.len;have hM:=λst p=>@uS base hb ts i 0 hi (by omega) st p;unfold Yh;by_cases k1:(tk ts i).kind=1
 ·rw[if_pos k1];have hi1:i+1<ts.length:=W.next i hi (by omega)
  have M:=λst p=>@QE base hb ts (i+1) 0 hi1 (by omega) [58] st p;by_cases c1:isM (tk ts (i+1)) [[58]]=true
  ·rw[if_pos c1];have hi2:=W.isM hi1 c1;suffices h:∀ r:SR DeclT,(match Wi ts (i+2) with | .er t=>SR.er t | .ok y j=>(match Z7 ts j with | .er t=>.er t | .ok bs k=>.ok ⟨(tk ts i).text,y.1,y.2.1,y.2.2,bs,(tk ts i).line,(tk ts i).col⟩ k))=r->AnS base 89 (pC ts i 0) [] ts 0 (λd=>.agg (qh d)) r from h _ rfl
   intro r hr;refine vI x79 (by rfl) (hb.pur 89 3 (by decide)) ?_;simp only[y79,jt,Qai,Qaj,Qag,Qah];rw[(by unfold z79;simp only[qq];rfl:z79=_)];unfold pC at *;repeat'(first|(apply jc<;>intro _)|simp(disch:=first|exact dzD|fail) only[hM,k1,M,c1,je,Tk.cells_R,rzZ,Qab,Qac,Qad,Qaa,Qae])
   refine jr4 hb W N hi2 hr ?_ ?_ ?_ ?_ ?_ ?_ ?_
   ·simp only[jg,jj,ju,yi];omega
   ·unfold pC
    (first|exact cyD|fail)
   ·unfold zD
    (first|exact cyD|fail)
   ·(first|exact cyD|fail)
   ·simp(disch:=decide) only[Qam,Qaq,z0,z1,jf,jb,and_true,true_and]
   ·simp(disch:=decide) only[Qam,Qaq,z0,z1,jf,jb,and_true,true_and]
   ·simp(disch:=decide) only[Qam,Qaq,z0,z1,jf,jb,and_true,true_and]
  ·rw[if_neg c1];refine⟨i+1,0,?_⟩;unfold pC at *;refine j2 x79 (by rfl) (hb.pur 89 3 (by decide)) rfl ?_;simp only[y79,jt,Qai,Qaj,Qag,Qah];rw[(by unfold z79;simp only[qq];rfl:z79=_)];repeat'(first|(apply jc<;>intro _)|simp(disch:=first|exact dzD|fail) only[hM,k1,M,c1,je,Tk.cells_R,rzZ,Qab,Qac,Qad,Qaa,Qae])
   (refine G1.done ?_ (by rfl) (by rfl) ?_;(· (first|exact cyD|fail));(· first|exact vyD|skip))
 ·rw[if_neg k1];refine⟨i,0,?_⟩;unfold pC at *;refine j2 x79 (by rfl) (hb.pur 89 3 (by decide)) rfl ?_;simp only[y79,jt,Qai,Qaj,Qag,Qah];rw[(by unfold z79;simp only[qq];rfl:z79=_)];repeat'(first|(apply jc<;>intro _)|simp(disch:=first|exact dzD|fail) only[hM,k1,je,Tk.cells_R,rzZ,Qab,Qac,Qad,Qaa,Qae])
  (refine G1.done ?_ (by rfl) (by rfl) ?_;(· (first|exact cyD|fail));(· first|exact vyD|skip))
end Go.Sy
end
noncomputable section
set_option maxRecDepth 100000
namespace Go.Sy
open Go.Ev Go.Proofs
variable {base:Bs}
structure AsT where
 name:List Nat
 to:Ex
 line:Int
 col:Int
def asE (a:AsT):List AV:=.str a.name :: (eE a.to ++ [.int .i64 (a.line:Int),.int .i64 (a.col:Int)])
theorem ZO (a:AsT):(asE a).length=9:=nr (by simp[asE,zx])
theorem QW (a:AsT):(asE a).all pc=true:=nr (by simp[asE,qY,pc])
theorem gv (a:AsT):lall AV.cell (asE a)=true:=nr (by unfold asE;rw[qG];rfl)
structure RuleT where
 when:Ex
 acts:List AsT
def ruE (r:RuleT):List AV:=eE r.when ++ [.lst r.acts.length (fl asE r.acts)]
def QB (ts:List Tk):Nat->Nat->List AsT->SR (List AsT)
 |0,i,_=>.er (tk ts i)
 |n+1,i,vs=>if(tk ts i).kind=1 then
   (if 32<=vs.length then .er (tk ts i)
    else if isM (tk ts (i+1)) [[58,61]]=true then(match yn ts (i+2) with
     |.er t=>.er t
     |.ok x j=>
      if isM (tk ts j) [[44]]=true then QB ts n (j+1) (vs ++ [⟨(tk ts i).text,x,(tk ts i).line,(tk ts i).col⟩])
      else if isM (tk ts j) [[59]]=true then .ok (vs ++ [⟨(tk ts i).text,x,(tk ts i).line,(tk ts i).col⟩]) (j+1)
      else .er (tk ts j))
    else .er (tk ts (i+1)))
  else .er (tk ts i)
def Xl (ts:List Tk)(i:Nat):SR RuleT:=
 match yn ts i with
 |.er t=>.er t
 |.ok x j=>if isM (tk ts j) [[100,111]]=true then(match QB ts ts.length (j+1) [] with
   |.ok vs k=>.ok ⟨x,vs⟩ k
   |.er t=>.er t)
  else .er (tk ts j)
theorem jpn:Go.Ev.isAgg Qaf 118=some false:=by kernel_rfl
theorem jpm:Go.Ev.sizeOf Qaf 118=some 1:=by kernel_rfl
theorem HY {b o:Nat}{v:AV}{h:T AO}(ho:o<qt h b)(hv:rat h b o=v)(hc:eqs v=true):(jX Qaf 118 (.ptr b o) v h=true)=True:=eq_true (J4 jpn jpm ho hv hc)
theorem sm3 {b o:Nat}{v:AV}{h:T AO}(ho:o<qt h b)(hv:rat h b o=v)(hc:eqs v=true):(jX Qaf 3 (.ptr b o) v h=true)=True:=eq_true (J4 jpl jpk ho hv hc)
set_option maxHeartbeats 4000000 in
theorem jpF (hb:NB base){ts:List Tk}(W:Wds ts){i:Nat}(hi:i<ts.length):AnS base 123 (pC ts i 0) [] ts 0 (λe=>.agg (ruE e)) (Xl ts i):=by
 have wl:=W.len;have A:=Uc hb W hi;unfold Xl;cases hw:yn ts i with
 |er t=>
  rw[hw] at A;obtain⟨i',d',A⟩:=A;have E:∀ st p,Cl st p (pC ts i 0)->∀ K Kp,XB Qaf base 72 [.ptr p 0] st K Kp=_:=λst p C K Kp=>A.xb C rfl (λst=>hb.no 72 (by decide) _ _) K Kp;refine⟨i',d',?_⟩;unfold pC at *;refine j2 jjV (by rfl) (hb.pur 123 3 (by decide)) rfl ?_;simp only[jeC,jt,Qai,Qaj,Qag,Qah];rw[(by unfold U4;simp only[qq];rfl:U4=_)];repeat'(first|(apply jc<;>intro _)|simp(disch:=first|exact dzD|fail) only[E,je,Tk.cells_R,rzZ,Qab,Qac,Qad,Qaa,Qae])
  (refine G1.done ?_ (by rfl) (by rfl) ?_;(· (first|exact cyD|fail));(· first|exact vyD|skip))
 |ok x j=>
  rw[hw] at A;have A:PM _ _ _ _ _ _ _:=A;rw[qG] at A;have hj:j<ts.length:=(yc W hi hw).2.1;have E:∀ st p,Cl st p (pC ts i 0)->∀ K Kp,XB Qaf base 72 [.ptr p 0] st K Kp=_:=λst p C K Kp=>A.xb C rfl (λst=>hb.no 72 (by decide) _ _) K Kp;have M:=λst p=>@QE base hb ts j 0 hj (by omega) [100,111] st p;dsimp only;by_cases c1:isM (tk ts j) [[100,111]]=true
  ·rw[if_pos c1];have hj1:=W.isM hj c1;suffices h:∀ r:SR RuleT,(match QB ts ts.length (j+1) [] with | .ok vs k=>SR.ok ⟨x,vs⟩ k | .er t=>.er t)=r->AnS base 123 (pC ts i 0) [] ts 0 (λe=>.agg (ruE e)) r from h _ rfl
   intro r hr;refine vI jjV (by rfl) (hb.pur 123 3 (by decide)) ?_;simp only[jeC,jt,Qai,Qaj,Qag,Qah];rw[(by unfold U4;simp only[qq];rfl:U4=_)];unfold pC at *;repeat'(first|(apply jc<;>intro _)|simp(disch:=first|exact dzD|fail) only[E,M,c1,je,Tk.cells_R,rzZ,Qab,Qac,Qad,Qaa,Qae])
   refine uI λu hu=>?_;have n0:u.nx=3:=by rw[hu];rfl
   have C0:Cl u 0 (pC ts (j+1) 0):=by
    rw[hu];unfold pC
    (first|exact cyD|fail)
   have C1:Cl u 1 [.int .i64 0,.int .i64 0,.str [],.nils,.int .i64 0,.int .i64 0,.nils]:=by
    rw[hu]
    (first|exact cyD|fail)
   have C2:Cl u 2 [.int .i64 x.op,.int .i64 x.num,.str x.name,.lst x.kids.length (fl eE x.kids),.int .i64 x.line,.int .i64 x.col,.nils]:=by
    rw[hu]
    (first|exact cyD|fail)
   clear hu E M A;refine zj (λmm L s=>∃ (m i':Nat) (vs:List AsT) (v:AV),mm=m/\ts.length<=i'+m/\i'<ts.length/\(match QB ts m i' vs with | .ok vs k=>SR.ok ⟨x,vs⟩ k | .er t=>.er t:SR RuleT)=r/\3<=s.nx/\Cl s 0 (pC ts i' 0)/\Cl s 1 [.int .i64 0,.int .i64 0,.str [],.nils,.int .i64 0,.int .i64 0,.nils]/\Cl s 2 [.int .i64 x.op,.int .i64 x.num,.str x.name,.lst x.kids.length (fl eE x.kids),.int .i64 x.line,.int .i64 x.col,v]/\Lv 3 s.nx s v vs.length (fl asE vs) 9/\Has L 0 (.ptr 0 0)/\Has L 2 (.ptr 1 0)/\Has L 3 (.ptr 2 0)) ?_ ts.length ?_
   ·rintro m L s ⟨_,i',vs,v,rfl,hm,hi',hl,n0,C0,C1,C2,V,i0,i2,i3⟩;clear hr;cases m with
    |zero=>omega
    |succ m=>
    unfold QB at hl;obtain⟨q0,hq0⟩:∃ q,q=s.nx:=⟨_,rfl⟩;rw[<-hq0] at V;have hq':q0<=s.nx:=QbC hq0;have hN:=λst p=>@YW base hb ts i' 0 hi' st p;have hM:=λst p=>@uS base hb ts i' 0 hi' (by omega) st p;have L0:=C0.lt;have L1:=C1.lt;have L2:=C2.lt;have ve:=V.eqs;have g3:rat s.h 2 6=v:=C2.cell 6 (by simp);have vl:=V.len;by_cases k1:(tk ts i').kind=1
    ·rw[if_pos k1] at hl;have k1':((tk ts i').kind:Int)=1:=by omega
     have hi1:i'+1<ts.length:=W.next i' hi' (by omega)
     by_cases h32:32<=vs.length
     ·rw[if_pos h32] at hl;have hl:SR.er (tk ts i')=r:=hl;subst hl;have R:=wM hb h32 (tk ts i');unfold pC at *
      (have zz:=aI @g3 (aI C0.r (aI C1.r C2.r));(repeat'(first|(apply jc<;>intro _)|simp(disch:=first|exact qO|fail) only[ja i0,ja i2,ja i3,hN,k1',vl,R,HY,ve,zA,C0.q,C1.q,C2.q,g3,C0.r,C1.r,C2.r,je,Tk.cells_R,rzZ,Qab,Qac,Qad,Qaa,Qae]));(all_goals(clear zz)))
      refine⟨i',0,?_⟩;unfold pC
      (refine G1.done ?_ (by rfl) (by rfl) ?_;(· (have zz:=aI C0.q (aI C1.q (aI C2.q (aI C0.r (aI C1.r C2.r))));first|exact qm|fail));(· first|exact vyD|skip))
     ·rw[if_neg h32] at hl;have R:=wL hb (show vs.length<32 by omega) (tk ts i');have M1:=λst p=>@QE base hb ts (i'+1) 0 hi1 (by omega) [58,61] st p;by_cases c2:isM (tk ts (i'+1)) [[58,61]]=true
      ·rw[if_pos c2] at hl;have hi2:=W.isM hi1 c2;have A:=Uc hb W hi2;cases hw2:yn ts (i'+2) with
       |er t=>
        rw[hw2] at hl A;have hl:SR.er t=r:=hl;subst hl;obtain⟨i2',d2,A⟩:=A;have E:∀ st p,Cl st p (pC ts (i'+2) 0)->∀ K Kp,XB Qaf base 72 [.ptr p 0] st K Kp=_:=λst p C K Kp=>A.xb C rfl (λst=>hb.no 72 (by decide) _ _) K Kp;unfold pC at *
        (have zz:=aI @g3 (aI @yO (aI @yN (aI C0.r (aI C1.r C2.r))));(repeat'(first|(apply jc<;>intro _)|simp(disch:=first|exact qO|fail) only[ja i0,ja i2,ja i3,hN,hM,k1,k1',vl,R,M1,c2,E,HY,sm9,sm3,ve,zA,Yt,W4,W3 (base:=base),C0.q,C1.q,C2.q,g3,yO,yN,C0.r,C1.r,C2.r,je,Tk.cells_R,rzZ,Qab,Qac,Qad,Qaa,Qae]));(all_goals(clear zz)))
        refine⟨i2',d2,?_⟩;unfold pC
        (refine G1.done ?_ (by rfl) (by rfl) ?_;(· (have zz:=aI C0.q (aI C1.q (aI C2.q (aI C0.r (aI C1.r C2.r))));first|exact qm|fail));(· first|exact vyD|skip))
       |ok y q=>
        rw[hw2] at hl A;dsimp only at hl;have A:PM _ _ _ _ _ _ _:=A;rw[qG] at A;have hq:q<ts.length:=(yc W hi2 hw2).2.1;have hq2:i'+3<=q:=(yc W hi2 hw2).1;have E:∀ st p,Cl st p (pC ts (i'+2) 0)->∀ K Kp,XB Qaf base 72 [.ptr p 0] st K Kp=_:=λst p C K Kp=>A.xb C rfl (λst=>hb.no 72 (by decide) _ _) K Kp;have T:=YN hb hq (d:=0) (by omega) [[44]] (cs:=[.str [44]]) (n:=1) rfl rfl (by decide);have M:=λst p=>@QE base hb ts q 0 hq (by omega) [59] st p;have Ap:=λst bv xc xx K h hv=>@J0 3 q0 vs.length 9 st v (fl asE vs) K 104 bv xc xx h (by decide) (by omega) (by omega) hv;obtain⟨a,hav⟩:∃ a:AsT,a=⟨(tk ts i').text,y,(tk ts i').line,(tk ts i').col⟩:=⟨_,rfl⟩;rw[<-hav] at hl;have ea:asE a=[.str (tk ts i').text,.int .i64 y.op,.int .i64 y.num,.str y.name,.lst y.kids.length (fl eE y.kids),.int .i64 y.line,.int .i64 y.col,.int .i64 ((tk ts i').line:Int),.int .i64 ((tk ts i').col:Int)]:=by rw[hav];unfold asE;rw[qG];rfl
        have V2:∀ st m',Lv 3 q0 st v vs.length (fl asE vs) 9->3<=st.nx->m'=st.nx+1->Lv 3 m' (aps v st [.str (tk ts i').text,.int .i64 y.op,.int .i64 y.num,.str y.name,.lst y.kids.length (fl eE y.kids),.int .i64 y.line,.int .i64 y.col,.int .i64 ((tk ts i').line:Int),.int .i64 ((tk ts i').col:Int)]) (apv 9 v st) (vs ++ [a]).length (fl asE (vs ++ [a])) 9:=λst m' h h2 h3=>by
         rw[Qal,QH,JL,ea];exact h.put rfl h2 h3
        unfold pC at *
        (have zz:=aI @g3 (aI @yO (aI @yN (aI V.ln (aI V.rts (aI @jA (aI @jF (aI @jJ (aI @V (aI @jC (aI @jI (aI @jL (aI C0.r (aI C1.r C2.r)))))))))))));(repeat'(first|(apply jc<;>intro _)|simp(disch:=first|exact qO|fail) only[ja i0,ja i2,ja i3,hN,hM,k1,k1',vl,R,M1,c2,E,HY,sm9,sm3,ve,Ap,V.at,jC,C0.q,C1.q,C2.q,g3,yO,yN,V.ln,V.rts,jA,jF,jJ,V,jC,jI,jL,C0.r,C1.r,C2.r,je,Tk.cells_R,rzZ,Qab,Qac,Qad,Qaa,Qae]));(all_goals(clear zz)))
        rw[T _ 0 (s.nx+1+1+1) 1 true (by(have zz:=aI C0.q (aI C1.q (aI C2.q (aI @g3 (aI V.ln (aI V.rts (aI @jC (aI @jI (aI @jL (aI C0.r (aI C1.r C2.r))))))))));first|exact qm|fail)) (by(have zz:=aI C0.q (aI C1.q (aI C2.q (aI @g3 (aI V.ln (aI V.rts (aI @jC (aI @jI (aI @jL (aI C0.r (aI C1.r C2.r))))))))));first|exact qm|fail)) (by omega)]
        (have zz:=aI @g3 (aI V.ln (aI V.rts (aI @jC (aI @jI (aI @jL (aI C0.r (aI C1.r C2.r)))))));(repeat'(first|(apply jc<;>intro _)|simp(disch:=first|exact qO|fail) only[ja i0,ja i2,ja i3,M,V.at,jC,C0.q,C1.q,C2.q,g3,V.ln,V.rts,jC,jI,jL,C0.r,C1.r,C2.r,je,Tk.cells_R,rzZ,Qab,Qac,Qad,Qaa,Qae]));(all_goals(clear zz)))
        ·rename_i c;rw[if_pos c] at hl;have hi2':=W.isM hq c;refine⟨m,by omega,m,q+1,vs ++ [a],?v,rfl,by omega,hi2',hl,by omega,?c0,?c1,?c2,?lv,?has⟩;case lv=>
          refine Lv.up (hi:=s.nx+3) ?_ (by omega);simp(disch:=first|omega|(simp only[jg,jj,jr,ju];omega)) only[jA,jF,jJ];refine V2 _ _ ?_ ?_ ?_;all_goals first|(simp only[jg,jj];done)|(simp only[jg,jj];omega)|(simp(disch:=first|omega|(simp only[jg,jj];omega)) only[jA,jF];exact V)
         case c0=>(have zz:=aI C0.q (aI C1.q (aI C2.q (aI @g3 (aI V.ln (aI V.rts (aI @jC (aI @jI (aI @jL (aI C0.r (aI C1.r C2.r))))))))));first|exact qm|fail)
         case c1=>(have zz:=aI C0.q (aI C1.q (aI C2.q (aI @g3 (aI V.ln (aI V.rts (aI @jC (aI @jI (aI @jL (aI C0.r (aI C1.r C2.r))))))))));first|exact qm|fail)
         case c2=>(have zz:=aI C0.q (aI C1.q (aI C2.q (aI @g3 (aI V.ln (aI V.rts (aI @jC (aI @jI (aI @jL (aI C0.r (aI C1.r C2.r))))))))));first|exact qm|fail)
         case has=>simp(disch:=decide) only[Qam,Qaq,z0,z1,jf,jb,and_true,true_and,i0,i2,i3]
        ·rename_i c c4;rw[if_neg c,if_pos c4] at hl;have hl:SR.ok (⟨x,vs ++ [a]⟩:RuleT) (q+1)=r:=hl;subst hl;show G1 3 (pC ts (q+1) 0) (.agg (ruE ⟨x,vs ++ [a]⟩)) _ _;rw[show ruE ⟨x,vs ++ [a]⟩=[.int .i64 x.op,.int .i64 x.num,.str x.name,.lst x.kids.length (fl eE x.kids),.int .i64 x.line,.int .i64 x.col,.lst (vs ++ [a]).length (fl asE (vs ++ [a]))] by unfold ruE;rw[qG];rfl];refine G1.done ?_ (by rfl) (by rfl) (FzD.agg (.cons (.pc rfl) (.cons (.pc rfl) (.cons (.pc rfl) (.cons (.pc rfl) (.cons (.pc rfl) (.cons (.pc rfl) (.cons (Lv.fz (lo:=3) (hi:=s.nx+3) (z:=9) ?_ (by decide) (yT QW _)) .nil))))))))
         ·unfold pC
          (have zz:=aI C0.q (aI C1.q (aI C2.q (aI @g3 (aI V.ln (aI V.rts (aI @jC (aI @jI (aI @jL (aI C0.r (aI C1.r C2.r))))))))));first|exact qm|fail)
         ·simp(disch:=first|omega|(simp only[jg,jj,jr,ju];omega)) only[jG,jA,jF,jJ];refine V2 _ _ ?_ ?_ ?_;all_goals first|(simp only[jg,jj];done)|(simp only[jg,jj];omega)|(simp(disch:=first|omega|(simp only[jg,jj];omega)) only[jA,jF];exact V)
        ·rename_i c c4;rw[if_neg c,if_neg c4] at hl;have hl:SR.er (tk ts q)=r:=hl;subst hl;refine⟨q,0,?_⟩;unfold pC
         (refine G1.done ?_ (by rfl) (by rfl) ?_;(· (have zz:=aI C0.q (aI C1.q (aI C2.q (aI @g3 (aI V.ln (aI V.rts (aI @jC (aI @jI (aI @jL (aI C0.r (aI C1.r C2.r))))))))));first|exact qm|fail));(· first|exact vyD|skip))
      ·rw[if_neg c2] at hl;have hl:SR.er (tk ts (i'+1))=r:=hl;subst hl;unfold pC at *
       (have zz:=aI @g3 (aI C0.r (aI C1.r C2.r));(repeat'(first|(apply jc<;>intro _)|simp(disch:=first|exact qO|fail) only[ja i0,ja i2,ja i3,hN,hM,k1,k1',vl,R,M1,c2,HY,ve,zA,C0.q,C1.q,C2.q,g3,C0.r,C1.r,C2.r,je,Tk.cells_R,rzZ,Qab,Qac,Qad,Qaa,Qae]));(all_goals(clear zz)))
       refine⟨i'+1,0,?_⟩;unfold pC
       (refine G1.done ?_ (by rfl) (by rfl) ?_;(· (have zz:=aI C0.q (aI C1.q (aI C2.q (aI C0.r (aI C1.r C2.r))));first|exact qm|fail));(· first|exact vyD|skip))
    ·rw[if_neg k1] at hl;have k1':¬ ((tk ts i').kind:Int)=1:=by omega
     have hl:SR.er (tk ts i')=r:=hl;subst hl;unfold pC at *
     (have zz:=aI @g3 (aI C0.r (aI C1.r C2.r));(repeat'(first|(apply jc<;>intro _)|simp(disch:=first|exact qO|fail) only[ja i0,ja i2,ja i3,hN,hM,k1,k1',zA,C0.q,C1.q,C2.q,g3,C0.r,C1.r,C2.r,je,Tk.cells_R,rzZ,Qab,Qac,Qad,Qaa,Qae]));(all_goals(clear zz)))
     refine⟨i',0,?_⟩;unfold pC
     (refine G1.done ?_ (by rfl) (by rfl) ?_;(· (have zz:=aI C0.q (aI C1.q (aI C2.q (aI C0.r (aI C1.r C2.r))));first|exact qm|fail));(· first|exact vyD|skip))
   ·refine⟨ts.length,j+1,[],.nils,rfl,by omega,hj1,hr,by omega,C0,C1,C2,Lv.nil,?_⟩;simp(disch:=decide) only[Qam,Qaq,z0,z1,jf,jb,and_true,true_and]
  ·rw[if_neg c1];refine⟨j,0,?_⟩;unfold pC at *;refine j2 jjV (by rfl) (hb.pur 123 3 (by decide)) rfl ?_;simp only[jeC,jt,Qai,Qaj,Qag,Qah];rw[(by unfold U4;simp only[qq];rfl:U4=_)];repeat'(first|(apply jc<;>intro _)|simp(disch:=first|exact dzD|fail) only[E,M,c1,je,Tk.cells_R,rzZ,Qab,Qac,Qad,Qaa,Qae])
   (refine G1.done ?_ (by rfl) (by rfl) ?_;(· (first|exact cyD|fail));(· first|exact vyD|skip))
end Go.Sy
end
noncomputable section
set_option maxRecDepth 100000
namespace Go.Sy
open Go.Ev Go.Proofs
variable {base:Bs}
theorem Vg (r:RuleT):ruE r=[.int .i64 r.when.op,.int .i64 r.when.num,.str r.when.name,.lst r.when.kids.length (fl eE r.when.kids),.int .i64 r.when.line,.int .i64 r.when.col,.lst r.acts.length (fl asE r.acts)]:=by unfold ruE;rw[qG];rfl
theorem wj (r:RuleT):(ruE r).length=7:=nr (by rw[Vg];rfl)
theorem Wo (r:RuleT):(ruE r).all pc=true:=nr (by rw[Vg];rfl)
theorem jek {ts:List Tk}(W:Wds ts):∀ n i vs ws j,i<ts.length->QB ts n i vs=.ok ws j->i<=j/\j<ts.length
 |0,i,vs,ws,j,_,h=>by simp[QB] at h
 |n+1,i,vs,ws,j,hi,h=>by
  unfold QB at h;split at h
  ·rename_i k1;have hi1:i+1<ts.length:=W.next i hi (by omega)
   split at h
   ·cases h
   ·split at h
    ·rename_i c;have hi2:=W.isM hi1 c;cases hw:yn ts (i+2) with
     |er t=>rw[hw] at h;cases h
     |ok x q=>
      rw[hw] at h;dsimp only at h;have g:=yc W hi2 hw;split at h
      ·rename_i c2;have:=jek W n (q+1) _ ws j (W.isM g.2.1 c2) h;have:=g.1;exact⟨by omega,by omega⟩
      ·split at h
       ·rename_i c3;cases h;have:=W.isM g.2.1 c3;have:=g.1;exact⟨by omega,by omega⟩
       ·cases h
    ·cases h
  ·cases h
theorem Ul {ts:List Tk}(W:Wds ts){i j:Nat}{r:RuleT}(hi:i<ts.length)(h:Xl ts i=.ok r j):i<j/\j<ts.length:=by
 unfold Xl at h;cases hw:yn ts i with
 |er t=>rw[hw] at h;cases h
 |ok x q=>
  rw[hw] at h;dsimp only at h;have g:=yc W hi hw;split at h
  ·rename_i c;have hq1:=W.isM g.2.1 c;cases ha:QB ts ts.length (q+1) [] with
   |er t=>rw[ha] at h;cases h
   |ok vs k=>
    rw[ha] at h;cases h;have:=jek W _ _ _ _ _ hq1 ha;have:=g.1;exact⟨by omega,by omega⟩
  ·cases h
structure ProcT where
 name:List Nat
 rules:List RuleT
 line:Int
 col:Int
def prE (p:ProcT):List AV:=[.str p.name,.lst p.rules.length (fl ruE p.rules),.int .i64 (p.line:Int),.int .i64 (p.col:Int)]
def J5 (ts:List Tk):Nat->Nat->List RuleT->SR (List RuleT)
 |0,i,_=>.er (tk ts i)
 |n+1,i,vs=>if isM (tk ts i) [[119,104,101,110]]=true then
   (if 32<=vs.length then .er (tk ts i) else match Xl ts (i+1) with
    |.er t=>.er t
    |.ok r j=>J5 ts n j (vs ++ [r]))
  else if isM (tk ts i) [[125]]=true then .ok vs (i+1) else .er (tk ts i)
def X5 (ts:List Tk)(i:Nat):SR ProcT:=
 if(tk ts i).kind=1 then
  (if isM (tk ts (i+1)) [[123]]=true then(match J5 ts ts.length (i+2) [] with
    |.ok vs j=>.ok ⟨(tk ts i).text,vs,(tk ts i).line,(tk ts i).col⟩ j
    |.er t=>.er t)
   else .er (tk ts (i+1)))
 else .er (tk ts i)
theorem jrq:Go.Ev.isAgg Qaf 114=some false:=by kernel_rfl
theorem jrp:Go.Ev.sizeOf Qaf 114=some 1:=by kernel_rfl
theorem jpy {b o:Nat}{v:AV}{h:T AO}(ho:o<qt h b)(hv:rat h b o=v)(hc:eqs v=true):(jX Qaf 114 (.ptr b o) v h=true)=True:=eq_true (J4 jrq jrp ho hv hc)
set_option maxHeartbeats 4000000 in
theorem jpR (hb:NB base){ts:List Tk}(W:Wds ts){i:Nat}(hi:i<ts.length):AnS base 90 (pC ts i 0) [] ts 0 (λe=>.agg (prE e)) (X5 ts i):=by
 have wl:=W.len;have N:=λst p=>@uS base hb ts i 0 hi (by omega) st p;unfold X5;by_cases k1:(tk ts i).kind=1
 ·rw[if_pos k1];have hi1:i+1<ts.length:=W.next i hi (by omega)
  have M:=λst p=>@QE base hb ts (i+1) 0 hi1 (by omega) [123] st p;by_cases c1:isM (tk ts (i+1)) [[123]]=true
  ·rw[if_pos c1];have hi2:=W.isM hi1 c1;suffices h:∀ r:SR ProcT,(match J5 ts ts.length (i+2) [] with
    |.ok vs j=>SR.ok ⟨(tk ts i).text,vs,(tk ts i).line,(tk ts i).col⟩ j
    |.er t=>.er t:SR ProcT)=r->AnS base 90 (pC ts i 0) [] ts 0 (λe=>.agg (prE e)) r from h _ rfl
   intro r hr;refine vI x80 (by rfl) (hb.pur 90 3 (by decide)) ?_;simp only[y80,jt,Qai,Qaj,Qag,Qah];rw[(by unfold z80;simp only[qq];rfl:z80=_)];unfold pC at *;repeat'(first|(apply jc<;>intro _)|simp(disch:=first|exact dzD|fail) only[N,k1,M,c1,je,Tk.cells_R,rzZ,Qab,Qac,Qad,Qaa,Qae])
   refine uI λu hu=>?_;have n0:u.nx=4:=by rw[hu];rfl
   have C0:Cl u 0 (pC ts (i+2) 0):=by
    rw[hu];unfold pC
    (first|exact cyD|fail)
   have C1:Cl u 1 [.str [],.nils,.int .i64 0,.int .i64 0]:=by
    rw[hu]
    (first|exact cyD|fail)
   have C3:Cl u 3 [.str (tk ts i).text,.nils,.int .i64 ((tk ts i).line:Int),.int .i64 ((tk ts i).col:Int)]:=by
    rw[hu]
    (first|exact cyD|fail)
   clear hu N M;generalize (tk ts i).text=nm at *;generalize (tk ts i).line=ln at *;generalize (tk ts i).col=co at *;refine zj (λmm L s=>∃ (m i':Nat) (vs:List RuleT) (v:AV),mm=m/\ts.length<=i'+m/\i'<ts.length/\(match J5 ts m i' vs with | .ok vs j=>SR.ok ⟨nm,vs,ln,co⟩ j | .er t=>.er t:SR ProcT)=r/\4<=s.nx/\Cl s 0 (pC ts i' 0)/\Cl s 1 [.str [],.nils,.int .i64 0,.int .i64 0]/\Cl s 3 [.str nm,v,.int .i64 (ln:Int),.int .i64 (co:Int)]/\Lv 4 s.nx s v vs.length (fl ruE vs) 7/\Has L 0 (.ptr 0 0)/\Has L 2 (.ptr 1 0)/\Has L 4 (.ptr 3 0)) ?_ ts.length ?_
   ·rintro m L s ⟨_,i',vs,v,rfl,hm,hi',hl,n0,C0,C1,C3,V,i0,i2,i4⟩;clear hr;cases m with
    |zero=>omega
    |succ m=>
    unfold J5 at hl;obtain⟨q,hq⟩:∃ q,q=s.nx:=⟨_,rfl⟩;rw[<-hq] at V;have hq':q<=s.nx:=QbC hq;have T:=YN hb hi' (d:=0) (by omega) [[119,104,101,110]] (cs:=[.str [119,104,101,110]]) (n:=1) rfl rfl (by decide);have L0:=C0.lt;have L1:=C1.lt;have L3:=C3.lt;have ve:=V.eqs;have g3:rat s.h 3 1=v:=C3.cell 1 (QbS (Qbr 2));have vl:=V.len;have vc:∀ l,lall AV.cell (v :: l)=lall AV.cell l:=λl=>by show cond v.cell _ false=_;rw[V.cell];rfl
    by_cases c2:isM (tk ts i') [[119,104,101,110]]=true
    ·rw[if_pos c2] at hl;have hi1:=W.isM hi' c2;by_cases h32:32<=vs.length
     ·rw[if_pos h32] at hl;have hl:SR.er (tk ts i')=r:=hl;subst hl;have R:=wM hb h32 (tk ts i');unfold pC at *
      (have zz:=aI @g3 (aI C0.r (aI C1.r C3.r));(repeat'(first|(apply jc<;>intro _)|simp(disch:=first|exact qO|fail) only[ja i0,ja i2,ja i4,T,c2,vl,R,g3,zA,C0.q,C1.q,C3.q,g3,C0.r,C1.r,C3.r,je,Tk.cells_R,rzZ,Qab,Qac,Qad,Qaa,Qae]));(all_goals(clear zz)))
      refine⟨i'+1,0,?_⟩;unfold pC
      (refine G1.done ?_ (by rfl) (by rfl) ?_;(· (have zz:=aI C0.q (aI C1.q (aI C3.q (aI C0.r (aI C1.r C3.r))));first|exact qm|fail));(· first|exact vyD|skip))
     ·rw[if_neg h32] at hl;have R:=wL hb (show vs.length<32 by omega) (tk ts i');have A:=jpF hb W hi1;cases hw:Xl ts (i'+1) with
      |er t=>
       rw[hw] at hl A;have hl:SR.er t=r:=hl;subst hl;obtain⟨i2',d2,A⟩:=A;have E:∀ st p,Cl st p (pC ts (i'+1) 0)->∀ K Kp,XB Qaf base 123 [.ptr p 0] st K Kp=_:=λst p C K Kp=>A.xb C rfl (λst=>hb.no 123 (by decide) _ _) K Kp;unfold pC at *
       (have zz:=aI @g3 (aI C0.r (aI C1.r C3.r));(repeat'(first|(apply jc<;>intro _)|simp(disch:=first|exact qO|fail) only[ja i0,ja i2,ja i4,T,c2,vl,R,g3,E,jpy,ve,zA,C0.q,C1.q,C3.q,g3,C0.r,C1.r,C3.r,je,Tk.cells_R,rzZ,Qab,Qac,Qad,Qaa,Qae]));(all_goals(clear zz)))
       refine⟨i2',d2,?_⟩;unfold pC
       (refine G1.done ?_ (by rfl) (by rfl) ?_;(· (have zz:=aI C0.q (aI C1.q (aI C3.q (aI C0.r (aI C1.r C3.r))));first|exact qm|fail));(· first|exact vyD|skip))
      |ok a j=>
       rw[hw] at hl A;dsimp only at hl;have A:PM _ _ _ _ _ _ _:=A;have A:PM Qaf base 123 (pC ts (i'+1) 0) [] (.ok (.agg [.int .i64 a.when.op,.int .i64 a.when.num,.str a.when.name,.lst a.when.kids.length (fl eE a.when.kids),.int .i64 a.when.line,.int .i64 a.when.col,.lst a.acts.length (fl asE a.acts)])) (pC ts j 0):=by rw[<-Vg];exact A
       have hj:=Ul W hi1 hw;have E:∀ st p,Cl st p (pC ts (i'+1) 0)->∀ K Kp,XB Qaf base 123 [.ptr p 0] st K Kp=_:=λst p C K Kp=>A.xb C rfl (λst=>hb.no 123 (by decide) _ _) K Kp;have Ap:=λst bv xc xx K h hv=>@J0 4 q vs.length 7 st v (fl ruE vs) K 96 bv xc xx h (by decide) (by omega) (by omega) hv;have V2:∀ st m',Lv 4 q st v vs.length (fl ruE vs) 7->4<=st.nx->m'=st.nx+1->Lv 4 m' (aps v st [.int .i64 a.when.op,.int .i64 a.when.num,.str a.when.name,.lst a.when.kids.length (fl eE a.when.kids),.int .i64 a.when.line,.int .i64 a.when.col,.lst a.acts.length (fl asE a.acts)]) (apv 7 v st) (vs ++ [a]).length (fl ruE (vs ++ [a])) 7:=λst m' h h2 h3=>by
        rw[Qal,QH,JL,Vg a];exact h.put rfl h2 h3
       unfold pC at *
       (have zz:=aI @g3 (aI V.ln (aI V.rts (aI @jA (aI @jF (aI @jJ (aI @V (aI @jC (aI @jI (aI @jL (aI C0.r (aI C1.r C3.r)))))))))));(repeat'(first|(apply jc<;>intro _)|simp(disch:=first|exact qO|fail) only[ja i0,ja i2,ja i4,T,c2,vl,R,g3,E,jpy,ve,Ap,V.at,jC,C0.q,C1.q,C3.q,g3,V.ln,V.rts,jA,jF,jJ,V,jC,jI,jL,C0.r,C1.r,C3.r,je,Tk.cells_R,rzZ,Qab,Qac,Qad,Qaa,Qae]));(all_goals(clear zz)))
       refine⟨m,by omega,m,j,vs ++ [a],?v,rfl,by omega,hj.2,hl,by omega,?c0,?c1,?c3,?lv,?has⟩;case lv=>
        refine Lv.up (hi:=s.nx+4) ?_ (by omega);refine V2 _ _ ?_ ?_ ?_;all_goals first|(simp only[jg,jj,ju];done)|(simp only[jg,jj,ju];omega)|(simp(disch:=first|omega|(simp only[jg,jj,ju];omega)) only[jA,jF,jJ];exact V)
       case c0=>(have zz:=aI C0.q (aI C1.q (aI C3.q (aI @g3 (aI V.ln (aI V.rts (aI @jC (aI @jI (aI @jL (aI C0.r (aI C1.r C3.r))))))))));first|exact qm|fail)
       case c1=>(have zz:=aI C0.q (aI C1.q (aI C3.q (aI @g3 (aI V.ln (aI V.rts (aI @jC (aI @jI (aI @jL (aI C0.r (aI C1.r C3.r))))))))));first|exact qm|fail)
       case c3=>(have zz:=aI C0.q (aI C1.q (aI C3.q (aI @g3 (aI V.ln (aI V.rts (aI @jC (aI @jI (aI @jL (aI C0.r (aI C1.r C3.r))))))))));first|exact qm|fail)
       case has=>simp(disch:=decide) only[Qam,Qaq,z0,z1,jf,jb,and_true,true_and,i0,i2,i4]
    ·rw[if_neg c2] at hl;have M:=λst p=>@QE base hb ts i' 0 hi' (by omega) [125] st p;unfold pC at *
     (have zz:=aI @g3 (aI @vc (aI C0.r (aI C1.r C3.r)));(repeat'(first|(apply jc<;>intro _)|simp(disch:=first|exact qO|fail) only[ja i0,ja i2,ja i4,T,c2,M,g3,C0.q,C1.q,C3.q,g3,vc,C0.r,C1.r,C3.r,je,Tk.cells_R,rzZ,Qab,Qac,Qad,Qaa,Qae]));(all_goals(clear zz)))
     ·rename_i c4;rw[if_pos c4] at hl;have hl:SR.ok (⟨nm,vs,ln,co⟩:ProcT) (i'+1)=r:=hl;subst hl;show G1 3 (pC ts (i'+1) 0) (.agg (prE ⟨nm,vs,ln,co⟩)) _ _;refine G1.done ?_ (by rfl) (by rfl) (FzD.agg (.cons (.pc rfl) (.cons (Lv.fz (lo:=4) (hi:=q) (z:=7) ?_ (by decide) (yT Wo _)) (.cons (.pc rfl) (.cons (.pc rfl) .nil)))))
      ·unfold pC
       (have zz:=aI C0.q (aI C1.q (aI C3.q (aI @g3 (aI V.ln (aI V.rts (aI @jC (aI @jI (aI @jL (aI C0.r (aI C1.r C3.r))))))))));first|exact qm|fail)
      ·simp(disch:=first|omega|(simp only[jg,jj,ju];omega)) only[jG,jA,jF,jJ];exact V
     ·rename_i c4;rw[if_neg c4] at hl;have hl:SR.er (tk ts i')=r:=hl;subst hl;refine⟨i',0,?_⟩;unfold pC
      (refine G1.done ?_ (by rfl) (by rfl) ?_;(· (have zz:=aI C0.q (aI C1.q (aI C3.q (aI @g3 (aI V.ln (aI V.rts (aI @jC (aI @jI (aI @jL (aI C0.r (aI C1.r C3.r))))))))));first|exact qm|fail));(· first|exact vyD|skip))
   ·refine⟨ts.length,i+2,[],.nils,rfl,by omega,hi2,hr,by omega,C0,C1,C3,Lv.nil,?_⟩;simp(disch:=decide) only[Qam,Qaq,z0,z1,jf,jb,and_true,true_and]
  ·rw[if_neg c1];refine⟨i+1,0,?_⟩;unfold pC at *;refine j2 x80 (by rfl) (hb.pur 90 3 (by decide)) rfl ?_;simp only[y80,jt,Qai,Qaj,Qag,Qah];rw[(by unfold z80;simp only[qq];rfl:z80=_)];repeat'(first|(apply jc<;>intro _)|simp(disch:=first|exact dzD|fail) only[N,k1,M,c1,je,Tk.cells_R,rzZ,Qab,Qac,Qad,Qaa,Qae])
   (refine G1.done ?_ (by rfl) (by rfl) ?_;(· (first|exact cyD|fail));(· first|exact vyD|skip))
 ·rw[if_neg k1];refine⟨i,0,?_⟩;unfold pC at *;refine j2 x80 (by rfl) (hb.pur 90 3 (by decide)) rfl ?_;simp only[y80,jt,Qai,Qaj,Qag,Qah];rw[(by unfold z80;simp only[qq];rfl:z80=_)];repeat'(first|(apply jc<;>intro _)|simp(disch:=first|exact dzD|fail) only[N,k1,je,Tk.cells_R,rzZ,Qab,Qac,Qad,Qaa,Qae])
  (refine G1.done ?_ (by rfl) (by rfl) ?_;(· (first|exact cyD|fail));(· first|exact vyD|skip))
end Go.Sy
end
noncomputable section
set_option maxRecDepth 100000
namespace Go.Sy
open Go.Ev Go.Proofs
variable {base:Bs}
def Df:AV->AV->Prop
 |.slice b _ _ _ _ _,.slice c _ _ _ _ _=>c≠b
 |_,_=>True
theorem Lv.apsD {lo hi n z:Nat}{s:St}{v w:AV}{cs news:List AV}(V:Lv lo hi s w n cs z)(h:Df v w):Lv lo hi (Go.Sy.aps v s news) w n cs z:=by
 rcases V with ⟨rfl,h2,h3⟩|⟨b,rfl,h2,h3,h4,h5,h6⟩
 ·exact .inl ⟨rfl,h2,h3⟩
 ·refine .inr ⟨b,rfl,h2,h3,?_,h5,h6⟩;unfold Go.Sy.aps;split
  ·exact h4.apO h
  ·exact h4.nw news
theorem Df.put {lo hi n z z':Nat}{s t:St}{v w:AV}{cs:List AV}(V:Lv lo hi s w n cs z)(h:hi<=t.nx):Df (apv z' v t) w/\Df w (apv z' v t):=by
 rcases V with ⟨rfl,h2,h3⟩|⟨b,rfl,h2,h3,h4,h5,h6⟩
 ·unfold apv;split<;>exact⟨trivial,trivial⟩
 ·unfold apv;split<;>exact⟨by show b≠t.nx;omega,by show t.nx≠b;omega⟩
structure SrcT where
 enums:List EnumT
 vars:List DeclT
 procs:List ProcT
def srE (m:SrcT):List AV:=[.lst m.enums.length (fl enE m.enums),.lst m.vars.length (fl qh m.vars),.lst m.procs.length (fl prE m.procs)]
def XI (ts:List Tk):Nat->Nat->SrcT->SR SrcT
 |0,i,_=>.er (tk ts i)
 |n+1,i,m=>if isM (tk ts i) [[101,110,117,109],[118,97,114],[112,114,111,99,101,115,115]]=true then
   (if(tk ts i).text=[101,110,117,109] then
    (if 32<=m.enums.length then .er (tk ts i) else match ZK ts (i+1) with
     |.er t=>.er t
     |.ok e j=>XI ts n j { m with enums:=m.enums ++ [e] })
   else if(tk ts i).text=[118,97,114] then
    (if 32<=m.vars.length then .er (tk ts i) else match Yh ts (i+1) with
     |.er t=>.er t
     |.ok e j=>XI ts n j { m with vars:=m.vars ++ [e] })
   else(if 32<=m.procs.length then .er (tk ts i) else match X5 ts (i+1) with
     |.er t=>.er t
     |.ok e j=>XI ts n j { m with procs:=m.procs ++ [e] }))
  else if(tk ts i).kind=5 then .ok m i else .er (tk ts i)
theorem jdb {ts:List Tk}(W:Wds ts):∀ n i vs ws j,i<ts.length->YJ ts n i vs=.ok ws j->i<=j/\j<ts.length
 |0,i,vs,ws,j,_,h=>by simp[YJ] at h
 |n+1,i,vs,ws,j,hi,h=>by
  unfold YJ at h;split at h
  ·rename_i k1;have hi1:i+1<ts.length:=W.next i hi (by omega)
   split at h
   ·cases h
   ·split at h
    ·rename_i c;have hi2:=W.isM hi1 c;have:=jdb W n (i+2) _ ws j hi2 h;exact⟨by omega,by omega⟩
    ·split at h
     ·rename_i c;cases h;have:=W.isM hi1 c;exact⟨by omega,this⟩
     ·cases h
  ·cases h
theorem Gn {ts:List Tk}(W:Wds ts){i j:Nat}{e:EnumT}(hi:i<ts.length)(h:ZK ts i=.ok e j):i<j/\j<ts.length:=by
 unfold ZK at h;split at h
 ·rename_i k1;have hi1:i+1<ts.length:=W.next i hi (by omega)
  split at h
  ·rename_i c;have hi2:=W.isM hi1 c;cases hv:YJ ts ts.length (i+2) [] with
   |er t=>rw[hv] at h;cases h
   |ok vs k=>
    rw[hv] at h;cases h;have:=jdb W _ _ _ _ _ hi2 hv;exact⟨by omega,by omega⟩
  ·cases h
 ·cases h
theorem jbl {ts:List Tk}(W:Wds ts):∀ n i vs ws j,i<ts.length->J5 ts n i vs=.ok ws j->i<=j/\j<ts.length
 |0,i,vs,ws,j,_,h=>by simp[J5] at h
 |n+1,i,vs,ws,j,hi,h=>by
  unfold J5 at h;split at h
  ·rename_i c;have hi1:=W.isM hi c;split at h
   ·cases h
   ·cases hr:Xl ts (i+1) with
    |er t=>rw[hr] at h;cases h
    |ok r k=>
     rw[hr] at h;dsimp only at h;have g:=Ul W hi1 hr;have:=jbl W n k _ ws j g.2 h;exact⟨by omega,by omega⟩
  ·split at h
   ·rename_i c;cases h;exact⟨by omega,W.isM hi c⟩
   ·cases h
theorem gT {ts:List Tk}(W:Wds ts){i j:Nat}{e:ProcT}(hi:i<ts.length)(h:X5 ts i=.ok e j):i<j/\j<ts.length:=by
 unfold X5 at h;split at h
 ·rename_i k1;have hi1:i+1<ts.length:=W.next i hi (by omega)
  split at h
  ·rename_i c;have hi2:=W.isM hi1 c;cases hv:J5 ts ts.length (i+2) [] with
   |er t=>rw[hv] at h;cases h
   |ok vs k=>
    rw[hv] at h;cases h;have:=jbl W _ _ _ _ _ hi2 hv;exact⟨by omega,by omega⟩
  ·cases h
 ·cases h
theorem jhn {ts:List Tk}(W:Wds ts){i j:Nat}{n:Int}(h:YV ts i=.ok n j):i<j:=by
 unfold YV at h;split at h
 ·split at h
  ·cases h;omega
  ·cases h
 ·split at h
  ·cases h;omega
  ·cases h
theorem jbc {ts:List Tk}(W:Wds ts){i j:Nat}{y:List Nat×Int×Int}(hi:i<ts.length)(h:Wi ts i=.ok y j):i<j/\j<ts.length:=by
 unfold Wi at h;split at h
 ·rename_i c;cases h;exact⟨by omega,W.isM hi c⟩
 ·split at h
  ·rename_i k1;cases h;exact⟨by omega,W.next i hi (by omega)⟩
  ·cases hn:YV ts i with
   |er t=>rw[hn] at h;cases h
   |ok lo k=>
    rw[hn] at h;dsimp only at h;have g:=Kx W hi hn;have g1:=jhn W hn;split at h
    ·rename_i c;have hk1:=W.isM g c;cases hn2:YV ts (k+1) with
     |er t=>rw[hn2] at h;cases h
     |ok h2 q=>
      rw[hn2] at h;cases h;have:=Kx W hk1 hn2;have:=jhn W hn2;exact⟨by omega,by omega⟩
    ·cases h
theorem jqW {ts:List Tk}(W:Wds ts){i j:Nat}{bs:List Ex}(hi:i<ts.length)(h:Z7 ts i=.ok bs j):i<j/\j<ts.length:=by
 unfold Z7 at h;split at h
 ·rename_i c;have hi1:=W.isM hi c;cases hw:yn ts (i+1) with
  |er t=>rw[hw] at h;cases h
  |ok x k=>
   rw[hw] at h;dsimp only at h;have g:=yc W hi1 hw;split at h
   ·rename_i c2;cases h;have:=W.isM g.2.1 c2;have:=g.1;exact⟨by omega,by omega⟩
   ·cases h
 ·split at h
  ·rename_i c;cases h;exact⟨by omega,W.isM hi c⟩
  ·cases h
theorem Gt {ts:List Tk}(W:Wds ts){i j:Nat}{e:DeclT}(hi:i<ts.length)(h:Yh ts i=.ok e j):i<j/\j<ts.length:=by
 unfold Yh at h;split at h
 ·rename_i k1;have hi1:i+1<ts.length:=W.next i hi (by omega)
  split at h
  ·rename_i c;have hi2:=W.isM hi1 c;cases ht:Wi ts (i+2) with
   |er t=>rw[ht] at h;cases h
   |ok y k=>
    rw[ht] at h;dsimp only at h;have g:=jbc W hi2 ht;cases hv:Z7 ts k with
    |er t=>rw[hv] at h;cases h
    |ok bs q=>
     rw[hv] at h;cases h;have:=jqW W g.2 hv;exact⟨by omega,by omega⟩
  ·cases h
 ·cases h
end Go.Sy
end
noncomputable section
set_option maxRecDepth 100000
namespace Go.Sy
open Go.Ev Go.Proofs
variable {base:Bs}
theorem JN (e:EnumT):(enE e).all pc=true:=by
 have:∀ l:List (List Nat),(l.map AV.str).all pc=true:=uM;show([AV.str e.name,.lst e.vals.length (e.vals.map .str),.int .i64 (e.line:Int),.int .i64 (e.col:Int)]).all pc=true;simp[pc]
theorem Ju (e:DeclT):(qh e).all pc=true:=by
 show([AV.str e.name,.str e.ty,.int .i64 e.lo,.int .i64 e.hi,.lst e.begins.length (fl eE e.begins),.int .i64 (e.line:Int),.int .i64 (e.col:Int)]).all pc=true;simp[pc]
theorem jae (e:ProcT):(prE e).all pc=true:=by
 show([AV.str e.name,.lst e.rules.length (fl ruE e.rules),.int .i64 (e.line:Int),.int .i64 (e.col:Int)]).all pc=true;simp[pc]
theorem Df.symm {v w:AV}(h:Df v w):Df w v:=by
 unfold Df at *;split at h<;>first|exact λe=>h e.symm|(cases v<;>cases w<;>first|trivial|(rename_i h2;exact absurd rfl (h2 _ _ _ _ _ _ _ _ _ _ _ _ rfl)))
theorem jrI:Go.Ev.isAgg Qaf 22=some false:=by kernel_rfl
theorem jrH:Go.Ev.sizeOf Qaf 22=some 1:=by kernel_rfl
theorem gO {b o:Nat}{v:AV}{h:T AO}(ho:o<qt h b)(hv:rat h b o=v)(hc:eqs v=true):(jX Qaf 22 (.ptr b o) v h=true)=True:=eq_true (J4 jrI jrH ho hv hc)
theorem jrG:Go.Ev.isAgg Qaf 23=some false:=by kernel_rfl
theorem jrF:Go.Ev.sizeOf Qaf 23=some 1:=by kernel_rfl
theorem jpB {b o:Nat}{v:AV}{h:T AO}(ho:o<qt h b)(hv:rat h b o=v)(hc:eqs v=true):(jX Qaf 23 (.ptr b o) v h=true)=True:=eq_true (J4 jrG jrF ho hv hc)
theorem jrE:Go.Ev.isAgg Qaf 24=some false:=by kernel_rfl
theorem jrD:Go.Ev.sizeOf Qaf 24=some 1:=by kernel_rfl
theorem jpA {b o:Nat}{v:AV}{h:T AO}(ho:o<qt h b)(hv:rat h b o=v)(hc:eqs v=true):(jX Qaf 24 (.ptr b o) v h=true)=True:=eq_true (J4 jrE jrD ho hv hc)
set_option maxHeartbeats 8000000 in
theorem jj8 (hb:NB base){ts:List Tk}(W:Wds ts)(NN:Nbs ts){i:Nat}(hi:i<ts.length):AnS base 66 (pC ts i 0) [] ts 0 (λe=>.agg (srE e)) (XI ts ts.length i ⟨[],[],[]⟩):=by
 have wl:=W.len;suffices h:∀ r:SR SrcT,XI ts ts.length i ⟨[],[],[]⟩=r->AnS base 66 (pC ts i 0) [] ts 0 (λe=>.agg (srE e)) r from h _ rfl
 intro r hr;refine vI x37 (by rfl) (hb.pur 66 3 (by decide)) ?_;simp only[y37,jt,Qai,Qaj,Qag,Qah];rw[(by unfold z37;simp only[qq];rfl:z37=_)];unfold pC at *;repeat'(first|(apply jc<;>intro _)|simp(disch:=first|exact dzD|fail) only[je,Tk.cells_R,rzZ,Qab,Qac,Qad,Qaa,Qae])
 refine uI λu hu=>?_;have n0:u.nx=3:=by rw[hu];rfl
 have C0:Cl u 0 (pC ts i 0):=by
  rw[hu];unfold pC
  (first|exact cyD|fail)
 have C1:Cl u 1 [.nils,.nils,.nils]:=by
  rw[hu]
  (first|exact cyD|fail)
 have C2:Cl u 2 [.nils,.nils,.nils]:=by
  rw[hu]
  (first|exact cyD|fail)
 clear hu;refine zj (λmm L s=>∃ (m i':Nat) (x:SrcT) (v1 v2 v3:AV),mm=m/\ts.length<=i'+m/\i'<ts.length/\XI ts m i' x=r/\3<=s.nx/\Cl s 0 (pC ts i' 0)/\Cl s 1 [.nils,.nils,.nils]/\Cl s 2 [v1,v2,v3]/\Lv 3 s.nx s v1 x.enums.length (fl enE x.enums) 4/\Lv 3 s.nx s v2 x.vars.length (fl qh x.vars) 7/\Lv 3 s.nx s v3 x.procs.length (fl prE x.procs) 4/\Df v1 v2/\Df v1 v3/\Df v2 v3/\Has L 0 (.ptr 0 0)/\Has L 2 (.ptr 1 0)/\Has L 3 (.ptr 2 0)) ?_ ts.length ?_
 ·rintro m L s ⟨_,i',x,v1,v2,v3,rfl,hm,hi',hl,n0,C0,C1,C2,V1,V2,V3,D12,D13,D23,i0,i2,i3⟩;clear hr;cases m with
  |zero=>omega
  |succ m=>
  unfold XI at hl;obtain⟨q,hq⟩:∃ q,q=s.nx:=⟨_,rfl⟩;rw[<-hq] at V1 V2 V3;have hq':q<=s.nx:=QbC hq;have T:=YN hb hi' (d:=0) (by omega) [[101,110,117,109],[118,97,114],[112,114,111,99,101,115,115]] (cs:=[.str [101,110,117,109],.str [118,97,114],.str [112,114,111,99,101,115,115]]) (n:=3) rfl rfl (by decide);have L0:=C0.lt;have L1:=C1.lt;have L2:=C2.lt;have ve1:=V1.eqs;have ve2:=V2.eqs;have ve3:=V3.eqs;have g1:rat s.h 2 0=v1:=C2.cell 0 (Qbr 2);have g2:rat s.h 2 1=v2:=C2.cell 1 (QbS (Qbr 1));have g3:rat s.h 2 2=v3:=C2.cell 2 (QbS (QbS (Qbr 0)));have vl1:=V1.len;have vl2:=V2.len;have vl3:=V3.len;have vc1:∀ l,lall AV.cell (v1 :: l)=lall AV.cell l:=λl=>by show cond v1.cell _ false=_;rw[V1.cell];rfl
  have vc2:∀ l,lall AV.cell (v2 :: l)=lall AV.cell l:=λl=>by show cond v2.cell _ false=_;rw[V2.cell];rfl
  have vc3:∀ l,lall AV.cell (v3 :: l)=lall AV.cell l:=λl=>by show cond v3.cell _ false=_;rw[V3.cell];rfl
  by_cases c2:isM (tk ts i') [[101,110,117,109],[118,97,114],[112,114,111,99,101,115,115]]=true
  ·rw[if_pos c2] at hl;have hi1:=W.isM hi' c2;by_cases t1:(tk ts i').text=[101,110,117,109]
   ·rw[if_pos t1] at hl;by_cases h32:32<=x.enums.length
    ·rw[if_pos h32] at hl;have hl:SR.er (tk ts i')=r:=hl;subst hl;have R:=wM hb h32 (tk ts i');unfold pC at *
     (have zz:=aI @g1 (aI C0.r (aI C1.r C2.r));(repeat'(first|(apply jc<;>intro _)|simp(disch:=first|exact qO|fail) only[ja i0,ja i2,ja i3,T,c2,t1,vl1,R,g1,zA,C0.q,C1.q,C2.q,g1,C0.r,C1.r,C2.r,je,Tk.cells_R,rzZ,Qab,Qac,Qad,Qaa,Qae]));(all_goals(clear zz)))
     refine⟨i'+1,0,?_⟩;unfold pC
     (refine G1.done ?_ (by rfl) (by rfl) ?_;(· (have zz:=aI C0.q (aI C1.q (aI C2.q (aI C0.r (aI C1.r C2.r))));first|exact qm|fail));(· first|exact vyD|skip))
    ·rw[if_neg h32] at hl;have R:=wL hb (show x.enums.length<32 by omega) (tk ts i');have A:=jqw hb W (d:=0) hi1;cases hw:ZK ts (i'+1) with
     |er t=>
      rw[hw] at hl A;have hl:SR.er t=r:=hl;subst hl;obtain⟨i2',d2,A⟩:=A;have E:∀ st p,Cl st p (pC ts (i'+1) 0)->∀ K Kp,XB Qaf base 88 [.ptr p 0] st K Kp=_:=λst p C K Kp=>A.xb C rfl (λst=>hb.no 88 (by decide) _ _) K Kp;unfold pC at *
      (have zz:=aI @g1 (aI C0.r (aI C1.r C2.r));(repeat'(first|(apply jc<;>intro _)|simp(disch:=first|exact qO|fail) only[ja i0,ja i2,ja i3,T,c2,t1,vl1,R,g1,E,gO,ve1,zA,C0.q,C1.q,C2.q,g1,C0.r,C1.r,C2.r,je,Tk.cells_R,rzZ,Qab,Qac,Qad,Qaa,Qae]));(all_goals(clear zz)))
      refine⟨i2',d2,?_⟩;unfold pC
      (refine G1.done ?_ (by rfl) (by rfl) ?_;(· (have zz:=aI C0.q (aI C1.q (aI C2.q (aI C0.r (aI C1.r C2.r))));first|exact qm|fail));(· first|exact vyD|skip))
     |ok a j=>
      rw[hw] at hl A;dsimp only at hl;have A:PM Qaf base 88 (pC ts (i'+1) 0) [] (.ok (.agg [.str a.name,.lst a.vals.length (a.vals.map .str),.int .i64 (a.line:Int),.int .i64 (a.col:Int)])) (pC ts j 0):=A;have hj:=Gn W hi1 hw;have E:∀ st p,Cl st p (pC ts (i'+1) 0)->∀ K Kp,XB Qaf base 88 [.ptr p 0] st K Kp=_:=λst p C K Kp=>A.xb C rfl (λst=>hb.no 88 (by decide) _ _) K Kp;have Ap:=λst bv xc xx K h hv=>@J0 3 q x.enums.length 4 st v1 (fl enE x.enums) K 56 bv xc xx h (by decide) (by omega) (by omega) hv;have VP:∀ st m',Lv 3 q st v1 x.enums.length (fl enE x.enums) 4->3<=st.nx->m'=st.nx+1->Lv 3 m' (aps v1 st [.str a.name,.lst a.vals.length (a.vals.map .str),.int .i64 (a.line:Int),.int .i64 (a.col:Int)]) (apv 4 v1 st) (x.enums ++ [a]).length (fl enE (x.enums ++ [a])) 4:=λst m' h h2 h3=>by
       rw[Qal,QH,JL];exact h.put rfl h2 h3
      unfold pC at *
      (have zz:=aI @g1 (aI V1.ln (aI V1.rts (aI @jA (aI @jF (aI @jJ (aI @V1 (aI @jC (aI @jI (aI @jL (aI C0.r (aI C1.r C2.r)))))))))));(repeat'(first|(apply jc<;>intro _)|simp(disch:=first|exact qO|fail) only[ja i0,ja i2,ja i3,T,c2,t1,vl1,R,g1,E,gO,ve1,Ap,V1.at,jC,C0.q,C1.q,C2.q,g1,V1.ln,V1.rts,jA,jF,jJ,V1,jC,jI,jL,C0.r,C1.r,C2.r,je,Tk.cells_R,rzZ,Qab,Qac,Qad,Qaa,Qae]));(all_goals(clear zz)))
      refine⟨m,by omega,m,j,{ x with enums:=x.enums ++ [a] },?v1,v2,v3,rfl,by omega,hj.2,hl,by omega,?c0,?c1,?c2,?lv1,?lv2,?lv3,?d12,?d13,?d23,?has⟩;case lv1=>
       refine Lv.up (hi:=s.nx+4) ?_ (by omega);refine VP _ _ ?_ ?_ ?_;all_goals first|(simp only[jg,jj,ju];done)|(simp only[jg,jj,ju];omega)|(simp(disch:=first|omega|(simp only[jg,jj,ju];omega)) only[jA,jF,jJ];exact V1)
      case lv2=>
       refine Lv.up (hi:=q) ?_ (by omega);simp(disch:=first|omega|(simp only[jg,jj,ju];omega)) only[jA,jF,jJ];refine Lv.apsD ?_ D12;simp(disch:=first|omega|(simp only[jg,jj,ju];omega)) only[jA,jF,jJ];exact V2
      case d12=>exact(Df.put V2 (by simp only[jg,jj,ju];omega)).1
      case lv3=>
       refine Lv.up (hi:=q) ?_ (by omega);simp(disch:=first|omega|(simp only[jg,jj,ju];omega)) only[jA,jF,jJ];refine Lv.apsD ?_ D13;simp(disch:=first|omega|(simp only[jg,jj,ju];omega)) only[jA,jF,jJ];exact V3
      case d13=>exact(Df.put V3 (by simp only[jg,jj,ju];omega)).1
      case d23=>exact D23
      case c0=>(have zz:=aI C0.q (aI C1.q (aI C2.q (aI @g1 (aI @g2 (aI @g3 (aI V1.ln (aI V1.rts (aI @jC (aI @jI (aI @jL (aI C0.r (aI C1.r C2.r))))))))))));first|exact qm|fail)
      case c1=>(have zz:=aI C0.q (aI C1.q (aI C2.q (aI @g1 (aI @g2 (aI @g3 (aI V1.ln (aI V1.rts (aI @jC (aI @jI (aI @jL (aI C0.r (aI C1.r C2.r))))))))))));first|exact qm|fail)
      case c2=>(have zz:=aI C0.q (aI C1.q (aI C2.q (aI @g1 (aI @g2 (aI @g3 (aI V1.ln (aI V1.rts (aI @jC (aI @jI (aI @jL (aI C0.r (aI C1.r C2.r))))))))))));first|exact qm|fail)
      case has=>simp(disch:=decide) only[Qam,Qaq,z0,z1,jf,jb,and_true,true_and,i0,i2,i3]
   ·rw[if_neg t1] at hl;by_cases t2:(tk ts i').text=[118,97,114]
    ·rw[if_pos t2] at hl;by_cases h32:32<=x.vars.length
     ·rw[if_pos h32] at hl;have hl:SR.er (tk ts i')=r:=hl;subst hl;have R:=wM hb h32 (tk ts i');unfold pC at *
      (have zz:=aI @g2 (aI C0.r (aI C1.r C2.r));(repeat'(first|(apply jc<;>intro _)|simp(disch:=first|exact qO|fail) only[ja i0,ja i2,ja i3,T,c2,t1,t2,vl2,R,g2,zA,C0.q,C1.q,C2.q,g2,C0.r,C1.r,C2.r,je,Tk.cells_R,rzZ,Qab,Qac,Qad,Qaa,Qae]));(all_goals(clear zz)))
      refine⟨i'+1,0,?_⟩;unfold pC
      (refine G1.done ?_ (by rfl) (by rfl) ?_;(· (have zz:=aI C0.q (aI C1.q (aI C2.q (aI C0.r (aI C1.r C2.r))));first|exact qm|fail));(· first|exact vyD|skip))
     ·rw[if_neg h32] at hl;have R:=wL hb (show x.vars.length<32 by omega) (tk ts i');have A:=jqD hb W NN hi1;cases hw:Yh ts (i'+1) with
      |er t=>
       rw[hw] at hl A;have hl:SR.er t=r:=hl;subst hl;obtain⟨i2',d2,A⟩:=A;have E:∀ st p,Cl st p (pC ts (i'+1) 0)->∀ K Kp,XB Qaf base 89 [.ptr p 0] st K Kp=_:=λst p C K Kp=>A.xb C rfl (λst=>hb.no 89 (by decide) _ _) K Kp;unfold pC at *
       (have zz:=aI @g2 (aI C0.r (aI C1.r C2.r));(repeat'(first|(apply jc<;>intro _)|simp(disch:=first|exact qO|fail) only[ja i0,ja i2,ja i3,T,c2,t1,t2,vl2,R,g2,E,jpB,ve2,zA,C0.q,C1.q,C2.q,g2,C0.r,C1.r,C2.r,je,Tk.cells_R,rzZ,Qab,Qac,Qad,Qaa,Qae]));(all_goals(clear zz)))
       refine⟨i2',d2,?_⟩;unfold pC
       (refine G1.done ?_ (by rfl) (by rfl) ?_;(· (have zz:=aI C0.q (aI C1.q (aI C2.q (aI C0.r (aI C1.r C2.r))));first|exact qm|fail));(· first|exact vyD|skip))
      |ok a j=>
       rw[hw] at hl A;dsimp only at hl;have A:PM Qaf base 89 (pC ts (i'+1) 0) [] (.ok (.agg [.str a.name,.str a.ty,.int .i64 a.lo,.int .i64 a.hi,.lst a.begins.length (fl eE a.begins),.int .i64 (a.line:Int),.int .i64 (a.col:Int)])) (pC ts j 0):=A;have hj:=Gt W hi1 hw;have E:∀ st p,Cl st p (pC ts (i'+1) 0)->∀ K Kp,XB Qaf base 89 [.ptr p 0] st K Kp=_:=λst p C K Kp=>A.xb C rfl (λst=>hb.no 89 (by decide) _ _) K Kp;have Ap:=λst bv xc xx K h hv=>@J0 3 q x.vars.length 7 st v2 (fl qh x.vars) K 88 bv xc xx h (by decide) (by omega) (by omega) hv;have VP:∀ st m',Lv 3 q st v2 x.vars.length (fl qh x.vars) 7->3<=st.nx->m'=st.nx+1->Lv 3 m' (aps v2 st [.str a.name,.str a.ty,.int .i64 a.lo,.int .i64 a.hi,.lst a.begins.length (fl eE a.begins),.int .i64 (a.line:Int),.int .i64 (a.col:Int)]) (apv 7 v2 st) (x.vars ++ [a]).length (fl qh (x.vars ++ [a])) 7:=λst m' h h2 h3=>by
        rw[Qal,QH,JL];exact h.put rfl h2 h3
       unfold pC at *
       (have zz:=aI @g2 (aI V2.ln (aI V2.rts (aI @jA (aI @jF (aI @jJ (aI @V2 (aI @jC (aI @jI (aI @jL (aI C0.r (aI C1.r C2.r)))))))))));(repeat'(first|(apply jc<;>intro _)|simp(disch:=first|exact qO|fail) only[ja i0,ja i2,ja i3,T,c2,t1,t2,vl2,R,g2,E,jpB,ve2,Ap,V2.at,jC,C0.q,C1.q,C2.q,g2,V2.ln,V2.rts,jA,jF,jJ,V2,jC,jI,jL,C0.r,C1.r,C2.r,je,Tk.cells_R,rzZ,Qab,Qac,Qad,Qaa,Qae]));(all_goals(clear zz)))
       refine⟨m,by omega,m,j,{ x with vars:=x.vars ++ [a] },v1,?v2,v3,rfl,by omega,hj.2,hl,by omega,?c0,?c1,?c2,?lv1,?lv2,?lv3,?d12,?d13,?d23,?has⟩;case lv2=>
        refine Lv.up (hi:=s.nx+4) ?_ (by omega);refine VP _ _ ?_ ?_ ?_;all_goals first|(simp only[jg,jj,ju];done)|(simp only[jg,jj,ju];omega)|(simp(disch:=first|omega|(simp only[jg,jj,ju];omega)) only[jA,jF,jJ];exact V2)
       case lv1=>
        refine Lv.up (hi:=q) ?_ (by omega);simp(disch:=first|omega|(simp only[jg,jj,ju];omega)) only[jA,jF,jJ];refine Lv.apsD ?_ D12.symm;simp(disch:=first|omega|(simp only[jg,jj,ju];omega)) only[jA,jF,jJ];exact V1
       case d12=>exact(Df.put V1 (by simp only[jg,jj,ju];omega)).2
       case lv3=>
        refine Lv.up (hi:=q) ?_ (by omega);simp(disch:=first|omega|(simp only[jg,jj,ju];omega)) only[jA,jF,jJ];refine Lv.apsD ?_ D23;simp(disch:=first|omega|(simp only[jg,jj,ju];omega)) only[jA,jF,jJ];exact V3
       case d23=>exact(Df.put V3 (by simp only[jg,jj,ju];omega)).1
       case d13=>exact D13
       case c0=>(have zz:=aI C0.q (aI C1.q (aI C2.q (aI @g1 (aI @g2 (aI @g3 (aI V2.ln (aI V2.rts (aI @jC (aI @jI (aI @jL (aI C0.r (aI C1.r C2.r))))))))))));first|exact qm|fail)
       case c1=>(have zz:=aI C0.q (aI C1.q (aI C2.q (aI @g1 (aI @g2 (aI @g3 (aI V2.ln (aI V2.rts (aI @jC (aI @jI (aI @jL (aI C0.r (aI C1.r C2.r))))))))))));first|exact qm|fail)
       case c2=>(have zz:=aI C0.q (aI C1.q (aI C2.q (aI @g1 (aI @g2 (aI @g3 (aI V2.ln (aI V2.rts (aI @jC (aI @jI (aI @jL (aI C0.r (aI C1.r C2.r))))))))))));first|exact qm|fail)
       case has=>simp(disch:=decide) only[Qam,Qaq,z0,z1,jf,jb,and_true,true_and,i0,i2,i3]
    ·rw[if_neg t2] at hl;by_cases h32:32<=x.procs.length
     ·rw[if_pos h32] at hl;have hl:SR.er (tk ts i')=r:=hl;subst hl;have R:=wM hb h32 (tk ts i');unfold pC at *
      (have zz:=aI @g3 (aI C0.r (aI C1.r C2.r));(repeat'(first|(apply jc<;>intro _)|simp(disch:=first|exact qO|fail) only[ja i0,ja i2,ja i3,T,c2,t1,t2,vl3,R,g3,zA,C0.q,C1.q,C2.q,g3,C0.r,C1.r,C2.r,je,Tk.cells_R,rzZ,Qab,Qac,Qad,Qaa,Qae]));(all_goals(clear zz)))
      refine⟨i'+1,0,?_⟩;unfold pC
      (refine G1.done ?_ (by rfl) (by rfl) ?_;(· (have zz:=aI C0.q (aI C1.q (aI C2.q (aI C0.r (aI C1.r C2.r))));first|exact qm|fail));(· first|exact vyD|skip))
     ·rw[if_neg h32] at hl;have R:=wL hb (show x.procs.length<32 by omega) (tk ts i');have A:=jpR hb W hi1;cases hw:X5 ts (i'+1) with
      |er t=>
       rw[hw] at hl A;have hl:SR.er t=r:=hl;subst hl;obtain⟨i2',d2,A⟩:=A;have E:∀ st p,Cl st p (pC ts (i'+1) 0)->∀ K Kp,XB Qaf base 90 [.ptr p 0] st K Kp=_:=λst p C K Kp=>A.xb C rfl (λst=>hb.no 90 (by decide) _ _) K Kp;unfold pC at *
       (have zz:=aI @g3 (aI C0.r (aI C1.r C2.r));(repeat'(first|(apply jc<;>intro _)|simp(disch:=first|exact qO|fail) only[ja i0,ja i2,ja i3,T,c2,t1,t2,vl3,R,g3,E,jpA,ve3,zA,C0.q,C1.q,C2.q,g3,C0.r,C1.r,C2.r,je,Tk.cells_R,rzZ,Qab,Qac,Qad,Qaa,Qae]));(all_goals(clear zz)))
       refine⟨i2',d2,?_⟩;unfold pC
       (refine G1.done ?_ (by rfl) (by rfl) ?_;(· (have zz:=aI C0.q (aI C1.q (aI C2.q (aI C0.r (aI C1.r C2.r))));first|exact qm|fail));(· first|exact vyD|skip))
      |ok a j=>
       rw[hw] at hl A;dsimp only at hl;have A:PM Qaf base 90 (pC ts (i'+1) 0) [] (.ok (.agg [.str a.name,.lst a.rules.length (fl ruE a.rules),.int .i64 (a.line:Int),.int .i64 (a.col:Int)])) (pC ts j 0):=A;have hj:=gT W hi1 hw;have E:∀ st p,Cl st p (pC ts (i'+1) 0)->∀ K Kp,XB Qaf base 90 [.ptr p 0] st K Kp=_:=λst p C K Kp=>A.xb C rfl (λst=>hb.no 90 (by decide) _ _) K Kp;have Ap:=λst bv xc xx K h hv=>@J0 3 q x.procs.length 4 st v3 (fl prE x.procs) K 56 bv xc xx h (by decide) (by omega) (by omega) hv;have VP:∀ st m',Lv 3 q st v3 x.procs.length (fl prE x.procs) 4->3<=st.nx->m'=st.nx+1->Lv 3 m' (aps v3 st [.str a.name,.lst a.rules.length (fl ruE a.rules),.int .i64 (a.line:Int),.int .i64 (a.col:Int)]) (apv 4 v3 st) (x.procs ++ [a]).length (fl prE (x.procs ++ [a])) 4:=λst m' h h2 h3=>by
        rw[Qal,QH,JL];exact h.put rfl h2 h3
       unfold pC at *
       (have zz:=aI @g3 (aI V3.ln (aI V3.rts (aI @jA (aI @jF (aI @jJ (aI @V3 (aI @jC (aI @jI (aI @jL (aI C0.r (aI C1.r C2.r)))))))))));(repeat'(first|(apply jc<;>intro _)|simp(disch:=first|exact qO|fail) only[ja i0,ja i2,ja i3,T,c2,t1,t2,vl3,R,g3,E,jpA,ve3,Ap,V3.at,jC,C0.q,C1.q,C2.q,g3,V3.ln,V3.rts,jA,jF,jJ,V3,jC,jI,jL,C0.r,C1.r,C2.r,je,Tk.cells_R,rzZ,Qab,Qac,Qad,Qaa,Qae]));(all_goals(clear zz)))
       refine⟨m,by omega,m,j,{ x with procs:=x.procs ++ [a] },v1,v2,?v3,rfl,by omega,hj.2,hl,by omega,?c0,?c1,?c2,?lv1,?lv2,?lv3,?d12,?d13,?d23,?has⟩;case lv3=>
        refine Lv.up (hi:=s.nx+4) ?_ (by omega);refine VP _ _ ?_ ?_ ?_;all_goals first|(simp only[jg,jj,ju];done)|(simp only[jg,jj,ju];omega)|(simp(disch:=first|omega|(simp only[jg,jj,ju];omega)) only[jA,jF,jJ];exact V3)
       case lv1=>
        refine Lv.up (hi:=q) ?_ (by omega);simp(disch:=first|omega|(simp only[jg,jj,ju];omega)) only[jA,jF,jJ];refine Lv.apsD ?_ D13.symm;simp(disch:=first|omega|(simp only[jg,jj,ju];omega)) only[jA,jF,jJ];exact V1
       case d13=>exact(Df.put V1 (by simp only[jg,jj,ju];omega)).2
       case lv2=>
        refine Lv.up (hi:=q) ?_ (by omega);simp(disch:=first|omega|(simp only[jg,jj,ju];omega)) only[jA,jF,jJ];refine Lv.apsD ?_ D23.symm;simp(disch:=first|omega|(simp only[jg,jj,ju];omega)) only[jA,jF,jJ];exact V2
       case d23=>exact(Df.put V2 (by simp only[jg,jj,ju];omega)).2
       case d12=>exact D12
       case c0=>(have zz:=aI C0.q (aI C1.q (aI C2.q (aI @g1 (aI @g2 (aI @g3 (aI V3.ln (aI V3.rts (aI @jC (aI @jI (aI @jL (aI C0.r (aI C1.r C2.r))))))))))));first|exact qm|fail)
       case c1=>(have zz:=aI C0.q (aI C1.q (aI C2.q (aI @g1 (aI @g2 (aI @g3 (aI V3.ln (aI V3.rts (aI @jC (aI @jI (aI @jL (aI C0.r (aI C1.r C2.r))))))))))));first|exact qm|fail)
       case c2=>(have zz:=aI C0.q (aI C1.q (aI C2.q (aI @g1 (aI @g2 (aI @g3 (aI V3.ln (aI V3.rts (aI @jC (aI @jI (aI @jL (aI C0.r (aI C1.r C2.r))))))))))));first|exact qm|fail)
       case has=>simp(disch:=decide) only[Qam,Qaq,z0,z1,jf,jb,and_true,true_and,i0,i2,i3]
  ·rw[if_neg c2] at hl;by_cases k5:(tk ts i').kind=5
   ·rw[if_pos k5] at hl;have hl:SR.ok x i'=r:=hl;subst hl;have k5':((tk ts i').kind:Int)=5:=by omega
    unfold pC at *
    (have zz:=aI @g1 (aI @g2 (aI @g3 (aI @vc1 (aI @vc2 (aI @vc3 (aI C0.r (aI C1.r C2.r)))))));(repeat'(first|(apply jc<;>intro _)|simp(disch:=first|exact qO|fail) only[ja i0,ja i2,ja i3,T,c2,k5',g1,g2,g3,H0,C0.q,C1.q,C2.q,g1,g2,g3,vc1,vc2,vc3,C0.r,C1.r,C2.r,je,Tk.cells_R,rzZ,Qab,Qac,Qad,Qaa,Qae]));(all_goals(clear zz)))
    show G1 3 (pC ts i' 0) (.agg (srE x)) _ _;refine G1.done ?_ (by rfl) (by rfl) (FzD.agg (.cons (Lv.fz (lo:=3) (hi:=q) (z:=4) ?_ (by decide) (yT JN _)) (.cons (Lv.fz (lo:=3) (hi:=q) (z:=7) ?_ (by decide) (yT Ju _)) (.cons (Lv.fz (lo:=3) (hi:=q) (z:=4) ?_ (by decide) (yT jae _)) .nil))))
    ·unfold pC
     (have zz:=aI C0.q (aI C1.q (aI C2.q (aI @g1 (aI @g2 (aI @g3 (aI C0.r (aI C1.r C2.r)))))));first|exact qm|fail)
    all_goals simp(disch:=first|omega|(simp only[jg,jj,ju];omega)) only[jG,jA,jF,jJ]
    ·exact V1
    ·exact V2
    ·exact V3
   ·rw[if_neg k5] at hl;have hl:SR.er (tk ts i')=r:=hl;subst hl;have k5':¬ ((tk ts i').kind:Int)=5:=by omega
    unfold pC at *
    (have zz:=aI @g1 (aI C0.r (aI C1.r C2.r));(repeat'(first|(apply jc<;>intro _)|simp(disch:=first|exact qO|fail) only[ja i0,ja i2,ja i3,T,c2,k5',g1,Qa hb,zA,C0.q,C1.q,C2.q,g1,C0.r,C1.r,C2.r,je,Tk.cells_R,rzZ,Qab,Qac,Qad,Qaa,Qae]));(all_goals(clear zz)))
    refine⟨i',0,?_⟩;unfold pC
    (refine G1.done ?_ (by rfl) (by rfl) ?_;(· (have zz:=aI C0.q (aI C1.q (aI C2.q (aI C0.r (aI C1.r C2.r))));first|exact qm|fail));(· first|exact vyD|skip))
 ·refine⟨ts.length,i,⟨[],[],[]⟩,.nils,.nils,.nils,rfl,by omega,hi,hr,by omega,C0,C1,C2,Lv.nil,Lv.nil,Lv.nil,trivial,trivial,trivial,?_⟩;simp(disch:=decide) only[Qam,Qaq,z0,z1,jf,jb,and_true,true_and]
end Go.Sy
end
noncomputable section
set_option maxRecDepth 100000
namespace Go.Sy
open Go.Ev Go.Proofs
variable {base:Bs}
theorem jrC:Go.Ev.isAgg Qaf 26=some true:=by kernel_rfl
theorem jrB:Go.Ev.sizeOf Qaf 26=some 3:=by kernel_rfl
theorem jeP {b:Nat}{h:T AO}(ho:0+3<=qt h b)(hv:rats h b 0 3=[.nils,.nils,.nils]):(jX Qaf 26 (.ptr b 0) (.agg [.nils,.nils,.nils]) h=true)=True:=eq_true (YR jrC jrB (by decide) ho hv rfl)
def Wn:SrcT:=⟨[],[],[]⟩
def yG (l:List Nat):SrcT×(Nat×Nat×Nat):=
 if(qo l).2.1≠0 then(Wn,(qo l).2) else match XI (qo l).1 (qo l).1.length 0 Wn with
  |.er t=>(Wn,(151,t.line,t.col))
  |.ok m j=>(m,(0,0,0))
theorem Kb (m:SrcT):(srE m).all pc=true:=by
 show([AV.lst m.enums.length (fl enE m.enums),.lst m.vars.length (fl qh m.vars),.lst m.procs.length (fl prE m.procs)]).all pc=true;simp[pc]
theorem jdm {s:St}{q:Nat×Nat×Nat}{ds:List AV}(h2:ds=zG q):G0 (.tup [.agg (srE Wn),.agg (zG q)]) (.tup [.agg [.nils,.nils,.nils],.agg ds]) s:=by
 subst h2;exact FzD.tup (.cons (.agg (.cons FzD.nils (.cons FzD.nils (.cons FzD.nils .nil)))) (.cons (.agg (.pc (by rfl))) .nil))
theorem jmU {s:St}{m:SrcT}{q:Nat×Nat×Nat}{cs ds:List AV}(h:cs=srE m)(h2:ds=zG q):G0 (.tup [.agg (srE m),.agg (zG q)]) (.tup [.agg cs,.agg ds]) s:=by
 subst h h2;exact FzD.tup (.cons (.agg (.pc (Kb m))) (.cons (.agg (.pc (by rfl))) .nil))
set_option maxHeartbeats 4000000 in
theorem jk5 (hb:NB base)(hP:PI base)(l:List Nat)(hl:l.length<=9223372036854775807)(hW:(qo l).2.1=0->Wds (qo l).1/\(qo l).1≠[]/\(qo l).2=(0,0,0))(hN:(qo l).2.1=0->Nbs (qo l).1) :
  Tot base 52 [.str l] (.tup [.agg (srE (yG l).1),.agg (zG (yG l).2)]):=by
 refine hb.tot ?_ rfl rfl;refine Wq x9 (hb.pur 52 1 (by decide)) ?_;simp only[y9,jt,Qai,Qaj,Qag,Qah];rw[(by unfold z9;simp only[qq];rfl:z9=_)];have hC:=jmA hb hP l hl;have f0:(zG (qo l).2)=[.int .i64 ((qo l).2.1:Int),.int .i64 ((qo l).2.2.1:Int),.int .i64 ((qo l).2.2.2:Int)]:=rfl;by_cases he:(qo l).2.1=0
 ·obtain⟨W,hne,hz⟩:=hW he;have NN:=hN he;have hi:0<(qo l).1.length:=QbO.2 hne;have A:=jj8 hb W NN hi;unfold yG;rw[if_neg (by simp[he])];rw[hz] at hC;have s0:Wn=⟨[],[],[]⟩:=rfl;rw[<-s0] at A;generalize (qo l).1=ts at *;have fz:zG (0,0,0)=[.int .i64 0,.int .i64 0,.int .i64 0]:=rfl;rw[fz] at hC;cases hr:XI ts ts.length 0 Wn with
  |er t=>
   rw[hr] at A;obtain⟨i',d',A⟩:=A;have E:∀ st p,Cl st p [.lst ts.length (fl Tk.cells ts),.int .i64 0,.int .i64 0]->∀ K Kp,XB Qaf base 66 [.ptr p 0] st K Kp=_:=λst p C K Kp=>A.xb C rfl (λst=>hb.no 66 (by decide) _ _) K Kp;unfold pC at *;repeat'(first|(apply jc<;>intro _)|simp(disch:=first|exact dzD|fail) only[hC,E,wa,J1 (f:=65) (vs:=[.ptr 1 0]),Jv (f:=65) (vs:=[.ptr 1 0]),Yi,vG,Wt,YP,jeP,Yt,W4,W3 (base:=base),je,Tk.cells_R,rzZ,Qab,Qac,Qad,Qaa,Qae])
   exact jdm rfl
  |ok m j=>
   rw[hr] at A;have A:PM Qaf base 66 (pC ts 0 0) [] (.ok (.agg [.lst m.enums.length (fl enE m.enums),.lst m.vars.length (fl qh m.vars),.lst m.procs.length (fl prE m.procs)])) (pC ts j 0):=A;have E:∀ st p,Cl st p [.lst ts.length (fl Tk.cells ts),.int .i64 0,.int .i64 0]->∀ K Kp,XB Qaf base 66 [.ptr p 0] st K Kp=_:=λst p C K Kp=>A.xb C rfl (λst=>hb.no 66 (by decide) _ _) K Kp;dsimp only;unfold pC at *;repeat'(first|(apply jc<;>intro _)|simp(disch:=first|exact dzD|fail) only[hC,E,wa,J1 (f:=65) (vs:=[.ptr 1 0]),Jv (f:=65) (vs:=[.ptr 1 0]),Yi,vG,Wt,YP,jeP,Yt,W4,W3 (base:=base),je,Tk.cells_R,rzZ,Qab,Qac,Qad,Qaa,Qae])
   exact jmU rfl rfl
 ·have he':¬ ((qo l).2.1:Int)=0:=by omega
  unfold yG;rw[if_pos he];rw[f0] at hC;generalize (qo l).1=ts at *;repeat'(first|(apply jc<;>intro _)|simp(disch:=first|exact dzD|fail) only[hC,he',wa,J1 (f:=65) (vs:=[.ptr 1 0]),Jv (f:=65) (vs:=[.ptr 1 0]),Yi,vG,Wt,YP,jeP,je,Tk.cells_R,rzZ,Qab,Qac,Qad,Qaa,Qae])
  exact jdm rfl
end Go.Sy
end
noncomputable section
set_option maxRecDepth 100000
namespace Go.Sy
open Go.Ev Go.Proofs
theorem je7 {r:List Nat}{p:Nat×Nat}{n:Nat}{t:Tk}(h:yS r p=(0,t,n)):t.text.length<=r.length/\t.num<=1000000:=by
 cases r with
 |nil=>simp[yS] at h;obtain⟨h1,h2⟩:=h;subst h1;simp
 |cons x r'=>
  unfold yS at h;simp only at h;split at h
  ·split at h
   ·simp at h
   ·simp only[Prod.mk.injEq] at h;obtain⟨_,h1,h2⟩:=h;subst h1;exact⟨by simp only[QaH];omega,by simp⟩
  ·split at h
   ·split at h
    ·simp at h
    ·rename_i hh;simp only[Prod.mk.injEq] at h;obtain⟨_,h1,h2⟩:=h;subst h1;exact⟨by simp only[QaH];omega,by dsimp only;omega⟩
   ·split at h
    ·simp at h
    ·simp only[Prod.mk.injEq] at h;obtain⟨_,h1,h2⟩:=h;subst h1;exact⟨by simp only[QaH];omega,by simp⟩
structure Goods (n:Nat)(ts:List Tk):Prop where
 ne:ts≠[]
 len:ts.length<=n+1
 tok:∀ t∈ts,t.text.length<=n/\t.num<=1000000
 fin:∀ i,i<ts.length->((tk ts i).kind=5↔i+1=ts.length)
theorem jiq (k:Nat):∀ (r:List Nat) (p:Nat×Nat),r.length<=k->(JA r p).2.1=0->(JA r p).2=(0,0,0)/\Goods r.length (JA r p).1:=by
 induction k with
 |zero=>
  intro r p hr;have:r=[]:=QaQ (by omega);subst this;have hx:yS (([]:List Nat).drop (qa [])) (qd p (([]:List Nat).take (qa [])))=(0,⟨5,[],0,(qd p (([]:List Nat).take (qa []))).1,(qd p (([]:List Nat).take (qa []))).2⟩,0):=by simp only[List.drop_nil];rfl
  rw[wX _ p hx,if_neg (by simp),if_pos rfl];intro _;refine⟨rfl,by simp,by simp,by simp,λi hi=>?_⟩;have:i=0:=by simp at hi;omega
  subst this;simp[tk]
 |succ k ih=>
  intro r p hr;have hg:=UF r;generalize hx:yS (r.drop (qa r)) (qd p (r.take (qa r)))=x;obtain⟨e,t,n⟩:=x;rw[wX r p hx];by_cases he:e=0
  ·subst he;rw[if_neg (by simp)];have hk:=Kz hx;have hgd:=je7 hx;have hle:=kw hx;simp only[QaR] at hgd hle;by_cases hn:n=0
   ·rw[if_pos hn];intro _;refine⟨rfl,by simp,by simp,?_,λi hi=>?_⟩
    ·intro t' ht';have:t'=t:=by simpa using ht'
     subst this;exact⟨by omega,hgd.2⟩
    ·have:i=0:=by simp at hi;omega
     subst this;have:=hk.1.2 hn;simpa[tk] using this
   ·rw[if_neg hn];have hl:((r.drop (qa r)).drop n).length<=k:=by simp only[QaR];omega
    have hI:=ih ((r.drop (qa r)).drop n) (qd (qd p (r.take (qa r))) ((r.drop (qa r)).take n)) hl;generalize hq:JA ((r.drop (qa r)).drop n) (qd (qd p (r.take (qa r))) ((r.drop (qa r)).take n))=q at hI ⊢;by_cases hf:q.2.1=0
    ·rw[if_neg (by simp[hf])];intro _;obtain⟨h1,h2⟩:=hI hf;have hl2:((r.drop (qa r)).drop n).length+1<=r.length:=by simp only[QaR];omega
     generalize ((r.drop (qa r)).drop n).length=m at *;have h3:=h2.len;refine⟨h1,by simp,by simp only[Qak];omega,?_,λi hi=>?_⟩
     ·intro t' ht';rcases Qbv.1 ht' with rfl|ht'
      ·exact⟨by omega,hgd.2⟩
      ·have:=h2.tok t' ht';exact⟨by omega,this.2⟩
     ·cases i with
      |zero=>
       have hk5:t.kind≠5:=λh=>hn (hk.1.1 h);have:=QbO.2 h2.ne;show t.kind=5↔0+1=q.1.length+1;constructor
       ·intro h;exact absurd h hk5
       ·intro h;omega
      |succ i=>
       show(tk q.1 i).kind=5↔i+1+1=q.1.length+1;have:=h2.fin i (by simpa using hi);constructor
       ·intro h;have:=this.1 h;omega
       ·intro h;exact this.2 (by omega)
    ·rw[if_pos hf];intro h;exact absurd h hf
  ·rw[if_pos he];intro h;exact absurd h he
theorem Hy {l:List Nat}(h:(qo l).2.1=0):l.length<=65536/\(qo l).2=(0,0,0)/\Goods l.length (qo l).1:=by
 unfold qo at *;by_cases hl:65536<l.length
 ·rw[if_pos hl] at h;cases h
 ·rw[if_neg hl] at h ⊢;obtain⟨h1,h2⟩:=jiq l.length l (1,1) (Qao _) h;exact⟨by omega,h1,h2⟩
theorem jlE {ts:List Tk}{i:Nat}(h:ts.length<=i):tk ts i=⟨0,[],0,0,0⟩:=by simp[tk,QaN,h]
theorem jgM {ts:List Tk}{i:Nat}(h:i<ts.length):tk ts i∈ts:=by rw[<-jlF h];exact Qat h
theorem Goods.wds {n:Nat}{ts:List Tk}(h:Goods n ts)(hn:n<=65536):Wds ts where
 len:=by have:=h.len;omega
 next:=λi hi hk=>by
  have:=h.fin i hi;rcases QaT (i+1) ts.length with h2|h2
  ·exact h2
  ·exact absurd (this.2 (by omega)) hk
 txt:=λi=>by
  rcases QaT i ts.length with h2|h2
  ·have:=(h.tok _ (jgM h2)).1;omega
  ·rw[jlE h2];simp
theorem Goods.nbs {n:Nat}{ts:List Tk}(h:Goods n ts):Nbs ts:=λi=>by
 rcases QaT i ts.length with h2|h2
 ·exact(h.tok _ (jgM h2)).2
 ·rw[jlE h2];simp
theorem VQ {l:List Nat}(h:(qo l).2.1=0):Wds (qo l).1/\(qo l).1≠[]/\(qo l).2=(0,0,0):=
 let ⟨h1,h2,h3⟩:=Hy h
 ⟨h3.wds h1,h3.ne,h2⟩
theorem jip {l:List Nat}(h:(qo l).2.1=0):Nbs (qo l).1:=(Hy h).2.2.nbs
end Go.Sy
end
noncomputable section
set_option maxRecDepth 100000
namespace Go.Sy
open Go.Ev Go.Proofs
variable {base:Bs}
theorem jiL (hb:NB base)(c:Nat):Tot base 79 [.int .u8 (c:Int)] (.bool (zM c)):=by
 refine hb.tot ?_ rfl rfl;refine jE x83 (by rfl) (hb.pur 79 1 (by decide)) ?_;simp only[y83,jt,Qai,Qaj,Qag,Qah];rw[(by unfold z83;simp only[qq];rfl:z83=_)];repeat'(first|(apply jc<;>intro _)|simp(disch:=first|exact dzA|fail) only[rzZ,Qab,Qac,Qad,Qaa,Qae])
 all_goals(refine G0.v (congrArg AV.bool ?_) rfl;rw[QaW];simp only[zM,QaX,Qar,decide_eq_true_eq,Qbc,QbK,Qbb,decide_eq_false_iff_not,true_iff,false_iff,iff_true,iff_false,not_true_eq_false,not_false_eq_true,ne_eq,eq_self]<;>omega)
theorem jla (hb:NB base)(c:Nat):Tot base 80 [.int .u8 (c:Int)] (.bool (qf c)):=by
 refine hb.tot ?_ rfl rfl;refine jE x85 (by rfl) (hb.pur 80 1 (by decide)) ?_;simp only[y85,jt,Qai,Qaj,Qag,Qah];rw[(by unfold z85;simp only[qq];rfl:z85=_)];repeat'(first|(apply jc<;>intro _)|simp(disch:=first|exact dzA|fail) only[rzZ,Qab,Qac,Qad,Qaa,Qae])
 all_goals(refine G0.v (congrArg AV.bool ?_) rfl;rw[QaW];simp only[qf,QaX,Qar,decide_eq_true_eq,Qbc,QbK,Qbb,decide_eq_false_iff_not,true_iff,false_iff,iff_true,iff_false,not_true_eq_false,not_false_eq_true,ne_eq,eq_self]<;>omega)
theorem jsa (hb:NB base)(l:List Nat)(S:List (List Nat))(hS:S.length<=1000000):PX Qaf base 106 [.str l,.lst S.length (S.map .str)] (.ok (.bool (decide (l∈S)))):=by
 have st1:∀ {k:Nat} (h:k<S.length) (st:St) (K:AV->St->Prop),jl (qX (.lptr (S.map AV.str) k) st) K=K (.str S[k]) st:=λ{k} h st K=>by
  rw[zU (by simpa using h)];congr 1;exact Vc h
 refine jE jsW (by rfl) (hb.pur 106 1 (by decide)) ?_;simp only[joH,jt,Qai,Qaj,Qag,Qah];rw[(by unfold jjw;simp only[qq];rfl:jjw=_)];repeat'(first|(apply jc<;>intro _)|simp(disch:=first|exact dzA|fail) only[rzZ,Qab,Qac,Qad,Qaa,Qae])
 refine qb S.length (λk L s=>(∀ j (h:j<S.length),j<k->S[j]≠l)/\Has L 0 (.str l)/\Has L 7 (.lst S.length (S.map AV.str))) (by first|assumption|omega) (by decide) (by simp(disch:=decide) only[jf,jb]) (by simp(disch:=decide) only[jf,jb]) ?_ (λk L s v h=>by simp(disch:=decide) only[jb];exact h) (λk L s v h=>by simp(disch:=decide) only[jb];exact h) (λk L s hk hI hi hn=>?_) (λL s hI=>?_)
 ·refine⟨λj h hj=>absurd hj (QaZ _),?_⟩;simp(disch:=decide) only[Qam,Qaq,z0,z1,jf,jb,and_true,true_and]
 ·obtain⟨h0,i0,i7⟩:=hI;repeat'(first|(apply jc<;>intro _)|simp(disch:=first|exact dzA|fail) only[ja i0,ja i7,ja hi,ja hn,st1,rzZ,Qab,Qac,Qad,Qaa,Qae])
  ·rename_i he;have he:S[k]=l:=by simpa using he
   exact G0.v (by rw[decide_eq_true (he▸Qat hk)]) rfl
  ·rename_i he;have he:¬ S[k]=l:=by simpa using he
   refine⟨⟨λj h hj=>?_,?_⟩,?_⟩
   ·rcases QaT j k with h2|h2
    ·exact h0 j h h2
    ·have:j=k:=by omega
     subst this;exact he
   ·simp(disch:=decide) only[Qam,Qaq,z0,z1,jf,jb,and_true,true_and,i0,i7]
   ·simp(disch:=decide) only[Qam,Qaq,z0,z1,jf,jb,and_true,true_and,hi,hn]
 ·obtain⟨h0,i0,i7⟩:=hI;repeat'(first|(apply jc<;>intro _)|simp(disch:=first|exact dzA|fail) only[ja i0,ja i7,rzZ,Qab,Qac,Qad,Qaa,Qae])
  refine G0.v (congrArg AV.bool ?_) rfl
  symm
  rw[decide_eq_false_iff_not];intro hm;obtain⟨j,hj,e⟩:=Qbu.1 hm;exact h0 j hj hj e
theorem jnS (hb:NB base)(l:List Nat):Tot base 81 [.str l] (.bool (hZ l)):=by
 refine hb.tot ?_ rfl rfl;have O:=λst b m x D K Kp=>(jsa hb l UA (by decide)).xf (st:=st) (aZ':=[.str l,.slice b 0 19 m 1 x]) (ks:=[b]) (Fza.pa rfl (Fza.sl (n:=19) (D:Cl st b (UA.map AV.str)) (by decide) (uM UA) .nil)) (λst=>hb.no 106 (by decide) _ _) K Kp;unfold UA at O;simp only[Qai,Qaj] at O;refine jE x84 (by rfl) (hb.pur 81 1 (by decide)) ?_;simp only[y84,jt,Qai,Qaj,Qag,Qah];rw[(by unfold z84;simp only[qq];rfl:z84=_)];repeat'(first|(apply jc<;>intro _)|simp(disch:=first|exact dzA|fail) only[O,rzZ,Qab,Qac,Qad,Qaa,Qae])
 exact G0.v rfl rfl
def ku (l:List Nat)(i:Nat):Bool:=zM (l.getD i 0) ||decide (i≠0) && (qf (l.getD i 0) ||decide (l.getD i 0=95))
theorem jbQ {p:Nat->Bool}:∀ {l:List Nat},qW p l=l.length->∀ j,j<l.length->p (l.getD j 0)=true
 |[],_,j,h=>by simp at h
 |c :: l,h,j,hj=>by
  simp only[qW] at h;by_cases hc:p c=true
  ·rw[if_pos hc] at h;cases j with
   |zero=>exact hc
   |succ j=>exact jbQ (l:=l) (by simpa using h) j (by simpa using hj)
  ·rw[if_neg hc] at h;simp at h
theorem jpT {l:List Nat}{i:Nat}(hi:i<l.length)(h:ku l i=false):nm l=false:=by
 rw[Bool.eq_false_iff];intro hn;unfold nm at hn;simp only[Qar,decide_eq_true_eq] at hn;obtain⟨⟨⟨_,h2⟩,_⟩,h3⟩:=hn;have:=jbQ h3 i hi;unfold ku at h;unfold Jb at this;by_cases h0:i=0
 ·subst h0;rw[h2] at h;cases h
 ·rw[decide_eq_true h0] at h;cases h1:zM (l.getD i 0)<;>cases h4:qf (l.getD i 0)<;>cases h5:decide (l.getD i 0=95)<;>simp only[h1,h4,h5] at h this<;>first|(cases h;done)|(cases this;done)
theorem jnb {l:List Nat}(h:∀ i,i<l.length->ku l i=true):nm l=(decide (0<l.length) && decide (l.length<=32) && !hZ l):=by
 have e:qW Jb l=l.length:=Uz (Qao _) (λj hj=>by
  have:=h j hj;unfold ku at this;unfold Jb;cases h1:zM (l.getD j 0)<;>cases h4:qf (l.getD j 0)<;>cases h5:decide (l.getD j 0=95)<;>rw[h1,h4,h5] at this<;>first|rfl|(simp at this;done)) (.inl rfl)
 unfold nm;cases l with
 |nil=>rfl
 |cons c l=>
  have h0:=h 0 (by simp);unfold ku at h0;have:zM ((c :: l).getD 0 0)=true:=by simpa using h0
  rw[e,this];simp
set_option maxHeartbeats 1000000 in
theorem Zu (hb:NB base)(l:List Nat)(hl:l.length<=4611686018427387904):Tot base 58 [.str l] (.bool (nm l)):=by
 refine hb.tot ?_ rfl rfl;refine jE x56 (by rfl) (hb.pur 58 1 (by decide)) ?_;simp only[y56,jt,Qai,Qaj,Qag,Qah];rw[(by unfold z56;simp only[qq];rfl:z56=_)];repeat'(first|(apply jc<;>intro _)|simp(disch:=first|exact dzA|fail) only[rzZ,Qab,Qac,Qad,Qaa,Qae])
 refine zj (λmm L s=>∃ k:Nat,k<=l.length/\mm=l.length - k/\(∀ j,j<k->ku l j=true)/\Has L 0 (.str l)/\Has L 3 (.int .i64 (k:Int))) ?_ l.length ?_
 ·rintro m L s ⟨k,hk,rfl,h0,i0,i3⟩;by_cases hlt:k<l.length
  ·have hlt':(k:Int)<(l.length:Int):=by omega
   have LT:=jiL hb (l.getD k 0);have DT:=jla hb (l.getD k 0);have z:((k:Int)=0)=(k=0):=by rw[eq_iff_iff];omega
   have z9:((l.getD k 0:Int)=95)=(l.getD k 0=95):=by rw[eq_iff_iff];omega
   have e1:(((k+1:Nat):Int))=(k:Int)+1:=by omega
   have hn:ku l k=(zM (l.getD k 0) ||decide (k≠0) && (qf (l.getD k 0) ||decide (l.getD k 0=95))):=rfl;repeat'(first|(apply jc<;>intro _)|simp(disch:=first|exact dzA|fail) only[ja i0,ja i3,hlt',LT,DT,z,z9,rzZ,Qab,Qac,Qad,Qaa,Qae])
   all_goals first
    |(refine G0.v (congrArg AV.bool (jpT hlt ?_)).symm rfl;rw[hn];simp_all;done)
    |(
     refine⟨l.length - (k+1),by omega,k+1,by omega,rfl,λj hj=>?_,?_⟩
     ·rcases QaT j k with h2|h2
      ·exact h0 j h2
      ·have:j=k:=by omega
       subst this;rw[hn];simp_all
     ·simp(disch:=decide) only[Qam,Qaq,z0,z1,jf,jb,and_true,true_and,i0,e1])
  ·have hlt':¬ (k:Int)<(l.length:Int):=by omega
   have hk':k=l.length:=by omega
   subst hk';have g:=jnb h0;repeat'(first|(apply jc<;>intro _)|simp(disch:=first|exact dzA|fail) only[ja i0,ja i3,hlt',jnS hb l,rzZ,Qab,Qac,Qad,Qaa,Qae])
   all_goals(refine G0.v (congrArg AV.bool ?_) rfl;rw[g];simp_all<;>omega)
 ·refine⟨0,QaG _,rfl,λj hj=>absurd hj (QaZ _),?_⟩;simp(disch:=decide) only[Qam,Qaq,z0,z1,jf,jb,and_true,true_and]
end Go.Sy
end
noncomputable section
set_option maxRecDepth 100000
namespace Go.Sy
open Go.Ev Go.Proofs
variable {base:Bs}
theorem jj9 {b o:Nat}{v:AV}{h:T AO}(ho:o<qt h b)(hv:rat h b o=v)(hc:eqs v=true):(jX Qaf 27 (.ptr b o) v h=true)=True:=eq_true (J4 jlC jlB ho hv hc)
theorem wU (n:Nat)(cs:List AV):eqs (.lst n cs)=true:=nr rfl
def wt (op num:Int)(name:List Nat):Bool:=
 if op=1 then decide (0<=num) && decide (num<=1000000)
 else if op=2 then decide (num=0) ||decide (num=1)
 else if op=3 then decide (num=0) && nm name
 else if op=4 then true
 else decide (num=0)
mutual
def JI:Ex->Bool
 |.mk op num name ks _ _=>decide (QT op=(ks.length:Int)) && z8 ks && (decide (op=3) ||decide (name=[])) && wt op num name
def z8:List Ex->Bool
 |[]=>true
 |x :: xs=>JI x && z8 xs
end
theorem Ve (x:Ex):JI x=(decide (QT x.op=(x.kids.length:Int)) && z8 x.kids && (decide (x.op=3) ||decide (x.name=[])) && wt x.op x.num x.name):=by cases x;rfl
theorem ZA:∀ xs ys,z8 (xs ++ ys)=(z8 xs && z8 ys)
 |[],ys=>by simp[z8]
 |x :: xs,ys=>by rw[Qay,z8,z8,ZA,Bool.and_assoc]
set_option maxHeartbeats 1000000 in
theorem jnO (hb:NB base):∀ x:Ex,szE x<=BIG->Tot base 60 [.agg (eE x)] (.bool (JI x)):=by
 refine Ex.indk λx ih hx=>?_;refine hb.tot ?_ (by first|rfl|simp[pa,pc,qY]) rfl;have hd:=Ve x;have hz:=XO x;generalize hks:x.kids=ks at *;have hlen:=Yl ks;have NM:=Zu hb x.name (by unfold BIG at *;omega);have KT:=jq9 hb x.op;unfold BIG at *;unfold wt at hd;refine jE x92 (by rfl) (hb.pur 60 1 (by decide)) ?_;simp only[y92,jt,Qai,Qaj,Qag,Qah];rw[(by unfold z92;simp only[qq];rfl:z92=_)]
 (have zz:=aI @yO (aI @wU @hks);(repeat'(first|(apply jc<;>intro _)|simp(disch:=first|exact jcj|fail) only[hks,KT,sm3,jj9,yO,wU,hks,je,rzZ,Qab,Qac,Qad,Qaa,Qae]));(all_goals(clear zz)))
 ·rename_i h;exact G0.v (by rw[hd,decide_eq_false h];rfl) rfl
 refine qb ks.length (λk L s=>z8 (ks.take k)=true/\Has L 13 (.lst ks.length (fl eE ks))/\Has L 1 (.ptr 0 0)/\1<=s.nx/\Cl s 0 (eE x)) (by first|assumption|omega) (by decide) (by simp(disch:=decide) only[jf,jb]) (by simp(disch:=decide) only[jf,jb]) ?_ (λk L s v h=>by simp(disch:=decide) only[jb];exact h) (λk L s v h=>by simp(disch:=decide) only[jb];exact h) (λk L s hk hI hi hn=>?_) (λL s hI=>?_)
 ·refine⟨rfl,?_⟩;simp(disch:=decide) only[Qam,Qaq,z0,z1,jf,jb,and_true,true_and];exact⟨by show 1<=_;simp only[jg,yi];omega,Cl.new _ _⟩
 ·obtain⟨h0,i13,i1,n0,C0⟩:=hI;have hk2:=Xj hk;have e:=ih ks[k] (Qat hk) (by omega);repeat'(first|(apply jc<;>intro _)|simp(disch:=first|exact dzB|fail) only[ja i13,ja i1,ja hi,ja hn,e,je,rzZ,Qab,Qac,Qad,Qaa,Qae])
  ·rename_i hf;have e3:=ZA (ks.take (k+1)) (ks.drop (k+1));rw[Qbs,yE hk,ZA] at e3;simp only[z8,hf,Bool.and_false,Bool.false_and,Qcg] at e3;exact G0.v (by rw[hd,e3];simp) rfl
  ·rename_i hf;refine⟨⟨?_,?_⟩,?_⟩
   ·rw[yE hk,ZA,h0];simp_all [z8]
   ·simp(disch:=decide) only[Qam,Qaq,z0,z1,jf,jb,and_true,true_and,i13,i1];exact⟨by(first|omega|(simp only[jg,jj,ju,jr,jk];first|done|omega)),by(first|exact C0|(simp(disch:=first|assumption|decide|(first|omega|(simp only[jg,jj,ju,jr,jk];first|done|omega))) only[jB,jD,jz,jQ,jA,jF,jG,jJ];exact C0))⟩
   ·simp(disch:=decide) only[Qam,Qaq,z0,z1,jf,jb,and_true,true_and,hi,hn]
 ·obtain⟨h0,i13,i1,n0,C0⟩:=hI;rw[Qaz] at h0;rw[h0] at hd
  (have zz:=C0.r;(repeat'(first|(apply jc<;>intro _)|simp(disch:=first|exact jcj|fail) only[ja i13,ja i1,NM,hks,C0.q,C0.r,je,rzZ,Qab,Qac,Qad,Qaa,Qae]));(all_goals(clear zz)))
  all_goals(refine G0.v (congrArg AV.bool ?_) rfl;rw[hd];simp_all<;>omega)
end Go.Sy
end
noncomputable section
set_option maxRecDepth 100000
namespace Go.Sy
open Go.Ev Go.Proofs
variable {base:Bs}
theorem jfe (x:Ex):vX x=((decide (x.op=3) ||decide (x.name=[])) && wt x.op x.num x.name):=by
 unfold vX wt;by_cases h1:x.op=1
 ·simp[h1,Bool.and_comm]
 ·by_cases h2:x.op=2
  ·simp[h2,Bool.and_comm]
  ·by_cases h3:x.op=3
   ·simp[h3]
   ·by_cases h4:x.op=4
    ·simp[h4]
    ·simp[h1,h2,h3,h4,Bool.and_comm]
theorem uv:∀ xs,z8 xs=xs.all JI
 |[]=>rfl
 |x :: xs=>by rw[z8,uv xs];rfl
theorem gg {n:Nat}:∀ xs:List Ex,yp xs<=n↔∀ x∈xs,wB x<=n
 |[]=>by simp[yp]
 |x :: xs=>by simp[yp,Nat.max_le,gg xs]
theorem XQ:∀ (d:Nat) (x:Ex),yZ d x=(decide (wB x<=d) && JI x)
 |0,x=>by
  have:wB x=yp x.kids+1:=kF x;rw[yZ,decide_eq_false (by omega)];rfl
 |d+1,x=>by
  rw[Wp,Ve,kF,jfe,uv];have ih:x.kids.all (yZ d)=(decide (yp x.kids<=d) && x.kids.all JI):=by
   rw[QaW];simp only[QaA,Qar,decide_eq_true_eq,gg];constructor
   ·intro h;exact⟨λk hk=>by have:=h k hk;rw[XQ d k] at this;simp at this;exact this.1,λk hk=>by have:=h k hk;rw[XQ d k] at this;simp at this;exact this.2⟩
   ·rintro ⟨h1,h2⟩ k hk;rw[XQ d k];simp[h1 k hk,h2 k hk]
  rw[ih];have e1:decide (yp x.kids+1<=d+1)=decide (yp x.kids<=d):=by simp
  rw[e1];have e2:(decide (1<=x.op) && decide (x.op<31) && decide ((x.kids.length:Int)=if 5<=x.op/\x.op<=13 then 1 else if 14<=x.op/\x.op<31 then 2 else 0))=decide (QT x.op=(x.kids.length:Int)):=by
   rw[QaW];simp only[Qar,decide_eq_true_eq];unfold QT;have:(0:Int)<=(x.kids.length:Int):=by omega
   generalize (x.kids.length:Int)=n at *;generalize x.op=op at *;constructor
   ·rintro ⟨⟨h1,h2⟩,h3⟩;split at h3
    ·rw[if_neg (by omega),if_pos (by omega),h3]
    ·split at h3
     ·rw[if_neg (by omega),if_neg (by omega),if_pos (by omega),h3]
     ·rw[if_pos (by omega),h3]
   ·intro h;split at h
    ·exact⟨⟨by omega,by omega⟩,by rw[if_neg (by omega),if_neg (by omega)];omega⟩
    ·split at h
     ·exact⟨⟨by omega,by omega⟩,by rw[if_pos (by omega)];omega⟩
     ·split at h
      ·exact⟨⟨by omega,by omega⟩,by rw[if_neg (by omega),if_pos (by omega)];omega⟩
      ·omega
  rw[e2];cases decide (QT x.op=(x.kids.length:Int))<;>cases decide (yp x.kids<=d)<;>cases x.kids.all JI<;>cases (decide (x.op=3) ||decide (x.name=[]))<;>cases wt x.op x.num x.name<;>rfl
theorem jk6 (hb:NB base)(x:Ex)(hx:szE x<=BIG):Tot base 37 [.agg (eE x)] (.bool (yZ 60 x)):=by
 refine hb.tot ?_ (by first|rfl|simp[pa,pc,qY]) rfl;have e:=XQ 60 x;have D:=jrf hb x hx;have S:=jnO hb x hx;refine jE x46 (by rfl) (hb.pur 37 1 (by decide)) ?_;simp only[y46,jt,Qai,Qaj,Qag,Qah];rw[(by unfold z46;simp only[qq];rfl:z46=_)];repeat'(first|(apply jc<;>intro _)|simp(disch:=first|exact dzB|fail) only[D,S,je,rzZ,Qab,Qac,Qad,Qaa,Qae])
 all_goals(refine G0.v (congrArg AV.bool ?_) rfl;rw[e];simp_all<;>omega)
def zZ (x:Ex):Bool:=yZ 60 x && !jfj 4 x
theorem WZ (hb:NB base)(x:Ex)(hx:szE x<=BIG):Tot base 11 [.agg (eE x)] (.bool (zZ x)):=by
 refine hb.tot ?_ (by first|rfl|simp[pa,pc,qY]) rfl;have D:=jk6 hb x hx;have S:=jsd hb 4 x hx;refine jE x12 (by rfl) (hb.pur 11 1 (by decide)) ?_;simp only[y12,jt,Qai,Qaj,Qag,Qah];rw[(by unfold z12;simp only[qq];rfl:z12=_)];repeat'(first|(apply jc<;>intro _)|simp(disch:=first|exact dzB|fail) only[D,S,je,rzZ,Qab,Qac,Qad,Qaa,Qae])
 all_goals(refine G0.v (congrArg AV.bool ?_) rfl;unfold zZ;simp_all)
theorem jnN (hb:NB base)(op:Int):Tot base 105 [.int .i64 op] (.str (sgn op)):=by
 refine hb.tot ?_ rfl rfl;refine jE x52 (by rfl) (hb.pur 105 1 (by decide)) ?_;simp only[y52,jt,Qai,Qaj,Qag,Qah];rw[(by unfold z52;simp only[qq];rfl:z52=_)];repeat'(first|(apply jc<;>intro _)|simp(disch:=first|exact dzB|fail) only[je,rzZ,Qab,Qac,Qad,Qaa,Qae])
 ·exact G0.v (by rw[sgn,if_neg (by omega)]) rfl
 ·exact G0.v (by rw[sgn,if_neg (by omega)]) rfl
 ·have h26:(op - 5).toNat<wJ.length:=by show(op - 5).toNat<26;omega
  show G0 _ ((wJ.map AV.str).getD _ _) _;rw[Vc h26];exact G0.v (by rw[sgn,if_pos (by omega),Qax,Qau h26];rfl) rfl
end Go.Sy
end
noncomputable section
set_option maxRecDepth 100000
namespace Go.Sy
open Go.Ev Go.Proofs
variable {base:Bs}
theorem UK (e:EnumT):enE e=[.str e.name,.lst e.vals.length (e.vals.map .str),.int .i64 e.line,.int .i64 e.col]:=rfl
theorem JX (e:EnumT):(enE e).length=4:=nr (by rw[UK];rfl)
theorem WO (e:EnumT)(k:Nat):(enE e).getD k .bad=([.str e.name,.lst e.vals.length (e.vals.map .str),.int .i64 e.line,.int .i64 e.col]:List AV).getD k .bad:=nr (by rw[UK])
theorem jmn (e:EnumT)(k:Nat):(enE e).drop k=([.str e.name,.lst e.vals.length (e.vals.map .str),.int .i64 e.line,.int .i64 e.col]:List AV).drop k:=nr (by rw[UK])
theorem jaF (e:EnumT):lall AV.cell (enE e)=true:=nr (by rw[UK];rfl)
theorem jmm {st:St}{K:AV->St->Prop}{xs:List EnumT}{i:Nat}(h:i<xs.length):jl (zg 4 (.lptr (fl enE xs) (i * 4)) st) K=K (.agg (enE xs[i])) st:=JU JX h
theorem jik {st:St}{K:AV->St->Prop}{xs:List EnumT}{i:Nat}(h:i<xs.length){k:Nat}(hk:k<4):jl (qX (.lptr (fl enE xs) (i * 4+k)) st) K=K ((enE xs[i]).getD k .bad) st:=q7 JX h hk
theorem jil {st:St}{K:AV->St->Prop}{xs:List EnumT}{i:Nat}(h:i<xs.length):jl (qX (.lptr (fl enE xs) (i * 4)) st) K=K ((enE xs[i]).getD 0 .bad) st:=q7 (k:=0) JX h (by decide)
theorem jh:type_of% (aI @JX (aI @WO (aI @jmn (aI @jaF (aI @jmm (aI @jil @jik)))))):=aI @JX (aI @WO (aI @jmn (aI @jaF (aI @jmm (aI @jil @jik)))))
theorem ze:type_of% (aI @JX (aI @jaF @WO)):=aI @JX (aI @jaF @WO)
theorem wV (d:DeclT):qh d=[.str d.name,.str d.ty,.int .i64 d.lo,.int .i64 d.hi,.lst d.begins.length (fl eE d.begins),.int .i64 d.line,.int .i64 d.col]:=rfl
theorem QK (d:DeclT):(qh d).length=7:=nr (by rw[wV];rfl)
theorem u2 (d:DeclT)(k:Nat):(qh d).getD k .bad=([.str d.name,.str d.ty,.int .i64 d.lo,.int .i64 d.hi,.lst d.begins.length (fl eE d.begins),.int .i64 d.line,.int .i64 d.col]:List AV).getD k .bad:=nr (by rw[wV])
theorem jea (d:DeclT)(k:Nat):(qh d).drop k=([.str d.name,.str d.ty,.int .i64 d.lo,.int .i64 d.hi,.lst d.begins.length (fl eE d.begins),.int .i64 d.line,.int .i64 d.col]:List AV).drop k:=nr (by rw[wV])
theorem UM (d:DeclT):lall AV.cell (qh d)=true:=nr (by rw[wV];rfl)
theorem jd9 {st:St}{K:AV->St->Prop}{xs:List DeclT}{i:Nat}(h:i<xs.length):jl (zg 7 (.lptr (fl qh xs) (i * 7)) st) K=K (.agg (qh xs[i])) st:=JU QK h
theorem jcp {st:St}{K:AV->St->Prop}{xs:List DeclT}{i:Nat}(h:i<xs.length){k:Nat}(hk:k<7):jl (qX (.lptr (fl qh xs) (i * 7+k)) st) K=K ((qh xs[i]).getD k .bad) st:=q7 QK h hk
theorem jcq {st:St}{K:AV->St->Prop}{xs:List DeclT}{i:Nat}(h:i<xs.length):jl (qX (.lptr (fl qh xs) (i * 7)) st) K=K ((qh xs[i]).getD 0 .bad) st:=q7 (k:=0) QK h (by decide)
theorem jd:type_of% (aI @QK (aI @u2 (aI @jea (aI @UM (aI @jd9 (aI @jcq @jcp)))))):=aI @QK (aI @u2 (aI @jea (aI @UM (aI @jd9 (aI @jcq @jcp)))))
theorem qZ:type_of% (aI @QK (aI @UM @u2)):=aI @QK (aI @UM @u2)
theorem jmt (a:AsT):asE a=[.str a.name,.int .i64 a.to.op,.int .i64 a.to.num,.str a.to.name,.lst a.to.kids.length (fl eE a.to.kids),.int .i64 a.to.line,.int .i64 a.to.col,.int .i64 a.line,.int .i64 a.col]:=(by unfold asE;rw[qG];rfl)
theorem jaJ (a:AsT)(k:Nat):(asE a).getD k .bad=([.str a.name,.int .i64 a.to.op,.int .i64 a.to.num,.str a.to.name,.lst a.to.kids.length (fl eE a.to.kids),.int .i64 a.to.line,.int .i64 a.to.col,.int .i64 a.line,.int .i64 a.col]:List AV).getD k .bad:=nr (by rw[jmt])
theorem jmv (a:AsT)(k:Nat):(asE a).drop k=([.str a.name,.int .i64 a.to.op,.int .i64 a.to.num,.str a.to.name,.lst a.to.kids.length (fl eE a.to.kids),.int .i64 a.to.line,.int .i64 a.to.col,.int .i64 a.line,.int .i64 a.col]:List AV).drop k:=nr (by rw[jmt])
theorem jmu {st:St}{K:AV->St->Prop}{xs:List AsT}{i:Nat}(h:i<xs.length):jl (zg 9 (.lptr (fl asE xs) (i * 9)) st) K=K (.agg (asE xs[i])) st:=JU ZO h
theorem jiz {st:St}{K:AV->St->Prop}{xs:List AsT}{i:Nat}(h:i<xs.length){k:Nat}(hk:k<9):jl (qX (.lptr (fl asE xs) (i * 9+k)) st) K=K ((asE xs[i]).getD k .bad) st:=q7 ZO h hk
theorem jiA {st:St}{K:AV->St->Prop}{xs:List AsT}{i:Nat}(h:i<xs.length):jl (qX (.lptr (fl asE xs) (i * 9)) st) K=K ((asE xs[i]).getD 0 .bad) st:=q7 (k:=0) ZO h (by decide)
theorem ji:type_of% (aI @ZO (aI @jaJ (aI @jmv (aI @gv (aI @jmu (aI @jiA @jiz)))))):=aI @ZO (aI @jaJ (aI @jmv (aI @gv (aI @jmu (aI @jiA @jiz)))))
theorem zf:type_of% (aI @ZO (aI @gv @jaJ)):=aI @ZO (aI @gv @jaJ)
theorem jeT (r:RuleT):ruE r=[.int .i64 r.when.op,.int .i64 r.when.num,.str r.when.name,.lst r.when.kids.length (fl eE r.when.kids),.int .i64 r.when.line,.int .i64 r.when.col,.lst r.acts.length (fl asE r.acts)]:=Vg r
theorem H8 (r:RuleT)(k:Nat):(ruE r).getD k .bad=([.int .i64 r.when.op,.int .i64 r.when.num,.str r.when.name,.lst r.when.kids.length (fl eE r.when.kids),.int .i64 r.when.line,.int .i64 r.when.col,.lst r.acts.length (fl asE r.acts)]:List AV).getD k .bad:=nr (by rw[jeT])
theorem jlP (r:RuleT)(k:Nat):(ruE r).drop k=([.int .i64 r.when.op,.int .i64 r.when.num,.str r.when.name,.lst r.when.kids.length (fl eE r.when.kids),.int .i64 r.when.line,.int .i64 r.when.col,.lst r.acts.length (fl asE r.acts)]:List AV).drop k:=nr (by rw[jeT])
theorem H9 (r:RuleT):lall AV.cell (ruE r)=true:=nr (by rw[jeT];rfl)
theorem jlO {st:St}{K:AV->St->Prop}{xs:List RuleT}{i:Nat}(h:i<xs.length):jl (zg 7 (.lptr (fl ruE xs) (i * 7)) st) K=K (.agg (ruE xs[i])) st:=JU wj h
theorem jg1 {st:St}{K:AV->St->Prop}{xs:List RuleT}{i:Nat}(h:i<xs.length){k:Nat}(hk:k<7):jl (qX (.lptr (fl ruE xs) (i * 7+k)) st) K=K ((ruE xs[i]).getD k .bad) st:=q7 wj h hk
theorem jg2 {st:St}{K:AV->St->Prop}{xs:List RuleT}{i:Nat}(h:i<xs.length):jl (qX (.lptr (fl ruE xs) (i * 7)) st) K=K ((ruE xs[i]).getD 0 .bad) st:=q7 (k:=0) wj h (by decide)
theorem jW:type_of% (aI @wj (aI @H8 (aI @jlP (aI @H9 (aI @jlO (aI @jg2 @jg1)))))):=aI @wj (aI @H8 (aI @jlP (aI @H9 (aI @jlO (aI @jg2 @jg1)))))
theorem zc:type_of% (aI @wj (aI @H9 @H8)):=aI @wj (aI @H9 @H8)
theorem Uq (p:ProcT):prE p=[.str p.name,.lst p.rules.length (fl ruE p.rules),.int .i64 p.line,.int .i64 p.col]:=rfl
theorem vQ (p:ProcT):(prE p).length=4:=nr (by rw[Uq];rfl)
theorem jaf (p:ProcT)(k:Nat):(prE p).getD k .bad=([.str p.name,.lst p.rules.length (fl ruE p.rules),.int .i64 p.line,.int .i64 p.col]:List AV).getD k .bad:=nr (by rw[Uq])
theorem jlV (p:ProcT)(k:Nat):(prE p).drop k=([.str p.name,.lst p.rules.length (fl ruE p.rules),.int .i64 p.line,.int .i64 p.col]:List AV).drop k:=nr (by rw[Uq])
theorem jag (p:ProcT):lall AV.cell (prE p)=true:=nr (by rw[Uq];rfl)
theorem jlU {st:St}{K:AV->St->Prop}{xs:List ProcT}{i:Nat}(h:i<xs.length):jl (zg 4 (.lptr (fl prE xs) (i * 4)) st) K=K (.agg (prE xs[i])) st:=JU vQ h
theorem jhh {st:St}{K:AV->St->Prop}{xs:List ProcT}{i:Nat}(h:i<xs.length){k:Nat}(hk:k<4):jl (qX (.lptr (fl prE xs) (i * 4+k)) st) K=K ((prE xs[i]).getD k .bad) st:=q7 vQ h hk
theorem jhi {st:St}{K:AV->St->Prop}{xs:List ProcT}{i:Nat}(h:i<xs.length):jl (qX (.lptr (fl prE xs) (i * 4)) st) K=K ((prE xs[i]).getD 0 .bad) st:=q7 (k:=0) vQ h (by decide)
theorem qK:type_of% (aI @vQ (aI @jaf (aI @jlV (aI @jag (aI @jlU (aI @jhi @jhh)))))):=aI @vQ (aI @jaf (aI @jlV (aI @jag (aI @jlU (aI @jhi @jhh)))))
theorem zd:type_of% (aI @vQ (aI @jag @jaf)):=aI @vQ (aI @jag @jaf)
theorem Ug (m:SrcT):srE m=[.lst m.enums.length (fl enE m.enums),.lst m.vars.length (fl qh m.vars),.lst m.procs.length (fl prE m.procs)]:=rfl
theorem wg (m:SrcT):(srE m).length=3:=nr (by rw[Ug];rfl)
theorem HW (m:SrcT)(k:Nat):(srE m).getD k .bad=([.lst m.enums.length (fl enE m.enums),.lst m.vars.length (fl qh m.vars),.lst m.procs.length (fl prE m.procs)]:List AV).getD k .bad:=nr (by rw[Ug])
theorem jlK (m:SrcT)(k:Nat):(srE m).drop k=([.lst m.enums.length (fl enE m.enums),.lst m.vars.length (fl qh m.vars),.lst m.procs.length (fl prE m.procs)]:List AV).drop k:=nr (by rw[Ug])
theorem HX (m:SrcT):lall AV.cell (srE m)=true:=nr (by rw[Ug];rfl)
theorem jlJ {st:St}{K:AV->St->Prop}{xs:List SrcT}{i:Nat}(h:i<xs.length):jl (zg 3 (.lptr (fl srE xs) (i * 3)) st) K=K (.agg (srE xs[i])) st:=JU wg h
theorem jgR {st:St}{K:AV->St->Prop}{xs:List SrcT}{i:Nat}(h:i<xs.length){k:Nat}(hk:k<3):jl (qX (.lptr (fl srE xs) (i * 3+k)) st) K=K ((srE xs[i]).getD k .bad) st:=q7 wg h hk
theorem jgS {st:St}{K:AV->St->Prop}{xs:List SrcT}{i:Nat}(h:i<xs.length):jl (qX (.lptr (fl srE xs) (i * 3)) st) K=K ((srE xs[i]).getD 0 .bad) st:=q7 (k:=0) wg h (by decide)
theorem qJ:type_of% (aI @wg (aI @HW (aI @jlK (aI @HX (aI @jlJ (aI @jgS @jgR)))))):=aI @wg (aI @HW (aI @jlK (aI @HX (aI @jlJ (aI @jgS @jgR)))))
theorem zb:type_of% (aI @wg (aI @HX @HW)):=aI @wg (aI @HX @HW)
theorem dzE {p:Prop}(h:p:=by first|assumption|decide|omega|(simp only[qN,zf,zc,ze,qZ,zd,zb,rzN,Qak,Qan];first|done|omega)|(apply JZ<;>first|omega|((simp(disch:=first|assumption|omega|(simp only[qN,zf,zc,ze,qZ,zd,zb,rzN,Qak,Qan];first|done|omega)) only[rzL,Qak,Qan,QaK,Qab,qN,zf,zc,ze,qZ,zd,zb ])<;>first|done|omega))|(simp(disch:=first|assumption|omega|(simp only[qN,zf,zc,ze,qZ,zd,zb,rzN,Qak,Qan];first|done|omega)) only[qN,zf,zc,ze,qZ,zd,zb,rzG,Qag,Qah,Qac,Qbj,Qak,Qan,Qay,QaF];first|done|omega|decide)):p:=h
theorem cyE {p:Prop}(h:p:=by apply JZ<;>first|omega|((simp(disch:=first|assumption|omega|(simp only[qN,zf,zc,ze,qZ,zd,zb,rzN,Qak,Qan];first|done|omega)) only[rzL,Qak,Qan,QaK,Qab,qN,zf,zc,ze,qZ,zd,zb])<;>first|done|rfl|omega|(simp;done)|(simp;omega))):p:=h
theorem zu {p:Prop}(h:p:=by first|assumption|decide|omega|(simp only[qN,zf,zc,ze,qZ,zd,zb,zz,rzN,Qak,Qan];first|done|omega)|(apply JZ<;>first|omega|((simp(disch:=first|assumption|omega|(simp only[qN,zf,zc,ze,qZ,zd,zb,zz,rzN,Qak,Qan];first|done|omega)) only[rzL,Qak,Qan,QaK,Qab,qN,zf,zc,ze,qZ,zd,zb,zz ])<;>first|done|omega))|(simp(disch:=first|assumption|omega|(simp only[qN,zf,zc,ze,qZ,zd,zb,zz,rzN,Qak,Qan];first|done|omega)) only[qN,zf,zc,ze,qZ,zd,zb,zz,rzG,Qag,Qah,Qac,Qbj,Qak,Qan,Qay,QaF];first|done|omega|decide)):p:=h
theorem jgk {S:List (List Nat)}{k:Nat}{st:St}{K:AV->St->Prop}(h:k<S.length):jl (qX (.lptr (S.map AV.str) k) st) K=K (.str S[k]) st:=by
 rw[zU (by simpa using h)];congr 1;exact Vc h
end Go.Sy
end
noncomputable section
set_option maxRecDepth 100000
namespace Go.Sy
open Go.Ev Go.Proofs
variable {base:Bs}
theorem jmL {a:Nat}{st:St}{K:AV->St->Prop}(h:a<=9223372036854775807):jl (Jg .quo (.int .i64 (a:Int)) (.int .i64 10) st) K=K (.int .i64 ((a / 10:Nat):Int)) st:=by
 have e:qT .i64 ((a / 10:Nat):Int)=((a / 10:Nat):Int):=Zr (by omega) (by omega);show K (.int .i64 (qT .i64 ((a / 10:Nat):Int))) st=_;rw[e]
theorem jmK {a:Nat}{st:St}{K:AV->St->Prop}:jl (Jg .rem (.int .i64 (a:Int)) (.int .i64 10) st) K=K (.int .i64 ((a % 10:Nat):Int)) st:=rfl
def uD (n:Nat):List Nat:=if n<10 then [48+n] else uD (n / 10) ++ [48+n % 10]
termination_by n
decreasing_by omega
def Z5 (n:Int):List Nat:=if n<0 then 45 :: uD (-n).toNat else uD n.toNat
theorem jqB:∀ n,n<10->(([48,49,50,51,52,53,54,55,56,57]:List Nat).drop n).take 1=[48+n]:=by decide
theorem vC:∀ (k n:Nat),n<10 ^ (k+1)->(uD n).length<=k+1
 |0,n,h=>by rw[uD,if_pos (by omega)];simp
 |k+1,n,h=>by
  rw[uD];by_cases h2:n<10
  ·rw[if_pos h2];simp
  ·rw[if_neg h2,Qal];have:=vC k (n / 10) (by rw[Nat.pow_succ] at h;omega);simp;omega
theorem jiO (hb:NB base)(n:Nat)(h:n<=1000000000000000):Tot base 77 [.int .i64 (n:Int)] (.str (uD n)):=by
 induction n using Nat.strongRecOn with
 |_ n ih=>
 refine hb.tot ?_ rfl rfl;have hd:uD n=if n<10 then [48+n] else uD (n / 10) ++ [48+n % 10]:=by rw[uD]
 by_cases h2:n<10
 ·have g:=jqB n h2;have e1:((n:Int)+1 - (n:Int)).toNat=1:=by omega
  have e2:(n:Int)<10:=by omega
  refine jE x53 (by rfl) (hb.pur 77 1 (by decide)) ?_;simp only[y53,jt,Qai,Qaj,Qag,Qah];rw[(by unfold z53;simp only[qq];rfl:z53=_)];repeat'(first|(apply jc<;>intro _)|simp(disch:=first|exact dzB|fail) only[e1,e2,g,je,rzZ,Qab,Qac,Qad,Qaa,Qae])
  exact G0.v (by rw[hd,if_pos h2]) rfl
 ·have i:=ih (n / 10) (by omega) (by omega);have g:=jqB (n % 10) (by omega);have e1:(((n % 10:Nat):Int)+1 - ((n % 10:Nat):Int)).toNat=1:=by omega
  have e2:¬ (n:Int)<10:=by omega
  have e0:¬ (n:Int)<0:=by omega
  have e3:(n % 10:Nat)+1<=10:=by omega
  have hl:=vC 14 (n / 10) (by
   have:(10:Nat) ^ (14+1)=1000000000000000:=by decide
   omega)
  refine jE x53 (by rfl) (hb.pur 77 1 (by decide)) ?_;simp only[y53,jt,Qai,Qaj,Qag,Qah];rw[(by unfold z53;simp only[qq];rfl:z53=_)];repeat'(first|(apply jc<;>intro _)|simp(disch:=first|exact dzB|fail) only[e1,e2,e0,g,jmL,jmK,i,je,rzZ,Qab,Qac,Qad,Qaa,Qae])
  exact G0.v (by rw[hd,if_neg h2]) rfl
theorem jf4 (hb:NB base)(n:Int)(h1 : -1000000000000000<=n)(h2:n<=1000000000000000):Tot base 77 [.int .i64 n] (.str (Z5 n)):=by
 by_cases h0:n<0
 ·obtain⟨m,hm⟩:∃ m:Nat,-n=(m:Int):=⟨(-n).toNat,by omega⟩;have D:=jiO hb m (by omega);have hl:=vC 15 m (by
   have:(10:Nat) ^ (15+1)=10000000000000000:=by decide
   omega)
  refine hb.tot ?_ rfl rfl;refine jE x53 (by rfl) (hb.pur 77 1 (by decide)) ?_;simp only[y53,jt,Qai,Qaj,Qag,Qah];rw[(by unfold z53;simp only[qq];rfl:z53=_)];repeat'(first|(apply jc<;>intro _)|simp(disch:=first|exact dzB|fail) only[h0,hm,D,je,rzZ,Qab,Qac,Qad,Qaa,Qae])
  exact G0.v (by rw[Z5,if_pos h0,hm];rfl) rfl
 ·obtain⟨m,hm⟩:∃ m:Nat,n=(m:Int):=⟨n.toNat,by omega⟩;subst hm;rw[Z5,if_neg h0];exact jiO hb m (by omega)
theorem vD {n:Int}(h1 : -1000000<=n)(h2:n<=1000000):(Z5 n).length<=8:=by
 have e:(10:Nat) ^ (6+1)=10000000:=by decide
 unfold Z5;split
 ·have:=vC 6 (-n).toNat (by omega);simp;omega
 ·have:=vC 6 n.toNat (by omega);omega
def zk:Ex->List Nat
 |.mk op num name ks _ _=>match ks with
  |[x,y]=>(if x.kids.length=0 then zk x else 40 :: (zk x ++ [41])) ++ [32] ++ sgn op ++ [32] ++ (if y.kids.length=0 then zk y else 40 :: (zk y ++ [41]))
  |[x]=>sgn op ++ (if 6<op then [32] else []) ++ (if x.kids.length=0 then zk x else 40 :: (zk x ++ [41]))
  |_=>if op=1 then Z5 num else if op=2 then(if num=1 then [116,114,117,101] else [102,97,108,115,101]) else name
termination_by x=>SizeOf.sizeOf x
def Z3 (x:Ex):List Nat:=if x.kids.length=0 then zk x else 40 :: (zk x ++ [41])
theorem jdj (op num:Int)(name:List Nat)(x y:Ex)(l c:Int):zk (.mk op num name [x,y] l c)=Z3 x ++ [32] ++ sgn op ++ [32] ++ Z3 y:=by rw[zk];rfl
theorem jdk (op num:Int)(name:List Nat)(x:Ex)(l c:Int):zk (.mk op num name [x] l c)=sgn op ++ (if 6<op then [32] else []) ++ Z3 x:=by rw[zk];rfl
theorem jdl (op num:Int)(name:List Nat)(l c:Int):zk (.mk op num name [] l c)=if op=1 then Z5 num else if op=2 then(if num=1 then [116,114,117,101] else [102,97,108,115,101]) else name:=by rw[zk]<;>intros<;>simp_all
theorem gP (op:Int):(sgn op).length<=3:=by
 unfold sgn;split
 ·rename_i h;have:∀ n,n<26->(wJ.getD n []).length<=3:=by decide
  exact this _ (by omega)
 ·simp
theorem Kd {x:Ex}(h:JI x=true):QT x.op=(x.kids.length:Int)/\(∀ k∈x.kids,JI k=true)/\wt x.op x.num x.name=true/\(x.op=3\/x.name=[]):=by
 rw[Ve,uv] at h;simp only[Qar,decide_eq_true_eq,QaA,QaX] at h;exact⟨h.1.1.1,h.1.1.2,h.2,h.1.2⟩
theorem jbY (op:Int):QT op<=2:=by unfold QT;split<;>(try split)<;>(try split)<;>omega
theorem Jq:∀ x:Ex,JI x=true->(zk x).length<=16 * szE x:=by
 refine Ex.indk λx ih h=>?_;obtain⟨h1,h2,h3,h4⟩:=Kd h;have h5:=jbY x.op;cases x with
 |mk op num name ks l c=>
 simp only[Ex.op,Ex.num,Ex.name,Ex.kids] at *;have sz:szE (.mk op num name ks l c)=yF ks+name.length+1:=rfl;rw[sz];have inn:∀ k∈ks,(Z3 k).length<=16 * szE k+2:=λk hk=>by
  have:=ih k hk (h2 k hk);unfold Z3;split
  ·omega
  ·simp;omega
 match ks,h1,inn with
 |[],_,_=>
  rw[jdl];unfold wt at h3;split
  ·rename_i h6;rw[if_pos h6] at h3;simp at h3;have:=vD (n:=num) (by omega) (by omega);omega
  ·split
   ·split<;>simp<;>omega
   ·omega
 |[x],_,inn=>
  rw[jdk];have:=inn x (by simp);have:=gP op;simp only[Qal,yF];split<;>simp<;>omega
 |[x,y],_,inn=>
  rw[jdj];have:=inn x (by simp);have:=inn y (by simp);have:=gP op;simp only[Qal,yF,Qak,Qan];omega
 |x :: y :: z :: r,h1,_=>
  simp only[Qak] at h1;omega
theorem jkG {x:Ex}(h:JI x=true):(Z3 x).length<=16 * szE x+2:=by
 have:=Jq x h;unfold Z3;split
 ·omega
 ·simp;omega
theorem jp7 (x:Ex)(xs:List Ex){st:St}{K:AV->St->Prop}:jl (zg 6 (.lptr (fl eE (x :: xs)) 0) st) K=K (.agg (eE x)) st:=by
 have:=jci (st:=st) (K:=K) (xs:=x :: xs) (i:=0) (by simp);rw[Qbp] at this;exact this
theorem jtp (x y:Ex)(xs:List Ex){st:St}{K:AV->St->Prop}:jl (zg 6 (.lptr (fl eE (x :: y :: xs)) 6) st) K=K (.agg (eE y)) st:=jci (st:=st) (K:=K) (xs:=x :: y :: xs) (i:=1) (by simp)
theorem jk8 (hb:NB base){x:Ex}(h:JI x=true)(hx:szE x<=BIG)(T:Tot base 78 [.agg (eE x)] (.str (zk x))):Tot base 104 [.agg (eE x)] (.str (Z3 x)):=by
 refine hb.tot ?_ (by first|rfl|simp[pa,pc,qY]) rfl;have hl:=Jq x h;have z:((x.kids.length:Int)=0)=(x.kids.length=0):=by rw[eq_iff_iff];omega
 unfold BIG at hx;refine jE x51 (by rfl) (hb.pur 104 1 (by decide)) ?_;simp only[y51,jt,Qai,Qaj,Qag,Qah];rw[(by unfold z51;simp only[qq];rfl:z51=_)]
 (have zz:=@Qal.{0};(repeat'(first|(apply jc<;>intro _)|simp(disch:=first|exact jcj|fail) only[T,z,Qal,je,rzZ,Qab,Qac,Qad,Qaa,Qae]));(all_goals(clear zz)))
 ·exact G0.v (by rw[Z3,if_pos (by assumption)]) rfl
 ·exact G0.v (by rw[Z3,if_neg (by assumption)]<;>rfl) rfl
set_option maxHeartbeats 1000000 in
theorem jcO (hb:NB base):∀ x:Ex,szE x<=BIG->JI x=true->Tot base 78 [.agg (eE x)] (.str (zk x)):=by
 refine Ex.indk λx ih hx h=>?_;refine hb.tot ?_ (by first|rfl|simp[pa,pc,qY]) rfl;obtain⟨h1,h2,h3,h4⟩:=Kd h;have h5:=jbY x.op;have sz:=XO x;have hl:=Jq x h;have SG:=jnN hb x.op;have sl:=gP x.op;have inn:∀ k∈x.kids,Tot base 104 [.agg (eE k)] (.str (Z3 k))/\(Z3 k).length<=16 * szE k+2:=λk hk=>by
  have:szE k<=yF x.kids:=by
   obtain⟨i,hi,rfl⟩:=Qbu.1 hk;exact Xj hi
  have hk2:szE k<=BIG:=by omega
  exact⟨jk8 hb (h2 k hk) hk2 (ih k hk hk2 (h2 k hk)),jkG (h2 k hk)⟩
 clear ih hl;unfold BIG at *;cases x with
 |mk op num name ks l c=>
 simp only[Ex.op,Ex.num,Ex.name,Ex.kids] at *
 match ks,h1,sz,inn with
 |[],_,sz,_=>
  rw[jdl];have D:op=1->Tot base 77 [.int .i64 num] (.str (Z5 num)):=λe=>by
   subst e;unfold wt at h3;simp at h3;exact jf4 hb num (by omega) (by omega)
  have ek:(Ex.mk op num name [] l c).kids=[]:=rfl;have eo:(Ex.mk op num name [] l c).op=op:=rfl;have en:(Ex.mk op num name [] l c).num=num:=rfl;have ea:(Ex.mk op num name [] l c).name=name:=rfl;refine jE x16 (by rfl) (hb.pur 78 1 (by decide)) ?_;simp only[y16,jt,Qai,Qaj,Qag,Qah];rw[(by unfold z16;simp only[qq];rfl:z16=_)];repeat'(first|(apply jc<;>intro _)|simp(disch:=first|exact dzB|fail) only[D,ek,eo,en,ea,je,rzZ,Qab,Qac,Qad,Qaa,Qae])
  all_goals(refine G0.v (congrArg AV.str ?_) rfl;split<;>(try split)<;>first|rfl|omega|(exfalso;omega)|contradiction)
 |[x],_,sz,inn=>
  obtain⟨I,il⟩:=inn x (by simp);simp only[yF] at sz;rw[jdk];have ek:(Ex.mk op num name [x] l c).kids=[x]:=rfl;have eo:(Ex.mk op num name [x] l c).op=op:=rfl;refine jE x16 (by rfl) (hb.pur 78 1 (by decide)) ?_;simp only[y16,jt,Qai,Qaj,Qag,Qah];rw[(by unfold z16;simp only[qq];rfl:z16=_)]
  (have zz:=aI @yO (aI @wU (aI @Qal.{0} (aI @ek @eo)));(repeat'(first|(apply jc<;>intro _)|simp(disch:=first|exact jcj|fail) only[ek,eo,I,SG,jp7,sm3,jj9,QM,yO,wU,Qal,ek,eo,je,rzZ,Qab,Qac,Qad,Qaa,Qae]));(all_goals(clear zz)))
  all_goals(refine G0.v (congrArg AV.str ?_) rfl;split<;>first|rfl|(exfalso;omega)|(simp;done))
 |[x,y],_,sz,inn=>
  obtain⟨I,il⟩:=inn x (by simp);obtain⟨I2,il2⟩:=inn y (by simp);simp only[yF] at sz;rw[jdj];have ek:(Ex.mk op num name [x,y] l c).kids=[x,y]:=rfl;have eo:(Ex.mk op num name [x,y] l c).op=op:=rfl;refine jE x16 (by rfl) (hb.pur 78 1 (by decide)) ?_;simp only[y16,jt,Qai,Qaj,Qag,Qah];rw[(by unfold z16;simp only[qq];rfl:z16=_)]
  (have zz:=aI @yO (aI @wU (aI @Qal.{0} (aI @ek @eo)));(repeat'(first|(apply jc<;>intro _)|simp(disch:=first|exact jcj|fail) only[ek,eo,I,I2,SG,jp7,jtp,sm3,jj9,QM,yO,wU,Qal,ek,eo,je,rzZ,Qab,Qac,Qad,Qaa,Qae]));(all_goals(clear zz)))
  exact G0.v rfl rfl
 |x :: y :: z :: r,h1,_,_=>
  simp only[Qak] at h1;omega
end Go.Sy
end
noncomputable section
set_option maxRecDepth 100000
namespace Go.Sy
open Go.Ev Go.Proofs
variable {base:Bs}
def JK:List (List Nat)->List Nat
 |[]=>[]
 |x :: xs=>x ++ xs.flatMap λy=>44 :: 32 :: y
theorem KW (xs:List (List Nat))(y:List Nat):JK (xs ++ [y])=JK xs ++ (if xs.length=0 then [] else [44,32]) ++ y:=by
 cases xs with
 |nil=>simp[JK]
 |cons x xs=>simp[JK]
theorem YA {n:Nat}:∀ {xs:List (List Nat)},(∀ x∈xs,x.length<=n)->(JK xs).length<=xs.length * (n+2)
 |[],_=>by simp[JK]
 |x :: xs,h=>by
  have h1:=h x (by simp);have:(xs.flatMap λy=>44 :: 32 :: y).length<=xs.length * (n+2):=by
   clear h1;induction xs with
   |nil=>simp
   |cons y ys ih=>
    have h2:=h y (by simp);have:=ih λz hz=>h z (by simp at hz ⊢;rcases hz with rfl|hz<;>simp[*]);rw[QcC,Qal,show(y :: ys).length=ys.length+1 from rfl,Qbw];simp only[Qak];omega
  rw[JK,Qal,show(x :: xs).length=xs.length+1 from rfl,Qbw];omega
theorem QD {l:List Nat}(h:nm l=true):l.length<=32:=by
 unfold nm at h;simp only[Qar,decide_eq_true_eq] at h;exact h.1.1.1.2
def Qy (e:EnumT):Option (List Nat):=if nm e.name=true/\1<=e.vals.length/\e.vals.length<=32/\e.vals.all nm=true then some ([101,110,117,109,32] ++ e.name ++ [32,123,32] ++ JK e.vals ++ [32,125,10]) else none
def gJ (o:Option (List Nat)):AV:=.tup [.str (o.getD []),.bool o.isSome]
theorem jgL (l:List Nat):gJ (some l)=.tup [.str l,.bool true]:=rfl
theorem G0.tup2 {s:St}{a:List Nat}{b:Bool}{u:AV}(h:u=.tup [.str a,.bool b]):G0 u (.tup [.str a,.bool b]) s:=by
 subst h;exact FzD.tup (.cons (.pc rfl) (.cons (.pc rfl) .nil))
theorem jcJ {α:Type}{p:α->Bool}{xs:List α}{k:Nat}(h:k<xs.length)(h2:p xs[k]=false):xs.all p=false:=by
 rw[Bool.eq_false_iff];intro h3;rw[QaA] at h3;have:=h3 _ (Qat h);rw[h2] at this;cases this
theorem jfZ {α:Type}{p:α->Bool}{xs:List α}{k:Nat}(h:k<xs.length):(xs.take (k+1)).all p=((xs.take k).all p && p xs[k]):=by
 rw[yE h,Qbl];simp
set_option maxHeartbeats 1000000 in
theorem jnW (hb:NB base)(e:EnumT)(h1:e.name.length<=BIG)(h2:e.vals.length<=BIG)(h3:∀ v∈e.vals,v.length<=BIG):Tot base 56 [.agg (enE e)] (gJ (Qy e)):=by
 refine hb.tot ?_ (by first|rfl|simp[pa,pc,qY,QW,Wo,JN,Ju]) rfl;have NM:=Zu hb e.name (by unfold BIG at *;omega);unfold BIG at *;have c1:((e.vals.length:Int)<1)=(e.vals.length<1):=by rw[eq_iff_iff];omega
 have c2:((32:Int)<(e.vals.length:Int))=(32<e.vals.length):=by rw[eq_iff_iff];omega
 refine jE x54 (by rfl) (hb.pur 56 1 (by decide)) ?_;simp only[y54,jt,Qai,Qaj,Qag,Qah];rw[(by unfold z54;simp only[qq];rfl:z54=_)]
 (have zz:=@Qal.{0};(repeat'(first|(apply jc<;>intro _)|simp(disch:=first|exact zu|fail) only[NM,c1,c2,Qal,je,ji,jW,jh,jd,rzZ,Qab,Qac,Qad,Qaa,Qae]));(all_goals(clear zz)))
 ·rename_i h;exact G0.tup2 (by rw[Qy,if_neg (by rintro ⟨h6,_⟩;rw[h] at h6;cases h6)];rfl)
 ·exact G0.tup2 (by rw[Qy,if_neg (by omega)];rfl)
 ·exact G0.tup2 (by rw[Qy,if_neg (by omega)];rfl)
 have hn:nm e.name=true:=by simp_all
 have hnl:=QD hn;have l1:1<=e.vals.length:=by omega
 have l2:e.vals.length<=32:=by omega
 refine qb e.vals.length (λk L s=>(e.vals.take k).all nm=true/\Has L 4 (.str ([101,110,117,109,32] ++ e.name ++ [32,123,32] ++ JK (e.vals.take k)))/\Has L 28 (.lst e.vals.length (e.vals.map AV.str))) (by first|assumption|omega) (by decide) (by simp(disch:=decide) only[jf,jb]) (by simp(disch:=decide) only[jf,jb]) ?_ (λk L s v h=>by simp(disch:=decide) only[jb];exact h) (λk L s v h=>by simp(disch:=decide) only[jb];exact h) (λk L s hk hI hi hn=>?_) (λL s hI=>?_)
 ·refine⟨rfl,?_⟩;rw[Qbd,JK,Qbk];simp(disch:=decide) only[Qam,Qaq,z0,z1,jf,jb,and_true,true_and,QaY,Qay,QaF]
 ·obtain⟨h0,i4,i28⟩:=hI;have N2:=Zu hb e.vals[k] (by have:=h3 _ (Qat hk);omega);have hs:=KW (e.vals.take k) e.vals[k];rw[<-yE hk] at hs;have hjl:(JK (e.vals.take k)).length<=32 * 34:=by
   have:=YA (n:=32) (xs:=e.vals.take k) λx hx=>QD (QaA.1 h0 x hx);have h7:(e.vals.take k).length<=32:=by rw[QaH];omega
   have:=QaM 34 h7;omega
  have hvl:=h3 _ (Qat hk);have tl:(e.vals.take k).length=k:=by rw[QaH];omega
  rw[tl] at hs;have c3:((0:Int)<(k:Int))=(0<k):=by rw[eq_iff_iff];omega
  (have zz:=@Qal.{0};(repeat'(first|(apply jc<;>intro _)|simp(disch:=first|exact zu|fail) only[ja i4,ja i28,ja hi,ja hn,jgk,N2,c3,Qal,je,ji,jW,jh,jd,rzZ,Qab,Qac,Qad,Qaa,Qae]));(all_goals(clear zz)))
  ·rename_i h;exact G0.tup2 (by rw[Qy,if_neg (by rintro ⟨_,_,_,h6⟩;rw[jcJ hk h] at h6;cases h6)];rfl)
  ·rename_i h h8;refine⟨⟨by rw[jfZ hk,h0];simp_all,?_⟩,?_⟩
   ·rw[hs,if_neg (by omega)];simp(disch:=decide) only[Qam,Qaq,z0,z1,jf,jb,and_true,true_and,i28,QaY,Qay,QaF]
   ·simp(disch:=decide) only[Qam,Qaq,z0,z1,jf,jb,and_true,true_and,hi,hn]
  ·rename_i h h8;refine⟨⟨by rw[jfZ hk,h0];simp_all,?_⟩,?_⟩
   ·rw[hs,if_pos (by omega)];simp(disch:=decide) only[Qam,Qaq,z0,z1,jf,jb,and_true,true_and,i28,QaY,Qay,QaF]
   ·simp(disch:=decide) only[Qam,Qaq,z0,z1,jf,jb,and_true,true_and,hi,hn]
 ·obtain⟨h0,i4,i28⟩:=hI;rw[Qaz] at h0 i4;have hjl:(JK e.vals).length<=32 * 34:=by
   have:=YA (n:=32) (xs:=e.vals) λx hx=>QD (QaA.1 h0 x hx);have:=QaM 34 l2;omega
  (have zz:=@Qal.{0};(repeat'(first|(apply jc<;>intro _)|simp(disch:=first|exact zu|fail) only[ja i4,ja i28,Qal,je,ji,jW,jh,jd,rzZ,Qab,Qac,Qad,Qaa,Qae]));(all_goals(clear zz)))
  exact G0.tup2 (by rw[Qy,if_pos ⟨hn,l1,l2,h0⟩];rfl)
end Go.Sy
end
noncomputable section
set_option maxRecDepth 100000
namespace Go.Sy
open Go.Ev Go.Proofs
variable {base:Bs}
def ZP (n:Int):Bool:=decide (-1000000<=n) && decide (n<=1000000)
def Qm (d:DeclT):Option (List Nat):=
 if d.ty=[] then(if ZP d.lo=true/\ZP d.hi=true then some (Z5 d.lo ++ [46,46] ++ Z5 d.hi) else none)
 else if d.lo=0/\d.hi=0/\(d.ty=[98,111,111,108]\/nm d.ty=true) then some d.ty else none
def Zt (xs:List Ex):List Nat:=xs.flatMap λx=>[32,61,32] ++ zk x
def JY (d:DeclT):Option (List Nat):=match Qm d with
 |none=>none
 |some t=>if d.begins.length<=1/\nm d.name=true/\d.begins.all zZ=true then some ([118,97,114,32] ++ d.name ++ [32,58,32] ++ t ++ Zt d.begins ++ [59,10]) else none
theorem Gu {d:DeclT}(h:Qm d=none):JY d=none:=by unfold JY;rw[h]
theorem jd8 {d:DeclT}{t:List Nat}(h:Qm d=some t):JY d=if d.begins.length<=1/\nm d.name=true/\d.begins.all zZ=true then some ([118,97,114,32] ++ d.name ++ [32,58,32] ++ t ++ Zt d.begins ++ [59,10]) else none:=by unfold JY;rw[h]
theorem zR {x:Ex}(h:zZ x=true):JI x=true:=by
 unfold zZ at h;rw[XQ] at h;simp only[Qar] at h;exact h.1.2
theorem jp6 {xs:List Ex}(h:0<xs.length){st:St}{K:AV->St->Prop}:jl (zg 6 (.lptr (fl eE xs) 0) st) K=K (.agg (eE xs[0])) st:=by
 have:=jci (st:=st) (K:=K) h;rw[Qbp] at this;exact this
set_option maxHeartbeats 1000000 in
theorem Hx (hb:NB base)(d:DeclT)(t:List Nat)(hw:Qm d=some t)(ht:t.length<=BIG)(h1:d.name.length<=BIG)(h2:∀ x∈d.begins,szE x<=BIG){L:Sl}{s:St}(i1:Has L 1 (.ptr 0 0))(i4:Has L 4 (.str ([118,97,114,32] ++ d.name ++ [32,58,32] ++ t)))(n0:1<=s.nx)(C0:Cl s 0 (qh d)) :
  xC Qaf base jev L s (Xa Qaf y55.res (Xz G0 (.ok (gJ (JY d))))) λv _ s=>Xq G0 (.ok (gJ (JY d))) v s.bare:=by
 have NM:=Zu hb d.name (by unfold BIG at *;omega);have c2:((1:Int)<(d.begins.length:Int))=(1<d.begins.length):=by rw[eq_iff_iff];omega
 have hd:=jd8 hw;unfold BIG at *;unfold y55;rw[(by unfold jev;simp only[qq];rfl:jev=_)]
 (have zz:=C0.r;(repeat'(first|(apply jc<;>intro _)|simp(disch:=first|exact zu|fail) only[ja i1,ja i4,NM,c2,C0.q,C0.r,je,ji,jW,jh,jd,rzZ,Qab,Qac,Qad,Qaa,Qae]));(all_goals(clear zz)))
 ·exact G0.tup2 (by rw[hd,if_neg (by omega)];rfl)
 ·rename_i h8 h;exact G0.tup2 (by rw[hd,if_neg (by rintro ⟨_,h6,_⟩;rw[h] at h6;cases h6)];rfl)
 have hn:nm d.name=true:=by simp_all
 have l1:d.begins.length<=1:=by omega
 have hnl:=QD hn;refine qb d.begins.length (λk L s=>(d.begins.take k).all zZ=true/\Has L 1 (.ptr 0 0)/\Has L 4 (.str ([118,97,114,32] ++ d.name ++ [32,58,32] ++ t ++ Zt (d.begins.take k)))/\Has L 68 (.lst d.begins.length (fl eE d.begins))/\1<=s.nx) (by first|assumption|omega) (by decide) (by simp(disch:=decide) only[jf,jb]) (by simp(disch:=decide) only[jf,jb]) ?_ (λk L s v h=>by simp(disch:=decide) only[jb];exact h) (λk L s v h=>by simp(disch:=decide) only[jb];exact h) (λk L s hk hI hi hn=>?_) (λL s hI=>?_)
 ·refine⟨rfl,?_⟩;rw[Qbd,show Zt []=[] from rfl,Qbk];simp(disch:=decide) only[Qam,Qaq,z0,z1,jf,jb,and_true,true_and,i1,i4];exact n0
 ·obtain⟨h0,i1,i4,i68,n0⟩:=hI;have hk0:k=0:=by omega
  subst hk0;have hi:Has L 70 (.int .i64 0):=hi;have hx:=h2 _ (Qat hk);have WR:=WZ hb d.begins[0] hx;have TX:=λ(h:zZ d.begins[0]=true)=>jcO hb d.begins[0] hx (zR h);have TL:=λ(h:zZ d.begins[0]=true)=>Jq d.begins[0] (zR h);have hs:d.begins.take (0+1)=[d.begins[0]]:=yE hk;rw[Qbd,show Zt []=[] from rfl,Qbk] at i4;by_cases hwr:zZ d.begins[0]=true
  ·have TX:=TX hwr;have TL:=TL hwr;rw[hwr] at WR
   (have zz:=@Qal.{0};(repeat'(first|(apply jc<;>intro _)|simp(disch:=first|exact zu|fail) only[ja i1,ja i4,ja i68,ja hi,ja hn,jp6 hk,WR,TX,Qal,je,ji,jW,jh,jd,rzZ,Qab,Qac,Qad,Qaa,Qae]));(all_goals(clear zz)))
   refine⟨⟨by rw[hs];simp[hwr],?_⟩,?_⟩
   ·rw[hs,show Zt [d.begins[0]]=[32,61,32] ++ zk d.begins[0] from by simp[Zt]];simp(disch:=decide) only[Qam,Qaq,z0,z1,jf,jb,and_true,true_and,i1,i68,QaY,Qay,QaF]
    (first|omega|(simp only[jg,jj,ju,jr,jk];first|done|omega))
   ·simp(disch:=decide) only[Qam,Qaq,z0,z1,jf,jb,and_true,true_and,hi,hn]
  ·have hf:zZ d.begins[0]=false:=by simpa using hwr
   rw[hf] at WR
   (have zz:=@Qal.{0};(repeat'(first|(apply jc<;>intro _)|simp(disch:=first|exact zu|fail) only[ja i1,ja i4,ja i68,ja hi,ja hn,jp6 hk,WR,Qal,je,ji,jW,jh,jd,rzZ,Qab,Qac,Qad,Qaa,Qae]));(all_goals(clear zz)))
   exact G0.tup2 (by rw[hd,if_neg (by rintro ⟨_,_,h6⟩;rw[jcJ hk hf] at h6;cases h6)];rfl)
 ·obtain⟨h0,i1,i4,i68,n0⟩:=hI;rw[Qaz] at h0 i4;have bl:(Zt d.begins).length<=16 * 1099511627776+3:=by
   match hx:d.begins with
   |[]=>simp[Zt]
   |[x]=>
    rw[hx] at h0 h2;have:=Jq x (zR (by simpa using h0));have:=h2 x (by simp);simp[Zt];omega
   |x :: y :: r=>rw[hx] at l1;simp at l1
  (have zz:=@Qal.{0};(repeat'(first|(apply jc<;>intro _)|simp(disch:=first|exact zu|fail) only[ja i1,ja i4,Qal,je,ji,jW,jh,jd,rzZ,Qab,Qac,Qad,Qaa,Qae]));(all_goals(clear zz)))
  exact G0.tup2 (by rw[hd,if_pos ⟨l1,hn,h0⟩];simp only[jgL,QaY,Qay,QaF])
set_option maxHeartbeats 1000000 in
theorem jnX (hb:NB base)(d:DeclT)(h1:d.name.length<=BIG)(h3:d.ty.length<=BIG)(h2:∀ x∈d.begins,szE x<=BIG):Tot base 57 [.agg (qh d)] (gJ (JY d)):=by
 refine hb.tot ?_ (by first|rfl|simp[pa,pc,qY,QW,Wo,JN,Ju]) rfl;have NT:=Zu hb d.ty (by unfold BIG at *;omega);have S1:Tot base 76 [.int .i64 d.lo] (.bool (ZP d.lo)):=jdo hb d.lo;have S2:Tot base 76 [.int .i64 d.hi] (.bool (ZP d.hi)):=jdo hb d.hi;unfold BIG at *;by_cases ht:d.ty=[]
 ·by_cases hs:ZP d.lo=true/\ZP d.hi=true
  ·have e1:=hs.1;have e2:=hs.2;unfold ZP at e1 e2;simp only[Qar,decide_eq_true_eq] at e1 e2;have D1:=jf4 hb d.lo (by omega) (by omega);have D2:=jf4 hb d.hi (by omega) (by omega);have l1:=vD e1.1 e1.2;have l2:=vD e2.1 e2.2;have hw:Qm d=some (Z5 d.lo ++ [46,46] ++ Z5 d.hi):=by rw[Qm,if_pos ht,if_pos hs]
   rw[hs.1] at S1;rw[hs.2] at S2;refine jE x55 (by rfl) (hb.pur 57 1 (by decide)) ?_;simp only[y55,jt,Qai,Qaj,Qag,Qah];rw[(by unfold z55;simp only[qq];rfl:z55=_)]
   (have zz:=aI @Qal.{0} @yO;(repeat'(first|(apply jc<;>intro _)|simp(disch:=first|exact zu|fail) only[ht,S1,S2,D1,D2,sm2,Qal,yO,je,ji,jW,jh,jd,rzZ,Qab,Qac,Qad,Qaa,Qae]));(all_goals(clear zz)))
   refine Hx hb d _ hw (by simp[BIG];omega) (by unfold BIG;omega) (by unfold BIG;exact h2) ?_ ?_ ?_ ?_
   ·simp(disch:=decide) only[Qam,Qaq,z0,z1,jf,jb,and_true,true_and]
   ·simp(disch:=decide) only[Qam,Qaq,z0,z1,jf,jb,and_true,true_and,QaY,Qay,QaF]
   ·(first|omega|(simp only[jg,jj,ju,jr,jk];first|done|omega))
   ·first|exact Cl.new _ _|(first|exact cyE|fail)
  ·have hw:Qm d=none:=by rw[Qm,if_pos ht,if_neg hs]
   refine jE x55 (by rfl) (hb.pur 57 1 (by decide)) ?_;simp only[y55,jt,Qai,Qaj,Qag,Qah];rw[(by unfold z55;simp only[qq];rfl:z55=_)]
   (have zz:=@Qal.{0};(repeat'(first|(apply jc<;>intro _)|simp(disch:=first|exact zu|fail) only[ht,S1,S2,Qal,je,ji,jW,jh,jd,rzZ,Qab,Qac,Qad,Qaa,Qae]));(all_goals(clear zz)))
   all_goals first|(exact G0.tup2 (by rw[Gu hw];rfl))|(exfalso;simp_all;done)
 ·by_cases hs:d.lo=0/\d.hi=0/\(d.ty=[98,111,111,108]\/nm d.ty=true)
  ·have hw:Qm d=some d.ty:=by rw[Qm,if_neg ht,if_pos hs]
   obtain⟨e1,e2,e3⟩:=hs;refine jE x55 (by rfl) (hb.pur 57 1 (by decide)) ?_;simp only[y55,jt,Qai,Qaj,Qag,Qah];rw[(by unfold z55;simp only[qq];rfl:z55=_)]
   (have zz:=@Qal.{0};(repeat'(first|(apply jc<;>intro _)|simp(disch:=first|exact zu|fail) only[ht,e1,e2,NT,Qal,je,ji,jW,jh,jd,rzZ,Qab,Qac,Qad,Qaa,Qae]));(all_goals(clear zz)))
   all_goals first
    |(exfalso;simp_all;done)
    |(
     refine Hx hb d _ hw (by unfold BIG;omega) (by unfold BIG;omega) (by unfold BIG;exact h2) ?_ ?_ ?_ ?_
     ·simp(disch:=decide) only[Qam,Qaq,z0,z1,jf,jb,and_true,true_and]
     ·simp(disch:=decide) only[Qam,Qaq,z0,z1,jf,jb,and_true,true_and,QaY,Qay,QaF]
     ·(first|omega|(simp only[jg,jj,ju,jr,jk];first|done|omega))
     ·first|exact Cl.new _ _|(first|exact cyE|fail))
  ·have hw:Qm d=none:=by rw[Qm,if_neg ht,if_neg hs]
   refine jE x55 (by rfl) (hb.pur 57 1 (by decide)) ?_;simp only[y55,jt,Qai,Qaj,Qag,Qah];rw[(by unfold z55;simp only[qq];rfl:z55=_)]
   (have zz:=@Qal.{0};(repeat'(first|(apply jc<;>intro _)|simp(disch:=first|exact zu|fail) only[ht,NT,Qal,je,ji,jW,jh,jd,rzZ,Qab,Qac,Qad,Qaa,Qae]));(all_goals(clear zz)))
   all_goals first|(exact G0.tup2 (by rw[Gu hw];rfl))|(exfalso;simp_all;done)
end Go.Sy
end
noncomputable section
set_option maxRecDepth 100000
namespace Go.Sy
open Go.Ev Go.Proofs
variable {base:Bs}
theorem jlL {b o:Nat}{cs:List AV}{h:T AO}(ho:o+6<=qt h b)(hv:rats h b o 6=cs)(hc:cs.all eqs=true):(jX Qaf 29 (.ptr b o) (.agg cs) h=true)=True:=eq_true (YR HU HT (by decide) ho hv hc)
theorem jbt {s:St}{cs:List AV}{b o k:Nat}(hb:b=s.nx)(h:o+k<=cs.length):rats (nw s cs).h b o k=(cs.drop o).take k:=by
 subst hb;exact(Cl.new s cs).ratsP k o h
theorem Jf {s:St}{vs:List AV}{b o o' k:Nat}(h1:o'<=o)(h:o+k<=o'+vs.length):rats (wr s b o' vs).h b o k=(vs.drop (o - o')).take k:=by
 refine Zl (by simp;omega) λi hi=>?_;rw[UO (by omega) (by omega),Qax,Qax,QbT,if_pos hi,Qch,show o - o'+i=o+i - o' by omega]
def Xd (a:AsT):List Nat:=a.name ++ [32,58,61,32] ++ zk a.to
def V8 (a:AsT):Bool:=nm a.name && zZ a.to
def JW (r:RuleT):Option (List Nat):=if zZ r.when=true/\1<=r.acts.length/\r.acts.length<=32/\r.acts.all V8=true then some ([32,32,119,104,101,110,32] ++ zk r.when ++ [32,100,111,32] ++ JK (r.acts.map Xd) ++ [59,10]) else none
def WL:Nat:=17592186044516
theorem kN {a:AsT}(h:V8 a=true)(h2:szE a.to<=BIG):(Xd a).length<=WL:=by
 unfold V8 at h;simp only[Qar] at h;have:=QD h.1;have:=Jq a.to (zR h.2);unfold BIG at h2;unfold WL Xd;simp only[Qal,Qak,Qan];omega
theorem VD:∀ (a b:Int) (nm:List Nat) (n:Nat) (cs:List AV) (l c:Int),([.int .i64 a,.int .i64 b,.str nm,.lst n cs,.int .i64 l,.int .i64 c]:List AV).all eqs=true:=λ_ _ _ _ _ _ _=>nr rfl
set_option maxHeartbeats 2000000 in
theorem jnP (hb:NB base)(r:RuleT)(h1:szE r.when<=BIG)(h2:r.acts.length<=BIG)(h3:∀ a∈r.acts,szE a.to<=BIG/\a.name.length<=BIG):Tot base 59 [.agg (ruE r)] (gJ (JW r)):=by
 refine hb.tot ?_ (by first|rfl|simp[pa,pc,qY,QW,Wo,JN,Ju]) rfl;have c1:((r.acts.length:Int)<1)=(r.acts.length<1):=by rw[eq_iff_iff];omega
 have c2:((32:Int)<(r.acts.length:Int))=(32<r.acts.length):=by rw[eq_iff_iff];omega
 have WR:=WZ hb r.when h1;by_cases hw:zZ r.when=true
 ·have TX:=jcO hb r.when h1 (zR hw);have TL:=Jq r.when (zR hw);rw[qG] at WR TX;rw[hw] at WR;unfold BIG at h1 h2;refine jE x57 (by rfl) (hb.pur 59 1 (by decide)) ?_;simp only[y57,jt,Qai,Qaj,Qag,Qah];rw[(by unfold z57;simp only[qq];rfl:z57=_)]
  (have zz:=@Qal.{0};(repeat'(first|(apply jc<;>intro _)|simp(disch:=first|exact zu|fail) only[WR,TX,c1,c2,jbt,Qal,je,ji,jW,jh,jd,rzZ,Qab,Qac,Qad,Qaa,Qae]));(all_goals(clear zz)))
  ·exact G0.tup2 (by rw[JW,if_neg (by omega)];rfl)
  ·exact G0.tup2 (by rw[JW,if_neg (by omega)];rfl)
  have l1:1<=r.acts.length:=by omega
  have l2:r.acts.length<=32:=by omega
  refine qb r.acts.length (λk L s=>(r.acts.take k).all V8=true/\Has L 4 (.str ([32,32,119,104,101,110,32] ++ zk r.when ++ [32,100,111,32] ++ JK ((r.acts.take k).map Xd)))/\Has L 29 (.lst r.acts.length (fl asE r.acts))/\1<=s.nx) (by first|assumption|omega) (by decide) (by simp(disch:=decide) only[jf,jb]) (by simp(disch:=decide) only[jf,jb]) ?_ (λk L s v h=>by simp(disch:=decide) only[jb];exact h) (λk L s v h=>by simp(disch:=decide) only[jb];exact h) (λk L s hk hI hi hn=>?_) (λL s hI=>?_)
  ·refine⟨rfl,?_⟩;rw[Qbd,Qaj,JK,Qbk];simp(disch:=decide) only[Qam,Qaq,z0,z1,jf,jb,and_true,true_and,QaY,Qay,QaF]
   (first|omega|(simp only[jg,jj,ju,jr,jk];first|done|omega))
  ·obtain⟨h0,i4,i29,n0⟩:=hI;have hx:=h3 _ (Qat hk);have hin:r.acts[k]∈r.acts:=Qat hk;have hact:∀ a∈r.acts.take k,(Xd a).length<=WL:=λa ha=>kN (QaA.1 h0 a ha) (h3 a (QbM ha)).1;have hbad:V8 r.acts[k]=false->JW r=none:=λh=>by rw[JW,if_neg (by rintro ⟨_,_,_,h6⟩;rw[jcJ hk h] at h6;cases h6)]
   have hgood:V8 r.acts[k]=true->(r.acts.take (k+1)).all V8=true:=λh=>by rw[jfZ hk,h0,h];rfl
   have hs:=KW ((r.acts.take k).map Xd) (Xd r.acts[k]);have e9:(r.acts.take k).map Xd ++ [Xd r.acts[k]]=(r.acts.take (k+1)).map Xd:=by rw[yE hk,QbV];rfl
   rw[e9] at hs;have tl:((r.acts.take k).map Xd).length=k:=by rw[QaP,QaH];omega
   rw[tl] at hs;have hjl:(JK ((r.acts.take k).map Xd)).length<=32 * (WL+2):=by
    have:=YA (n:=WL) (xs:=(r.acts.take k).map Xd) λx hx=>by
     obtain⟨a,ha,rfl⟩:=Qbo.1 hx;exact hact a ha
    rw[tl] at this;have:=QaM (WL+2) (show k<=32 by omega);omega
   clear hact e9 tl;have N2:=Zu hb r.acts[k].name (by have:=hx.2;unfold BIG at this;omega);have W2:=WZ hb r.acts[k].to hx.1;have T2:=λ(h:zZ r.acts[k].to=true)=>jcO hb r.acts[k].to hx.1 (zR h);have T3:=λ(h:zZ r.acts[k].to=true)=>Jq r.acts[k].to (zR h);have hdef:V8 r.acts[k]=(nm r.acts[k].name && zZ r.acts[k].to):=rfl;have hdw:Xd r.acts[k]=r.acts[k].name ++ [32,58,61,32] ++ zk r.acts[k].to:=rfl;have c3:((0:Int)<(k:Int))=(0<k):=by rw[eq_iff_iff];omega
   obtain⟨hx1,hx2⟩:=hx;unfold BIG WL at *;obtain⟨a,ha⟩:∃ a,a=r.acts[k]:=⟨_,rfl⟩;rw[<-ha] at hx1 hx2 hbad hgood hs N2 W2 T2 T3 hdef hdw;by_cases hnm:nm a.name=true
   ·have hnl:=QD hnm;rw[hnm] at N2;by_cases hwb:zZ a.to=true
    ·have T2:=T2 hwb;have T3:=T3 hwb;rw[qG] at W2 T2;rw[hwb] at W2;have hg:=hgood (by rw[hdef,hnm,hwb];rfl);rw[hdw] at hs;by_cases hk0:k=0
     ·rw[if_pos hk0] at hs;have hk1:¬ 0<k:=by omega
      (have zz:=aI @Jf (aI @Qal.{0} (aI @yN @VD));(repeat'(first|(apply jc<;>intro _)|simp(disch:=first|exact zu|fail) only[ja i4,ja i29,ja hi,ja hn,N2,W2,T2,c3,hk1,<-ha,Jf,sm9,jlL,Jf,Qal,yN,VD,je,ji,jW,jh,jd,rzZ,Qab,Qac,Qad,Qaa,Qae]));(all_goals(clear zz)))
      refine⟨⟨hg,?_⟩,?_⟩
      ·rw[hs];simp(disch:=decide) only[Qam,Qaq,z0,z1,jf,jb,and_true,true_and,i29,QaY,Qay,QaF]
       (first|omega|(simp only[jg,jj,ju,jr,jk];first|done|omega))
      ·simp(disch:=decide) only[Qam,Qaq,z0,z1,jf,jb,and_true,true_and,hi,hn]
     ·rw[if_neg hk0] at hs;have hk1:0<k:=by omega
      (have zz:=aI @Jf (aI @Qal.{0} (aI @yN @VD));(repeat'(first|(apply jc<;>intro _)|simp(disch:=first|exact zu|fail) only[ja i4,ja i29,ja hi,ja hn,N2,W2,T2,c3,hk1,<-ha,Jf,sm9,jlL,Jf,Qal,yN,VD,je,ji,jW,jh,jd,rzZ,Qab,Qac,Qad,Qaa,Qae]));(all_goals(clear zz)))
      refine⟨⟨hg,?_⟩,?_⟩
      ·rw[hs];simp(disch:=decide) only[Qam,Qaq,z0,z1,jf,jb,and_true,true_and,i29,QaY,Qay,QaF]
       (first|omega|(simp only[jg,jj,ju,jr,jk];first|done|omega))
      ·simp(disch:=decide) only[Qam,Qaq,z0,z1,jf,jb,and_true,true_and,hi,hn]
    ·have hwf:zZ a.to=false:=by simpa using hwb
     rw[qG] at W2;rw[hwf] at W2;have hb9:=hbad (by rw[hdef,hwf];simp)
     (have zz:=aI @Jf (aI @Qal.{0} (aI @yN @VD));(repeat'(first|(apply jc<;>intro _)|simp(disch:=first|exact zu|fail) only[ja i4,ja i29,ja hi,ja hn,N2,W2,<-ha,Jf,Jf,Qal,yN,VD,je,ji,jW,jh,jd,rzZ,Qab,Qac,Qad,Qaa,Qae]));(all_goals(clear zz)))
     exact G0.tup2 (by rw[hb9];rfl)
   ·have hnf:nm a.name=false:=by simpa using hnm
    rw[hnf] at N2;have hb9:=hbad (by rw[hdef,hnf];rfl)
    (have zz:=aI @Jf (aI @Qal.{0} (aI @yN @VD));(repeat'(first|(apply jc<;>intro _)|simp(disch:=first|exact zu|fail) only[ja i4,ja i29,ja hi,ja hn,N2,<-ha,Jf,Jf,Qal,yN,VD,je,ji,jW,jh,jd,rzZ,Qab,Qac,Qad,Qaa,Qae]));(all_goals(clear zz)))
    exact G0.tup2 (by rw[hb9];rfl)
  ·obtain⟨h0,i4,i29,n0⟩:=hI;rw[Qaz] at h0 i4;have hjl:(JK (r.acts.map Xd)).length<=32 * (WL+2):=by
    have:=YA (n:=WL) (xs:=r.acts.map Xd) λx hx=>by
     obtain⟨a,ha,rfl⟩:=Qbo.1 hx;exact kN (QaA.1 h0 a ha) (h3 a ha).1
    rw[QaP] at this;have:=QaM (WL+2) l2;omega
   unfold WL at hjl
   (have zz:=@Qal.{0};(repeat'(first|(apply jc<;>intro _)|simp(disch:=first|exact zu|fail) only[ja i4,ja i29,Qal,je,ji,jW,jh,jd,rzZ,Qab,Qac,Qad,Qaa,Qae]));(all_goals(clear zz)))
   exact G0.tup2 (by rw[JW,if_pos ⟨hw,l1,l2,h0⟩];simp only[jgL,QaY,Qay,QaF])
 ·have hf:zZ r.when=false:=by simpa using hw
  rw[hf] at WR;rw[qG] at WR;refine jE x57 (by rfl) (hb.pur 59 1 (by decide)) ?_;simp only[y57,jt,Qai,Qaj,Qag,Qah];rw[(by unfold z57;simp only[qq];rfl:z57=_)]
  (have zz:=@Qal.{0};(repeat'(first|(apply jc<;>intro _)|simp(disch:=first|exact zu|fail) only[WR,jbt,Qal,je,ji,jW,jh,jd,rzZ,Qab,Qac,Qad,Qaa,Qae]));(all_goals(clear zz)))
  exact G0.tup2 (by rw[JW,if_neg (by rintro ⟨h6,_⟩;exact hw h6)];rfl)
end Go.Sy
end
noncomputable section
set_option maxRecDepth 100000
namespace Go.Sy
open Go.Ev Go.Proofs
variable {base:Bs}
def yD:List (Option (List Nat))->Option (List Nat)
 |[]=>some []
 |none :: _=>none
 |some a :: r=>(yD r).map (a ++ ·)
theorem jis:∀ {xs:List (Option (List Nat))} {a b:List Nat},yD xs=some a->yD (xs ++ [some b])=some (a ++ b)
 |[],a,b,h=>by simp[yD] at h;subst h;simp[yD]
 |none :: r,a,b,h=>by simp[yD] at h
 |some c :: r,a,b,h=>by
  rw[yD] at h;cases hr:yD r with
  |none=>rw[hr] at h;simp at h
  |some d=>
   rw[hr] at h;simp at h;subst h;rw[Qay,yD,jis hr];simp
theorem jit:∀ {xs:List (Option (List Nat))},none∈xs->yD xs=none
 |[],h=>by simp at h
 |none :: r,_=>rfl
 |some c :: r,h=>by
  rw[yD,jit (by simpa using h)];rfl
theorem QA {n:Nat}:∀ {xs:List (Option (List Nat))} {a:List Nat},(∀ l,some l∈xs->l.length<=n)->yD xs=some a->a.length<=xs.length * n
 |[],a,_,h=>by simp[yD] at h;subst h;simp
 |none :: r,a,_,h=>by simp[yD] at h
 |some c :: r,a,hl,h=>by
  rw[yD] at h;cases hr:yD r with
  |none=>rw[hr] at h;simp at h
  |some d=>
   rw[hr] at h;simp at h;subst h;have:=QA (xs:=r) (λl h=>hl l (by simp[h])) hr;have:=hl c (by simp);rw[Qal,show(some c :: r).length=r.length+1 from rfl,Qbw];omega
theorem ul {α:Type}{f:α->Option (List Nat)}{xs:List α}{k:Nat}(h:k<xs.length){a b:List Nat}(h1:yD ((xs.take k).map f)=some a)(h2:f xs[k]=some b):yD ((xs.take (k+1)).map f)=some (a ++ b):=by
 rw[yE h,QbV,Qai,Qaj,h2];exact jis h1
theorem WT {α:Type}{f:α->Option (List Nat)}{xs:List α}{k:Nat}(h:k<xs.length)(h2:f xs[k]=none):yD (xs.map f)=none:=jit (by rw[<-h2];exact List.mem_map_of_mem (Qat h))
theorem VJ {e:EnumT}{l:List Nat}(h:Qy e=some l):l.length<=2000:=by
 unfold Qy at h;split at h
 ·rename_i hh;simp only[Option.some.injEq] at h;subst h;have:=QD hh.1;have:=YA (n:=32) (xs:=e.vals) λx hx=>QD (QaA.1 hh.2.2.2 x hx);have:=QaM 34 hh.2.2.1;simp only[Qal,Qak,Qan];omega
 ·cases h
theorem jgJ {d:DeclT}{t:List Nat}(h:Qm d=some t):t.length<=32:=by
 unfold Qm at h;split at h
 ·split at h
  ·rename_i hh;simp only[Option.some.injEq] at h;subst h;obtain⟨e1,e2⟩:=hh;unfold ZP at e1 e2;simp only[Qar,decide_eq_true_eq] at e1 e2;have l1:=vD e1.1 e1.2;have l2:=vD e2.1 e2.2;simp only[Qal,Qak,Qan];omega
  ·cases h
 ·split at h
  ·rename_i hh;simp only[Option.some.injEq] at h;subst h;rcases hh.2.2 with h|h
   ·rw[h];decide
   ·exact QD h
  ·cases h
theorem VO {d:DeclT}{l:List Nat}(h:JY d=some l)(h2:∀ x∈d.begins,szE x<=BIG):l.length<=WL:=by
 cases ht:Qm d with
 |none=>rw[Gu ht] at h;cases h
 |some t=>
  rw[jd8 ht] at h;have tl:=jgJ ht;split at h
  ·rename_i hh;simp only[Option.some.injEq] at h;subst h;have:=QD hh.2.1;have bl:(Zt d.begins).length<=16 * BIG+3:=by
    match hx:d.begins with
    |[]=>simp[Zt]
    |[x]=>
     rw[hx] at hh h2;have:=Jq x (zR (by simpa using hh.2.2));have:=h2 x (by simp);simp[Zt];omega
    |x :: y :: r=>rw[hx] at hh;simp at hh
   unfold BIG at bl;unfold WL;simp only[Qal,Qak,Qan];omega
  ·cases h
structure WrR (r:RuleT):Prop where
 when:szE r.when<=BIG
 acts:r.acts.length<=BIG
 to:∀ a∈r.acts,szE a.to<=BIG/\a.name.length<=BIG
structure WrS (m:SrcT):Prop where
 enums:m.enums.length<=BIG
 en:∀ e∈m.enums,e.name.length<=BIG/\e.vals.length<=BIG/\∀ v∈e.vals,v.length<=BIG
 vars:m.vars.length<=BIG
 de:∀ d∈m.vars,d.name.length<=BIG/\d.ty.length<=BIG/\d.begins.length<=BIG/\∀ x∈d.begins,szE x<=BIG
 procs:m.procs.length<=BIG
 pr:∀ p∈m.procs,p.name.length<=BIG/\p.rules.length<=BIG/\∀ r∈p.rules,WrR r
def RL:Nat:=33 * (WL+2)
theorem vP {r:RuleT}{l:List Nat}(h:JW r=some l)(w:WrR r):l.length<=RL:=by
 unfold JW at h;split at h
 ·rename_i hh;simp only[Option.some.injEq] at h;subst h;have h1:=Jq r.when (zR hh.1);have h2:=w.when;have:=YA (n:=WL) (xs:=r.acts.map Xd) λx hx=>by
   obtain⟨a,ha,rfl⟩:=Qbo.1 hx;exact kN (QaA.1 hh.2.2.2 a ha) (w.to a ha).1
  rw[QaP] at this;have:=QaM (WL+2) hh.2.2.1;unfold RL;unfold BIG at h2;unfold WL at *;simp only[Qal,Qak,Qan];omega
 ·cases h
def QQ (p:ProcT):Option (List Nat):=if nm p.name=true/\p.rules.length<=32 then(match yD (p.rules.map JW) with|some t=>some ([112,114,111,99,101,115,115,32] ++ p.name ++ [32,123,10] ++ t ++ [125,10])|none=>none) else none
def PRL:Nat:=33 * RL
theorem jhg {p:ProcT}{l:List Nat}(h:QQ p=some l)(w:∀ r∈p.rules,WrR r):l.length<=PRL:=by
 unfold QQ at h;split at h
 ·rename_i hh;cases hc:yD (p.rules.map JW) with
  |none=>rw[hc] at h;cases h
  |some t=>
   rw[hc] at h;simp only[Option.some.injEq] at h;subst h;have:=QD hh.1;have h3:=QA (n:=RL) (λl hl=>by
    obtain⟨r,hr,he⟩:=Qbo.1 hl;exact vP he (w r hr)) hc
   rw[QaP] at h3;have:=QaM RL hh.2;unfold PRL;have:1000<=RL:=by unfold RL WL;omega
   simp only[Qal,Qak,Qan];omega
 ·cases h
def Qo (m:SrcT):Option (List Nat):=
 if m.enums.length<=32/\m.vars.length<=32/\m.procs.length<=32 then(match yD (m.enums.map Qy),yD (m.vars.map JY),yD (m.procs.map QQ) with
  |some a,some b,some c=>some (a ++ b ++ c)
  |_,_,_=>none) else none
theorem jpx {m:SrcT}(h:yD (m.enums.map Qy)=none):Qo m=none:=by unfold Qo;rw[h];split<;>rfl
theorem jpu {m:SrcT}(h:yD (m.vars.map JY)=none):Qo m=none:=by unfold Qo;rw[h];split<;>(try split)<;>first|rfl|(rename_i h2 _ _ _;simp at *)
theorem jpv {m:SrcT}(h:yD (m.procs.map QQ)=none):Qo m=none:=by unfold Qo;rw[h];split<;>(try split)<;>first|rfl|(simp at *)
theorem jpw {m:SrcT}{a b c:List Nat}(h0:m.enums.length<=32/\m.vars.length<=32/\m.procs.length<=32)(h1:yD (m.enums.map Qy)=some a)(h2:yD (m.vars.map JY)=some b)(h3:yD (m.procs.map QQ)=some c):Qo m=some (a ++ b ++ c):=by
 unfold Qo;rw[if_pos h0,h1,h2,h3]
def jeM (o:Option (List Nat)):AV:=.tup [.str (o.getD []),.int .i64 (if o.isSome=true then 0 else 141)]
theorem G0.tupw {s:St}{a:List Nat}{n:Int}{u:AV}(h:u=.tup [.str a,.int .i64 n]):G0 u (.tup [.str a,.int .i64 n]) s:=by
 subst h;exact FzD.tup (.cons (.pc rfl) (.cons (.pc rfl) .nil))
end Go.Sy
end
noncomputable section
set_option maxRecDepth 100000
namespace Go.Sy
open Go.Ev Go.Proofs
variable {base:Bs}
set_option maxHeartbeats 4000000 in
theorem jiH (hb:NB base)(m:SrcT)(w:WrS m):Tot base 35 [.agg (srE m)] (jeM (Qo m)):=by
 refine hb.tot ?_ (by first|rfl|simp[pa,pc,qY,QW,Wo,JN,Ju,jae,Kb]) rfl;have we:=w.enums;have wv:=w.vars;have wp:=w.procs;have c1:((32:Int)<(m.enums.length:Int))=(32<m.enums.length):=by rw[eq_iff_iff];omega
 have c2:((32:Int)<(m.vars.length:Int))=(32<m.vars.length):=by rw[eq_iff_iff];omega
 have c3:((32:Int)<(m.procs.length:Int))=(32<m.procs.length):=by rw[eq_iff_iff];omega
 unfold BIG at we wv wp;have hbad:∀ s:St,Qo m=none->G0 (jeM (Qo m)) (.tup [.str [],.int .i64 141]) s:=λs h=>G0.tupw (by rw[h];rfl);refine jE x18 (by rfl) (hb.pur 35 1 (by decide)) ?_;simp only[y18,jt,Qai,Qaj,Qag,Qah];rw[(by unfold z18;simp only[qq];rfl:z18=_)];repeat'(first|(apply jc<;>intro _)|simp(disch:=first|exact dzE|fail) only[c1,c2,c3,je,ji,jW,jh,jd,qK,qJ,rzZ,Qab,Qac,Qad,Qaa,Qae])
 ·exact hbad _ (by rw[Qo,if_neg (by omega)])
 ·exact hbad _ (by rw[Qo,if_neg (by omega)])
 ·exact hbad _ (by rw[Qo,if_neg (by omega)])
 have l1:m.enums.length<=32:=by omega
 have l2:m.vars.length<=32:=by omega
 have l3:m.procs.length<=32:=by omega
 clear c1 c2 c3;refine qb m.enums.length (λk L s=>∃ a,yD ((m.enums.take k).map Qy)=some a/\Has L 1 (.ptr 0 0)/\Has L 4 (.str a)/\Has L 36 (.lst m.enums.length (fl enE m.enums))/\1<=s.nx/\Cl s 0 (srE m)) (by first|assumption|omega) (by decide) (by simp(disch:=decide) only[jf,jb]) (by simp(disch:=decide) only[jf,jb]) ?_ (λk L s v h=>by simp(disch:=decide) only[jb];exact h) (λk L s v h=>by simp(disch:=decide) only[jb];exact h) (λk L s hk hI hi hn=>?_) (λL s hI=>?_)
 ·refine⟨[],rfl,?_⟩;simp(disch:=decide) only[Qam,Qaq,z0,z1,jf,jb,and_true,true_and];exact⟨by(first|omega|(simp only[jg,jj,ju,jr,jk];first|done|omega)),by first|exact Cl.new _ _|(first|exact cyE|fail)⟩
 ·obtain⟨a,ha,i1,i4,iL,n0,C0⟩:=hI;obtain⟨w1,w2,w3⟩:=w.en _ (Qat hk);have E:=jnW hb m.enums[k] w1 w2 w3;have al:a.length<=32 * 2000:=by
   have:=QA (n:=2000) (λl hl=>by
    obtain⟨e,_,he⟩:=Qbo.1 hl;exact VJ he) ha
   rw[QaP,QaH] at this;have:=QaM 2000 (show min k m.enums.length<=32 by omega);omega
  have good:=λb=>@ul _ Qy m.enums k hk a b ha;have bad:=@WT _ Qy m.enums k hk;have el:=@VJ m.enums[k];cases ho:Qy m.enums[k] with
  |none=>
   rw[ho] at E;have E:Tot base 56 [.agg (enE m.enums[k])] (.tup [.str [],.bool false]):=E
   (have zz:=aI @Qal.{0} C0.r;(repeat'(first|(apply jc<;>intro _)|simp(disch:=first|exact zu|fail) only[ja i1,ja i4,ja iL,ja hi,ja hn,E,C0.q,Qal,C0.r,je,ji,jW,jh,jd,qK,qJ,rzZ,Qab,Qac,Qad,Qaa,Qae]));(all_goals(clear zz)))
   exact hbad _ (jpx (bad ho))
  |some b=>
   rw[ho] at E;have E:Tot base 56 [.agg (enE m.enums[k])] (.tup [.str b,.bool true]):=E;have bl:=el ho
   (have zz:=aI @Qal.{0} C0.r;(repeat'(first|(apply jc<;>intro _)|simp(disch:=first|exact zu|fail) only[ja i1,ja i4,ja iL,ja hi,ja hn,E,C0.q,Qal,C0.r,je,ji,jW,jh,jd,qK,qJ,rzZ,Qab,Qac,Qad,Qaa,Qae]));(all_goals(clear zz)))
   refine⟨⟨a ++ b,good b ho,?_⟩,?_⟩
   ·simp(disch:=decide) only[Qam,Qaq,z0,z1,jf,jb,and_true,true_and,i1,iL];exact⟨by(first|omega|(simp only[jg,jj,ju,jr,jk];first|done|omega)),by(first|exact C0|(simp(disch:=first|assumption|decide|(first|omega|(simp only[jg,jj,ju,jr,jk];first|done|omega))) only[jB,jD,jz,jQ,jA,jF,jG,jJ];exact C0))⟩
   ·simp(disch:=decide) only[Qam,Qaq,z0,z1,jf,jb,and_true,true_and,hi,hn]
 ·obtain⟨a,ha,i1,i4,iL,n0,C0⟩:=hI;rw[Qaz] at ha;have al:a.length<=32 * 2000:=by
   have:=QA (n:=2000) (λl hl=>by
    obtain⟨e,_,he⟩:=Qbo.1 hl;exact VJ he) ha
   rw[QaP] at this;have:=QaM 2000 l1;omega
  (have zz:=C0.r;(repeat'(first|(apply jc<;>intro _)|simp(disch:=first|exact zu|fail) only[ja i1,ja i4,ja iL,C0.q,C0.r,je,ji,jW,jh,jd,qK,qJ,rzZ,Qab,Qac,Qad,Qaa,Qae]));(all_goals(clear zz)))
  refine qb m.vars.length (λk L s=>∃ b,yD ((m.vars.take k).map JY)=some b/\Has L 1 (.ptr 0 0)/\Has L 4 (.str (a ++ b))/\Has L 54 (.lst m.vars.length (fl qh m.vars))/\1<=s.nx/\Cl s 0 (srE m)) (by first|assumption|omega) (by decide) (by simp(disch:=decide) only[jf,jb]) (by simp(disch:=decide) only[jf,jb]) ?_ (λk L s v h=>by simp(disch:=decide) only[jb];exact h) (λk L s v h=>by simp(disch:=decide) only[jb];exact h) (λk L s hk hI hi hn=>?_) (λL s hI=>?_)
  ·refine⟨[],rfl,?_⟩;simp(disch:=decide) only[Qam,Qaq,z0,z1,jf,jb,and_true,true_and,i1,i4,Qbk];exact⟨n0,C0⟩
  ·clear i1 i4 iL n0 C0;obtain⟨b,hb2,i1,i4,iL,n0,C0⟩:=hI;obtain⟨w1,w2,_,w3⟩:=w.de _ (Qat hk);have E:=jnX hb m.vars[k] w1 w2 w3;have bl:b.length<=32 * WL:=by
    have:=QA (n:=WL) (λl hl=>by
     obtain⟨e,he1,he⟩:=Qbo.1 hl;exact VO he (w.de e (QbM he1)).2.2.2) hb2
    rw[QaP,QaH] at this;have:=QaM WL (show min k m.vars.length<=32 by omega);omega
   have good:=λc=>@ul _ JY m.vars k hk b c hb2;have bad:=@WT _ JY m.vars k hk;have el:=λl (h:JY m.vars[k]=some l)=>VO h w3;unfold WL at *;cases ho:JY m.vars[k] with
   |none=>
    rw[ho] at E;have E:Tot base 57 [.agg (qh m.vars[k])] (.tup [.str [],.bool false]):=E
    (have zz:=aI @Qal.{0} C0.r;(repeat'(first|(apply jc<;>intro _)|simp(disch:=first|exact zu|fail) only[ja i1,ja i4,ja iL,ja hi,ja hn,E,C0.q,Qal,C0.r,je,ji,jW,jh,jd,qK,qJ,rzZ,Qab,Qac,Qad,Qaa,Qae]));(all_goals(clear zz)))
    exact hbad _ (jpu (bad ho))
   |some c=>
    rw[ho] at E;have E:Tot base 57 [.agg (qh m.vars[k])] (.tup [.str c,.bool true]):=E;have cl:=el _ ho
    (have zz:=aI @Qal.{0} C0.r;(repeat'(first|(apply jc<;>intro _)|simp(disch:=first|exact zu|fail) only[ja i1,ja i4,ja iL,ja hi,ja hn,E,C0.q,Qal,C0.r,je,ji,jW,jh,jd,qK,qJ,rzZ,Qab,Qac,Qad,Qaa,Qae]));(all_goals(clear zz)))
    refine⟨⟨b ++ c,good c ho,?_⟩,?_⟩
    ·simp(disch:=decide) only[Qam,Qaq,z0,z1,jf,jb,and_true,true_and,i1,iL,QaY];exact⟨by(first|omega|(simp only[jg,jj,ju,jr,jk];first|done|omega)),by(first|exact C0|(simp(disch:=first|assumption|decide|(first|omega|(simp only[jg,jj,ju,jr,jk];first|done|omega))) only[jB,jD,jz,jQ,jA,jF,jG,jJ];exact C0))⟩
    ·simp(disch:=decide) only[Qam,Qaq,z0,z1,jf,jb,and_true,true_and,hi,hn]
  ·clear i1 i4 iL n0 C0;obtain⟨b,hb2,i1,i4,iL,n0,C0⟩:=hI;rw[Qaz] at hb2;have bl:b.length<=32 * WL:=by
    have:=QA (n:=WL) (λl hl=>by
     obtain⟨e,he1,he⟩:=Qbo.1 hl;exact VO he (w.de e he1).2.2.2) hb2
    rw[QaP] at this;have:=QaM WL l2;omega
   (have zz:=C0.r;(repeat'(first|(apply jc<;>intro _)|simp(disch:=first|exact zu|fail) only[ja i1,ja i4,ja iL,C0.q,C0.r,je,ji,jW,jh,jd,qK,qJ,rzZ,Qab,Qac,Qad,Qaa,Qae]));(all_goals(clear zz)))
   refine qb m.procs.length (λk L s=>∃ c,yD ((m.procs.take k).map QQ)=some c/\Has L 1 (.ptr 0 0)/\Has L 4 (.str (a ++ b ++ c))/\Has L 72 (.lst m.procs.length (fl prE m.procs))/\1<=s.nx) (by first|assumption|omega) (by decide) (by simp(disch:=decide) only[jf,jb]) (by simp(disch:=decide) only[jf,jb]) ?_ (λk L s v h=>by simp(disch:=decide) only[jb];exact h) (λk L s v h=>by simp(disch:=decide) only[jb];exact h) (λko Lo so hko hIo hio hno=>?_) (λLo so hIo=>?_)
   ·refine⟨[],rfl,?_⟩;simp(disch:=decide) only[Qam,Qaq,z0,z1,jf,jb,and_true,true_and,i1,i4,Qbk];exact n0
   ·clear i1 i4 iL n0 C0;obtain⟨c,hc,i1,i4,iL,n0⟩:=hIo;obtain⟨w1,w2,w3⟩:=w.pr _ (Qat hko);have NM:=Zu hb m.procs[ko].name (by unfold BIG at *;omega);have cl:c.length<=32 * PRL:=by
     have:=QA (n:=PRL) (λl hl=>by
      obtain⟨e,he1,he⟩:=Qbo.1 hl;exact jhg he (w.pr e (QbM he1)).2.2) hc
     rw[QaP,QaH] at this;have:=QaM PRL (show min ko m.procs.length<=32 by omega);omega
    have good:=λd=>@ul _ QQ m.procs ko hko c d hc;have bad:=λh=>jpv (@WT _ QQ m.procs ko hko h);obtain⟨x,hx⟩:∃ x,x=m.procs[ko]:=⟨_,rfl⟩;rw[<-hx] at good bad w1 w2 w3 NM;have pb:QQ x=none->∀ s:St,G0 (jeM (Qo m)) (.tup [.str [],.int .i64 141]) s:=λh s=>hbad s (bad h);have c4:((32:Int)<(x.rules.length:Int))=(32<x.rules.length):=by rw[eq_iff_iff];omega
    have WLv:WL=17592186044516:=rfl;have RLv:RL=33 * (WL+2):=rfl;have PLv:PRL=33 * RL:=rfl;unfold BIG at w1 w2;by_cases hnm:nm x.name=true
    ·have hnl:=QD hnm;rw[hnm] at NM
     (have zz:=@Qal.{0};(repeat'(first|(apply jc<;>intro _)|simp(disch:=first|exact zu|fail) only[ja i1,ja i4,ja iL,ja hio,ja hno,NM,c4,<-hx,Qal,je,ji,jW,jh,jd,qK,qJ,rzZ,Qab,Qac,Qad,Qaa,Qae]));(all_goals(clear zz)))
     ·exact pb (by rw[QQ,if_neg (by omega)]) _
     have l5:x.rules.length<=32:=by omega
     refine qb x.rules.length (λj L s=>∃ t,yD ((x.rules.take j).map JW)=some t/\Has L 1 (.ptr 0 0)/\Has L 4 (.str (a ++ b ++ c ++ ([112,114,111,99,101,115,115,32] ++ x.name ++ [32,123,10] ++ t)))/\Has L 72 (.lst m.procs.length (fl prE m.procs))/\Has L 73 (.int .i64 (m.procs.length:Int))/\Has L 74 (.int .i64 (ko:Int))/\Has L 95 (.lst x.rules.length (fl ruE x.rules))/\1<=s.nx) (by first|assumption|omega) (by decide) (by simp(disch:=decide) only[jf,jb]) (by simp(disch:=decide) only[jf,jb]) ?_ (λk L s v h=>by simp(disch:=decide) only[jb];exact h) (λk L s v h=>by simp(disch:=decide) only[jb];exact h) (λk L s hk hI hi hn=>?_) (λL s hI=>?_)
     ·refine⟨[],rfl,?_⟩;simp(disch:=decide) only[Qam,Qaq,z0,z1,jf,jb,and_true,true_and,i1,i4,iL,hno,hio,Qbk,QaY,Qay,QaF]
      (first|omega|(simp only[jg,jj,ju,jr,jk];first|done|omega))
     ·clear i1 i4 iL n0 hio hno;obtain⟨t,ht,i1,i4,iL,hno,hio,i95,n0⟩:=hI;have wr:=w3 _ (Qat hk);have E:=jnP hb x.rules[k] wr.when wr.acts wr.to;have tl:t.length<=32 * RL:=by
       have:=QA (n:=RL) (λl hl=>by
        obtain⟨e,he1,he⟩:=Qbo.1 hl;exact vP he (w3 e (QbM he1))) ht
       rw[QaP,QaH] at this;have:=QaM RL (show min k x.rules.length<=32 by omega);omega
      have good2:=λd=>@ul _ JW x.rules k hk t d ht;have bad2:=@WT _ JW x.rules k hk;have el:=λl (h:JW x.rules[k]=some l)=>vP h wr;cases ho:JW x.rules[k] with
      |none=>
       rw[ho] at E;have E:Tot base 59 [.agg (ruE x.rules[k])] (.tup [.str [],.bool false]):=E
       (have zz:=@Qal.{0};(repeat'(first|(apply jc<;>intro _)|simp(disch:=first|exact zu|fail) only[ja i1,ja i4,ja iL,ja i95,ja hi,ja hn,E,Qal,je,ji,jW,jh,jd,qK,qJ,rzZ,Qab,Qac,Qad,Qaa,Qae]));(all_goals(clear zz)))
       exact pb (by rw[QQ,if_pos ⟨hnm,l5⟩,bad2 ho]) _
      |some d=>
       rw[ho] at E;have E:Tot base 59 [.agg (ruE x.rules[k])] (.tup [.str d,.bool true]):=E;have dl:=el _ ho
       (have zz:=@Qal.{0};(repeat'(first|(apply jc<;>intro _)|simp(disch:=first|exact zu|fail) only[ja i1,ja i4,ja iL,ja i95,ja hi,ja hn,E,Qal,je,ji,jW,jh,jd,qK,qJ,rzZ,Qab,Qac,Qad,Qaa,Qae]));(all_goals(clear zz)))
       refine⟨⟨t ++ d,good2 d ho,?_⟩,?_⟩
       ·simp(disch:=decide) only[Qam,Qaq,z0,z1,jf,jb,and_true,true_and,i1,iL,hno,hio,i95,QaY,Qay,QaF]
        (first|omega|(simp only[jg,jj,ju,jr,jk];first|done|omega))
       ·simp(disch:=decide) only[Qam,Qaq,z0,z1,jf,jb,and_true,true_and,hi,hn]
     ·clear i1 i4 iL n0 hio hno;obtain⟨t,ht,i1,i4,iL,hno,hio,i95,n0⟩:=hI;rw[Qaz] at ht;have tl:t.length<=32 * RL:=by
       have:=QA (n:=RL) (λl hl=>by
        obtain⟨e,he1,he⟩:=Qbo.1 hl;exact vP he (w3 e he1)) ht
       rw[QaP] at this;have:=QaM RL l5;omega
      have hpw:QQ x=some ([112,114,111,99,101,115,115,32] ++ x.name ++ [32,123,10] ++ t ++ [125,10]):=by rw[QQ,if_pos ⟨hnm,l5⟩,ht]
      (have zz:=@Qal.{0};(repeat'(first|(apply jc<;>intro _)|simp(disch:=first|exact zu|fail) only[ja i1,ja i4,ja iL,Qal,je,ji,jW,jh,jd,qK,qJ,rzZ,Qab,Qac,Qad,Qaa,Qae]));(all_goals(clear zz)))
      refine⟨⟨_,good _ hpw,?_⟩,?_⟩
      ·simp(disch:=decide) only[Qam,Qaq,z0,z1,jf,jb,and_true,true_and,i1,iL,QaY,Qay,QaF]
       (first|omega|(simp only[jg,jj,ju,jr,jk];first|done|omega))
      ·simp(disch:=decide) only[Qam,Qaq,z0,z1,jf,jb,and_true,true_and,hio,hno]
    ·have hnf:nm x.name=false:=by simpa using hnm
     rw[hnf] at NM
     (have zz:=@Qal.{0};(repeat'(first|(apply jc<;>intro _)|simp(disch:=first|exact zu|fail) only[ja i1,ja i4,ja iL,ja hio,ja hno,NM,<-hx,Qal,je,ji,jW,jh,jd,qK,qJ,rzZ,Qab,Qac,Qad,Qaa,Qae]));(all_goals(clear zz)))
     exact pb (by rw[QQ,if_neg (by rintro ⟨h6,_⟩;exact hnm h6)]) _
   ·clear i1 i4 iL n0 C0;obtain⟨c,hc,i1,i4,iL,n0⟩:=hIo;rw[Qaz] at hc;repeat'(first|(apply jc<;>intro _)|simp(disch:=first|exact dzE|fail) only[ja i1,ja i4,je,ji,jW,jh,jd,qK,qJ,rzZ,Qab,Qac,Qad,Qaa,Qae])
    exact G0.tupw (by rw[jpw ⟨l1,l2,l3⟩ ha hb2 hc];rfl)
end Go.Sy
end
noncomputable section
set_option maxRecDepth 100000
namespace Go.Sy
open Go.Ev Go.Proofs
variable {base:Bs}
theorem jr9 {α:Type}{p:α->Bool}{xs:List α}{k:Nat}(h:k<xs.length):(xs.take (k+1)).any p=((xs.take k).any p ||p xs[k]):=by
 rw[yE h,List.any_append];simp
end Go.Sy
end
noncomputable section
set_option maxRecDepth 100000
namespace Go.Sy
open Go.Ev Go.Proofs
def z24:XC:=(oj [o4 4 [.nils,.nils,.nils],Tc 5,o4 6 [ov,ov,ov]] (o0 [Iv 13,I6 14 52 13,ou 12 14,Ij 15 12 0,Ij 16 12 1,o4 7 [.nils,.nils,.nils],o4 8 [ov,ov,ov],o3 3 7 15,o3 3 8 16] (o8 [Ov 17 8,oz 18 17,O4 19 .neq 18] 19 (Ok [Iy (Ir 20 [.nils,.nils,.nils] []),Iy (Ir 21 (OC ov ov oB ov ov) []),Oz 22 3 8 8 45 [],Tf 3 4 20 [(0,45)],Tf 6 5 21 [(1,45)],Tf 3 6 22 []] .ret)) (o0 [oS 24 3 7,I6 25 53 24,ou 23 25,Ij 26 23 0,Ij 27 23 1,o4 9 [.nils,.nils,.nils],o3 3 9 26,o3 3 8 27] (o8 [Ov 28 8,oz 29 28,O4 30 .neq 29] 30 (Ok [Iy (Ir 31 [.nils,.nils,.nils] []),Iy (Ir 32 (OC ov ov oB ov ov) []),Oz 33 3 8 8 45 [],Tf 3 4 31 [(0,45)],Tf 6 5 32 [(1,45)],Tf 3 6 33 []] .ret)) (o0 [OM 35,I6 36 54 35,ou 34 36,Ij 37 34 0,Ij 38 34 1,Tc 10,o3 6 10 37,o3 3 8 38] (o8 [Ov 39 8,oz 40 39,O4 41 .neq 40] 41 (Ok [Iy (Ir 42 [.nils,.nils,.nils] []),Iy (Ir 43 (OC ov ov oB ov ov) []),Oz 44 3 8 8 45 [],Tf 3 4 42 [(0,45)],Tf 6 5 43 [(1,45)],Tf 3 6 44 []] .ret)) (o0 [oS 46 3 9,OT 47 10,Os 48 55 46 47,ou 45 48,Ij 49 45 0,Ij 50 45 1,Tc 11,o3 6 11 49,o3 3 8 50] (o8 [Ov 51 8,oz 52 51,O4 53 .neq 52] 53 (Ok [Iy (Ir 54 [.nils,.nils,.nils] []),Iy (Ir 55 (OC ov ov oB ov ov) []),Oz 56 3 8 8 45 [],Tf 3 4 54 [(0,45)],Tf 6 5 55 [(1,45)],Tf 3 6 56 []] .ret)) (Ok [Oz 57 3 9 9 35 [],Oz 58 6 11 11 29 [],Oz 59 3 8 8 45 [],Tf 3 4 57 [(0,45),(1,29)],Tf 6 5 58 [(1,45)],Tf 3 6 59 []] .ret))))))
def y24:XF:=⟨[0,1],z24,[(.cA 4 3),(.cA 5 6),(.cA 6 3)]⟩
theorem x24:jy Qaf 34=some y24:=by kernel_rfl
def z25:XC:=(OQ [IB 2 0,IB 3 1,Tc 4,o4 5 [ov,ov,ov]] [oW (.defer (oJ 67 []) [5])] (o0 [oS 7 3 2,Ir 8 [.nils,.nils,.nils,.nilm,.bool false] [((0,3),7),((4,1),Ih)],oi 9 (.box 8),oq 6 9] (.dops [Iy (Tg 10),Oz 11 6 3 3 29 [],(Iq (Id 12 75 [10,11,II 2,.c oB]) 0 [],some [OO 12 0,o9 (oS 13 3 5) 5 45 [(0,0)],o7 (oW (.i (.mv I1))) 0,o7 (oW (.i (.mv I1))) 0]),Oz 13 3 5 5 45 [(0,0)],Tf 6 4 12 [(0,45)],Tf 3 5 13 []]) .ret))
def y25:XF:=⟨[0,1],z25,[(.cA 4 6),(.cA 5 3)]⟩
theorem x25:jy Qaf 55=some y25:=by kernel_rfl
def jew:XC:=(Ok [Iy (OY 65),Iy (Is 66 65),IA 67 0 66,Oz 68 3 67 67 35 [],Oz 69 3 3 3 45 [],Tf 3 2 68 [(0,45)],Tf 3 3 69 []] .ret)
def jex:XC:=(.seq (Ot [ow 38 2 1,I4 39 38,IP 40 39,IQ 41] 4 [I5 42 41 40] 42 4 5 [Ii 43 4 39 41,oS 44 4 43,o4 10 [oB,.nils,ov,ov],o3 4 10 44] (oj [OY 45,Ov 46 10,oz 47 46,ow 48 2 10,oz 49 48,OS 50 10,oz 51 50,Id 52 70 [45,47,49,51]] (Ot [OP 53 10,I4 54 53,IP 55 54,IQ 56] 6 [I5 57 56 55] 57 6 7 [Ii 58 7 54 56,oS 59 7 58,o4 12 [ov,ov,oB,.nils,ov,ov,.nils],o3 7 12 59] (.ops [OY 60,oS 61 7 12,Os 62 71 60 61]) 63 56 1 56 63)) 64 41 1 41 64) jew)
def jey:XC:=(.seq (Ot [OP 27 1,I4 28 27,IP 29 28,IQ 30] 2 [I5 31 30 29] 31 2 3 [Ii 32 7 28 30,oS 33 7 32,o4 8 [oB,oB,ov,ov,.nils,ov,ov],o3 7 8 33] (.ops [OY 34,oS 35 7 8,Os 36 69 34 35]) 37 30 1 30 37) jex)
def jez:XC:=(.seq (Ot [Ov 16 1,I4 17 16,IP 18 17,IQ 19] 0 [I5 20 19 18] 20 0 1 [Ii 21 4 17 19,oS 22 4 21,o4 6 [oB,.nils,ov,ov],o3 4 6 22] (.ops [OY 23,oS 24 4 6,Os 25 68 23 24]) 26 19 1 19 26) jey)
def z26:XC:=(oj [IB 1 0,o4 2 [.nils,.nils,.nils],o4 3 [ov,ov,ov]] (OQ [oW (.defer (oJ 67 []) [3])] [oi 13 .mkMap,Ir 14 [.nils,.nils,.nils,.nilm,.bool false] [((3,1),13)],oi 15 (.box 14),ON 15] jez))
def y26:XF:=⟨[0],z26,[(.cA 2 3),(.cA 3 3)]⟩
theorem x26:jy Qaf 53=some y26:=by kernel_rfl
def z33:XC:=(oj [IB 1 0,IQ 2] (I7 [o5 3 (.int .u64 1)] (Ot [Ov 6 1,I4 7 6,IP 8 7,IQ 9] 0 [I5 10 9 8] 10 0 1 [Ii 11 7 7 9,oS 12 7 11,o4 5 [oB,ov,oB,ov,ov,.bool false,ov],o3 7 5 12] (.ops [ou 13 3,ow 14 4 5,oz 15 14,oi 16 (.cvt .u64 15),OS 17 5,oz 18 17,oi 19 (.cvt .u64 18),IJ 20 .sub 16 19,oi 21 (OW .add 20 .u64 1),IJ 22 .mul 13 21,oq 3 22]) 23 9 1 9 23) [ou 24 3,oi 25 (.cvt .i64 24),OI 25]))
def y33:XF:=⟨[0],z33,[(.t 2)]⟩
theorem x33:jy Qaf 36=some y33:=by kernel_rfl
def z60:XC:=(oj [IB 5 1,Tc 8] (I7 [Iv 12,OT 13 5,Os 14 103 12 13,ou 11 14,Ij 15 11 0,Ij 16 11 1,Tc 9,o4 10 [ov,oB,ov,ov],o3 6 9 15,o3 4 10 16] (Oj [Ov 17 10,oz 18 17,ou 19 2,IJ 20 .neq 18 19,ou 21 20,I8 22 21 1 10,I9 23 21 22,IL 24 21 3,Ib 25 21 (.strb .neq 23 24),IV 26 21 Ih 25] 26 [ow 27 4 5,oz 28 27,ow 29 5 5,oz 30 29,Id 31 94 [II 163,28,30]]) [OT 32 9,o3 6 8 32]))
def y60:XF:=⟨[0,1,2,3],z60,[(.cA 8 6)]⟩
theorem x60:jy Qaf 75=some y60:=by kernel_rfl
def z61:XC:=(oj [IB 3 1] (o0 [Iv 6,Ov 7 3,oz 8 7,ow 9 2 3,oz 10 9,OS 11 3,oz 12 11,Id 13 70 [6,8,10,12]] (Ot [OP 14 3,I4 15 14,IP 16 15,IQ 17] 0 [I5 18 17 16] 18 0 1 [Ii 19 1 15 17,oz 20 19,oq 5 20] (.ops [Iv 21,OV 22,ow 23 2 3,oz 24 23,OS 25 3,oz 26 25,Id 27 70 [21,22,24,26]]) 28 17 1 17 28) (.dops [Iy (Iv 29),Iy (Iv 30),Iy (Is 31 30),IA 32 0 31,IA 33 1 32,O2 34 33 33 22,IA 35 0 3,O2 36 35 35 9,IA 37 1 3,O2 38 37 37 106,(O0 39 91 38 0 [(2,9),(4,22)],some [OO 39 0,o7 (ow 40 2 3) 0,o9 (oz 41 40) 40 3 [(1,0)],o7 (OS 42 3) 0,o9 (oz 43 42) 42 3 [(3,0)],OO 44 0,OO 45 0,OO 46 0,OO 47 0,OO 48 0,OO 49 0,o7 (oW (.i (.mv I1))) 0]),IA 40 2 3,I0 41 40 40 3 [(1,0)],IA 42 3 3,I0 43 42 42 3 [(3,0)],Iy (Ir 44 [oB,.nils,ov,ov] [((0,1),36),((1,1),39),((2,1),41),((3,1),43)]),Iy (Io 45 1 4 [oB,.nils,ov,ov] [((0,4),44)]),IO (OL 46 4 56 34 45) 0 [],Iy (Is 47 29),IA 48 0 47,IA 49 1 48,Tf 1 49 46 []])))
def y61:XF:=⟨[0,1],z61,[]⟩
theorem x61:jy Qaf 68=some y61:=by kernel_rfl
def jeu:XC:=(.seq (.cops [Th 139,Th 140,Iw (Is 141 140),Iw (Ov 142 141),Iw (Ov 143 142),OK 144 143,Iw (oS 145 7 4),Iw (Io 146 1 7 [oB,ov,oB,ov,ov,.bool false,ov] [((0,7),145)]),Iw (OL 147 7 72 144 146),Iw (Is 148 139),Iw (Ov 149 148),Iw (Ov 150 149),Iw (o3 1 150 147)]) (Oj [Iv 151,Is 152 151,Ov 153 152,oS 154 3 153,I6 155 36 154,OJ 156 .gtr 155 281474976710656] 156 [ow 157 5 3,oz 158 157,ow 159 6 3,oz 160 159,Id 161 94 [II 165,158,160]]))
def jaQ:XC:=(.seq (Ot [ow 92 4 3,I4 93 92,IP 94 93,IQ 95] 1 [I5 96 95 94] 96 1 2 [Ii 97 6 93 95,OT 98 97,Tc 7,o3 6 7 98] (o0 [Iv 99,OT 100 7,OP 101 4,oz 102 101,ow 103 2 4,oz 104 103,Id 105 75 [99,100,102,104],Tc 8,o3 6 8 105] (oj [OT 107 8,I6 108 95 107,ou 106 108,Ij 109 106 0,Ij 110 106 1,Tc 9,o3 6 9 109,oq 10 110] (Oj [oq 111 10] 111 [ow 112 4 9,oz 113 112,ow 114 5 9,oz 115 114,Id 116 94 [II 161,113,115]])) (oj [OT 117 8,I6 118 96 117,ow 119 5 4,o3 1 119 Ih,ow 120 6 4,o3 1 120 118] (Oj [ow 121 6 4,oz 122 121,OS 123 4,oz 124 123,oi 125 (ID 122 124),ou 126 125,I8 127 126 6 4,I9 128 126 127,I8 129 126 4 4,I9 130 126 129,Ib 131 126 (.bin .gtr 128 130),IV 132 126 Ih 131] 132 [ow 133 4 7,oz 134 133,ow 135 5 7,oz 136 135,Id 137 94 [II 164,134,136]]))) 138 95 1 95 138) jeu)
def z62:XC:=(oj [IB 3 1] (OQ [Iv 11,Ov 12 3,oz 13 12,ow 14 5 3,oz 15 14,ow 16 6 3,oz 17 16,Id 18 70 [11,13,15,17]] [Ov 19 3,oz 20 19,ow 21 2 3,oz 22 21,OS 23 3,oz 24 23,Ir 25 [oB,ov,oB,ov,ov,.bool false,ov] [((0,1),20),((1,1),OG),((3,1),22),((4,1),24)],o4 4 [oB,ov,oB,ov,ov,.bool false,ov],o3 7 4 25] (o0 [Iv 26,Is 27 26,Ov 28 27,OP 29 28,oz 30 29,oi 31 (.fn 93 [3]),Os 32 92 30 31,oq 5 32] (.block 0 (oG [OP 34 3,oz 35 34,O5 36 35 [98,111,111,108],oq 33 36] 33 (.ops [OP 37 4,o3 1 37 (II 2),OS 38 4,o3 1 38 Ol,ow 39 4 4,o3 1 39 OG]) (oG [OV 41,O1 42 .geq 41,oq 40 42] 40 (.dops [IA 43 1 3,O2 44 43 43 9,Iy (Iv 45),Iy (Is 46 45),IA 47 0 46,IA 48 1 47,O2 49 48 48 22,Iy (OV 50),Iy (Ii 51 4 49 50),IA 52 1 51,O2 53 52 52 106,Iy (IR 54 53),Iy (o6 55 .sub 54 1),IA 56 1 4,Tf 1 56 (II 3) [(3,106),(7,22),(12,9)],IA 57 2 4,Tf 1 57 44 [(5,106),(9,22)],IA 58 3 4,Tf 1 58 Ol [(7,106),(11,22)],IA 59 4 4,Tf 1 59 55 []]) (oG [OP 61 3,oz 62 61,Ik 63 .neq 62 (.c oB),oq 60 63] 60 (.ops [ow 64 5 3,oz 65 64,ow 66 6 3,oz 67 66,Id 68 94 [II 161,65,67]]) (oG [ow 70 2 3,oz 71 70,OS 72 3,oz 73 72,IJ 74 .gtr 71 73,oq 69 74] 69 (.ops [ow 75 5 3,oz 76 75,ow 77 6 3,oz 78 77,Id 79 94 [II 164,76,78]]) (Oj [OS 81 3,oz 82 81,ow 83 2 3,oz 84 83,IJ 85 .sub 82 84,o6 86 .geq 85 1024,oq 80 86] 80 [ow 87 5 3,oz 88 87,ow 89 6 3,oz 90 89,Id 91 94 [II 165,88,90]])))))) jaQ)))
def y62:XF:=⟨[0,1],z62,[]⟩
theorem x62:jy Qaf 69=some y62:=by kernel_rfl
def z63:XC:=(.seq (Oj [Iv 8,Is 9 8,OS 10 9,oz 11 10,OM 12,oi 13 (.look 89 11 12 false),O4 14 .gtr 13] 14 [ou 15 2,ou 16 3,Id 17 94 [II 162,15,16]]) (.ops [Iv 18,Is 19 18,OS 20 19,oz 21 20,OM 22,oi 23 (.look 89 21 22 false),IK 24 23 1,oW (.i (.upd 89 21 22 24))]))
def y63:XF:=⟨[0,1,2,3],z63,[]⟩
theorem x63:jy Qaf 70=some y63:=by kernel_rfl
def jes:XC:=(.cops [Th 73,Th 74,Iw (Is 75 74),Iw (Ov 76 75),Iw (ow 77 2 76),OK 78 77,Iw (oS 79 7 4),Iw (Io 80 1 7 [ov,ov,oB,.nils,ov,ov,.nils] [((0,7),79)]),Iw (OL 81 7 96 78 80),Iw (Is 82 73),Iw (Ov 83 82),Iw (ow 84 2 83),Iw (o3 1 84 81)])
def jet:XC:=(.seq (Ot [ow 13 6 3,I4 14 13,IP 15 14,IQ 16] 0 [I5 17 16 15] 17 0 1 [ou 18 16,Ii 19 9 14 16,oS 20 9 19,o4 6 [oB,ov,ov,oB,.nils,ov,ov,ov,ov],oq 5 18,o3 9 6 20] (o0 [Iv 21,Ov 22 6,oz 23 22,Os 24 97 21 23,oq 7 24] (Oj [ou 25 7,O4 26 .lss 25] 26 [ow 27 7 6,oz 28 27,ow 29 8 6,oz 30 29,Id 31 94 [II 161,28,30]]) (.seq (Oj [ow 32 6 3,oz 33 32,OV 34,oi 35 (.slS 9 33 none (some 34)),oi 36 (.fn 99 [6]),oC 37 true none (oJ 98 []) [35,36]] 37 [ow 38 7 6,oz 39 38,ow 40 8 6,oz 41 40,Id 42 94 [II 162,39,41]]) (.dops [IA 43 6 4,O2 44 43 43 67,Iy (ou 45 7),Iy (Iv 46),IA 47 1 6,Oz 48 6 47 47 29 [],Iy (Iv 49),Iy (Is 50 49),IA 51 0 50,IA 52 0 51,O2 53 52 52 32,Iy (ou 54 7),Iy (Ii 55 7 53 54),IA 56 1 55,O2 57 56 56 3,Iy (Iv 58),Iy (Is 59 58),IA 60 0 59,IA 61 0 60,O2 62 61 61 32,Iy (ou 63 7),Iy (Ii 64 7 62 63),IA 65 2 64,O2 66 65 65 9,(Iq (Id 67 75 [46,48,57,66]) 0 [(22,67)],Ox),Iy (Ir 68 [ov,ov,ov,oB,.nils,ov,ov] [((0,1),45),((1,6),67)]),Iy (Io 69 1 7 [ov,ov,ov,oB,.nils,ov,ov] [((0,7),68)]),IO (OL 70 7 80 44 69) 0 [],IA 71 6 4,Tf 1 71 70 []]))) 72 16 1 16 72) jes)
def z64:XC:=(OQ [IB 3 1] [Iv 8,Ov 9 3,OT 10 9,Id 11 75 [8,10,II 2,.c oB],Ir 12 [ov,ov,oB,.nils,ov,ov,.nils] [((0,6),11)],o4 4 [ov,ov,oB,.nils,ov,ov,.nils],o3 7 4 12] jet)
def y64:XF:=⟨[0,1],z64,[]⟩
theorem x64:jy Qaf 71=some y64:=by kernel_rfl
def jen:XC:=(.seq (Oj [oq 151 15] 151 [ow 152 4 3,oz 153 152,ow 154 5 3,oz 155 154,Id 156 94 [II 163,153,155]]) (.seq (Iu [ou 157 14,OJ 158 .neq 157 1] 158 [OT 159 6,ou 160 14,Ir 161 [ov,oB,ov,ov] [((0,1),160),((3,1),OG)],o3 6 4 159,o3 4 5 161]) (I7 [Ov 163 3,oz 164 163,ou 165 7,Os 166 134 164 165,ou 162 166,Ij 167 162 0,Ij 168 162 1,oq 18 167,oq 19 168] (Oj [ou 169 18,o6 170 .lss 169 (-(99999999+1)),ou 171 170,IL 172 171 19,OU 173 171 .gtr 172 100000000,IV 174 171 Ih 173] 174 [ow 175 4 3,oz 176 175,ow 177 5 3,oz 178 177,Id 179 94 [II 165,176,178]]) [OT 180 6,ou 181 14,ou 182 18,ou 183 19,Ir 184 [ov,oB,ov,ov] [((0,1),181),((2,1),182),((3,1),183)],o3 6 4 180,o3 4 5 184])))
def jaO:XC:=(.seq (Ot [oq 115 7,IP 116 115,IQ 117] 3 [I5 118 117 116] 118 3 4 [Ii 119 4 115 117,oS 120 4 119,o4 17 [ov,oB,ov,ov],o3 4 17 120] (.cops [Iw (ou 121 15),Iw (ou 122 121),Iw (IL 123 122 13),Iw (Ib 124 122 (OB .gtr 123)),Iw (IL 125 122 124),Iw (Oy 126 125 0 17),Iw (Ow 127 125 126),Iw (I3 128 125 13),Iw (Ic 129 125 (.bin .neq 127 128)),Iw (Ib 130 122 (.pick 125 129 oY)),Iw (Im 131 122 Ih 130),Iw (ou 132 131),Iw (I8 133 132 0 17),Iw (I9 134 132 133),Iw (IL 135 132 7),Iw (Ib 136 132 (.idxS 4 135 Ol)),Iw (I8 137 132 0 136),Iw (I9 138 132 137),Iw (Ib 139 132 (.bin .neq 134 138)),Iw (Im 140 132 Ih 139),Iw (ou 141 140),Iw (I8 142 141 1 17),Iw (I9 143 141 142),Iw (IL 144 141 7),Iw (Ib 145 141 (.idxS 4 144 Ol)),Iw (I8 146 141 1 145),Iw (I9 147 141 146),Iw (Ib 148 141 (.strb .neq 143 147)),Iw (Im 149 141 Ih 148),Iw (oq 15 149)]) 150 117 1 117 150) jen)
def jeo:XC:=(oj [Iv 85,ou 86 8,Is 87 85,ow 88 4 87,o3 1 88 86] (OQ [Ov 90 3,oz 91 90,I6 92 132 91,ou 89 92,Ij 93 89 0,Ij 94 89 1,oq 13 93,oq 14 94] [ou 95 7,IR 96 95,O1 97 .eql 96,ou 98 97,IL 99 98 7,Ib 100 98 (.len 99),OU 101 98 .gtr 100 2,Im 102 98 Ih 101,ou 103 102,I8 104 103 0 3,I9 105 103 104,Oq 106 (103,false) 133 [] [105],IL 107 103 106,I3 108 107 0,Ic 109 107 (.nilc 108),Oy 110 107 4 109,Ow 111 107 110,Ic 112 107 (IM 111),Ib 113 103 (.pick 107 112 oY),Im 114 103 Ih 113,oq 15 114] jaO))
def jaP:XC:=(.seq (Ot [OS 61 3,I4 62 61,IP 63 62,IQ 64] 1 [I5 65 64 63] 65 1 2 [Ii 66 6 62 64,OT 67 66,Tc 10,o3 6 10 67] (OQ [Iv 69,OT 70 10,Os 71 103 69 70,ou 68 71,Ij 72 68 0,Ij 73 68 1,Tc 11,o4 12 [ov,oB,ov,ov],o3 6 11 72,o3 4 12 73] [OS 74 6,oz 75 74,OT 76 11,Io 77 1 6 (OC ov ov oB ov ov) [((0,6),76)],OL 78 6 72 75 77,OS 79 6,o3 1 79 78] (.ops [ou 80 7,oS 81 4 12,Io 82 1 4 [ov,oB,ov,ov] [((0,4),81)],OL 83 4 40 80 82,oq 7 83])) 84 64 1 64 84) jeo)
def jep:XC:=(oj [OT 41 3,Tc 6,o3 6 6 41] (OQ [OS 42 6,o3 1 42 (.c .nils)] [Te 7] (OQ [Iv 43,Is 44 43,ow 45 4 44,oz 46 45,oq 8 46] [Iv 47,ou 48 8,ou 49 48,Oy 50 49 0 3,Ow 51 49 50,OZ 52 49 .neq 51 17,Td 53 49 52,ou 54 53,Oy 55 54 0 3,Ow 56 54 55,OZ 57 54 .neq 56 18,Td 58 54 57,Is 59 47,ow 60 4 59,o3 1 60 58] jaP)))
def ZZ:XC:=(.seq (oj [Ov 20 3,I4 21 20] (.block 0 (IT 23 21 1 22 23 22 (Ok [Oz 24 6 3 3 29 [],IA 25 1 3,O2 26 25 25 2,IA 27 1 3,O2 28 27 27 2,Iy (Ir 29 [ov,oB,ov,ov] [((0,1),OG),((2,1),26),((3,1),28)]),Tf 6 4 24 [(1,2),(3,2)],Tf 4 5 29 []] .ret) (OA 31 21 2 30 31 30 [OT 32 3,Ir 33 [ov,oB,ov,ov] [((0,1),II 2),((3,1),OG)],o3 6 4 32,o3 4 5 33] (Iu (IE (Iz 35 21 3) 34 35) 34 [Iv 36,OT 37 3,Os 38 131 36 37,Ij 39 38 0,Ij 40 38 1,o3 6 4 39,o3 4 5 40]))))) jep)
def z97:XC:=(oj [IB 3 1,Tc 4,o4 5 [ov,oB,ov,ov]] ZZ)
def y97:XF:=⟨[0,1],z97,[(.cA 4 6),(.cA 5 4)]⟩
theorem x97:jy Qaf 103=some y97:=by kernel_rfl
def z98:XC:=(.ops [Iv 6,OM 7,ou 8 2,Ir 9 [ov,ov,ov] [((0,1),6),((1,1),7),((2,1),8)],oi 10 (.iface 45 9),oW (.pan 10)])
def y98:XF:=⟨[0,1,2],z98,[]⟩
theorem x98:jy Qaf 94=some y98:=by kernel_rfl
def z99:XC:=(I7 [Te 2] (Iu [Iv 3,om 4 (.gen .eql 106 true 3 (.c .nils))] 4 [Te 2]) [Io 5 0 1 [oB] [],Iv 6,OL 7 1 16 5 6,OI 7])
def y99:XF:=⟨[0],z99,[(.t 2)]⟩
theorem x99:jy Qaf 91=some y99:=by kernel_rfl
def jjO:XC:=(I7 [IQ 4] (Ot [Iv 6,IP 7 6,IQ 8] 0 [I5 9 8 7] 9 0 1 (IE (ou 10 8) 5 10) (Iu [OM 11,Iv 12,OV 13,Ii 14 4 12 13,oS 15 4 14,oC 16 true none 11 [15]] 16 (IE (OV 17) 4 17)) 18 8 1 8 18) [Or 4 (-(0+1))])
def joZ:XF:=⟨[0,1],jjO,[(.t 4)]⟩
theorem jte:jy Qaf 92=some joZ:=by kernel_rfl
def jjN:XC:=(Oi (IE (IB 2 0) 3 oY) [Ov 4 2,oz 5 4,OP 6 1,oz 7 6,OH 8 5 7,oq 3 8])
def joY:XF:=⟨[0,1],jjN,[(.t 3)]⟩
theorem jtd:jy Qaf 93=some joY:=by kernel_rfl
def jjM:XC:=(Ou [IB 1 0,Tc 2,On 3] [Ov 8 1,oz 9 8,OJ 10 .eql 9 4] 10 [OT 11 1,o3 6 2 11,oq 3 Ih] (Ti (Ot [OS 12 1,I4 13 12,IP 14 13,IQ 15] 0 [I5 16 15 14] 16 0 1 [Ii 17 6 13 15,OT 18 17,Tc 5,o3 6 5 18] (oj [OT 20 5,I6 21 95 20,ou 19 21,Ij 22 19 0,Ij 23 19 1,Tc 6,o3 6 6 22,oq 7 23] (Iu [oq 24 7] 24 [OT 25 6,o3 6 2 25,oq 3 Ih])) 26 15 1 15 26) [OT 27 1,o3 6 2 27,On 3]))
def joX:XF:=⟨[0],jjM,[(.cA 2 6),(.t 3)]⟩
theorem jtc:jy Qaf 95=some joX:=by kernel_rfl
def jjL:XC:=(oj [IB 1 0,IQ 2] (o0 [o4 3 [ov,ov]] (Ot [OS 7 1,I4 8 7,IP 9 8,IQ 10] 0 [I5 11 10 9] 11 0 1 [ou 12 10,Ii 13 6 8 10,OT 14 13,Tc 5,ON 12,o3 6 5 14] (.ops [OY 15,OT 16 5,I6 17 96 16,Ob 18 2 1 3 15,o3 1 18 17]) 19 10 1 10 19) (I7 [oq 6 (oJ 124 [])] (oj [Ov 20 1,I4 21 20] (.block 2 (IT 23 21 4 22 23 22 (.ops [ow 24 4 1,oz 25 24,ow 26 5 1,oz 27 26,Id 28 94 [II 161,25,27]]) (OA 30 21 5 29 30 29 [Ob 31 2 1 3 Ol,oz 32 31,oi 33 (.un .neg 32),OI 33] (OA 35 21 6 34 35 34 [Ob 36 2 1 3 Ol,oz 37 36,IJ 38 .sub OG 37,OI 38] (OA 40 21 14 39 40 39 [Ob 41 2 1 3 Ol,oz 42 41,Ob 43 2 1 3 OG,oz 44 43,IJ 45 .mul 42 44,OI 45] (OA 47 21 15 46 47 46 [Ob 48 2 1 3 Ol,oz 49 48,Ob 50 2 1 3 OG,oz 51 50,IJ 52 .add 49 51,OI 52] (OA 54 21 16 53 54 53 [Ob 55 2 1 3 Ol,oz 56 55,Ob 57 2 1 3 OG,oz 58 57,IJ 59 .sub 56 58,OI 59] (.seq (IT 61 21 17 60 61 60 .skip (IG (Iz 62 21 30) 60 62)) (O3 60 [Tg 63,Ob 64 2 1 3 Ol,oz 65 64,Ob 66 2 1 3 OG,oz 67 66,IJ 68 .eql 65 67,oL 69 none 63 [68],OI 69] (OA 71 21 18 70 71 70 [Tg 72,Ob 73 2 1 3 Ol,oz 74 73,Ob 75 2 1 3 OG,oz 76 75,IJ 77 .neq 74 76,oL 78 none 72 [77],OI 78] (OA 80 21 19 79 80 79 [Tg 81,Ob 82 2 1 3 Ol,oz 83 82,Ob 84 2 1 3 OG,oz 85 84,oi 86 (ID 83 85),oL 87 none 81 [86],OI 87] (.seq (IT 89 21 20 88 89 88 .skip (IG (Iz 90 21 29) 88 90)) (O3 88 [Tg 91,Ob 92 2 1 3 Ol,oz 93 92,Ob 94 2 1 3 OG,oz 95 94,IJ 96 .leq 93 95,oL 97 none 91 [96],OI 97] (OA 99 21 21 98 99 98 [Tg 100,Ob 101 2 1 3 Ol,oz 102 101,Ob 103 2 1 3 OG,oz 104 103,IJ 105 .gtr 102 104,oL 106 none 100 [105],OI 106] (OA 108 21 22 107 108 107 [Tg 109,Ob 110 2 1 3 Ol,oz 111 110,Ob 112 2 1 3 OG,oz 113 112,IJ 114 .geq 111 113,oL 115 none 109 [114],OI 115] (OA 117 21 27 116 117 116 [Ob 118 2 1 3 Ol,oz 119 118,Ob 120 2 1 3 OG,oz 121 120,IJ 122 .mul 119 121,OI 122] (Iu (IE (Iz 124 21 28) 123 124) 123 [Ob 125 2 1 3 Ol,oz 126 125,Ob 127 2 1 3 OG,oz 128 127,oi 129 (.bi .max #[2,2] [126,128]),OI 129])))))))))))))))))) [OP 130 1,oz 131 130,OI 131])))
def joW:XF:=⟨[0],jjL,[(.t 2)]⟩
theorem jtb:jy Qaf 96=some joW:=by kernel_rfl
def jjK:XC:=(Oi [IB 3 1,IQ 4] [Iv 5,Is 6 5,Ov 7 6,Ov 8 7,oz 9 8,oi 10 (.fn 126 [3]),Os 11 125 9 10,ON 11])
def joV:XF:=⟨[0,1],jjK,[(.t 4)]⟩
theorem jta:jy Qaf 97=some joV:=by kernel_rfl
def jjJ:XC:=(Oi [O7] [Iv 5,OM 6,Os 7 127 5 6,O1 8 .geq 7,ON 8])
def joU:XF:=⟨[0,1],jjJ,[(.t 4)]⟩
theorem js9:jy Qaf 98=some joU:=by kernel_rfl
def jjI:XC:=(Oi (IE (IB 2 0) 3 oY) [Ov 4 2,oz 5 4,Ov 6 1,oz 7 6,OH 8 5 7,oq 3 8])
def joT:XF:=⟨[0,1],jjI,[(.t 3)]⟩
theorem js8:jy Qaf 99=some joT:=by kernel_rfl
def U3:XC:=(o0 [IB 3 1,Tc 4,o4 5 [ov,oB,ov,ov]] (oj [Iv 10,ow 11 2 3,oz 12 11,Os 13 97 10 12,oq 6 13] (o8 [Tg 14,O4 15 .geq 14] 15 (o0 [Iv 16,Is 17 16,Ov 18 17,Ov 19 18,oz 20 19,Tg 21,Ii 22 7 20 21,oS 23 7 22,o4 7 [oB,ov,oB,ov,ov,.bool false,ov],o3 7 7 23] (.dops [Iy (Tg 24),IA 25 4 3,O2 26 25 25 3,IA 27 5 3,O2 28 27 27 3,Iy (Ir 29 (OC ov ov oB ov ov) [((0,1),II 4),((1,1),24),((4,1),26),((5,1),28)]),IA 30 1 7,O2 31 30 30 3,IA 32 2 7,O2 33 32 32 9,IA 34 3 7,O2 35 34 34 2,IA 36 4 7,O2 37 36 36 2,Iy (Ir 38 [ov,oB,ov,ov] [((0,1),31),((1,1),33),((2,1),35),((3,1),37)]),Tf 6 4 29 [(1,2),(3,2),(5,9),(7,3)],Tf 4 5 38 []]) .ret))) (I7 [Iv 40,ow 41 2 3,oz 42 41,Os 43 152 40 42,ou 39 43,Ij 44 39 0,Ij 45 39 1,oq 8 44,oq 9 45] (Oj [ou 46 9,O4 47 .lss 46] 47 [ow 48 4 3,oz 49 48,ow 50 5 3,oz 51 50,Id 52 94 [II 161,49,51]]) [ou 53 9,ow 54 4 3,oz 55 54,ow 56 5 3,oz 57 56,Ir 58 (OC ov ov oB ov ov) [((0,1),OG),((1,1),53),((4,1),55),((5,1),57)],ou 59 8,ou 60 9,ou 61 9,Ir 62 [ov,oB,ov,ov] [((0,1),II 3),((1,1),59),((2,1),60),((3,1),61)],o3 6 4 58,o3 4 5 62]))
def jeB:XF:=⟨[0,1],U3,[(.cA 4 6),(.cA 5 4)]⟩
theorem jjU:jy Qaf 131=some jeB:=by kernel_rfl
def jjt:XC:=(I7 [IQ 2,IQ 3] (oj [ON 0] (.block 0 (.seq (IT 6 4 5 5 6 5 .skip (IT 7 4 14 5 7 5 .skip (IT 8 4 15 5 8 5 .skip (IG (Iz 9 4 16) 5 9)))) (O3 5 [Or 2 1,Or 3 1] (.seq (IT 11 4 19 10 11 10 .skip (IT 12 4 20 10 12 10 .skip (IT 13 4 21 10 13 10 .skip (IG (Iz 14 4 22) 10 14)))) (O3 10 [Or 2 1,Or 3 2] (.seq (IT 16 4 17 15 16 15 .skip (IG (Iz 17 4 18) 15 17)) (O3 15 [IQ 2,Or 3 2] .skip)))))))) [Or 2 2,Or 3 2])
def joE:XF:=⟨[0],jjt,[(.t 2),(.t 3)]⟩
theorem jsT:jy Qaf 132=some joE:=by kernel_rfl
def jjs:XC:=(Oi [On 2] [Iv 3,o6 4 .geq 3 7,OY 5,I3 6 5 0,OZ 7 5 .leq 6 13,Td 8 5 7,ou 9 8,IL 10 9 0,OU 11 9 .geq 10 23,IL 12 9 11,I3 13 12 0,OZ 14 12 .leq 13 26,Ib 15 9 (.pick 12 14 oY),Im 16 9 Ih 15,OI 16])
def joD:XF:=⟨[0],jjs,[(.t 2)]⟩
theorem jsS:jy Qaf 133=some joD:=by kernel_rfl
def jjr:XC:=(OQ [IQ 4,IQ 5] [OM 8,Ii 9 4 8 Ol,oS 10 4 9,o4 6 [ov,oB,ov,ov],o3 4 6 10] (I7 [OM 11,OM 12,IR 13 12,o6 14 .sub 13 1,Ii 15 4 11 14,oS 16 4 15,o4 7 [ov,oB,ov,ov],o3 4 7 16] (oj [oq 17 0] (.block 0 (OA 19 17 5 18 19 18 [ow 20 2 6,oz 21 20,oi 22 (.un .neg 21),OS 23 6,oz 24 23,oi 25 (.un .neg 24),Io 26 2 1 [ov] [((0,1),22),((1,1),25)],I6 27 153 26,Ij 28 27 0,Ij 29 27 1,ON 28,oq 5 29] (OA 31 17 15 30 31 30 [ow 32 2 6,oz 33 32,ow 34 2 7,oz 35 34,IJ 36 .add 33 35,OS 37 6,oz 38 37,OS 39 7,oz 40 39,IJ 41 .add 38 40,Io 42 2 1 [ov] [((0,1),36),((1,1),41)],I6 43 153 42,Ij 44 43 0,Ij 45 43 1,ON 44,oq 5 45] (Iu (IE (Iz 47 17 16) 46 47) 46 [ow 48 2 6,oz 49 48,OS 50 7,oz 51 50,IJ 52 .sub 49 51,OS 53 6,oz 54 53,ow 55 2 7,oz 56 55,IJ 57 .sub 54 56,Io 58 2 1 [ov] [((0,1),52),((1,1),57)],I6 59 153 58,Ij 60 59 0,Ij 61 59 1,ON 60,oq 5 61]))))) [ow 62 2 6,oz 63 62,ow 64 2 7,oz 65 64,IJ 66 .mul 63 65,ow 67 2 6,oz 68 67,OS 69 7,oz 70 69,IJ 71 .mul 68 70,OS 72 6,oz 73 72,ow 74 2 7,oz 75 74,IJ 76 .mul 73 75,OS 77 6,oz 78 77,OS 79 7,oz 80 79,IJ 81 .mul 78 80,Io 82 4 1 [ov] [((0,1),66),((1,1),71),((2,1),76),((3,1),81)],I6 83 153 82,Ij 84 83 0,Ij 85 83 1,ON 84,oq 5 85]))
def joC:XF:=⟨[0,1],jjr,[(.t 4),(.t 5)]⟩
theorem jsR:jy Qaf 134=some joC:=by kernel_rfl
def jjq:XC:=(I7 [IQ 2] (Iu [oq 3 0] 3 [Or 2 1]) [IQ 2])
def joB:XF:=⟨[0],jjq,[(.t 2)]⟩
theorem jsQ:jy Qaf 124=some joB:=by kernel_rfl
def jjp:XC:=(I7 [IQ 4] (Ot [Iv 6,IP 7 6,IQ 8] 0 [I5 9 8 7] 9 0 1 (IE (ou 10 8) 5 10) (Iu [OM 11,Iv 12,OV 13,Ii 14 7 12 13,oS 15 7 14,oC 16 true none 11 [15]] 16 (IE (OV 17) 4 17)) 18 8 1 8 18) [Or 4 (-(0+1))])
def joA:XF:=⟨[0,1],jjp,[(.t 4)]⟩
theorem jsP:jy Qaf 125=some joA:=by kernel_rfl
def jjo:XC:=(Oi (IE (IB 2 0) 3 oY) [Ov 4 2,oz 5 4,oz 6 1,OH 7 5 6,oq 3 7])
def joz:XF:=⟨[0,1],jjo,[(.t 3)]⟩
theorem jsO:jy Qaf 126=some joz:=by kernel_rfl
def jeA:XC:=(I7 [IQ 4] (Ot [Iv 6,IP 7 6,IQ 8] 0 [I5 9 8 7] 9 0 1 (IE (ou 10 8) 5 10) (Iu [OM 11,Iv 12,OV 13,Ii 14 9 12 13,oS 15 9 14,oC 16 true none 11 [15]] 16 (IE (OV 17) 4 17)) 18 8 1 8 18) [Or 4 (-(0+1))])
def joy:XF:=⟨[0,1],jeA,[(.t 4)]⟩
theorem jsN:jy Qaf 127=some joy:=by kernel_rfl
def jje:XC:=(I7 [o5 4 oB,IQ 5] (Ot [Iv 9,Is 10 9,Ov 11 10,OP 12 11,I4 13 12,IP 14 13,IQ 15] 0 [I5 16 15 14] 16 0 1 [Ii 17 4 13 15,oS 18 4 17,o4 7 [oB,.nils,ov,ov],o3 4 7 18] (oj [OP 19 7,oz 20 19,OM 21,Os 22 164 20 21,oq 8 22] (Iu [ou 23 8,O4 24 .geq 23] 24 [Ov 25 7,oz 26 25,ou 27 8,ON 26,oq 5 27])) 28 15 1 15 28) [o5 4 oB,Or 5 (-(0+1))])
def joo:XF:=⟨[0,1],jje,[(.t 4),(.t 5)]⟩
theorem jsD:jy Qaf 152=some joo:=by kernel_rfl
def jjd:XC:=(Oi [IQ 2,IQ 3] [Iv 4,I6 5 167 4,Iv 6,I6 7 168 6,OI 5,oq 3 7])
def jon:XF:=⟨[0],jjd,[(.t 2),(.t 3)]⟩
theorem jsC:jy Qaf 153=some jon:=by kernel_rfl
def ji9:XC:=(o0 [IQ 2] (Oj [Iv 5,IR 6 5,OJ 7 .lss 6 1] 7 [oi 8 (.iface 9 (oM [115,108,105,99,101,115,46,77,105,110,58,32,101,109,112,116,121,32,108,105,115,116])),oW (.pan 8)]) (I7 [Iv 9,Ii 10 1 9 Ol,oz 11 10,oq 3 11] (IS [Or 4 1] 0 (.seq (oG [OY 12,Iv 13,IR 14 13,I5 15 12 14] 15 .skip (.exit 0)) (Il 1 (.ops [ou 18 3,Iv 19,OY 20,Ii 21 1 19 20,oz 22 21,oi 23 (.bi .min #[2,2] [18,22]),oq 3 23]) (.ops [OY 16,IK 17 16 1,ON 17])))) (IE (ou 24 3) 2 24)))
def joj:XF:=⟨[0],ji9,[(.t 2)]⟩
theorem jsy:jy Qaf 167=some joj:=by kernel_rfl
def ji8:XC:=(o0 [IQ 2] (Oj [Iv 5,IR 6 5,OJ 7 .lss 6 1] 7 [oi 8 (.iface 9 (oM [115,108,105,99,101,115,46,77,97,120,58,32,101,109,112,116,121,32,108,105,115,116])),oW (.pan 8)]) (I7 [Iv 9,Ii 10 1 9 Ol,oz 11 10,oq 3 11] (IS [Or 4 1] 0 (.seq (oG [OY 12,Iv 13,IR 14 13,I5 15 12 14] 15 .skip (.exit 0)) (Il 1 (.ops [ou 18 3,Iv 19,OY 20,Ii 21 1 19 20,oz 22 21,oi 23 (.bi .max #[2,2] [18,22]),oq 3 23]) (.ops [OY 16,IK 17 16 1,ON 17])))) (IE (ou 24 3) 2 24)))
def joi:XF:=⟨[0],ji8,[(.t 2)]⟩
theorem jsx:jy Qaf 168=some joi:=by kernel_rfl
theorem jo1:jas Qaf 67=some gC:=by kernel_rfl
end Go.Sy
end
noncomputable section
namespace Go.Sy
open Go.Ev Go.RowKit
def frW (w:World):Inj:=⟨λ_=>.unborn,λB=>match w.heap[B]? with|some (.cells c _ _)=>some c.toList|_=>none⟩
theorem jrZ {w:World}{B:Nat}{vs:List Value}(h:(frW w).g B=some vs):∃ c e f,w.heap[B]? = some (.cells c e f)/\c.toList=vs:=by
 unfold frW at h;dsimp only at h;split at h
 ·rename_i c e f hc;exact⟨c,e,f,hc,by simpa using h⟩
 ·cases h
theorem jqi {w:World}{B:Nat}{c:Array Value}{e:TypeId}{f:Nat×Nat}(h:w.heap[B]? = some (.cells c e f)):(frW w).g B=some c.toList:=by
 unfold frW;dsimp only;rw[h]
theorem jmV {w:World}(hg:∃ te pe,w.cell? ⟨2,0,none⟩=some (.iface te pe)):Sim (frW w) st0.h st0.nx w:=
 ⟨λb B S e=>(by cases e),λb e=>(by cases e),λb b' B S S' e=>(by cases e),λb e=>absurd rfl e,⟨hg,λb S e=>by cases e⟩,λB vs h=>by
  obtain⟨c,e,f,h1,h2⟩:=jrZ h;exact⟨⟨c,e,f.1,f.2,h1,h2,trivial⟩,λb S e=>by cases e⟩⟩
section
variable {H:Type} {enc:TypeId×Value->H} {P:Program} {w:World} {base:Nat} {sp:Nat->Bool} {held:Bool}
mutual
def bulkD:DataW H->Nat
 |.lit (.string bytes)=>bytes.length+1
 |.lit _=>1
 |.nil=>1
 |.ptr d=>bulkD d+1
 |.slice elems spare=>bulkDs elems+bulkDs spare+1
 |.agg parts=>bulkDs parts+1
 |.iface _ d=>bulkD d+1
 |.map entries=>1
 |.held _=>1
def bulkDs:List (DataW H)->Nat
 |[]=>0
 |d :: r=>bulkD d+bulkDs r
end
def Reads (H:Type)(P:Program)(w:World)(N:Nat)(t:TypeId){α:Type}(z:Nat)(en:α->List AV)(sz:α->Nat):Prop:=
 P.cellsOf t=z/\(∀ x,(en x).length=z)/\∀ (enc:TypeId×Value->H) (base:Nat) (sp:Nat->Bool) (held:Bool) (fuel:Nat) (cs:List Value) (d:DataW H) (ps:List MemPlace),fuel<=N->DataW.trod enc P w base sp held fuel t cs=some (d,ps)->∃ x:α,VRs (frW w) (en x) cs/\(en x).all AV.cell=true/\sz x<=bulkD d
def jb1 (k:IntKind)(n:{n:Int // (Lit.int k n).wf=true}):List AV:=[.int k n.1]
theorem Jy {N:Nat}{t:TypeId}{k:IntKind}(hu:P.underlying t=some (.int k))(hc:P.cellsOf t=1):Reads H P w N t 1 (jb1 k) (λ_=>1):=
 ⟨hc,λ_=>rfl,λenc base sp held fuel cs d ps hN h=>by
  obtain⟨n,rfl,hx,hw⟩:=DataW.trod_int hu h;cases hx;exact⟨⟨n,hw⟩,⟨_,_,rfl,rfl,rfl⟩,rfl,Qao _⟩⟩
theorem vf {N:Nat}{t:TypeId}(hu:P.underlying t=some .string)(hc:P.cellsOf t=1):Reads H P w N t 1 (λs:List Nat=>[.str s]) (λs=>s.length+1):=
 ⟨hc,λ_=>rfl,λenc base sp held fuel cs d ps hN h=>by
  obtain⟨s,rfl,hx,hm⟩:=DataW.trod_string hu h;cases hx;refine⟨s.data.toList.map UInt8.toNat,⟨_,_,rfl,⟨s,rfl,rfl⟩,rfl⟩,rfl,?_⟩;show(s.data.toList.map UInt8.toNat).length+1<=_;rw[bulkD,QaP];exact Qao _⟩
theorem jed {w:World}{a:Addr}{v:Value}(h:w.cell? a=some v):a.spot=none/\∃ c e f,w.heap[a.block]? = some (.cells c e f)/\c[a.off]? = some v:=by
 unfold World.cell? at h;split at h
 ·rename_i c e f hc;split at h
  ·cases h
  ·rename_i hs;exact⟨by simpa using hs,c,e,f,hc,h⟩
 ·cases h
theorem jcs {w:World}{base:Nat}{a:Addr}{n:Nat}{cs:List Value}(h:w.cells? base a n=some cs):cs.length=n/\∀ i,i<n->w.cell? (a.add i)=some (cs.getD i undef):=by
 unfold World.cells? at h;split at h
 ·refine⟨by simpa using mapM_some_length h,λi hi=>?_⟩;have:=mapM_some_get h i i (by simp[hi]);rw[this];have hl:cs.length=n:=by simpa using mapM_some_length h
  simp[QaN,show i<cs.length by omega]
 ·cases h
theorem jcK (b o n:Nat):(Addr.add ⟨b,o,none⟩ n)=⟨b,o+n,none⟩:=by
 unfold Addr.add;split
 ·rename_i h;subst h;rfl
 ·rfl
theorem Qr {N:Nat}{α:Type}{t e:TypeId}{z:Nat}{en:α->List AV}{sz:α->Nat}(hz0:0<z)(hu:P.underlying t=some (.slice e))(hc:P.cellsOf t=1)(R:Reads H P w N e z en sz)(hpos:∀ x,1<=sz x) :
  Reads H P w (N+1) t 1 (λxs:List α=>[.lst xs.length (fl en xs)]) (λxs=>(xs.map sz).sum+1):=
 ⟨hc,λ_=>rfl,λenc base sp held fuel cs d ps hN h=>by
  obtain⟨hz,hl,hr⟩:=R;rcases DataW.trod_slice hu h with ⟨rfl,hx⟩|⟨a,len,cap,elems,rest,n,rfl,rfl,hx,hb,hle,hm,hel,h1,_,_⟩
  ·cases hx;exact⟨[],⟨_,_,rfl,⟨none,0,rfl,Qao _,rfl,λh=>absurd h (QbD 0)⟩,rfl⟩,rfl,by simp[bulkD]⟩
  ·rw[hz] at h1;have each:∀ i,i<len->∃ ci d q,w.cells? base (a.add (i * z)) z=some ci/\DataW.trod enc P w base sp held n e ci=some (d,q)/\elems[i]? = some (d,q):=λi hi=>by
    have:=h1 i hi;rw[Qau (by omega)] at this;obtain⟨ci,e1,e2⟩:=Option.bind_eq_some_iff.1 this;exact⟨ci,elems[i].1,elems[i].2,e1,e2,Qau (by omega)⟩
   have all:∀ m,m<=len->∃ xs:List α,xs.length=m/\(xs.map sz).sum<=bulkDs ((elems.take m).map (·.1))/\∀ i (hi:i<xs.length),∃ ci,w.cells? base (a.add (i * z)) z=some ci/\VRs (frW w) (en xs[i]) ci/\(en xs[i]).all AV.cell=true:=by
    intro m;induction m with
    |zero=>exact λ_=>⟨[],rfl,by simp[bulkDs],λi hi=>by simp at hi⟩
    |succ m ih=>
     intro hm;obtain⟨xs,e1,e2,e3⟩:=ih (by omega);obtain⟨ci,d,q,f1,f2,f3⟩:=each m (by omega);obtain⟨x,g1,g2,g3⟩:=hr enc base sp held n ci d q (by omega) f2;have app:∀ (l r:List (DataW H)),bulkDs (l ++ r)=bulkDs l+bulkDs r:=λl r=>by
      induction l with
      |nil=>simp[bulkDs]
      |cons y l ih=>rw[Qay,bulkDs,bulkDs,ih,QbW]
     refine⟨xs ++ [x],by simp[e1],?_,λi hi=>?_⟩
     ·rw[Qck,f3];simp only[Option.toList,QbV,Qai,Qaj,List.sum_append,List.sum_cons,List.sum_nil,app,bulkDs];omega
     ·by_cases hlt:i<xs.length
      ·rw[List.getElem_append_left hlt];exact e3 i hlt
      ·have:i=m:=by simp at hi;omega
       subst this;rw[List.getElem_append_right (by omega)];simp only[e1,Nat.sub_self,Qby];exact⟨ci,f1,g1,g2⟩
   obtain⟨xs,e1,e2,e3⟩:=all len (Qao _);have hcell:(fl en xs).all AV.cell=true:=by
    rw[QaA];intro v hv;obtain⟨y,hy,hv⟩:=List.mem_flatMap.1 hv;obtain⟨i,hi,rfl⟩:=Qbu.1 hy;obtain⟨_,_,_,h5⟩:=e3 i hi;exact QaA.1 h5 v hv
   refine⟨xs,⟨_,_,rfl,?_,rfl⟩,rfl,?_⟩
   ·refine⟨some a,cap,by rw[e1],by omega,hcell,λhpos=>?_⟩;obtain⟨c0,f0,_,_⟩:=e3 0 hpos;have f1:=(jcs f0).2 0 hz0;rw[Qbp] at f1;have z0:(a.add 0).add 0=a:=rfl;rw[z0] at f1;obtain⟨hs,c,ty,fr,hB,_⟩:=jed f1;obtain⟨B,o,s⟩:=a;dsimp only at hs hB;subst hs;have cell:∀ i (hi:i<xs.length) j,j<z->∃ v,c[o+(i * z+j)]? = some v/\VR (frW w) ((en xs[i]).getD j .bad) v:=λi hi j hj=>by
     obtain⟨ci,g0,g1,g2⟩:=e3 i hi;have g3:=(jcs g0).2 j hj;rw[jcK,jcK] at g3;obtain⟨_,c',ty',fr',hB',g4⟩:=jed g3;dsimp only at hB' g4;rw[hB] at hB';cases hB';refine⟨_,by rw[<-QbW];exact g4,?_⟩;exact g1.get j (by rw[hl];exact hj)
    have bound:o+xs.length * z<=c.size:=by
     have hl1:0<xs.length:=hpos;obtain⟨v,g,_⟩:=cell (xs.length - 1) (by omega) (z - 1) (by omega);have:=(QaD.1 g).1;have e:(xs.length - 1) * z+(z - 1)+1=xs.length * z:=by
      have:(xs.length - 1+1) * z=(xs.length - 1) * z+z:=Qbw _ _;rw[show xs.length - 1+1=xs.length by omega] at this;omega
     omega
    have hfl:=zY hl xs;have hcs:c.toList.length=c.size:=QaB;refine⟨B,o,c.toList,rfl,jqi hB,by rw[hfl,hcs];exact bound,?_⟩;show VRs (frW w) _ _;refine VRs.of_get (by rw[hfl,QaH,QaR,hcs];omega) λi hi=>?_;rw[hfl] at hi;have hj:i % z<z:=Nat.mod_lt _ hz0;have hq:i / z<xs.length:=Nat.div_lt_of_lt_mul (by rw[Nat.mul_comm];exact hi);have hiz:i / z * z+i % z=i:=by rw[Nat.mul_comm];exact Nat.div_add_mod i z
    obtain⟨v,g1,g2⟩:=cell (i / z) hq (i % z) hj;rw[hiz] at g1;have g3:=vu hl hq hj;rw[hiz] at g3;rw[g3];have g4:((c.toList.drop o).take (fl en xs).length).getD i undef=v:=by
     rw[hfl];simp only[QaN,QbT,hi,if_true,Qch,QbJ,g1,Qbf]
    rw[g4];exact g2
   ·cases hx;rw[bulkD];have:elems.take len=elems:=by rw[<-hel];exact Qaz
    rw[this] at e2;show(xs.map sz).sum+1<=bulkDs (elems.map (·.1))+bulkDs (rest.map (·.1))+1;omega⟩
theorem Reads.mono {N M:Nat}{α:Type}{t:TypeId}{z:Nat}{en:α->List AV}{sz:α->Nat}(R:Reads H P w N t z en sz)(h:M<=N):Reads H P w M t z en sz:=
 ⟨R.1,R.2.1,λenc base sp held fuel cs d ps hN=>R.2.2 enc base sp held fuel cs d ps (by omega)⟩
theorem qF {ι:Inj}{a b:List AV}{cs:List Value}{o z:Nat}(h1:VRs ι a ((cs.drop o).take z))(h2:VRs ι b (cs.drop (o+z))):VRs ι (a ++ b) (cs.drop o):=by
 have:=VRs.append h1 h2;rwa [<-Qcc,Qbs] at this
theorem Zc {ι:Inj}{cs:List Value}{o:Nat}(h:cs.length=o):VRs ι [] (cs.drop o):=by
 rw[List.drop_eq_nil_of_le (by omega)];rfl
end
end Go.Sy
end
noncomputable section
set_option maxRecDepth 100000
namespace Go.Sy
open Go.Ev Go.RowKit Go.Proofs
variable {H:Type} {w:World}
theorem ce2:Tryz.prog.cellsOf 2=1:=by kernel_rfl
theorem ce3:Tryz.prog.cellsOf 3=1:=by kernel_rfl
theorem ce9:Tryz.prog.cellsOf 9=1:=by kernel_rfl
theorem jqR:Tryz.prog.cellsOf 22=1:=by kernel_rfl
theorem jqQ:Tryz.prog.cellsOf 23=1:=by kernel_rfl
theorem jqP:Tryz.prog.cellsOf 24=1:=by kernel_rfl
theorem jqO:Tryz.prog.cellsOf 26=3:=by kernel_rfl
theorem jfO:Tryz.prog.cellsOf 27=1:=by kernel_rfl
theorem jcu:Tryz.prog.cellsOf 29=6:=by kernel_rfl
theorem jqN:Tryz.prog.cellsOf 112=7:=by kernel_rfl
theorem jqM:Tryz.prog.cellsOf 106=1:=by kernel_rfl
theorem jqL:Tryz.prog.cellsOf 108=4:=by kernel_rfl
theorem jqK:Tryz.prog.cellsOf 114=1:=by kernel_rfl
theorem jqJ:Tryz.prog.cellsOf 116=4:=by kernel_rfl
theorem jms:Tryz.prog.cellsOf 118=1:=by kernel_rfl
theorem jmr:Tryz.prog.cellsOf 120=7:=by kernel_rfl
theorem jmq:Tryz.prog.cellsOf 155=9:=by kernel_rfl
theorem gM (x:Ex):1<=szE x:=by rw[XO];omega
theorem JP:∀ xs:List Ex,(xs.map szE).sum=yF xs
 |[]=>rfl
 |x :: xs=>by rw[Qai,List.sum_cons,JP xs];rfl
def szA (a:AsT):Nat:=a.name.length+szE a.to+1
def szR (r:RuleT):Nat:=szE r.when+(r.acts.map szA).sum+1
def szP (p:ProcT):Nat:=p.name.length+(p.rules.map szR).sum+1
def szV (v:List Nat):Nat:=v.length+1
def szN (e:EnumT):Nat:=e.name.length+(e.vals.map szV).sum+1
def szD (d:DeclT):Nat:=d.name.length+d.ty.length+yF d.begins+1
def szS (m:SrcT):Nat:=(m.enums.map szN).sum+(m.vars.map szD).sum+(m.procs.map szP).sum+1
theorem jab:∀ N:Nat,Reads H Qaf w N 29 6 eE szE
 |0=>⟨jcu,zx,λenc base sp held fuel cs d ps hN h=>by
  have:fuel=0:=by omega
  subst this;simp[DataW.trod] at h⟩
 |N+1=>⟨jcu,zx,λenc base sp held fuel cs d ps hN h=>by
  obtain⟨xs,n,rfl,hx,hl,hlen,hf⟩:=DataW.trod_struct Tryz.underlying29 h;cases hx;rw[jcu] at hl
  match xs,hlen with
  |[y0,y1,y2,y3,y4,y5],_=>
   have h0:DataW.trod enc Qaf w base sp held n 3 ((cs.drop 0).take (Tryz.prog.cellsOf 3))=some y0:=hf 0 _ rfl;rw[ce3] at h0;obtain⟨x0,v0,c0,s0⟩:=(Jy (N:=n) Tryz.underlying3 ce3).2.2 enc base sp held n _ y0.1 y0.2 (by omega) h0;have h1:DataW.trod enc Qaf w base sp held n 2 ((cs.drop 1).take (Tryz.prog.cellsOf 2))=some y1:=hf 1 _ rfl;rw[ce2] at h1;obtain⟨x1,v1,c1,s1⟩:=(Jy (N:=n) Tryz.underlying2 ce2).2.2 enc base sp held n _ y1.1 y1.2 (by omega) h1;have h2:DataW.trod enc Qaf w base sp held n 9 ((cs.drop 2).take (Tryz.prog.cellsOf 9))=some y2:=hf 2 _ rfl;rw[ce9] at h2;obtain⟨x2,v2,c2,s2⟩:=(vf (N:=n) Tryz.underlying9 ce9).2.2 enc base sp held n _ y2.1 y2.2 (by omega) h2;have h3:DataW.trod enc Qaf w base sp held n 27 ((cs.drop 3).take (Tryz.prog.cellsOf 27))=some y3:=hf 3 _ rfl;rw[jfO] at h3;obtain⟨x3,v3,c3,s3⟩:=(Qr (by decide) Tryz.underlying27 jfO ((jab N).mono (M:=N) (Qao _)) gM).2.2 enc base sp held n _ y3.1 y3.2 (by omega) h3;have h4:DataW.trod enc Qaf w base sp held n 3 ((cs.drop 4).take (Tryz.prog.cellsOf 3))=some y4:=hf 4 _ rfl;rw[ce3] at h4;obtain⟨x4,v4,c4,s4⟩:=(Jy (N:=n) Tryz.underlying3 ce3).2.2 enc base sp held n _ y4.1 y4.2 (by omega) h4;have h5:DataW.trod enc Qaf w base sp held n 3 ((cs.drop 5).take (Tryz.prog.cellsOf 3))=some y5:=hf 5 _ rfl;rw[ce3] at h5;obtain⟨x5,v5,c5,s5⟩:=(Jy (N:=n) Tryz.underlying3 ce3).2.2 enc base sp held n _ y5.1 y5.2 (by omega) h5;refine⟨.mk x0.1 x1.1 x2 x3 x4.1 x5.1,?_,?_,?_⟩
   ·rw[qG];exact qF (z:=1) v0 (qF (z:=1) v1 (qF (z:=1) v2 (qF (z:=1) v3 (qF (z:=1) v4 (qF (z:=1) v5 (Zc (by rw[hl])))))))
   ·rw[qG];first|rfl|(simp_all [Qbl,AV.cell];done)|(simp[AV.cell];done)
   ·simp only[Qai,Qaj,bulkD,bulkDs,XO,Ex.kids,Ex.name];skip
    first|omega|(simp only[JP] at *;omega)⟩
theorem jh4:∀ xs:List (List Nat),fl (λs=>[AV.str s]) xs=xs.map AV.str
 |[]=>rfl
 |x :: xs=>by rw[Xy,jh4 xs];rfl
theorem jm1 (N:Nat):Reads H Qaf w (N+1) 106 1 (λxs:List (List Nat)=>[.lst xs.length (xs.map AV.str)]) (λxs=>(xs.map szV).sum+1):=by
 have h:Reads H Qaf w (N+1) 106 1 (λxs:List (List Nat)=>[.lst xs.length (fl (λs=>[AV.str s]) xs)]) (λxs=>(xs.map szV).sum+1):=Qr (by decide) Tryz.underlying106 jqM (vf (N:=N) Tryz.underlying9 ce9) (λx=>Qbr _);simpa only[jh4] using h
theorem jm4 (N:Nat):Reads H Qaf w N 108 4 enE szN:=
 ⟨jqL,JX,λenc base sp held fuel cs d ps hN h=>by
  obtain⟨xs,n,rfl,hx,hl,hlen,hf⟩:=DataW.trod_struct Tryz.underlying108 h;cases hx;rw[jqL] at hl
  match xs,hlen with
  |[y0,y1,y2,y3],_=>
   have h0:DataW.trod enc Qaf w base sp held n 9 ((cs.drop 0).take (Tryz.prog.cellsOf 9))=some y0:=hf 0 _ rfl;rw[ce9] at h0;obtain⟨x0,v0,c0,s0⟩:=(vf (N:=n) Tryz.underlying9 ce9).2.2 enc base sp held n _ y0.1 y0.2 (by omega) h0;have h1:DataW.trod enc Qaf w base sp held n 106 ((cs.drop 1).take (Tryz.prog.cellsOf 106))=some y1:=hf 1 _ rfl;rw[jqM] at h1;obtain⟨x1,v1,c1,s1⟩:=(jm1 N).2.2 enc base sp held n _ y1.1 y1.2 (by omega) h1;have h2:DataW.trod enc Qaf w base sp held n 3 ((cs.drop 2).take (Tryz.prog.cellsOf 3))=some y2:=hf 2 _ rfl;rw[ce3] at h2;obtain⟨x2,v2,c2,s2⟩:=(Jy (N:=n) Tryz.underlying3 ce3).2.2 enc base sp held n _ y2.1 y2.2 (by omega) h2;have h3:DataW.trod enc Qaf w base sp held n 3 ((cs.drop 3).take (Tryz.prog.cellsOf 3))=some y3:=hf 3 _ rfl;rw[ce3] at h3;obtain⟨x3,v3,c3,s3⟩:=(Jy (N:=n) Tryz.underlying3 ce3).2.2 enc base sp held n _ y3.1 y3.2 (by omega) h3;refine⟨⟨x0,x1,x2.1,x3.1⟩,?_,?_,?_⟩
   ·rw[UK];exact qF (z:=1) v0 (qF (z:=1) v1 (qF (z:=1) v2 (qF (z:=1) v3 (Zc (by rw[hl])))))
   ·rw[UK];first|rfl|(simp_all [Qbl,AV.cell];done)|(simp[AV.cell];done)
   ·simp only[Qai,Qaj,bulkD,bulkDs,szN];skip
    first|omega|(simp only[JP] at *;omega)⟩
theorem jm5 (N:Nat):Reads H Qaf w N 112 7 qh szD:=
 ⟨jqN,QK,λenc base sp held fuel cs d ps hN h=>by
  obtain⟨xs,n,rfl,hx,hl,hlen,hf⟩:=DataW.trod_struct Tryz.underlying112 h;cases hx;rw[jqN] at hl
  match xs,hlen with
  |[y0,y1,y2,y3,y4,y5,y6],_=>
   have h0:DataW.trod enc Qaf w base sp held n 9 ((cs.drop 0).take (Tryz.prog.cellsOf 9))=some y0:=hf 0 _ rfl;rw[ce9] at h0;obtain⟨x0,v0,c0,s0⟩:=(vf (N:=n) Tryz.underlying9 ce9).2.2 enc base sp held n _ y0.1 y0.2 (by omega) h0;have h1:DataW.trod enc Qaf w base sp held n 9 ((cs.drop 1).take (Tryz.prog.cellsOf 9))=some y1:=hf 1 _ rfl;rw[ce9] at h1;obtain⟨x1,v1,c1,s1⟩:=(vf (N:=n) Tryz.underlying9 ce9).2.2 enc base sp held n _ y1.1 y1.2 (by omega) h1;have h2:DataW.trod enc Qaf w base sp held n 2 ((cs.drop 2).take (Tryz.prog.cellsOf 2))=some y2:=hf 2 _ rfl;rw[ce2] at h2;obtain⟨x2,v2,c2,s2⟩:=(Jy (N:=n) Tryz.underlying2 ce2).2.2 enc base sp held n _ y2.1 y2.2 (by omega) h2;have h3:DataW.trod enc Qaf w base sp held n 2 ((cs.drop 3).take (Tryz.prog.cellsOf 2))=some y3:=hf 3 _ rfl;rw[ce2] at h3;obtain⟨x3,v3,c3,s3⟩:=(Jy (N:=n) Tryz.underlying2 ce2).2.2 enc base sp held n _ y3.1 y3.2 (by omega) h3;have h4:DataW.trod enc Qaf w base sp held n 27 ((cs.drop 4).take (Tryz.prog.cellsOf 27))=some y4:=hf 4 _ rfl;rw[jfO] at h4;obtain⟨x4,v4,c4,s4⟩:=(Qr (by decide) Tryz.underlying27 jfO (jab N) gM).2.2 enc base sp held n _ y4.1 y4.2 (by omega) h4;have h5:DataW.trod enc Qaf w base sp held n 3 ((cs.drop 5).take (Tryz.prog.cellsOf 3))=some y5:=hf 5 _ rfl;rw[ce3] at h5;obtain⟨x5,v5,c5,s5⟩:=(Jy (N:=n) Tryz.underlying3 ce3).2.2 enc base sp held n _ y5.1 y5.2 (by omega) h5;have h6:DataW.trod enc Qaf w base sp held n 3 ((cs.drop 6).take (Tryz.prog.cellsOf 3))=some y6:=hf 6 _ rfl;rw[ce3] at h6;obtain⟨x6,v6,c6,s6⟩:=(Jy (N:=n) Tryz.underlying3 ce3).2.2 enc base sp held n _ y6.1 y6.2 (by omega) h6;refine⟨⟨x0,x1,x2.1,x3.1,x4,x5.1,x6.1⟩,?_,?_,?_⟩
   ·rw[wV];exact qF (z:=1) v0 (qF (z:=1) v1 (qF (z:=1) v2 (qF (z:=1) v3 (qF (z:=1) v4 (qF (z:=1) v5 (qF (z:=1) v6 (Zc (by rw[hl]))))))))
   ·rw[wV];first|rfl|(simp_all [Qbl,AV.cell];done)|(simp[AV.cell];done)
   ·simp only[Qai,Qaj,bulkD,bulkDs,szD];skip
    first|omega|(simp only[JP] at *;omega)⟩
theorem jrP (N:Nat):Reads H Qaf w N 155 9 asE szA:=
 ⟨jmq,ZO,λenc base sp held fuel cs d ps hN h=>by
  obtain⟨xs,n,rfl,hx,hl,hlen,hf⟩:=DataW.trod_struct Tryz.underlying155 h;cases hx;rw[jmq] at hl
  match xs,hlen with
  |[y0,y1,y2,y3],_=>
   have h0:DataW.trod enc Qaf w base sp held n 9 ((cs.drop 0).take (Tryz.prog.cellsOf 9))=some y0:=hf 0 _ rfl;rw[ce9] at h0;obtain⟨x0,v0,c0,s0⟩:=(vf (N:=n) Tryz.underlying9 ce9).2.2 enc base sp held n _ y0.1 y0.2 (by omega) h0;have h1:DataW.trod enc Qaf w base sp held n 29 ((cs.drop 1).take (Tryz.prog.cellsOf 29))=some y1:=hf 1 _ rfl;rw[jcu] at h1;obtain⟨x1,v1,c1,s1⟩:=((jab N)).2.2 enc base sp held n _ y1.1 y1.2 (by omega) h1;have h2:DataW.trod enc Qaf w base sp held n 3 ((cs.drop 7).take (Tryz.prog.cellsOf 3))=some y2:=hf 2 _ rfl;rw[ce3] at h2;obtain⟨x2,v2,c2,s2⟩:=(Jy (N:=n) Tryz.underlying3 ce3).2.2 enc base sp held n _ y2.1 y2.2 (by omega) h2;have h3:DataW.trod enc Qaf w base sp held n 3 ((cs.drop 8).take (Tryz.prog.cellsOf 3))=some y3:=hf 3 _ rfl;rw[ce3] at h3;obtain⟨x3,v3,c3,s3⟩:=(Jy (N:=n) Tryz.underlying3 ce3).2.2 enc base sp held n _ y3.1 y3.2 (by omega) h3;refine⟨⟨x0,x1,x2.1,x3.1⟩,?_,?_,?_⟩
   ·rw[asE];exact qF (z:=1) v0 (qF (z:=6) v1 (qF (z:=1) v2 (qF (z:=1) v3 (Zc (by rw[hl])))))
   ·rw[asE];first|rfl|(simp_all [Qbl,AV.cell];done)|(simp[AV.cell];done)
   ·simp only[Qai,Qaj,bulkD,bulkDs,szA];skip
    first|omega|(simp only[JP] at *;omega)⟩
theorem jm2 (N:Nat):Reads H Qaf w N 120 7 ruE szR:=
 ⟨jmr,wj,λenc base sp held fuel cs d ps hN h=>by
  obtain⟨xs,n,rfl,hx,hl,hlen,hf⟩:=DataW.trod_struct Tryz.underlying120 h;cases hx;rw[jmr] at hl
  match xs,hlen with
  |[y0,y1],_=>
   have h0:DataW.trod enc Qaf w base sp held n 29 ((cs.drop 0).take (Tryz.prog.cellsOf 29))=some y0:=hf 0 _ rfl;rw[jcu] at h0;obtain⟨x0,v0,c0,s0⟩:=((jab N)).2.2 enc base sp held n _ y0.1 y0.2 (by omega) h0;have h1:DataW.trod enc Qaf w base sp held n 118 ((cs.drop 6).take (Tryz.prog.cellsOf 118))=some y1:=hf 1 _ rfl;rw[jms] at h1;obtain⟨x1,v1,c1,s1⟩:=(Qr (by decide) Tryz.underlying118 jms (jrP N) (λx=>Qbr _)).2.2 enc base sp held n _ y1.1 y1.2 (by omega) h1;refine⟨⟨x0,x1⟩,?_,?_,?_⟩
   ·rw[ruE];exact qF (z:=6) v0 (qF (z:=1) v1 (Zc (by rw[hl])))
   ·rw[ruE];first|rfl|(simp_all [Qbl,AV.cell];done)|(simp[AV.cell];done)
   ·simp only[Qai,Qaj,bulkD,bulkDs,szR];skip
    first|omega|(simp only[JP] at *;omega)⟩
theorem jm3 (N:Nat):Reads H Qaf w N 116 4 prE szP:=
 ⟨jqJ,vQ,λenc base sp held fuel cs d ps hN h=>by
  obtain⟨xs,n,rfl,hx,hl,hlen,hf⟩:=DataW.trod_struct Tryz.underlying116 h;cases hx;rw[jqJ] at hl
  match xs,hlen with
  |[y0,y1,y2,y3],_=>
   have h0:DataW.trod enc Qaf w base sp held n 9 ((cs.drop 0).take (Tryz.prog.cellsOf 9))=some y0:=hf 0 _ rfl;rw[ce9] at h0;obtain⟨x0,v0,c0,s0⟩:=(vf (N:=n) Tryz.underlying9 ce9).2.2 enc base sp held n _ y0.1 y0.2 (by omega) h0;have h1:DataW.trod enc Qaf w base sp held n 114 ((cs.drop 1).take (Tryz.prog.cellsOf 114))=some y1:=hf 1 _ rfl;rw[jqK] at h1;obtain⟨x1,v1,c1,s1⟩:=(Qr (by decide) Tryz.underlying114 jqK (jm2 N) (λx=>Qbr _)).2.2 enc base sp held n _ y1.1 y1.2 (by omega) h1;have h2:DataW.trod enc Qaf w base sp held n 3 ((cs.drop 2).take (Tryz.prog.cellsOf 3))=some y2:=hf 2 _ rfl;rw[ce3] at h2;obtain⟨x2,v2,c2,s2⟩:=(Jy (N:=n) Tryz.underlying3 ce3).2.2 enc base sp held n _ y2.1 y2.2 (by omega) h2;have h3:DataW.trod enc Qaf w base sp held n 3 ((cs.drop 3).take (Tryz.prog.cellsOf 3))=some y3:=hf 3 _ rfl;rw[ce3] at h3;obtain⟨x3,v3,c3,s3⟩:=(Jy (N:=n) Tryz.underlying3 ce3).2.2 enc base sp held n _ y3.1 y3.2 (by omega) h3;refine⟨⟨x0,x1,x2.1,x3.1⟩,?_,?_,?_⟩
   ·rw[Uq];exact qF (z:=1) v0 (qF (z:=1) v1 (qF (z:=1) v2 (qF (z:=1) v3 (Zc (by rw[hl])))))
   ·rw[Uq];first|rfl|(simp_all [Qbl,AV.cell];done)|(simp[AV.cell];done)
   ·simp only[Qai,Qaj,bulkD,bulkDs,szP];skip
    first|omega|(simp only[JP] at *;omega)⟩
theorem rd_src (N:Nat):Reads H Qaf w N 26 3 srE szS:=
 ⟨jqO,wg,λenc base sp held fuel cs d ps hN h=>by
  obtain⟨xs,n,rfl,hx,hl,hlen,hf⟩:=DataW.trod_struct Tryz.underlying26 h;cases hx;rw[jqO] at hl
  match xs,hlen with
  |[y0,y1,y2],_=>
   have h0:DataW.trod enc Qaf w base sp held n 22 ((cs.drop 0).take (Tryz.prog.cellsOf 22))=some y0:=hf 0 _ rfl;rw[jqR] at h0;obtain⟨x0,v0,c0,s0⟩:=(Qr (by decide) Tryz.underlying22 jqR (jm4 N) (λx=>Qbr _)).2.2 enc base sp held n _ y0.1 y0.2 (by omega) h0;have h1:DataW.trod enc Qaf w base sp held n 23 ((cs.drop 1).take (Tryz.prog.cellsOf 23))=some y1:=hf 1 _ rfl;rw[jqQ] at h1;obtain⟨x1,v1,c1,s1⟩:=(Qr (by decide) Tryz.underlying23 jqQ (jm5 N) (λx=>Qbr _)).2.2 enc base sp held n _ y1.1 y1.2 (by omega) h1;have h2:DataW.trod enc Qaf w base sp held n 24 ((cs.drop 2).take (Tryz.prog.cellsOf 24))=some y2:=hf 2 _ rfl;rw[jqP] at h2;obtain⟨x2,v2,c2,s2⟩:=(Qr (by decide) Tryz.underlying24 jqP (jm3 N) (λx=>Qbr _)).2.2 enc base sp held n _ y2.1 y2.2 (by omega) h2;refine⟨⟨x0,x1,x2⟩,?_,?_,?_⟩
   ·rw[Ug];exact qF (z:=1) v0 (qF (z:=1) v1 (qF (z:=1) v2 (Zc (by rw[hl]))))
   ·rw[Ug];first|rfl|(simp_all [Qbl,AV.cell];done)|(simp[AV.cell];done)
   ·simp only[Qai,Qaj,bulkD,bulkDs,szS];skip
    first|omega|(simp only[JP] at *;omega)⟩
end Go.Sy
end
noncomputable section
namespace Go.Sy
open Go.Ev Go.RowKit
theorem jdJ {v:AV}{h:T AO}(hv:pa v=true):lend h v=some v:=by
 have key:∀ v:AV,pa v=true->(fz 9 h v).map (·.1)=some v:=λv hv=>by rw[jaz (d:=7) hv];rfl
 cases v<;>first|exact key _ hv|(cases hv;done)|skip
 case fn f caps=>
  cases caps with
  |nil=>rfl
  |cons c l=>cases hv
theorem Yy {h:T AO}:Qx h []=some []:=rfl
theorem yC {h:T AO}{v u:AV}{l r:List AV}(h1:lend h v=some u)(h2:Qx h l=some r):Qx h (v :: l)=some (u :: r):=by
 simp only[Qx,h1,h2]
theorem Q4 {h:T AO}{v:AV}{l r:List AV}(h1:pa v=true)(h2:Qx h l=some r):Qx h (v :: l)=some (v :: r):=yC (jdJ h1) h2
theorem Ha {h:T AO}:∀ {l:List AV},l.all Go.Sy.pa=true->Qx h l=some l
 |[],_=>rfl
 |v :: l,hp=>by
  simp only[Qbe,Qar] at hp;exact Q4 hp.1 (Ha hp.2)
theorem jdT {s:St}{d b n m z:Nat}{x:Bool}{cs:List AV}(C:Cl s b cs)(hl:n * z=cs.length)(hp:cs.all pc=true):fz (d+2) s.h (.slice b 0 n m z x)=some (.lst n cs,[b]):=jb7 (k:=0) C hl hp
theorem jfc {s:St}{b n m z:Nat}{x:Bool}{cs:List AV}(C:Cl s b cs)(hl:n * z=cs.length)(hp:cs.all pc=true):lend s.h (.slice b 0 n m z x)=some (.lst n cs):=by
 show(fz 9 s.h _).map (·.1)=_;rw[jdT (d:=7) C hl hp];rfl
def Lr (s:St)(v:AV)(n:Nat)(cs:List AV):Prop:=v=.lst n cs\/(v=.nils/\n=0/\cs=[])\/∃ b m z x,v=.slice b 0 n m z x/\n * z=cs.length/\Cl s b cs
theorem Lv.lr {lo hi n z:Nat}{s:St}{v:AV}{cs:List AV}(h:Lv lo hi s v n cs z):Lr s v n cs:=by
 rcases h with ⟨rfl,rfl,rfl⟩|⟨b,rfl,h2,h3,h4,h5,h6⟩
 ·exact .inr (.inl ⟨rfl,rfl,rfl⟩)
 ·exact .inr (.inr ⟨b,n,z,false,rfl,h3.symm,h4⟩)
theorem Lr.fz {s:St}{v:AV}{n:Nat}{cs:List AV}{d:Nat}(h:Lr s v n cs)(hp:cs.all pc=true):∃ ks,fz (d+2) s.h v=some (.lst n cs,ks):=by
 rcases h with rfl|⟨rfl,rfl,rfl⟩|⟨b,m,z,x,rfl,h1,h2⟩
 ·exact⟨[],rfl⟩
 ·exact⟨[],rfl⟩
 ·exact⟨[b],jdT h2 h1 hp⟩
theorem Lr.lend {s:St}{v:AV}{n:Nat}{cs:List AV}(h:Lr s v n cs)(hp:cs.all pc=true):lend s.h v=some (.lst n cs):=by
 have key:(Go.Ev.fz 9 s.h v).map (·.1)=some (.lst n cs):=by
  obtain⟨ks,e⟩:=h.fz (d:=7) hp;rw[e];rfl
 rcases h with rfl|⟨rfl,rfl,rfl⟩|⟨b,m,z,x,rfl,h1,h2⟩<;>exact key
theorem jhD {s:St}{l r:List AV}(h:∃ ks,fzs (fz 8 s.h) l=some (r,ks)):lend s.h (.agg l)=some (.agg r):=by
 obtain⟨ks,e⟩:=h;show(fz 9 s.h (.agg l)).map (·.1)=_;show((fzs (fz 8 s.h) l).map λp=>(AV.agg p.1,p.2)).map (·.1)=_;rw[e];rfl
theorem jfk {f:AV->Option (AV×List Nat)}{v u:AV}{l r:List AV}(h1:∃ ks,f v=some (u,ks))(h2:∃ ks,fzs f l=some (r,ks)):∃ ks,fzs f (v :: l)=some (u :: r,ks):=by
 obtain⟨k1,e1⟩:=h1;obtain⟨k2,e2⟩:=h2;exact⟨k1 ++ k2,by simp only[fzs,e1,e2]⟩
theorem jrY {f:AV->Option (AV×List Nat)}:∃ ks,fzs f []=some ([],ks):=⟨[],rfl⟩
theorem vn {s:St}{b o:Nat}{cs r:List AV}(C:Cl s b cs)(h:Ye (fz 9 s.h) cs=r):lend s.h (.ptr b o)=some (.lptr r o):=by
 obtain⟨n,zl,z,ct,hrow,hn,hcs⟩:=C.rw_.len;show ZI s.h (.ptr b o)=_;unfold ZI;dsimp only;rw[hrow];dsimp only;rw[hn,h]
theorem J9 {f:AV->Option (AV×List Nat)}{v u:AV}{l r:List AV}(h1:∃ ks,f v=some (u,ks))(hc:u.cell=true)(h2:Ye f l=r):Ye f (v :: l)=u :: r:=by
 obtain⟨ks,e⟩:=h1;simp only[Ye,e,hc,cond_true,h2]
theorem Gd {f:AV->Option (AV×List Nat)}:Ye f []=[]:=rfl
theorem WH {h:T AO}{v:AV}(d:Nat)(hv:pc v=true):∃ ks,fz (d+1) h v=some (v,ks):=⟨[],jay hv d _⟩
section
variable {P:Program} {base:Bs}
theorem PL.xb {f:FuncId}{aZ aZ':List AV}{o:Oc}(h:PL P base f aZ o){st:St}(hf:Qx st.h aZ'=some aZ)(hb:∀ st,base.run f aZ' st=.no)(K Kp:AV->St->Prop):XB P base f aZ' st K Kp=Yo o K Kp st:=h.cx hf hb K Kp
theorem PL.pa {f:FuncId}{aZ:List AV}{o:Oc}(h:PL P base f aZ o)(hp:aZ.all Go.Sy.pa=true)(hb:∀ st,base.run f aZ st=.no)(st:St)(K Kp:AV->St->Prop):XB P base f aZ st K Kp=Yo o K Kp st:=by
 exact h.xb (Ha hp) hb K Kp
theorem Jr {f:FuncId}{F:XF}(hl:jy P f=some F)(hnd:F.body.nd=true)(hm:base.pur f=5){aZ:List AV}{o:Oc}(ho:o.flat=true)
  (h:xC P base F.body (jt F.ps aZ) st0 (Xa P F.res (Xz G0 o)) λv _ s=>Xq G0 o v s.bare):PL P base f aZ o:=
 PL.of hm ho (Yr hl hnd h)
def jp9 (r:ER):ER:=match r with
 |.ok v s=>(match fz 9 s.h v with|some (v',ks)=>.ok v' (kills ks s)|none=>.no)
 |r=>r
theorem BX.ice {f:FuncId}{args:List AV}{st:St}{K Kp:AV->St->Prop}(hm:base.pur f=2)(hb:base.run f args st=.no)(h:BX P base f args st (λv s=>∃ u ks,fz 9 s.h v=some (u,ks)/\K u (kills ks s)) Kp):CX P base f args st K Kp:=by
 obtain⟨r,⟨N,D,h1⟩,h2⟩:=h;have e:∀ n,N<=n->∀ d,D+1<=d->evC P base n d f args st=jp9 r:=λn hn d hd=>by
  obtain⟨d',rfl⟩:∃ d',d=d'+1:=⟨d - 1,by omega⟩;have h3:=h1 n hn d' (by omega);simp only[evC,hb,hm,vU,jfi,h3];rfl
 refine⟨_,⟨N,D+1,e⟩,?_⟩;cases r with
 |no=>exact h2.elim
 |pn v s=>exact h2
 |ok v s=>
  obtain⟨u,ks,e1,e2⟩:=(h2:∃ u ks,fz 9 s.h v=some (u,ks)/\K u (kills ks s));unfold jp9;dsimp only;rw[e1];exact e2
theorem jb2 {f:FuncId}{F:XF}(hl:jy P f=some F)(hnd:F.body.nd=true){args:List AV}{st:St}(hm:base.pur f=2)(hb:base.run f args st=.no){K Kp:AV->St->Prop}
  (h:xC P base F.body (jt F.ps args) st.bare (Xa P F.res λv s=>∃ u ks,fz 9 s.h v=some (u,ks)/\K u (back st (kills ks s))) λv _ s=>Kp v (bk st s)):XB P base f args st K Kp:=
 XB.of (BX.ice hm hb (Yr hl hnd h))
end
structure Keep (p:Nat)(s s':St):Prop where
 nx:s.nx<=s'.nx
 fr:s'.fr=s.fr
 get:∀ b,b<s.nx->b≠p->jx s'.h b=jx s.h b
section
variable {p b:Nat} {s s' t:St} {cs:List AV}
theorem Keep.refl:Keep p s s:=⟨Qao _,rfl,λ_ _ _=>rfl⟩
theorem Keep.trans (h:Keep p s t)(k:Keep p t s'):Keep p s s':=⟨Qaw h.nx k.nx,k.fr.trans h.fr,λb hb hp=>(k.get b (QaO hb h.nx) hp).trans (h.get b hb hp)⟩
theorem Keep.nw (h:Keep p s t)(ds:List AV):Keep p s (nw t ds):=⟨QcE h.nx,h.fr,λb hb hp=>(Jt (by have:=h.nx;omega)).trans (h.get b hb hp)⟩
theorem Keep.wr (h:Keep p s t){c:Nat}(hc:c=p\/s.nx<=c)(o:Nat)(vs:List AV):Keep p s (wr t c o vs):=⟨h.nx,h.fr,λb hb hp=>(Jc (by omega)).trans (h.get b hb hp)⟩
theorem Keep.kl (h:Keep p s t){c:Nat}(hc:s.nx<=c):Keep p s (kl c t):=⟨h.nx,h.fr,λb hb hp=>(vq (by omega)).trans (h.get b hb hp)⟩
theorem Keep.kills (h:Keep p s t){ks:List Nat}(hc:∀ c∈ks,s.nx<=c):Keep p s (kills ks t):=⟨h.nx,h.fr,λb hb hp=>by
 show jx (ks.foldr _ t.h) b=_;rw[Yz,if_neg (λhm=>by have:=hc b hm;omega)];exact h.get b hb hp⟩
theorem Keep.aps {lo hi n z:Nat}{v:AV}{ds:List AV}{u:St}(h:Keep p s t)(V:Lv lo hi u v n ds z)(hlo:s.nx<=lo)(news:List AV):Keep p s (aps v t news):=⟨by rw[jr];exact QcE h.nx,by rw[uX];exact h.fr,λb hb hp=>(V.get t news b (by omega) (by have:=h.nx;omega)).trans (h.get b hb hp)⟩
theorem Keep.cl (h:Keep p s t)(C:Cl s b cs)(hb:b≠p):Cl t b cs:=C.keep h.nx (h.get b C.lt hb)
theorem Keep.lv {lo hi n z:Nat}{v:AV}(h:Keep p s t)(V:Lv lo hi s v n cs z)(hb:p<lo\/hi<=p):Lv lo hi t v n cs z:=V.imp id λ⟨c,h1,h2,h3,h4,h5,h6⟩=>⟨c,h1,h2,h3,h.cl h4 (by omega),h5,h6⟩
theorem Keep.lr {v:AV}{n:Nat}(h:Keep p s t)(V:Lr s v n cs)(hb:∀ b m z x,v=.slice b 0 n m z x->b≠p):Lr t v n cs:=by
 rcases V with e|e|⟨b,m,z,x,e,h1,h2⟩
 ·exact .inl e
 ·exact .inr (.inl e)
 ·exact .inr (.inr ⟨b,m,z,x,e,h1,h.cl h2 (hb b m z x e)⟩)
theorem Keep.back (h:Keep p s t):Keep p s (back s t):=⟨h.nx,rfl,h.get⟩
theorem Keep.bare (h:Keep p s.bare t)(u:St):Keep p s (Go.Ev.back s t):=⟨h.nx,rfl,h.get⟩
end
end Go.Sy
end
noncomputable section
set_option maxRecDepth 100000
namespace Go.Sy
open Go.Ev Go.Proofs
variable {base:Bs}
structure VarT where
 name:List Nat
 kind:Int
 enum:List Nat
 lo:Int
 hi:Int
 beg:Bool
 first:Int
def vaE (v:VarT):List AV:=[.str v.name,.int .i64 v.kind,.str v.enum,.int .i64 v.lo,.int .i64 v.hi,.bool v.beg,.int .i64 v.first]
structure SetT where
 var:Int
 to:Ex
def seE (s:SetT):List AV:=.int .i64 s.var :: eE s.to
structure MoveT where
 when:Ex
 acts:List SetT
def moE (m:MoveT):List AV:=eE m.when ++ [.lst m.acts.length (fl seE m.acts)]
structure ModT where
 vars:List VarT
 enums:List EnumT
 moves:List MoveT
def mdE (m:ModT):List AV:=[.lst m.vars.length (fl vaE m.vars),.lst m.enums.length (fl enE m.enums),.lst m.moves.length (fl moE m.moves)]
structure MtT where
 kind:Int
 enum:List Nat
 lo:Int
 hi:Int
def mtE (m:MtT):List AV:=[.int .i64 m.kind,.str m.enum,.int .i64 m.lo,.int .i64 m.hi]
theorem Wh (v:VarT):vaE v=[.str v.name,.int .i64 v.kind,.str v.enum,.int .i64 v.lo,.int .i64 v.hi,.bool v.beg,.int .i64 v.first]:=rfl
theorem Xg (v:VarT):(vaE v).length=7:=nr (by rw[Wh];rfl)
theorem HR (v:VarT)(k:Nat):(vaE v).getD k .bad=([.str v.name,.int .i64 v.kind,.str v.enum,.int .i64 v.lo,.int .i64 v.hi,.bool v.beg,.int .i64 v.first]:List AV).getD k .bad:=nr (by rw[Wh])
theorem jln (v:VarT)(k:Nat):(vaE v).drop k=([.str v.name,.int .i64 v.kind,.str v.enum,.int .i64 v.lo,.int .i64 v.hi,.bool v.beg,.int .i64 v.first]:List AV).drop k:=nr (by rw[Wh])
theorem HS (v:VarT):lall AV.cell (vaE v)=true:=nr (by rw[Wh];rfl)
theorem YK (v:VarT):(vaE v).all pc=true:=nr (by rw[Wh];rfl)
theorem jlm {st:St}{K:AV->St->Prop}{xs:List VarT}{i:Nat}(h:i<xs.length):jl (zg 7 (.lptr (fl vaE xs) (i * 7)) st) K=K (.agg (vaE xs[i])) st:=JU Xg h
theorem jgg {st:St}{K:AV->St->Prop}{xs:List VarT}{i:Nat}(h:i<xs.length){k:Nat}(hk:k<7):jl (qX (.lptr (fl vaE xs) (i * 7+k)) st) K=K ((vaE xs[i]).getD k .bad) st:=q7 Xg h hk
theorem jgh {st:St}{K:AV->St->Prop}{xs:List VarT}{i:Nat}(h:i<xs.length):jl (qX (.lptr (fl vaE xs) (i * 7)) st) K=K ((vaE xs[i]).getD 0 .bad) st:=q7 (k:=0) Xg h (by decide)
theorem jm:type_of% (aI @Xg (aI @HR (aI @jln (aI @HS (aI @jlm (aI @jgh @jgg)))))):=aI @Xg (aI @HR (aI @jln (aI @HS (aI @jlm (aI @jgh @jgg)))))
theorem XY:type_of% (aI @Xg (aI @HS @HR)):=aI @Xg (aI @HS @HR)
theorem Kf (s:SetT):seE s=[.int .i64 s.var,.int .i64 s.to.op,.int .i64 s.to.num,.str s.to.name,.lst s.to.kids.length (fl eE s.to.kids),.int .i64 s.to.line,.int .i64 s.to.col]:=(by unfold seE;rw[qG])
theorem Xk (s:SetT):(seE s).length=7:=nr (by rw[Kf];rfl)
theorem H6 (s:SetT)(k:Nat):(seE s).getD k .bad=([.int .i64 s.var,.int .i64 s.to.op,.int .i64 s.to.num,.str s.to.name,.lst s.to.kids.length (fl eE s.to.kids),.int .i64 s.to.line,.int .i64 s.to.col]:List AV).getD k .bad:=nr (by rw[Kf])
theorem jlN (s:SetT)(k:Nat):(seE s).drop k=([.int .i64 s.var,.int .i64 s.to.op,.int .i64 s.to.num,.str s.to.name,.lst s.to.kids.length (fl eE s.to.kids),.int .i64 s.to.line,.int .i64 s.to.col]:List AV).drop k:=nr (by rw[Kf])
theorem H7 (s:SetT):lall AV.cell (seE s)=true:=nr (by rw[Kf];rfl)
theorem wh (s:SetT):(seE s).all pc=true:=nr (by rw[Kf];rfl)
theorem jlM {st:St}{K:AV->St->Prop}{xs:List SetT}{i:Nat}(h:i<xs.length):jl (zg 7 (.lptr (fl seE xs) (i * 7)) st) K=K (.agg (seE xs[i])) st:=JU Xk h
theorem jgX {st:St}{K:AV->St->Prop}{xs:List SetT}{i:Nat}(h:i<xs.length){k:Nat}(hk:k<7):jl (qX (.lptr (fl seE xs) (i * 7+k)) st) K=K ((seE xs[i]).getD k .bad) st:=q7 Xk h hk
theorem jgY {st:St}{K:AV->St->Prop}{xs:List SetT}{i:Nat}(h:i<xs.length):jl (qX (.lptr (fl seE xs) (i * 7)) st) K=K ((seE xs[i]).getD 0 .bad) st:=q7 (k:=0) Xk h (by decide)
theorem jn:type_of% (aI @Xk (aI @H6 (aI @jlN (aI @H7 (aI @jlM (aI @jgY @jgX)))))):=aI @Xk (aI @H6 (aI @jlN (aI @H7 (aI @jlM (aI @jgY @jgX)))))
theorem X4:type_of% (aI @Xk (aI @H7 @H6)):=aI @Xk (aI @H7 @H6)
theorem KD (m:MoveT):moE m=[.int .i64 m.when.op,.int .i64 m.when.num,.str m.when.name,.lst m.when.kids.length (fl eE m.when.kids),.int .i64 m.when.line,.int .i64 m.when.col,.lst m.acts.length (fl seE m.acts)]:=(by unfold moE;rw[qG];rfl)
theorem vV (m:MoveT):(moE m).length=7:=nr (by rw[KD];rfl)
theorem jam (m:MoveT)(k:Nat):(moE m).getD k .bad=([.int .i64 m.when.op,.int .i64 m.when.num,.str m.when.name,.lst m.when.kids.length (fl eE m.when.kids),.int .i64 m.when.line,.int .i64 m.when.col,.lst m.acts.length (fl seE m.acts)]:List AV).getD k .bad:=nr (by rw[KD])
theorem jlZ (m:MoveT)(k:Nat):(moE m).drop k=([.int .i64 m.when.op,.int .i64 m.when.num,.str m.when.name,.lst m.when.kids.length (fl eE m.when.kids),.int .i64 m.when.line,.int .i64 m.when.col,.lst m.acts.length (fl seE m.acts)]:List AV).drop k:=nr (by rw[KD])
theorem jan (m:MoveT):lall AV.cell (moE m)=true:=nr (by rw[KD];rfl)
theorem YX (m:MoveT):(moE m).all pc=true:=nr (by rw[KD];rfl)
theorem jlY {st:St}{K:AV->St->Prop}{xs:List MoveT}{i:Nat}(h:i<xs.length):jl (zg 7 (.lptr (fl moE xs) (i * 7)) st) K=K (.agg (moE xs[i])) st:=JU vV h
theorem jhr {st:St}{K:AV->St->Prop}{xs:List MoveT}{i:Nat}(h:i<xs.length){k:Nat}(hk:k<7):jl (qX (.lptr (fl moE xs) (i * 7+k)) st) K=K ((moE xs[i]).getD k .bad) st:=q7 vV h hk
theorem jhs {st:St}{K:AV->St->Prop}{xs:List MoveT}{i:Nat}(h:i<xs.length):jl (qX (.lptr (fl moE xs) (i * 7)) st) K=K ((moE xs[i]).getD 0 .bad) st:=q7 (k:=0) vV h (by decide)
theorem jp:type_of% (aI @vV (aI @jam (aI @jlZ (aI @jan (aI @jlY (aI @jhs @jhr)))))):=aI @vV (aI @jam (aI @jlZ (aI @jan (aI @jlY (aI @jhs @jhr)))))
theorem X9:type_of% (aI @vV (aI @jan @jam)):=aI @vV (aI @jan @jam)
theorem Uu (m:ModT):mdE m=[.lst m.vars.length (fl vaE m.vars),.lst m.enums.length (fl enE m.enums),.lst m.moves.length (fl moE m.moves)]:=rfl
theorem Wz (m:ModT):(mdE m).length=3:=nr (by rw[Uu];rfl)
theorem jap (m:ModT)(k:Nat):(mdE m).getD k .bad=([.lst m.vars.length (fl vaE m.vars),.lst m.enums.length (fl enE m.enums),.lst m.moves.length (fl moE m.moves)]:List AV).getD k .bad:=nr (by rw[Uu])
theorem jl3 (m:ModT)(k:Nat):(mdE m).drop k=([.lst m.vars.length (fl vaE m.vars),.lst m.enums.length (fl enE m.enums),.lst m.moves.length (fl moE m.moves)]:List AV).drop k:=nr (by rw[Uu])
theorem jaq (m:ModT):lall AV.cell (mdE m)=true:=nr (by rw[Uu];rfl)
theorem Jj (m:ModT):(mdE m).all pc=true:=nr (by rw[Uu];rfl)
theorem jl2 (m:ModT):(mdE m).all eqs=true:=nr (by rw[Uu];rfl)
theorem jl1 {st:St}{K:AV->St->Prop}{xs:List ModT}{i:Nat}(h:i<xs.length):jl (zg 3 (.lptr (fl mdE xs) (i * 3)) st) K=K (.agg (mdE xs[i])) st:=JU Wz h
theorem jhu {st:St}{K:AV->St->Prop}{xs:List ModT}{i:Nat}(h:i<xs.length){k:Nat}(hk:k<3):jl (qX (.lptr (fl mdE xs) (i * 3+k)) st) K=K ((mdE xs[i]).getD k .bad) st:=q7 Wz h hk
theorem jhv {st:St}{K:AV->St->Prop}{xs:List ModT}{i:Nat}(h:i<xs.length):jl (qX (.lptr (fl mdE xs) (i * 3)) st) K=K ((mdE xs[i]).getD 0 .bad) st:=q7 (k:=0) Wz h (by decide)
theorem jq:type_of% (aI @Wz (aI @jap (aI @jl3 (aI @jaq (aI @jl1 (aI @jhv @jhu)))))):=aI @Wz (aI @jap (aI @jl3 (aI @jaq (aI @jl1 (aI @jhv @jhu)))))
theorem Ya:type_of% (aI @Wz (aI @jaq @jap)):=aI @Wz (aI @jaq @jap)
theorem KB (m:MtT):mtE m=[.int .i64 m.kind,.str m.enum,.int .i64 m.lo,.int .i64 m.hi]:=rfl
theorem X7 (m:MtT):(mtE m).length=4:=nr (by rw[KB];rfl)
theorem Ut (m:MtT)(k:Nat):(mtE m).getD k .bad=([.int .i64 m.kind,.str m.enum,.int .i64 m.lo,.int .i64 m.hi]:List AV).getD k .bad:=nr (by rw[KB])
theorem jlX (m:MtT)(k:Nat):(mtE m).drop k=([.int .i64 m.kind,.str m.enum,.int .i64 m.lo,.int .i64 m.hi]:List AV).drop k:=nr (by rw[KB])
theorem jal (m:MtT):lall AV.cell (mtE m)=true:=nr (by rw[KB];rfl)
theorem ZH (m:MtT):(mtE m).all pc=true:=nr (by rw[KB];rfl)
theorem jak {st:St}{K:AV->St->Prop}{xs:List MtT}{i:Nat}(h:i<xs.length):jl (zg 4 (.lptr (fl mtE xs) (i * 4)) st) K=K (.agg (mtE xs[i])) st:=JU X7 h
theorem jhp {st:St}{K:AV->St->Prop}{xs:List MtT}{i:Nat}(h:i<xs.length){k:Nat}(hk:k<4):jl (qX (.lptr (fl mtE xs) (i * 4+k)) st) K=K ((mtE xs[i]).getD k .bad) st:=q7 X7 h hk
theorem jhq {st:St}{K:AV->St->Prop}{xs:List MtT}{i:Nat}(h:i<xs.length):jl (qX (.lptr (fl mtE xs) (i * 4)) st) K=K ((mtE xs[i]).getD 0 .bad) st:=q7 (k:=0) X7 h (by decide)
theorem jo:type_of% (aI @X7 (aI @Ut (aI @jlX (aI @jal (aI @jak (aI @jhq @jhp)))))):=aI @X7 (aI @Ut (aI @jlX (aI @jal (aI @jak (aI @jhq @jhp)))))
theorem X8:type_of% (aI @X7 (aI @jal @Ut)):=aI @X7 (aI @jal @Ut)
theorem dzG {p:Prop}(h:p:=by first|assumption|decide|omega|(simp only[qN,zf,zc,ze,qZ,zd,zb,XY,X4,X9,Ya,X8,rzN,Qak,Qan];first|done|omega)|(apply JZ<;>first|omega|((simp(disch:=first|assumption|omega|(simp only[qN,zf,zc,ze,qZ,zd,zb,XY,X4,X9,Ya,X8,rzN,Qak,Qan];first|done|omega)) only[rzL,Qak,Qan,QaK,Qab,qN,zf,zc,ze,qZ,zd,zb,XY,X4,X9,Ya,X8 ])<;>first|done|omega))|(simp(disch:=first|assumption|omega|(simp only[qN,zf,zc,ze,qZ,zd,zb,XY,X4,X9,Ya,X8,rzN,Qak,Qan];first|done|omega)) only[qN,zf,zc,ze,qZ,zd,zb,XY,X4,X9,Ya,X8,rzG,Qag,Qah,Qac,Qbj,Qak,Qan,Qay,QaF];first|done|omega|decide)):p:=h
theorem cyG {p:Prop}(h:p:=by apply JZ<;>first|omega|((simp(disch:=first|assumption|omega|(simp only[qN,zf,zc,ze,qZ,zd,zb,XY,X4,X9,Ya,X8,rzN,Qak,Qan];first|done|omega)) only[rzL,Qak,Qan,QaK,Qab,qN,zf,zc,ze,qZ,zd,zb,XY,X4,X9,Ya,X8])<;>first|done|rfl|omega|(simp;done)|(simp;omega))):p:=h
theorem jY {p:Prop}(h:p:=by first|assumption|decide|omega|(simp only[qN,zf,zc,ze,qZ,zd,zb,XY,X4,X9,Ya,X8,zz,rzN,Qak,Qan];first|done|omega)|(apply JZ<;>first|omega|((simp(disch:=first|assumption|omega|(simp only[qN,zf,zc,ze,qZ,zd,zb,XY,X4,X9,Ya,X8,zz,rzN,Qak,Qan];first|done|omega)) only[rzL,Qak,Qan,QaK,Qab,qN,zf,zc,ze,qZ,zd,zb,XY,X4,X9,Ya,X8,zz ])<;>first|done|omega))|(simp(disch:=first|assumption|omega|(simp only[qN,zf,zc,ze,qZ,zd,zb,XY,X4,X9,Ya,X8,zz,rzN,Qak,Qan];first|done|omega)) only[qN,zf,zc,ze,qZ,zd,zb,XY,X4,X9,Ya,X8,zz,rzG,Qag,Qah,Qac,Qbj,Qak,Qan,Qay,QaF];first|done|omega|decide)):p:=h
def kf (c l k:Int):AV:=.iface 45 (.agg [.int .i64 c,.int .i64 l,.int .i64 k])
theorem zQ (hb:NB base)(c l k:Int):Ret base 94 [.int .i64 c,.int .i64 l,.int .i64 k] (.pn (kf c l k)):=by
 refine hb.ret ?_ rfl rfl;refine jE x98 (by rfl) (hb.pur 94 1 (by decide)) ?_;simp only[y98,jt,Qai,Qaj,Qag,Qah];rw[(by unfold z98;simp only[qq];rfl:z98=_)];repeat'(first|(apply jc<;>intro _)|simp(disch:=first|exact dzG|fail) only[je,ji,jh,jd,jm,jn,jp,jq,jo,rzZ,Qab,Qac,Qad,Qaa,Qae])
 exact FzD.iface (FzD.agg (.pc rfl))
theorem jmG (hb:NB base)(v:VarT)(s:List Nat):Tot base 126 [.agg (vaE v),.lptr [.str s] 0] (.bool (decide (v.name=s))):=by
 refine hb.tot ?_ (by first|rfl|simp[pa,pc,qY,QW,JN,Ju,YK,wh,YX,Jj,ZH]) rfl;refine jE jsO (by rfl) (hb.pur 126 1 (by decide)) ?_;simp only[joz,jt,Qai,Qaj,Qag,Qah];rw[(by unfold jjo;simp only[qq];rfl:jjo=_)];repeat'(first|(apply jc<;>intro _)|simp(disch:=first|exact dzG|fail) only[zU,je,ji,jh,jd,jm,jn,jp,jq,jo,rzZ,Qab,Qac,Qad,Qaa,Qae])
 exact G0.v rfl rfl
theorem jkR (hb:NB base)(e:EnumT)(d:DeclT):Tot base 93 [.agg (enE e),.lptr (qh d) 0] (.bool (decide (e.name=d.ty))):=by
 refine hb.tot ?_ (by first|rfl|simp[pa,pc,qY,QW,JN,Ju,YK,wh,YX,Jj,ZH]) rfl;refine jE jtd (by rfl) (hb.pur 93 1 (by decide)) ?_;simp only[joY,jt,Qai,Qaj,Qag,Qah];rw[(by unfold jjN;simp only[qq];rfl:jjN=_)];repeat'(first|(apply jc<;>intro _)|simp(disch:=first|exact dzG|fail) only[zU,je,ji,jh,jd,jm,jn,jp,jq,jo,rzZ,Qab,Qac,Qad,Qaa,Qae])
 exact G0.v rfl rfl
theorem jqZ (hb:NB base)(b a:AsT):Tot base 99 [.agg (asE b),.lptr (asE a) 0] (.bool (decide (b.name=a.name))):=by
 refine hb.tot ?_ (by first|rfl|simp[pa,pc,qY,QW,JN,Ju,YK,wh,YX,Jj,ZH]) rfl;refine jE js8 (by rfl) (hb.pur 99 1 (by decide)) ?_;simp only[joT,jt,Qai,Qaj,Qag,Qah];rw[(by unfold jjI;simp only[qq];rfl:jjI=_)];repeat'(first|(apply jc<;>intro _)|simp(disch:=first|exact dzG|fail) only[zU,je,ji,jh,jd,jm,jn,jp,jq,jo,rzZ,Qab,Qac,Qad,Qaa,Qae])
 exact G0.v rfl rfl
theorem jh5 (hb:NB base)(xs:List VarT)(hl:xs.length<=BIG)(nm:List Nat):PL Qaf base 125 [.lst xs.length (fl vaE xs),.fn 126 [.lptr [.str nm] 0]] (.ok (.int .i64 (fi (λx=>decide (x.name=nm)) xs))):=by
 refine Jr jsP (by rfl) (hb.pur 125 5 (by decide)) rfl ?_;simp only[joA,jt,Qai,Qaj,Qag,Qah];rw[(by unfold jjp;simp only[qq];rfl:jjp=_)];unfold BIG at hl;repeat'(first|(apply jc<;>intro _)|simp(disch:=first|exact dzG|fail) only[je,ji,jh,jd,jm,jn,jp,jq,jo,rzZ,Qab,Qac,Qad,Qaa,Qae])
 refine qb xs.length (λk L s=>(∀ j (hj:j<xs.length),j<k->(λx=>decide (x.name=nm)) xs[j]=false)/\Has L 0 (.lst xs.length (fl vaE xs))/\Has L 1 (.fn 126 [.lptr [.str nm] 0])) (by first|assumption|omega) (by decide) (by simp(disch:=decide) only[jf,jb]) (by simp(disch:=decide) only[jf,jb]) ?_ (λk L s v h=>by simp(disch:=decide) only[jb];exact h) (λk L s v h=>by simp(disch:=decide) only[jb];exact h) (λk L s hk hI hi hn=>?_) (λL s hI=>?_)
 ·refine⟨λj _ hj=>absurd hj (QaZ _),?_⟩;simp(disch:=decide) only[Qam,Qaq,z0,z1,jf,jb,and_true,true_and]
 ·obtain⟨h0,i0,i1⟩:=hI;have e:=jmG hb xs[k] nm;repeat'(first|(apply jc<;>intro _)|simp(disch:=first|exact dzG|fail) only[ja i0,ja i1,ja hi,ja hn,e,je,ji,jh,jd,jm,jn,jp,jq,jo,rzZ,Qab,Qac,Qad,Qaa,Qae])
  ·rename_i h;exact G0.v (congrArg _ (uc hk (λj hj=>h0 j (by omega) hj) (by simpa using h)).symm) rfl
  ·rename_i h;refine⟨⟨λj hj hjk=>?_,?_⟩,?_⟩
   ·rcases QaT j k with h2|h2
    ·have:=h0 j hj h2;simpa using this
    ·have:j=k:=by omega
     subst this;simpa using h
   ·simp(disch:=decide) only[Qam,Qaq,z0,z1,jf,jb,and_true,true_and,i0,i1]
   ·simp(disch:=decide) only[Qam,Qaq,z0,z1,jf,jb,and_true,true_and,hi,hn]
 ·obtain⟨h0,i0,i1⟩:=hI;repeat'(first|(apply jc<;>intro _)|simp(disch:=first|exact dzG|fail) only[je,ji,jh,jd,jm,jn,jp,jq,jo,rzZ,Qab,Qac,Qad,Qaa,Qae])
  exact G0.v (congrArg _ (ub λj hj=>h0 j hj hj).symm) rfl
theorem jfq (hb:NB base)(xs:List EnumT)(hl:xs.length<=BIG)(d:DeclT):PL Qaf base 92 [.lst xs.length (fl enE xs),.fn 93 [.lptr (qh d) 0]] (.ok (.int .i64 (fi (λx=>decide (x.name=d.ty)) xs))):=by
 refine Jr jte (by rfl) (hb.pur 92 5 (by decide)) rfl ?_;simp only[joZ,jt,Qai,Qaj,Qag,Qah];rw[(by unfold jjO;simp only[qq];rfl:jjO=_)];unfold BIG at hl;repeat'(first|(apply jc<;>intro _)|simp(disch:=first|exact dzG|fail) only[je,ji,jh,jd,jm,jn,jp,jq,jo,rzZ,Qab,Qac,Qad,Qaa,Qae])
 refine qb xs.length (λk L s=>(∀ j (hj:j<xs.length),j<k->(λx=>decide (x.name=d.ty)) xs[j]=false)/\Has L 0 (.lst xs.length (fl enE xs))/\Has L 1 (.fn 93 [.lptr (qh d) 0])) (by first|assumption|omega) (by decide) (by simp(disch:=decide) only[jf,jb]) (by simp(disch:=decide) only[jf,jb]) ?_ (λk L s v h=>by simp(disch:=decide) only[jb];exact h) (λk L s v h=>by simp(disch:=decide) only[jb];exact h) (λk L s hk hI hi hn=>?_) (λL s hI=>?_)
 ·refine⟨λj _ hj=>absurd hj (QaZ _),?_⟩;simp(disch:=decide) only[Qam,Qaq,z0,z1,jf,jb,and_true,true_and]
 ·obtain⟨h0,i0,i1⟩:=hI;have e:=jkR hb xs[k] d;repeat'(first|(apply jc<;>intro _)|simp(disch:=first|exact dzG|fail) only[ja i0,ja i1,ja hi,ja hn,e,je,ji,jh,jd,jm,jn,jp,jq,jo,rzZ,Qab,Qac,Qad,Qaa,Qae])
  ·rename_i h;exact G0.v (congrArg _ (uc hk (λj hj=>h0 j (by omega) hj) (by simpa using h)).symm) rfl
  ·rename_i h;refine⟨⟨λj hj hjk=>?_,?_⟩,?_⟩
   ·rcases QaT j k with h2|h2
    ·have:=h0 j hj h2;simpa using this
    ·have:j=k:=by omega
     subst this;simpa using h
   ·simp(disch:=decide) only[Qam,Qaq,z0,z1,jf,jb,and_true,true_and,i0,i1]
   ·simp(disch:=decide) only[Qam,Qaq,z0,z1,jf,jb,and_true,true_and,hi,hn]
 ·obtain⟨h0,i0,i1⟩:=hI;repeat'(first|(apply jc<;>intro _)|simp(disch:=first|exact dzG|fail) only[je,ji,jh,jd,jm,jn,jp,jq,jo,rzZ,Qab,Qac,Qad,Qaa,Qae])
  exact G0.v (congrArg _ (ub λj hj=>h0 j hj hj).symm) rfl
theorem jkK (hb:NB base)(xs:List AsT)(hl:xs.length<=BIG)(a:AsT):PL Qaf base 127 [.lst xs.length (fl asE xs),.fn 99 [.lptr (asE a) 0]] (.ok (.int .i64 (fi (λx=>decide (x.name=a.name)) xs))):=by
 refine Jr jsN (by rfl) (hb.pur 127 5 (by decide)) rfl ?_;simp only[joy,jt,Qai,Qaj,Qag,Qah];rw[(by unfold jeA;simp only[qq];rfl:jeA=_)];unfold BIG at hl;repeat'(first|(apply jc<;>intro _)|simp(disch:=first|exact dzG|fail) only[je,ji,jh,jd,jm,jn,jp,jq,jo,rzZ,Qab,Qac,Qad,Qaa,Qae])
 refine qb xs.length (λk L s=>(∀ j (hj:j<xs.length),j<k->(λx=>decide (x.name=a.name)) xs[j]=false)/\Has L 0 (.lst xs.length (fl asE xs))/\Has L 1 (.fn 99 [.lptr (asE a) 0])) (by first|assumption|omega) (by decide) (by simp(disch:=decide) only[jf,jb]) (by simp(disch:=decide) only[jf,jb]) ?_ (λk L s v h=>by simp(disch:=decide) only[jb];exact h) (λk L s v h=>by simp(disch:=decide) only[jb];exact h) (λk L s hk hI hi hn=>?_) (λL s hI=>?_)
 ·refine⟨λj _ hj=>absurd hj (QaZ _),?_⟩;simp(disch:=decide) only[Qam,Qaq,z0,z1,jf,jb,and_true,true_and]
 ·obtain⟨h0,i0,i1⟩:=hI;have e:=jqZ hb xs[k] a;repeat'(first|(apply jc<;>intro _)|simp(disch:=first|exact dzG|fail) only[ja i0,ja i1,ja hi,ja hn,e,je,ji,jh,jd,jm,jn,jp,jq,jo,rzZ,Qab,Qac,Qad,Qaa,Qae])
  ·rename_i h;exact G0.v (congrArg _ (uc hk (λj hj=>h0 j (by omega) hj) (by simpa using h)).symm) rfl
  ·rename_i h;refine⟨⟨λj hj hjk=>?_,?_⟩,?_⟩
   ·rcases QaT j k with h2|h2
    ·have:=h0 j hj h2;simpa using this
    ·have:j=k:=by omega
     subst this;simpa using h
   ·simp(disch:=decide) only[Qam,Qaq,z0,z1,jf,jb,and_true,true_and,i0,i1]
   ·simp(disch:=decide) only[Qam,Qaq,z0,z1,jf,jb,and_true,true_and,hi,hn]
 ·obtain⟨h0,i0,i1⟩:=hI;repeat'(first|(apply jc<;>intro _)|simp(disch:=first|exact dzG|fail) only[je,ji,jh,jd,jm,jn,jp,jq,jo,rzZ,Qab,Qac,Qad,Qaa,Qae])
  exact G0.v (congrArg _ (ub λj hj=>h0 j hj hj).symm) rfl
theorem jns (hb:NB base)(xs:List AsT)(hl:xs.length<=BIG)(a:AsT):PL Qaf base 98 [.lst xs.length (fl asE xs),.fn 99 [.lptr (asE a) 0]] (.ok (.bool (decide (0<=fi (λx=>decide (x.name=a.name)) xs)))):=by
 refine Jr js9 (by rfl) (hb.pur 98 5 (by decide)) rfl ?_;simp only[joU,jt,Qai,Qaj,Qag,Qah];rw[(by unfold jjJ;simp only[qq];rfl:jjJ=_)];have F:∀ (st:St) (K Kp:AV->St->Prop),XB Qaf base 127 [.lst xs.length (fl asE xs),.fn 99 [.lptr (asE a) 0]] st K Kp=_:=λst K Kp=>(jkK hb xs hl a).xb (Q4 rfl (yC rfl rfl)) (λst=>hb.no 127 (by decide) _ _) K Kp;repeat'(first|(apply jc<;>intro _)|simp(disch:=first|exact dzG|fail) only[F,je,ji,jh,jd,jm,jn,jp,jq,jo,rzZ,Qab,Qac,Qad,Qaa,Qae])
 exact G0.v rfl rfl
end Go.Sy
end
noncomputable section
set_option maxRecDepth 100000
namespace Go.Sy
open Go.Ev Go.Proofs
variable {base:Bs}
def qS (op:Int):Int×Int:=if op=5\/op=14\/op=15\/op=16 then(1,1) else if op=19\/op=20\/op=21\/op=22 then(1,2) else if op=17\/op=18 then(0,2) else(2,2)
def Wj (op:Int):Bool:=(decide (7<=op) && decide (op<=13)) ||(decide (23<=op) && decide (op<=26))
theorem G0.tupi {s:St}{a b:Int}{u:AV}(h:u=.tup [.int .i64 a,.int .i64 b]):G0 u (.tup [.int .i64 a,.int .i64 b]) s:=by
 subst h;exact FzD.tup (.cons (.pc rfl) (.cons (.pc rfl) .nil))
theorem jmE (hb:NB base)(op:Int):Tot base 132 [.int .i64 op] (.tup [.int .i64 (qS op).1,.int .i64 (qS op).2]):=by
 refine hb.tot ?_ rfl rfl;refine jE jsT (by rfl) (hb.pur 132 1 (by decide)) ?_;simp only[joE,jt,Qai,Qaj,Qag,Qah];rw[(by unfold jjt;simp only[qq];rfl:jjt=_)];repeat'(first|(apply jc<;>intro _)|simp(disch:=first|exact dzG|fail) only[je,ji,jh,jd,jm,jn,jp,jq,jo,rzZ,Qab,Qac,Qad,Qaa,Qae])
 all_goals(refine G0.tupi ?_;unfold qS;simp_all)
theorem jpo (hb:NB base)(op:Int):Tot base 133 [.int .i64 op] (.bool (Wj op)):=by
 refine hb.tot ?_ rfl rfl;refine jE jsS (by rfl) (hb.pur 133 1 (by decide)) ?_;simp only[joD,jt,Qai,Qaj,Qag,Qah];rw[(by unfold jjs;simp only[qq];rfl:jjs=_)];repeat'(first|(apply jc<;>intro _)|simp(disch:=first|exact dzG|fail) only[je,ji,jh,jd,jm,jn,jp,jq,jo,rzZ,Qab,Qac,Qad,Qaa,Qae])
 all_goals(refine G0.v (congrArg AV.bool ?_) rfl;rw[QaW];simp only[Wj,QaX,Qar,decide_eq_true_eq,Qbc,QbK,Qbb,decide_eq_false_iff_not,true_iff,false_iff,iff_true,iff_false,not_true_eq_false,not_false_eq_true,ne_eq,eq_self]<;>omega)
def Vp:List Int->Int
 |[]=>0
 |x :: xs=>xs.foldl min x
def Vq:List Int->Int
 |[]=>0
 |x :: xs=>xs.foldl max x
theorem jpY {l:List Int}{k:Nat}(h0:0<k)(h:k<l.length):Vp (l.take (k+1))=min (Vp (l.take k)) l[k]:=by
 match l,k,h0,h with
 |x :: xs,k+1,_,h=>
  have h':k<xs.length:=by simpa using h
  show(xs.take (k+1)).foldl min x=min ((xs.take k).foldl min x) xs[k];rw[yE h',Qcl];rfl
theorem jpZ {l:List Int}{k:Nat}(h0:0<k)(h:k<l.length):Vq (l.take (k+1))=max (Vq (l.take k)) l[k]:=by
 match l,k,h0,h with
 |x :: xs,k+1,_,h=>
  have h':k<xs.length:=by simpa using h
  show(xs.take (k+1)).foldl max x=max ((xs.take k).foldl max x) xs[k];rw[yE h',Qcl];rfl
theorem XN {S:List Int}{k:Nat}{st:St}{K:AV->St->Prop}(h:k<S.length):jl (qX (.lptr (S.map (AV.int .i64)) k) st) K=K (.int .i64 S[k]) st:=by
 rw[zU (by simpa using h)]
 congr 1
 simp[QaN,h]
theorem jsb (hb:NB base)(l:List Int)(h0:0<l.length)(hl:l.length<=1000000):PX Qaf base 167 [.lst l.length (l.map (AV.int .i64))] (.ok (.int .i64 (Vp l))):=by
 have z:¬ ((l.length:Int)<1):=by omega
 have e1:Vp (l.take 1)=l[0]:=by match l,h0 with|x :: xs,_=>rfl
 refine jE jsy (by rfl) (hb.pur 167 1 (by decide)) ?_;simp only[joj,jt,Qai,Qaj,Qag,Qah];rw[(by unfold ji9;simp only[qq];rfl:ji9=_)];repeat'(first|(apply jc<;>intro _)|simp(disch:=first|exact dzG|fail) only[z,XN,je,ji,jh,jd,jm,jn,jp,jq,jo,rzZ,Qab,Qac,Qad,Qaa,Qae])
 refine zj (λmm L s=>∃ k:Nat,1<=k/\k<=l.length/\mm=l.length - k/\Has L 0 (.lst l.length (l.map (AV.int .i64)))/\Has L 3 (.int .i64 (Vp (l.take k)))/\Has L 4 (.int .i64 (k:Int))) ?_ (l.length - 1) ?_
 ·rintro m L s ⟨k,hk1,hk,rfl,i0,i3,i4⟩;by_cases hlt:k<l.length
  ·have hlt':(k:Int)<(l.length:Int):=by omega
   have es:=jpY hk1 hlt;have e2:(((k+1:Nat):Int))=(k:Int)+1:=by omega
   repeat'(first|(apply jc<;>intro _)|simp(disch:=first|exact dzG|fail) only[ja i0,ja i3,ja i4,hlt',XN,je,ji,jh,jd,jm,jn,jp,jq,jo,rzZ,Qab,Qac,Qad,Qaa,Qae])
   refine⟨l.length - (k+1),by omega,k+1,by omega,by omega,rfl,?_⟩;rw[es];simp(disch:=decide) only[Qam,Qaq,z0,z1,jf,jb,and_true,true_and,i0,e2]
  ·have hlt':¬ (k:Int)<(l.length:Int):=by omega
   have hk':k=l.length:=by omega
   subst hk';rw[Qaz] at i3;repeat'(first|(apply jc<;>intro _)|simp(disch:=first|exact dzG|fail) only[ja i0,ja i3,ja i4,hlt',je,ji,jh,jd,jm,jn,jp,jq,jo,rzZ,Qab,Qac,Qad,Qaa,Qae])
   exact G0.v rfl rfl
 ·refine⟨1,by omega,by omega,rfl,?_⟩;rw[e1];simp(disch:=decide) only[Qam,Qaq,z0,z1,jf,jb,and_true,true_and]
theorem jsc (hb:NB base)(l:List Int)(h0:0<l.length)(hl:l.length<=1000000):PX Qaf base 168 [.lst l.length (l.map (AV.int .i64))] (.ok (.int .i64 (Vq l))):=by
 have z:¬ ((l.length:Int)<1):=by omega
 have e1:Vq (l.take 1)=l[0]:=by match l,h0 with|x :: xs,_=>rfl
 refine jE jsx (by rfl) (hb.pur 168 1 (by decide)) ?_;simp only[joi,jt,Qai,Qaj,Qag,Qah];rw[(by unfold ji8;simp only[qq];rfl:ji8=_)];repeat'(first|(apply jc<;>intro _)|simp(disch:=first|exact dzG|fail) only[z,XN,je,ji,jh,jd,jm,jn,jp,jq,jo,rzZ,Qab,Qac,Qad,Qaa,Qae])
 refine zj (λmm L s=>∃ k:Nat,1<=k/\k<=l.length/\mm=l.length - k/\Has L 0 (.lst l.length (l.map (AV.int .i64)))/\Has L 3 (.int .i64 (Vq (l.take k)))/\Has L 4 (.int .i64 (k:Int))) ?_ (l.length - 1) ?_
 ·rintro m L s ⟨k,hk1,hk,rfl,i0,i3,i4⟩;by_cases hlt:k<l.length
  ·have hlt':(k:Int)<(l.length:Int):=by omega
   have es:=jpZ hk1 hlt;have e2:(((k+1:Nat):Int))=(k:Int)+1:=by omega
   repeat'(first|(apply jc<;>intro _)|simp(disch:=first|exact dzG|fail) only[ja i0,ja i3,ja i4,hlt',XN,je,ji,jh,jd,jm,jn,jp,jq,jo,rzZ,Qab,Qac,Qad,Qaa,Qae])
   refine⟨l.length - (k+1),by omega,k+1,by omega,by omega,rfl,?_⟩;rw[es];simp(disch:=decide) only[Qam,Qaq,z0,z1,jf,jb,and_true,true_and,i0,e2]
  ·have hlt':¬ (k:Int)<(l.length:Int):=by omega
   have hk':k=l.length:=by omega
   subst hk';rw[Qaz] at i3;repeat'(first|(apply jc<;>intro _)|simp(disch:=first|exact dzG|fail) only[ja i0,ja i3,ja i4,hlt',je,ji,jh,jd,jm,jn,jp,jq,jo,rzZ,Qab,Qac,Qad,Qaa,Qae])
   exact G0.v rfl rfl
 ·refine⟨1,by omega,by omega,rfl,?_⟩;rw[e1];simp(disch:=decide) only[Qam,Qaq,z0,z1,jf,jb,and_true,true_and]
theorem yM:∀ l:List Int,(l.map (AV.int .i64)).all pc=true
 |[]=>rfl
 |x :: xs=>by rw[Qai,Qbe,yM xs];rfl
theorem jq6 (hb:NB base)(l:List Int)(h0:0<l.length)(hl:l.length<=1000000):PX Qaf base 153 [.lst l.length (l.map (AV.int .i64))] (.ok (.tup [.int .i64 (Vp l),.int .i64 (Vq l)])):=by
 have A:=hb.tot (jsb hb l h0 hl) rfl rfl;have B:=hb.tot (jsc hb l h0 hl) rfl rfl;refine jE jsC (by rfl) (hb.pur 153 1 (by decide)) ?_;simp only[jon,jt,Qai,Qaj,Qag,Qah];rw[(by unfold jjd;simp only[qq];rfl:jjd=_)];repeat'(first|(apply jc<;>intro _)|simp(disch:=first|exact dzG|fail) only[A,B,je,ji,jh,jd,jm,jn,jp,jq,jo,rzZ,Qab,Qac,Qad,Qaa,Qae])
 exact G0.tupi rfl
theorem jgT (hb:NB base)(l:List Int){cs:List AV}{n:Nat}(hc:l.map (AV.int .i64)=cs)(hn:l.length=n)(h0:0<n)(hl:n<=1000000)(st:St)(b m:Nat)(x:Bool)(D:Cl st b cs)(K Kp:AV->St->Prop) :
  XB Qaf base 153 [.slice b 0 n m 1 x] st K Kp=K (.tup [.int .i64 (Vp l),.int .i64 (Vq l)]) (kl b st):=by
 subst hc hn;have F:Fza st [.slice b 0 l.length m 1 x] [.lst l.length (l.map (AV.int .i64))] [b]:=Fza.sl D (by simp) (yM l) .nil;exact(jq6 hb l h0 hl).xf F (λst=>hb.no 153 (by decide) _ _) K Kp
def zK (op:Int)(a b:MtT):Int×Int:=
 if op=5 then(min (-a.lo) (-a.hi),max (-a.lo) (-a.hi))
 else if op=15 then(min (a.lo+b.lo) (a.hi+b.hi),max (a.lo+b.lo) (a.hi+b.hi))
 else if op=16 then(min (a.lo - b.hi) (a.hi - b.lo),max (a.lo - b.hi) (a.hi - b.lo))
 else(min (min (min (a.lo * b.lo) (a.lo * b.hi)) (a.hi * b.lo)) (a.hi * b.hi),max (max (max (a.lo * b.lo) (a.lo * b.hi)) (a.hi * b.lo)) (a.hi * b.hi))
def Z9 (m:MtT):Prop:=-100000000<=m.lo/\m.lo<=100000000/\-100000000<=m.hi/\m.hi<=100000000
theorem KA {a b:Int}(h1 : -100000000<=a)(h2:a<=100000000)(h3 : -100000000<=b)(h4:b<=100000000) : -10000000000000000<=a * b/\a * b<=10000000000000000:=by
 have e:a.natAbs * b.natAbs<=100000000 * 100000000:=Nat.mul_le_mul (by omega) (by omega);have e2:(a * b).natAbs=a.natAbs * b.natAbs:=Int.natAbs_mul a b;omega
set_option maxHeartbeats 1000000 in
theorem jiJ (hb:NB base)(op:Int)(ms:List MtT)(h0:0<ms.length)(hl:ms.length<=2)(he:∀ m∈ms,Z9 m)(a b:MtT)(ha:ms[0]=a)(hb2:ms[ms.length - 1]=b) :
  PX Qaf base 134 [.int .i64 op,.lst ms.length (fl mtE ms)] (.ok (.tup [.int .i64 (zK op a b).1,.int .i64 (zK op a b).2])):=by
 obtain⟨a1,a2,a3,a4⟩:=ha▸he _ (Qat h0);obtain⟨b1,b2,b3,b4⟩:=hb2▸he _ (Qat (show ms.length - 1<ms.length by omega));have m1:=KA a1 a2 b1 b2;have m2:=KA a1 a2 b3 b4;have m3:=KA a3 a4 b1 b2;have m4:=KA a3 a4 b3 b4;have ld0:∀ (st:St) (K:AV->St->Prop),jl (zg 4 (.lptr (fl mtE ms) 0) st) K=K (.agg (mtE a)) st:=λst K=>by
  have:=jak (st:=st) (K:=K) h0;rw[Qbp,ha] at this;exact this
 have ld1:∀ (st:St) (K:AV->St->Prop),jl (zg 4 (.lptr (fl mtE ms) ((ms.length - 1) * 4)) st) K=K (.agg (mtE b)) st:=λst K=>by
  have:=jak (st:=st) (K:=K) (show ms.length - 1<ms.length by omega);rw[hb2] at this;exact this
 have el:((ms.length:Int) - 1).toNat=ms.length - 1:=by omega
 have S2:=λ(p q:Int)=>jgT hb [p,q] (cs:=[.int .i64 p,.int .i64 q]) (n:=2) rfl rfl (by decide) (by decide);have S4:=λ(p q r t:Int)=>jgT hb [p,q,r,t] (cs:=[.int .i64 p,.int .i64 q,.int .i64 r,.int .i64 t]) (n:=4) rfl rfl (by decide) (by decide);have Sa:=S2 (-a.lo) (-a.hi);have Sb:=S2 (a.lo+b.lo) (a.hi+b.hi);have Sc:=S2 (a.lo - b.hi) (a.hi - b.lo);have Sd:=S4 (a.lo * b.lo) (a.lo * b.hi) (a.hi * b.lo) (a.hi * b.hi);clear S2 S4;clear he;refine jE jsR (by rfl) (hb.pur 134 1 (by decide)) ?_;simp only[joC,jt,Qai,Qaj,Qag,Qah];rw[(by unfold jjr;simp only[qq];rfl:jjr=_)];repeat'(first|(apply jc<;>intro _)|simp(disch:=first|exact dzG|fail) only[el,ld0,ld1,Sa,Sb,Sc,Sd,je,ji,jh,jd,jm,jn,jp,jq,jo,rzZ,Qab,Qac,Qad,Qaa,Qae])
 all_goals(refine G0.tupi ?_;unfold zK Vp Vq;simp_all)
end Go.Sy
end
noncomputable section
set_option maxRecDepth 100000
namespace Go.Sy
open Go.Ev Go.Proofs
variable {base:Bs}
inductive KR (α:Type) where
 |ok (x:α)
 |er (c l k:Int)
def qg (vars:List VarT)(s:List Nat):Int:=fi (λx=>decide (x.name=s)) vars
theorem jh6 (hb:NB base)(vars:List VarT)(hl:vars.length<=BIG)(s:List Nat)(st:St)(b:Nat)(C:Cl st b [.str s])(K Kp:AV->St->Prop) :
  XB Qaf base 125 [.lst vars.length (fl vaE vars),.fn 126 [.ptr b 0]] st K Kp=K (.int .i64 (qg vars s)) st:=by
 refine(jh5 hb vars hl s).xb (Q4 rfl (yC ?_ rfl)) (λst=>hb.no 125 (by decide) _ _) K Kp;show(J7 st.h [.ptr b 0]).map (AV.fn 126)=_;have:ZI st.h (.ptr b 0)=some (.lptr [.str s] 0):=vn C (J9 (WH 8 rfl) rfl Gd);simp only[J7,this];rfl
theorem kV (hb:NB base)(vars:List VarT)(hl:vars.length<=BIG)(s:List Nat)(r:List AV):PL Qaf base 97 [.lptr (.lst vars.length (fl vaE vars) :: r) 0,.str s] (.ok (.int .i64 (qg vars s))):=by
 refine Jr jta (by rfl) (hb.pur 97 5 (by decide)) rfl ?_;simp only[joV,jt,Qai,Qaj,Qag,Qah];rw[(by unfold jjK;simp only[qq];rfl:jjK=_)];have F:=jh6 hb vars hl s;repeat'(first|(apply jc<;>intro _)|simp(disch:=first|exact dzG|fail) only[F,zU,je,ji,jh,jd,jm,jn,jp,jq,jo,rzZ,Qab,Qac,Qad,Qaa,Qae])
 exact G0.v rfl rfl
def zy:List EnumT->List Nat->List Nat×Int
 |[],_=>([],-1)
 |e :: es,nm=>if 0<=fi (λv=>decide (nm=v)) e.vals then(e.name,fi (λv=>decide (nm=v)) e.vals) else zy es nm
theorem ja8:∀ {es:List EnumT} {nm:List Nat} {k:Nat} (h:k<es.length),(∀ j (hj:j<es.length),j<k->fi (λv=>decide (nm=v)) es[j].vals<0)->0<=fi (λv=>decide (nm=v)) es[k].vals->zy es nm=(es[k].name,fi (λv=>decide (nm=v)) es[k].vals)
 |e :: es,nm,0,h,_,h2=>by simp only[Qby] at h2 ⊢;rw[zy,if_pos h2]
 |e :: es,nm,k+1,h,h1,h2=>by
  have h0:=h1 0 (by simp) (by omega);simp only[Qby] at h0;rw[zy,if_neg (by omega)];simp only[QbG] at h2 ⊢;exact ja8 (by simpa using h) (λj hj hjk=>by have:=h1 (j+1) (by simpa using hj) (by omega);simpa only[QbG] using this) h2
theorem ja7:∀ {es:List EnumT} {nm:List Nat},(∀ j (hj:j<es.length),fi (λv=>decide (nm=v)) es[j].vals<0)->zy es nm=([],-1)
 |[],nm,_=>rfl
 |e :: es,nm,h=>by
  have h0:=h 0 (by simp);simp only[Qby] at h0;rw[zy,if_neg (by omega)];exact ja7 λj hj=>by have:=h (j+1) (by simpa using hj);simpa only[QbG] using this
theorem jcQ {s:St}{a:List Nat}{b:Int}{u:AV}(h:u=.tup [.str a,.int .i64 b]):G0 u (.tup [.str a,.int .i64 b]) s:=by
 subst h;exact FzD.tup (.cons (.pc rfl) (.cons (.pc rfl) .nil))
theorem jmI (hb:NB base)(enums:List EnumT)(hl:enums.length<=BIG)(hv:∀ e∈enums,e.vals.length<=1000000)(nm:List Nat)(v:AV)(r:List AV):PL Qaf base 152 [.lptr (v :: .lst enums.length (fl enE enums) :: r) 0,.str nm] (.ok (.tup [.str (zy enums nm).1,.int .i64 (zy enums nm).2])):=by
 refine Jr jsD (by rfl) (hb.pur 152 5 (by decide)) rfl ?_;simp only[joo,jt,Qai,Qaj,Qag,Qah];rw[(by unfold jje;simp only[qq];rfl:jje=_)];unfold BIG at hl;repeat'(first|(apply jc<;>intro _)|simp(disch:=first|exact dzG|fail) only[zU,je,ji,jh,jd,jm,jn,jp,jq,jo,rzZ,Qab,Qac,Qad,Qaa,Qae])
 refine qb enums.length (λk L s=>(∀ j (hj:j<enums.length),j<k->fi (λv=>decide (nm=v)) enums[j].vals<0)/\Has L 1 (.str nm)/\Has L 13 (.lst enums.length (fl enE enums))) (by first|assumption|omega) (by decide) (by simp(disch:=decide) only[jf,jb]) (by simp(disch:=decide) only[jf,jb]) ?_ (λk L s v h=>by simp(disch:=decide) only[jb];exact h) (λk L s v h=>by simp(disch:=decide) only[jb];exact h) (λk L s hk hI hi hn=>?_) (λL s hI=>?_)
 ·refine⟨λj _ hj=>absurd hj (QaZ _),?_⟩;simp(disch:=decide) only[Qam,Qaq,z0,z1,jf,jb,and_true,true_and]
 ·obtain⟨h0,i1,i13⟩:=hI;have X:=jmy hb enums[k].vals (hv _ (Qat hk)) nm;repeat'(first|(apply jc<;>intro _)|simp(disch:=first|exact dzG|fail) only[ja i1,ja i13,ja hi,ja hn,X,je,ji,jh,jd,jm,jn,jp,jq,jo,rzZ,Qab,Qac,Qad,Qaa,Qae])
  ·rename_i h;refine jcQ ?_;rw[ja8 hk h0 (by omega)]
  ·rename_i h;refine⟨⟨λj hj hjk=>?_,?_⟩,?_⟩
   ·rcases QaT j k with h2|h2
    ·exact h0 j hj h2
    ·have:j=k:=by omega
     subst this;omega
   ·simp(disch:=decide) only[Qam,Qaq,z0,z1,jf,jb,and_true,true_and,i1,i13]
   ·simp(disch:=decide) only[Qam,Qaq,z0,z1,jf,jb,and_true,true_and,hi,hn]
 ·obtain⟨h0,i1,i13⟩:=hI;repeat'(first|(apply jc<;>intro _)|simp(disch:=first|exact dzG|fail) only[je,ji,jh,jd,jm,jn,jp,jq,jo,rzZ,Qab,Qac,Qad,Qaa,Qae])
  refine jcQ ?_;rw[ja7 λj hj=>h0 j hj hj];rfl
def mt0:MtT:=⟨0,[],0,0⟩
def zq (vars:List VarT)(enums:List EnumT)(x:Ex):KR (Ex×MtT):=
 if 0<=qg vars x.name then
  (let v:=vars.getD (qg vars x.name).toNat ⟨[],0,[],0,0,false,0⟩
   .ok (.mk 4 (qg vars x.name) [] [] x.line x.col,⟨v.kind,v.enum,v.lo,v.hi⟩))
 else if(zy enums x.name).2<0 then .er 161 x.line x.col
 else .ok (.mk 1 (zy enums x.name).2 [] [] x.line x.col,⟨3,(zy enums x.name).1,(zy enums x.name).2,(zy enums x.name).2⟩)
def kO (r:KR (Ex×MtT)):Oc:=match r with
 |.ok x=>.ok (.tup [.agg (eE x.1),.agg (mtE x.2)])
 |.er c l k=>.pn (kf c l k)
theorem ZJ {α:Type}{q:α->Bool}:∀ {xs:List α},fi q xs<(xs.length:Int)
 |[]=>by simp[fi]
 |x :: xs=>by
  have:=ZJ (q:=q) (xs:=xs);have hl:((x :: xs).length:Int)=(xs.length:Int)+1:=by simp
  rw[hl];unfold fi;split
  ·omega
  ·split<;>omega
set_option maxHeartbeats 1000000 in
theorem jne (hb:NB base)(vars:List VarT)(enums:List EnumT)(hl:vars.length<=BIG)(hl2:enums.length<=BIG)(hv:∀ e∈enums,e.vals.length<=1000000)(x:Ex)(r:List AV) :
  PL Qaf base 131 [.lptr (.lst vars.length (fl vaE vars) :: .lst enums.length (fl enE enums) :: r) 0,.agg (eE x)] (kO (zq vars enums x)):=by
 have V:=λst K Kp=>(kV hb vars hl x.name (.lst enums.length (fl enE enums) :: r)).pa (by rfl) (λst=>hb.no 97 (by decide) _ _) st K Kp;have W:=λst K Kp=>(jmI hb enums hl2 hv x.name (.lst vars.length (fl vaE vars)) r).pa (by rfl) (λst=>hb.no 152 (by decide) _ _) st K Kp;have VT:=qg vars x.name;by_cases h1:0<=qg vars x.name
 ·have hlt:qg vars x.name<(vars.length:Int):=ZJ;have hlt2:(qg vars x.name).toNat<vars.length:=by omega
  obtain⟨v,hv⟩:∃ v,vars[(qg vars x.name).toNat]=v:=⟨_,rfl⟩;have hn:zq vars enums x=.ok (.mk 4 (qg vars x.name) [] [] x.line x.col,⟨v.kind,v.enum,v.lo,v.hi⟩):=by
   unfold zq;rw[if_pos h1];simp only[Qax,Qau hlt2,Qbf,hv]
  rw[hn];refine Jr jjU (by rfl) (hb.pur 131 5 (by decide)) (by rfl) ?_;simp only[jeB,jt,Qai,Qaj,Qag,Qah];rw[(by unfold U3;simp only[qq];rfl:U3=_)]
  (have zz:=aI @yO @yN;(repeat'(first|(apply jc<;>intro _)|simp(disch:=first|exact jY|fail) only[V,h1,zU,hv,sm3,sm9,sm2,yO,yN,je,ji,jh,jd,jm,jn,jp,jq,jo,rzZ,Qab,Qac,Qad,Qaa,Qae]));(all_goals(clear zz)))
  exact FzD.tup (.cons Yp (.cons (.agg (.pc rfl)) .nil))
 ·have h1':qg vars x.name<0:=by omega
  by_cases h2:(zy enums x.name).2<0
  ·have hn:zq vars enums x=.er 161 x.line x.col:=by unfold zq;rw[if_neg h1,if_pos h2]
   rw[hn];refine Jr jjU (by rfl) (hb.pur 131 5 (by decide)) (by rfl) ?_;simp only[jeB,jt,Qai,Qaj,Qag,Qah];rw[(by unfold U3;simp only[qq];rfl:U3=_)];repeat'(first|(apply jc<;>intro _)|simp(disch:=first|exact dzG|fail) only[V,W,h1,h2,zQ hb,zU,kO,je,ji,jh,jd,jm,jn,jp,jq,jo,rzZ,Qab,Qac,Qad,Qaa,Qae])
   exact FzD.iface (FzD.agg (.pc rfl))
  ·have hn:zq vars enums x=.ok (.mk 1 (zy enums x.name).2 [] [] x.line x.col,⟨3,(zy enums x.name).1,(zy enums x.name).2,(zy enums x.name).2⟩):=by unfold zq;rw[if_neg h1,if_neg h2]
   rw[hn];refine Jr jjU (by rfl) (hb.pur 131 5 (by decide)) (by rfl) ?_;simp only[jeB,jt,Qai,Qaj,Qag,Qah];rw[(by unfold U3;simp only[qq];rfl:U3=_)];repeat'(first|(apply jc<;>intro _)|simp(disch:=first|exact dzG|fail) only[V,W,h1,h2,zU,je,ji,jh,jd,jm,jn,jp,jq,jo,rzZ,Qab,Qac,Qad,Qaa,Qae])
   exact FzD.tup (.cons Yp (.cons (.agg (.pc rfl)) .nil))
end Go.Sy
end
noncomputable section
set_option maxRecDepth 100000
namespace Go.Sy
open Go.Ev Go.Proofs
variable {base:Bs}
def V4 (part:Int)(ms:List MtT):Bool:=ms.any λm=>(decide (0<part) && decide (m.kind≠part)) ||decide (m.kind≠(ms.getD 0 mt0).kind) ||decide (m.enum≠(ms.getD 0 mt0).enum)
def Yq (fm:Bool)(op num:Int)(name:List Nat)(l c:Int)(ys:List Ex)(ms:List MtT):KR (Ex×MtT):=
 if ms.length=0\/2<ms.length\/(Wj op=true/\fm=false)\/V4 (qS op).1 ms=true then .er 163 l c
 else if(qS op).2≠1 then .ok (.mk op num name ys l c,⟨(qS op).2,[],0,1⟩)
 else if(zK op (ms.getD 0 mt0) (ms.getD (ms.length - 1) mt0)).1 < -100000000\/100000000<(zK op (ms.getD 0 mt0) (ms.getD (ms.length - 1) mt0)).2 then .er 165 l c
 else .ok (.mk op num name ys l c,⟨(qS op).2,[],(zK op (ms.getD 0 mt0) (ms.getD (ms.length - 1) mt0)).1,(zK op (ms.getD 0 mt0) (ms.getD (ms.length - 1) mt0)).2⟩)
mutual
def yd (vars:List VarT)(enums:List EnumT):Bool->Ex->KR (Ex×MtT)
 |fm,.mk op num name ks l c=>
  if op=1 then .ok (.mk op num name ks l c,⟨1,[],num,num⟩)
  else if op=2 then .ok (.mk op num name ks l c,⟨2,[],0,1⟩)
  else if op=3 then zq vars enums (.mk op num name ks l c)
  else match qk vars enums (fm && decide (op≠17) && decide (op≠18)) ks with
   |.er a b d=>.er a b d
   |.ok r=>Yq fm op num name l c r.1 r.2
def qk (vars:List VarT)(enums:List EnumT):Bool->List Ex->KR (List Ex×List MtT)
 |_,[]=>.ok ([],[])
 |fm,x :: xs=>match yd vars enums fm x with
  |.er a b d=>.er a b d
  |.ok y=>match qk vars enums fm xs with
   |.er a b d=>.er a b d
   |.ok r=>.ok (y.1 :: r.1,y.2 :: r.2)
end
theorem Hg {vars:List VarT}{enums:List EnumT}{fm:Bool}:∀ {xs:List Ex} {ys:List Ex} {ms:List MtT} {x y:Ex} {m:MtT},qk vars enums fm xs=.ok (ys,ms)->yd vars enums fm x=.ok (y,m)->qk vars enums fm (xs ++ [x])=.ok (ys ++ [y],ms ++ [m])
 |[],ys,ms,x,y,m,h,h2=>by
  simp only[qk] at h;cases h;simp only[QaF,qk,h2]
 |z :: xs,ys,ms,x,y,m,h,h2=>by
  simp only[qk] at h;cases hz:yd vars enums fm z with
  |er a b d=>rw[hz] at h;cases h
  |ok w=>
   rw[hz] at h;cases hr:qk vars enums fm xs with
   |er a b d=>rw[hr] at h;cases h
   |ok r=>
    rw[hr] at h;cases h;obtain⟨r1,r2⟩:=r;simp only[Qay,qk,hz,Hg hr h2]
theorem Hi {vars:List VarT}{enums:List EnumT}{fm:Bool}:∀ {xs:List Ex} {ys:List Ex} {ms:List MtT} {x:Ex} {a b d:Int} (zs:List Ex),qk vars enums fm xs=.ok (ys,ms)->yd vars enums fm x=.er a b d->qk vars enums fm (xs ++ x :: zs)=.er a b d
 |[],ys,ms,x,a,b,d,zs,h,h2=>by simp only[QaF,qk,h2]
 |z :: xs,ys,ms,x,a,b,d,zs,h,h2=>by
  simp only[qk] at h;cases hz:yd vars enums fm z with
  |er a b d=>rw[hz] at h;cases h
  |ok w=>
   rw[hz] at h;cases hr:qk vars enums fm xs with
   |er a b d=>rw[hr] at h;cases h
   |ok r=>
    rw[hr] at h;cases h;obtain⟨r1,r2⟩:=r;simp only[Qay,qk,hz,Hi zs hr h2]
theorem Jl {vars:List VarT}{enums:List EnumT}{fm:Bool}:∀ {xs:List Ex} {ys:List Ex} {ms:List MtT},qk vars enums fm xs=.ok (ys,ms)->ys.length=xs.length/\ms.length=xs.length
 |[],ys,ms,h=>by simp only[qk] at h;cases h;exact⟨rfl,rfl⟩
 |z :: xs,ys,ms,h=>by
  simp only[qk] at h;cases hz:yd vars enums fm z with
  |er a b d=>rw[hz] at h;cases h
  |ok w=>
   rw[hz] at h;cases hr:qk vars enums fm xs with
   |er a b d=>rw[hr] at h;cases h
   |ok r=>
    rw[hr] at h;cases h;obtain⟨r1,r2⟩:=r;have:=Jl hr;simp[this.1,this.2]
theorem WE (vars:List VarT)(enums:List EnumT)(fm:Bool)(x:Ex):yd vars enums fm x=if x.op=1 then .ok (x,⟨1,[],x.num,x.num⟩) else if x.op=2 then .ok (x,⟨2,[],0,1⟩) else if x.op=3 then zq vars enums x else match qk vars enums (fm && decide (x.op≠17) && decide (x.op≠18)) x.kids with
 |.er a b d=>.er a b d
 |.ok r=>Yq fm x.op x.num x.name x.line x.col r.1 r.2:=by cases x;rw[yd];rfl
structure VarsOK (vars:List VarT)(enums:List EnumT):Prop where
 len:vars.length<=1000000
 len2:enums.length<=1000000
 vals:∀ e∈enums,e.vals.length<=1000000
 ends:∀ v∈vars,-100000000<=v.lo/\v.lo<=100000000/\-100000000<=v.hi/\v.hi<=100000000
mutual
def ZG:Ex->Bool
 |.mk op num _ ks _ _=>(decide (op≠1) ||(decide (-100000000<=num) && decide (num<=100000000))) && J6 ks
def J6:List Ex->Bool
 |[]=>true
 |x :: xs=>ZG x && J6 xs
end
theorem jjZ {enums:List EnumT}{nm:List Nat}(h:∀ e∈enums,e.vals.length<=1000000) : -1<=(zy enums nm).2/\(zy enums nm).2<=1000000:=by
 induction enums with
 |nil=>simp[zy]
 |cons e es ih=>
  rw[zy];have h1:=h e (by simp);have h2:=ZJ (q:=λv=>decide (nm=v)) (xs:=e.vals);split
  ·dsimp only;omega
  ·exact ih λe he=>h e (by simp[he])
theorem jcW {vars:List VarT}{enums:List EnumT}(V:VarsOK vars enums){x y:Ex}{m:MtT}(h:zq vars enums x=.ok (y,m)):Z9 m:=by
 unfold zq at h;split at h
 ·rename_i h1;cases h;have hlt:qg vars x.name<(vars.length:Int):=ZJ;have hlt2:(qg vars x.name).toNat<vars.length:=by omega
  have:vars.getD (qg vars x.name).toNat ⟨[],0,[],0,0,false,0⟩∈vars:=by
   rw[Qax,Qau hlt2];exact Qat hlt2
  exact V.ends _ this
 ·split at h
  ·cases h
  ·cases h;have:=jjZ (nm:=x.name) V.vals;unfold Z9;dsimp only;omega
mutual
theorem jfg {vars:List VarT}{enums:List EnumT}(V:VarsOK vars enums):∀ (fm:Bool) (x y:Ex) (m:MtT),ZG x=true->yd vars enums fm x=.ok (y,m)->Z9 m
 |fm,.mk op num name ks l c,y,m,hn,h=>by
  rw[ZG,Qar] at hn;rw[yd] at h;split at h
  ·rename_i h1;cases h;have:=hn.1;simp[h1] at this;exact⟨this.1,this.2,this.1,this.2⟩
  ·split at h
   ·cases h;unfold Z9;dsimp only;omega
   ·split at h
    ·exact jcW V h
    ·split at h
     ·cases h
     ·rename_i r hr;unfold Yq at h;split at h
      ·cases h
      ·split at h
       ·cases h;unfold Z9;dsimp only;omega
       ·split at h
        ·cases h
        ·rename_i h5;cases h;unfold Z9;dsimp only;have e:(zK op (r.2.getD 0 mt0) (r.2.getD (r.2.length - 1) mt0)).1<=(zK op (r.2.getD 0 mt0) (r.2.getD (r.2.length - 1) mt0)).2:=by
          unfold zK;split
          ·dsimp only;omega
          ·split
           ·dsimp only;omega
           ·split
            ·dsimp only;omega
            ·dsimp only;omega
         omega
end
theorem UY {vars:List VarT}{enums:List EnumT}(V:VarsOK vars enums){fm:Bool}:∀ {xs ys:List Ex} {ms:List MtT},J6 xs=true->qk vars enums fm xs=.ok (ys,ms)->∀ m∈ms,Z9 m
 |[],ys,ms,_,h,m,hm=>by simp only[qk] at h;cases h;cases hm
 |z :: xs,ys,ms,hn,h,m,hm=>by
  rw[J6,Qar] at hn;simp only[qk] at h;cases hz:yd vars enums fm z with
  |er a b d=>rw[hz] at h;cases h
  |ok w=>
   rw[hz] at h;cases hr:qk vars enums fm xs with
   |er a b d=>rw[hr] at h;cases h
   |ok r=>
    rw[hr] at h;cases h;obtain⟨r1,r2⟩:=r;obtain⟨w1,w2⟩:=w;rcases Qbv.1 hm with rfl|hm
    ·exact jfg V fm z w1 _ hn.1 hz
    ·exact UY V hn.2 hr m hm
theorem GZ:∀ {xs:List Ex} {k:Nat} (h:k<xs.length),J6 xs=true->ZG xs[k]=true
 |x :: xs,0,_,h=>by rw[J6,Qar] at h;exact h.1
 |x :: xs,k+1,hk,h=>by rw[J6,Qar] at h;exact GZ (xs:=xs) (k:=k) (by simpa using hk) h.2
end Go.Sy
end
noncomputable section
set_option maxRecDepth 100000
namespace Go.Sy
open Go.Ev Go.Proofs
variable {base:Bs}
structure Ck (p:Nat)(v1 v2 v3 mm:AV)(vars:List VarT)(enums:List EnumT)(fm:Bool)(s:St):Prop where
 cl:Cl s p [v1,v2,v3,mm,.bool fm]
 l1:Lr s v1 vars.length (fl vaE vars)
 l2:Lr s v2 enums.length (fl enE enums)
 n1:∀ b m z x,v1=.slice b 0 vars.length m z x->b≠p
 n2:∀ b m z x,v2=.slice b 0 enums.length m z x->b≠p
section
variable {p:Nat} {v1 v2 v3 mm:AV} {vars:List VarT} {enums:List EnumT} {fm:Bool} {s s':St}
theorem Ck.keep (h:Ck p v1 v2 v3 mm vars enums fm s)(k:Keep p s s'){fm':Bool}(C:Cl s' p [v1,v2,v3,mm,.bool fm']):Ck p v1 v2 v3 mm vars enums fm' s':=⟨C,k.lr h.l1 h.n1,k.lr h.l2 h.n2,h.n1,h.n2⟩
theorem Ck.lend (h:Ck p v1 v2 v3 mm vars enums fm s):∃ r,lend s.h (.ptr p 0)=some (.lptr (.lst vars.length (fl vaE vars) :: .lst enums.length (fl enE enums) :: r) 0):=by
 have e1:=h.l1.fz (d:=7) (yT YK vars);have e2:=h.l2.fz (d:=7) (yT JN enums);exact⟨_,vn h.cl (J9 e1 rfl (J9 e2 rfl rfl))⟩
end
set_option maxHeartbeats 4000000 in
theorem jnf (hb:NB base){vars:List VarT}{enums:List EnumT}(V:VarsOK vars enums)(x:Ex){p:Nat}{v1 v2 v3 mm:AV}{fm:Bool}(st:St)(C:Ck p v1 v2 v3 mm vars enums fm st)(K Kp:AV->St->Prop) :
  XB Qaf base 131 [.ptr p 0,.agg (eE x)] st K Kp=Yo (kO (zq vars enums x)) K Kp st:=by
 obtain⟨r,hr⟩:=C.lend;have h1:=V.len;have h2:=V.len2;exact(jne hb vars enums (by unfold BIG;omega) (by unfold BIG;omega) V.vals x r).xb (yC hr (Q4 (by first|rfl|simp[pa,pc,qY,QW,JN,Ju,YK,wh,YX,Jj,ZH]) rfl)) (λst=>hb.no 131 (by decide) _ _) K Kp
def z6:List AV:=[.int .i64 0,.int .i64 0,.str [],.nils,.int .i64 0,.int .i64 0]
def z4:List AV:=[.int .i64 0,.str [],.int .i64 0,.int .i64 0]
def KC (p:Nat)(v1 v2 v3 mm:AV)(fm:Bool)(st:St)(r:KR (Ex×MtT))(K Kp:AV->St->Prop):Prop:=match r with
 |.ok y=>∀ s',Keep p st s'->Cl s' p [v1,v2,v3,mm,.bool fm]->K (.tup [.agg (eE y.1),.agg (mtE y.2)]) s'
 |.er c l k=>∀ s',Keep p st s'->Kp (kf c l k) s'
theorem jnD {st s:St}{b:Nat}{cs:List AV}:Cl (back st s) b cs=Cl s b cs:=propext ⟨λh=>⟨h.lt,h.row,h.len,h.cell⟩,λh=>⟨h.lt,h.row,h.len,h.cell⟩⟩
theorem Cl.kills {s:St}{b:Nat}{cs:List AV}{ks:List Nat}(C:Cl s b cs)(h:b∉ks):Cl (kills ks s) b cs:=C.keep (Qao _) (by
 show jx (ks.foldr _ s.h) b=_;rw[Yz,if_neg h])
theorem UE {p:Nat}{st s:St}{v u:AV}{cs:List AV}{K:AV->St->Prop}{m:Nat}(F:FzD m 9 s v u)(hm:st.nx<=m)(hp:p<st.nx)(k:Keep p st.bare s)(C:Cl s p cs)(hK:∀ s',Keep p st s'->Cl s' p cs->K u s') :
  ∃ u ks,fz 9 s.h v=some (u,ks)/\K u (back st (kills ks s)):=by
 obtain⟨ks,e,h⟩:=F;have hnx:st.bare.nx=st.nx:=rfl;refine⟨u,ks,e,hK _ (Keep.bare (k.kills λc hc=>by have:=h c hc;omega) st) ?_⟩;rw[jnD];exact C.kills λhm=>by have:=h p hm;omega
theorem YG {p:Nat}{st s:St}(k:Keep p st.bare s):Keep p st (bk st s):=⟨k.nx,rfl,k.get⟩
def iQ (st:St)(K:AV->St->Prop):Out->Prop:=Xa Qaf y97.res λv s=>∃ u ks,fz 9 s.h v=some (u,ks)/\K u (back st (kills ks s))
def iP (st:St)(Kp:AV->St->Prop):AV->Sl->St->Prop:=λv _ s=>Kp v (bk st s)
structure KS (p q:Nat)(v1 v2 v3 mm:AV)(x:Ex)(fm:Bool)(st:St)(ys:List Ex)(ms:List MtT)(vk vm:AV)(L:Sl)(s:St):Prop where
 keep:Keep p st.bare s
 nx:q+4<=s.nx
 qn:q=st.nx
 hp:p<q
 cp:Cl s p [v1,v2,v3,mm,.bool fm]
 c0:Cl s q (eE x)
 c1:Cl s (q+1) z6
 c2:Cl s (q+2) z4
 c3:Cl s (q+3) [.int .i64 x.op,.int .i64 x.num,.str x.name,vk,.int .i64 x.line,.int .i64 x.col]
 lk:Lv (q+4) s.nx s vk ys.length (fl eE ys) 6
 lm:Lv (q+4) s.nx s vm ms.length (fl mtE ms) 4
 df:Df vk vm
 i0:Has L 0 (.ptr p 0)
 i3:Has L 3 (.ptr q 0)
 i4:Has L 4 (.ptr (q+1) 0)
 i5:Has L 5 (.ptr (q+2) 0)
 i6:Has L 6 (.ptr (q+3) 0)
 i7:Has L 7 vm
def kL (fm:Bool)(op:Int)(ms:List MtT):Bool:=decide (ms.length=0) ||decide (2<ms.length) ||(Wj op && !fm) ||V4 (qS op).1 ms
theorem jkC {fm:Bool}{op num:Int}{name:List Nat}{l c:Int}{ys:List Ex}{ms:List MtT}(h:kL fm op ms=true):Yq fm op num name l c ys ms=.er 163 l c:=by
 unfold Yq;unfold kL at h;simp only[QaX,decide_eq_true_eq,Qar,Qbb] at h;rw[if_pos (by simpa only[or_assoc] using h)]
theorem jqX {fm:Bool}{op:Int}{ms:List MtT}(h:kL fm op ms=false):¬ (ms.length=0\/2<ms.length\/(Wj op=true/\fm=false)\/V4 (qS op).1 ms=true):=by
 intro h2;have:kL fm op ms=true:=by
  unfold kL;simp only[QaX,decide_eq_true_eq,Qar,Qbb];simpa only[or_assoc] using h2
 rw[this] at h;cases h
theorem Lv.klD {lo hi n z:Nat}{s:St}{v:AV}{cs:List AV}{b o m1 m2 z2:Nat}{x:Bool}(V:Lv lo hi s v n cs z)(h:Df v (.slice b o m1 m2 z2 x)):Lv lo hi (kl b s) v n cs z:=by
 rcases V with e|⟨c,rfl,h2,h3,h4,h5,h6⟩
 ·exact .inl e
 ·exact .inr ⟨c,rfl,h2,h3,(jQ (λe=>h e.symm)).symm▸h4,h5,h6⟩
theorem jhm (hb:NB base)(op:Int)(ms:List MtT)(h0:0<ms.length)(hl:ms.length<=2)(he:∀ m∈ms,Z9 m)(st:St)(b m:Nat)(y:Bool)(D:Cl st b (fl mtE ms))(K Kp:AV->St->Prop) :
  XB Qaf base 134 [.int .i64 op,.slice b 0 ms.length m 4 y] st K Kp=K (.tup [.int .i64 (zK op (ms.getD 0 mt0) (ms.getD (ms.length - 1) mt0)).1,.int .i64 (zK op (ms.getD 0 mt0) (ms.getD (ms.length - 1) mt0)).2]) (kl b st):=by
 have e0:ms[0]=ms.getD 0 mt0:=by simp[QaN,h0]
 have e1:ms[ms.length - 1]=ms.getD (ms.length - 1) mt0:=by simp[QaN,show ms.length - 1<ms.length by omega]
 have F:Fza st [.int .i64 op,.slice b 0 ms.length m 4 y] [.int .i64 op,.lst ms.length (fl mtE ms)] [b]:=Fza.pa rfl (Fza.sl D (zY X7 ms).symm (yT ZH ms) .nil);exact(jiJ hb op ms h0 hl he _ _ e0 e1).xf F (λst=>hb.no 134 (by decide) _ _) K Kp
set_option maxHeartbeats 4000000 in
theorem jql (hb:NB base){p q:Nat}{v1 v2 v3 mm:AV}{x:Ex}{fm b:Bool}{st:St}{ys:List Ex}{ms:List MtT}{vk vm:AV}{L:Sl}{s:St}(S:KS p q v1 v2 v3 mm x fm st ys ms vk vm L s)(hb2:kL fm x.op ms=b)(he:∀ m∈ms,Z9 m)
  (i13:Has L 13 (.int .i64 (qS x.op).1)) (i14:Has L 14 (.int .i64 (qS x.op).2)) (i15:Has L 15 (.bool b)) (K Kp:AV->St->Prop) (hK:KC p v1 v2 v3 mm fm st (Yq fm x.op x.num x.name x.line x.col ys ms) K Kp) :
  xC Qaf base jen L s (iQ st K) (iP st Kp):=by
 obtain⟨k,nx,qn,hp,Cp,C0,C1,C2,C3,lk,lm,df,i0,i3,i4,i5,i6,i7⟩:=S;have hnp:p<s.nx:=Cp.lt;unfold z6 z4 at *;unfold iQ iP y97;rw[(by unfold jen;simp only[qq];rfl:jen=_)];cases b with
 |true=>
  rw[jkC hb2] at hK
  (have zz:=C0.r;(repeat'(first|(apply jc<;>intro _)|simp(disch:=first|exact jY|fail) only[ja i0,ja i3,ja i15,zQ hb,C0.q,C0.r,je,ji,jh,jd,jm,jn,jp,jq,jo,rzZ,Qab,Qac,Qad,Qaa,Qae]));(all_goals(clear zz)))
  exact hK _ (YG k)
 |false=>
  have hnb:=jqX hb2;have hlen:0<ms.length/\ms.length<=2:=by omega
  unfold Yq at hK;rw[if_neg hnb] at hK;have vc:∀ l,lall AV.cell (vk :: l)=lall AV.cell l:=λl=>by show cond vk.cell _ false=_;rw[lk.cell];rfl
  have qnx:q+4<=st.nx+4:=by omega
  by_cases ho:(qS x.op).2=1
  ·rw[if_neg (by simpa using ho)] at hK;rcases lm with ⟨_,h9,_⟩|⟨d,rfl,h2,h3,C5,h5,h6⟩
   ·omega
   have N:=jhm hb x.op ms hlen.1 hlen.2 he;obtain⟨r1,r2,hr⟩:∃ r1 r2,zK x.op (ms.getD 0 mt0) (ms.getD (ms.length - 1) mt0)=(r1,r2):=⟨_,_,rfl⟩;rw[hr] at hK N;dsimp only at hK N;have f1:(r1 < -(99999999+1))=(r1 < -100000000):=by rfl
   by_cases hr1:r1 < -100000000
   ·rw[if_pos (.inl hr1)] at hK
    (have zz:=aI C0.r (aI C1.r (aI C2.r (aI C3.r C5.r)));(repeat'(first|(apply jc<;>intro _)|simp(disch:=first|exact jY|fail) only[ja i0,ja i3,ja i4,ja i5,ja i6,ja i7,ja i14,ja i15,ho,N,f1,hr1,zQ hb,C0.q,C1.q,C2.q,C3.q,C5.q,C0.r,C1.r,C2.r,C3.r,C5.r,je,ji,jh,jd,jm,jn,jp,jq,jo,rzZ,Qab,Qac,Qad,Qaa,Qae]));(all_goals(clear zz)))
    exact hK _ (YG (k.kl (by show st.nx<=_;omega)))
   ·by_cases hr2:100000000<r2
    ·rw[if_pos (.inr hr2)] at hK
     (have zz:=aI C0.r (aI C1.r (aI C2.r (aI C3.r C5.r)));(repeat'(first|(apply jc<;>intro _)|simp(disch:=first|exact jY|fail) only[ja i0,ja i3,ja i4,ja i5,ja i6,ja i7,ja i14,ja i15,ho,N,f1,hr1,hr2,zQ hb,C0.q,C1.q,C2.q,C3.q,C5.q,C0.r,C1.r,C2.r,C3.r,C5.r,je,ji,jh,jd,jm,jn,jp,jq,jo,rzZ,Qab,Qac,Qad,Qaa,Qae]));(all_goals(clear zz)))
     exact hK _ (YG (k.kl (by show st.nx<=_;omega)))
    ·rw[if_neg (by omega)] at hK;have hK:∀ s',Keep p st s'->Cl s' p [v1,v2,v3,mm,.bool fm]->K (.tup [.agg (eE (.mk x.op x.num x.name ys x.line x.col)),.agg (mtE ⟨(qS x.op).2,[],r1,r2⟩)]) s':=hK;rw[qG] at hK
     (have zz:=aI @vc (aI C0.r (aI C1.r (aI C2.r (aI C3.r C5.r))));(repeat'(first|(apply jc<;>intro _)|simp(disch:=first|exact jY|fail) only[ja i0,ja i3,ja i4,ja i5,ja i6,ja i7,ja i14,ja i15,ho,N,f1,hr1,hr2,C0.q,C1.q,C2.q,C3.q,C5.q,vc,C0.r,C1.r,C2.r,C3.r,C5.r,je,ji,jh,jd,jm,jn,jp,jq,jo,rzZ,Qab,Qac,Qad,Qaa,Qae]));(all_goals(clear zz)))
     rw[ho] at hK;refine UE (m:=st.nx) (cs:=[v1,v2,v3,mm,.bool fm]) (FzD.tup (.cons (FzD.agg (.cons (.pc rfl) (.cons (.pc rfl) (.cons (.pc rfl) (.cons (Lv.fz (lo:=q+4) (hi:=s.nx) (z:=6) ?_ (by omega) (yT qY _)) (.cons (.pc rfl) (.cons (.pc rfl) .nil))))))) (.cons (.agg (.pc rfl)) .nil))) (Qao _) (by omega) ?_ ?_ hK
     ·have:=lk.klD df
      (first|exact this|(simp(disch:=first|assumption|decide|(first|omega|(simp only[jg,jj,ju,jr,jk];first|done|omega))) only[jB,jD,jz,jQ,jA,jF,jG,jJ];exact this))
     ·exact(((k.kl (by show st.nx<=_;omega)).wr (.inr (by show st.nx<=_;omega)) _ _).wr (.inr (by show st.nx<=_;omega)) _ _)
     ·(first|exact Cp|(simp(disch:=first|assumption|decide|(first|omega|(simp only[jg,jj,ju,jr,jk];first|done|omega))) only[jB,jD,jz,jQ,jA,jF,jG,jJ];exact Cp))
  ·rw[if_pos ho] at hK;have hK:∀ s',Keep p st s'->Cl s' p [v1,v2,v3,mm,.bool fm]->K (.tup [.agg (eE (.mk x.op x.num x.name ys x.line x.col)),.agg (mtE ⟨(qS x.op).2,[],0,1⟩)]) s':=hK;rw[qG] at hK
   (have zz:=aI @vc (aI C0.r (aI C1.r (aI C2.r C3.r)));(repeat'(first|(apply jc<;>intro _)|simp(disch:=first|exact jY|fail) only[ja i0,ja i3,ja i4,ja i5,ja i6,ja i14,ja i15,ho,C0.q,C1.q,C2.q,C3.q,vc,C0.r,C1.r,C2.r,C3.r,je,ji,jh,jd,jm,jn,jp,jq,jo,rzZ,Qab,Qac,Qad,Qaa,Qae]));(all_goals(clear zz)))
   refine UE (m:=st.nx) (cs:=[v1,v2,v3,mm,.bool fm]) (FzD.tup (.cons (FzD.agg (.cons (.pc rfl) (.cons (.pc rfl) (.cons (.pc rfl) (.cons (Lv.fz (lo:=q+4) (hi:=s.nx) (z:=6) ?_ (by omega) (yT qY _)) (.cons (.pc rfl) (.cons (.pc rfl) .nil))))))) (.cons (.agg (.pc rfl)) .nil))) (Qao _) (by omega) ?_ ?_ hK
   ·(first|exact lk|(simp(disch:=first|assumption|decide|(first|omega|(simp only[jg,jj,ju,jr,jk];first|done|omega))) only[jB,jD,jz,jQ,jA,jF,jG,jJ];exact lk))
   ·exact((k.wr (.inr (by show st.nx<=_;omega)) _ _).wr (.inr (by show st.nx<=_;omega)) _ _)
   ·(first|exact Cp|(simp(disch:=first|assumption|decide|(first|omega|(simp only[jg,jj,ju,jr,jk];first|done|omega))) only[jB,jD,jz,jQ,jA,jF,jG,jJ];exact Cp))
end Go.Sy
end
noncomputable section
set_option maxRecDepth 100000
namespace Go.Sy
open Go.Ev Go.Proofs
variable {base:Bs}
def jfW (part:Int)(k0:Int)(e0:List Nat)(m:MtT):Bool:=(decide (0<part) && decide (m.kind≠part)) ||decide (m.kind≠k0) ||decide (m.enum≠e0)
theorem Has.bool {c:Nat}{a b:Bool}{L:Sl}(h:a=b):Has ((c,.bool a) :: L) c (.bool b):=by rw[h];simp only[jf]
theorem jnJ (part:Int)(ms:List MtT):V4 part ms=ms.any (jfW part (ms.getD 0 mt0).kind (ms.getD 0 mt0).enum):=rfl
section
variable {p q:Nat} {v1 v2 v3 mm:AV} {x:Ex} {fm:Bool} {st:St} {ys:List Ex} {ms:List MtT} {vk vm:AV} {L:Sl} {s:St}
theorem KS.nw (S:KS p q v1 v2 v3 mm x fm st ys ms vk vm L s)(ds:List AV):KS p q v1 v2 v3 mm x fm st ys ms vk vm L (nw s ds):=by
 obtain⟨k,nx,qn,hp,Cp,C0,C1,C2,C3,lk,lm,df,i0,i3,i4,i5,i6,i7⟩:=S;have h0:=C0.lt;have h1:=C1.lt;have h2:=C2.lt;have h3:=C3.lt;have h4:=Cp.lt;exact⟨k.nw ds,by rw[jg];omega,qn,hp,by(first|exact Cp|(simp(disch:=first|assumption|decide|(first|omega|(simp only[jg,jj,ju,jr,jk];first|done|omega))) only[jB,jD,jz,jQ,jA,jF,jG,jJ];exact Cp)),by(first|exact C0|(simp(disch:=first|assumption|decide|(first|omega|(simp only[jg,jj,ju,jr,jk];first|done|omega))) only[jB,jD,jz,jQ,jA,jF,jG,jJ];exact C0)),by(first|exact C1|(simp(disch:=first|assumption|decide|(first|omega|(simp only[jg,jj,ju,jr,jk];first|done|omega))) only[jB,jD,jz,jQ,jA,jF,jG,jJ];exact C1)),by(first|exact C2|(simp(disch:=first|assumption|decide|(first|omega|(simp only[jg,jj,ju,jr,jk];first|done|omega))) only[jB,jD,jz,jQ,jA,jF,jG,jJ];exact C2)),by(first|exact C3|(simp(disch:=first|assumption|decide|(first|omega|(simp only[jg,jj,ju,jr,jk];first|done|omega))) only[jB,jD,jz,jQ,jA,jF,jG,jJ];exact C3)),((jF (Qao _)).symm▸lk:Lv _ _ (Go.Sy.nw s ds) _ _ _ _).up (by rw[jg];omega),((jF (Qao _)).symm▸lm:Lv _ _ (Go.Sy.nw s ds) _ _ _ _).up (by rw[jg];omega),df,i0,i3,i4,i5,i6,i7⟩
theorem KS.push (S:KS p q v1 v2 v3 mm x fm st ys ms vk vm L s){c:Nat}{v:AV}(h:c≠0/\c≠3/\c≠4/\c≠5/\c≠6/\c≠7):KS p q v1 v2 v3 mm x fm st ys ms vk vm ((c,v) :: L) s:=by
 obtain⟨k,nx,qn,hp,Cp,C0,C1,C2,C3,lk,lm,df,i0,i3,i4,i5,i6,i7⟩:=S;obtain⟨h0,h3,h4,h5,h6,h7⟩:=h;exact⟨k,nx,qn,hp,Cp,C0,C1,C2,C3,lk,lm,df,by rw[jb h0];exact i0,by rw[jb h3];exact i3,by rw[jb h4];exact i4,by rw[jb h5];exact i5,by rw[jb h6];exact i6,by rw[jb h7];exact i7⟩
theorem KS.wr (S:KS p q v1 v2 v3 mm x fm st ys ms vk vm L s){c o:Nat}{ds:List AV}{hi:Nat}(hc:hi<=c)(lk':Lv (q+4) hi s vk ys.length (fl eE ys) 6)(lm':Lv (q+4) hi s vm ms.length (fl mtE ms) 4)(hq:q+4<=hi)(hs:hi<=s.nx):KS p q v1 v2 v3 mm x fm st ys ms vk vm L (wr s c o ds):=by
 obtain⟨k,nx,qn,hp,Cp,C0,C1,C2,C3,lk,lm,df,i0,i3,i4,i5,i6,i7⟩:=S;have h4:=Cp.lt;exact⟨k.wr (.inr (by show st.nx<=_;omega)) _ _,by rw[jj];exact nx,qn,hp,by(first|exact Cp|(simp(disch:=first|assumption|decide|(first|omega|(simp only[jg,jj,ju,jr,jk];first|done|omega))) only[jB,jD,jz,jQ,jA,jF,jG,jJ];exact Cp)),by(first|exact C0|(simp(disch:=first|assumption|decide|(first|omega|(simp only[jg,jj,ju,jr,jk];first|done|omega))) only[jB,jD,jz,jQ,jA,jF,jG,jJ];exact C0)),by(first|exact C1|(simp(disch:=first|assumption|decide|(first|omega|(simp only[jg,jj,ju,jr,jk];first|done|omega))) only[jB,jD,jz,jQ,jA,jF,jG,jJ];exact C1)),by(first|exact C2|(simp(disch:=first|assumption|decide|(first|omega|(simp only[jg,jj,ju,jr,jk];first|done|omega))) only[jB,jD,jz,jQ,jA,jF,jG,jJ];exact C2)),by(first|exact C3|(simp(disch:=first|assumption|decide|(first|omega|(simp only[jg,jj,ju,jr,jk];first|done|omega))) only[jB,jD,jz,jQ,jA,jF,jG,jJ];exact C3)),((jA (.inr hc)).symm▸lk':Lv _ _ (Go.Sy.wr s c o ds) _ _ _ _).up (by rw[jj];exact hs),((jA (.inr hc)).symm▸lm':Lv _ _ (Go.Sy.wr s c o ds) _ _ _ _).up (by rw[jj];exact hs),df,i0,i3,i4,i5,i6,i7⟩
end
set_option maxHeartbeats 4000000 in
theorem jqm (hb:NB base){p q:Nat}{v1 v2 v3 mm:AV}{x:Ex}{fm b:Bool}{st:St}{ys:List Ex}{ms:List MtT}{vk vm:AV}{L:Sl}{s:St}(S:KS p q v1 v2 v3 mm x fm st ys ms vk vm L s)(hb2:(decide (ms.length=0) ||decide (2<ms.length) ||(Wj x.op && !fm))=b)(hml:ms.length<=1000000)(he:∀ m∈ms,Z9 m)
  (i13:Has L 13 (.int .i64 (qS x.op).1)) (i14:Has L 14 (.int .i64 (qS x.op).2)) (i15:Has L 15 (.bool b)) (K Kp:AV->St->Prop) (hK:KC p v1 v2 v3 mm fm st (Yq fm x.op x.num x.name x.line x.col ys ms) K Kp) :
  xC Qaf base jaO L s (iQ st K) (iP st Kp):=by
 have vl:=S.lm.len;have i7:=S.i7;have bq:kL fm x.op ms=(b ||ms.any (jfW (qS x.op).1 (ms.getD 0 mt0).kind (ms.getD 0 mt0).enum)):=by rw[<-jnJ,<-hb2];rfl
 rw[(by unfold jaO;simp only[qq];rfl:jaO=_)];repeat'(first|(apply jc<;>intro _)|simp(disch:=first|exact dzG|fail) only[ja i7,vl,je,ji,jh,jd,jm,jn,jp,jq,jo,rzZ,Qab,Qac,Qad,Qaa,Qae])
 refine qb ms.length (λk L s=>KS p q v1 v2 v3 mm x fm st ys ms vk vm L s/\Has L 13 (.int .i64 (qS x.op).1)/\Has L 14 (.int .i64 (qS x.op).2)/\Has L 15 (.bool (b ||(ms.take k).any (jfW (qS x.op).1 (ms.getD 0 mt0).kind (ms.getD 0 mt0).enum)))/\Has L 115 vm) (by first|assumption|omega) (by decide) (by simp(disch:=decide) only[jf,jb]) (by simp(disch:=decide) only[jf,jb]) ?_ (λk L s v h=>⟨h.1.push (by decide),by simp(disch:=decide) only[jb];exact h.2⟩) (λk L s v h=>⟨h.1.push (by decide),by simp(disch:=decide) only[jb];exact h.2⟩) (λk L s hk hI hi hn=>?_) (λL s hI=>?_)
 ·refine⟨((S.push (by decide)).push (by decide)).push (by decide),?_⟩;simp(disch:=decide) only[jb,jf,Qbd,List.any_nil,Bool.or_false];exact⟨i13,i14,i15,trivial⟩
 ·obtain⟨S,j13,j14,j15,j115⟩:=hI;have S0:=S;obtain⟨k',nx,qn,hp,Cp,C0,C1,C2,C3,lk,lm,df,j0,j3,j4,j5,j6,j7⟩:=S;have qnx:q+4<=st.nx+4:=by omega
  rcases lm with ⟨_,h9,_⟩|⟨d,rfl,h2,h3,C5,h5,h6⟩
  ·omega
  have e0:ms.getD 0 mt0=ms[0]:=by simp[QaN,show 0<ms.length by omega]
  have g0:(fl mtE ms).getD 0 .bad=.int .i64 ms[0].kind:=(vu X7 (i:=0) (by omega) (k:=0) (by decide)).trans (by rw[Ut];rfl);have g1:(fl mtE ms).getD 1 .bad=.str ms[0].enum:=(vu X7 (i:=0) (by omega) (k:=1) (by decide)).trans (by rw[Ut];rfl);have tk:List.take (k+1) ms=List.take k ms ++ [ms[k]]:=by rw[Qck,Qau hk];rfl
  rw[e0] at j15;rw[tk,e0,List.any_append,List.any_cons,List.any_nil,Bool.or_false];have S1:∀ ba:Bool,KS p q v1 v2 v3 mm x fm st ys ms vk (.slice d 0 ms.length ms.length 4 false) ((15,.bool ba) :: (17,.ptr s.nx 0) :: L) (Go.Sy.wr (Go.Sy.nw s [.int .i64 0,.str [],.int .i64 0,.int .i64 0]) s.nx 0 (mtE ms[k])):=λba=>
   (((S0.push (by decide)).push (by decide)).nw _).wr (c:=s.nx) (hi:=s.nx) (Qao _) (by(first|exact lk|(simp(disch:=first|assumption|decide|(first|omega|(simp only[jg,jj,ju,jr,jk];first|done|omega))) only[jB,jD,jz,jQ,jA,jF,jG,jJ];exact lk))) (by have:=S0.lm;(first|exact this|(simp(disch:=first|assumption|decide|(first|omega|(simp only[jg,jj,ju,jr,jk];first|done|omega))) only[jB,jD,jz,jQ,jA,jF,jG,jJ];exact this))) (by omega) (by rw[jg];omega)
  (have zz:=C5.r;(repeat'(first|(apply jc<;>intro _)|simp(disch:=first|exact jY|fail) only[ja j115,ja hi,ja hn,ja j13,ja j14,ja j15,ja j7,jfo X7,g0,g1,C5.q,C5.r,je,ji,jh,jd,jm,jn,jp,jq,jo,rzZ,Qab,Qac,Qad,Qaa,Qae]));(all_goals(clear zz)))
  all_goals simp(disch:=decide) only[jb,jf]
  all_goals refine⟨⟨S1 _,j13,j14,?_,j115⟩,hi,hn⟩
  all_goals apply Has.bool
  all_goals clear hb2 S1 S0 hK he hml bq C5 k' Cp C0 C1 C2 C3 lk df j0 j3 j4 j5 j6 j7 g0 g1 i13 i14 i15 j13 j14 j15 vl i7 e0 tk nx
  all_goals generalize List.any _ _=A at *
  all_goals unfold jfW
  all_goals cases b<;>cases A<;>simp_all<;>omega
 ·obtain⟨S,j13,j14,j15,j115⟩:=hI;rw[Qaz] at j15;exact jql hb S bq he j13 j14 j15 K Kp hK
end Go.Sy
end
noncomputable section
set_option maxRecDepth 100000
namespace Go.Sy
open Go.Ev Go.Proofs
variable {base:Bs}
theorem KS.setp {p q:Nat}{v1 v2 v3 mm:AV}{x:Ex}{fm:Bool}{st:St}{ys:List Ex}{ms:List MtT}{vk vm:AV}{L:Sl}{s:St}(S:KS p q v1 v2 v3 mm x fm st ys ms vk vm L s)(b:Bool):KS p q v1 v2 v3 mm x b st ys ms vk vm L (Go.Sy.wr s p 4 [.bool b]):=by
 obtain⟨k,nx,qn,hp,Cp,C0,C1,C2,C3,lk,lm,df,i0,i3,i4,i5,i6,i7⟩:=S;have h0:=C0.lt;have h1:=C1.lt;have h2:=C2.lt;have h3:=C3.lt;exact⟨k.wr (.inl rfl) _ _,by rw[jj];exact nx,qn,hp,Cp.wr 4 [.bool b],by(first|exact C0|(simp(disch:=first|assumption|decide|(first|omega|(simp only[jg,jj,ju,jr,jk];first|done|omega))) only[jB,jD,jz,jQ,jA,jF,jG,jJ];exact C0)),by(first|exact C1|(simp(disch:=first|assumption|decide|(first|omega|(simp only[jg,jj,ju,jr,jk];first|done|omega))) only[jB,jD,jz,jQ,jA,jF,jG,jJ];exact C1)),by(first|exact C2|(simp(disch:=first|assumption|decide|(first|omega|(simp only[jg,jj,ju,jr,jk];first|done|omega))) only[jB,jD,jz,jQ,jA,jF,jG,jJ];exact C2)),by(first|exact C3|(simp(disch:=first|assumption|decide|(first|omega|(simp only[jg,jj,ju,jr,jk];first|done|omega))) only[jB,jD,jz,jQ,jA,jF,jG,jJ];exact C3)),by(first|exact lk|(simp(disch:=first|assumption|decide|(first|omega|(simp only[jg,jj,ju,jr,jk];first|done|omega))) only[jB,jD,jz,jQ,jA,jF,jG,jJ];exact lk)),by(first|exact lm|(simp(disch:=first|assumption|decide|(first|omega|(simp only[jg,jj,ju,jr,jk];first|done|omega))) only[jB,jD,jz,jQ,jA,jF,jG,jJ];exact lm)),df,i0,i3,i4,i5,i6,i7⟩
set_option maxHeartbeats 4000000 in
theorem jqn (hb:NB base){p q:Nat}{v1 v2 v3 mm:AV}{x:Ex}{fm fm2:Bool}{st:St}{ys:List Ex}{ms:List MtT}{vk vm:AV}{L:Sl}{s:St}(S:KS p q v1 v2 v3 mm x fm2 st ys ms vk vm L s)(hml:ms.length<=1000000)(he:∀ m∈ms,Z9 m)
  (i8:Has L 8 (.bool fm)) (K Kp:AV->St->Prop) (hK:KC p v1 v2 v3 mm fm st (Yq fm x.op x.num x.name x.line x.col ys ms) K Kp) :
  xC Qaf base jeo L s (iQ st K) (iP st Kp):=by
 have vl:=S.lm.len;have i7:=S.i7;have i0:=S.i0;have i3:=S.i3;have Cp:=S.cp;have C0:=S.c0;have hqp:q≠p:=by have:=S.hp;omega
 have S1:=S.setp fm;have C9:=S1.cp;have ee:∀ b,(decide (ms.length=0) ||decide (2<ms.length) ||(Wj x.op && !fm))=b->xC Qaf base jaO ((15,.bool b) :: (14,.int .i64 (qS x.op).2) :: (13,.int .i64 (qS x.op).1) :: L) (wr s p 4 [.bool fm]) (iQ st K) (iP st Kp):=λb hb2=>jqm hb (((S1.push (by decide)).push (by decide)).push (by decide)) hb2 hml he (by simp(disch:=decide) only[jb,jf]) (by simp(disch:=decide) only[jb,jf]) (by simp only[jf]) K Kp hK;rw[(by unfold jeo;simp only[qq];rfl:jeo=_)]
 (have zz:=aI @Cp.r C0.r;(repeat'(first|(apply jc<;>intro _)|simp(disch:=first|exact jY|fail) only[ja i0,ja i3,ja i7,ja i8,vl,jmE hb,jpo hb,Cp.q,C0.q,Cp.r,C0.r,je,ji,jh,jd,jm,jn,jp,jq,jo,rzZ,Qab,Qac,Qad,Qaa,Qae]));(all_goals(clear zz)))
 all_goals refine ee _ ?_
 all_goals clear ee S1 S hK
 all_goals clear vl
 all_goals(cases fm<;>simp_all<;>first|omega|(left;omega))
end Go.Sy
end
noncomputable section
set_option maxRecDepth 100000
namespace Go.Sy
open Go.Ev Go.Proofs
variable {base:Bs}
theorem Lr.bare {s:St}{v:AV}{n:Nat}{cs:List AV}(h:Lr s v n cs):Lr s.bare v n cs:=by
 rcases h with e|e|⟨b,m,z,x,e,h1,h2⟩
 ·exact .inl e
 ·exact .inr (.inl e)
 ·exact .inr (.inr ⟨b,m,z,x,e,h1,h2.bar⟩)
theorem Ck.bare {p:Nat}{v1 v2 v3 mm:AV}{vars:List VarT}{enums:List EnumT}{fm:Bool}{s:St}(h:Ck p v1 v2 v3 mm vars enums fm s):Ck p v1 v2 v3 mm vars enums fm s.bare:=⟨h.cl.bar,h.l1.bare,h.l2.bare,h.n1,h.n2⟩
section
variable {p q:Nat} {v1 v2 v3 mm:AV} {x:Ex} {fm:Bool} {st:St} {ys:List Ex} {ms:List MtT} {vk vm:AV} {L:Sl} {s t:St}
theorem KS.keep' (S:KS p q v1 v2 v3 mm x fm st ys ms vk vm L s)(k:Keep p s t){fm':Bool}(C:Cl t p [v1,v2,v3,mm,.bool fm']):KS p q v1 v2 v3 mm x fm' st ys ms vk vm L t:=by
 obtain⟨k',nx,qn,hp,Cp,C0,C1,C2,C3,lk,lm,df,i0,i3,i4,i5,i6,i7⟩:=S;exact⟨k'.trans k,by have:=k.nx;omega,qn,hp,C,k.cl C0 (by omega),k.cl C1 (by omega),k.cl C2 (by omega),k.cl C3 (by omega),(k.lv lk (.inl (by omega))).up k.nx,(k.lv lm (.inl (by omega))).up k.nx,df,i0,i3,i4,i5,i6,i7⟩
theorem KS.kid (S:KS p q v1 v2 v3 mm x fm st ys ms vk vm L s)(y:Ex):KS p q v1 v2 v3 mm x fm st (ys ++ [y]) ms (apv 6 vk s) vm L (Go.Sy.wr (Go.Sy.aps vk s (eE y)) (q+3) 3 [apv 6 vk s]):=by
 obtain⟨k,nx,qn,hp,Cp,C0,C1,C2,C3,lk,lm,df,i0,i3,i4,i5,i6,i7⟩:=S;have hn:(Go.Sy.wr (Go.Sy.aps vk s (eE y)) (q+3) 3 [apv 6 vk s]).nx=s.nx+1:=by rw[jj,jr]
 have h4:=Cp.lt;have cq:∀ c ds,Cl s c ds->c<q+4->c≠q+3->Cl (Go.Sy.wr (Go.Sy.aps vk s (eE y)) (q+3) 3 [apv 6 vk s]) c ds:=λc ds C h h3=>by
  rw[jB h3,lk.cl s (eE y) ds c (.inl h) (by omega)];exact C
 refine⟨(k.aps lk (by show st.nx<=_;omega) (eE y)).wr (.inr (by show st.nx<=_;omega)) _ _,by rw[hn];omega,qn,hp,cq _ _ Cp (by omega) (by omega),cq _ _ C0 (by omega) (by omega),cq _ _ C1 (by omega) (by omega),cq _ _ C2 (by omega) (by omega),?_,?_,?_,?_,i0,i3,i4,i5,i6,i7⟩
 ·have:=(cast (lk.cl s (eE y) _ (q+3) (.inl (by omega)) (by omega)).symm C3:Cl (Go.Sy.aps vk s (eE y)) (q+3) _);exact this.wr 3 [apv 6 vk s]
 ·rw[hn,jA (.inl (by omega)),Qal,QH,JL];exact lk.put (zx y) (by omega) rfl
 ·rw[hn,jA (.inl (by omega))];exact(lm.apsD df).up (by omega)
 ·exact(Df.put lm (Qao _)).1
theorem KS.mt (S:KS p q v1 v2 v3 mm x fm st ys ms vk vm L s)(m:MtT):KS p q v1 v2 v3 mm x fm st ys (ms ++ [m]) vk (apv 4 vm s) ((7,apv 4 vm s) :: L) (Go.Sy.aps vm s (mtE m)):=by
 obtain⟨k,nx,qn,hp,Cp,C0,C1,C2,C3,lk,lm,df,i0,i3,i4,i5,i6,i7⟩:=S;have hn:(Go.Sy.aps vm s (mtE m)).nx=s.nx+1:=by rw[jr]
 have h4:=Cp.lt;have cq:∀ c ds,Cl s c ds->c<q+4->Cl (Go.Sy.aps vm s (mtE m)) c ds:=λc ds C h=>by
  rw[lm.cl s (mtE m) ds c (.inl h) (by omega)];exact C
 refine⟨k.aps lm (by show st.nx<=_;omega) (mtE m),by rw[hn];omega,qn,hp,cq _ _ Cp (by omega),cq _ _ C0 (by omega),cq _ _ C1 (by omega),cq _ _ C2 (by omega),cq _ _ C3 (by omega),?_,?_,?_,?_,?_,?_,?_,?_,?_⟩
 ·rw[hn];exact(lk.apsD (Df.symm df)).up (by omega)
 ·rw[hn,Qal,QH,JL];exact lm.put (X7 m) (by omega) rfl
 ·exact(Df.put lk (Qao _)).2
 ·rw[jb (by decide)];exact i0
 ·rw[jb (by decide)];exact i3
 ·rw[jb (by decide)];exact i4
 ·rw[jb (by decide)];exact i5
 ·rw[jb (by decide)];exact i6
 ·rw[jf];trivial
end
mutual
def wb:Ex->Bool
 |.mk _ _ _ ks _ _=>decide (ks.length<=1000000) && YI ks
def YI:List Ex->Bool
 |[]=>true
 |x :: xs=>wb x && YI xs
end
theorem W6:∀ {xs:List Ex} {k:Nat} (h:k<xs.length),YI xs=true->wb xs[k]=true
 |x :: xs,0,_,h=>by rw[YI,Qar] at h;exact h.1
 |x :: xs,k+1,hk,h=>by rw[YI,Qar] at h;exact W6 (xs:=xs) (k:=k) (by simpa using hk) h.2
def KE (base:Bs)(vars:List VarT)(enums:List EnumT)(x:Ex):Prop:=∀ (p:Nat) (v1 v2 v3 mm:AV) (fm:Bool) (st:St),Ck p v1 v2 v3 mm vars enums fm st->∀ K Kp,KC p v1 v2 v3 mm fm st (yd vars enums fm x) K Kp->XB Qaf base 103 [.ptr p 0,.agg (eE x)] st K Kp
set_option maxHeartbeats 4000000 in
theorem jqo (hb:NB base){vars:List VarT}{enums:List EnumT}(V:VarsOK vars enums){p q:Nat}{v1 v2 v3 mm:AV}{x:Ex}{fm fm2:Bool}{st:St}{vk vm:AV}{L:Sl}{s:St}(ih:∀ k∈x.kids,KE base vars enums k)(hn:J6 x.kids=true)(hw:x.kids.length<=1000000)(H:Ck p v1 v2 v3 mm vars enums fm st)(S:KS p q v1 v2 v3 mm x fm2 st [] [] vk vm L s)
  (i8:Has L 8 (.bool fm)) (K Kp:AV->St->Prop) (hK:KC p v1 v2 v3 mm fm st (match qk vars enums fm2 x.kids with
   |.er a b d=>.er a b d
   |.ok r=>Yq fm x.op x.num x.name x.line x.col r.1 r.2) K Kp) :
  xC Qaf base jaP L s (iQ st K) (iP st Kp):=by
 have C0:=S.c0;have i3:=S.i3;rw[(by unfold jaP;simp only[qq];rfl:jaP=_)]
 (have zz:=C0.r;(repeat'(first|(apply jc<;>intro _)|simp(disch:=first|exact jY|fail) only[ja i3,C0.q,C0.r,je,ji,jh,jd,jm,jn,jp,jq,jo,rzZ,Qab,Qac,Qad,Qaa,Qae]));(all_goals(clear zz)))
 refine qb x.kids.length (λk L s=>∃ ys ms vk vm,KS p q v1 v2 v3 mm x fm2 st ys ms vk vm L s/\qk vars enums fm2 (x.kids.take k)=.ok (ys,ms)/\Has L 8 (.bool fm)/\Has L 62 (.lst x.kids.length (fl eE x.kids))) (by first|assumption|omega) (by decide) (by simp(disch:=decide) only[jf,jb]) (by simp(disch:=decide) only[jf,jb]) ?_ (λk L s v h=>(by obtain⟨ys,ms,vk,vm,h1,h2,h3,h4⟩:=h;exact⟨ys,ms,vk,vm,h1.push (by decide),h2,by simp(disch:=decide) only[jb];exact h3,by simp(disch:=decide) only[jb];exact h4⟩)) (λk L s v h=>(by obtain⟨ys,ms,vk,vm,h1,h2,h3,h4⟩:=h;exact⟨ys,ms,vk,vm,h1.push (by decide),h2,by simp(disch:=decide) only[jb];exact h3,by simp(disch:=decide) only[jb];exact h4⟩)) (λk L s hk hI hi hn=>?_) (λL s hI=>?_)
 ·refine⟨[],[],vk,vm,((S.push (by decide)).push (by decide)).push (by decide),by rw[Qbd,qk],?_,?_⟩
  ·simp(disch:=decide) only[jb];exact i8
  ·simp(disch:=decide) only[jb,jf]
 ·obtain⟨ys,ms,vk,vm,S,he,j8,j62⟩:=hI;have Cp:=S.cp;have C3:=S.c3;have j0:=S.i0;have j6:=S.i6;have j7:=S.i7;repeat'(first|(apply jc<;>intro _)|simp(disch:=first|exact dzG|fail) only[ja j0,ja j62,ja hi,ja hn,je,ji,jh,jd,jm,jn,jp,jq,jo,rzZ,Qab,Qac,Qad,Qaa,Qae])
  have S0:KS p q v1 v2 v3 mm x fm2 st ys ms vk vm ((10,.ptr s.nx 0) :: L) (Go.Sy.wr (Go.Sy.nw s [.int .i64 0,.int .i64 0,.str [],.nils,.int .i64 0,.int .i64 0]) s.nx 0 (eE x.kids[k])):=
   ((S.push (by decide)).nw _).wr (c:=s.nx) (hi:=s.nx) (Qao _) (by have:=S.lk;(first|exact this|(simp(disch:=first|assumption|decide|(first|omega|(simp only[jg,jj,ju,jr,jk];first|done|omega))) only[jB,jD,jz,jQ,jA,jF,jG,jJ];exact this))) (by have:=S.lm;(first|exact this|(simp(disch:=first|assumption|decide|(first|omega|(simp only[jg,jj,ju,jr,jk];first|done|omega))) only[jB,jD,jz,jQ,jA,jF,jG,jJ];exact this))) S.nx (by rw[jg];omega)
  refine ih x.kids[k] (Qat hk) p v1 v2 v3 mm fm2 _ (H.bare.keep S0.keep S0.cp) _ _ ?_;cases hx:yd vars enums fm2 x.kids[k] with
  |er a b d=>
   intro s' hk';have e:qk vars enums fm2 x.kids=.er a b d:=by
    have:=Hi (x.kids.drop (k+1)) he hx;rwa [QbH,Qbs] at this
   rw[e] at hK;exact hK _ (YG (S0.keep.trans hk'))
  |ok w=>
   intro s' hk' hC;have S1:=S0.keep' hk' hC;obtain⟨y,m⟩:=w;have he':qk vars enums fm2 (x.kids.take (k+1))=.ok (ys ++ [y],ms ++ [m]):=by
    rw[Qck,Qau hk];exact Hg he hx
   generalize Go.Sy.wr (Go.Sy.nw s [.int .i64 0,.int .i64 0,.str [],.nils,.int .i64 0,.int .i64 0]) s.nx 0 (eE x.kids[k])=t0 at *;clear S0;have A1:=λst bv xc xx K h hv=>@J0 (q+4) s'.nx ys.length 6 st vk (fl eE ys) K 72 bv xc xx h (by decide) (by have:=Jl he;rw[QaH] at this;omega) (by have:=Jl he;rw[QaH] at this;omega) hv;have vk1:=S1.lk;have vm1:=S1.lm;have hq:=S1.nx;have C3':=S1.c3;have S2:=((((S1.push (c:=11) (v:=.ptr s'.nx 0) (by decide)).push (c:=12) (v:=.ptr (s'.nx+1) 0) (by decide)).nw [.int .i64 0,.int .i64 0,.str [],.nils,.int .i64 0,.int .i64 0]).nw [.int .i64 0,.str [],.int .i64 0,.int .i64 0]).wr (c:=s'.nx) (o:=0) (ds:=eE y) (hi:=s'.nx) (Qao _) (by(first|exact vk1|(simp(disch:=first|assumption|decide|(first|omega|(simp only[jg,jj,ju,jr,jk];first|done|omega))) only[jB,jD,jz,jQ,jA,jF,jG,jJ];exact vk1))) (by(first|exact vm1|(simp(disch:=first|assumption|decide|(first|omega|(simp only[jg,jj,ju,jr,jk];first|done|omega))) only[jB,jD,jz,jQ,jA,jF,jG,jJ];exact vm1))) hq (by(first|omega|(simp only[jg,jj,ju,jr,jk];first|done|omega)));have S2:=(S2.wr (c:=s'.nx+1) (o:=0) (ds:=mtE m) (hi:=s'.nx) (by omega) (by(first|exact vk1|(simp(disch:=first|assumption|decide|(first|omega|(simp only[jg,jj,ju,jr,jk];first|done|omega))) only[jB,jD,jz,jQ,jA,jF,jG,jJ];exact vk1))) (by(first|exact vm1|(simp(disch:=first|assumption|decide|(first|omega|(simp only[jg,jj,ju,jr,jk];first|done|omega))) only[jB,jD,jz,jQ,jA,jF,jG,jJ];exact vm1))) hq (by(first|omega|(simp only[jg,jj,ju,jr,jk];first|done|omega)))).nw (eE y);have S4:=(S2.kid y).nw (mtE m);have A2:=λbv xc xx K hv=>@J0 (q+4) _ ms.length 4 _ vm (fl mtE ms) K 40 bv xc xx S4.lm (by decide) (by have:=Jl he;rw[QaH] at this;omega) (by have:=Jl he;rw[QaH] at this;omega) hv
   (have zz:=aI @vk1.ln (aI @vk1.rts (aI @jA (aI @jF (aI @jJ (aI @vk1 (aI @vm1 (aI @jC (aI @jI (aI @jL @C3'.r)))))))));(repeat'(first|(apply jc<;>intro _)|simp(disch:=first|exact jY|fail) only[ja j0,ja j6,ja j7,A1,A2,vk1.at,jC,C3'.q,vk1.ln,vk1.rts,jA,jF,jJ,vk1,vm1,jC,jI,jL,C3'.r,je,ji,jh,jd,jm,jn,jp,jq,jo,rzZ,Qab,Qac,Qad,Qaa,Qae]));(all_goals(clear zz)))
   refine⟨⟨_,_,_,_,S4.mt m,he',?_,?_⟩,?_,?_⟩;all_goals(simp(disch:=decide) only[jb];assumption)
 ·obtain⟨ys,ms,vk,vm,S,he,j8,j62⟩:=hI;rw[Qaz] at he;rw[he] at hK;refine jqn hb S ?_ ?_ j8 K Kp hK
  ·have:=Jl he;omega
  ·exact UY V hn he
end Go.Sy
end
noncomputable section
set_option maxRecDepth 100000
namespace Go.Sy
open Go.Ev Go.Proofs
variable {base:Bs}
set_option maxHeartbeats 4000000 in
theorem jqp (hb:NB base){vars:List VarT}{enums:List EnumT}(V:VarsOK vars enums){p q:Nat}{v1 v2 v3 mm:AV}{x:Ex}{fm:Bool}{st:St}{L:Sl}{s:St}(ih:∀ k∈x.kids,KE base vars enums k)(hn:J6 x.kids=true)(hw:x.kids.length<=1000000)(H:Ck p v1 v2 v3 mm vars enums fm st)(hop:x.op≠1/\x.op≠2/\x.op≠3)
  (k:Keep p st.bare s) (hs:s.nx=q+3) (qn:q=st.nx) (hp:p<q) (Cp:Cl s p [v1,v2,v3,mm,.bool fm]) (C0:Cl s q (eE x)) (C1:Cl s (q+1) z6) (C2:Cl s (q+2) z4) (i0:Has L 0 (.ptr p 0)) (i3:Has L 3 (.ptr q 0)) (i4:Has L 4 (.ptr (q+1) 0)) (i5:Has L 5 (.ptr (q+2) 0)) (K Kp:AV->St->Prop) (hK:KC p v1 v2 v3 mm fm st (yd vars enums fm x) K Kp) :
  xC Qaf base jep L s (iQ st K) (iP st Kp):=by
 rw[WE,if_neg hop.1,if_neg hop.2.1,if_neg hop.2.2] at hK;have hqp:q+3≠p:=by omega
 have hq3:q≠p:=by omega
 have hpq:p≠q+3:=by omega
 have S0:KS p q v1 v2 v3 mm x fm st [] [] .nils .nils ((8,.bool fm) :: (7,.nils) :: (6,.ptr (q+3) 0) :: L) (Go.Sy.wr (Go.Sy.wr (Go.Sy.nw s [.int .i64 0,.int .i64 0,.str [],.nils,.int .i64 0,.int .i64 0]) (q+3) 0 [.int .i64 x.op,.int .i64 x.num,.str x.name,.lst x.kids.length (fl eE x.kids),.int .i64 x.line,.int .i64 x.col]) (q+3) 3 [.nils]):=by
  refine⟨((k.nw _).wr (.inr (by show st.nx<=_;omega)) _ _).wr (.inr (by show st.nx<=_;omega)) _ _,by(first|omega|(simp only[jg,jj,ju,jr,jk];first|done|omega)),qn,hp,by(first|exact Cp|(simp(disch:=first|assumption|decide|(first|omega|(simp only[jg,jj,ju,jr,jk];first|done|omega))) only[jB,jD,jz,jQ,jA,jF,jG,jJ];exact Cp)),by(first|exact C0|(simp(disch:=first|assumption|decide|(first|omega|(simp only[jg,jj,ju,jr,jk];first|done|omega))) only[jB,jD,jz,jQ,jA,jF,jG,jJ];exact C0)),by(first|exact C1|(simp(disch:=first|assumption|decide|(first|omega|(simp only[jg,jj,ju,jr,jk];first|done|omega))) only[jB,jD,jz,jQ,jA,jF,jG,jJ];exact C1)),by(first|exact C2|(simp(disch:=first|assumption|decide|(first|omega|(simp only[jg,jj,ju,jr,jk];first|done|omega))) only[jB,jD,jz,jQ,jA,jF,jG,jJ];exact C2)),?_,Lv.nil,Lv.nil,trivial,?_,?_,?_,?_,?_,?_⟩
  ·have:=((hs▸Cl.new s [.int .i64 0,.int .i64 0,.str [],.nils,.int .i64 0,.int .i64 0]:Cl (Go.Sy.nw s [.int .i64 0,.int .i64 0,.str [],.nils,.int .i64 0,.int .i64 0]) (q+3) _).wr 0 [.int .i64 x.op,.int .i64 x.num,.str x.name,.lst x.kids.length (fl eE x.kids),.int .i64 x.line,.int .i64 x.col]).wr 3 [.nils];exact this
  all_goals(simp(disch:=decide) only[jb,jf];try assumption)
 have ee:∀ b,(fm && decide (x.op≠17) && decide (x.op≠18))=b->xC Qaf base jaP ((8,.bool fm) :: (7,.nils) :: (6,.ptr (q+3) 0) :: L) (Go.Sy.wr (Go.Sy.wr (Go.Sy.wr (Go.Sy.nw s [.int .i64 0,.int .i64 0,.str [],.nils,.int .i64 0,.int .i64 0]) (q+3) 0 [.int .i64 x.op,.int .i64 x.num,.str x.name,.lst x.kids.length (fl eE x.kids),.int .i64 x.line,.int .i64 x.col]) (q+3) 3 [.nils]) p 4 [.bool b]) (iQ st K) (iP st Kp):=λb e=>by
  rw[e] at hK;exact jqo hb V ih hn hw H (S0.setp b) (by simp only[jf]) K Kp hK
 rw[(by unfold jep;simp only[qq];rfl:jep=_)]
 (have zz:=aI @hs (aI @Cp.r C0.r);(repeat'(first|(apply jc<;>intro _)|simp(disch:=first|exact jY|fail) only[ja i0,ja i3,hs,Cp.q,C0.q,hs,Cp.r,C0.r,je,ji,jh,jd,jm,jn,jp,jq,jo,rzZ,Qab,Qac,Qad,Qaa,Qae]));(all_goals(clear zz)))
 all_goals refine ee _ ?_
 all_goals clear ee S0 hK
 all_goals(cases fm<;>simp_all)
end Go.Sy
end
noncomputable section
set_option maxRecDepth 100000
namespace Go.Sy
open Go.Ev Go.Proofs
variable {base:Bs}
set_option maxHeartbeats 4000000 in
theorem jqq (hb:NB base){vars:List VarT}{enums:List EnumT}(V:VarsOK vars enums){p q:Nat}{v1 v2 v3 mm:AV}{x:Ex}{fm:Bool}{st:St}{L:Sl}{s:St}(ih:∀ k∈x.kids,KE base vars enums k)(hn:J6 x.kids=true)(hw:x.kids.length<=1000000)(H:Ck p v1 v2 v3 mm vars enums fm st)
  (k:Keep p st.bare s) (hs:s.nx=q+3) (qn:q=st.nx) (hp:p<q) (Cp:Cl s p [v1,v2,v3,mm,.bool fm]) (C0:Cl s q (eE x)) (C1:Cl s (q+1) z6) (C2:Cl s (q+2) z4) (i0:Has L 0 (.ptr p 0)) (i3:Has L 3 (.ptr q 0)) (i4:Has L 4 (.ptr (q+1) 0)) (i5:Has L 5 (.ptr (q+2) 0)) (K Kp:AV->St->Prop) (hK:KC p v1 v2 v3 mm fm st (yd vars enums fm x) K Kp) :
  xC Qaf base ZZ L s (iQ st K) (iP st Kp):=by
 have nk:=λK Kp=>jnf hb V x s (H.bare.keep k Cp) K Kp;have fin:∀ (y:Ex) (m:MtT) (s':St),Keep p st.bare s'->Cl s' p [v1,v2,v3,mm,.bool fm]->yd vars enums fm x=.ok (y,m)->∃ u ks,fz 9 s'.h (.tup [.agg (eE y),.agg (mtE m)])=some (u,ks)/\K u (back st (kills ks s')):=λy m s' k' C h=>by
  rw[h] at hK;exact UE (m:=st.nx) (cs:=[v1,v2,v3,mm,.bool fm]) (FzD.tup (.cons (FzD.agg (.pc (qY y))) (.cons (.agg (.pc (ZH m))) .nil))) (Qao _) (by omega) k' C hK
 by_cases h1:x.op=1
 ·have e:=WE vars enums fm x;rw[if_pos h1] at e;unfold iQ iP y97;rw[(by unfold ZZ;simp only[qq];rfl:ZZ=_)];unfold z6 z4 at *;have f:=fin x ⟨1,[],x.num,x.num⟩ (Go.Sy.wr (Go.Sy.wr s (q+1) 0 (eE x)) (q+2) 0 (mtE ⟨1,[],x.num,x.num⟩)) ((k.wr (.inr (by show st.nx<=_;omega)) _ _).wr (.inr (by show st.nx<=_;omega)) _ _) (by(first|exact Cp|(simp(disch:=first|assumption|decide|(first|omega|(simp only[jg,jj,ju,jr,jk];first|done|omega))) only[jB,jD,jz,jQ,jA,jF,jG,jJ];exact Cp))) e;rw[qG,h1] at f
  (have zz:=aI @Cp.r (aI C0.r (aI C1.r C2.r));(repeat'(first|(apply jc<;>intro _)|simp(disch:=first|exact jY|fail) only[ja i0,ja i3,ja i4,ja i5,h1,QM,sm2,Cp.q,C0.q,C1.q,C2.q,Cp.r,C0.r,C1.r,C2.r,je,ji,jh,jd,jm,jn,jp,jq,jo,rzZ,Qab,Qac,Qad,Qaa,Qae]));(all_goals(clear zz)))
  refine⟨?_,f⟩;have a1:rat s.h q 1=.int .i64 x.num:=(C0.cell 1 (by rw[zx];decide)).trans (by rw[Gq];rfl);exact⟨(sm2 (by rw[C0.len,zx];decide) a1 rfl).mpr trivial,(sm2 (by rw[Q5,C0.len,zx];decide) (by rw[ZX (by omega)];exact a1) rfl).mpr trivial⟩
 ·by_cases h2:x.op=2
  ·have e:=WE vars enums fm x;rw[if_neg h1,if_pos h2] at e;unfold iQ iP y97;rw[(by unfold ZZ;simp only[qq];rfl:ZZ=_)];unfold z6 z4 at *;have f:=fin x ⟨2,[],0,1⟩ (Go.Sy.wr (Go.Sy.wr s (q+1) 0 (eE x)) (q+2) 0 (mtE ⟨2,[],0,1⟩)) ((k.wr (.inr (by show st.nx<=_;omega)) _ _).wr (.inr (by show st.nx<=_;omega)) _ _) (by(first|exact Cp|(simp(disch:=first|assumption|decide|(first|omega|(simp only[jg,jj,ju,jr,jk];first|done|omega))) only[jB,jD,jz,jQ,jA,jF,jG,jJ];exact Cp))) e;rw[qG,h2] at f
   (have zz:=aI @Cp.r (aI C0.r (aI C1.r C2.r));(repeat'(first|(apply jc<;>intro _)|simp(disch:=first|exact jY|fail) only[ja i0,ja i3,ja i4,ja i5,h2,Cp.q,C0.q,C1.q,C2.q,Cp.r,C0.r,C1.r,C2.r,je,ji,jh,jd,jm,jn,jp,jq,jo,rzZ,Qab,Qac,Qad,Qaa,Qae]));(all_goals(clear zz)))
   exact f
  ·by_cases h3:x.op=3
   ·have e:=WE vars enums fm x;rw[if_neg h1,if_neg h2,if_pos h3] at e;rw[qG,h3] at nk;unfold z6 z4 at *;cases hr:zq vars enums x with
    |er a b d=>
     rw[e,hr] at hK;rw[hr] at nk;rw[(by unfold ZZ;simp only[qq];rfl:ZZ=_)]
     (have zz:=aI @Cp.r (aI C0.r (aI C1.r C2.r));(repeat'(first|(apply jc<;>intro _)|simp(disch:=first|exact jY|fail) only[ja i0,ja i3,ja i4,ja i5,h3,nk,kO,je4,Cp.q,C0.q,C1.q,C2.q,Cp.r,C0.r,C1.r,C2.r,je,ji,jh,jd,jm,jn,jp,jq,jo,rzZ,Qab,Qac,Qad,Qaa,Qae]));(all_goals(clear zz)))
     exact hK _ (YG k)
    |ok y=>
     obtain⟨y,m⟩:=y;have f:=fin y m (Go.Sy.wr (Go.Sy.wr s (q+1) 0 (eE y)) (q+2) 0 (mtE m)) ((k.wr (.inr (by show st.nx<=_;omega)) _ _).wr (.inr (by show st.nx<=_;omega)) _ _) (by(first|exact Cp|(simp(disch:=first|assumption|decide|(first|omega|(simp only[jg,jj,ju,jr,jk];first|done|omega))) only[jB,jD,jz,jQ,jA,jF,jG,jJ];exact Cp))) (e.trans hr);rw[hr] at nk;unfold iQ iP y97;rw[(by unfold ZZ;simp only[qq];rfl:ZZ=_)]
     (have zz:=aI @Cp.r (aI C0.r (aI C1.r C2.r));(repeat'(first|(apply jc<;>intro _)|simp(disch:=first|exact jY|fail) only[ja i0,ja i3,ja i4,ja i5,h3,nk,kO,ZF,Cp.q,C0.q,C1.q,C2.q,Cp.r,C0.r,C1.r,C2.r,je,ji,jh,jd,jm,jn,jp,jq,jo,rzZ,Qab,Qac,Qad,Qaa,Qae]));(all_goals(clear zz)))
     exact f
   ·have ee:=λL (j0:Has L 0 (.ptr p 0)) (j3:Has L 3 (.ptr q 0)) (j4:Has L 4 (.ptr (q+1) 0)) (j5:Has L 5 (.ptr (q+2) 0))=>jqp hb V ih hn hw H ⟨h1,h2,h3⟩ k hs qn hp Cp C0 C1 C2 j0 j3 j4 j5 K Kp hK;rw[(by unfold ZZ;simp only[qq];rfl:ZZ=_)]
    (have zz:=C0.r;(repeat'(first|(apply jc<;>intro _)|simp(disch:=first|exact jY|fail) only[ja i0,ja i3,h1,h2,h3,C0.q,C0.r,je,ji,jh,jd,jm,jn,jp,jq,jo,rzZ,Qab,Qac,Qad,Qaa,Qae]));(all_goals(clear zz)))
    refine ee _ ?_ ?_ ?_ ?_;all_goals(simp(disch:=decide) only[jb];assumption)
theorem jqk (hb:NB base){vars:List VarT}{enums:List EnumT}(V:VarsOK vars enums):∀ x:Ex,ZG x=true->wb x=true->KE base vars enums x:=by
 refine Ex.indk λx ih hn hw p v1 v2 v3 mm fm st H K Kp hK=>?_;have hn':J6 x.kids=true:=by cases x;rw[ZG,Qar] at hn;exact hn.2
 have hw':x.kids.length<=1000000/\YI x.kids=true:=by cases x;rw[wb,Qar,decide_eq_true_eq] at hw;exact hw
 have ih':∀ k∈x.kids,KE base vars enums k:=λk hk=>by
  obtain⟨i,hi,rfl⟩:=Qbu.1 hk;exact ih _ hk (GZ hi hn') (W6 hi hw'.2)
 refine jb2 x97 (by rfl) (hb.pur 103 2 (by decide)) (hb.no 103 (by decide) _ _) ?_;simp only[y97,jt,Qai,Qaj,Qag,Qah];have Cp:=H.cl.bar;have h0:p<st.nx:=H.cl.lt;have hB:st.bare.nx=st.nx:=rfl;rw[(by unfold z97;simp only[qq];rfl:z97=_)]
 (have zz:=@Cp.r;(repeat'(first|(apply jc<;>intro _)|simp(disch:=first|exact jY|fail) only[Cp.q,Cp.r,je,ji,jh,jd,jm,jn,jp,jq,jo,rzZ,Qab,Qac,Qad,Qaa,Qae]));(all_goals(clear zz)))
 have Hc:=H.cl;have n0:Cl (Go.Sy.nw st.bare (eE x)) st.nx (eE x):=Cl.new st.bare (eE x);have n1:Cl (Go.Sy.nw (Go.Sy.nw st.bare (eE x)) z6) (st.nx+1) z6:=Cl.new _ _;have n2:Cl (Go.Sy.nw (Go.Sy.nw (Go.Sy.nw st.bare (eE x)) z6) z4) (st.nx+2) z4:=Cl.new _ _;refine jqq (L:=[(5,.ptr (st.nx+1+1) 0),(4,.ptr (st.nx+1) 0),(3,.ptr st.nx 0),(0,.ptr p 0),(1,.agg (eE x))]) (s:=Go.Sy.nw (Go.Sy.nw (Go.Sy.nw st.bare (eE x)) z6) z4) (st:=st) hb V ih' hn' hw'.1 H ((((Keep.refl (s:=st.bare)).nw _).nw _).nw _) rfl rfl h0 (by(first|exact Hc|(simp(disch:=first|assumption|decide|(first|omega|(simp only[jg,jj,ju,jr,jk];first|done|omega))) only[jB,jD,jz,jQ,jA,jF,jG,jJ];exact Hc))) (by(first|exact n0|(simp(disch:=first|assumption|decide|(first|omega|(simp only[jg,jj,ju,jr,jk];first|done|omega))) only[jB,jD,jz,jQ,jA,jF,jG,jJ];exact n0))) (by(first|exact n1|(simp(disch:=first|assumption|decide|(first|omega|(simp only[jg,jj,ju,jr,jk];first|done|omega))) only[jB,jD,jz,jQ,jA,jF,jG,jJ];exact n1))) n2 ?_ ?_ ?_ ?_ K Kp hK;all_goals exact⟨rfl,rfl⟩
end Go.Sy
end
noncomputable section
set_option maxRecDepth 100000
namespace Go.Sy
open Go.Ev Go.Proofs
variable {base:Bs}
def yv (vars:List VarT)(enums:List EnumT)(fm:Bool)(x:Ex)(w:Int)(en:List Nat):KR Ex:=match yd vars enums fm x with
 |.er a b c=>.er a b c
 |.ok r=>if r.2.kind≠w\/r.2.enum≠en then .er 163 x.line x.col else .ok r.1
def KT (p:Nat)(v1 v2 v3 mm:AV)(fm:Bool)(st:St)(r:KR Ex)(K Kp:AV->St->Prop):Prop:=match r with
 |.ok y=>∀ s',Keep p st s'->Cl s' p [v1,v2,v3,mm,.bool fm]->K (.agg (eE y)) s'
 |.er c l k=>∀ s',Keep p st s'->Kp (kf c l k) s'
set_option maxHeartbeats 4000000 in
theorem Ue (hb:NB base){vars:List VarT}{enums:List EnumT}(V:VarsOK vars enums)(x:Ex)(hn:ZG x=true)(hw:wb x=true)(w:Int)(en:List Nat){p:Nat}{v1 v2 v3 mm:AV}{fm:Bool}{st:St}(H:Ck p v1 v2 v3 mm vars enums fm st)(K Kp:AV->St->Prop)(hK:KT p v1 v2 v3 mm fm st (yv vars enums fm x w en) K Kp):XB Qaf base 75 [.ptr p 0,.agg (eE x),.int .i64 w,.str en] st K Kp:=by
 refine jb2 x60 (by rfl) (hb.pur 75 2 (by decide)) (hb.no 75 (by decide) _ _) ?_;simp only[y60,jt,Qai,Qaj,Qag,Qah];have Hc:=H.cl;have Cp:=H.cl.bar;have h0:p<st.nx:=H.cl.lt;have hB:st.bare.nx=st.nx:=rfl;have k1:Keep p st.bare (Go.Sy.nw (Go.Sy.nw st.bare (eE x)) [.int .i64 0,.int .i64 0,.str [],.nils,.int .i64 0,.int .i64 0]):=(Keep.refl.nw _).nw _;have C1:Cl (Go.Sy.nw (Go.Sy.nw st.bare (eE x)) [.int .i64 0,.int .i64 0,.str [],.nils,.int .i64 0,.int .i64 0]) p [v1,v2,v3,mm,.bool fm]:=by(first|exact Hc|(simp(disch:=first|assumption|decide|(first|omega|(simp only[jg,jj,ju,jr,jk];first|done|omega))) only[jB,jD,jz,jQ,jA,jF,jG,jJ];exact Hc))
 have n0:Cl (Go.Sy.nw st.bare (eE x)) st.nx (eE x):=Cl.new st.bare (eE x);have n0:Cl (Go.Sy.nw (Go.Sy.nw st.bare (eE x)) [.int .i64 0,.int .i64 0,.str [],.nils,.int .i64 0,.int .i64 0]) st.nx (eE x):=by(first|exact n0|(simp(disch:=first|assumption|decide|(first|omega|(simp only[jg,jj,ju,jr,jk];first|done|omega))) only[jB,jD,jz,jQ,jA,jF,jG,jJ];exact n0))
 have n1:Cl (Go.Sy.nw (Go.Sy.nw st.bare (eE x)) [.int .i64 0,.int .i64 0,.str [],.nils,.int .i64 0,.int .i64 0]) (st.nx+1) [.int .i64 0,.int .i64 0,.str [],.nils,.int .i64 0,.int .i64 0]:=Cl.new _ _;rw[(by unfold z60;simp only[qq];rfl:z60=_)];repeat'(first|(apply jc<;>intro _)|simp(disch:=first|exact dzG|fail) only[je,ji,jh,jd,jm,jn,jp,jq,jo,rzZ,Qab,Qac,Qad,Qaa,Qae])
 refine jqk hb V x hn hw p v1 v2 v3 mm fm _ (H.bare.keep k1 C1) _ _ ?_;unfold yv at hK;cases hr:yd vars enums fm x with
 |er a b c=>
  rw[hr] at hK;intro s' k2;exact hK _ (YG (k1.trans k2))
 |ok y=>
  rw[hr] at hK;obtain⟨y,m⟩:=y;intro s' k2 C2;have k3:=k1.trans k2;have m0:=k2.cl n0 (by omega);have m1:=k2.cl n1 (by omega);have hnx:=k2.nx;have hnx:st.nx+2<=s'.nx:=hnx;have hK:KT p v1 v2 v3 mm fm st (if m.kind≠w\/m.enum≠en then .er 163 x.line x.col else .ok y) K Kp:=hK;generalize Go.Sy.nw (Go.Sy.nw st.bare (eE x)) [.int .i64 0,.int .i64 0,.str [],.nils,.int .i64 0,.int .i64 0]=t0 at *
  (have zz:=aI @m0.r @m1.r;(repeat'(first|(apply jc<;>intro _)|simp(disch:=first|exact jY|fail) only[zQ hb,m0.q,m1.q,m0.r,m1.r,je,ji,jh,jd,jm,jn,jp,jq,jo,rzZ,Qab,Qac,Qad,Qaa,Qae]));(all_goals(clear zz)))
  ·rw[if_pos (.inl (by assumption))] at hK;exact hK _ (YG ((((k3.nw _).nw _).wr (.inr (by show st.nx<=_;omega)) _ _).wr (.inr (by show st.nx<=_;omega)) _ _))
  ·rw[if_pos (.inr (by assumption))] at hK;exact hK _ (YG ((((k3.nw _).nw _).wr (.inr (by show st.nx<=_;omega)) _ _).wr (.inr (by show st.nx<=_;omega)) _ _))
  ·rename_i h1 h2;rw[if_neg (by rintro (h|h)<;>contradiction)] at hK;refine UE (m:=st.nx) (cs:=[v1,v2,v3,mm,.bool fm]) (FzD.agg (.pc (qY y))) (Qao _) h0 (((((k3.nw _).nw _).wr (.inr (by show st.nx<=_;omega)) _ _).wr (.inr (by show st.nx<=_;omega)) _ _).wr (.inr (by show st.nx<=_;omega)) _ _) (by(first|exact C2|(simp(disch:=first|assumption|decide|(first|omega|(simp only[jg,jj,ju,jr,jk];first|done|omega))) only[jB,jD,jz,jQ,jA,jF,jG,jJ];exact C2))) hK
end Go.Sy
end
noncomputable section
set_option maxRecDepth 100000
namespace Go.Sy
open Go.Ev Go.Proofs
variable {base:Bs}
section
variable {P:Program} {e:En} {st s:St} {K:AV->St->Prop}
def je9 (st:St):ER:=st.alloc (.map []) λb st=>.ok (.map b) st
def jfa (P:Program)(t:TypeId)(ok:Bool)(m k:AV)(st:St):ER:=(Xr P t (O m) (O k) ok).run E0 st
def jj0 (P:Program)(t:TypeId)(m k v:AV)(st:St):ER:=(Jk P t (O m) (O k) (O v)).run E0 st
theorem jrW:wK P base (.i .mkMap) e st K=jl (je9 st) K:=k_0 (V:=je9) rfl (λ_=>rfl) K
theorem jhN (t:TypeId)(m k:A)(ok:Bool):wK P base (.i (.look t m k ok)) e st K=on1 e m λv=>on1 e k λu=>jl (jfa P t ok v u st) K:=k_2 rfl (λ_=>rfl) K
theorem jl5 (t:TypeId)(m k x:A):wK P base (.i (.upd t m k x)) e st K=on1 e m λv=>on1 e k λu=>on1 e x λw=>jl (jj0 P t v u w st) K:=k_3 rfl (λ_=>rfl) K
def mpl (ts:List (List Nat)):List (AV×AV):=ts.map λt=>(.str t,.int .i64 1)
def mp (s:St)(b:Nat)(es:List (AV×AV)):St:=⟨s.nx,(qc (jM b)).run (.map es) s.h,min s.dirty b,s.fr⟩
def nmp (s:St):St:=⟨s.nx+1,(qc (jM s.nx)).run (.map []) s.h,s.dirty,s.fr⟩
theorem je5 (s:St)(b:Nat)(es:List (AV×AV)):(mp s b es).nx=s.nx:=nr rfl
theorem jrQ (s:St):(nmp s).nx=s.nx+1:=nr rfl
theorem K2 (s:St)(b c:Nat)(es:List (AV×AV)):jx (mp s b es).h c=if c=b then some (.map es) else jx s.h c:=by unfold mp;rw[jZ]
theorem jhX (s:St)(c:Nat):jx (nmp s).h c=if c=s.nx then some (.map []) else jx s.h c:=by unfold nmp;rw[jZ]
structure Mp (s:St)(b:Nat)(ts:List (List Nat)):Prop where
 lt:b<s.nx
 get:jx s.h b=some (.map (mpl ts))
theorem Mp.new (s:St):Mp (nmp s) s.nx []:=⟨by rw[jrQ];omega,by rw[jhX,if_pos rfl];rfl⟩
theorem Mp.keep {b:Nat}{ts:List (List Nat)}{t:St}(h:Mp s b ts)(h1:s.nx<=t.nx)(h2:jx t.h b=jx s.h b):Mp t b ts:=⟨QaO h.lt h1,h2.trans h.get⟩
theorem Mp.put {b:Nat}{ts us:List (List Nat)}(h:Mp s b ts):Mp (mp s b (mpl us)) b us:=⟨by rw[je5];exact h.lt,by rw[K2,if_pos rfl]⟩
theorem jrn:jl (je9 st) K=K (.map st.nx) (nmp st):=by
 unfold je9;rw[St.alloc_eq];rfl
end
theorem jlD:Tryz.prog.underlying 89=some (.map 9 3):=by kernel_rfl
theorem jpj:Tryz.prog.underlying 9=some .string:=by kernel_rfl
theorem ze3:kP Qaf 3=some (.int .i64 0):=by kernel_rfl
theorem kf9 (s:List Nat):(Z1 Qaf 9).run (.str s)=true:=by unfold Z1;rw[jpj]
theorem eq9 (s t:List Nat):(eqF Qaf 20 9).run (.str s) (.str t)=some (decide (s=t)):=by
 show(eqF Qaf (19+1) 9).run (.str s) (.str t)=_;unfold eqF;rw[jpj,<-JQ]
theorem jdY (nm:List Nat):∀ ts:List (List Nat),WK (eqF Qaf 20 9) (.str nm) (mpl ts)=some (if nm∈ts then some (.int .i64 1) else none)
 |[]=>rfl
 |t :: ts=>by
  show(match (eqF Qaf 20 9).run (.str nm) (.str t) with|some b=>cond b (some (some (AV.int .i64 1))) (WK (eqF Qaf 20 9) (.str nm) (mpl ts))|none=>none)=_;rw[eq9,jdY nm ts];by_cases h:nm=t
  ·simp[h]
  ·simp[h]
theorem jgG (nm:List Nat):∀ ts:List (List Nat),nm∉ts->Va (eqF Qaf 20 9) (.str nm) (.int .i64 1) (mpl ts)=some (mpl (ts ++ [nm]))
 |[],_=>rfl
 |t :: ts,h=>by
  have h1:nm≠t:=λe=>h (by simp[e]);have h2:=jgG nm ts λe=>h (by simp[e]);show(match (eqF Qaf 20 9).run (.str nm) (.str t) with
   |some b=>cond b (cond (UJ (.str nm) (.str t)) (some (Qba (AV.str nm,AV.int .i64 1) (mpl ts))) none) (match Va (eqF Qaf 20 9) (.str nm) (.int .i64 1) (mpl ts) with|some l=>some (Qba (AV.str t,AV.int .i64 1) l)|none=>none)
   |none=>none)=_
  rw[eq9,h2];simp[h1,mpl]
section
variable {st:St} {K:AV->St->Prop}
theorem jpd {b:Nat}{ts:List (List Nat)}(h:Mp st b ts)(nm:List Nat):jl (jfa Qaf 89 false (.map b) (.str nm) st) K=K (.int .i64 (if nm∈ts then 1 else 0)) st:=by
 unfold jfa Xr;rw[jlD];simp only[ze3];show jl (cond ((Z1 Qaf 9).run (.str nm)) (ZE (jx st.h b) λes=>jS (WK (eqF Qaf 20 9) (.str nm) es) λo=>_) .no) K=_;rw[kf9,h.get];show jl (jS (WK (eqF Qaf 20 9) (.str nm) (mpl ts)) λo=>_) K=_;rw[jdY];by_cases h:nm∈ts
 ·simp only[if_pos h];rfl
 ·simp only[if_neg h];rfl
theorem jrj {b:Nat}{ts:List (List Nat)}(h:Mp st b ts){nm:List Nat}(hn:nm∉ts):jl (jj0 Qaf 89 (.map b) (.str nm) (.int .i64 1) st) K=K qi (mp st b (mpl (ts ++ [nm]))):=by
 unfold jj0 Jk;rw[jlD];show jl (cond ((Z1 Qaf 9).run (.str nm)) (ZE (jx st.h b) λes=>jS (Va (eqF Qaf 20 9) (.str nm) (.int .i64 1) es) λes=>st.put b (.map es) λst=>.ok qi st) .no) K=_;rw[kf9,h.get];show jl (jS (Va (eqF Qaf 20 9) (.str nm) (.int .i64 1) (mpl ts)) λes=>st.put b (.map es) λst=>.ok qi st) K=_;rw[jgG nm ts hn];show jl (st.put b (.map (mpl (ts ++ [nm]))) λst=>.ok qi st) K=_;rw[St.put_eq];rfl
end
end Go.Sy
end
