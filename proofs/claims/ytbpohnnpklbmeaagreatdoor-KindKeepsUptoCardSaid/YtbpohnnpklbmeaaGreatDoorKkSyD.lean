/-
  Contracts: the code lowered, what it does told by rules, and the contracts of the functions that the law reaches.
-/
import Derived.Test.YtbpohnnpklbmeaaGreatDoorKkSyC
import Derived.Test.YtbpohnnpklbmeaaGreatDoorProg
import Derived.KernelRfl
import Derived.ChangeArms
set_option linter.unusedVariables false
set_option linter.unusedSimpArgs false
open Int renaming reduceToNat → Qaa, natCast_zero → Qam, zero_add → Qao, ofNat → Qbl, eq_ofNat_of_zero_le → Qbu, natCast_nonneg → Qch
open Nat renaming reduceAdd → Qab, reduceSub → Qac, reduceMul → Qad, reduceBEq → Qae, ble → Qap, le_refl → Qaq, beq → Qas, mul → Qat, le_trans → Qau, succ → QaD, add → QaG, le_max_right → QaH, le_max_left → QaJ, zero_le → QaL, zero_add → QaM, mul_le_mul_right → QaN, lt_of_lt_of_le → QaP, lt_or_ge → QaV, sub → Qbg, sub_zero → Qbm, not_lt_zero → Qbn, succ_pos → Qbr, add_mul → Qbt, zero_mul → Qbv, succ_mul → Qbw, le_of_eq → QbJ, add_assoc → QbK, mod_eq_of_lt → QbL, succ_lt_succ → QbN, lt_irrefl → Qce, min_eq_left → Qcg, add_zero → Qcj, ne_of_lt → Qcl, add_comm → Qcs, le_of_lt → Qct, lt_trichotomy → Qcw, le_succ_of_le → Qcx
open Go.Proofs.Tryz renaming prog → Qaf
open List renaming getD_cons_zero → Qag, getD_cons_succ → Qah, map_cons → Qai, length_cons → Qaj, length_append → Qak, map_nil → Qal, length_nil → Qan, getElem?_eq_getElem → Qav, cons_append → Qaw, all_eq_true → Qax, getElem_mem → Qay, getD_eq_getElem?_getD → QaB, append_assoc → QaC, take_length → QaE, nil_append → QaF, range' → QaI, length_take → QaK, getD → QaO, length_map → QaQ, length_drop → QaS, eq_nil_of_length_eq_zero → QaT, range → QaW, all_cons → QaY, take_zero → QaZ, cons → Qba, append_nil → Qbf, mem_cons → Qbh, all_append → Qbi, mem_map → Qbj, mem_append → Qbk, take_append_drop → Qbp, drop_zero → Qbs, getElem_cons_zero → Qbx, map_congr_left → Qby, range'_succ → QbA, getElem_cons_succ → QbD, getElem_cons_drop → QbE, map_map → QbH, mem_iff_getElem → QbI, getElem?_take → QbO, mem_singleton → QbP, map_append → QbQ, singleton_append → QbR, getElem?_append_right → QbS, getElem?_map → QbT, flatMap_cons → QbU, foldl_append → QbV, mem_of_mem_take → QbW, getElem?_append_left → QbX, mem_cons_of_mem → QbY, drop_drop → QbZ, ext_getElem → Qca, map_toArray → Qcb, length_pos_iff → Qcc, getElem?_drop → Qcf, take_add_one → Qci, countP_singleton → Qck, drop_length → Qcn, take_succ_cons → Qcp, foldr_cons → Qcr, take_take → Qcu
open Bool renaming and_eq_true → Qar, not_eq_true' → QaR, eq_iff_iff → QaX, false_eq_true → Qbb, or_eq_true → Qbc, or_eq_false_iff → Qbq, true_eq_false → QbG
open Array renaming length_toList → Qaz, getElem?_eq_some_iff → QaA, replicate → Qbe, getD_eq_getD_getElem? → QbB, getElem?_toList → QbF, toList_map → QbM, getElem?_setIfInBounds_ne → Qcd, mem_toList_iff → Qcm, toList_append → Qco, getElem?_eq_getElem → Qcq
open Option renaming map_some → QaU, getD_some → Qbd, bind_some → Qbo, map_none → Qbz, map_eq_some_iff → QbC
open Function renaming comp_def → Qcv
noncomputable section
set_option maxRecDepth 100000
namespace Go.Sy
open Go.Ev Go.Proofs
variable {base:Bs}
theorem KY {ts:List Tk}(W:Wds ts){i j:Nat}{n:Int}(hi:i<ts.length)(h:Xp ts i=.ok n j):j<ts.length:=by
 unfold Xp at h;by_cases c:isM (tk ts i) [[45]]=true
 ·rw[if_pos c] at h;have h1:=W.isM hi c;by_cases k:(tk ts (i+1)).kind=2
  ·rw[if_pos k] at h;cases h;exact W.next _ h1 (by omega)
  ·rw[if_neg k] at h;cases h
 ·rw[if_neg c] at h;by_cases k:(tk ts i).kind=2
  ·rw[if_pos k] at h;cases h;exact W.next _ hi (by omega)
  ·rw[if_neg k] at h;cases h
set_option maxHeartbeats 4000000 in
theorem jrM (hb:NB base){ts:List Tk}(W:Wds ts)(N:Nbs ts){i:Nat}(hi:i<ts.length){nm:List Nat}{ln co:Nat}{r:SR DeclT}
  (hr:(match Zv ts i with | .er t=>SR.er t | .ok y j=>(match XL ts j with | .er t=>.er t | .ok bs k=>.ok ⟨nm,y.1,y.2.1,y.2.2,bs,ln,co⟩ k))=r) {L:Sl} {s:St} (n0:4<=s.nx) (C0:Cl s 0 (pC ts i 0)) (C1:Cl s 1 zD)
  (C3:Cl s 3 [.str nm,.str [],.int .i64 0,.int .i64 0,.nils,.int .i64 (ln:Int),.int .i64 (co:Int)]) (i0:Has L 0 (.ptr 0 0)) (i2:Has L 2 (.ptr 1 0)) (i4:Has L 4 (.ptr 3 0)) :
  xC Qaf base jeG L s (QE Qaf y79.res (SK ts 0 (λd=>.agg (qm d)) r)) λv _ s=>SP ts r v s.bare:=by
 have wl:=W.len;have L0:=C0.lt;have L1:=C1.lt;have L3:=C3.lt;have T:=Y7 hb hi (d:=0) (by omega) [[98,111,111,108]] (cs:=[.str [98,111,111,108]]) (n:=1) rfl rfl (by decide);have hN:=λst p=>@Ze base hb ts i 0 hi st p;have hM:=λst p=>@uZ base hb ts i 0 hi (by omega) st p;unfold Zv at hr;unfold zD pC at *;rw[(by unfold jeG;simp only[qq];rfl:jeG=_)];by_cases c1:isM (tk ts i) [[98,111,111,108]]=true
 ·rw[if_pos c1] at hr;have hi1:=W.isM hi c1
  (have zz:=aI C0.r (aI C1.r C3.r);(repeat'(first|(apply jc<;>intro _)|simp(disch:=first|exact qW|fail) only[ja i0,ja i2,ja i4,T,c1,C0.q,C1.q,C3.q,C0.r,C1.r,C3.r,je,Tk.cells_R,rzZ,Qab,Qac,Qad,Qaa,Qae]));(all_goals(clear zz)))
  refine jf3 hb W hi1 hr ?_ ?_ ?_ ?_ ?_ ?_ ?_
  ·simp only[jg,jh,jk];omega
  ·unfold pC
   (have zz:=aI C0.q (aI C1.q (aI C3.q (aI C0.r (aI C1.r C3.r))));first|exact qr|fail)
  ·unfold zD
   (have zz:=aI C0.q (aI C1.q (aI C3.q (aI C0.r (aI C1.r C3.r))));first|exact qr|fail)
  ·(have zz:=aI C0.q (aI C1.q (aI C3.q (aI C0.r (aI C1.r C3.r))));first|exact qr|fail)
  ·simp(disch:=decide) only[Qam,Qao,z0,z1,jd,jb,and_true,true_and,i0]
  ·simp(disch:=decide) only[Qam,Qao,z0,z1,jd,jb,and_true,true_and,i2]
  ·simp(disch:=decide) only[Qam,Qao,z0,z1,jd,jb,and_true,true_and,i4]
 rw[if_neg c1] at hr;by_cases k1:(tk ts i).kind=1
 ·rw[if_pos k1] at hr;have k1':((tk ts i).kind:Int)=1:=by omega
  have hi1:i+1<ts.length:=W.next i hi (by omega)
  (have zz:=aI C0.r (aI C1.r C3.r);(repeat'(first|(apply jc<;>intro _)|simp(disch:=first|exact qW|fail) only[ja i0,ja i2,ja i4,T,c1,k1,k1',hN,hM,C0.q,C1.q,C3.q,C0.r,C1.r,C3.r,je,Tk.cells_R,rzZ,Qab,Qac,Qad,Qaa,Qae]));(all_goals(clear zz)))
  refine jf3 hb W hi1 hr ?_ ?_ ?_ ?_ ?_ ?_ ?_
  ·simp only[jg,jh,jk];omega
  ·unfold pC
   (have zz:=aI C0.q (aI C1.q (aI C3.q (aI C0.r (aI C1.r C3.r))));first|exact qr|fail)
  ·unfold zD
   (have zz:=aI C0.q (aI C1.q (aI C3.q (aI C0.r (aI C1.r C3.r))));first|exact qr|fail)
  ·(have zz:=aI C0.q (aI C1.q (aI C3.q (aI C0.r (aI C1.r C3.r))));first|exact qr|fail)
  ·simp(disch:=decide) only[Qam,Qao,z0,z1,jd,jb,and_true,true_and,i0]
  ·simp(disch:=decide) only[Qam,Qao,z0,z1,jd,jb,and_true,true_and,i2]
  ·simp(disch:=decide) only[Qam,Qao,z0,z1,jd,jb,and_true,true_and,i4]
 rw[if_neg k1] at hr;have k1':¬ ((tk ts i).kind:Int)=1:=by omega
 have A:=jbQ hb W N hi (d:=0);cases hn:Xp ts i with
 |er t=>
  rw[hn] at hr A;have hr:SR.er t=r:=hr;subst hr;obtain⟨i',d',A⟩:=A;have E:∀ st p,Cl st p (pC ts i 0)->∀ K Kp,XB Qaf base 128 [.ptr p 0] st K Kp=_:=λst p C K Kp=>A.xb C rfl (λst=>hb.no 128 (by decide) _ _) K Kp;unfold pC at *
  (have zz:=aI C0.r (aI C1.r C3.r);(repeat'(first|(apply jc<;>intro _)|simp(disch:=first|exact qW|fail) only[ja i0,ja i2,ja i4,T,c1,k1',hN,E,zR,C0.q,C1.q,C3.q,C0.r,C1.r,C3.r,je,Tk.cells_R,rzZ,Qab,Qac,Qad,Qaa,Qae]));(all_goals(clear zz)))
  refine⟨i',d',?_⟩;unfold pC
  (refine G1.done ?_ (by rfl) (by rfl) ?_;(· (have zz:=aI C0.q (aI C1.q (aI C3.q (aI C0.r (aI C1.r C3.r))));first|exact qr|fail));(· first|exact vyD|skip))
 |ok lo j=>
  rw[hn] at hr A;dsimp only at hr;have A:PM _ _ _ _ _ _ _:=A;have hj:j<ts.length:=KY W hi hn;have E:∀ st p,Cl st p (pC ts i 0)->∀ K Kp,XB Qaf base 128 [.ptr p 0] st K Kp=_:=λst p C K Kp=>A.xb C rfl (λst=>hb.no 128 (by decide) _ _) K Kp;have M:=λst p=>@Q0 base hb ts j 0 hj (by omega) [46,46] st p;by_cases c2:isM (tk ts j) [[46,46]]=true
  ·rw[if_pos c2] at hr;have hj1:=W.isM hj c2;have B:=jbQ hb W N hj1 (d:=0);cases hn2:Xp ts (j+1) with
   |er t=>
    rw[hn2] at hr B;have hr:SR.er t=r:=hr;subst hr;obtain⟨i',d',B⟩:=B;have F:∀ st p,Cl st p (pC ts (j+1) 0)->∀ K Kp,XB Qaf base 128 [.ptr p 0] st K Kp=_:=λst p C K Kp=>B.xb C rfl (λst=>hb.no 128 (by decide) _ _) K Kp;unfold pC at *
    (have zz:=aI C0.r (aI C1.r C3.r);(repeat'(first|(apply jc<;>intro _)|simp(disch:=first|exact qW|fail) only[ja i0,ja i2,ja i4,T,c1,k1',hN,E,F,M,c2,zR,C0.q,C1.q,C3.q,C0.r,C1.r,C3.r,je,Tk.cells_R,rzZ,Qab,Qac,Qad,Qaa,Qae]));(all_goals(clear zz)))
    refine⟨i',d',?_⟩;unfold pC
    (refine G1.done ?_ (by rfl) (by rfl) ?_;(· (have zz:=aI C0.q (aI C1.q (aI C3.q (aI C0.r (aI C1.r C3.r))));first|exact qr|fail));(· first|exact vyD|skip))
   |ok h2 k=>
    rw[hn2] at hr B;have hk:k<ts.length:=KY W hj1 hn2;have B:PM _ _ _ _ _ _ _:=B;have F:∀ st p,Cl st p (pC ts (j+1) 0)->∀ K Kp,XB Qaf base 128 [.ptr p 0] st K Kp=_:=λst p C K Kp=>B.xb C rfl (λst=>hb.no 128 (by decide) _ _) K Kp;unfold pC at *
    (have zz:=aI C0.r (aI C1.r C3.r);(repeat'(first|(apply jc<;>intro _)|simp(disch:=first|exact qW|fail) only[ja i0,ja i2,ja i4,T,c1,k1',hN,E,F,M,c2,C0.q,C1.q,C3.q,C0.r,C1.r,C3.r,je,Tk.cells_R,rzZ,Qab,Qac,Qad,Qaa,Qae]));(all_goals(clear zz)))
    refine jf3 hb W hk hr ?_ ?_ ?_ ?_ ?_ ?_ ?_
    ·simp only[jg,jh,jk];omega
    ·unfold pC
     (have zz:=aI C0.q (aI C1.q (aI C3.q (aI C0.r (aI C1.r C3.r))));first|exact qr|fail)
    ·unfold zD
     (have zz:=aI C0.q (aI C1.q (aI C3.q (aI C0.r (aI C1.r C3.r))));first|exact qr|fail)
    ·(have zz:=aI C0.q (aI C1.q (aI C3.q (aI C0.r (aI C1.r C3.r))));first|exact qr|fail)
    ·simp(disch:=decide) only[Qam,Qao,z0,z1,jd,jb,and_true,true_and,i0]
    ·simp(disch:=decide) only[Qam,Qao,z0,z1,jd,jb,and_true,true_and,i2]
    ·simp(disch:=decide) only[Qam,Qao,z0,z1,jd,jb,and_true,true_and,i4]
  ·rw[if_neg c2] at hr;have hr:SR.er (tk ts j)=r:=hr;subst hr;unfold pC at *
   (have zz:=aI C0.r (aI C1.r C3.r);(repeat'(first|(apply jc<;>intro _)|simp(disch:=first|exact qW|fail) only[ja i0,ja i2,ja i4,T,c1,k1',hN,E,M,c2,zR,C0.q,C1.q,C3.q,C0.r,C1.r,C3.r,je,Tk.cells_R,rzZ,Qab,Qac,Qad,Qaa,Qae]));(all_goals(clear zz)))
   refine⟨j,0,?_⟩;unfold pC
   (refine G1.done ?_ (by rfl) (by rfl) ?_;(· (have zz:=aI C0.q (aI C1.q (aI C3.q (aI C0.r (aI C1.r C3.r))));first|exact qr|fail));(· first|exact vyD|skip))
set_option maxHeartbeats 4000000 in
theorem jqr (hb:NB base){ts:List Tk}(W:Wds ts)(N:Nbs ts){i:Nat}(hi:i<ts.length):AnS base 79 (pC ts i 0) [] ts 0 (λd=>.agg (qm d)) (J7 ts i):=by
 have wl:=W.len;have hM:=λst p=>@uZ base hb ts i 0 hi (by omega) st p;unfold J7;by_cases k1:(tk ts i).kind=1
 ·rw[if_pos k1];have hi1:i+1<ts.length:=W.next i hi (by omega)
  have M:=λst p=>@Q0 base hb ts (i+1) 0 hi1 (by omega) [58] st p;by_cases c1:isM (tk ts (i+1)) [[58]]=true
  ·rw[if_pos c1];have hi2:=W.isM hi1 c1;suffices h:∀ r:SR DeclT,(match Zv ts (i+2) with | .er t=>SR.er t | .ok y j=>(match XL ts j with | .er t=>.er t | .ok bs k=>.ok ⟨(tk ts i).text,y.1,y.2.1,y.2.2,bs,(tk ts i).line,(tk ts i).col⟩ k))=r->AnS base 79 (pC ts i 0) [] ts 0 (λd=>.agg (qm d)) r from h _ rfl
   intro r hr;refine vO x79 (by rfl) (hb.pur 79 3 (by decide)) ?_;simp only[y79,jp,Qai,Qal,Qag,Qah];rw[(by unfold z79;simp only[qq];rfl:z79=_)];unfold pC at *;repeat'(first|(apply jc<;>intro _)|simp(disch:=first|exact dzD|fail) only[hM,k1,M,c1,je,Tk.cells_R,rzZ,Qab,Qac,Qad,Qaa,Qae])
   refine jrM hb W N hi2 hr ?_ ?_ ?_ ?_ ?_ ?_ ?_
   ·simp only[jg,jh,jk,yw];omega
   ·unfold pC
    (first|exact cyD|fail)
   ·unfold zD
    (first|exact cyD|fail)
   ·(first|exact cyD|fail)
   ·simp(disch:=decide) only[Qam,Qao,z0,z1,jd,jb,and_true,true_and]
   ·simp(disch:=decide) only[Qam,Qao,z0,z1,jd,jb,and_true,true_and]
   ·simp(disch:=decide) only[Qam,Qao,z0,z1,jd,jb,and_true,true_and]
  ·rw[if_neg c1];refine⟨i+1,0,?_⟩;unfold pC at *;refine qf x79 (by rfl) (hb.pur 79 3 (by decide)) rfl ?_;simp only[y79,jp,Qai,Qal,Qag,Qah];rw[(by unfold z79;simp only[qq];rfl:z79=_)];repeat'(first|(apply jc<;>intro _)|simp(disch:=first|exact dzD|fail) only[hM,k1,M,c1,je,Tk.cells_R,rzZ,Qab,Qac,Qad,Qaa,Qae])
   (refine G1.done ?_ (by rfl) (by rfl) ?_;(· (first|exact cyD|fail));(· first|exact vyD|skip))
 ·rw[if_neg k1];refine⟨i,0,?_⟩;unfold pC at *;refine qf x79 (by rfl) (hb.pur 79 3 (by decide)) rfl ?_;simp only[y79,jp,Qai,Qal,Qag,Qah];rw[(by unfold z79;simp only[qq];rfl:z79=_)];repeat'(first|(apply jc<;>intro _)|simp(disch:=first|exact dzD|fail) only[hM,k1,je,Tk.cells_R,rzZ,Qab,Qac,Qad,Qaa,Qae])
  (refine G1.done ?_ (by rfl) (by rfl) ?_;(· (first|exact cyD|fail));(· first|exact vyD|skip))
end Go.Sy
end
noncomputable section
set_option maxRecDepth 100000
namespace Go.Sy
open Go.Ev Go.Proofs
variable {base:Bs}
structure AsT where
 name:List Nat
 to:Ex
 line:Int
 col:Int
def asE (a:AsT):List AV:=.str a.name :: (eE a.to ++ [.int .i64 (a.line:Int),.int .i64 (a.col:Int)])
theorem ZW (a:AsT):(asE a).length=9:=nr (by simp[asE,Jw])
theorem Qs (a:AsT):(asE a).all pc=true:=nr (by simp[asE,q8,pc])
theorem gQ (a:AsT):lall AV.cell (asE a)=true:=nr (by unfold asE;rw[qI];rfl)
structure RuleT where
 when:Ex
 acts:List AsT
def ruE (r:RuleT):List AV:=eE r.when ++ [.lst r.acts.length (fl asE r.acts)]
def Ju (ts:List Tk):Nat->Nat->List AsT->SR (List AsT)
 |0,i,_=>.er (tk ts i)
 |n+1,i,vs=>if(tk ts i).kind=1 then
   (if 32<=vs.length then .er (tk ts i)
    else if isM (tk ts (i+1)) [[58,61]]=true then(match yC ts (i+2) with
     |.er t=>.er t
     |.ok x j=>
      if isM (tk ts j) [[44]]=true then Ju ts n (j+1) (vs ++ [⟨(tk ts i).text,x,(tk ts i).line,(tk ts i).col⟩])
      else if isM (tk ts j) [[59]]=true then .ok (vs ++ [⟨(tk ts i).text,x,(tk ts i).line,(tk ts i).col⟩]) (j+1)
      else .er (tk ts j))
    else .er (tk ts (i+1)))
  else .er (tk ts i)
def JC (ts:List Tk)(i:Nat):SR RuleT:=
 match yC ts i with
 |.er t=>.er t
 |.ok x j=>if isM (tk ts j) [[100,111]]=true then(match Ju ts ts.length (j+1) [] with
   |.ok vs k=>.ok ⟨x,vs⟩ k
   |.er t=>.er t)
  else .er (tk ts j)
theorem jo2:Go.Ev.isAgg Qaf 101=some false:=by kernel_rfl
theorem jo1:Go.Ev.sizeOf Qaf 101=some 1:=by kernel_rfl
theorem jai {b o:Nat}{v:AV}{h:T AO}(ho:o<qC h b)(hv:rat h b o=v)(hc:eqs v=true):(qa Qaf 101 (.ptr b o) v h=true)=True:=eq_true (Qx jo2 jo1 ho hv hc)
theorem sm3 {b o:Nat}{v:AV}{h:T AO}(ho:o<qC h b)(hv:rat h b o=v)(hc:eqs v=true):(qa Qaf 3 (.ptr b o) v h=true)=True:=eq_true (Qx jo0 joZ ho hv hc)
set_option maxHeartbeats 4000000 in
theorem jpn (hb:NB base){ts:List Tk}(W:Wds ts){i:Nat}(hi:i<ts.length):AnS base 129 (pC ts i 0) [] ts 0 (λe=>.agg (ruE e)) (JC ts i):=by
 have wl:=W.len;have A:=Un hb W hi;unfold JC;cases hw:yC ts i with
 |er t=>
  rw[hw] at A;obtain⟨i',d',A⟩:=A;have E:∀ st p,Cl st p (pC ts i 0)->∀ K Kp,XB Qaf base 48 [.ptr p 0] st K Kp=_:=λst p C K Kp=>A.xb C rfl (λst=>hb.no 48 (by decide) _ _) K Kp;refine⟨i',d',?_⟩;unfold pC at *;refine qf jj5 (by rfl) (hb.pur 129 3 (by decide)) rfl ?_;simp only[jeS,jp,Qai,Qal,Qag,Qah];rw[(by unfold kD;simp only[qq];rfl:kD=_)];repeat'(first|(apply jc<;>intro _)|simp(disch:=first|exact dzD|fail) only[E,je,Tk.cells_R,rzZ,Qab,Qac,Qad,Qaa,Qae])
  (refine G1.done ?_ (by rfl) (by rfl) ?_;(· (first|exact cyD|fail));(· first|exact vyD|skip))
 |ok x j=>
  rw[hw] at A;have A:PM _ _ _ _ _ _ _:=A;rw[qI] at A;have hj:j<ts.length:=(yZ W hi hw).2.1;have E:∀ st p,Cl st p (pC ts i 0)->∀ K Kp,XB Qaf base 48 [.ptr p 0] st K Kp=_:=λst p C K Kp=>A.xb C rfl (λst=>hb.no 48 (by decide) _ _) K Kp;have M:=λst p=>@Q0 base hb ts j 0 hj (by omega) [100,111] st p;dsimp only;by_cases c1:isM (tk ts j) [[100,111]]=true
  ·rw[if_pos c1];have hj1:=W.isM hj c1;suffices h:∀ r:SR RuleT,(match Ju ts ts.length (j+1) [] with | .ok vs k=>SR.ok ⟨x,vs⟩ k | .er t=>.er t)=r->AnS base 129 (pC ts i 0) [] ts 0 (λe=>.agg (ruE e)) r from h _ rfl
   intro r hr;refine vO jj5 (by rfl) (hb.pur 129 3 (by decide)) ?_;simp only[jeS,jp,Qai,Qal,Qag,Qah];rw[(by unfold kD;simp only[qq];rfl:kD=_)];unfold pC at *;repeat'(first|(apply jc<;>intro _)|simp(disch:=first|exact dzD|fail) only[E,M,c1,je,Tk.cells_R,rzZ,Qab,Qac,Qad,Qaa,Qae])
   refine uO λu hu=>?_;have n0:u.nx=3:=by rw[hu];rfl
   have C0:Cl u 0 (pC ts (j+1) 0):=by
    rw[hu];unfold pC
    (first|exact cyD|fail)
   have C1:Cl u 1 [.int .i64 0,.int .i64 0,.str [],.nils,.int .i64 0,.int .i64 0,.nils]:=by
    rw[hu]
    (first|exact cyD|fail)
   have C2:Cl u 2 [.int .i64 x.op,.int .i64 x.num,.str x.name,.lst x.kids.length (fl eE x.kids),.int .i64 x.line,.int .i64 x.col,.nils]:=by
    rw[hu]
    (first|exact cyD|fail)
   clear hu E M A;refine zY (λmm L s=>∃ (m i':Nat) (vs:List AsT) (v:AV),mm=m/\ts.length<=i'+m/\i'<ts.length/\(match Ju ts m i' vs with | .ok vs k=>SR.ok ⟨x,vs⟩ k | .er t=>.er t:SR RuleT)=r/\3<=s.nx/\Cl s 0 (pC ts i' 0)/\Cl s 1 [.int .i64 0,.int .i64 0,.str [],.nils,.int .i64 0,.int .i64 0,.nils]/\Cl s 2 [.int .i64 x.op,.int .i64 x.num,.str x.name,.lst x.kids.length (fl eE x.kids),.int .i64 x.line,.int .i64 x.col,v]/\Lv 3 s.nx s v vs.length (fl asE vs) 9/\Has L 0 (.ptr 0 0)/\Has L 2 (.ptr 1 0)/\Has L 3 (.ptr 2 0)) ?_ ts.length ?_
   ·rintro m L s ⟨_,i',vs,v,rfl,hm,hi',hl,n0,C0,C1,C2,V,i0,i2,i3⟩;clear hr;cases m with
    |zero=>omega
    |succ m=>
    unfold Ju at hl;obtain⟨q0,hq0⟩:∃ q,q=s.nx:=⟨_,rfl⟩;rw[<-hq0] at V;have hq':q0<=s.nx:=QbJ hq0;have hN:=λst p=>@Ze base hb ts i' 0 hi' st p;have hM:=λst p=>@uZ base hb ts i' 0 hi' (by omega) st p;have L0:=C0.lt;have L1:=C1.lt;have L2:=C2.lt;have ve:=V.eqs;have g3:rat s.h 2 6=v:=C2.cell 6 (by simp);have vl:=V.len;by_cases k1:(tk ts i').kind=1
    ·rw[if_pos k1] at hl;have k1':((tk ts i').kind:Int)=1:=by omega
     have hi1:i'+1<ts.length:=W.next i' hi' (by omega)
     by_cases h32:32<=vs.length
     ·rw[if_pos h32] at hl;have hl:SR.er (tk ts i')=r:=hl;subst hl;have R:=wU hb h32 (tk ts i');unfold pC at *
      (have zz:=aI @g3 (aI C0.r (aI C1.r C2.r));(repeat'(first|(apply jc<;>intro _)|simp(disch:=first|exact qW|fail) only[ja i0,ja i2,ja i3,hN,k1',vl,R,jai,ve,zR,C0.q,C1.q,C2.q,g3,C0.r,C1.r,C2.r,je,Tk.cells_R,rzZ,Qab,Qac,Qad,Qaa,Qae]));(all_goals(clear zz)))
      refine⟨i',0,?_⟩;unfold pC
      (refine G1.done ?_ (by rfl) (by rfl) ?_;(· (have zz:=aI C0.q (aI C1.q (aI C2.q (aI C0.r (aI C1.r C2.r))));first|exact qr|fail));(· first|exact vyD|skip))
     ·rw[if_neg h32] at hl;have R:=wT hb (show vs.length<32 by omega) (tk ts i');have M1:=λst p=>@Q0 base hb ts (i'+1) 0 hi1 (by omega) [58,61] st p;by_cases c2:isM (tk ts (i'+1)) [[58,61]]=true
      ·rw[if_pos c2] at hl;have hi2:=W.isM hi1 c2;have A:=Un hb W hi2;cases hw2:yC ts (i'+2) with
       |er t=>
        rw[hw2] at hl A;have hl:SR.er t=r:=hl;subst hl;obtain⟨i2',d2,A⟩:=A;have E:∀ st p,Cl st p (pC ts (i'+2) 0)->∀ K Kp,XB Qaf base 48 [.ptr p 0] st K Kp=_:=λst p C K Kp=>A.xb C rfl (λst=>hb.no 48 (by decide) _ _) K Kp;unfold pC at *
        (have zz:=aI @g3 (aI @yY (aI @yX (aI C0.r (aI C1.r C2.r))));(repeat'(first|(apply jc<;>intro _)|simp(disch:=first|exact qW|fail) only[ja i0,ja i2,ja i3,hN,hM,k1,k1',vl,R,M1,c2,E,jai,sm9,sm3,ve,zR,YN,Vn,Vm (base:=base),C0.q,C1.q,C2.q,g3,yY,yX,C0.r,C1.r,C2.r,je,Tk.cells_R,rzZ,Qab,Qac,Qad,Qaa,Qae]));(all_goals(clear zz)))
        refine⟨i2',d2,?_⟩;unfold pC
        (refine G1.done ?_ (by rfl) (by rfl) ?_;(· (have zz:=aI C0.q (aI C1.q (aI C2.q (aI C0.r (aI C1.r C2.r))));first|exact qr|fail));(· first|exact vyD|skip))
       |ok y q=>
        rw[hw2] at hl A;dsimp only at hl;have A:PM _ _ _ _ _ _ _:=A;rw[qI] at A;have hq:q<ts.length:=(yZ W hi2 hw2).2.1;have hq2:i'+3<=q:=(yZ W hi2 hw2).1;have E:∀ st p,Cl st p (pC ts (i'+2) 0)->∀ K Kp,XB Qaf base 48 [.ptr p 0] st K Kp=_:=λst p C K Kp=>A.xb C rfl (λst=>hb.no 48 (by decide) _ _) K Kp;have T:=Y7 hb hq (d:=0) (by omega) [[44]] (cs:=[.str [44]]) (n:=1) rfl rfl (by decide);have M:=λst p=>@Q0 base hb ts q 0 hq (by omega) [59] st p;have Ap:=λst bv xc xx K h hv=>@X7 3 q0 vs.length 9 st v (fl asE vs) K 104 bv xc xx h (by decide) (by omega) (by omega) hv;obtain⟨a,hav⟩:∃ a:AsT,a=⟨(tk ts i').text,y,(tk ts i').line,(tk ts i').col⟩:=⟨_,rfl⟩;rw[<-hav] at hl;have ea:asE a=[.str (tk ts i').text,.int .i64 y.op,.int .i64 y.num,.str y.name,.lst y.kids.length (fl eE y.kids),.int .i64 y.line,.int .i64 y.col,.int .i64 ((tk ts i').line:Int),.int .i64 ((tk ts i').col:Int)]:=by rw[hav];unfold asE;rw[qI];rfl
        have V2:∀ st m',Lv 3 q0 st v vs.length (fl asE vs) 9->3<=st.nx->m'=st.nx+1->Lv 3 m' (aps v st [.str (tk ts i').text,.int .i64 y.op,.int .i64 y.num,.str y.name,.lst y.kids.length (fl eE y.kids),.int .i64 y.line,.int .i64 y.col,.int .i64 ((tk ts i').line:Int),.int .i64 ((tk ts i').col:Int)]) (apv 9 v st) (vs ++ [a]).length (fl asE (vs ++ [a])) 9:=λst m' h h2 h3=>by
         rw[Qak,Xz,QC,ea];exact h.put rfl h2 h3
        unfold pC at *
        (have zz:=aI @g3 (aI @yY (aI @yX (aI V.ln (aI V.rts (aI @jC (aI @jG (aI @jH (aI @V (aI @jD (aI @jK (aI @jO (aI C0.r (aI C1.r C2.r)))))))))))));(repeat'(first|(apply jc<;>intro _)|simp(disch:=first|exact qW|fail) only[ja i0,ja i2,ja i3,hN,hM,k1,k1',vl,R,M1,c2,E,jai,sm9,sm3,ve,Ap,V.at,jD,C0.q,C1.q,C2.q,g3,yY,yX,V.ln,V.rts,jC,jG,jH,V,jD,jK,jO,C0.r,C1.r,C2.r,je,Tk.cells_R,rzZ,Qab,Qac,Qad,Qaa,Qae]));(all_goals(clear zz)))
        rw[T _ 0 (s.nx+1+1+1) 1 true (by(have zz:=aI C0.q (aI C1.q (aI C2.q (aI @g3 (aI V.ln (aI V.rts (aI @jD (aI @jK (aI @jO (aI C0.r (aI C1.r C2.r))))))))));first|exact qr|fail)) (by(have zz:=aI C0.q (aI C1.q (aI C2.q (aI @g3 (aI V.ln (aI V.rts (aI @jD (aI @jK (aI @jO (aI C0.r (aI C1.r C2.r))))))))));first|exact qr|fail)) (by omega)]
        (have zz:=aI @g3 (aI V.ln (aI V.rts (aI @jD (aI @jK (aI @jO (aI C0.r (aI C1.r C2.r)))))));(repeat'(first|(apply jc<;>intro _)|simp(disch:=first|exact qW|fail) only[ja i0,ja i2,ja i3,M,V.at,jD,C0.q,C1.q,C2.q,g3,V.ln,V.rts,jD,jK,jO,C0.r,C1.r,C2.r,je,Tk.cells_R,rzZ,Qab,Qac,Qad,Qaa,Qae]));(all_goals(clear zz)))
        ·rename_i c;rw[if_pos c] at hl;have hi2':=W.isM hq c;refine⟨m,by omega,m,q+1,vs ++ [a],?v,rfl,by omega,hi2',hl,by omega,?c0,?c1,?c2,?lv,?has⟩;case lv=>
          refine Lv.up (hi:=s.nx+3) ?_ (by omega);simp(disch:=first|omega|(simp only[jg,jh,jj,jk];omega)) only[jC,jG,jH];refine V2 _ _ ?_ ?_ ?_;all_goals first|(simp only[jg,jh];done)|(simp only[jg,jh];omega)|(simp(disch:=first|omega|(simp only[jg,jh];omega)) only[jC,jG];exact V)
         case c0=>(have zz:=aI C0.q (aI C1.q (aI C2.q (aI @g3 (aI V.ln (aI V.rts (aI @jD (aI @jK (aI @jO (aI C0.r (aI C1.r C2.r))))))))));first|exact qr|fail)
         case c1=>(have zz:=aI C0.q (aI C1.q (aI C2.q (aI @g3 (aI V.ln (aI V.rts (aI @jD (aI @jK (aI @jO (aI C0.r (aI C1.r C2.r))))))))));first|exact qr|fail)
         case c2=>(have zz:=aI C0.q (aI C1.q (aI C2.q (aI @g3 (aI V.ln (aI V.rts (aI @jD (aI @jK (aI @jO (aI C0.r (aI C1.r C2.r))))))))));first|exact qr|fail)
         case has=>simp(disch:=decide) only[Qam,Qao,z0,z1,jd,jb,and_true,true_and,i0,i2,i3]
        ·rename_i c c4;rw[if_neg c,if_pos c4] at hl;have hl:SR.ok (⟨x,vs ++ [a]⟩:RuleT) (q+1)=r:=hl;subst hl;show G1 3 (pC ts (q+1) 0) (.agg (ruE ⟨x,vs ++ [a]⟩)) _ _;rw[show ruE ⟨x,vs ++ [a]⟩=[.int .i64 x.op,.int .i64 x.num,.str x.name,.lst x.kids.length (fl eE x.kids),.int .i64 x.line,.int .i64 x.col,.lst (vs ++ [a]).length (fl asE (vs ++ [a]))] by unfold ruE;rw[qI];rfl];refine G1.done ?_ (by rfl) (by rfl) (FzD.agg (.cons (.pc rfl) (.cons (.pc rfl) (.cons (.pc rfl) (.cons (.pc rfl) (.cons (.pc rfl) (.cons (.pc rfl) (.cons (Lv.fz (lo:=3) (hi:=s.nx+3) (z:=9) ?_ (by decide) (Jn Qs _)) .nil))))))))
         ·unfold pC
          (have zz:=aI C0.q (aI C1.q (aI C2.q (aI @g3 (aI V.ln (aI V.rts (aI @jD (aI @jK (aI @jO (aI C0.r (aI C1.r C2.r))))))))));first|exact qr|fail)
         ·simp(disch:=first|omega|(simp only[jg,jh,jj,jk];omega)) only[jF,jC,jG,jH];refine V2 _ _ ?_ ?_ ?_;all_goals first|(simp only[jg,jh];done)|(simp only[jg,jh];omega)|(simp(disch:=first|omega|(simp only[jg,jh];omega)) only[jC,jG];exact V)
        ·rename_i c c4;rw[if_neg c,if_neg c4] at hl;have hl:SR.er (tk ts q)=r:=hl;subst hl;refine⟨q,0,?_⟩;unfold pC
         (refine G1.done ?_ (by rfl) (by rfl) ?_;(· (have zz:=aI C0.q (aI C1.q (aI C2.q (aI @g3 (aI V.ln (aI V.rts (aI @jD (aI @jK (aI @jO (aI C0.r (aI C1.r C2.r))))))))));first|exact qr|fail));(· first|exact vyD|skip))
      ·rw[if_neg c2] at hl;have hl:SR.er (tk ts (i'+1))=r:=hl;subst hl;unfold pC at *
       (have zz:=aI @g3 (aI C0.r (aI C1.r C2.r));(repeat'(first|(apply jc<;>intro _)|simp(disch:=first|exact qW|fail) only[ja i0,ja i2,ja i3,hN,hM,k1,k1',vl,R,M1,c2,jai,ve,zR,C0.q,C1.q,C2.q,g3,C0.r,C1.r,C2.r,je,Tk.cells_R,rzZ,Qab,Qac,Qad,Qaa,Qae]));(all_goals(clear zz)))
       refine⟨i'+1,0,?_⟩;unfold pC
       (refine G1.done ?_ (by rfl) (by rfl) ?_;(· (have zz:=aI C0.q (aI C1.q (aI C2.q (aI C0.r (aI C1.r C2.r))));first|exact qr|fail));(· first|exact vyD|skip))
    ·rw[if_neg k1] at hl;have k1':¬ ((tk ts i').kind:Int)=1:=by omega
     have hl:SR.er (tk ts i')=r:=hl;subst hl;unfold pC at *
     (have zz:=aI @g3 (aI C0.r (aI C1.r C2.r));(repeat'(first|(apply jc<;>intro _)|simp(disch:=first|exact qW|fail) only[ja i0,ja i2,ja i3,hN,hM,k1,k1',zR,C0.q,C1.q,C2.q,g3,C0.r,C1.r,C2.r,je,Tk.cells_R,rzZ,Qab,Qac,Qad,Qaa,Qae]));(all_goals(clear zz)))
     refine⟨i',0,?_⟩;unfold pC
     (refine G1.done ?_ (by rfl) (by rfl) ?_;(· (have zz:=aI C0.q (aI C1.q (aI C2.q (aI C0.r (aI C1.r C2.r))));first|exact qr|fail));(· first|exact vyD|skip))
   ·refine⟨ts.length,j+1,[],.nils,rfl,by omega,hj1,hr,by omega,C0,C1,C2,Lv.nil,?_⟩;simp(disch:=decide) only[Qam,Qao,z0,z1,jd,jb,and_true,true_and]
  ·rw[if_neg c1];refine⟨j,0,?_⟩;unfold pC at *;refine qf jj5 (by rfl) (hb.pur 129 3 (by decide)) rfl ?_;simp only[jeS,jp,Qai,Qal,Qag,Qah];rw[(by unfold kD;simp only[qq];rfl:kD=_)];repeat'(first|(apply jc<;>intro _)|simp(disch:=first|exact dzD|fail) only[E,M,c1,je,Tk.cells_R,rzZ,Qab,Qac,Qad,Qaa,Qae])
   (refine G1.done ?_ (by rfl) (by rfl) ?_;(· (first|exact cyD|fail));(· first|exact vyD|skip))
end Go.Sy
end
noncomputable section
set_option maxRecDepth 100000
namespace Go.Sy
open Go.Ev Go.Proofs
variable {base:Bs}
theorem Vy (r:RuleT):ruE r=[.int .i64 r.when.op,.int .i64 r.when.num,.str r.when.name,.lst r.when.kids.length (fl eE r.when.kids),.int .i64 r.when.line,.int .i64 r.when.col,.lst r.acts.length (fl asE r.acts)]:=by unfold ruE;rw[qI];rfl
theorem wy (r:RuleT):(ruE r).length=7:=nr (by rw[Vy];rfl)
theorem wx (r:RuleT):(ruE r).all pc=true:=nr (by rw[Vy];rfl)
theorem jex {ts:List Tk}(W:Wds ts):∀ n i vs ws j,i<ts.length->Ju ts n i vs=.ok ws j->i<=j/\j<ts.length
 |0,i,vs,ws,j,_,h=>by simp[Ju] at h
 |n+1,i,vs,ws,j,hi,h=>by
  unfold Ju at h;split at h
  ·rename_i k1;have hi1:i+1<ts.length:=W.next i hi (by omega)
   split at h
   ·cases h
   ·split at h
    ·rename_i c;have hi2:=W.isM hi1 c;cases hw:yC ts (i+2) with
     |er t=>rw[hw] at h;cases h
     |ok x q=>
      rw[hw] at h;dsimp only at h;have g:=yZ W hi2 hw;split at h
      ·rename_i c2;have:=jex W n (q+1) _ ws j (W.isM g.2.1 c2) h;have:=g.1;exact⟨by omega,by omega⟩
      ·split at h
       ·rename_i c3;cases h;have:=W.isM g.2.1 c3;have:=g.1;exact⟨by omega,by omega⟩
       ·cases h
    ·cases h
  ·cases h
theorem Gk {ts:List Tk}(W:Wds ts){i j:Nat}{r:RuleT}(hi:i<ts.length)(h:JC ts i=.ok r j):i<j/\j<ts.length:=by
 unfold JC at h;cases hw:yC ts i with
 |er t=>rw[hw] at h;cases h
 |ok x q=>
  rw[hw] at h;dsimp only at h;have g:=yZ W hi hw;split at h
  ·rename_i c;have hq1:=W.isM g.2.1 c;cases ha:Ju ts ts.length (q+1) [] with
   |er t=>rw[ha] at h;cases h
   |ok vs k=>
    rw[ha] at h;cases h;have:=jex W _ _ _ _ _ hq1 ha;have:=g.1;exact⟨by omega,by omega⟩
  ·cases h
structure ProcT where
 name:List Nat
 rules:List RuleT
 line:Int
 col:Int
def prE (p:ProcT):List AV:=[.str p.name,.lst p.rules.length (fl ruE p.rules),.int .i64 (p.line:Int),.int .i64 (p.col:Int)]
def y8 (ts:List Tk):Nat->Nat->List RuleT->SR (List RuleT)
 |0,i,_=>.er (tk ts i)
 |n+1,i,vs=>if isM (tk ts i) [[119,104,101,110]]=true then
   (if 32<=vs.length then .er (tk ts i) else match JC ts (i+1) with
    |.er t=>.er t
    |.ok r j=>y8 ts n j (vs ++ [r]))
  else if isM (tk ts i) [[125]]=true then .ok vs (i+1) else .er (tk ts i)
def J5 (ts:List Tk)(i:Nat):SR ProcT:=
 if(tk ts i).kind=1 then
  (if isM (tk ts (i+1)) [[123]]=true then(match y8 ts ts.length (i+2) [] with
    |.ok vs j=>.ok ⟨(tk ts i).text,vs,(tk ts i).line,(tk ts i).col⟩ j
    |.er t=>.er t)
   else .er (tk ts (i+1)))
 else .er (tk ts i)
theorem jrc:Go.Ev.isAgg Qaf 96=some false:=by kernel_rfl
theorem jrb:Go.Ev.sizeOf Qaf 96=some 1:=by kernel_rfl
theorem jpd {b o:Nat}{v:AV}{h:T AO}(ho:o<qC h b)(hv:rat h b o=v)(hc:eqs v=true):(qa Qaf 96 (.ptr b o) v h=true)=True:=eq_true (Qx jrc jrb ho hv hc)
set_option maxHeartbeats 4000000 in
theorem jpz (hb:NB base){ts:List Tk}(W:Wds ts){i:Nat}(hi:i<ts.length):AnS base 80 (pC ts i 0) [] ts 0 (λe=>.agg (prE e)) (J5 ts i):=by
 have wl:=W.len;have N:=λst p=>@uZ base hb ts i 0 hi (by omega) st p;unfold J5;by_cases k1:(tk ts i).kind=1
 ·rw[if_pos k1];have hi1:i+1<ts.length:=W.next i hi (by omega)
  have M:=λst p=>@Q0 base hb ts (i+1) 0 hi1 (by omega) [123] st p;by_cases c1:isM (tk ts (i+1)) [[123]]=true
  ·rw[if_pos c1];have hi2:=W.isM hi1 c1;suffices h:∀ r:SR ProcT,(match y8 ts ts.length (i+2) [] with
    |.ok vs j=>SR.ok ⟨(tk ts i).text,vs,(tk ts i).line,(tk ts i).col⟩ j
    |.er t=>.er t:SR ProcT)=r->AnS base 80 (pC ts i 0) [] ts 0 (λe=>.agg (prE e)) r from h _ rfl
   intro r hr;refine vO x80 (by rfl) (hb.pur 80 3 (by decide)) ?_;simp only[y80,jp,Qai,Qal,Qag,Qah];rw[(by unfold z80;simp only[qq];rfl:z80=_)];unfold pC at *;repeat'(first|(apply jc<;>intro _)|simp(disch:=first|exact dzD|fail) only[N,k1,M,c1,je,Tk.cells_R,rzZ,Qab,Qac,Qad,Qaa,Qae])
   refine uO λu hu=>?_;have n0:u.nx=4:=by rw[hu];rfl
   have C0:Cl u 0 (pC ts (i+2) 0):=by
    rw[hu];unfold pC
    (first|exact cyD|fail)
   have C1:Cl u 1 [.str [],.nils,.int .i64 0,.int .i64 0]:=by
    rw[hu]
    (first|exact cyD|fail)
   have C3:Cl u 3 [.str (tk ts i).text,.nils,.int .i64 ((tk ts i).line:Int),.int .i64 ((tk ts i).col:Int)]:=by
    rw[hu]
    (first|exact cyD|fail)
   clear hu N M;generalize (tk ts i).text=nm at *;generalize (tk ts i).line=ln at *;generalize (tk ts i).col=co at *;refine zY (λmm L s=>∃ (m i':Nat) (vs:List RuleT) (v:AV),mm=m/\ts.length<=i'+m/\i'<ts.length/\(match y8 ts m i' vs with | .ok vs j=>SR.ok ⟨nm,vs,ln,co⟩ j | .er t=>.er t:SR ProcT)=r/\4<=s.nx/\Cl s 0 (pC ts i' 0)/\Cl s 1 [.str [],.nils,.int .i64 0,.int .i64 0]/\Cl s 3 [.str nm,v,.int .i64 (ln:Int),.int .i64 (co:Int)]/\Lv 4 s.nx s v vs.length (fl ruE vs) 7/\Has L 0 (.ptr 0 0)/\Has L 2 (.ptr 1 0)/\Has L 4 (.ptr 3 0)) ?_ ts.length ?_
   ·rintro m L s ⟨_,i',vs,v,rfl,hm,hi',hl,n0,C0,C1,C3,V,i0,i2,i4⟩;clear hr;cases m with
    |zero=>omega
    |succ m=>
    unfold y8 at hl;obtain⟨q,hq⟩:∃ q,q=s.nx:=⟨_,rfl⟩;rw[<-hq] at V;have hq':q<=s.nx:=QbJ hq;have T:=Y7 hb hi' (d:=0) (by omega) [[119,104,101,110]] (cs:=[.str [119,104,101,110]]) (n:=1) rfl rfl (by decide);have L0:=C0.lt;have L1:=C1.lt;have L3:=C3.lt;have ve:=V.eqs;have g3:rat s.h 3 1=v:=C3.cell 1 (QbN (Qbr 2));have vl:=V.len;have vc:∀ l,lall AV.cell (v :: l)=lall AV.cell l:=λl=>by show cond v.cell _ false=_;rw[V.cell];rfl
    by_cases c2:isM (tk ts i') [[119,104,101,110]]=true
    ·rw[if_pos c2] at hl;have hi1:=W.isM hi' c2;by_cases h32:32<=vs.length
     ·rw[if_pos h32] at hl;have hl:SR.er (tk ts i')=r:=hl;subst hl;have R:=wU hb h32 (tk ts i');unfold pC at *
      (have zz:=aI @g3 (aI C0.r (aI C1.r C3.r));(repeat'(first|(apply jc<;>intro _)|simp(disch:=first|exact qW|fail) only[ja i0,ja i2,ja i4,T,c2,vl,R,g3,zR,C0.q,C1.q,C3.q,g3,C0.r,C1.r,C3.r,je,Tk.cells_R,rzZ,Qab,Qac,Qad,Qaa,Qae]));(all_goals(clear zz)))
      refine⟨i'+1,0,?_⟩;unfold pC
      (refine G1.done ?_ (by rfl) (by rfl) ?_;(· (have zz:=aI C0.q (aI C1.q (aI C3.q (aI C0.r (aI C1.r C3.r))));first|exact qr|fail));(· first|exact vyD|skip))
     ·rw[if_neg h32] at hl;have R:=wT hb (show vs.length<32 by omega) (tk ts i');have A:=jpn hb W hi1;cases hw:JC ts (i'+1) with
      |er t=>
       rw[hw] at hl A;have hl:SR.er t=r:=hl;subst hl;obtain⟨i2',d2,A⟩:=A;have E:∀ st p,Cl st p (pC ts (i'+1) 0)->∀ K Kp,XB Qaf base 129 [.ptr p 0] st K Kp=_:=λst p C K Kp=>A.xb C rfl (λst=>hb.no 129 (by decide) _ _) K Kp;unfold pC at *
       (have zz:=aI @g3 (aI C0.r (aI C1.r C3.r));(repeat'(first|(apply jc<;>intro _)|simp(disch:=first|exact qW|fail) only[ja i0,ja i2,ja i4,T,c2,vl,R,g3,E,jpd,ve,zR,C0.q,C1.q,C3.q,g3,C0.r,C1.r,C3.r,je,Tk.cells_R,rzZ,Qab,Qac,Qad,Qaa,Qae]));(all_goals(clear zz)))
       refine⟨i2',d2,?_⟩;unfold pC
       (refine G1.done ?_ (by rfl) (by rfl) ?_;(· (have zz:=aI C0.q (aI C1.q (aI C3.q (aI C0.r (aI C1.r C3.r))));first|exact qr|fail));(· first|exact vyD|skip))
      |ok a j=>
       rw[hw] at hl A;dsimp only at hl;have A:PM _ _ _ _ _ _ _:=A;have A:PM Qaf base 129 (pC ts (i'+1) 0) [] (.ok (.agg [.int .i64 a.when.op,.int .i64 a.when.num,.str a.when.name,.lst a.when.kids.length (fl eE a.when.kids),.int .i64 a.when.line,.int .i64 a.when.col,.lst a.acts.length (fl asE a.acts)])) (pC ts j 0):=by rw[<-Vy];exact A
       have hj:=Gk W hi1 hw;have E:∀ st p,Cl st p (pC ts (i'+1) 0)->∀ K Kp,XB Qaf base 129 [.ptr p 0] st K Kp=_:=λst p C K Kp=>A.xb C rfl (λst=>hb.no 129 (by decide) _ _) K Kp;have Ap:=λst bv xc xx K h hv=>@X7 4 q vs.length 7 st v (fl ruE vs) K 96 bv xc xx h (by decide) (by omega) (by omega) hv;have V2:∀ st m',Lv 4 q st v vs.length (fl ruE vs) 7->4<=st.nx->m'=st.nx+1->Lv 4 m' (aps v st [.int .i64 a.when.op,.int .i64 a.when.num,.str a.when.name,.lst a.when.kids.length (fl eE a.when.kids),.int .i64 a.when.line,.int .i64 a.when.col,.lst a.acts.length (fl asE a.acts)]) (apv 7 v st) (vs ++ [a]).length (fl ruE (vs ++ [a])) 7:=λst m' h h2 h3=>by
        rw[Qak,Xz,QC,Vy a];exact h.put rfl h2 h3
       unfold pC at *
       (have zz:=aI @g3 (aI V.ln (aI V.rts (aI @jC (aI @jG (aI @jH (aI @V (aI @jD (aI @jK (aI @jO (aI C0.r (aI C1.r C3.r)))))))))));(repeat'(first|(apply jc<;>intro _)|simp(disch:=first|exact qW|fail) only[ja i0,ja i2,ja i4,T,c2,vl,R,g3,E,jpd,ve,Ap,V.at,jD,C0.q,C1.q,C3.q,g3,V.ln,V.rts,jC,jG,jH,V,jD,jK,jO,C0.r,C1.r,C3.r,je,Tk.cells_R,rzZ,Qab,Qac,Qad,Qaa,Qae]));(all_goals(clear zz)))
       refine⟨m,by omega,m,j,vs ++ [a],?v,rfl,by omega,hj.2,hl,by omega,?c0,?c1,?c3,?lv,?has⟩;case lv=>
        refine Lv.up (hi:=s.nx+4) ?_ (by omega);refine V2 _ _ ?_ ?_ ?_;all_goals first|(simp only[jg,jh,jk];done)|(simp only[jg,jh,jk];omega)|(simp(disch:=first|omega|(simp only[jg,jh,jk];omega)) only[jC,jG,jH];exact V)
       case c0=>(have zz:=aI C0.q (aI C1.q (aI C3.q (aI @g3 (aI V.ln (aI V.rts (aI @jD (aI @jK (aI @jO (aI C0.r (aI C1.r C3.r))))))))));first|exact qr|fail)
       case c1=>(have zz:=aI C0.q (aI C1.q (aI C3.q (aI @g3 (aI V.ln (aI V.rts (aI @jD (aI @jK (aI @jO (aI C0.r (aI C1.r C3.r))))))))));first|exact qr|fail)
       case c3=>(have zz:=aI C0.q (aI C1.q (aI C3.q (aI @g3 (aI V.ln (aI V.rts (aI @jD (aI @jK (aI @jO (aI C0.r (aI C1.r C3.r))))))))));first|exact qr|fail)
       case has=>simp(disch:=decide) only[Qam,Qao,z0,z1,jd,jb,and_true,true_and,i0,i2,i4]
    ·rw[if_neg c2] at hl;have M:=λst p=>@Q0 base hb ts i' 0 hi' (by omega) [125] st p;unfold pC at *
     (have zz:=aI @g3 (aI @vc (aI C0.r (aI C1.r C3.r)));(repeat'(first|(apply jc<;>intro _)|simp(disch:=first|exact qW|fail) only[ja i0,ja i2,ja i4,T,c2,M,g3,C0.q,C1.q,C3.q,g3,vc,C0.r,C1.r,C3.r,je,Tk.cells_R,rzZ,Qab,Qac,Qad,Qaa,Qae]));(all_goals(clear zz)))
     ·rename_i c4;rw[if_pos c4] at hl;have hl:SR.ok (⟨nm,vs,ln,co⟩:ProcT) (i'+1)=r:=hl;subst hl;show G1 3 (pC ts (i'+1) 0) (.agg (prE ⟨nm,vs,ln,co⟩)) _ _;refine G1.done ?_ (by rfl) (by rfl) (FzD.agg (.cons (.pc rfl) (.cons (Lv.fz (lo:=4) (hi:=q) (z:=7) ?_ (by decide) (Jn wx _)) (.cons (.pc rfl) (.cons (.pc rfl) .nil)))))
      ·unfold pC
       (have zz:=aI C0.q (aI C1.q (aI C3.q (aI @g3 (aI V.ln (aI V.rts (aI @jD (aI @jK (aI @jO (aI C0.r (aI C1.r C3.r))))))))));first|exact qr|fail)
      ·simp(disch:=first|omega|(simp only[jg,jh,jk];omega)) only[jF,jC,jG,jH];exact V
     ·rename_i c4;rw[if_neg c4] at hl;have hl:SR.er (tk ts i')=r:=hl;subst hl;refine⟨i',0,?_⟩;unfold pC
      (refine G1.done ?_ (by rfl) (by rfl) ?_;(· (have zz:=aI C0.q (aI C1.q (aI C3.q (aI @g3 (aI V.ln (aI V.rts (aI @jD (aI @jK (aI @jO (aI C0.r (aI C1.r C3.r))))))))));first|exact qr|fail));(· first|exact vyD|skip))
   ·refine⟨ts.length,i+2,[],.nils,rfl,by omega,hi2,hr,by omega,C0,C1,C3,Lv.nil,?_⟩;simp(disch:=decide) only[Qam,Qao,z0,z1,jd,jb,and_true,true_and]
  ·rw[if_neg c1];refine⟨i+1,0,?_⟩;unfold pC at *;refine qf x80 (by rfl) (hb.pur 80 3 (by decide)) rfl ?_;simp only[y80,jp,Qai,Qal,Qag,Qah];rw[(by unfold z80;simp only[qq];rfl:z80=_)];repeat'(first|(apply jc<;>intro _)|simp(disch:=first|exact dzD|fail) only[N,k1,M,c1,je,Tk.cells_R,rzZ,Qab,Qac,Qad,Qaa,Qae])
   (refine G1.done ?_ (by rfl) (by rfl) ?_;(· (first|exact cyD|fail));(· first|exact vyD|skip))
 ·rw[if_neg k1];refine⟨i,0,?_⟩;unfold pC at *;refine qf x80 (by rfl) (hb.pur 80 3 (by decide)) rfl ?_;simp only[y80,jp,Qai,Qal,Qag,Qah];rw[(by unfold z80;simp only[qq];rfl:z80=_)];repeat'(first|(apply jc<;>intro _)|simp(disch:=first|exact dzD|fail) only[N,k1,je,Tk.cells_R,rzZ,Qab,Qac,Qad,Qaa,Qae])
  (refine G1.done ?_ (by rfl) (by rfl) ?_;(· (first|exact cyD|fail));(· first|exact vyD|skip))
end Go.Sy
end
noncomputable section
set_option maxRecDepth 100000
namespace Go.Sy
open Go.Ev Go.Proofs
variable {base:Bs}
def Df:AV->AV->Prop
 |.slice b _ _ _ _ _,.slice c _ _ _ _ _=>c≠b
 |_,_=>True
theorem Lv.apsD {lo hi n z:Nat}{s:St}{v w:AV}{cs news:List AV}(V:Lv lo hi s w n cs z)(h:Df v w):Lv lo hi (Go.Sy.aps v s news) w n cs z:=by
 rcases V with ⟨rfl,h2,h3⟩|⟨b,rfl,h2,h3,h4,h5,h6⟩
 ·exact .inl ⟨rfl,h2,h3⟩
 ·refine .inr ⟨b,rfl,h2,h3,?_,h5,h6⟩;unfold Go.Sy.aps;split
  ·exact h4.apO h
  ·exact h4.nw news
theorem Df.put {lo hi n z z':Nat}{s t:St}{v w:AV}{cs:List AV}(V:Lv lo hi s w n cs z)(h:hi<=t.nx):Df (apv z' v t) w/\Df w (apv z' v t):=by
 rcases V with ⟨rfl,h2,h3⟩|⟨b,rfl,h2,h3,h4,h5,h6⟩
 ·unfold apv;split<;>exact⟨trivial,trivial⟩
 ·unfold apv;split<;>exact⟨by show b≠t.nx;omega,by show t.nx≠b;omega⟩
structure SrcT where
 enums:List EnumT
 vars:List DeclT
 procs:List ProcT
def srE (m:SrcT):List AV:=[.lst m.enums.length (fl enE m.enums),.lst m.vars.length (fl qm m.vars),.lst m.procs.length (fl prE m.procs)]
def yq (ts:List Tk):Nat->Nat->SrcT->SR SrcT
 |0,i,_=>.er (tk ts i)
 |n+1,i,m=>if isM (tk ts i) [[101,110,117,109],[118,97,114],[112,114,111,99,101,115,115]]=true then
   (if(tk ts i).text=[101,110,117,109] then
    (if 32<=m.enums.length then .er (tk ts i) else match Xd ts (i+1) with
     |.er t=>.er t
     |.ok e j=>yq ts n j { m with enums:=m.enums ++ [e] })
   else if(tk ts i).text=[118,97,114] then
    (if 32<=m.vars.length then .er (tk ts i) else match J7 ts (i+1) with
     |.er t=>.er t
     |.ok e j=>yq ts n j { m with vars:=m.vars ++ [e] })
   else(if 32<=m.procs.length then .er (tk ts i) else match J5 ts (i+1) with
     |.er t=>.er t
     |.ok e j=>yq ts n j { m with procs:=m.procs ++ [e] }))
  else if(tk ts i).kind=5 then .ok m i else .er (tk ts i)
theorem jds {ts:List Tk}(W:Wds ts):∀ n i vs ws j,i<ts.length->QO ts n i vs=.ok ws j->i<=j/\j<ts.length
 |0,i,vs,ws,j,_,h=>by simp[QO] at h
 |n+1,i,vs,ws,j,hi,h=>by
  unfold QO at h;split at h
  ·rename_i k1;have hi1:i+1<ts.length:=W.next i hi (by omega)
   split at h
   ·cases h
   ·split at h
    ·rename_i c;have hi2:=W.isM hi1 c;have:=jds W n (i+2) _ ws j hi2 h;exact⟨by omega,by omega⟩
    ·split at h
     ·rename_i c;cases h;have:=W.isM hi1 c;exact⟨by omega,this⟩
     ·cases h
  ·cases h
theorem jeh {ts:List Tk}(W:Wds ts){i j:Nat}{e:EnumT}(hi:i<ts.length)(h:Xd ts i=.ok e j):i<j/\j<ts.length:=by
 unfold Xd at h;split at h
 ·rename_i k1;have hi1:i+1<ts.length:=W.next i hi (by omega)
  split at h
  ·rename_i c;have hi2:=W.isM hi1 c;cases hv:QO ts ts.length (i+2) [] with
   |er t=>rw[hv] at h;cases h
   |ok vs k=>
    rw[hv] at h;cases h;have:=jds W _ _ _ _ _ hi2 hv;exact⟨by omega,by omega⟩
  ·cases h
 ·cases h
theorem jby {ts:List Tk}(W:Wds ts):∀ n i vs ws j,i<ts.length->y8 ts n i vs=.ok ws j->i<=j/\j<ts.length
 |0,i,vs,ws,j,_,h=>by simp[y8] at h
 |n+1,i,vs,ws,j,hi,h=>by
  unfold y8 at h;split at h
  ·rename_i c;have hi1:=W.isM hi c;split at h
   ·cases h
   ·cases hr:JC ts (i+1) with
    |er t=>rw[hr] at h;cases h
    |ok r k=>
     rw[hr] at h;dsimp only at h;have g:=Gk W hi1 hr;have:=jby W n k _ ws j g.2 h;exact⟨by omega,by omega⟩
  ·split at h
   ·rename_i c;cases h;exact⟨by omega,W.isM hi c⟩
   ·cases h
theorem jdO {ts:List Tk}(W:Wds ts){i j:Nat}{e:ProcT}(hi:i<ts.length)(h:J5 ts i=.ok e j):i<j/\j<ts.length:=by
 unfold J5 at h;split at h
 ·rename_i k1;have hi1:i+1<ts.length:=W.next i hi (by omega)
  split at h
  ·rename_i c;have hi2:=W.isM hi1 c;cases hv:y8 ts ts.length (i+2) [] with
   |er t=>rw[hv] at h;cases h
   |ok vs k=>
    rw[hv] at h;cases h;have:=jby W _ _ _ _ _ hi2 hv;exact⟨by omega,by omega⟩
  ·cases h
 ·cases h
theorem jhK {ts:List Tk}(W:Wds ts){i j:Nat}{n:Int}(h:Xp ts i=.ok n j):i<j:=by
 unfold Xp at h;split at h
 ·split at h
  ·cases h;omega
  ·cases h
 ·split at h
  ·cases h;omega
  ·cases h
theorem jg6 {ts:List Tk}(W:Wds ts){i j:Nat}{y:List Nat×Int×Int}(hi:i<ts.length)(h:Zv ts i=.ok y j):i<j/\j<ts.length:=by
 unfold Zv at h;split at h
 ·rename_i c;cases h;exact⟨by omega,W.isM hi c⟩
 ·split at h
  ·rename_i k1;cases h;exact⟨by omega,W.next i hi (by omega)⟩
  ·cases hn:Xp ts i with
   |er t=>rw[hn] at h;cases h
   |ok lo k=>
    rw[hn] at h;dsimp only at h;have g:=KY W hi hn;have g1:=jhK W hn;split at h
    ·rename_i c;have hk1:=W.isM g c;cases hn2:Xp ts (k+1) with
     |er t=>rw[hn2] at h;cases h
     |ok h2 q=>
      rw[hn2] at h;cases h;have:=KY W hk1 hn2;have:=jhK W hn2;exact⟨by omega,by omega⟩
    ·cases h
theorem jqK {ts:List Tk}(W:Wds ts){i j:Nat}{bs:List Ex}(hi:i<ts.length)(h:XL ts i=.ok bs j):i<j/\j<ts.length:=by
 unfold XL at h;split at h
 ·rename_i c;have hi1:=W.isM hi c;cases hw:yC ts (i+1) with
  |er t=>rw[hw] at h;cases h
  |ok x k=>
   rw[hw] at h;dsimp only at h;have g:=yZ W hi1 hw;split at h
   ·rename_i c2;cases h;have:=W.isM g.2.1 c2;have:=g.1;exact⟨by omega,by omega⟩
   ·cases h
 ·split at h
  ·rename_i c;cases h;exact⟨by omega,W.isM hi c⟩
  ·cases h
theorem jel {ts:List Tk}(W:Wds ts){i j:Nat}{e:DeclT}(hi:i<ts.length)(h:J7 ts i=.ok e j):i<j/\j<ts.length:=by
 unfold J7 at h;split at h
 ·rename_i k1;have hi1:i+1<ts.length:=W.next i hi (by omega)
  split at h
  ·rename_i c;have hi2:=W.isM hi1 c;cases ht:Zv ts (i+2) with
   |er t=>rw[ht] at h;cases h
   |ok y k=>
    rw[ht] at h;dsimp only at h;have g:=jg6 W hi2 ht;cases hv:XL ts k with
    |er t=>rw[hv] at h;cases h
    |ok bs q=>
     rw[hv] at h;cases h;have:=jqK W g.2 hv;exact⟨by omega,by omega⟩
  ·cases h
 ·cases h
end Go.Sy
end
noncomputable section
set_option maxRecDepth 100000
namespace Go.Sy
open Go.Ev Go.Proofs
variable {base:Bs}
theorem JI (e:EnumT):(enE e).all pc=true:=by
 have:∀ l:List (List Nat),(l.map AV.str).all pc=true:=uS;show([AV.str e.name,.lst e.vals.length (e.vals.map .str),.int .i64 (e.line:Int),.int .i64 (e.col:Int)]).all pc=true;simp[pc]
theorem Jj (e:DeclT):(qm e).all pc=true:=by
 show([AV.str e.name,.str e.ty,.int .i64 e.lo,.int .i64 e.hi,.lst e.begins.length (fl eE e.begins),.int .i64 (e.line:Int),.int .i64 (e.col:Int)]).all pc=true;simp[pc]
theorem UD (e:ProcT):(prE e).all pc=true:=by
 show([AV.str e.name,.lst e.rules.length (fl ruE e.rules),.int .i64 (e.line:Int),.int .i64 (e.col:Int)]).all pc=true;simp[pc]
theorem Df.symm {v w:AV}(h:Df v w):Df w v:=by
 unfold Df at *;split at h<;>first|exact λe=>h e.symm|(cases v<;>cases w<;>first|trivial|(rename_i h2;exact absurd rfl (h2 _ _ _ _ _ _ _ _ _ _ _ _ rfl)))
theorem jrw:Go.Ev.isAgg Qaf 23=some false:=by kernel_rfl
theorem jrv:Go.Ev.sizeOf Qaf 23=some 1:=by kernel_rfl
theorem Gi {b o:Nat}{v:AV}{h:T AO}(ho:o<qC h b)(hv:rat h b o=v)(hc:eqs v=true):(qa Qaf 23 (.ptr b o) v h=true)=True:=eq_true (Qx jrw jrv ho hv hc)
theorem jru:Go.Ev.isAgg Qaf 24=some false:=by kernel_rfl
theorem jrt:Go.Ev.sizeOf Qaf 24=some 1:=by kernel_rfl
theorem jkj {b o:Nat}{v:AV}{h:T AO}(ho:o<qC h b)(hv:rat h b o=v)(hc:eqs v=true):(qa Qaf 24 (.ptr b o) v h=true)=True:=eq_true (Qx jru jrt ho hv hc)
theorem jrs:Go.Ev.isAgg Qaf 25=some false:=by kernel_rfl
theorem jrr:Go.Ev.sizeOf Qaf 25=some 1:=by kernel_rfl
theorem jpg {b o:Nat}{v:AV}{h:T AO}(ho:o<qC h b)(hv:rat h b o=v)(hc:eqs v=true):(qa Qaf 25 (.ptr b o) v h=true)=True:=eq_true (Qx jrs jrr ho hv hc)
set_option maxHeartbeats 8000000 in
theorem jkh (hb:NB base){ts:List Tk}(W:Wds ts)(NN:Nbs ts){i:Nat}(hi:i<ts.length):AnS base 37 (pC ts i 0) [] ts 0 (λe=>.agg (srE e)) (yq ts ts.length i ⟨[],[],[]⟩):=by
 have wl:=W.len;suffices h:∀ r:SR SrcT,yq ts ts.length i ⟨[],[],[]⟩=r->AnS base 37 (pC ts i 0) [] ts 0 (λe=>.agg (srE e)) r from h _ rfl
 intro r hr;refine vO x37 (by rfl) (hb.pur 37 3 (by decide)) ?_;simp only[y37,jp,Qai,Qal,Qag,Qah];rw[(by unfold z37;simp only[qq];rfl:z37=_)];unfold pC at *;repeat'(first|(apply jc<;>intro _)|simp(disch:=first|exact dzD|fail) only[je,Tk.cells_R,rzZ,Qab,Qac,Qad,Qaa,Qae])
 refine uO λu hu=>?_;have n0:u.nx=3:=by rw[hu];rfl
 have C0:Cl u 0 (pC ts i 0):=by
  rw[hu];unfold pC
  (first|exact cyD|fail)
 have C1:Cl u 1 [.nils,.nils,.nils]:=by
  rw[hu]
  (first|exact cyD|fail)
 have C2:Cl u 2 [.nils,.nils,.nils]:=by
  rw[hu]
  (first|exact cyD|fail)
 clear hu;refine zY (λmm L s=>∃ (m i':Nat) (x:SrcT) (v1 v2 v3:AV),mm=m/\ts.length<=i'+m/\i'<ts.length/\yq ts m i' x=r/\3<=s.nx/\Cl s 0 (pC ts i' 0)/\Cl s 1 [.nils,.nils,.nils]/\Cl s 2 [v1,v2,v3]/\Lv 3 s.nx s v1 x.enums.length (fl enE x.enums) 4/\Lv 3 s.nx s v2 x.vars.length (fl qm x.vars) 7/\Lv 3 s.nx s v3 x.procs.length (fl prE x.procs) 4/\Df v1 v2/\Df v1 v3/\Df v2 v3/\Has L 0 (.ptr 0 0)/\Has L 2 (.ptr 1 0)/\Has L 3 (.ptr 2 0)) ?_ ts.length ?_
 ·rintro m L s ⟨_,i',x,v1,v2,v3,rfl,hm,hi',hl,n0,C0,C1,C2,V1,V2,V3,D12,D13,D23,i0,i2,i3⟩;clear hr;cases m with
  |zero=>omega
  |succ m=>
  unfold yq at hl;obtain⟨q,hq⟩:∃ q,q=s.nx:=⟨_,rfl⟩;rw[<-hq] at V1 V2 V3;have hq':q<=s.nx:=QbJ hq;have T:=Y7 hb hi' (d:=0) (by omega) [[101,110,117,109],[118,97,114],[112,114,111,99,101,115,115]] (cs:=[.str [101,110,117,109],.str [118,97,114],.str [112,114,111,99,101,115,115]]) (n:=3) rfl rfl (by decide);have L0:=C0.lt;have L1:=C1.lt;have L2:=C2.lt;have ve1:=V1.eqs;have ve2:=V2.eqs;have ve3:=V3.eqs;have g1:rat s.h 2 0=v1:=C2.cell 0 (Qbr 2);have g2:rat s.h 2 1=v2:=C2.cell 1 (QbN (Qbr 1));have g3:rat s.h 2 2=v3:=C2.cell 2 (QbN (QbN (Qbr 0)));have vl1:=V1.len;have vl2:=V2.len;have vl3:=V3.len;have vc1:∀ l,lall AV.cell (v1 :: l)=lall AV.cell l:=λl=>by show cond v1.cell _ false=_;rw[V1.cell];rfl
  have vc2:∀ l,lall AV.cell (v2 :: l)=lall AV.cell l:=λl=>by show cond v2.cell _ false=_;rw[V2.cell];rfl
  have vc3:∀ l,lall AV.cell (v3 :: l)=lall AV.cell l:=λl=>by show cond v3.cell _ false=_;rw[V3.cell];rfl
  by_cases c2:isM (tk ts i') [[101,110,117,109],[118,97,114],[112,114,111,99,101,115,115]]=true
  ·rw[if_pos c2] at hl;have hi1:=W.isM hi' c2;by_cases t1:(tk ts i').text=[101,110,117,109]
   ·rw[if_pos t1] at hl;by_cases h32:32<=x.enums.length
    ·rw[if_pos h32] at hl;have hl:SR.er (tk ts i')=r:=hl;subst hl;have R:=wU hb h32 (tk ts i');unfold pC at *
     (have zz:=aI @g1 (aI C0.r (aI C1.r C2.r));(repeat'(first|(apply jc<;>intro _)|simp(disch:=first|exact qW|fail) only[ja i0,ja i2,ja i3,T,c2,t1,vl1,R,g1,zR,C0.q,C1.q,C2.q,g1,C0.r,C1.r,C2.r,je,Tk.cells_R,rzZ,Qab,Qac,Qad,Qaa,Qae]));(all_goals(clear zz)))
     refine⟨i'+1,0,?_⟩;unfold pC
     (refine G1.done ?_ (by rfl) (by rfl) ?_;(· (have zz:=aI C0.q (aI C1.q (aI C2.q (aI C0.r (aI C1.r C2.r))));first|exact qr|fail));(· first|exact vyD|skip))
    ·rw[if_neg h32] at hl;have R:=wT hb (show x.enums.length<32 by omega) (tk ts i');have A:=jql hb W (d:=0) hi1;cases hw:Xd ts (i'+1) with
     |er t=>
      rw[hw] at hl A;have hl:SR.er t=r:=hl;subst hl;obtain⟨i2',d2,A⟩:=A;have E:∀ st p,Cl st p (pC ts (i'+1) 0)->∀ K Kp,XB Qaf base 78 [.ptr p 0] st K Kp=_:=λst p C K Kp=>A.xb C rfl (λst=>hb.no 78 (by decide) _ _) K Kp;unfold pC at *
      (have zz:=aI @g1 (aI C0.r (aI C1.r C2.r));(repeat'(first|(apply jc<;>intro _)|simp(disch:=first|exact qW|fail) only[ja i0,ja i2,ja i3,T,c2,t1,vl1,R,g1,E,Gi,ve1,zR,C0.q,C1.q,C2.q,g1,C0.r,C1.r,C2.r,je,Tk.cells_R,rzZ,Qab,Qac,Qad,Qaa,Qae]));(all_goals(clear zz)))
      refine⟨i2',d2,?_⟩;unfold pC
      (refine G1.done ?_ (by rfl) (by rfl) ?_;(· (have zz:=aI C0.q (aI C1.q (aI C2.q (aI C0.r (aI C1.r C2.r))));first|exact qr|fail));(· first|exact vyD|skip))
     |ok a j=>
      rw[hw] at hl A;dsimp only at hl;have A:PM Qaf base 78 (pC ts (i'+1) 0) [] (.ok (.agg [.str a.name,.lst a.vals.length (a.vals.map .str),.int .i64 (a.line:Int),.int .i64 (a.col:Int)])) (pC ts j 0):=A;have hj:=jeh W hi1 hw;have E:∀ st p,Cl st p (pC ts (i'+1) 0)->∀ K Kp,XB Qaf base 78 [.ptr p 0] st K Kp=_:=λst p C K Kp=>A.xb C rfl (λst=>hb.no 78 (by decide) _ _) K Kp;have Ap:=λst bv xc xx K h hv=>@X7 3 q x.enums.length 4 st v1 (fl enE x.enums) K 56 bv xc xx h (by decide) (by omega) (by omega) hv;have VP:∀ st m',Lv 3 q st v1 x.enums.length (fl enE x.enums) 4->3<=st.nx->m'=st.nx+1->Lv 3 m' (aps v1 st [.str a.name,.lst a.vals.length (a.vals.map .str),.int .i64 (a.line:Int),.int .i64 (a.col:Int)]) (apv 4 v1 st) (x.enums ++ [a]).length (fl enE (x.enums ++ [a])) 4:=λst m' h h2 h3=>by
       rw[Qak,Xz,QC];exact h.put rfl h2 h3
      unfold pC at *
      (have zz:=aI @g1 (aI V1.ln (aI V1.rts (aI @jC (aI @jG (aI @jH (aI @V1 (aI @jD (aI @jK (aI @jO (aI C0.r (aI C1.r C2.r)))))))))));(repeat'(first|(apply jc<;>intro _)|simp(disch:=first|exact qW|fail) only[ja i0,ja i2,ja i3,T,c2,t1,vl1,R,g1,E,Gi,ve1,Ap,V1.at,jD,C0.q,C1.q,C2.q,g1,V1.ln,V1.rts,jC,jG,jH,V1,jD,jK,jO,C0.r,C1.r,C2.r,je,Tk.cells_R,rzZ,Qab,Qac,Qad,Qaa,Qae]));(all_goals(clear zz)))
      refine⟨m,by omega,m,j,{ x with enums:=x.enums ++ [a] },?v1,v2,v3,rfl,by omega,hj.2,hl,by omega,?c0,?c1,?c2,?lv1,?lv2,?lv3,?d12,?d13,?d23,?has⟩;case lv1=>
       refine Lv.up (hi:=s.nx+4) ?_ (by omega);refine VP _ _ ?_ ?_ ?_;all_goals first|(simp only[jg,jh,jk];done)|(simp only[jg,jh,jk];omega)|(simp(disch:=first|omega|(simp only[jg,jh,jk];omega)) only[jC,jG,jH];exact V1)
      case lv2=>
       refine Lv.up (hi:=q) ?_ (by omega);simp(disch:=first|omega|(simp only[jg,jh,jk];omega)) only[jC,jG,jH];refine Lv.apsD ?_ D12;simp(disch:=first|omega|(simp only[jg,jh,jk];omega)) only[jC,jG,jH];exact V2
      case d12=>exact(Df.put V2 (by simp only[jg,jh,jk];omega)).1
      case lv3=>
       refine Lv.up (hi:=q) ?_ (by omega);simp(disch:=first|omega|(simp only[jg,jh,jk];omega)) only[jC,jG,jH];refine Lv.apsD ?_ D13;simp(disch:=first|omega|(simp only[jg,jh,jk];omega)) only[jC,jG,jH];exact V3
      case d13=>exact(Df.put V3 (by simp only[jg,jh,jk];omega)).1
      case d23=>exact D23
      case c0=>(have zz:=aI C0.q (aI C1.q (aI C2.q (aI @g1 (aI @g2 (aI @g3 (aI V1.ln (aI V1.rts (aI @jD (aI @jK (aI @jO (aI C0.r (aI C1.r C2.r))))))))))));first|exact qr|fail)
      case c1=>(have zz:=aI C0.q (aI C1.q (aI C2.q (aI @g1 (aI @g2 (aI @g3 (aI V1.ln (aI V1.rts (aI @jD (aI @jK (aI @jO (aI C0.r (aI C1.r C2.r))))))))))));first|exact qr|fail)
      case c2=>(have zz:=aI C0.q (aI C1.q (aI C2.q (aI @g1 (aI @g2 (aI @g3 (aI V1.ln (aI V1.rts (aI @jD (aI @jK (aI @jO (aI C0.r (aI C1.r C2.r))))))))))));first|exact qr|fail)
      case has=>simp(disch:=decide) only[Qam,Qao,z0,z1,jd,jb,and_true,true_and,i0,i2,i3]
   ·rw[if_neg t1] at hl;by_cases t2:(tk ts i').text=[118,97,114]
    ·rw[if_pos t2] at hl;by_cases h32:32<=x.vars.length
     ·rw[if_pos h32] at hl;have hl:SR.er (tk ts i')=r:=hl;subst hl;have R:=wU hb h32 (tk ts i');unfold pC at *
      (have zz:=aI @g2 (aI C0.r (aI C1.r C2.r));(repeat'(first|(apply jc<;>intro _)|simp(disch:=first|exact qW|fail) only[ja i0,ja i2,ja i3,T,c2,t1,t2,vl2,R,g2,zR,C0.q,C1.q,C2.q,g2,C0.r,C1.r,C2.r,je,Tk.cells_R,rzZ,Qab,Qac,Qad,Qaa,Qae]));(all_goals(clear zz)))
      refine⟨i'+1,0,?_⟩;unfold pC
      (refine G1.done ?_ (by rfl) (by rfl) ?_;(· (have zz:=aI C0.q (aI C1.q (aI C2.q (aI C0.r (aI C1.r C2.r))));first|exact qr|fail));(· first|exact vyD|skip))
     ·rw[if_neg h32] at hl;have R:=wT hb (show x.vars.length<32 by omega) (tk ts i');have A:=jqr hb W NN hi1;cases hw:J7 ts (i'+1) with
      |er t=>
       rw[hw] at hl A;have hl:SR.er t=r:=hl;subst hl;obtain⟨i2',d2,A⟩:=A;have E:∀ st p,Cl st p (pC ts (i'+1) 0)->∀ K Kp,XB Qaf base 79 [.ptr p 0] st K Kp=_:=λst p C K Kp=>A.xb C rfl (λst=>hb.no 79 (by decide) _ _) K Kp;unfold pC at *
       (have zz:=aI @g2 (aI C0.r (aI C1.r C2.r));(repeat'(first|(apply jc<;>intro _)|simp(disch:=first|exact qW|fail) only[ja i0,ja i2,ja i3,T,c2,t1,t2,vl2,R,g2,E,jkj,ve2,zR,C0.q,C1.q,C2.q,g2,C0.r,C1.r,C2.r,je,Tk.cells_R,rzZ,Qab,Qac,Qad,Qaa,Qae]));(all_goals(clear zz)))
       refine⟨i2',d2,?_⟩;unfold pC
       (refine G1.done ?_ (by rfl) (by rfl) ?_;(· (have zz:=aI C0.q (aI C1.q (aI C2.q (aI C0.r (aI C1.r C2.r))));first|exact qr|fail));(· first|exact vyD|skip))
      |ok a j=>
       rw[hw] at hl A;dsimp only at hl;have A:PM Qaf base 79 (pC ts (i'+1) 0) [] (.ok (.agg [.str a.name,.str a.ty,.int .i64 a.lo,.int .i64 a.hi,.lst a.begins.length (fl eE a.begins),.int .i64 (a.line:Int),.int .i64 (a.col:Int)])) (pC ts j 0):=A;have hj:=jel W hi1 hw;have E:∀ st p,Cl st p (pC ts (i'+1) 0)->∀ K Kp,XB Qaf base 79 [.ptr p 0] st K Kp=_:=λst p C K Kp=>A.xb C rfl (λst=>hb.no 79 (by decide) _ _) K Kp;have Ap:=λst bv xc xx K h hv=>@X7 3 q x.vars.length 7 st v2 (fl qm x.vars) K 88 bv xc xx h (by decide) (by omega) (by omega) hv;have VP:∀ st m',Lv 3 q st v2 x.vars.length (fl qm x.vars) 7->3<=st.nx->m'=st.nx+1->Lv 3 m' (aps v2 st [.str a.name,.str a.ty,.int .i64 a.lo,.int .i64 a.hi,.lst a.begins.length (fl eE a.begins),.int .i64 (a.line:Int),.int .i64 (a.col:Int)]) (apv 7 v2 st) (x.vars ++ [a]).length (fl qm (x.vars ++ [a])) 7:=λst m' h h2 h3=>by
        rw[Qak,Xz,QC];exact h.put rfl h2 h3
       unfold pC at *
       (have zz:=aI @g2 (aI V2.ln (aI V2.rts (aI @jC (aI @jG (aI @jH (aI @V2 (aI @jD (aI @jK (aI @jO (aI C0.r (aI C1.r C2.r)))))))))));(repeat'(first|(apply jc<;>intro _)|simp(disch:=first|exact qW|fail) only[ja i0,ja i2,ja i3,T,c2,t1,t2,vl2,R,g2,E,jkj,ve2,Ap,V2.at,jD,C0.q,C1.q,C2.q,g2,V2.ln,V2.rts,jC,jG,jH,V2,jD,jK,jO,C0.r,C1.r,C2.r,je,Tk.cells_R,rzZ,Qab,Qac,Qad,Qaa,Qae]));(all_goals(clear zz)))
       refine⟨m,by omega,m,j,{ x with vars:=x.vars ++ [a] },v1,?v2,v3,rfl,by omega,hj.2,hl,by omega,?c0,?c1,?c2,?lv1,?lv2,?lv3,?d12,?d13,?d23,?has⟩;case lv2=>
        refine Lv.up (hi:=s.nx+4) ?_ (by omega);refine VP _ _ ?_ ?_ ?_;all_goals first|(simp only[jg,jh,jk];done)|(simp only[jg,jh,jk];omega)|(simp(disch:=first|omega|(simp only[jg,jh,jk];omega)) only[jC,jG,jH];exact V2)
       case lv1=>
        refine Lv.up (hi:=q) ?_ (by omega);simp(disch:=first|omega|(simp only[jg,jh,jk];omega)) only[jC,jG,jH];refine Lv.apsD ?_ D12.symm;simp(disch:=first|omega|(simp only[jg,jh,jk];omega)) only[jC,jG,jH];exact V1
       case d12=>exact(Df.put V1 (by simp only[jg,jh,jk];omega)).2
       case lv3=>
        refine Lv.up (hi:=q) ?_ (by omega);simp(disch:=first|omega|(simp only[jg,jh,jk];omega)) only[jC,jG,jH];refine Lv.apsD ?_ D23;simp(disch:=first|omega|(simp only[jg,jh,jk];omega)) only[jC,jG,jH];exact V3
       case d23=>exact(Df.put V3 (by simp only[jg,jh,jk];omega)).1
       case d13=>exact D13
       case c0=>(have zz:=aI C0.q (aI C1.q (aI C2.q (aI @g1 (aI @g2 (aI @g3 (aI V2.ln (aI V2.rts (aI @jD (aI @jK (aI @jO (aI C0.r (aI C1.r C2.r))))))))))));first|exact qr|fail)
       case c1=>(have zz:=aI C0.q (aI C1.q (aI C2.q (aI @g1 (aI @g2 (aI @g3 (aI V2.ln (aI V2.rts (aI @jD (aI @jK (aI @jO (aI C0.r (aI C1.r C2.r))))))))))));first|exact qr|fail)
       case c2=>(have zz:=aI C0.q (aI C1.q (aI C2.q (aI @g1 (aI @g2 (aI @g3 (aI V2.ln (aI V2.rts (aI @jD (aI @jK (aI @jO (aI C0.r (aI C1.r C2.r))))))))))));first|exact qr|fail)
       case has=>simp(disch:=decide) only[Qam,Qao,z0,z1,jd,jb,and_true,true_and,i0,i2,i3]
    ·rw[if_neg t2] at hl;by_cases h32:32<=x.procs.length
     ·rw[if_pos h32] at hl;have hl:SR.er (tk ts i')=r:=hl;subst hl;have R:=wU hb h32 (tk ts i');unfold pC at *
      (have zz:=aI @g3 (aI C0.r (aI C1.r C2.r));(repeat'(first|(apply jc<;>intro _)|simp(disch:=first|exact qW|fail) only[ja i0,ja i2,ja i3,T,c2,t1,t2,vl3,R,g3,zR,C0.q,C1.q,C2.q,g3,C0.r,C1.r,C2.r,je,Tk.cells_R,rzZ,Qab,Qac,Qad,Qaa,Qae]));(all_goals(clear zz)))
      refine⟨i'+1,0,?_⟩;unfold pC
      (refine G1.done ?_ (by rfl) (by rfl) ?_;(· (have zz:=aI C0.q (aI C1.q (aI C2.q (aI C0.r (aI C1.r C2.r))));first|exact qr|fail));(· first|exact vyD|skip))
     ·rw[if_neg h32] at hl;have R:=wT hb (show x.procs.length<32 by omega) (tk ts i');have A:=jpz hb W hi1;cases hw:J5 ts (i'+1) with
      |er t=>
       rw[hw] at hl A;have hl:SR.er t=r:=hl;subst hl;obtain⟨i2',d2,A⟩:=A;have E:∀ st p,Cl st p (pC ts (i'+1) 0)->∀ K Kp,XB Qaf base 80 [.ptr p 0] st K Kp=_:=λst p C K Kp=>A.xb C rfl (λst=>hb.no 80 (by decide) _ _) K Kp;unfold pC at *
       (have zz:=aI @g3 (aI C0.r (aI C1.r C2.r));(repeat'(first|(apply jc<;>intro _)|simp(disch:=first|exact qW|fail) only[ja i0,ja i2,ja i3,T,c2,t1,t2,vl3,R,g3,E,jpg,ve3,zR,C0.q,C1.q,C2.q,g3,C0.r,C1.r,C2.r,je,Tk.cells_R,rzZ,Qab,Qac,Qad,Qaa,Qae]));(all_goals(clear zz)))
       refine⟨i2',d2,?_⟩;unfold pC
       (refine G1.done ?_ (by rfl) (by rfl) ?_;(· (have zz:=aI C0.q (aI C1.q (aI C2.q (aI C0.r (aI C1.r C2.r))));first|exact qr|fail));(· first|exact vyD|skip))
      |ok a j=>
       rw[hw] at hl A;dsimp only at hl;have A:PM Qaf base 80 (pC ts (i'+1) 0) [] (.ok (.agg [.str a.name,.lst a.rules.length (fl ruE a.rules),.int .i64 (a.line:Int),.int .i64 (a.col:Int)])) (pC ts j 0):=A;have hj:=jdO W hi1 hw;have E:∀ st p,Cl st p (pC ts (i'+1) 0)->∀ K Kp,XB Qaf base 80 [.ptr p 0] st K Kp=_:=λst p C K Kp=>A.xb C rfl (λst=>hb.no 80 (by decide) _ _) K Kp;have Ap:=λst bv xc xx K h hv=>@X7 3 q x.procs.length 4 st v3 (fl prE x.procs) K 56 bv xc xx h (by decide) (by omega) (by omega) hv;have VP:∀ st m',Lv 3 q st v3 x.procs.length (fl prE x.procs) 4->3<=st.nx->m'=st.nx+1->Lv 3 m' (aps v3 st [.str a.name,.lst a.rules.length (fl ruE a.rules),.int .i64 (a.line:Int),.int .i64 (a.col:Int)]) (apv 4 v3 st) (x.procs ++ [a]).length (fl prE (x.procs ++ [a])) 4:=λst m' h h2 h3=>by
        rw[Qak,Xz,QC];exact h.put rfl h2 h3
       unfold pC at *
       (have zz:=aI @g3 (aI V3.ln (aI V3.rts (aI @jC (aI @jG (aI @jH (aI @V3 (aI @jD (aI @jK (aI @jO (aI C0.r (aI C1.r C2.r)))))))))));(repeat'(first|(apply jc<;>intro _)|simp(disch:=first|exact qW|fail) only[ja i0,ja i2,ja i3,T,c2,t1,t2,vl3,R,g3,E,jpg,ve3,Ap,V3.at,jD,C0.q,C1.q,C2.q,g3,V3.ln,V3.rts,jC,jG,jH,V3,jD,jK,jO,C0.r,C1.r,C2.r,je,Tk.cells_R,rzZ,Qab,Qac,Qad,Qaa,Qae]));(all_goals(clear zz)))
       refine⟨m,by omega,m,j,{ x with procs:=x.procs ++ [a] },v1,v2,?v3,rfl,by omega,hj.2,hl,by omega,?c0,?c1,?c2,?lv1,?lv2,?lv3,?d12,?d13,?d23,?has⟩;case lv3=>
        refine Lv.up (hi:=s.nx+4) ?_ (by omega);refine VP _ _ ?_ ?_ ?_;all_goals first|(simp only[jg,jh,jk];done)|(simp only[jg,jh,jk];omega)|(simp(disch:=first|omega|(simp only[jg,jh,jk];omega)) only[jC,jG,jH];exact V3)
       case lv1=>
        refine Lv.up (hi:=q) ?_ (by omega);simp(disch:=first|omega|(simp only[jg,jh,jk];omega)) only[jC,jG,jH];refine Lv.apsD ?_ D13.symm;simp(disch:=first|omega|(simp only[jg,jh,jk];omega)) only[jC,jG,jH];exact V1
       case d13=>exact(Df.put V1 (by simp only[jg,jh,jk];omega)).2
       case lv2=>
        refine Lv.up (hi:=q) ?_ (by omega);simp(disch:=first|omega|(simp only[jg,jh,jk];omega)) only[jC,jG,jH];refine Lv.apsD ?_ D23.symm;simp(disch:=first|omega|(simp only[jg,jh,jk];omega)) only[jC,jG,jH];exact V2
       case d23=>exact(Df.put V2 (by simp only[jg,jh,jk];omega)).2
       case d12=>exact D12
       case c0=>(have zz:=aI C0.q (aI C1.q (aI C2.q (aI @g1 (aI @g2 (aI @g3 (aI V3.ln (aI V3.rts (aI @jD (aI @jK (aI @jO (aI C0.r (aI C1.r C2.r))))))))))));first|exact qr|fail)
       case c1=>(have zz:=aI C0.q (aI C1.q (aI C2.q (aI @g1 (aI @g2 (aI @g3 (aI V3.ln (aI V3.rts (aI @jD (aI @jK (aI @jO (aI C0.r (aI C1.r C2.r))))))))))));first|exact qr|fail)
       case c2=>(have zz:=aI C0.q (aI C1.q (aI C2.q (aI @g1 (aI @g2 (aI @g3 (aI V3.ln (aI V3.rts (aI @jD (aI @jK (aI @jO (aI C0.r (aI C1.r C2.r))))))))))));first|exact qr|fail)
       case has=>simp(disch:=decide) only[Qam,Qao,z0,z1,jd,jb,and_true,true_and,i0,i2,i3]
  ·rw[if_neg c2] at hl;by_cases k5:(tk ts i').kind=5
   ·rw[if_pos k5] at hl;have hl:SR.ok x i'=r:=hl;subst hl;have k5':((tk ts i').kind:Int)=5:=by omega
    unfold pC at *
    (have zz:=aI @g1 (aI @g2 (aI @g3 (aI @vc1 (aI @vc2 (aI @vc3 (aI C0.r (aI C1.r C2.r)))))));(repeat'(first|(apply jc<;>intro _)|simp(disch:=first|exact qW|fail) only[ja i0,ja i2,ja i3,T,c2,k5',g1,g2,g3,jak,C0.q,C1.q,C2.q,g1,g2,g3,vc1,vc2,vc3,C0.r,C1.r,C2.r,je,Tk.cells_R,rzZ,Qab,Qac,Qad,Qaa,Qae]));(all_goals(clear zz)))
    show G1 3 (pC ts i' 0) (.agg (srE x)) _ _;refine G1.done ?_ (by rfl) (by rfl) (FzD.agg (.cons (Lv.fz (lo:=3) (hi:=q) (z:=4) ?_ (by decide) (Jn JI _)) (.cons (Lv.fz (lo:=3) (hi:=q) (z:=7) ?_ (by decide) (Jn Jj _)) (.cons (Lv.fz (lo:=3) (hi:=q) (z:=4) ?_ (by decide) (Jn UD _)) .nil))))
    ·unfold pC
     (have zz:=aI C0.q (aI C1.q (aI C2.q (aI @g1 (aI @g2 (aI @g3 (aI C0.r (aI C1.r C2.r)))))));first|exact qr|fail)
    all_goals simp(disch:=first|omega|(simp only[jg,jh,jk];omega)) only[jF,jC,jG,jH]
    ·exact V1
    ·exact V2
    ·exact V3
   ·rw[if_neg k5] at hl;have hl:SR.er (tk ts i')=r:=hl;subst hl;have k5':¬ ((tk ts i').kind:Int)=5:=by omega
    unfold pC at *
    (have zz:=aI @g1 (aI C0.r (aI C1.r C2.r));(repeat'(first|(apply jc<;>intro _)|simp(disch:=first|exact qW|fail) only[ja i0,ja i2,ja i3,T,c2,k5',g1,QD hb,zR,C0.q,C1.q,C2.q,g1,C0.r,C1.r,C2.r,je,Tk.cells_R,rzZ,Qab,Qac,Qad,Qaa,Qae]));(all_goals(clear zz)))
    refine⟨i',0,?_⟩;unfold pC
    (refine G1.done ?_ (by rfl) (by rfl) ?_;(· (have zz:=aI C0.q (aI C1.q (aI C2.q (aI C0.r (aI C1.r C2.r))));first|exact qr|fail));(· first|exact vyD|skip))
 ·refine⟨ts.length,i,⟨[],[],[]⟩,.nils,.nils,.nils,rfl,by omega,hi,hr,by omega,C0,C1,C2,Lv.nil,Lv.nil,Lv.nil,trivial,trivial,trivial,?_⟩;simp(disch:=decide) only[Qam,Qao,z0,z1,jd,jb,and_true,true_and]
end Go.Sy
end
noncomputable section
set_option maxRecDepth 100000
namespace Go.Sy
open Go.Ev Go.Proofs
variable {base:Bs}
theorem jrq:Go.Ev.isAgg Qaf 27=some true:=by kernel_rfl
theorem jrp:Go.Ev.sizeOf Qaf 27=some 3:=by kernel_rfl
theorem je6 {b:Nat}{h:T AO}(ho:0+3<=qC h b)(hv:rats h b 0 3=[.nils,.nils,.nils]):(qa Qaf 27 (.ptr b 0) (.agg [.nils,.nils,.nils]) h=true)=True:=eq_true (ZX jrq jrp (by decide) ho hv rfl)
def QP:SrcT:=⟨[],[],[]⟩
def zB (l:List Nat):SrcT×(Nat×Nat×Nat):=
 if(qb l).2.1≠0 then(QP,(qb l).2) else match yq (qb l).1 (qb l).1.length 0 QP with
  |.er t=>(QP,(151,t.line,t.col))
  |.ok m j=>(m,(0,0,0))
theorem Uv (m:SrcT):(srE m).all pc=true:=by
 show([AV.lst m.enums.length (fl enE m.enums),.lst m.vars.length (fl qm m.vars),.lst m.procs.length (fl prE m.procs)]).all pc=true;simp[pc]
theorem jdA {s:St}{q:Nat×Nat×Nat}{ds:List AV}(h2:ds=zX q):G0 (.tup [.agg (srE QP),.agg (zX q)]) (.tup [.agg [.nils,.nils,.nils],.agg ds]) s:=by
 subst h2;exact FzD.tup (.cons (.agg (.cons FzD.nils (.cons FzD.nils (.cons FzD.nils .nil)))) (.cons (.agg (.pc (by rfl))) .nil))
theorem jmX {s:St}{m:SrcT}{q:Nat×Nat×Nat}{cs ds:List AV}(h:cs=srE m)(h2:ds=zX q):G0 (.tup [.agg (srE m),.agg (zX q)]) (.tup [.agg cs,.agg ds]) s:=by
 subst h h2;exact FzD.tup (.cons (.agg (.pc (Uv m))) (.cons (.agg (.pc (by rfl))) .nil))
set_option maxHeartbeats 4000000 in
theorem jlk (hb:NB base)(hP:PI base)(l:List Nat)(hl:l.length<=9223372036854775807)(hW:(qb l).2.1=0->Wds (qb l).1/\(qb l).1≠[]/\(qb l).2=(0,0,0))(hN:(qb l).2.1=0->Nbs (qb l).1) :
  Tot base 9 [.str l] (.tup [.agg (srE (zB l).1),.agg (zX (zB l).2)]):=by
 refine hb.tot ?_ rfl rfl;refine WE x9 (hb.pur 9 1 (by decide)) ?_;simp only[y9,jp,Qai,Qal,Qag,Qah];rw[(by unfold z9;simp only[qq];rfl:z9=_)];have hC:=jmH hb hP l hl;have f0:(zX (qb l).2)=[.int .i64 ((qb l).2.1:Int),.int .i64 ((qb l).2.2.1:Int),.int .i64 ((qb l).2.2.2:Int)]:=rfl;by_cases he:(qb l).2.1=0
 ·obtain⟨W,hne,hz⟩:=hW he;have NN:=hN he;have hi:0<(qb l).1.length:=Qcc.2 hne;have A:=jkh hb W NN hi;unfold zB;rw[if_neg (by simp[he])];rw[hz] at hC;have s0:QP=⟨[],[],[]⟩:=rfl;rw[<-s0] at A;generalize (qb l).1=ts at *;have fz:zX (0,0,0)=[.int .i64 0,.int .i64 0,.int .i64 0]:=rfl;rw[fz] at hC;cases hr:yq ts ts.length 0 QP with
  |er t=>
   rw[hr] at A;obtain⟨i',d',A⟩:=A;have E:∀ st p,Cl st p [.lst ts.length (fl Tk.cells ts),.int .i64 0,.int .i64 0]->∀ K Kp,XB Qaf base 37 [.ptr p 0] st K Kp=_:=λst p C K Kp=>A.xb C rfl (λst=>hb.no 37 (by decide) _ _) K Kp;unfold pC at *;repeat'(first|(apply jc<;>intro _)|simp(disch:=first|exact dzD|fail) only[hC,E,wj,Qt (f:=36) (vs:=[.ptr 1 0]),JR (f:=36) (vs:=[.ptr 1 0]),YC,vM,WI,YD,je6,YN,Vn,Vm (base:=base),je,Tk.cells_R,rzZ,Qab,Qac,Qad,Qaa,Qae])
   exact jdA rfl
  |ok m j=>
   rw[hr] at A;have A:PM Qaf base 37 (pC ts 0 0) [] (.ok (.agg [.lst m.enums.length (fl enE m.enums),.lst m.vars.length (fl qm m.vars),.lst m.procs.length (fl prE m.procs)])) (pC ts j 0):=A;have E:∀ st p,Cl st p [.lst ts.length (fl Tk.cells ts),.int .i64 0,.int .i64 0]->∀ K Kp,XB Qaf base 37 [.ptr p 0] st K Kp=_:=λst p C K Kp=>A.xb C rfl (λst=>hb.no 37 (by decide) _ _) K Kp;dsimp only;unfold pC at *;repeat'(first|(apply jc<;>intro _)|simp(disch:=first|exact dzD|fail) only[hC,E,wj,Qt (f:=36) (vs:=[.ptr 1 0]),JR (f:=36) (vs:=[.ptr 1 0]),YC,vM,WI,YD,je6,YN,Vn,Vm (base:=base),je,Tk.cells_R,rzZ,Qab,Qac,Qad,Qaa,Qae])
   exact jmX rfl rfl
 ·have he':¬ ((qb l).2.1:Int)=0:=by omega
  unfold zB;rw[if_pos he];rw[f0] at hC;generalize (qb l).1=ts at *;repeat'(first|(apply jc<;>intro _)|simp(disch:=first|exact dzD|fail) only[hC,he',wj,Qt (f:=36) (vs:=[.ptr 1 0]),JR (f:=36) (vs:=[.ptr 1 0]),YC,vM,WI,YD,je6,je,Tk.cells_R,rzZ,Qab,Qac,Qad,Qaa,Qae])
  exact jdA rfl
end Go.Sy
end
noncomputable section
set_option maxRecDepth 100000
namespace Go.Sy
open Go.Ev Go.Proofs
theorem jfr {r:List Nat}{p:Nat×Nat}{n:Nat}{t:Tk}(h:ye r p=(0,t,n)):t.text.length<=r.length/\t.num<=1000000:=by
 cases r with
 |nil=>simp[ye] at h;obtain⟨h1,h2⟩:=h;subst h1;simp
 |cons x r'=>
  unfold ye at h;simp only at h;split at h
  ·split at h
   ·simp at h
   ·simp only[Prod.mk.injEq] at h;obtain⟨_,h1,h2⟩:=h;subst h1;exact⟨by simp only[QaK];omega,by simp⟩
  ·split at h
   ·split at h
    ·simp at h
    ·rename_i hh;simp only[Prod.mk.injEq] at h;obtain⟨_,h1,h2⟩:=h;subst h1;exact⟨by simp only[QaK];omega,by dsimp only;omega⟩
   ·split at h
    ·simp at h
    ·simp only[Prod.mk.injEq] at h;obtain⟨_,h1,h2⟩:=h;subst h1;exact⟨by simp only[QaK];omega,by simp⟩
structure Goods (n:Nat)(ts:List Tk):Prop where
 ne:ts≠[]
 len:ts.length<=n+1
 tok:∀ t∈ts,t.text.length<=n/\t.num<=1000000
 fin:∀ i,i<ts.length->((tk ts i).kind=5↔i+1=ts.length)
theorem jiR (k:Nat):∀ (r:List Nat) (p:Nat×Nat),r.length<=k->(zb r p).2.1=0->(zb r p).2=(0,0,0)/\Goods r.length (zb r p).1:=by
 induction k with
 |zero=>
  intro r p hr;have:r=[]:=QaT (by omega);subst this;have hx:ye (([]:List Nat).drop (jW [])) (jX p (([]:List Nat).take (jW [])))=(0,⟨5,[],0,(jX p (([]:List Nat).take (jW []))).1,(jX p (([]:List Nat).take (jW []))).2⟩,0):=by simp only[List.drop_nil];rfl
  rw[X5 _ p hx,if_neg (by simp),if_pos rfl];intro _;refine⟨rfl,by simp,by simp,by simp,λi hi=>?_⟩;have:i=0:=by simp at hi;omega
  subst this;simp[tk]
 |succ k ih=>
  intro r p hr;have hg:=w9 r;generalize hx:ye (r.drop (jW r)) (jX p (r.take (jW r)))=x;obtain⟨e,t,n⟩:=x;rw[X5 r p hx];by_cases he:e=0
  ·subst he;rw[if_neg (by simp)];have hk:=K0 hx;have hgd:=jfr hx;have hle:=kP hx;simp only[QaS] at hgd hle;by_cases hn:n=0
   ·rw[if_pos hn];intro _;refine⟨rfl,by simp,by simp,?_,λi hi=>?_⟩
    ·intro t' ht';have:t'=t:=by simpa using ht'
     subst this;exact⟨by omega,hgd.2⟩
    ·have:i=0:=by simp at hi;omega
     subst this;have:=hk.1.2 hn;simpa[tk] using this
   ·rw[if_neg hn];have hl:((r.drop (jW r)).drop n).length<=k:=by simp only[QaS];omega
    have hI:=ih ((r.drop (jW r)).drop n) (jX (jX p (r.take (jW r))) ((r.drop (jW r)).take n)) hl;generalize hq:zb ((r.drop (jW r)).drop n) (jX (jX p (r.take (jW r))) ((r.drop (jW r)).take n))=q at hI ⊢;by_cases hf:q.2.1=0
    ·rw[if_neg (by simp[hf])];intro _;obtain⟨h1,h2⟩:=hI hf;have hl2:((r.drop (jW r)).drop n).length+1<=r.length:=by simp only[QaS];omega
     generalize ((r.drop (jW r)).drop n).length=m at *;have h3:=h2.len;refine⟨h1,by simp,by simp only[Qaj];omega,?_,λi hi=>?_⟩
     ·intro t' ht';rcases Qbh.1 ht' with rfl|ht'
      ·exact⟨by omega,hgd.2⟩
      ·have:=h2.tok t' ht';exact⟨by omega,this.2⟩
     ·cases i with
      |zero=>
       have hk5:t.kind≠5:=λh=>hn (hk.1.1 h);have:=Qcc.2 h2.ne;show t.kind=5↔0+1=q.1.length+1;constructor
       ·intro h;exact absurd h hk5
       ·intro h;omega
      |succ i=>
       show(tk q.1 i).kind=5↔i+1+1=q.1.length+1;have:=h2.fin i (by simpa using hi);constructor
       ·intro h;have:=this.1 h;omega
       ·intro h;exact this.2 (by omega)
    ·rw[if_pos hf];intro h;exact absurd h hf
  ·rw[if_pos he];intro h;exact absurd h he
theorem HN {l:List Nat}(h:(qb l).2.1=0):l.length<=65536/\(qb l).2=(0,0,0)/\Goods l.length (qb l).1:=by
 unfold qb at *;by_cases hl:65536<l.length
 ·rw[if_pos hl] at h;cases h
 ·rw[if_neg hl] at h ⊢;obtain⟨h1,h2⟩:=jiR l.length l (1,1) (Qaq _) h;exact⟨by omega,h1,h2⟩
theorem jlO {ts:List Tk}{i:Nat}(h:ts.length<=i):tk ts i=⟨0,[],0,0,0⟩:=by simp[tk,QaO,h]
theorem jg9 {ts:List Tk}{i:Nat}(h:i<ts.length):tk ts i∈ts:=by rw[<-jlP h];exact Qay h
theorem Goods.wds {n:Nat}{ts:List Tk}(h:Goods n ts)(hn:n<=65536):Wds ts where
 len:=by have:=h.len;omega
 next:=λi hi hk=>by
  have:=h.fin i hi;rcases QaV (i+1) ts.length with h2|h2
  ·exact h2
  ·exact absurd (this.2 (by omega)) hk
 txt:=λi=>by
  rcases QaV i ts.length with h2|h2
  ·have:=(h.tok _ (jg9 h2)).1;omega
  ·rw[jlO h2];simp
theorem Goods.nbs {n:Nat}{ts:List Tk}(h:Goods n ts):Nbs ts:=λi=>by
 rcases QaV i ts.length with h2|h2
 ·exact(h.tok _ (jg9 h2)).2
 ·rw[jlO h2];simp
theorem gH {l:List Nat}(h:(qb l).2.1=0):Wds (qb l).1/\(qb l).1≠[]/\(qb l).2=(0,0,0):=
 let ⟨h1,h2,h3⟩:=HN h
 ⟨h3.wds h1,h3.ne,h2⟩
theorem jiP {l:List Nat}(h:(qb l).2.1=0):Nbs (qb l).1:=(HN h).2.2.nbs
end Go.Sy
end
noncomputable section
set_option maxRecDepth 100000
namespace Go.Sy
open Go.Ev Go.Proofs
def jjH:XC:=(P3 [Ec] (EO [TG 7 1,LW 8 7,Pb 9] 0 10 9 8 10 0 1 [Lu 11 1 7 9,TO 12 11,TG 6 12] (LN [TH 13 6,LQ 14,TF 15 (.strb .eql 13 14)] 15 [EB Ls]) 16 9 1 9 16) [Ec])
def jom:XF:=⟨[0,1],jjH,[(.t 4)]⟩
theorem jsk:jE Qaf 130=some jom:=by kernel_rfl
def z84:XC:=(PQ [PH 2] [LQ 3,LJ 4 19 1 [TN] [Pf 0 [101,110,117,109],Pf 1 [118,97,114],Pf 2 [98,111,111,108],Pf 3 [112,114,111,99,101,115,115],Pf 4 [119,104,101,110],Pf 5 [100,111],Pf 6 [116,114,117,101],Pf 7 [102,97,108,115,101],PJ 8 88,PJ 9 70,PJ 10 71,PJ 11 85,PJ 12 82,PJ 13 89,PJ 14 90,PJ 15 79,PJ 16 72,PJ 17 83,PJ 18 84],PZ 5 130 3 4,P7 5])
def y84:XF:=⟨[0],z84,[(.t 2)]⟩
theorem x84:jE Qaf 84=some y84:=by kernel_rfl
def z83:XC:=(PQ [PH 2] [LQ 3,TB 4 (Eu .geq 3 .u8 97),EA 5,PO 6 5 0,L5 7 5 (Eu .leq 6 .u8 122),LE 8 5 7 Ld,TH 9 8,Ph 10 9 0,Li 11 9 (Eu .geq 10 .u8 65),Ph 12 9 11,PO 13 12 0,L5 14 12 (Eu .leq 13 .u8 90),Li 15 9 (.pick 12 14 Ld),EG 16 9 15,P7 16])
def y83:XF:=⟨[0],z83,[(.t 2)]⟩
theorem x83:jE Qaf 83=some y83:=by kernel_rfl
def z85:XC:=(PQ [PH 2] [LQ 3,TB 4 (Eu .geq 3 .u8 48),EA 5,PO 6 5 0,L5 7 5 (Eu .leq 6 .u8 57),LE 8 5 7 Ld,P7 8])
def y85:XF:=⟨[0],z85,[(.t 2)]⟩
theorem x85:jE Qaf 85=some y85:=by kernel_rfl
def z56:XC:=(P3 [PH 2] (L7 [Pb 3] 0 (.seq (TW [TH 4 3,LQ 5,TB 6 (.lenS 5),Pc 7 4 6] 7 .skip (.exit 0)) (LS 1 (LN [LQ 10,TH 11 3,TB 12 (.ixStr 10 11),Pw 13 83 12,TB 14 (L9 13),TH 15 14,PO 16 15 3,L5 17 15 (Eg .eql 16),PO 18 15 17,Ph 19 18 0,Ph 20 18 3,Li 21 18 (.ixStr 19 20),PE 22 (Lh 18) 85 [] [21],Li 23 18 (L9 22),Ph 24 18 23,PO 25 24 0,PO 26 24 3,L5 27 24 (.ixStr 25 26),L5 28 24 (Eu .neq 27 .u8 95),Li 29 18 (.pick 24 28 Ld),L5 30 15 (.pick 18 Ls 29),L6 31 15 30 Ld] 31 [PH 2]) [TH 8 3,LX 9 8 1,TG 3 9]))) [LQ 32,TB 33 (.lenS 32),EU 34 .gtr 33,TH 35 34,PO 36 35 0,L5 37 35 (.lenS 36),L5 38 35 (Lf .leq 37 32),LE 39 35 38 Ld,TH 40 39,PO 41 40 0,PE 42 (L4 40) 84 [] [41],L5 43 40 (L9 42),LE 44 40 43 Ld,P7 44])
def y56:XF:=⟨[0],z56,[(.t 2)]⟩
theorem x56:jE Qaf 56=some y56:=by kernel_rfl
def z16:XC:=(Lb [LV 1 0,Lk 2 TN] (Lm [Ew 3 1,TO 4 3,PD 5 4,P5 6 .eql 5 2] 6 (Pz [LU 7 3 1,Ey 8 7 7 35,LO (Lu 9 6 8 PS),EI (PT 10 9) 9 37,(Ez 11 51 10 0 [],some [Eb 11 0,Eb 12 0,Lj (PC 13 1) 0,Ll (TO 14 13) 13 3 [(2,0)],Eb 15 0,Eb 16 0,Eb 17 0,Lj (Ew 18 1) 0,Ll (TO 19 18) 18 35 [(3,0),(7,0)],Lj (Lu 20 6 19 Ed) 0,Ll (PT 21 20) 20 37 [(5,0),(9,0)],Eb 22 0,Eb 23 0,Lj (Lk 2 LM) 0]),LO (PG 12 11 (T5 [32])),LU 13 0 1,Pi 14 13 13 3 [(2,0)],(Ez 15 52 14 0 [],some [Eb 15 0,Eb 16 0,Eb 17 0,Lj (Ew 18 1) 0,Ll (TO 19 18) 18 35 [(3,0),(7,0)],Lj (Lu 20 6 19 Ed) 0,Ll (PT 21 20) 20 37 [(5,0),(9,0)],Eb 22 0,Eb 23 0,Lj (Lk 2 LM) 0]),LO (PG 16 12 15),LO (PG 17 16 (T5 [32])),LU 18 3 1,Pi 19 18 18 35 [(3,0),(7,0)],LO (Lu 20 6 19 Ed),LK (PT 21 20) 20 37 [(5,0),(9,0)],(Ez 22 51 21 0 [],PB),LO (PG 23 17 22),LO (P7 23)] .ret)) (.seq (Lm [Ew 24 1,TO 25 24,PD 26 25,P5 27 .eql 26 1] 27 (.seq (Lm [PC 28 1,TO 29 28,P5 30 .gtr 29 6] 30 (Pz [LU 31 0 1,Ey 32 31 31 3,(Ez 33 52 32 0 [],some [Eb 33 0,Eb 34 0,Lj (Ew 35 1) 0,Ll (TO 36 35) 35 35 [(2,0)],Lj (Lu 37 6 36 PS) 0,Ll (PT 38 37) 37 37 [(4,0)],Eb 39 0,Eb 40 0,Lj (Lk 2 LM) 0]),LO (PG 34 33 (T5 [32])),LU 35 3 1,Pi 36 35 35 35 [(2,0)],LO (Lu 37 6 36 PS),LK (PT 38 37) 37 37 [(4,0)],(Ez 39 51 38 0 [],PB),LO (PG 40 34 39),LO (P7 40)] .ret)) (Pz [LU 41 0 1,Ey 42 41 41 3,(Ez 43 52 42 0 [],some [Eb 43 0,Lj (Ew 44 1) 0,Ll (TO 45 44) 44 35 [(1,0)],Lj (Lu 46 6 45 PS) 0,Ll (PT 47 46) 46 37 [(3,0)],Eb 48 0,Eb 49 0,Lj (Lk 2 LM) 0]),LU 44 3 1,Pi 45 44 44 35 [(1,0)],LO (Lu 46 6 45 PS),LK (PT 47 46) 46 37 [(3,0)],(Ez 48 51 47 0 [],PB),LO (PG 49 43 48),LO (P7 49)] .ret))) (.seq (LN [PC 50 1,TO 51 50,P5 52 .eql 51 1] 52 [P6 53 1,TO 54 53,Pw 55 53 54,P7 55]) (.seq (Lm [PC 56 1,TO 57 56,P5 58 .eql 57 2] 58 (.seq (LN [P6 59 1,TO 60 59,P5 61 .eql 60 1] 61 [P7 (T5 [116,114,117,101])]) (Lg [P7 (T5 [102,97,108,115,101])]))) (Lg [TK 62 2 1,TO 63 62,P7 63])))))
def y16:XF:=⟨[0],z16,[(.t 2)]⟩
theorem x16:jE Qaf 16=some y16:=by kernel_rfl
def z51:XC:=(Pv [LV 1 0,Lk 2 TN] [Ew 3 1,TO 4 3,PD 5 4,EQ 6 .eql 5] 6 [PT 7 1,Pw 8 16 7,P7 8] (Lg [PT 9 1,Pw 10 16 9,PG 11 (T5 [40]) 10,PG 12 11 (T5 [41]),P7 12]))
def y51:XF:=⟨[0],z51,[(.t 2)]⟩
theorem x51:jE Qaf 51=some y51:=by kernel_rfl
def z53:XC:=(Pv [Lk 2 TN] [LQ 3,EQ 4 .lss 3] 4 [LQ 5,TB 6 (.un .neg 5),Pw 7 53 6,PG 8 (T5 [45]) 7,P7 8] (.seq (LN [LQ 9,P5 10 .lss 9 10] 10 [LQ 11,LQ 12,LX 13 12 1,TB 14 (.slStr (T5 [48,49,50,51,52,53,54,55,56,57]) (some 11) (some 13)),P7 14]) (.seq (.cops [EW 15,LB (Lo 16 .quo 15 10),(Pw 17 53 16,some [Eb 17 0,Lj (LQ 18) 0,Lj (Lo 19 .rem 18 10) 0,Lj (LQ 20) 0,Lj (Lo 21 .rem 20 10) 0,Lj (LX 22 21 1) 0,Lj (TB 23 (.slStr (T5 [48,49,50,51,52,53,54,55,56,57]) (some 19) (some 22))) 0,Eb 24 0,Lj (Lk 2 LM) 0]),EW 18,LB (Lo 19 .rem 18 10),EW 20,LB (Lo 21 .rem 20 10),LB (LX 22 21 1),LB (TB 23 (.slStr (T5 [48,49,50,51,52,53,54,55,56,57]) (some 19) (some 22))),LB (PG 24 17 23),LB (P7 24)]) .ret)))
def y53:XF:=⟨[0],z53,[(.t 2)]⟩
theorem x53:jE Qaf 53=some y53:=by kernel_rfl
def z18:XC:=(TD [LV 1 0,Lk 2 TN,Pb 3] (Pv [Lk 4 TN] [PC 19 1,TO 20 19,PD 21 20,Lo 22 .gtr 21 32,TH 23 22,LG 24 23 1 1,LI 25 23 24,PV 26 23 25,Ee 27 23 .gtr 26 32,EG 28 23 27,TH 29 28,LG 30 29 2 1,LI 31 29 30,PV 32 29 31,Ee 33 29 .gtr 32 32,L6 34 29 Ls 33] 34 [Lk 2 TN,PW 3 141] (Es [PC 35 1,Pa 36 35,LW 37 36,Pb 38] 0 (EN 39 38 37) 39 0 1 [Lu 40 4 36 38,T4 41 4 40,La 6 [TN,.nils,TI,TI],T9 4 6 41] (Pv [T4 43 4 6,Pw 44 54 43,TH 42 44,Ly 45 42 0,Ly 46 42 1,TG 7 45,TG 8 46] [TH 47 8,ED 48 47] 48 [Lk 2 TN,PW 3 141] (.ops [EA 49,TH 50 7,PG 51 49 50,EB 51])) 52 38 1 38 52 (Es [P6 53 1,Pa 54 53,LW 55 54,Pb 56] 2 (EN 57 56 55) 57 2 3 [Lu 58 7 54 56,T4 59 7 58,La 10 [TN,TN,TI,TI,.nils,TI,TI],T9 7 10 59] (Pv [T4 61 7 10,Pw 62 55 61,TH 60 62,Ly 63 60 0,Ly 64 60 1,TG 11 63,TG 12 64] [TH 65 12,ED 66 65] 66 [Lk 2 TN,PW 3 141] (.ops [EA 67,TH 68 11,PG 69 67 68,EB 69])) 70 56 1 56 70 (.seq (Po [TK 71 2 1,Pa 72 71,LW 73 72,Pb 74] 4 (EN 75 74 73) 75 4 5 (Pv [Lu 76 4 72 74,T4 77 4 76,La 14 [TN,.nils,TI,TI],T9 4 14 77] [PC 78 14,TO 79 78,Pw 80 56 79,TB 81 (L9 80),TH 82 81,LG 83 82 1 14,LI 84 82 83,PV 85 82 84,Ee 86 82 .gtr 85 32,L6 87 82 Ls 86] 87 [Lk 2 TN,PW 3 141] (Lb [EA 88,PC 89 14,TO 90 89,PG 91 (T5 [112,114,111,99,101,115,115,32]) 90,PG 92 91 (T5 [32,123,10]),PG 93 88 92,EB 93] (EO [P6 94 14,Pa 95 94,LW 96 95,Pb 97] 6 98 97 96 98 6 7 [Lu 99 7 95 97,T4 100 7 99,La 16 [TI,TI,TN,.nils,TI,TI,.nils],T9 7 16 100] (Pv [T4 102 7 16,Pw 103 57 102,TH 101 103,Ly 104 101 0,Ly 105 101 1,TG 17 104,TG 18 105] [TH 106 18,ED 107 106] 107 [Lk 2 TN,PW 3 141] (.ops [EA 108,TH 109 17,PG 110 108 109,EB 110])) 111 97 1 97 111) (.ops [EA 112,PG 113 112 (T5 [125,10]),EB 113]))) 114 74 1 74 114) (Lg [EA 115,P7 115,Pb 3]))))))
def y18:XF:=⟨[0],z18,[(.t 2),(.t 3)]⟩
theorem x18:jE Qaf 18=some y18:=by kernel_rfl
def z54:XC:=(Pv [LV 1 0,Lk 2 TN,PH 3] [PC 7 1,TO 8 7,Pw 9 56 8,TB 10 (L9 9),TH 11 10,LG 12 11 1 1,LI 13 11 12,PV 14 11 13,Ee 15 11 .lss 14 1,EG 16 11 15,TH 17 16,LG 18 17 1 1,LI 19 17 18,PV 20 17 19,Ee 21 17 .gtr 20 32,L6 22 17 Ls 21] 22 (LZ (Lk 2 TN) 3 Ld) (P3 [PC 23 1,TO 24 23,PG 25 (T5 [101,110,117,109,32]) 24,PG 26 25 (T5 [32,123,32]),EB 26] (Po [P6 27 1,Pa 28 27,LW 29 28,Pb 30] 0 (EN 31 30 29) 31 0 1 (Pv [TH 32 30,Lu 33 1 28 30,TO 34 33,TG 5 32,TG 6 34] [TH 35 6,Pw 36 56 35,ED 37 36] 37 (LZ (Lk 2 TN) 3 Ld) (.seq (PU [TH 38 5,EQ 39 .gtr 38] 39 [EA 40,PG 41 40 (T5 [44,32]),EB 41]) (.ops [EA 42,TH 43 6,PG 44 42 43,EB 44]))) 45 30 1 30 45) [EA 46,PG 47 46 (T5 [32,125,10]),P7 47,TG 3 Ls]))
def y54:XF:=⟨[0],z54,[(.t 2),(.t 3)]⟩
theorem x54:jE Qaf 54=some y54:=by kernel_rfl
def jeK:XC:=(.seq (LN [TK 57 4 1,TO 58 57,PD 59 58,Lo 60 .gtr 59 1,TH 61 60,LG 62 61 0 1,LI 63 61 62,PE 64 (Lh 61) 56 [] [63],Li 65 61 (L9 64),L6 66 61 Ls 65] 66 (LZ (Lk 2 TN) 3 Ld)) (.seq (Po [TK 67 4 1,Pa 68 67,LW 69 68,Pb 70] 0 (EN 71 70 69) 71 0 1 (Pv [Lu 72 6 68 70,PT 73 72,Em 6,EJ 6 73] [PT 74 6,Pw 75 12 74,ED 76 75] 76 (LZ (Lk 2 TN) 3 Ld) (.ops [EA 77,PT 78 6,Pw 79 16 78,PG 80 (T5 [32,61,32]) 79,PG 81 77 80,EB 81])) 82 70 1 70 82) (Lg [EA 83,PG 84 83 (T5 [59,10]),P7 84,TG 3 Ls])))
def z55:XC:=(TD [LV 1 0,Lk 2 TN,PH 3] (Lb [PC 7 1,TO 8 7,PG 9 (T5 [118,97,114,32]) 8,PG 10 9 (T5 [32,58,32]),EB 10] (TW [P6 11 1,TO 12 11,TF 13 (.strb .eql 12 (.c TN))] 13 (.seq (LN [TK 14 2 1,TO 15 14,Pw 16 96 15,TB 17 (L9 16),TH 18 17,LG 19 18 3 1,LI 20 18 19,PE 21 (Lh 18) 96 [] [20],Li 22 18 (L9 21),L6 23 18 Ls 22] 23 (LZ (Lk 2 TN) 3 Ld)) (.dops [LO (EA 24),LU 25 2 1,Ey 26 25 25 2,(Ez 27 53 26 0 [],some [Eb 27 0,Eb 28 0,Lj (Ew 29 1) 0,Ll (TO 30 29) 29 2 [(2,0)],Eb 31 0,Eb 32 0,Eb 33 0,Lj (Lk 4 LM) 0]),LO (PG 28 27 (T5 [46,46])),LU 29 3 1,Pi 30 29 29 2 [(2,0)],(Ez 31 53 30 0 [],PB),LO (PG 32 28 31),LO (PG 33 24 32),LO (EB 33)])) (.seq (LN [TK 34 2 1,TO 35 34,EU 36 .neq 35,TH 37 36,LG 38 37 3 1,LI 39 37 38,Li 40 37 (Eg .neq 39),EG 41 37 40,TH 42 41,LG 43 42 1 1,LI 44 42 43,Li 45 42 (.strb .neq 44 (T5 [98,111,111,108])),Ph 46 42 45,P8 47 46 1 1,P9 48 46 47,PE 49 (L4 46) 56 [] [48],L5 50 46 (L9 49),Li 51 42 (.pick 46 50 Ld),L6 52 42 Ls 51] 52 (LZ (Lk 2 TN) 3 Ld)) (.ops [EA 53,P6 54 1,TO 55 54,PG 56 53 55,EB 56]))) jeK))
def y55:XF:=⟨[0],z55,[(.t 2),(.t 3)]⟩
theorem x55:jE Qaf 55=some y55:=by kernel_rfl
def z57:XC:=(Pv [LV 1 0,Lk 2 TN,PH 3] [PC 7 1,PT 8 7,Pw 9 12 8,TB 10 (L9 9),TH 11 10,LG 12 11 6 1,LI 13 11 12,PV 14 11 13,Ee 15 11 .lss 14 1,EG 16 11 15,TH 17 16,LG 18 17 6 1,LI 19 17 18,PV 20 17 19,Ee 21 17 .gtr 20 32,L6 22 17 Ls 21] 22 (LZ (Lk 2 TN) 3 Ld) (P3 [PC 23 1,PT 24 23,Pw 25 16 24,PG 26 (T5 [32,32,119,104,101,110,32]) 25,PG 27 26 (T5 [32,100,111,32]),EB 27] (Po [TK 28 6 1,Pa 29 28,LW 30 29,Pb 31] 0 (EN 32 31 30) 32 0 1 (Pv [TH 33 31,Lu 34 9 29 31,T4 35 9 34,La 6 [TN,TI,TI,TN,.nils,TI,TI,TI,TI],TG 5 33,T9 9 6 35] [PC 36 6,TO 37 36,Pw 38 56 37,TB 39 (L9 38),TH 40 39,LG 41 40 1 6,Li 42 40 (.ldA 6 41),PE 43 (Lh 40) 12 [] [42],Li 44 40 (L9 43),L6 45 40 Ls 44] 45 (LZ (Lk 2 TN) 3 Ld) (.seq (PU [TH 46 5,EQ 47 .gtr 46] 47 [EA 48,PG 49 48 (T5 [44,32]),EB 49]) (.dops [LO (EA 50),LU 51 0 6,Ey 52 51 51 9,LO (PG 53 52 (T5 [32,58,61,32])),LU 54 1 6,EI (PT 55 54) 54 37,(Ez 56 16 55 0 [(3,9)],PB),LO (PG 57 53 56),LO (PG 58 50 57),LO (EB 58)]))) 59 31 1 31 59) [EA 60,PG 61 60 (T5 [59,10]),P7 61,TG 3 Ls]))
def y57:XF:=⟨[0],z57,[(.t 2),(.t 3)]⟩
theorem x57:jE Qaf 57=some y57:=by kernel_rfl
def z20:XC:=(Pv [LV 2 0,LV 3 1,Ec] [PC 17 2,TO 18 17,PD 19 18,PC 20 3,TO 21 20,PD 22 21,Pq 23 .neq 19 22,TH 24 23,LG 25 24 1 2,LI 26 24 25,PV 27 24 26,LG 28 24 1 3,LI 29 24 28,PV 30 24 29,Eo 31 24 .neq 27 30,EG 32 24 31,TH 33 32,LG 34 33 2 2,LI 35 33 34,PV 36 33 35,LG 37 33 2 3,LI 38 33 37,PV 39 33 38,Eo 40 33 .neq 36 39,L6 41 33 Ls 40] 41 [Ec] (Es [PC 42 2,Pa 43 42,LW 44 43,Pb 45] 0 (EN 46 45 44) 46 0 1 [TH 47 45,Lu 48 4 43 45,T4 49 4 48,La 6 [TN,.nils,TI,TI],TG 5 47,T9 4 6 49] (Pv [PC 50 3,TO 51 50,TH 52 5,Lu 53 4 51 52,T4 54 4 53,La 7 [TN,.nils,TI,TI],T9 4 7 54] [PC 55 6,TO 56 55,PC 57 7,TO 58 57,LA 59 .neq 56 58,TH 60 59,LG 61 60 1 6,LI 62 60 61,PV 63 60 62,LG 64 60 1 7,LI 65 60 64,PV 66 60 65,Eo 67 60 .neq 63 66,L6 68 60 Ls 67] 68 [Ec] (Po [P6 69 6,TO 70 69,LW 71 70,Pb 72] 2 (EN 73 72 71) 73 2 3 (Lb (EC 74 72 8 74) (.cops [LB (P6 75 6),P4 76 75,Ef 77 8,LB (Lu 78 1 76 77),P4 79 78,LB (P6 80 7),P4 81 80,Ef 82 8,LB (Lu 83 1 81 82),P4 84 83,LB (TF 85 (.strb .neq 79 84))]) (Eh 85 [Ec] .skip)) 86 72 1 72 86)) 87 45 1 45 87 (Es [P6 88 2,Pa 89 88,LW 90 89,Pb 91] 4 (EN 92 91 90) 92 4 5 [TH 93 91,Lu 94 7 89 91,T4 95 7 94,La 10 [TN,TN,TI,TI,.nils,TI,TI],TG 9 93,T9 7 10 95] (Pv [P6 96 3,TO 97 96,TH 98 9,Lu 99 7 97 98,T4 100 7 99,La 11 [TN,TN,TI,TI,.nils,TI,TI],T9 7 11 100] [PC 101 10,TO 102 101,PC 103 11,TO 104 103,LA 105 .neq 102 104,TH 106 105,LG 107 106 1 10,LI 108 106 107,LG 109 106 1 11,LI 110 106 109,Li 111 106 (.strb .neq 108 110),EG 112 106 111,TH 113 112,LG 114 113 2 10,LI 115 113 114,LG 116 113 2 11,LI 117 113 116,Eo 118 113 .neq 115 117,EG 119 113 118,TH 120 119,LG 121 120 3 10,LI 122 120 121,LG 123 120 3 11,LI 124 120 123,Eo 125 120 .neq 122 124,EG 126 120 125,TH 127 126,LG 128 127 4 10,LI 129 127 128,PV 130 127 129,LG 131 127 4 11,LI 132 127 131,PV 133 127 132,Eo 134 127 .neq 130 133,L6 135 127 Ls 134] 135 [Ec] (Po [TK 136 4 10,TO 137 136,LW 138 137,Pb 139] 6 (EN 140 139 138) 140 6 7 (Lb (EC 141 139 12 141) (.cops [LB (TK 142 4 10),P4 143 142,Ef 144 12,LB (Lu 145 6 143 144),LB (PT 146 145),LB (TK 147 4 11),P4 148 147,Ef 149 12,LB (Lu 150 6 148 149),LB (PT 151 150),(PZ 152 17 146 151,PB),LB (ED 153 152)]) (Eh 153 [Ec] .skip)) 154 139 1 139 154)) 155 91 1 91 155 (Es [TK 156 2 2,Pa 157 156,LW 158 157,Pb 159] 8 (EN 160 159 158) 160 8 9 [TH 161 159,Lu 162 4 157 159,T4 163 4 162,La 14 [TN,.nils,TI,TI],TG 13 161,T9 4 14 163] (Pv [TK 164 2 3,TO 165 164,TH 166 13,Lu 167 4 165 166,T4 168 4 167,La 15 [TN,.nils,TI,TI],T9 4 15 168] [PC 169 14,TO 170 169,PC 171 15,TO 172 171,LA 173 .neq 170 172,TH 174 173,LG 175 174 1 14,LI 176 174 175,PV 177 174 176,LG 178 174 1 15,LI 179 174 178,PV 180 174 179,Eo 181 174 .neq 177 180,L6 182 174 Ls 181] 182 [Ec] (Po [P6 183 14,TO 184 183,LW 185 184,Pb 186] 10 (EN 187 186 185) 187 10 11 (Lb (EC 188 186 16 188) (.cops [LB (P6 189 14),P4 190 189,Ef 191 16,LB (Lu 192 7 190 191),LB (PC 193 192),LB (PT 194 193),LB (P6 195 15),P4 196 195,Ef 197 16,LB (Lu 198 7 196 197),LB (PC 199 198),LB (PT 200 199),(PZ 201 17 194 200,PB),LB (TB 202 (L9 201)),Ef 203 202,LB (LG 204 203 1 14),LB (LI 205 203 204),LB (Ph 206 203 16),LB (Li 207 203 (.idxS 7 205 206)),LB (LG 208 203 6 207),LB (LI 209 203 208),LB (LG 210 203 1 15),LB (LI 211 203 210),LB (Ph 212 203 16),LB (Li 213 203 (.idxS 7 211 212)),LB (LG 214 203 6 213),LB (LI 215 203 214),(PE 216 (Lh 203) 58 [] [209,215],PB),LB (Li 217 203 (L9 216)),LB (L6 218 203 Ls 217)]) (Eh 218 [Ec] .skip)) 219 186 1 186 219)) 220 159 1 159 220 (Lg [EB Ls])))))
end Go.Sy
end
noncomputable section
set_option maxRecDepth 100000
namespace Go.Sy
open Go.Ev Go.Proofs
variable {base:Bs}
theorem jjd (hb:NB base)(c:Nat):Tot base 83 [.int .u8 (c:Int)] (.bool (qd c)):=by
 refine hb.tot ?_ rfl rfl;refine jI x83 (by rfl) (hb.pur 83 1 (by decide)) ?_;simp only[y83,jp,Qai,Qal,Qag,Qah];rw[(by unfold z83;simp only[qq];rfl:z83=_)];repeat'(first|(apply jc<;>intro _)|simp(disch:=first|exact dzA|fail) only[rzZ,Qab,Qac,Qad,Qaa,Qae])
 all_goals(refine G0.v (congrArg AV.bool ?_) rfl;rw[QaX];simp only[qd,Qbc,Qar,decide_eq_true_eq,Qbb,QbG,QaR,decide_eq_false_iff_not,true_iff,false_iff,iff_true,iff_false,not_true_eq_false,not_false_eq_true,ne_eq,eq_self]<;>omega)
theorem jlq (hb:NB base)(c:Nat):Tot base 85 [.int .u8 (c:Int)] (.bool (jP c)):=by
 refine hb.tot ?_ rfl rfl;refine jI x85 (by rfl) (hb.pur 85 1 (by decide)) ?_;simp only[y85,jp,Qai,Qal,Qag,Qah];rw[(by unfold z85;simp only[qq];rfl:z85=_)];repeat'(first|(apply jc<;>intro _)|simp(disch:=first|exact dzA|fail) only[rzZ,Qab,Qac,Qad,Qaa,Qae])
 all_goals(refine G0.v (congrArg AV.bool ?_) rfl;rw[QaX];simp only[jP,Qbc,Qar,decide_eq_true_eq,Qbb,QbG,QaR,decide_eq_false_iff_not,true_iff,false_iff,iff_true,iff_false,not_true_eq_false,not_false_eq_true,ne_eq,eq_self]<;>omega)
theorem jrR (hb:NB base)(l:List Nat)(S:List (List Nat))(hS:S.length<=1000000):PX Qaf base 130 [.str l,.lst S.length (S.map .str)] (.ok (.bool (decide (l∈S)))):=by
 have st1:∀ {k:Nat} (h:k<S.length) (st:St) (K:AV->St->Prop),jm (yy (.lptr (S.map AV.str) k) st) K=K (.str S[k]) st:=λ{k} h st K=>by
  rw[JS (by simpa using h)];congr 1;exact Vu h
 refine jI jsk (by rfl) (hb.pur 130 1 (by decide)) ?_;simp only[jom,jp,Qai,Qal,Qag,Qah];rw[(by unfold jjH;simp only[qq];rfl:jjH=_)];repeat'(first|(apply jc<;>intro _)|simp(disch:=first|exact dzA|fail) only[rzZ,Qab,Qac,Qad,Qaa,Qae])
 refine qy S.length (λk L s=>(∀ j (h:j<S.length),j<k->S[j]≠l)/\Has L 0 (.str l)/\Has L 7 (.lst S.length (S.map AV.str))) (by first|assumption|omega) (by decide) (by simp(disch:=decide) only[jd,jb]) (by simp(disch:=decide) only[jd,jb]) ?_ (λk L s v h=>by simp(disch:=decide) only[jb];exact h) (λk L s v h=>by simp(disch:=decide) only[jb];exact h) (λk L s hk hI hi hn=>?_) (λL s hI=>?_)
 ·refine⟨λj h hj=>absurd hj (Qbn _),?_⟩;simp(disch:=decide) only[Qam,Qao,z0,z1,jd,jb,and_true,true_and]
 ·obtain⟨h0,i0,i7⟩:=hI;repeat'(first|(apply jc<;>intro _)|simp(disch:=first|exact dzA|fail) only[ja i0,ja i7,ja hi,ja hn,st1,rzZ,Qab,Qac,Qad,Qaa,Qae])
  ·rename_i he;have he:S[k]=l:=by simpa using he
   exact G0.v (by rw[decide_eq_true (he▸Qay hk)]) rfl
  ·rename_i he;have he:¬ S[k]=l:=by simpa using he
   refine⟨⟨λj h hj=>?_,?_⟩,?_⟩
   ·rcases QaV j k with h2|h2
    ·exact h0 j h h2
    ·have:j=k:=by omega
     subst this;exact he
   ·simp(disch:=decide) only[Qam,Qao,z0,z1,jd,jb,and_true,true_and,i0,i7]
   ·simp(disch:=decide) only[Qam,Qao,z0,z1,jd,jb,and_true,true_and,hi,hn]
 ·obtain⟨h0,i0,i7⟩:=hI;repeat'(first|(apply jc<;>intro _)|simp(disch:=first|exact dzA|fail) only[ja i0,ja i7,rzZ,Qab,Qac,Qad,Qaa,Qae])
  refine G0.v (congrArg AV.bool ?_) rfl
  symm
  rw[decide_eq_false_iff_not];intro hm;obtain⟨j,hj,e⟩:=QbI.1 hm;exact h0 j hj hj e
theorem jnT (hb:NB base)(l:List Nat):Tot base 84 [.str l] (.bool (uG l)):=by
 refine hb.tot ?_ rfl rfl;have O:=λst b m x D K Kp=>(jrR hb l UO (by decide)).xf (st:=st) (aZ':=[.str l,.slice b 0 19 m 1 x]) (ks:=[b]) (Fza.pa rfl (Fza.sl (n:=19) (D:Cl st b (UO.map AV.str)) (by decide) (uS UO) .nil)) (λst=>hb.no 130 (by decide) _ _) K Kp;unfold UO at O;simp only[Qai,Qal] at O;refine jI x84 (by rfl) (hb.pur 84 1 (by decide)) ?_;simp only[y84,jp,Qai,Qal,Qag,Qah];rw[(by unfold z84;simp only[qq];rfl:z84=_)];repeat'(first|(apply jc<;>intro _)|simp(disch:=first|exact dzA|fail) only[O,rzZ,Qab,Qac,Qad,Qaa,Qae])
 exact G0.v rfl rfl
def kN (l:List Nat)(i:Nat):Bool:=qd (l.getD i 0) ||decide (i≠0) && (jP (l.getD i 0) ||decide (l.getD i 0=95))
theorem jb2 {p:Nat->Bool}:∀ {l:List Nat},qg p l=l.length->∀ j,j<l.length->p (l.getD j 0)=true
 |[],_,j,h=>by simp at h
 |c :: l,h,j,hj=>by
  simp only[qg] at h;by_cases hc:p c=true
  ·rw[if_pos hc] at h;cases j with
   |zero=>exact hc
   |succ j=>exact jb2 (l:=l) (by simpa using h) j (by simpa using hj)
  ·rw[if_neg hc] at h;simp at h
theorem jpE {l:List Nat}{i:Nat}(hi:i<l.length)(h:kN l i=false):nm l=false:=by
 rw[Bool.eq_false_iff];intro hn;unfold nm at hn;simp only[Qar,decide_eq_true_eq] at hn;obtain⟨⟨⟨_,h2⟩,_⟩,h3⟩:=hn;have:=jb2 h3 i hi;unfold kN at h;unfold yn at this;by_cases h0:i=0
 ·subst h0;rw[h2] at h;cases h
 ·rw[decide_eq_true h0] at h;cases h1:qd (l.getD i 0)<;>cases h4:jP (l.getD i 0)<;>cases h5:decide (l.getD i 0=95)<;>simp only[h1,h4,h5] at h this<;>first|(cases h;done)|(cases this;done)
theorem jnd {l:List Nat}(h:∀ i,i<l.length->kN l i=true):nm l=(decide (0<l.length) && decide (l.length<=32) && !uG l):=by
 have e:qg yn l=l.length:=UM (Qaq _) (λj hj=>by
  have:=h j hj;unfold kN at this;unfold yn;cases h1:qd (l.getD j 0)<;>cases h4:jP (l.getD j 0)<;>cases h5:decide (l.getD j 0=95)<;>rw[h1,h4,h5] at this<;>first|rfl|(simp at this;done)) (.inl rfl)
 unfold nm;cases l with
 |nil=>rfl
 |cons c l=>
  have h0:=h 0 (by simp);unfold kN at h0;have:qd ((c :: l).getD 0 0)=true:=by simpa using h0
  rw[e,this];simp
set_option maxHeartbeats 1000000 in
theorem ZJ (hb:NB base)(l:List Nat)(hl:l.length<=4611686018427387904):Tot base 56 [.str l] (.bool (nm l)):=by
 refine hb.tot ?_ rfl rfl;refine jI x56 (by rfl) (hb.pur 56 1 (by decide)) ?_;simp only[y56,jp,Qai,Qal,Qag,Qah];rw[(by unfold z56;simp only[qq];rfl:z56=_)];repeat'(first|(apply jc<;>intro _)|simp(disch:=first|exact dzA|fail) only[rzZ,Qab,Qac,Qad,Qaa,Qae])
 refine zY (λmm L s=>∃ k:Nat,k<=l.length/\mm=l.length - k/\(∀ j,j<k->kN l j=true)/\Has L 0 (.str l)/\Has L 3 (.int .i64 (k:Int))) ?_ l.length ?_
 ·rintro m L s ⟨k,hk,rfl,h0,i0,i3⟩;by_cases hlt:k<l.length
  ·have hlt':(k:Int)<(l.length:Int):=by omega
   have LT:=jjd hb (l.getD k 0);have DT:=jlq hb (l.getD k 0);have z:((k:Int)=0)=(k=0):=by rw[eq_iff_iff];omega
   have z9:((l.getD k 0:Int)=95)=(l.getD k 0=95):=by rw[eq_iff_iff];omega
   have e1:(((k+1:Nat):Int))=(k:Int)+1:=by omega
   have hn:kN l k=(qd (l.getD k 0) ||decide (k≠0) && (jP (l.getD k 0) ||decide (l.getD k 0=95))):=rfl;repeat'(first|(apply jc<;>intro _)|simp(disch:=first|exact dzA|fail) only[ja i0,ja i3,hlt',LT,DT,z,z9,rzZ,Qab,Qac,Qad,Qaa,Qae])
   all_goals first
    |(refine G0.v (congrArg AV.bool (jpE hlt ?_)).symm rfl;rw[hn];simp_all;done)
    |(
     refine⟨l.length - (k+1),by omega,k+1,by omega,rfl,λj hj=>?_,?_⟩
     ·rcases QaV j k with h2|h2
      ·exact h0 j h2
      ·have:j=k:=by omega
       subst this;rw[hn];simp_all
     ·simp(disch:=decide) only[Qam,Qao,z0,z1,jd,jb,and_true,true_and,i0,e1])
  ·have hlt':¬ (k:Int)<(l.length:Int):=by omega
   have hk':k=l.length:=by omega
   subst hk';have g:=jnd h0;repeat'(first|(apply jc<;>intro _)|simp(disch:=first|exact dzA|fail) only[ja i0,ja i3,hlt',jnT hb l,rzZ,Qab,Qac,Qad,Qaa,Qae])
   all_goals(refine G0.v (congrArg AV.bool ?_) rfl;rw[g];simp_all<;>omega)
 ·refine⟨0,QaL _,rfl,λj hj=>absurd hj (Qbn _),?_⟩;simp(disch:=decide) only[Qam,Qao,z0,z1,jd,jb,and_true,true_and]
end Go.Sy
end
noncomputable section
set_option maxRecDepth 100000
namespace Go.Sy
open Go.Ev Go.Proofs
variable {base:Bs}
theorem jki {b o:Nat}{v:AV}{h:T AO}(ho:o<qC h b)(hv:rat h b o=v)(hc:eqs v=true):(qa Qaf 35 (.ptr b o) v h=true)=True:=eq_true (Qx jlL jlK ho hv hc)
theorem YY (n:Nat)(cs:List AV):eqs (.lst n cs)=true:=nr rfl
def ZS (op num:Int)(name:List Nat):Bool:=
 if op=1 then decide (0<=num) && decide (num<=1000000)
 else if op=2 then decide (num=0) ||decide (num=1)
 else if op=3 then decide (num=0) && nm name
 else if op=4 then true
 else decide (num=0)
mutual
def zV:Ex->Bool
 |.mk op num name ks _ _=>decide (Yw op=(ks.length:Int)) && Jr ks && (decide (op=3) ||decide (name=[])) && ZS op num name
def Jr:List Ex->Bool
 |[]=>true
 |x :: xs=>zV x && Jr xs
end
theorem Vw (x:Ex):zV x=(decide (Yw x.op=(x.kids.length:Int)) && Jr x.kids && (decide (x.op=3) ||decide (x.name=[])) && ZS x.op x.num x.name):=by cases x;rfl
theorem ZN:∀ xs ys,Jr (xs ++ ys)=(Jr xs && Jr ys)
 |[],ys=>by simp[Jr]
 |x :: xs,ys=>by rw[Qaw,Jr,Jr,ZN,Bool.and_assoc]
set_option maxHeartbeats 1000000 in
theorem jnP (hb:NB base):∀ x:Ex,szE x<=BIG->Tot base 92 [.agg (eE x)] (.bool (zV x)):=by
 refine Ex.indk λx ih hx=>?_;refine hb.tot ?_ (by first|rfl|simp[pa,pc,q8]) rfl;have hd:=Vw x;have hz:=Y8 x;generalize hks:x.kids=ks at *;have hlen:=Zw ks;have NM:=ZJ hb x.name (by unfold BIG at *;omega);have KT:=jqW hb x.op;unfold BIG at *;unfold ZS at hd;refine jI x92 (by rfl) (hb.pur 92 1 (by decide)) ?_;simp only[y92,jp,Qai,Qal,Qag,Qah];rw[(by unfold z92;simp only[qq];rfl:z92=_)]
 (have zz:=aI @yY (aI @YY @hks);(repeat'(first|(apply jc<;>intro _)|simp(disch:=first|exact jcw|fail) only[hks,KT,sm3,jki,yY,YY,hks,je,rzZ,Qab,Qac,Qad,Qaa,Qae]));(all_goals(clear zz)))
 ·rename_i h;exact G0.v (by rw[hd,decide_eq_false h];rfl) rfl
 refine qy ks.length (λk L s=>Jr (ks.take k)=true/\Has L 13 (.lst ks.length (fl eE ks))/\Has L 1 (.ptr 0 0)/\1<=s.nx/\Cl s 0 (eE x)) (by first|assumption|omega) (by decide) (by simp(disch:=decide) only[jd,jb]) (by simp(disch:=decide) only[jd,jb]) ?_ (λk L s v h=>by simp(disch:=decide) only[jb];exact h) (λk L s v h=>by simp(disch:=decide) only[jb];exact h) (λk L s hk hI hi hn=>?_) (λL s hI=>?_)
 ·refine⟨rfl,?_⟩;simp(disch:=decide) only[Qam,Qao,z0,z1,jd,jb,and_true,true_and];exact⟨by show 1<=_;simp only[jg,yw];omega,Cl.new _ _⟩
 ·obtain⟨h0,i13,i1,n0,C0⟩:=hI;have hk2:=Zx hk;have e:=ih ks[k] (Qay hk) (by omega);repeat'(first|(apply jc<;>intro _)|simp(disch:=first|exact dzB|fail) only[ja i13,ja i1,ja hi,ja hn,e,je,rzZ,Qab,Qac,Qad,Qaa,Qae])
  ·rename_i hf;have e3:=ZN (ks.take (k+1)) (ks.drop (k+1));rw[Qbp,y7 hk,ZN] at e3;simp only[Jr,hf,Bool.and_false,Bool.false_and,Bool.true_and] at e3;exact G0.v (by rw[hd,e3];simp) rfl
  ·rename_i hf;refine⟨⟨?_,?_⟩,?_⟩
   ·rw[y7 hk,ZN,h0];simp_all [Jr]
   ·simp(disch:=decide) only[Qam,Qao,z0,z1,jd,jb,and_true,true_and,i13,i1];exact⟨by(first|omega|(simp only[jg,jh,jk,jj,ji];first|done|omega)),by(first|exact C0|(simp(disch:=first|assumption|decide|(first|omega|(simp only[jg,jh,jk,jj,ji];first|done|omega))) only[jA,jB,jy,jN,jC,jG,jF,jH];exact C0))⟩
   ·simp(disch:=decide) only[Qam,Qao,z0,z1,jd,jb,and_true,true_and,hi,hn]
 ·obtain⟨h0,i13,i1,n0,C0⟩:=hI;rw[QaE] at h0;rw[h0] at hd
  (have zz:=C0.r;(repeat'(first|(apply jc<;>intro _)|simp(disch:=first|exact jcw|fail) only[ja i13,ja i1,NM,hks,C0.q,C0.r,je,rzZ,Qab,Qac,Qad,Qaa,Qae]));(all_goals(clear zz)))
  all_goals(refine G0.v (congrArg AV.bool ?_) rfl;rw[hd];simp_all<;>omega)
end Go.Sy
end
noncomputable section
set_option maxRecDepth 100000
namespace Go.Sy
open Go.Ev Go.Proofs
variable {base:Bs}
theorem jfy (x:Ex):wC x=((decide (x.op=3) ||decide (x.name=[])) && ZS x.op x.num x.name):=by
 unfold wC ZS;by_cases h1:x.op=1
 ·simp[h1,Bool.and_comm]
 ·by_cases h2:x.op=2
  ·simp[h2,Bool.and_comm]
  ·by_cases h3:x.op=3
   ·simp[h3]
   ·by_cases h4:x.op=4
    ·simp[h4]
    ·simp[h1,h2,h3,h4,Bool.and_comm]
theorem uD:∀ xs,Jr xs=xs.all zV
 |[]=>rfl
 |x :: xs=>by rw[Jr,uD xs];rfl
theorem gF {n:Nat}:∀ xs:List Ex,yl xs<=n↔∀ x∈xs,zO x<=n
 |[]=>by simp[yl]
 |x :: xs=>by simp[yl,Nat.max_le,gF xs]
theorem Qm:∀ (d:Nat) (x:Ex),yv d x=(decide (zO x<=d) && zV x)
 |0,x=>by
  have:zO x=yl x.kids+1:=XI x;rw[yv,decide_eq_false (by omega)];rfl
 |d+1,x=>by
  rw[vn,Vw,XI,jfy,uD];have ih:x.kids.all (yv d)=(decide (yl x.kids<=d) && x.kids.all zV):=by
   rw[QaX];simp only[Qax,Qar,decide_eq_true_eq,gF];constructor
   ·intro h;exact⟨λk hk=>by have:=h k hk;rw[Qm d k] at this;simp at this;exact this.1,λk hk=>by have:=h k hk;rw[Qm d k] at this;simp at this;exact this.2⟩
   ·rintro ⟨h1,h2⟩ k hk;rw[Qm d k];simp[h1 k hk,h2 k hk]
  rw[ih];have e1:decide (yl x.kids+1<=d+1)=decide (yl x.kids<=d):=by simp
  rw[e1];have e2:(decide (1<=x.op) && decide (x.op<31) && decide ((x.kids.length:Int)=if 5<=x.op/\x.op<=13 then 1 else if 14<=x.op/\x.op<31 then 2 else 0))=decide (Yw x.op=(x.kids.length:Int)):=by
   rw[QaX];simp only[Qar,decide_eq_true_eq];unfold Yw;have:(0:Int)<=(x.kids.length:Int):=by omega
   generalize (x.kids.length:Int)=n at *;generalize x.op=op at *;constructor
   ·rintro ⟨⟨h1,h2⟩,h3⟩;split at h3
    ·rw[if_neg (by omega),if_pos (by omega),h3]
    ·split at h3
     ·rw[if_neg (by omega),if_neg (by omega),if_pos (by omega),h3]
     ·rw[if_pos (by omega),h3]
   ·intro h;split at h
    ·exact⟨⟨by omega,by omega⟩,by rw[if_neg (by omega),if_neg (by omega)];omega⟩
    ·split at h
     ·exact⟨⟨by omega,by omega⟩,by rw[if_pos (by omega)];omega⟩
     ·split at h
      ·exact⟨⟨by omega,by omega⟩,by rw[if_neg (by omega),if_pos (by omega)];omega⟩
      ·omega
  rw[e2];cases decide (Yw x.op=(x.kids.length:Int))<;>cases decide (yl x.kids<=d)<;>cases x.kids.all zV<;>cases (decide (x.op=3) ||decide (x.name=[]))<;>cases ZS x.op x.num x.name<;>rfl
theorem jll (hb:NB base)(x:Ex)(hx:szE x<=BIG):Tot base 46 [.agg (eE x)] (.bool (yv 60 x)):=by
 refine hb.tot ?_ (by first|rfl|simp[pa,pc,q8]) rfl;have e:=Qm 60 x;have D:=jjf hb x hx;have S:=jnP hb x hx;refine jI x46 (by rfl) (hb.pur 46 1 (by decide)) ?_;simp only[y46,jp,Qai,Qal,Qag,Qah];rw[(by unfold z46;simp only[qq];rfl:z46=_)];repeat'(first|(apply jc<;>intro _)|simp(disch:=first|exact dzB|fail) only[D,S,je,rzZ,Qab,Qac,Qad,Qaa,Qae])
 all_goals(refine G0.v (congrArg AV.bool ?_) rfl;rw[e];simp_all<;>omega)
def yo (x:Ex):Bool:=yv 60 x && !Xx 4 x
theorem wP (hb:NB base)(x:Ex)(hx:szE x<=BIG):Tot base 12 [.agg (eE x)] (.bool (yo x)):=by
 refine hb.tot ?_ (by first|rfl|simp[pa,pc,q8]) rfl;have D:=jll hb x hx;have S:=jrU hb 4 x hx;refine jI x12 (by rfl) (hb.pur 12 1 (by decide)) ?_;simp only[y12,jp,Qai,Qal,Qag,Qah];rw[(by unfold z12;simp only[qq];rfl:z12=_)];repeat'(first|(apply jc<;>intro _)|simp(disch:=first|exact dzB|fail) only[D,S,je,rzZ,Qab,Qac,Qad,Qaa,Qae])
 all_goals(refine G0.v (congrArg AV.bool ?_) rfl;unfold yo;simp_all)
theorem jnO (hb:NB base)(op:Int):Tot base 52 [.int .i64 op] (.str (sgn op)):=by
 refine hb.tot ?_ rfl rfl;refine jI x52 (by rfl) (hb.pur 52 1 (by decide)) ?_;simp only[y52,jp,Qai,Qal,Qag,Qah];rw[(by unfold z52;simp only[qq];rfl:z52=_)];repeat'(first|(apply jc<;>intro _)|simp(disch:=first|exact dzB|fail) only[je,rzZ,Qab,Qac,Qad,Qaa,Qae])
 ·exact G0.v (by rw[sgn,if_neg (by omega)]) rfl
 ·exact G0.v (by rw[sgn,if_neg (by omega)]) rfl
 ·have h26:(op - 5).toNat<z8.length:=by show(op - 5).toNat<26;omega
  show G0 _ ((z8.map AV.str).getD _ _) _;rw[Vu h26];exact G0.v (by rw[sgn,if_pos (by omega),QaB,Qav h26];rfl) rfl
end Go.Sy
end
noncomputable section
set_option maxRecDepth 100000
namespace Go.Sy
open Go.Ev Go.Proofs
variable {base:Bs}
theorem UZ (e:EnumT):enE e=[.str e.name,.lst e.vals.length (e.vals.map .str),.int .i64 e.line,.int .i64 e.col]:=rfl
theorem Qq (e:EnumT):(enE e).length=4:=nr (by rw[UZ];rfl)
theorem Va (e:EnumT)(k:Nat):(enE e).getD k .bad=([.str e.name,.lst e.vals.length (e.vals.map .str),.int .i64 e.line,.int .i64 e.col]:List AV).getD k .bad:=nr (by rw[UZ])
theorem jms (e:EnumT)(k:Nat):(enE e).drop k=([.str e.name,.lst e.vals.length (e.vals.map .str),.int .i64 e.line,.int .i64 e.col]:List AV).drop k:=nr (by rw[UZ])
theorem jaU (e:EnumT):lall AV.cell (enE e)=true:=nr (by rw[UZ];rfl)
theorem jmr {st:St}{K:AV->St->Prop}{xs:List EnumT}{i:Nat}(h:i<xs.length):jm (Je 4 (.lptr (fl enE xs) (i * 4)) st) K=K (.agg (enE xs[i])) st:=XP Qq h
theorem jiJ {st:St}{K:AV->St->Prop}{xs:List EnumT}{i:Nat}(h:i<xs.length){k:Nat}(hk:k<4):jm (yy (.lptr (fl enE xs) (i * 4+k)) st) K=K ((enE xs[i]).getD k .bad) st:=yi Qq h hk
theorem jiK {st:St}{K:AV->St->Prop}{xs:List EnumT}{i:Nat}(h:i<xs.length):jm (yy (.lptr (fl enE xs) (i * 4)) st) K=K ((enE xs[i]).getD 0 .bad) st:=yi (k:=0) Qq h (by decide)
theorem jn:type_of% (aI @Qq (aI @Va (aI @jms (aI @jaU (aI @jmr (aI @jiK @jiJ)))))):=aI @Qq (aI @Va (aI @jms (aI @jaU (aI @jmr (aI @jiK @jiJ)))))
theorem zx:type_of% (aI @Qq (aI @jaU @Va)):=aI @Qq (aI @jaU @Va)
theorem vb (d:DeclT):qm d=[.str d.name,.str d.ty,.int .i64 d.lo,.int .i64 d.hi,.lst d.begins.length (fl eE d.begins),.int .i64 d.line,.int .i64 d.col]:=rfl
theorem Q5 (d:DeclT):(qm d).length=7:=nr (by rw[vb];rfl)
theorem Wh (d:DeclT)(k:Nat):(qm d).getD k .bad=([.str d.name,.str d.ty,.int .i64 d.lo,.int .i64 d.hi,.lst d.begins.length (fl eE d.begins),.int .i64 d.line,.int .i64 d.col]:List AV).getD k .bad:=nr (by rw[vb])
theorem jen (d:DeclT)(k:Nat):(qm d).drop k=([.str d.name,.str d.ty,.int .i64 d.lo,.int .i64 d.hi,.lst d.begins.length (fl eE d.begins),.int .i64 d.line,.int .i64 d.col]:List AV).drop k:=nr (by rw[vb])
theorem U3 (d:DeclT):lall AV.cell (qm d)=true:=nr (by rw[vb];rfl)
theorem jem {st:St}{K:AV->St->Prop}{xs:List DeclT}{i:Nat}(h:i<xs.length):jm (Je 7 (.lptr (fl qm xs) (i * 7)) st) K=K (.agg (qm xs[i])) st:=XP Q5 h
theorem jcD {st:St}{K:AV->St->Prop}{xs:List DeclT}{i:Nat}(h:i<xs.length){k:Nat}(hk:k<7):jm (yy (.lptr (fl qm xs) (i * 7+k)) st) K=K ((qm xs[i]).getD k .bad) st:=yi Q5 h hk
theorem jcE {st:St}{K:AV->St->Prop}{xs:List DeclT}{i:Nat}(h:i<xs.length):jm (yy (.lptr (fl qm xs) (i * 7)) st) K=K ((qm xs[i]).getD 0 .bad) st:=yi (k:=0) Q5 h (by decide)
theorem jf:type_of% (aI @Q5 (aI @Wh (aI @jen (aI @U3 (aI @jem (aI @jcE @jcD)))))):=aI @Q5 (aI @Wh (aI @jen (aI @U3 (aI @jem (aI @jcE @jcD)))))
theorem yb:type_of% (aI @Q5 (aI @U3 @Wh)):=aI @Q5 (aI @U3 @Wh)
theorem jmA (a:AsT):asE a=[.str a.name,.int .i64 a.to.op,.int .i64 a.to.num,.str a.to.name,.lst a.to.kids.length (fl eE a.to.kids),.int .i64 a.to.line,.int .i64 a.to.col,.int .i64 a.line,.int .i64 a.col]:=(by unfold asE;rw[qI];rfl)
theorem jaX (a:AsT)(k:Nat):(asE a).getD k .bad=([.str a.name,.int .i64 a.to.op,.int .i64 a.to.num,.str a.to.name,.lst a.to.kids.length (fl eE a.to.kids),.int .i64 a.to.line,.int .i64 a.to.col,.int .i64 a.line,.int .i64 a.col]:List AV).getD k .bad:=nr (by rw[jmA])
theorem jmC (a:AsT)(k:Nat):(asE a).drop k=([.str a.name,.int .i64 a.to.op,.int .i64 a.to.num,.str a.to.name,.lst a.to.kids.length (fl eE a.to.kids),.int .i64 a.to.line,.int .i64 a.to.col,.int .i64 a.line,.int .i64 a.col]:List AV).drop k:=nr (by rw[jmA])
theorem jmB {st:St}{K:AV->St->Prop}{xs:List AsT}{i:Nat}(h:i<xs.length):jm (Je 9 (.lptr (fl asE xs) (i * 9)) st) K=K (.agg (asE xs[i])) st:=XP ZW h
theorem ji0 {st:St}{K:AV->St->Prop}{xs:List AsT}{i:Nat}(h:i<xs.length){k:Nat}(hk:k<9):jm (yy (.lptr (fl asE xs) (i * 9+k)) st) K=K ((asE xs[i]).getD k .bad) st:=yi ZW h hk
theorem ji1 {st:St}{K:AV->St->Prop}{xs:List AsT}{i:Nat}(h:i<xs.length):jm (yy (.lptr (fl asE xs) (i * 9)) st) K=K ((asE xs[i]).getD 0 .bad) st:=yi (k:=0) ZW h (by decide)
theorem jo:type_of% (aI @ZW (aI @jaX (aI @jmC (aI @gQ (aI @jmB (aI @ji1 @ji0)))))):=aI @ZW (aI @jaX (aI @jmC (aI @gQ (aI @jmB (aI @ji1 @ji0)))))
theorem zy:type_of% (aI @ZW (aI @gQ @jaX)):=aI @ZW (aI @gQ @jaX)
theorem jfa (r:RuleT):ruE r=[.int .i64 r.when.op,.int .i64 r.when.num,.str r.when.name,.lst r.when.kids.length (fl eE r.when.kids),.int .i64 r.when.line,.int .i64 r.when.col,.lst r.acts.length (fl asE r.acts)]:=Vy r
theorem jan (r:RuleT)(k:Nat):(ruE r).getD k .bad=([.int .i64 r.when.op,.int .i64 r.when.num,.str r.when.name,.lst r.when.kids.length (fl eE r.when.kids),.int .i64 r.when.line,.int .i64 r.when.col,.lst r.acts.length (fl asE r.acts)]:List AV).getD k .bad:=nr (by rw[jfa])
theorem jlW (r:RuleT)(k:Nat):(ruE r).drop k=([.int .i64 r.when.op,.int .i64 r.when.num,.str r.when.name,.lst r.when.kids.length (fl eE r.when.kids),.int .i64 r.when.line,.int .i64 r.when.col,.lst r.acts.length (fl asE r.acts)]:List AV).drop k:=nr (by rw[jfa])
theorem jao (r:RuleT):lall AV.cell (ruE r)=true:=nr (by rw[jfa];rfl)
theorem jlV {st:St}{K:AV->St->Prop}{xs:List RuleT}{i:Nat}(h:i<xs.length):jm (Je 7 (.lptr (fl ruE xs) (i * 7)) st) K=K (.agg (ruE xs[i])) st:=XP wy h
theorem jho {st:St}{K:AV->St->Prop}{xs:List RuleT}{i:Nat}(h:i<xs.length){k:Nat}(hk:k<7):jm (yy (.lptr (fl ruE xs) (i * 7+k)) st) K=K ((ruE xs[i]).getD k .bad) st:=yi wy h hk
theorem jhp {st:St}{K:AV->St->Prop}{xs:List RuleT}{i:Nat}(h:i<xs.length):jm (yy (.lptr (fl ruE xs) (i * 7)) st) K=K ((ruE xs[i]).getD 0 .bad) st:=yi (k:=0) wy h (by decide)
theorem jL:type_of% (aI @wy (aI @jan (aI @jlW (aI @jao (aI @jlV (aI @jhp @jho)))))):=aI @wy (aI @jan (aI @jlW (aI @jao (aI @jlV (aI @jhp @jho)))))
theorem zt:type_of% (aI @wy (aI @jao @jan)):=aI @wy (aI @jao @jan)
theorem UC (p:ProcT):prE p=[.str p.name,.lst p.rules.length (fl ruE p.rules),.int .i64 p.line,.int .i64 p.col]:=rfl
theorem vZ (p:ProcT):(prE p).length=4:=nr (by rw[UC];rfl)
theorem jas (p:ProcT)(k:Nat):(prE p).getD k .bad=([.str p.name,.lst p.rules.length (fl ruE p.rules),.int .i64 p.line,.int .i64 p.col]:List AV).getD k .bad:=nr (by rw[UC])
theorem jl2 (p:ProcT)(k:Nat):(prE p).drop k=([.str p.name,.lst p.rules.length (fl ruE p.rules),.int .i64 p.line,.int .i64 p.col]:List AV).drop k:=nr (by rw[UC])
theorem jat (p:ProcT):lall AV.cell (prE p)=true:=nr (by rw[UC];rfl)
theorem jl1 {st:St}{K:AV->St->Prop}{xs:List ProcT}{i:Nat}(h:i<xs.length):jm (Je 4 (.lptr (fl prE xs) (i * 4)) st) K=K (.agg (prE xs[i])) st:=XP vZ h
theorem jhD {st:St}{K:AV->St->Prop}{xs:List ProcT}{i:Nat}(h:i<xs.length){k:Nat}(hk:k<4):jm (yy (.lptr (fl prE xs) (i * 4+k)) st) K=K ((prE xs[i]).getD k .bad) st:=yi vZ h hk
theorem jhE {st:St}{K:AV->St->Prop}{xs:List ProcT}{i:Nat}(h:i<xs.length):jm (yy (.lptr (fl prE xs) (i * 4)) st) K=K ((prE xs[i]).getD 0 .bad) st:=yi (k:=0) vZ h (by decide)
theorem qi:type_of% (aI @vZ (aI @jas (aI @jl2 (aI @jat (aI @jl1 (aI @jhE @jhD)))))):=aI @vZ (aI @jas (aI @jl2 (aI @jat (aI @jl1 (aI @jhE @jhD)))))
theorem zu:type_of% (aI @vZ (aI @jat @jas)):=aI @vZ (aI @jat @jas)
theorem Uu (m:SrcT):srE m=[.lst m.enums.length (fl enE m.enums),.lst m.vars.length (fl qm m.vars),.lst m.procs.length (fl prE m.procs)]:=rfl
theorem wt (m:SrcT):(srE m).length=3:=nr (by rw[Uu];rfl)
theorem jag (m:SrcT)(k:Nat):(srE m).getD k .bad=([.lst m.enums.length (fl enE m.enums),.lst m.vars.length (fl qm m.vars),.lst m.procs.length (fl prE m.procs)]:List AV).getD k .bad:=nr (by rw[Uu])
theorem jlR (m:SrcT)(k:Nat):(srE m).drop k=([.lst m.enums.length (fl enE m.enums),.lst m.vars.length (fl qm m.vars),.lst m.procs.length (fl prE m.procs)]:List AV).drop k:=nr (by rw[Uu])
theorem jah (m:SrcT):lall AV.cell (srE m)=true:=nr (by rw[Uu];rfl)
theorem jlQ {st:St}{K:AV->St->Prop}{xs:List SrcT}{i:Nat}(h:i<xs.length):jm (Je 3 (.lptr (fl srE xs) (i * 3)) st) K=K (.agg (srE xs[i])) st:=XP wt h
theorem jhf {st:St}{K:AV->St->Prop}{xs:List SrcT}{i:Nat}(h:i<xs.length){k:Nat}(hk:k<3):jm (yy (.lptr (fl srE xs) (i * 3+k)) st) K=K ((srE xs[i]).getD k .bad) st:=yi wt h hk
theorem jhg {st:St}{K:AV->St->Prop}{xs:List SrcT}{i:Nat}(h:i<xs.length):jm (yy (.lptr (fl srE xs) (i * 3)) st) K=K ((srE xs[i]).getD 0 .bad) st:=yi (k:=0) wt h (by decide)
theorem qh:type_of% (aI @wt (aI @jag (aI @jlR (aI @jah (aI @jlQ (aI @jhg @jhf)))))):=aI @wt (aI @jag (aI @jlR (aI @jah (aI @jlQ (aI @jhg @jhf)))))
theorem zr:type_of% (aI @wt (aI @jah @jag)):=aI @wt (aI @jah @jag)
theorem dzE {p:Prop}(h:p:=by first|assumption|decide|omega|(simp only[qV,zy,zt,zx,yb,zu,zr,rzN,Qaj,Qan];first|done|omega)|(apply Qr<;>first|omega|((simp(disch:=first|assumption|omega|(simp only[qV,zy,zt,zx,yb,zu,zr,rzN,Qaj,Qan];first|done|omega)) only[rzL,Qaj,Qan,QaM,Qab,qV,zy,zt,zx,yb,zu,zr ])<;>first|done|omega))|(simp(disch:=first|assumption|omega|(simp only[qV,zy,zt,zx,yb,zu,zr,rzN,Qaj,Qan];first|done|omega)) only[qV,zy,zt,zx,yb,zu,zr,rzG,Qag,Qah,Qac,Qbm,Qaj,Qan,Qaw,QaF];first|done|omega|decide)):p:=h
theorem cyE {p:Prop}(h:p:=by apply Qr<;>first|omega|((simp(disch:=first|assumption|omega|(simp only[qV,zy,zt,zx,yb,zu,zr,rzN,Qaj,Qan];first|done|omega)) only[rzL,Qaj,Qan,QaM,Qab,qV,zy,zt,zx,yb,zu,zr])<;>first|done|rfl|omega|(simp;done)|(simp;omega))):p:=h
theorem zN {p:Prop}(h:p:=by first|assumption|decide|omega|(simp only[qV,zy,zt,zx,yb,zu,zr,zz,rzN,Qaj,Qan];first|done|omega)|(apply Qr<;>first|omega|((simp(disch:=first|assumption|omega|(simp only[qV,zy,zt,zx,yb,zu,zr,zz,rzN,Qaj,Qan];first|done|omega)) only[rzL,Qaj,Qan,QaM,Qab,qV,zy,zt,zx,yb,zu,zr,zz ])<;>first|done|omega))|(simp(disch:=first|assumption|omega|(simp only[qV,zy,zt,zx,yb,zu,zr,zz,rzN,Qaj,Qan];first|done|omega)) only[qV,zy,zt,zx,yb,zu,zr,zz,rzG,Qag,Qah,Qac,Qbm,Qaj,Qan,Qaw,QaF];first|done|omega|decide)):p:=h
theorem jgF {S:List (List Nat)}{k:Nat}{st:St}{K:AV->St->Prop}(h:k<S.length):jm (yy (.lptr (S.map AV.str) k) st) K=K (.str S[k]) st:=by
 rw[JS (by simpa using h)];congr 1;exact Vu h
end Go.Sy
end
noncomputable section
set_option maxRecDepth 100000
namespace Go.Sy
open Go.Ev Go.Proofs
variable {base:Bs}
theorem jmO {a:Nat}{st:St}{K:AV->St->Prop}(h:a<=9223372036854775807):jm (Qc .quo (.int .i64 (a:Int)) (.int .i64 10) st) K=K (.int .i64 ((a / 10:Nat):Int)) st:=by
 have e:q9 .i64 ((a / 10:Nat):Int)=((a / 10:Nat):Int):=vC (by omega) (by omega);show K (.int .i64 (q9 .i64 ((a / 10:Nat):Int))) st=_;rw[e]
theorem jmN {a:Nat}{st:St}{K:AV->St->Prop}:jm (Qc .rem (.int .i64 (a:Int)) (.int .i64 10) st) K=K (.int .i64 ((a % 10:Nat):Int)) st:=rfl
def Jx (n:Nat):List Nat:=if n<10 then [48+n] else Jx (n / 10) ++ [48+n % 10]
termination_by n
decreasing_by omega
def Q8 (n:Int):List Nat:=if n<0 then 45 :: Jx (-n).toNat else Jx n.toNat
theorem jqp:∀ n,n<10->(([48,49,50,51,52,53,54,55,56,57]:List Nat).drop n).take 1=[48+n]:=by decide
theorem YK:∀ (k n:Nat),n<10 ^ (k+1)->(Jx n).length<=k+1
 |0,n,h=>by rw[Jx,if_pos (by omega)];simp
 |k+1,n,h=>by
  rw[Jx];by_cases h2:n<10
  ·rw[if_pos h2];simp
  ·rw[if_neg h2,Qak];have:=YK k (n / 10) (by rw[Nat.pow_succ] at h;omega);simp;omega
theorem jjg (hb:NB base)(n:Nat)(h:n<=1000000000000000):Tot base 53 [.int .i64 (n:Int)] (.str (Jx n)):=by
 induction n using Nat.strongRecOn with
 |_ n ih=>
 refine hb.tot ?_ rfl rfl;have hd:Jx n=if n<10 then [48+n] else Jx (n / 10) ++ [48+n % 10]:=by rw[Jx]
 by_cases h2:n<10
 ·have g:=jqp n h2;have e1:((n:Int)+1 - (n:Int)).toNat=1:=by omega
  have e2:(n:Int)<10:=by omega
  refine jI x53 (by rfl) (hb.pur 53 1 (by decide)) ?_;simp only[y53,jp,Qai,Qal,Qag,Qah];rw[(by unfold z53;simp only[qq];rfl:z53=_)];repeat'(first|(apply jc<;>intro _)|simp(disch:=first|exact dzB|fail) only[e1,e2,g,je,rzZ,Qab,Qac,Qad,Qaa,Qae])
  exact G0.v (by rw[hd,if_pos h2]) rfl
 ·have i:=ih (n / 10) (by omega) (by omega);have g:=jqp (n % 10) (by omega);have e1:(((n % 10:Nat):Int)+1 - ((n % 10:Nat):Int)).toNat=1:=by omega
  have e2:¬ (n:Int)<10:=by omega
  have e0:¬ (n:Int)<0:=by omega
  have e3:(n % 10:Nat)+1<=10:=by omega
  have hl:=YK 14 (n / 10) (by
   have:(10:Nat) ^ (14+1)=1000000000000000:=by decide
   omega)
  refine jI x53 (by rfl) (hb.pur 53 1 (by decide)) ?_;simp only[y53,jp,Qai,Qal,Qag,Qah];rw[(by unfold z53;simp only[qq];rfl:z53=_)];repeat'(first|(apply jc<;>intro _)|simp(disch:=first|exact dzB|fail) only[e1,e2,e0,g,jmO,jmN,i,je,rzZ,Qab,Qac,Qad,Qaa,Qae])
  exact G0.v (by rw[hd,if_neg h2]) rfl
theorem jgo (hb:NB base)(n:Int)(h1 : -1000000000000000<=n)(h2:n<=1000000000000000):Tot base 53 [.int .i64 n] (.str (Q8 n)):=by
 by_cases h0:n<0
 ·obtain⟨m,hm⟩:∃ m:Nat,-n=(m:Int):=⟨(-n).toNat,by omega⟩;have D:=jjg hb m (by omega);have hl:=YK 15 m (by
   have:(10:Nat) ^ (15+1)=10000000000000000:=by decide
   omega)
  refine hb.tot ?_ rfl rfl;refine jI x53 (by rfl) (hb.pur 53 1 (by decide)) ?_;simp only[y53,jp,Qai,Qal,Qag,Qah];rw[(by unfold z53;simp only[qq];rfl:z53=_)];repeat'(first|(apply jc<;>intro _)|simp(disch:=first|exact dzB|fail) only[h0,hm,D,je,rzZ,Qab,Qac,Qad,Qaa,Qae])
  exact G0.v (by rw[Q8,if_pos h0,hm];rfl) rfl
 ·obtain⟨m,hm⟩:∃ m:Nat,n=(m:Int):=⟨n.toNat,by omega⟩;subst hm;rw[Q8,if_neg h0];exact jjg hb m (by omega)
theorem vJ {n:Int}(h1 : -1000000<=n)(h2:n<=1000000):(Q8 n).length<=8:=by
 have e:(10:Nat) ^ (6+1)=10000000:=by decide
 unfold Q8;split
 ·have:=YK 6 (-n).toNat (by omega);simp;omega
 ·have:=YK 6 n.toNat (by omega);omega
def qe:Ex->List Nat
 |.mk op num name ks _ _=>match ks with
  |[x,y]=>(if x.kids.length=0 then qe x else 40 :: (qe x ++ [41])) ++ [32] ++ sgn op ++ [32] ++ (if y.kids.length=0 then qe y else 40 :: (qe y ++ [41]))
  |[x]=>sgn op ++ (if 6<op then [32] else []) ++ (if x.kids.length=0 then qe x else 40 :: (qe x ++ [41]))
  |_=>if op=1 then Q8 num else if op=2 then(if num=1 then [116,114,117,101] else [102,97,108,115,101]) else name
termination_by x=>SizeOf.sizeOf x
def JW (x:Ex):List Nat:=if x.kids.length=0 then qe x else 40 :: (qe x ++ [41])
theorem Uq (op num:Int)(name:List Nat)(x y:Ex)(l c:Int):qe (.mk op num name [x,y] l c)=JW x ++ [32] ++ sgn op ++ [32] ++ JW y:=by rw[qe];rfl
theorem Ur (op num:Int)(name:List Nat)(x:Ex)(l c:Int):qe (.mk op num name [x] l c)=sgn op ++ (if 6<op then [32] else []) ++ JW x:=by rw[qe];rfl
theorem wR (op num:Int)(name:List Nat)(l c:Int):qe (.mk op num name [] l c)=if op=1 then Q8 num else if op=2 then(if num=1 then [116,114,117,101] else [102,97,108,115,101]) else name:=by rw[qe]<;>intros<;>simp_all
theorem uV (op:Int):(sgn op).length<=3:=by
 unfold sgn;split
 ·rename_i h;have:∀ n,n<26->(z8.getD n []).length<=3:=by decide
  exact this _ (by omega)
 ·simp
theorem wu {x:Ex}(h:zV x=true):Yw x.op=(x.kids.length:Int)/\(∀ k∈x.kids,zV k=true)/\ZS x.op x.num x.name=true/\(x.op=3\/x.name=[]):=by
 rw[Vw,uD] at h;simp only[Qar,decide_eq_true_eq,Qax,Qbc] at h;exact⟨h.1.1.1,h.1.1.2,h.2,h.1.2⟩
theorem kR (op:Int):Yw op<=2:=by unfold Yw;split<;>(try split)<;>(try split)<;>omega
theorem Jp:∀ x:Ex,zV x=true->(qe x).length<=16 * szE x:=by
 refine Ex.indk λx ih h=>?_;obtain⟨h1,h2,h3,h4⟩:=wu h;have h5:=kR x.op;cases x with
 |mk op num name ks l c=>
 simp only[Ex.op,Ex.num,Ex.name,Ex.kids] at *;have sz:szE (.mk op num name ks l c)=yp ks+name.length+1:=rfl;rw[sz];have inn:∀ k∈ks,(JW k).length<=16 * szE k+2:=λk hk=>by
  have:=ih k hk (h2 k hk);unfold JW;split
  ·omega
  ·simp;omega
 match ks,h1,inn with
 |[],_,_=>
  rw[wR];unfold ZS at h3;split
  ·rename_i h6;rw[if_pos h6] at h3;simp at h3;have:=vJ (n:=num) (by omega) (by omega);omega
  ·split
   ·split<;>simp<;>omega
   ·omega
 |[x],_,inn=>
  rw[Ur];have:=inn x (by simp);have:=uV op;simp only[Qak,yp];split<;>simp<;>omega
 |[x,y],_,inn=>
  rw[Uq];have:=inn x (by simp);have:=inn y (by simp);have:=uV op;simp only[Qak,yp,Qaj,Qan];omega
 |x :: y :: z :: r,h1,_=>
  simp only[Qaj] at h1;omega
theorem jkS {x:Ex}(h:zV x=true):(JW x).length<=16 * szE x+2:=by
 have:=Jp x h;unfold JW;split
 ·omega
 ·simp;omega
theorem jpU (x:Ex)(xs:List Ex){st:St}{K:AV->St->Prop}:jm (Je 6 (.lptr (fl eE (x :: xs)) 0) st) K=K (.agg (eE x)) st:=by
 have:=jcv (st:=st) (K:=K) (xs:=x :: xs) (i:=0) (by simp);rw[Qbv] at this;exact this
theorem jsM (x y:Ex)(xs:List Ex){st:St}{K:AV->St->Prop}:jm (Je 6 (.lptr (fl eE (x :: y :: xs)) 6) st) K=K (.agg (eE y)) st:=jcv (st:=st) (K:=K) (xs:=x :: y :: xs) (i:=1) (by simp)
theorem jlo (hb:NB base){x:Ex}(h:zV x=true)(hx:szE x<=BIG)(T:Tot base 16 [.agg (eE x)] (.str (qe x))):Tot base 51 [.agg (eE x)] (.str (JW x)):=by
 refine hb.tot ?_ (by first|rfl|simp[pa,pc,q8]) rfl;have hl:=Jp x h;have z:((x.kids.length:Int)=0)=(x.kids.length=0):=by rw[eq_iff_iff];omega
 unfold BIG at hx;refine jI x51 (by rfl) (hb.pur 51 1 (by decide)) ?_;simp only[y51,jp,Qai,Qal,Qag,Qah];rw[(by unfold z51;simp only[qq];rfl:z51=_)]
 (have zz:=@Qak.{0};(repeat'(first|(apply jc<;>intro _)|simp(disch:=first|exact jcw|fail) only[T,z,Qak,je,rzZ,Qab,Qac,Qad,Qaa,Qae]));(all_goals(clear zz)))
 ·exact G0.v (by rw[JW,if_pos (by assumption)]) rfl
 ·exact G0.v (by rw[JW,if_neg (by assumption)]<;>rfl) rfl
set_option maxHeartbeats 1000000 in
theorem gV (hb:NB base):∀ x:Ex,szE x<=BIG->zV x=true->Tot base 16 [.agg (eE x)] (.str (qe x)):=by
 refine Ex.indk λx ih hx h=>?_;refine hb.tot ?_ (by first|rfl|simp[pa,pc,q8]) rfl;obtain⟨h1,h2,h3,h4⟩:=wu h;have h5:=kR x.op;have sz:=Y8 x;have hl:=Jp x h;have SG:=jnO hb x.op;have sl:=uV x.op;have inn:∀ k∈x.kids,Tot base 51 [.agg (eE k)] (.str (JW k))/\(JW k).length<=16 * szE k+2:=λk hk=>by
  have:szE k<=yp x.kids:=by
   obtain⟨i,hi,rfl⟩:=QbI.1 hk;exact Zx hi
  have hk2:szE k<=BIG:=by omega
  exact⟨jlo hb (h2 k hk) hk2 (ih k hk hk2 (h2 k hk)),jkS (h2 k hk)⟩
 clear ih hl;unfold BIG at *;cases x with
 |mk op num name ks l c=>
 simp only[Ex.op,Ex.num,Ex.name,Ex.kids] at *
 match ks,h1,sz,inn with
 |[],_,sz,_=>
  rw[wR];have D:op=1->Tot base 53 [.int .i64 num] (.str (Q8 num)):=λe=>by
   subst e;unfold ZS at h3;simp at h3;exact jgo hb num (by omega) (by omega)
  have ek:(Ex.mk op num name [] l c).kids=[]:=rfl;have eo:(Ex.mk op num name [] l c).op=op:=rfl;have en:(Ex.mk op num name [] l c).num=num:=rfl;have ea:(Ex.mk op num name [] l c).name=name:=rfl;refine jI x16 (by rfl) (hb.pur 16 1 (by decide)) ?_;simp only[y16,jp,Qai,Qal,Qag,Qah];rw[(by unfold z16;simp only[qq];rfl:z16=_)];repeat'(first|(apply jc<;>intro _)|simp(disch:=first|exact dzB|fail) only[D,ek,eo,en,ea,je,rzZ,Qab,Qac,Qad,Qaa,Qae])
  all_goals(refine G0.v (congrArg AV.str ?_) rfl;split<;>(try split)<;>first|rfl|omega|(exfalso;omega)|contradiction)
 |[x],_,sz,inn=>
  obtain⟨I,il⟩:=inn x (by simp);simp only[yp] at sz;rw[Ur];have ek:(Ex.mk op num name [x] l c).kids=[x]:=rfl;have eo:(Ex.mk op num name [x] l c).op=op:=rfl;refine jI x16 (by rfl) (hb.pur 16 1 (by decide)) ?_;simp only[y16,jp,Qai,Qal,Qag,Qah];rw[(by unfold z16;simp only[qq];rfl:z16=_)]
  (have zz:=aI @yY (aI @YY (aI @Qak.{0} (aI @ek @eo)));(repeat'(first|(apply jc<;>intro _)|simp(disch:=first|exact jcw|fail) only[ek,eo,I,SG,jpU,sm3,jki,Qw,yY,YY,Qak,ek,eo,je,rzZ,Qab,Qac,Qad,Qaa,Qae]));(all_goals(clear zz)))
  all_goals(refine G0.v (congrArg AV.str ?_) rfl;split<;>first|rfl|(exfalso;omega)|(simp;done))
 |[x,y],_,sz,inn=>
  obtain⟨I,il⟩:=inn x (by simp);obtain⟨I2,il2⟩:=inn y (by simp);simp only[yp] at sz;rw[Uq];have ek:(Ex.mk op num name [x,y] l c).kids=[x,y]:=rfl;have eo:(Ex.mk op num name [x,y] l c).op=op:=rfl;refine jI x16 (by rfl) (hb.pur 16 1 (by decide)) ?_;simp only[y16,jp,Qai,Qal,Qag,Qah];rw[(by unfold z16;simp only[qq];rfl:z16=_)]
  (have zz:=aI @yY (aI @YY (aI @Qak.{0} (aI @ek @eo)));(repeat'(first|(apply jc<;>intro _)|simp(disch:=first|exact jcw|fail) only[ek,eo,I,I2,SG,jpU,jsM,sm3,jki,Qw,yY,YY,Qak,ek,eo,je,rzZ,Qab,Qac,Qad,Qaa,Qae]));(all_goals(clear zz)))
  exact G0.v rfl rfl
 |x :: y :: z :: r,h1,_,_=>
  simp only[Qaj] at h1;omega
end Go.Sy
end
noncomputable section
set_option maxRecDepth 100000
namespace Go.Sy
open Go.Ev Go.Proofs
variable {base:Bs}
def Jm:List (List Nat)->List Nat
 |[]=>[]
 |x :: xs=>x ++ xs.flatMap λy=>44 :: 32 :: y
theorem gj (xs:List (List Nat))(y:List Nat):Jm (xs ++ [y])=Jm xs ++ (if xs.length=0 then [] else [44,32]) ++ y:=by
 cases xs with
 |nil=>simp[Jm]
 |cons x xs=>simp[Jm]
theorem YU {n:Nat}:∀ {xs:List (List Nat)},(∀ x∈xs,x.length<=n)->(Jm xs).length<=xs.length * (n+2)
 |[],_=>by simp[Jm]
 |x :: xs,h=>by
  have h1:=h x (by simp);have:(xs.flatMap λy=>44 :: 32 :: y).length<=xs.length * (n+2):=by
   clear h1;induction xs with
   |nil=>simp
   |cons y ys ih=>
    have h2:=h y (by simp);have:=ih λz hz=>h z (by simp at hz ⊢;rcases hz with rfl|hz<;>simp[*]);rw[QbU,Qak,show(y :: ys).length=ys.length+1 from rfl,Qbw];simp only[Qaj];omega
  rw[Jm,Qak,show(x :: xs).length=xs.length+1 from rfl,Qbw];omega
theorem QZ {l:List Nat}(h:nm l=true):l.length<=32:=by
 unfold nm at h;simp only[Qar,decide_eq_true_eq] at h;exact h.1.1.1.2
def JH (e:EnumT):Option (List Nat):=if nm e.name=true/\1<=e.vals.length/\e.vals.length<=32/\e.vals.all nm=true then some ([101,110,117,109,32] ++ e.name ++ [32,123,32] ++ Jm e.vals ++ [32,125,10]) else none
def Gc (o:Option (List Nat)):AV:=.tup [.str (o.getD []),.bool o.isSome]
theorem jg8 (l:List Nat):Gc (some l)=.tup [.str l,.bool true]:=rfl
theorem G0.tup2 {s:St}{a:List Nat}{b:Bool}{u:AV}(h:u=.tup [.str a,.bool b]):G0 u (.tup [.str a,.bool b]) s:=by
 subst h;exact FzD.tup (.cons (.pc rfl) (.cons (.pc rfl) .nil))
theorem jcZ {α:Type}{p:α->Bool}{xs:List α}{k:Nat}(h:k<xs.length)(h2:p xs[k]=false):xs.all p=false:=by
 rw[Bool.eq_false_iff];intro h3;rw[Qax] at h3;have:=h3 _ (Qay h);rw[h2] at this;cases this
theorem jgi {α:Type}{p:α->Bool}{xs:List α}{k:Nat}(h:k<xs.length):(xs.take (k+1)).all p=((xs.take k).all p && p xs[k]):=by
 rw[y7 h,Qbi];simp
set_option maxHeartbeats 1000000 in
theorem jnV (hb:NB base)(e:EnumT)(h1:e.name.length<=BIG)(h2:e.vals.length<=BIG)(h3:∀ v∈e.vals,v.length<=BIG):Tot base 54 [.agg (enE e)] (Gc (JH e)):=by
 refine hb.tot ?_ (by first|rfl|simp[pa,pc,q8,Qs,wx,JI,Jj]) rfl;have NM:=ZJ hb e.name (by unfold BIG at *;omega);unfold BIG at *;have c1:((e.vals.length:Int)<1)=(e.vals.length<1):=by rw[eq_iff_iff];omega
 have c2:((32:Int)<(e.vals.length:Int))=(32<e.vals.length):=by rw[eq_iff_iff];omega
 refine jI x54 (by rfl) (hb.pur 54 1 (by decide)) ?_;simp only[y54,jp,Qai,Qal,Qag,Qah];rw[(by unfold z54;simp only[qq];rfl:z54=_)]
 (have zz:=@Qak.{0};(repeat'(first|(apply jc<;>intro _)|simp(disch:=first|exact zN|fail) only[NM,c1,c2,Qak,je,jo,jL,jn,jf,rzZ,Qab,Qac,Qad,Qaa,Qae]));(all_goals(clear zz)))
 ·rename_i h;exact G0.tup2 (by rw[JH,if_neg (by rintro ⟨h6,_⟩;rw[h] at h6;cases h6)];rfl)
 ·exact G0.tup2 (by rw[JH,if_neg (by omega)];rfl)
 ·exact G0.tup2 (by rw[JH,if_neg (by omega)];rfl)
 have hn:nm e.name=true:=by simp_all
 have hnl:=QZ hn;have l1:1<=e.vals.length:=by omega
 have l2:e.vals.length<=32:=by omega
 refine qy e.vals.length (λk L s=>(e.vals.take k).all nm=true/\Has L 4 (.str ([101,110,117,109,32] ++ e.name ++ [32,123,32] ++ Jm (e.vals.take k)))/\Has L 28 (.lst e.vals.length (e.vals.map AV.str))) (by first|assumption|omega) (by decide) (by simp(disch:=decide) only[jd,jb]) (by simp(disch:=decide) only[jd,jb]) ?_ (λk L s v h=>by simp(disch:=decide) only[jb];exact h) (λk L s v h=>by simp(disch:=decide) only[jb];exact h) (λk L s hk hI hi hn=>?_) (λL s hI=>?_)
 ·refine⟨rfl,?_⟩;rw[QaZ,Jm,Qbf];simp(disch:=decide) only[Qam,Qao,z0,z1,jd,jb,and_true,true_and,QaC,Qaw,QaF]
 ·obtain⟨h0,i4,i28⟩:=hI;have N2:=ZJ hb e.vals[k] (by have:=h3 _ (Qay hk);omega);have hs:=gj (e.vals.take k) e.vals[k];rw[<-y7 hk] at hs;have hjl:(Jm (e.vals.take k)).length<=32 * 34:=by
   have:=YU (n:=32) (xs:=e.vals.take k) λx hx=>QZ (Qax.1 h0 x hx);have h7:(e.vals.take k).length<=32:=by rw[QaK];omega
   have:=QaN 34 h7;omega
  have hvl:=h3 _ (Qay hk);have tl:(e.vals.take k).length=k:=by rw[QaK];omega
  rw[tl] at hs;have c3:((0:Int)<(k:Int))=(0<k):=by rw[eq_iff_iff];omega
  (have zz:=@Qak.{0};(repeat'(first|(apply jc<;>intro _)|simp(disch:=first|exact zN|fail) only[ja i4,ja i28,ja hi,ja hn,jgF,N2,c3,Qak,je,jo,jL,jn,jf,rzZ,Qab,Qac,Qad,Qaa,Qae]));(all_goals(clear zz)))
  ·rename_i h;exact G0.tup2 (by rw[JH,if_neg (by rintro ⟨_,_,_,h6⟩;rw[jcZ hk h] at h6;cases h6)];rfl)
  ·rename_i h h8;refine⟨⟨by rw[jgi hk,h0];simp_all,?_⟩,?_⟩
   ·rw[hs,if_neg (by omega)];simp(disch:=decide) only[Qam,Qao,z0,z1,jd,jb,and_true,true_and,i28,QaC,Qaw,QaF]
   ·simp(disch:=decide) only[Qam,Qao,z0,z1,jd,jb,and_true,true_and,hi,hn]
  ·rename_i h h8;refine⟨⟨by rw[jgi hk,h0];simp_all,?_⟩,?_⟩
   ·rw[hs,if_pos (by omega)];simp(disch:=decide) only[Qam,Qao,z0,z1,jd,jb,and_true,true_and,i28,QaC,Qaw,QaF]
   ·simp(disch:=decide) only[Qam,Qao,z0,z1,jd,jb,and_true,true_and,hi,hn]
 ·obtain⟨h0,i4,i28⟩:=hI;rw[QaE] at h0 i4;have hjl:(Jm e.vals).length<=32 * 34:=by
   have:=YU (n:=32) (xs:=e.vals) λx hx=>QZ (Qax.1 h0 x hx);have:=QaN 34 l2;omega
  (have zz:=@Qak.{0};(repeat'(first|(apply jc<;>intro _)|simp(disch:=first|exact zN|fail) only[ja i4,ja i28,Qak,je,jo,jL,jn,jf,rzZ,Qab,Qac,Qad,Qaa,Qae]));(all_goals(clear zz)))
  exact G0.tup2 (by rw[JH,if_pos ⟨hn,l1,l2,h0⟩];rfl)
end Go.Sy
end
noncomputable section
set_option maxRecDepth 100000
namespace Go.Sy
open Go.Ev Go.Proofs
variable {base:Bs}
def Yd (n:Int):Bool:=decide (-1000000<=n) && decide (n<=1000000)
def JB (d:DeclT):Option (List Nat):=
 if d.ty=[] then(if Yd d.lo=true/\Yd d.hi=true then some (Q8 d.lo ++ [46,46] ++ Q8 d.hi) else none)
 else if d.lo=0/\d.hi=0/\(d.ty=[98,111,111,108]\/nm d.ty=true) then some d.ty else none
def Qo (xs:List Ex):List Nat:=xs.flatMap λx=>[32,61,32] ++ qe x
def JJ (d:DeclT):Option (List Nat):=match JB d with
 |none=>none
 |some t=>if d.begins.length<=1/\nm d.name=true/\d.begins.all yo=true then some ([118,97,114,32] ++ d.name ++ [32,58,32] ++ t ++ Qo d.begins ++ [59,10]) else none
theorem Wg {d:DeclT}(h:JB d=none):JJ d=none:=by unfold JJ;rw[h]
theorem U2 {d:DeclT}{t:List Nat}(h:JB d=some t):JJ d=if d.begins.length<=1/\nm d.name=true/\d.begins.all yo=true then some ([118,97,114,32] ++ d.name ++ [32,58,32] ++ t ++ Qo d.begins ++ [59,10]) else none:=by unfold JJ;rw[h]
theorem zc {x:Ex}(h:yo x=true):zV x=true:=by
 unfold yo at h;rw[Qm] at h;simp only[Qar] at h;exact h.1.2
theorem jpT {xs:List Ex}(h:0<xs.length){st:St}{K:AV->St->Prop}:jm (Je 6 (.lptr (fl eE xs) 0) st) K=K (.agg (eE xs[0])) st:=by
 have:=jcv (st:=st) (K:=K) h;rw[Qbv] at this;exact this
set_option maxHeartbeats 1000000 in
theorem HM (hb:NB base)(d:DeclT)(t:List Nat)(hw:JB d=some t)(ht:t.length<=BIG)(h1:d.name.length<=BIG)(h2:∀ x∈d.begins,szE x<=BIG){L:Sl}{s:St}(i1:Has L 1 (.ptr 0 0))(i4:Has L 4 (.str ([118,97,114,32] ++ d.name ++ [32,58,32] ++ t)))(n0:1<=s.nx)(C0:Cl s 0 (qm d)) :
  xC Qaf base jeK L s (QE Qaf y55.res (Xe G0 (.ok (Gc (JJ d))))) λv _ s=>Xb G0 (.ok (Gc (JJ d))) v s.bare:=by
 have NM:=ZJ hb d.name (by unfold BIG at *;omega);have c2:((1:Int)<(d.begins.length:Int))=(1<d.begins.length):=by rw[eq_iff_iff];omega
 have hd:=U2 hw;unfold BIG at *;unfold y55;rw[(by unfold jeK;simp only[qq];rfl:jeK=_)]
 (have zz:=C0.r;(repeat'(first|(apply jc<;>intro _)|simp(disch:=first|exact zN|fail) only[ja i1,ja i4,NM,c2,C0.q,C0.r,je,jo,jL,jn,jf,rzZ,Qab,Qac,Qad,Qaa,Qae]));(all_goals(clear zz)))
 ·exact G0.tup2 (by rw[hd,if_neg (by omega)];rfl)
 ·rename_i h8 h;exact G0.tup2 (by rw[hd,if_neg (by rintro ⟨_,h6,_⟩;rw[h] at h6;cases h6)];rfl)
 have hn:nm d.name=true:=by simp_all
 have l1:d.begins.length<=1:=by omega
 have hnl:=QZ hn;refine qy d.begins.length (λk L s=>(d.begins.take k).all yo=true/\Has L 1 (.ptr 0 0)/\Has L 4 (.str ([118,97,114,32] ++ d.name ++ [32,58,32] ++ t ++ Qo (d.begins.take k)))/\Has L 68 (.lst d.begins.length (fl eE d.begins))/\1<=s.nx) (by first|assumption|omega) (by decide) (by simp(disch:=decide) only[jd,jb]) (by simp(disch:=decide) only[jd,jb]) ?_ (λk L s v h=>by simp(disch:=decide) only[jb];exact h) (λk L s v h=>by simp(disch:=decide) only[jb];exact h) (λk L s hk hI hi hn=>?_) (λL s hI=>?_)
 ·refine⟨rfl,?_⟩;rw[QaZ,show Qo []=[] from rfl,Qbf];simp(disch:=decide) only[Qam,Qao,z0,z1,jd,jb,and_true,true_and,i1,i4];exact n0
 ·obtain⟨h0,i1,i4,i68,n0⟩:=hI;have hk0:k=0:=by omega
  subst hk0;have hi:Has L 70 (.int .i64 0):=hi;have hx:=h2 _ (Qay hk);have WR:=wP hb d.begins[0] hx;have TX:=λ(h:yo d.begins[0]=true)=>gV hb d.begins[0] hx (zc h);have TL:=λ(h:yo d.begins[0]=true)=>Jp d.begins[0] (zc h);have hs:d.begins.take (0+1)=[d.begins[0]]:=y7 hk;rw[QaZ,show Qo []=[] from rfl,Qbf] at i4;by_cases hwr:yo d.begins[0]=true
  ·have TX:=TX hwr;have TL:=TL hwr;rw[hwr] at WR
   (have zz:=@Qak.{0};(repeat'(first|(apply jc<;>intro _)|simp(disch:=first|exact zN|fail) only[ja i1,ja i4,ja i68,ja hi,ja hn,jpT hk,WR,TX,Qak,je,jo,jL,jn,jf,rzZ,Qab,Qac,Qad,Qaa,Qae]));(all_goals(clear zz)))
   refine⟨⟨by rw[hs];simp[hwr],?_⟩,?_⟩
   ·rw[hs,show Qo [d.begins[0]]=[32,61,32] ++ qe d.begins[0] from by simp[Qo]];simp(disch:=decide) only[Qam,Qao,z0,z1,jd,jb,and_true,true_and,i1,i68,QaC,Qaw,QaF]
    (first|omega|(simp only[jg,jh,jk,jj,ji];first|done|omega))
   ·simp(disch:=decide) only[Qam,Qao,z0,z1,jd,jb,and_true,true_and,hi,hn]
  ·have hf:yo d.begins[0]=false:=by simpa using hwr
   rw[hf] at WR
   (have zz:=@Qak.{0};(repeat'(first|(apply jc<;>intro _)|simp(disch:=first|exact zN|fail) only[ja i1,ja i4,ja i68,ja hi,ja hn,jpT hk,WR,Qak,je,jo,jL,jn,jf,rzZ,Qab,Qac,Qad,Qaa,Qae]));(all_goals(clear zz)))
   exact G0.tup2 (by rw[hd,if_neg (by rintro ⟨_,_,h6⟩;rw[jcZ hk hf] at h6;cases h6)];rfl)
 ·obtain⟨h0,i1,i4,i68,n0⟩:=hI;rw[QaE] at h0 i4;have bl:(Qo d.begins).length<=16 * 1099511627776+3:=by
   match hx:d.begins with
   |[]=>simp[Qo]
   |[x]=>
    rw[hx] at h0 h2;have:=Jp x (zc (by simpa using h0));have:=h2 x (by simp);simp[Qo];omega
   |x :: y :: r=>rw[hx] at l1;simp at l1
  (have zz:=@Qak.{0};(repeat'(first|(apply jc<;>intro _)|simp(disch:=first|exact zN|fail) only[ja i1,ja i4,Qak,je,jo,jL,jn,jf,rzZ,Qab,Qac,Qad,Qaa,Qae]));(all_goals(clear zz)))
  exact G0.tup2 (by rw[hd,if_pos ⟨l1,hn,h0⟩];simp only[jg8,QaC,Qaw,QaF])
set_option maxHeartbeats 1000000 in
theorem jnW (hb:NB base)(d:DeclT)(h1:d.name.length<=BIG)(h3:d.ty.length<=BIG)(h2:∀ x∈d.begins,szE x<=BIG):Tot base 55 [.agg (qm d)] (Gc (JJ d)):=by
 refine hb.tot ?_ (by first|rfl|simp[pa,pc,q8,Qs,wx,JI,Jj]) rfl;have NT:=ZJ hb d.ty (by unfold BIG at *;omega);have S1:Tot base 96 [.int .i64 d.lo] (.bool (Yd d.lo)):=jdC hb d.lo;have S2:Tot base 96 [.int .i64 d.hi] (.bool (Yd d.hi)):=jdC hb d.hi;unfold BIG at *;by_cases ht:d.ty=[]
 ·by_cases hs:Yd d.lo=true/\Yd d.hi=true
  ·have e1:=hs.1;have e2:=hs.2;unfold Yd at e1 e2;simp only[Qar,decide_eq_true_eq] at e1 e2;have D1:=jgo hb d.lo (by omega) (by omega);have D2:=jgo hb d.hi (by omega) (by omega);have l1:=vJ e1.1 e1.2;have l2:=vJ e2.1 e2.2;have hw:JB d=some (Q8 d.lo ++ [46,46] ++ Q8 d.hi):=by rw[JB,if_pos ht,if_pos hs]
   rw[hs.1] at S1;rw[hs.2] at S2;refine jI x55 (by rfl) (hb.pur 55 1 (by decide)) ?_;simp only[y55,jp,Qai,Qal,Qag,Qah];rw[(by unfold z55;simp only[qq];rfl:z55=_)]
   (have zz:=aI @Qak.{0} @yY;(repeat'(first|(apply jc<;>intro _)|simp(disch:=first|exact zN|fail) only[ht,S1,S2,D1,D2,sm2,Qak,yY,je,jo,jL,jn,jf,rzZ,Qab,Qac,Qad,Qaa,Qae]));(all_goals(clear zz)))
   refine HM hb d _ hw (by simp[BIG];omega) (by unfold BIG;omega) (by unfold BIG;exact h2) ?_ ?_ ?_ ?_
   ·simp(disch:=decide) only[Qam,Qao,z0,z1,jd,jb,and_true,true_and]
   ·simp(disch:=decide) only[Qam,Qao,z0,z1,jd,jb,and_true,true_and,QaC,Qaw,QaF]
   ·(first|omega|(simp only[jg,jh,jk,jj,ji];first|done|omega))
   ·first|exact Cl.new _ _|(first|exact cyE|fail)
  ·have hw:JB d=none:=by rw[JB,if_pos ht,if_neg hs]
   refine jI x55 (by rfl) (hb.pur 55 1 (by decide)) ?_;simp only[y55,jp,Qai,Qal,Qag,Qah];rw[(by unfold z55;simp only[qq];rfl:z55=_)]
   (have zz:=@Qak.{0};(repeat'(first|(apply jc<;>intro _)|simp(disch:=first|exact zN|fail) only[ht,S1,S2,Qak,je,jo,jL,jn,jf,rzZ,Qab,Qac,Qad,Qaa,Qae]));(all_goals(clear zz)))
   all_goals first|(exact G0.tup2 (by rw[Wg hw];rfl))|(exfalso;simp_all;done)
 ·by_cases hs:d.lo=0/\d.hi=0/\(d.ty=[98,111,111,108]\/nm d.ty=true)
  ·have hw:JB d=some d.ty:=by rw[JB,if_neg ht,if_pos hs]
   obtain⟨e1,e2,e3⟩:=hs;refine jI x55 (by rfl) (hb.pur 55 1 (by decide)) ?_;simp only[y55,jp,Qai,Qal,Qag,Qah];rw[(by unfold z55;simp only[qq];rfl:z55=_)]
   (have zz:=@Qak.{0};(repeat'(first|(apply jc<;>intro _)|simp(disch:=first|exact zN|fail) only[ht,e1,e2,NT,Qak,je,jo,jL,jn,jf,rzZ,Qab,Qac,Qad,Qaa,Qae]));(all_goals(clear zz)))
   all_goals first
    |(exfalso;simp_all;done)
    |(
     refine HM hb d _ hw (by unfold BIG;omega) (by unfold BIG;omega) (by unfold BIG;exact h2) ?_ ?_ ?_ ?_
     ·simp(disch:=decide) only[Qam,Qao,z0,z1,jd,jb,and_true,true_and]
     ·simp(disch:=decide) only[Qam,Qao,z0,z1,jd,jb,and_true,true_and,QaC,Qaw,QaF]
     ·(first|omega|(simp only[jg,jh,jk,jj,ji];first|done|omega))
     ·first|exact Cl.new _ _|(first|exact cyE|fail))
  ·have hw:JB d=none:=by rw[JB,if_neg ht,if_neg hs]
   refine jI x55 (by rfl) (hb.pur 55 1 (by decide)) ?_;simp only[y55,jp,Qai,Qal,Qag,Qah];rw[(by unfold z55;simp only[qq];rfl:z55=_)]
   (have zz:=@Qak.{0};(repeat'(first|(apply jc<;>intro _)|simp(disch:=first|exact zN|fail) only[ht,NT,Qak,je,jo,jL,jn,jf,rzZ,Qab,Qac,Qad,Qaa,Qae]));(all_goals(clear zz)))
   all_goals first|(exact G0.tup2 (by rw[Wg hw];rfl))|(exfalso;simp_all;done)
end Go.Sy
end
noncomputable section
set_option maxRecDepth 100000
namespace Go.Sy
open Go.Ev Go.Proofs
variable {base:Bs}
theorem jlS {b o:Nat}{cs:List AV}{h:T AO}(ho:o+6<=qC h b)(hv:rats h b o 6=cs)(hc:cs.all eqs=true):(qa Qaf 37 (.ptr b o) (.agg cs) h=true)=True:=eq_true (ZX jad jac (by decide) ho hv hc)
theorem jbF {s:St}{cs:List AV}{b o k:Nat}(hb:b=s.nx)(h:o+k<=cs.length):rats (nw s cs).h b o k=(cs.drop o).take k:=by
 subst hb;exact(Cl.new s cs).ratsP k o h
theorem yB {s:St}{vs:List AV}{b o o' k:Nat}(h1:o'<=o)(h:o+k<=o'+vs.length):rats (wr s b o' vs).h b o k=(vs.drop (o - o')).take k:=by
 refine vp (by simp;omega) λi hi=>?_;rw[U6 (by omega) (by omega),QaB,QaB,QbO,if_pos hi,Qcf,show o - o'+i=o+i - o' by omega]
def JL (a:AsT):List Nat:=a.name ++ [32,58,61,32] ++ qe a.to
def vP (a:AsT):Bool:=nm a.name && yo a.to
def Jk (r:RuleT):Option (List Nat):=if yo r.when=true/\1<=r.acts.length/\r.acts.length<=32/\r.acts.all vP=true then some ([32,32,119,104,101,110,32] ++ qe r.when ++ [32,100,111,32] ++ Jm (r.acts.map JL) ++ [59,10]) else none
def WL:Nat:=17592186044516
theorem Ke {a:AsT}(h:vP a=true)(h2:szE a.to<=BIG):(JL a).length<=WL:=by
 unfold vP at h;simp only[Qar] at h;have:=QZ h.1;have:=Jp a.to (zc h.2);unfold BIG at h2;unfold WL JL;simp only[Qak,Qaj,Qan];omega
theorem VZ:∀ (a b:Int) (nm:List Nat) (n:Nat) (cs:List AV) (l c:Int),([.int .i64 a,.int .i64 b,.str nm,.lst n cs,.int .i64 l,.int .i64 c]:List AV).all eqs=true:=λ_ _ _ _ _ _ _=>nr rfl
set_option maxHeartbeats 2000000 in
theorem jnQ (hb:NB base)(r:RuleT)(h1:szE r.when<=BIG)(h2:r.acts.length<=BIG)(h3:∀ a∈r.acts,szE a.to<=BIG/\a.name.length<=BIG):Tot base 57 [.agg (ruE r)] (Gc (Jk r)):=by
 refine hb.tot ?_ (by first|rfl|simp[pa,pc,q8,Qs,wx,JI,Jj]) rfl;have c1:((r.acts.length:Int)<1)=(r.acts.length<1):=by rw[eq_iff_iff];omega
 have c2:((32:Int)<(r.acts.length:Int))=(32<r.acts.length):=by rw[eq_iff_iff];omega
 have WR:=wP hb r.when h1;by_cases hw:yo r.when=true
 ·have TX:=gV hb r.when h1 (zc hw);have TL:=Jp r.when (zc hw);rw[qI] at WR TX;rw[hw] at WR;unfold BIG at h1 h2;refine jI x57 (by rfl) (hb.pur 57 1 (by decide)) ?_;simp only[y57,jp,Qai,Qal,Qag,Qah];rw[(by unfold z57;simp only[qq];rfl:z57=_)]
  (have zz:=@Qak.{0};(repeat'(first|(apply jc<;>intro _)|simp(disch:=first|exact zN|fail) only[WR,TX,c1,c2,jbF,Qak,je,jo,jL,jn,jf,rzZ,Qab,Qac,Qad,Qaa,Qae]));(all_goals(clear zz)))
  ·exact G0.tup2 (by rw[Jk,if_neg (by omega)];rfl)
  ·exact G0.tup2 (by rw[Jk,if_neg (by omega)];rfl)
  have l1:1<=r.acts.length:=by omega
  have l2:r.acts.length<=32:=by omega
  refine qy r.acts.length (λk L s=>(r.acts.take k).all vP=true/\Has L 4 (.str ([32,32,119,104,101,110,32] ++ qe r.when ++ [32,100,111,32] ++ Jm ((r.acts.take k).map JL)))/\Has L 29 (.lst r.acts.length (fl asE r.acts))/\1<=s.nx) (by first|assumption|omega) (by decide) (by simp(disch:=decide) only[jd,jb]) (by simp(disch:=decide) only[jd,jb]) ?_ (λk L s v h=>by simp(disch:=decide) only[jb];exact h) (λk L s v h=>by simp(disch:=decide) only[jb];exact h) (λk L s hk hI hi hn=>?_) (λL s hI=>?_)
  ·refine⟨rfl,?_⟩;rw[QaZ,Qal,Jm,Qbf];simp(disch:=decide) only[Qam,Qao,z0,z1,jd,jb,and_true,true_and,QaC,Qaw,QaF]
   (first|omega|(simp only[jg,jh,jk,jj,ji];first|done|omega))
  ·obtain⟨h0,i4,i29,n0⟩:=hI;have hx:=h3 _ (Qay hk);have hin:r.acts[k]∈r.acts:=Qay hk;have hact:∀ a∈r.acts.take k,(JL a).length<=WL:=λa ha=>Ke (Qax.1 h0 a ha) (h3 a (QbW ha)).1;have hbad:vP r.acts[k]=false->Jk r=none:=λh=>by rw[Jk,if_neg (by rintro ⟨_,_,_,h6⟩;rw[jcZ hk h] at h6;cases h6)]
   have hgood:vP r.acts[k]=true->(r.acts.take (k+1)).all vP=true:=λh=>by rw[jgi hk,h0,h];rfl
   have hs:=gj ((r.acts.take k).map JL) (JL r.acts[k]);have e9:(r.acts.take k).map JL ++ [JL r.acts[k]]=(r.acts.take (k+1)).map JL:=by rw[y7 hk,QbQ];rfl
   rw[e9] at hs;have tl:((r.acts.take k).map JL).length=k:=by rw[QaQ,QaK];omega
   rw[tl] at hs;have hjl:(Jm ((r.acts.take k).map JL)).length<=32 * (WL+2):=by
    have:=YU (n:=WL) (xs:=(r.acts.take k).map JL) λx hx=>by
     obtain⟨a,ha,rfl⟩:=Qbj.1 hx;exact hact a ha
    rw[tl] at this;have:=QaN (WL+2) (show k<=32 by omega);omega
   clear hact e9 tl;have N2:=ZJ hb r.acts[k].name (by have:=hx.2;unfold BIG at this;omega);have W2:=wP hb r.acts[k].to hx.1;have T2:=λ(h:yo r.acts[k].to=true)=>gV hb r.acts[k].to hx.1 (zc h);have T3:=λ(h:yo r.acts[k].to=true)=>Jp r.acts[k].to (zc h);have hdef:vP r.acts[k]=(nm r.acts[k].name && yo r.acts[k].to):=rfl;have hdw:JL r.acts[k]=r.acts[k].name ++ [32,58,61,32] ++ qe r.acts[k].to:=rfl;have c3:((0:Int)<(k:Int))=(0<k):=by rw[eq_iff_iff];omega
   obtain⟨hx1,hx2⟩:=hx;unfold BIG WL at *;obtain⟨a,ha⟩:∃ a,a=r.acts[k]:=⟨_,rfl⟩;rw[<-ha] at hx1 hx2 hbad hgood hs N2 W2 T2 T3 hdef hdw;by_cases hnm:nm a.name=true
   ·have hnl:=QZ hnm;rw[hnm] at N2;by_cases hwb:yo a.to=true
    ·have T2:=T2 hwb;have T3:=T3 hwb;rw[qI] at W2 T2;rw[hwb] at W2;have hg:=hgood (by rw[hdef,hnm,hwb];rfl);rw[hdw] at hs;by_cases hk0:k=0
     ·rw[if_pos hk0] at hs;have hk1:¬ 0<k:=by omega
      (have zz:=aI @yB (aI @Qak.{0} (aI @yX @VZ));(repeat'(first|(apply jc<;>intro _)|simp(disch:=first|exact zN|fail) only[ja i4,ja i29,ja hi,ja hn,N2,W2,T2,c3,hk1,<-ha,yB,sm9,jlS,yB,Qak,yX,VZ,je,jo,jL,jn,jf,rzZ,Qab,Qac,Qad,Qaa,Qae]));(all_goals(clear zz)))
      refine⟨⟨hg,?_⟩,?_⟩
      ·rw[hs];simp(disch:=decide) only[Qam,Qao,z0,z1,jd,jb,and_true,true_and,i29,QaC,Qaw,QaF]
       (first|omega|(simp only[jg,jh,jk,jj,ji];first|done|omega))
      ·simp(disch:=decide) only[Qam,Qao,z0,z1,jd,jb,and_true,true_and,hi,hn]
     ·rw[if_neg hk0] at hs;have hk1:0<k:=by omega
      (have zz:=aI @yB (aI @Qak.{0} (aI @yX @VZ));(repeat'(first|(apply jc<;>intro _)|simp(disch:=first|exact zN|fail) only[ja i4,ja i29,ja hi,ja hn,N2,W2,T2,c3,hk1,<-ha,yB,sm9,jlS,yB,Qak,yX,VZ,je,jo,jL,jn,jf,rzZ,Qab,Qac,Qad,Qaa,Qae]));(all_goals(clear zz)))
      refine⟨⟨hg,?_⟩,?_⟩
      ·rw[hs];simp(disch:=decide) only[Qam,Qao,z0,z1,jd,jb,and_true,true_and,i29,QaC,Qaw,QaF]
       (first|omega|(simp only[jg,jh,jk,jj,ji];first|done|omega))
      ·simp(disch:=decide) only[Qam,Qao,z0,z1,jd,jb,and_true,true_and,hi,hn]
    ·have hwf:yo a.to=false:=by simpa using hwb
     rw[qI] at W2;rw[hwf] at W2;have hb9:=hbad (by rw[hdef,hwf];simp)
     (have zz:=aI @yB (aI @Qak.{0} (aI @yX @VZ));(repeat'(first|(apply jc<;>intro _)|simp(disch:=first|exact zN|fail) only[ja i4,ja i29,ja hi,ja hn,N2,W2,<-ha,yB,yB,Qak,yX,VZ,je,jo,jL,jn,jf,rzZ,Qab,Qac,Qad,Qaa,Qae]));(all_goals(clear zz)))
     exact G0.tup2 (by rw[hb9];rfl)
   ·have hnf:nm a.name=false:=by simpa using hnm
    rw[hnf] at N2;have hb9:=hbad (by rw[hdef,hnf];rfl)
    (have zz:=aI @yB (aI @Qak.{0} (aI @yX @VZ));(repeat'(first|(apply jc<;>intro _)|simp(disch:=first|exact zN|fail) only[ja i4,ja i29,ja hi,ja hn,N2,<-ha,yB,yB,Qak,yX,VZ,je,jo,jL,jn,jf,rzZ,Qab,Qac,Qad,Qaa,Qae]));(all_goals(clear zz)))
    exact G0.tup2 (by rw[hb9];rfl)
  ·obtain⟨h0,i4,i29,n0⟩:=hI;rw[QaE] at h0 i4;have hjl:(Jm (r.acts.map JL)).length<=32 * (WL+2):=by
    have:=YU (n:=WL) (xs:=r.acts.map JL) λx hx=>by
     obtain⟨a,ha,rfl⟩:=Qbj.1 hx;exact Ke (Qax.1 h0 a ha) (h3 a ha).1
    rw[QaQ] at this;have:=QaN (WL+2) l2;omega
   unfold WL at hjl
   (have zz:=@Qak.{0};(repeat'(first|(apply jc<;>intro _)|simp(disch:=first|exact zN|fail) only[ja i4,ja i29,Qak,je,jo,jL,jn,jf,rzZ,Qab,Qac,Qad,Qaa,Qae]));(all_goals(clear zz)))
   exact G0.tup2 (by rw[Jk,if_pos ⟨hw,l1,l2,h0⟩];simp only[jg8,QaC,Qaw,QaF])
 ·have hf:yo r.when=false:=by simpa using hw
  rw[hf] at WR;rw[qI] at WR;refine jI x57 (by rfl) (hb.pur 57 1 (by decide)) ?_;simp only[y57,jp,Qai,Qal,Qag,Qah];rw[(by unfold z57;simp only[qq];rfl:z57=_)]
  (have zz:=@Qak.{0};(repeat'(first|(apply jc<;>intro _)|simp(disch:=first|exact zN|fail) only[WR,jbF,Qak,je,jo,jL,jn,jf,rzZ,Qab,Qac,Qad,Qaa,Qae]));(all_goals(clear zz)))
  exact G0.tup2 (by rw[Jk,if_neg (by rintro ⟨h6,_⟩;exact hw h6)];rfl)
end Go.Sy
end
noncomputable section
set_option maxRecDepth 100000
namespace Go.Sy
open Go.Ev Go.Proofs
variable {base:Bs}
def qP:List (Option (List Nat))->Option (List Nat)
 |[]=>some []
 |none :: _=>none
 |some a :: r=>(qP r).map (a ++ ·)
theorem jiT:∀ {xs:List (Option (List Nat))} {a b:List Nat},qP xs=some a->qP (xs ++ [some b])=some (a ++ b)
 |[],a,b,h=>by simp[qP] at h;subst h;simp[qP]
 |none :: r,a,b,h=>by simp[qP] at h
 |some c :: r,a,b,h=>by
  rw[qP] at h;cases hr:qP r with
  |none=>rw[hr] at h;simp at h
  |some d=>
   rw[hr] at h;simp at h;subst h;rw[Qaw,qP,jiT hr];simp
theorem jiU:∀ {xs:List (Option (List Nat))},none∈xs->qP xs=none
 |[],h=>by simp at h
 |none :: r,_=>rfl
 |some c :: r,h=>by
  rw[qP,jiU (by simpa using h)];rfl
theorem QX {n:Nat}:∀ {xs:List (Option (List Nat))} {a:List Nat},(∀ l,some l∈xs->l.length<=n)->qP xs=some a->a.length<=xs.length * n
 |[],a,_,h=>by simp[qP] at h;subst h;simp
 |none :: r,a,_,h=>by simp[qP] at h
 |some c :: r,a,hl,h=>by
  rw[qP] at h;cases hr:qP r with
  |none=>rw[hr] at h;simp at h
  |some d=>
   rw[hr] at h;simp at h;subst h;have:=QX (xs:=r) (λl h=>hl l (by simp[h])) hr;have:=hl c (by simp);rw[Qak,show(some c :: r).length=r.length+1 from rfl,Qbw];omega
theorem ur {α:Type}{f:α->Option (List Nat)}{xs:List α}{k:Nat}(h:k<xs.length){a b:List Nat}(h1:qP ((xs.take k).map f)=some a)(h2:f xs[k]=some b):qP ((xs.take (k+1)).map f)=some (a ++ b):=by
 rw[y7 h,QbQ,Qai,Qal,h2];exact jiT h1
theorem Ve {α:Type}{f:α->Option (List Nat)}{xs:List α}{k:Nat}(h:k<xs.length)(h2:f xs[k]=none):qP (xs.map f)=none:=jiU (by rw[<-h2];exact List.mem_map_of_mem (Qay h))
theorem V8 {e:EnumT}{l:List Nat}(h:JH e=some l):l.length<=2000:=by
 unfold JH at h;split at h
 ·rename_i hh;simp only[Option.some.injEq] at h;subst h;have:=QZ hh.1;have:=YU (n:=32) (xs:=e.vals) λx hx=>QZ (Qax.1 hh.2.2.2 x hx);have:=QaN 34 hh.2.2.1;simp only[Qak,Qaj,Qan];omega
 ·cases h
theorem jg5 {d:DeclT}{t:List Nat}(h:JB d=some t):t.length<=32:=by
 unfold JB at h;split at h
 ·split at h
  ·rename_i hh;simp only[Option.some.injEq] at h;subst h;obtain⟨e1,e2⟩:=hh;unfold Yd at e1 e2;simp only[Qar,decide_eq_true_eq] at e1 e2;have l1:=vJ e1.1 e1.2;have l2:=vJ e2.1 e2.2;simp only[Qak,Qaj,Qan];omega
  ·cases h
 ·split at h
  ·rename_i hh;simp only[Option.some.injEq] at h;subst h;rcases hh.2.2 with h|h
   ·rw[h];decide
   ·exact QZ h
  ·cases h
theorem Uc {d:DeclT}{l:List Nat}(h:JJ d=some l)(h2:∀ x∈d.begins,szE x<=BIG):l.length<=WL:=by
 cases ht:JB d with
 |none=>rw[Wg ht] at h;cases h
 |some t=>
  rw[U2 ht] at h;have tl:=jg5 ht;split at h
  ·rename_i hh;simp only[Option.some.injEq] at h;subst h;have:=QZ hh.2.1;have bl:(Qo d.begins).length<=16 * BIG+3:=by
    match hx:d.begins with
    |[]=>simp[Qo]
    |[x]=>
     rw[hx] at hh h2;have:=Jp x (zc (by simpa using hh.2.2));have:=h2 x (by simp);simp[Qo];omega
    |x :: y :: r=>rw[hx] at hh;simp at hh
   unfold BIG at bl;unfold WL;simp only[Qak,Qaj,Qan];omega
  ·cases h
structure WrR (r:RuleT):Prop where
 when:szE r.when<=BIG
 acts:r.acts.length<=BIG
 to:∀ a∈r.acts,szE a.to<=BIG/\a.name.length<=BIG
structure WrS (m:SrcT):Prop where
 enums:m.enums.length<=BIG
 en:∀ e∈m.enums,e.name.length<=BIG/\e.vals.length<=BIG/\∀ v∈e.vals,v.length<=BIG
 vars:m.vars.length<=BIG
 de:∀ d∈m.vars,d.name.length<=BIG/\d.ty.length<=BIG/\d.begins.length<=BIG/\∀ x∈d.begins,szE x<=BIG
 procs:m.procs.length<=BIG
 pr:∀ p∈m.procs,p.name.length<=BIG/\p.rules.length<=BIG/\∀ r∈p.rules,WrR r
def RL:Nat:=33 * (WL+2)
theorem vY {r:RuleT}{l:List Nat}(h:Jk r=some l)(w:WrR r):l.length<=RL:=by
 unfold Jk at h;split at h
 ·rename_i hh;simp only[Option.some.injEq] at h;subst h;have h1:=Jp r.when (zc hh.1);have h2:=w.when;have:=YU (n:=WL) (xs:=r.acts.map JL) λx hx=>by
   obtain⟨a,ha,rfl⟩:=Qbj.1 hx;exact Ke (Qax.1 hh.2.2.2 a ha) (w.to a ha).1
  rw[QaQ] at this;have:=QaN (WL+2) hh.2.2.1;unfold RL;unfold BIG at h2;unfold WL at *;simp only[Qak,Qaj,Qan];omega
 ·cases h
def JD (p:ProcT):Option (List Nat):=if nm p.name=true/\p.rules.length<=32 then(match qP (p.rules.map Jk) with|some t=>some ([112,114,111,99,101,115,115,32] ++ p.name ++ [32,123,10] ++ t ++ [125,10])|none=>none) else none
def PRL:Nat:=33 * RL
theorem jhC {p:ProcT}{l:List Nat}(h:JD p=some l)(w:∀ r∈p.rules,WrR r):l.length<=PRL:=by
 unfold JD at h;split at h
 ·rename_i hh;cases hc:qP (p.rules.map Jk) with
  |none=>rw[hc] at h;cases h
  |some t=>
   rw[hc] at h;simp only[Option.some.injEq] at h;subst h;have:=QZ hh.1;have h3:=QX (n:=RL) (λl hl=>by
    obtain⟨r,hr,he⟩:=Qbj.1 hl;exact vY he (w r hr)) hc
   rw[QaQ] at h3;have:=QaN RL hh.2;unfold PRL;have:1000<=RL:=by unfold RL WL;omega
   simp only[Qak,Qaj,Qan];omega
 ·cases h
def Qa (m:SrcT):Option (List Nat):=
 if m.enums.length<=32/\m.vars.length<=32/\m.procs.length<=32 then(match qP (m.enums.map JH),qP (m.vars.map JJ),qP (m.procs.map JD) with
  |some a,some b,some c=>some (a ++ b ++ c)
  |_,_,_=>none) else none
theorem jpc {m:SrcT}(h:qP (m.enums.map JH)=none):Qa m=none:=by unfold Qa;rw[h];split<;>rfl
theorem jo9 {m:SrcT}(h:qP (m.vars.map JJ)=none):Qa m=none:=by unfold Qa;rw[h];split<;>(try split)<;>first|rfl|(rename_i h2 _ _ _;simp at *)
theorem jpa {m:SrcT}(h:qP (m.procs.map JD)=none):Qa m=none:=by unfold Qa;rw[h];split<;>(try split)<;>first|rfl|(simp at *)
theorem jpb {m:SrcT}{a b c:List Nat}(h0:m.enums.length<=32/\m.vars.length<=32/\m.procs.length<=32)(h1:qP (m.enums.map JH)=some a)(h2:qP (m.vars.map JJ)=some b)(h3:qP (m.procs.map JD)=some c):Qa m=some (a ++ b ++ c):=by
 unfold Qa;rw[if_pos h0,h1,h2,h3]
def je3 (o:Option (List Nat)):AV:=.tup [.str (o.getD []),.int .i64 (if o.isSome=true then 0 else 141)]
theorem G0.tupw {s:St}{a:List Nat}{n:Int}{u:AV}(h:u=.tup [.str a,.int .i64 n]):G0 u (.tup [.str a,.int .i64 n]) s:=by
 subst h;exact FzD.tup (.cons (.pc rfl) (.cons (.pc rfl) .nil))
end Go.Sy
end
noncomputable section
set_option maxRecDepth 100000
namespace Go.Sy
open Go.Ev Go.Proofs
variable {base:Bs}
set_option maxHeartbeats 4000000 in
theorem ji8 (hb:NB base)(m:SrcT)(w:WrS m):Tot base 18 [.agg (srE m)] (je3 (Qa m)):=by
 refine hb.tot ?_ (by first|rfl|simp[pa,pc,q8,Qs,wx,JI,Jj,UD,Uv]) rfl;have we:=w.enums;have wv:=w.vars;have wp:=w.procs;have c1:((32:Int)<(m.enums.length:Int))=(32<m.enums.length):=by rw[eq_iff_iff];omega
 have c2:((32:Int)<(m.vars.length:Int))=(32<m.vars.length):=by rw[eq_iff_iff];omega
 have c3:((32:Int)<(m.procs.length:Int))=(32<m.procs.length):=by rw[eq_iff_iff];omega
 unfold BIG at we wv wp;have hbad:∀ s:St,Qa m=none->G0 (je3 (Qa m)) (.tup [.str [],.int .i64 141]) s:=λs h=>G0.tupw (by rw[h];rfl);refine jI x18 (by rfl) (hb.pur 18 1 (by decide)) ?_;simp only[y18,jp,Qai,Qal,Qag,Qah];rw[(by unfold z18;simp only[qq];rfl:z18=_)];repeat'(first|(apply jc<;>intro _)|simp(disch:=first|exact dzE|fail) only[c1,c2,c3,je,jo,jL,jn,jf,qi,qh,rzZ,Qab,Qac,Qad,Qaa,Qae])
 ·exact hbad _ (by rw[Qa,if_neg (by omega)])
 ·exact hbad _ (by rw[Qa,if_neg (by omega)])
 ·exact hbad _ (by rw[Qa,if_neg (by omega)])
 have l1:m.enums.length<=32:=by omega
 have l2:m.vars.length<=32:=by omega
 have l3:m.procs.length<=32:=by omega
 clear c1 c2 c3;refine qy m.enums.length (λk L s=>∃ a,qP ((m.enums.take k).map JH)=some a/\Has L 1 (.ptr 0 0)/\Has L 4 (.str a)/\Has L 36 (.lst m.enums.length (fl enE m.enums))/\1<=s.nx/\Cl s 0 (srE m)) (by first|assumption|omega) (by decide) (by simp(disch:=decide) only[jd,jb]) (by simp(disch:=decide) only[jd,jb]) ?_ (λk L s v h=>by simp(disch:=decide) only[jb];exact h) (λk L s v h=>by simp(disch:=decide) only[jb];exact h) (λk L s hk hI hi hn=>?_) (λL s hI=>?_)
 ·refine⟨[],rfl,?_⟩;simp(disch:=decide) only[Qam,Qao,z0,z1,jd,jb,and_true,true_and];exact⟨by(first|omega|(simp only[jg,jh,jk,jj,ji];first|done|omega)),by first|exact Cl.new _ _|(first|exact cyE|fail)⟩
 ·obtain⟨a,ha,i1,i4,iL,n0,C0⟩:=hI;obtain⟨w1,w2,w3⟩:=w.en _ (Qay hk);have E:=jnV hb m.enums[k] w1 w2 w3;have al:a.length<=32 * 2000:=by
   have:=QX (n:=2000) (λl hl=>by
    obtain⟨e,_,he⟩:=Qbj.1 hl;exact V8 he) ha
   rw[QaQ,QaK] at this;have:=QaN 2000 (show min k m.enums.length<=32 by omega);omega
  have good:=λb=>@ur _ JH m.enums k hk a b ha;have bad:=@Ve _ JH m.enums k hk;have el:=@V8 m.enums[k];cases ho:JH m.enums[k] with
  |none=>
   rw[ho] at E;have E:Tot base 54 [.agg (enE m.enums[k])] (.tup [.str [],.bool false]):=E
   (have zz:=aI @Qak.{0} C0.r;(repeat'(first|(apply jc<;>intro _)|simp(disch:=first|exact zN|fail) only[ja i1,ja i4,ja iL,ja hi,ja hn,E,C0.q,Qak,C0.r,je,jo,jL,jn,jf,qi,qh,rzZ,Qab,Qac,Qad,Qaa,Qae]));(all_goals(clear zz)))
   exact hbad _ (jpc (bad ho))
  |some b=>
   rw[ho] at E;have E:Tot base 54 [.agg (enE m.enums[k])] (.tup [.str b,.bool true]):=E;have bl:=el ho
   (have zz:=aI @Qak.{0} C0.r;(repeat'(first|(apply jc<;>intro _)|simp(disch:=first|exact zN|fail) only[ja i1,ja i4,ja iL,ja hi,ja hn,E,C0.q,Qak,C0.r,je,jo,jL,jn,jf,qi,qh,rzZ,Qab,Qac,Qad,Qaa,Qae]));(all_goals(clear zz)))
   refine⟨⟨a ++ b,good b ho,?_⟩,?_⟩
   ·simp(disch:=decide) only[Qam,Qao,z0,z1,jd,jb,and_true,true_and,i1,iL];exact⟨by(first|omega|(simp only[jg,jh,jk,jj,ji];first|done|omega)),by(first|exact C0|(simp(disch:=first|assumption|decide|(first|omega|(simp only[jg,jh,jk,jj,ji];first|done|omega))) only[jA,jB,jy,jN,jC,jG,jF,jH];exact C0))⟩
   ·simp(disch:=decide) only[Qam,Qao,z0,z1,jd,jb,and_true,true_and,hi,hn]
 ·obtain⟨a,ha,i1,i4,iL,n0,C0⟩:=hI;rw[QaE] at ha;have al:a.length<=32 * 2000:=by
   have:=QX (n:=2000) (λl hl=>by
    obtain⟨e,_,he⟩:=Qbj.1 hl;exact V8 he) ha
   rw[QaQ] at this;have:=QaN 2000 l1;omega
  (have zz:=C0.r;(repeat'(first|(apply jc<;>intro _)|simp(disch:=first|exact zN|fail) only[ja i1,ja i4,ja iL,C0.q,C0.r,je,jo,jL,jn,jf,qi,qh,rzZ,Qab,Qac,Qad,Qaa,Qae]));(all_goals(clear zz)))
  refine qy m.vars.length (λk L s=>∃ b,qP ((m.vars.take k).map JJ)=some b/\Has L 1 (.ptr 0 0)/\Has L 4 (.str (a ++ b))/\Has L 54 (.lst m.vars.length (fl qm m.vars))/\1<=s.nx/\Cl s 0 (srE m)) (by first|assumption|omega) (by decide) (by simp(disch:=decide) only[jd,jb]) (by simp(disch:=decide) only[jd,jb]) ?_ (λk L s v h=>by simp(disch:=decide) only[jb];exact h) (λk L s v h=>by simp(disch:=decide) only[jb];exact h) (λk L s hk hI hi hn=>?_) (λL s hI=>?_)
  ·refine⟨[],rfl,?_⟩;simp(disch:=decide) only[Qam,Qao,z0,z1,jd,jb,and_true,true_and,i1,i4,Qbf];exact⟨n0,C0⟩
  ·clear i1 i4 iL n0 C0;obtain⟨b,hb2,i1,i4,iL,n0,C0⟩:=hI;obtain⟨w1,w2,_,w3⟩:=w.de _ (Qay hk);have E:=jnW hb m.vars[k] w1 w2 w3;have bl:b.length<=32 * WL:=by
    have:=QX (n:=WL) (λl hl=>by
     obtain⟨e,he1,he⟩:=Qbj.1 hl;exact Uc he (w.de e (QbW he1)).2.2.2) hb2
    rw[QaQ,QaK] at this;have:=QaN WL (show min k m.vars.length<=32 by omega);omega
   have good:=λc=>@ur _ JJ m.vars k hk b c hb2;have bad:=@Ve _ JJ m.vars k hk;have el:=λl (h:JJ m.vars[k]=some l)=>Uc h w3;unfold WL at *;cases ho:JJ m.vars[k] with
   |none=>
    rw[ho] at E;have E:Tot base 55 [.agg (qm m.vars[k])] (.tup [.str [],.bool false]):=E
    (have zz:=aI @Qak.{0} C0.r;(repeat'(first|(apply jc<;>intro _)|simp(disch:=first|exact zN|fail) only[ja i1,ja i4,ja iL,ja hi,ja hn,E,C0.q,Qak,C0.r,je,jo,jL,jn,jf,qi,qh,rzZ,Qab,Qac,Qad,Qaa,Qae]));(all_goals(clear zz)))
    exact hbad _ (jo9 (bad ho))
   |some c=>
    rw[ho] at E;have E:Tot base 55 [.agg (qm m.vars[k])] (.tup [.str c,.bool true]):=E;have cl:=el _ ho
    (have zz:=aI @Qak.{0} C0.r;(repeat'(first|(apply jc<;>intro _)|simp(disch:=first|exact zN|fail) only[ja i1,ja i4,ja iL,ja hi,ja hn,E,C0.q,Qak,C0.r,je,jo,jL,jn,jf,qi,qh,rzZ,Qab,Qac,Qad,Qaa,Qae]));(all_goals(clear zz)))
    refine⟨⟨b ++ c,good c ho,?_⟩,?_⟩
    ·simp(disch:=decide) only[Qam,Qao,z0,z1,jd,jb,and_true,true_and,i1,iL,QaC];exact⟨by(first|omega|(simp only[jg,jh,jk,jj,ji];first|done|omega)),by(first|exact C0|(simp(disch:=first|assumption|decide|(first|omega|(simp only[jg,jh,jk,jj,ji];first|done|omega))) only[jA,jB,jy,jN,jC,jG,jF,jH];exact C0))⟩
    ·simp(disch:=decide) only[Qam,Qao,z0,z1,jd,jb,and_true,true_and,hi,hn]
  ·clear i1 i4 iL n0 C0;obtain⟨b,hb2,i1,i4,iL,n0,C0⟩:=hI;rw[QaE] at hb2;have bl:b.length<=32 * WL:=by
    have:=QX (n:=WL) (λl hl=>by
     obtain⟨e,he1,he⟩:=Qbj.1 hl;exact Uc he (w.de e he1).2.2.2) hb2
    rw[QaQ] at this;have:=QaN WL l2;omega
   (have zz:=C0.r;(repeat'(first|(apply jc<;>intro _)|simp(disch:=first|exact zN|fail) only[ja i1,ja i4,ja iL,C0.q,C0.r,je,jo,jL,jn,jf,qi,qh,rzZ,Qab,Qac,Qad,Qaa,Qae]));(all_goals(clear zz)))
   refine qy m.procs.length (λk L s=>∃ c,qP ((m.procs.take k).map JD)=some c/\Has L 1 (.ptr 0 0)/\Has L 4 (.str (a ++ b ++ c))/\Has L 72 (.lst m.procs.length (fl prE m.procs))/\1<=s.nx) (by first|assumption|omega) (by decide) (by simp(disch:=decide) only[jd,jb]) (by simp(disch:=decide) only[jd,jb]) ?_ (λk L s v h=>by simp(disch:=decide) only[jb];exact h) (λk L s v h=>by simp(disch:=decide) only[jb];exact h) (λko Lo so hko hIo hio hno=>?_) (λLo so hIo=>?_)
   ·refine⟨[],rfl,?_⟩;simp(disch:=decide) only[Qam,Qao,z0,z1,jd,jb,and_true,true_and,i1,i4,Qbf];exact n0
   ·clear i1 i4 iL n0 C0;obtain⟨c,hc,i1,i4,iL,n0⟩:=hIo;obtain⟨w1,w2,w3⟩:=w.pr _ (Qay hko);have NM:=ZJ hb m.procs[ko].name (by unfold BIG at *;omega);have cl:c.length<=32 * PRL:=by
     have:=QX (n:=PRL) (λl hl=>by
      obtain⟨e,he1,he⟩:=Qbj.1 hl;exact jhC he (w.pr e (QbW he1)).2.2) hc
     rw[QaQ,QaK] at this;have:=QaN PRL (show min ko m.procs.length<=32 by omega);omega
    have good:=λd=>@ur _ JD m.procs ko hko c d hc;have bad:=λh=>jpa (@Ve _ JD m.procs ko hko h);obtain⟨x,hx⟩:∃ x,x=m.procs[ko]:=⟨_,rfl⟩;rw[<-hx] at good bad w1 w2 w3 NM;have pb:JD x=none->∀ s:St,G0 (je3 (Qa m)) (.tup [.str [],.int .i64 141]) s:=λh s=>hbad s (bad h);have c4:((32:Int)<(x.rules.length:Int))=(32<x.rules.length):=by rw[eq_iff_iff];omega
    have WLv:WL=17592186044516:=rfl;have RLv:RL=33 * (WL+2):=rfl;have PLv:PRL=33 * RL:=rfl;unfold BIG at w1 w2;by_cases hnm:nm x.name=true
    ·have hnl:=QZ hnm;rw[hnm] at NM
     (have zz:=@Qak.{0};(repeat'(first|(apply jc<;>intro _)|simp(disch:=first|exact zN|fail) only[ja i1,ja i4,ja iL,ja hio,ja hno,NM,c4,<-hx,Qak,je,jo,jL,jn,jf,qi,qh,rzZ,Qab,Qac,Qad,Qaa,Qae]));(all_goals(clear zz)))
     ·exact pb (by rw[JD,if_neg (by omega)]) _
     have l5:x.rules.length<=32:=by omega
     refine qy x.rules.length (λj L s=>∃ t,qP ((x.rules.take j).map Jk)=some t/\Has L 1 (.ptr 0 0)/\Has L 4 (.str (a ++ b ++ c ++ ([112,114,111,99,101,115,115,32] ++ x.name ++ [32,123,10] ++ t)))/\Has L 72 (.lst m.procs.length (fl prE m.procs))/\Has L 73 (.int .i64 (m.procs.length:Int))/\Has L 74 (.int .i64 (ko:Int))/\Has L 95 (.lst x.rules.length (fl ruE x.rules))/\1<=s.nx) (by first|assumption|omega) (by decide) (by simp(disch:=decide) only[jd,jb]) (by simp(disch:=decide) only[jd,jb]) ?_ (λk L s v h=>by simp(disch:=decide) only[jb];exact h) (λk L s v h=>by simp(disch:=decide) only[jb];exact h) (λk L s hk hI hi hn=>?_) (λL s hI=>?_)
     ·refine⟨[],rfl,?_⟩;simp(disch:=decide) only[Qam,Qao,z0,z1,jd,jb,and_true,true_and,i1,i4,iL,hno,hio,Qbf,QaC,Qaw,QaF]
      (first|omega|(simp only[jg,jh,jk,jj,ji];first|done|omega))
     ·clear i1 i4 iL n0 hio hno;obtain⟨t,ht,i1,i4,iL,hno,hio,i95,n0⟩:=hI;have wr:=w3 _ (Qay hk);have E:=jnQ hb x.rules[k] wr.when wr.acts wr.to;have tl:t.length<=32 * RL:=by
       have:=QX (n:=RL) (λl hl=>by
        obtain⟨e,he1,he⟩:=Qbj.1 hl;exact vY he (w3 e (QbW he1))) ht
       rw[QaQ,QaK] at this;have:=QaN RL (show min k x.rules.length<=32 by omega);omega
      have good2:=λd=>@ur _ Jk x.rules k hk t d ht;have bad2:=@Ve _ Jk x.rules k hk;have el:=λl (h:Jk x.rules[k]=some l)=>vY h wr;cases ho:Jk x.rules[k] with
      |none=>
       rw[ho] at E;have E:Tot base 57 [.agg (ruE x.rules[k])] (.tup [.str [],.bool false]):=E
       (have zz:=@Qak.{0};(repeat'(first|(apply jc<;>intro _)|simp(disch:=first|exact zN|fail) only[ja i1,ja i4,ja iL,ja i95,ja hi,ja hn,E,Qak,je,jo,jL,jn,jf,qi,qh,rzZ,Qab,Qac,Qad,Qaa,Qae]));(all_goals(clear zz)))
       exact pb (by rw[JD,if_pos ⟨hnm,l5⟩,bad2 ho]) _
      |some d=>
       rw[ho] at E;have E:Tot base 57 [.agg (ruE x.rules[k])] (.tup [.str d,.bool true]):=E;have dl:=el _ ho
       (have zz:=@Qak.{0};(repeat'(first|(apply jc<;>intro _)|simp(disch:=first|exact zN|fail) only[ja i1,ja i4,ja iL,ja i95,ja hi,ja hn,E,Qak,je,jo,jL,jn,jf,qi,qh,rzZ,Qab,Qac,Qad,Qaa,Qae]));(all_goals(clear zz)))
       refine⟨⟨t ++ d,good2 d ho,?_⟩,?_⟩
       ·simp(disch:=decide) only[Qam,Qao,z0,z1,jd,jb,and_true,true_and,i1,iL,hno,hio,i95,QaC,Qaw,QaF]
        (first|omega|(simp only[jg,jh,jk,jj,ji];first|done|omega))
       ·simp(disch:=decide) only[Qam,Qao,z0,z1,jd,jb,and_true,true_and,hi,hn]
     ·clear i1 i4 iL n0 hio hno;obtain⟨t,ht,i1,i4,iL,hno,hio,i95,n0⟩:=hI;rw[QaE] at ht;have tl:t.length<=32 * RL:=by
       have:=QX (n:=RL) (λl hl=>by
        obtain⟨e,he1,he⟩:=Qbj.1 hl;exact vY he (w3 e he1)) ht
       rw[QaQ] at this;have:=QaN RL l5;omega
      have hpw:JD x=some ([112,114,111,99,101,115,115,32] ++ x.name ++ [32,123,10] ++ t ++ [125,10]):=by rw[JD,if_pos ⟨hnm,l5⟩,ht]
      (have zz:=@Qak.{0};(repeat'(first|(apply jc<;>intro _)|simp(disch:=first|exact zN|fail) only[ja i1,ja i4,ja iL,Qak,je,jo,jL,jn,jf,qi,qh,rzZ,Qab,Qac,Qad,Qaa,Qae]));(all_goals(clear zz)))
      refine⟨⟨_,good _ hpw,?_⟩,?_⟩
      ·simp(disch:=decide) only[Qam,Qao,z0,z1,jd,jb,and_true,true_and,i1,iL,QaC,Qaw,QaF]
       (first|omega|(simp only[jg,jh,jk,jj,ji];first|done|omega))
      ·simp(disch:=decide) only[Qam,Qao,z0,z1,jd,jb,and_true,true_and,hio,hno]
    ·have hnf:nm x.name=false:=by simpa using hnm
     rw[hnf] at NM
     (have zz:=@Qak.{0};(repeat'(first|(apply jc<;>intro _)|simp(disch:=first|exact zN|fail) only[ja i1,ja i4,ja iL,ja hio,ja hno,NM,<-hx,Qak,je,jo,jL,jn,jf,qi,qh,rzZ,Qab,Qac,Qad,Qaa,Qae]));(all_goals(clear zz)))
     exact pb (by rw[JD,if_neg (by rintro ⟨h6,_⟩;exact hnm h6)]) _
   ·clear i1 i4 iL n0 C0;obtain⟨c,hc,i1,i4,iL,n0⟩:=hIo;rw[QaE] at hc;repeat'(first|(apply jc<;>intro _)|simp(disch:=first|exact dzE|fail) only[ja i1,ja i4,je,jo,jL,jn,jf,qi,qh,rzZ,Qab,Qac,Qad,Qaa,Qae])
    exact G0.tupw (by rw[jpb ⟨l1,l2,l3⟩ ha hb2 hc];rfl)
end Go.Sy
end
noncomputable section
namespace Go.Sy
open Go.Ev Go.RowKit
def frW (w:World):Inj:=⟨λ_=>.unborn,λB=>match w.heap[B]? with|some (.cells c _ _)=>some c.toList|_=>none⟩
theorem jrH {w:World}{B:Nat}{vs:List Value}(h:(frW w).g B=some vs):∃ c e f,w.heap[B]? = some (.cells c e f)/\c.toList=vs:=by
 unfold frW at h;dsimp only at h;split at h
 ·rename_i c e f hc;exact⟨c,e,f,hc,by simpa using h⟩
 ·cases h
theorem jp6 {w:World}{B:Nat}{c:Array Value}{e:TypeId}{f:Nat×Nat}(h:w.heap[B]? = some (.cells c e f)):(frW w).g B=some c.toList:=by
 unfold frW;dsimp only;rw[h]
theorem jmZ {w:World}(hg:∃ te pe,w.cell? ⟨2,0,none⟩=some (.iface te pe)):Sim (frW w) st0.h st0.nx w:=
 ⟨λb B S e=>(by cases e),λb e=>(by cases e),λb b' B S S' e=>(by cases e),λb e=>absurd rfl e,⟨hg,λb S e=>by cases e⟩,λB vs h=>by
  obtain⟨c,e,f,h1,h2⟩:=jrH h;exact⟨⟨c,e,f.1,f.2,h1,h2,trivial⟩,λb S e=>by cases e⟩⟩
section
variable {H:Type} {enc:TypeId×Value->H} {P:Program} {w:World} {base:Nat} {sp:Nat->Bool} {held:Bool}
mutual
def bulkD:DataW H->Nat
 |.lit (.string bytes)=>bytes.length+1
 |.lit _=>1
 |.nil=>1
 |.ptr d=>bulkD d+1
 |.slice elems spare=>bulkDs elems+bulkDs spare+1
 |.agg parts=>bulkDs parts+1
 |.iface _ d=>bulkD d+1
 |.map entries=>1
 |.held _=>1
def bulkDs:List (DataW H)->Nat
 |[]=>0
 |d :: r=>bulkD d+bulkDs r
end
def Reads (H:Type)(P:Program)(w:World)(N:Nat)(t:TypeId){α:Type}(z:Nat)(en:α->List AV)(sz:α->Nat):Prop:=
 P.cellsOf t=z/\(∀ x,(en x).length=z)/\∀ (enc:TypeId×Value->H) (base:Nat) (sp:Nat->Bool) (held:Bool) (fuel:Nat) (cs:List Value) (d:DataW H) (ps:List MemPlace),fuel<=N->DataW.trod enc P w base sp held fuel t cs=some (d,ps)->∃ x:α,VRs (frW w) (en x) cs/\(en x).all AV.cell=true/\sz x<=bulkD d
def jsN (k:IntKind)(n:{n:Int // (Lit.int k n).wf=true}):List AV:=[.int k n.1]
theorem Qg {N:Nat}{t:TypeId}{k:IntKind}(hu:P.underlying t=some (.int k))(hc:P.cellsOf t=1):Reads H P w N t 1 (jsN k) (λ_=>1):=
 ⟨hc,λ_=>rfl,λenc base sp held fuel cs d ps hN h=>by
  obtain⟨n,rfl,hx,hw⟩:=DataW.trod_int hu h;cases hx;exact⟨⟨n,hw⟩,⟨_,_,rfl,rfl,rfl⟩,rfl,Qaq _⟩⟩
theorem vo {N:Nat}{t:TypeId}(hu:P.underlying t=some .string)(hc:P.cellsOf t=1):Reads H P w N t 1 (λs:List Nat=>[.str s]) (λs=>s.length+1):=
 ⟨hc,λ_=>rfl,λenc base sp held fuel cs d ps hN h=>by
  obtain⟨s,rfl,hx,hm⟩:=DataW.trod_string hu h;cases hx;refine⟨s.data.toList.map UInt8.toNat,⟨_,_,rfl,⟨s,rfl,rfl⟩,rfl⟩,rfl,?_⟩;show(s.data.toList.map UInt8.toNat).length+1<=_;rw[bulkD,QaQ];exact Qaq _⟩
theorem jep {w:World}{a:Addr}{v:Value}(h:w.cell? a=some v):a.spot=none/\∃ c e f,w.heap[a.block]? = some (.cells c e f)/\c[a.off]? = some v:=by
 unfold World.cell? at h;split at h
 ·rename_i c e f hc;split at h
  ·cases h
  ·rename_i hs;exact⟨by simpa using hs,c,e,f,hc,h⟩
 ·cases h
theorem jcH {w:World}{base:Nat}{a:Addr}{n:Nat}{cs:List Value}(h:w.cells? base a n=some cs):cs.length=n/\∀ i,i<n->w.cell? (a.add i)=some (cs.getD i undef):=by
 unfold World.cells? at h;split at h
 ·refine⟨by simpa using mapM_some_length h,λi hi=>?_⟩;have:=mapM_some_get h i i (by simp[hi]);rw[this];have hl:cs.length=n:=by simpa using mapM_some_length h
  simp[QaO,show i<cs.length by omega]
 ·cases h
theorem jc0 (b o n:Nat):(Addr.add ⟨b,o,none⟩ n)=⟨b,o+n,none⟩:=by
 unfold Addr.add;split
 ·rename_i h;subst h;rfl
 ·rfl
theorem Xl {N:Nat}{α:Type}{t e:TypeId}{z:Nat}{en:α->List AV}{sz:α->Nat}(hz0:0<z)(hu:P.underlying t=some (.slice e))(hc:P.cellsOf t=1)(R:Reads H P w N e z en sz)(hpos:∀ x,1<=sz x) :
  Reads H P w (N+1) t 1 (λxs:List α=>[.lst xs.length (fl en xs)]) (λxs=>(xs.map sz).sum+1):=
 ⟨hc,λ_=>rfl,λenc base sp held fuel cs d ps hN h=>by
  obtain⟨hz,hl,hr⟩:=R;rcases DataW.trod_slice hu h with ⟨rfl,hx⟩|⟨a,len,cap,elems,rest,n,rfl,rfl,hx,hb,hle,hm,hel,h1,_,_⟩
  ·cases hx;exact⟨[],⟨_,_,rfl,⟨none,0,rfl,Qaq _,rfl,λh=>absurd h (Qce 0)⟩,rfl⟩,rfl,by simp[bulkD]⟩
  ·rw[hz] at h1;have each:∀ i,i<len->∃ ci d q,w.cells? base (a.add (i * z)) z=some ci/\DataW.trod enc P w base sp held n e ci=some (d,q)/\elems[i]? = some (d,q):=λi hi=>by
    have:=h1 i hi;rw[Qav (by omega)] at this;obtain⟨ci,e1,e2⟩:=Option.bind_eq_some_iff.1 this;exact⟨ci,elems[i].1,elems[i].2,e1,e2,Qav (by omega)⟩
   have all:∀ m,m<=len->∃ xs:List α,xs.length=m/\(xs.map sz).sum<=bulkDs ((elems.take m).map (·.1))/\∀ i (hi:i<xs.length),∃ ci,w.cells? base (a.add (i * z)) z=some ci/\VRs (frW w) (en xs[i]) ci/\(en xs[i]).all AV.cell=true:=by
    intro m;induction m with
    |zero=>exact λ_=>⟨[],rfl,by simp[bulkDs],λi hi=>by simp at hi⟩
    |succ m ih=>
     intro hm;obtain⟨xs,e1,e2,e3⟩:=ih (by omega);obtain⟨ci,d,q,f1,f2,f3⟩:=each m (by omega);obtain⟨x,g1,g2,g3⟩:=hr enc base sp held n ci d q (by omega) f2;have app:∀ (l r:List (DataW H)),bulkDs (l ++ r)=bulkDs l+bulkDs r:=λl r=>by
      induction l with
      |nil=>simp[bulkDs]
      |cons y l ih=>rw[Qaw,bulkDs,bulkDs,ih,QbK]
     refine⟨xs ++ [x],by simp[e1],?_,λi hi=>?_⟩
     ·rw[Qci,f3];simp only[Option.toList,QbQ,Qai,Qal,List.sum_append,List.sum_cons,List.sum_nil,app,bulkDs];omega
     ·by_cases hlt:i<xs.length
      ·rw[List.getElem_append_left hlt];exact e3 i hlt
      ·have:i=m:=by simp at hi;omega
       subst this;rw[List.getElem_append_right (by omega)];simp only[e1,Nat.sub_self,Qbx];exact⟨ci,f1,g1,g2⟩
   obtain⟨xs,e1,e2,e3⟩:=all len (Qaq _);have hcell:(fl en xs).all AV.cell=true:=by
    rw[Qax];intro v hv;obtain⟨y,hy,hv⟩:=List.mem_flatMap.1 hv;obtain⟨i,hi,rfl⟩:=QbI.1 hy;obtain⟨_,_,_,h5⟩:=e3 i hi;exact Qax.1 h5 v hv
   refine⟨xs,⟨_,_,rfl,?_,rfl⟩,rfl,?_⟩
   ·refine⟨some a,cap,by rw[e1],by omega,hcell,λhpos=>?_⟩;obtain⟨c0,f0,_,_⟩:=e3 0 hpos;have f1:=(jcH f0).2 0 hz0;rw[Qbv] at f1;have z0:(a.add 0).add 0=a:=rfl;rw[z0] at f1;obtain⟨hs,c,ty,fr,hB,_⟩:=jep f1;obtain⟨B,o,s⟩:=a;dsimp only at hs hB;subst hs;have cell:∀ i (hi:i<xs.length) j,j<z->∃ v,c[o+(i * z+j)]? = some v/\VR (frW w) ((en xs[i]).getD j .bad) v:=λi hi j hj=>by
     obtain⟨ci,g0,g1,g2⟩:=e3 i hi;have g3:=(jcH g0).2 j hj;rw[jc0,jc0] at g3;obtain⟨_,c',ty',fr',hB',g4⟩:=jep g3;dsimp only at hB' g4;rw[hB] at hB';cases hB';refine⟨_,by rw[<-QbK];exact g4,?_⟩;exact g1.get j (by rw[hl];exact hj)
    have bound:o+xs.length * z<=c.size:=by
     have hl1:0<xs.length:=hpos;obtain⟨v,g,_⟩:=cell (xs.length - 1) (by omega) (z - 1) (by omega);have:=(QaA.1 g).1;have e:(xs.length - 1) * z+(z - 1)+1=xs.length * z:=by
      have:(xs.length - 1+1) * z=(xs.length - 1) * z+z:=Qbw _ _;rw[show xs.length - 1+1=xs.length by omega] at this;omega
     omega
    have hfl:=JX hl xs;have hcs:c.toList.length=c.size:=Qaz;refine⟨B,o,c.toList,rfl,jp6 hB,by rw[hfl,hcs];exact bound,?_⟩;show VRs (frW w) _ _;refine VRs.of_get (by rw[hfl,QaK,QaS,hcs];omega) λi hi=>?_;rw[hfl] at hi;have hj:i % z<z:=Nat.mod_lt _ hz0;have hq:i / z<xs.length:=Nat.div_lt_of_lt_mul (by rw[Nat.mul_comm];exact hi);have hiz:i / z * z+i % z=i:=by rw[Nat.mul_comm];exact Nat.div_add_mod i z
    obtain⟨v,g1,g2⟩:=cell (i / z) hq (i % z) hj;rw[hiz] at g1;have g3:=vF hl hq hj;rw[hiz] at g3;rw[g3];have g4:((c.toList.drop o).take (fl en xs).length).getD i undef=v:=by
     rw[hfl];simp only[QaO,QbO,hi,if_true,Qcf,QbF,g1,Qbd]
    rw[g4];exact g2
   ·cases hx;rw[bulkD];have:elems.take len=elems:=by rw[<-hel];exact QaE
    rw[this] at e2;show(xs.map sz).sum+1<=bulkDs (elems.map (·.1))+bulkDs (rest.map (·.1))+1;omega⟩
theorem Reads.mono {N M:Nat}{α:Type}{t:TypeId}{z:Nat}{en:α->List AV}{sz:α->Nat}(R:Reads H P w N t z en sz)(h:M<=N):Reads H P w M t z en sz:=
 ⟨R.1,R.2.1,λenc base sp held fuel cs d ps hN=>R.2.2 enc base sp held fuel cs d ps (by omega)⟩
theorem qM {ι:Inj}{a b:List AV}{cs:List Value}{o z:Nat}(h1:VRs ι a ((cs.drop o).take z))(h2:VRs ι b (cs.drop (o+z))):VRs ι (a ++ b) (cs.drop o):=by
 have:=VRs.append h1 h2;rwa [<-QbZ,Qbp] at this
theorem Zs {ι:Inj}{cs:List Value}{o:Nat}(h:cs.length=o):VRs ι [] (cs.drop o):=by
 rw[List.drop_eq_nil_of_le (by omega)];rfl
end
end Go.Sy
end
noncomputable section
set_option maxRecDepth 100000
namespace Go.Sy
open Go.Ev Go.RowKit Go.Proofs
variable {H:Type} {w:World}
theorem ce2:Tryz.prog.cellsOf 2=1:=by kernel_rfl
theorem ce3:Tryz.prog.cellsOf 3=1:=by kernel_rfl
theorem ce9:Tryz.prog.cellsOf 9=1:=by kernel_rfl
theorem jqF:Tryz.prog.cellsOf 23=1:=by kernel_rfl
theorem jqE:Tryz.prog.cellsOf 24=1:=by kernel_rfl
theorem jqD:Tryz.prog.cellsOf 25=1:=by kernel_rfl
theorem jqC:Tryz.prog.cellsOf 27=3:=by kernel_rfl
theorem jf7:Tryz.prog.cellsOf 35=1:=by kernel_rfl
theorem jcJ:Tryz.prog.cellsOf 37=6:=by kernel_rfl
theorem jqB:Tryz.prog.cellsOf 58=7:=by kernel_rfl
theorem jqA:Tryz.prog.cellsOf 91=1:=by kernel_rfl
theorem jqz:Tryz.prog.cellsOf 93=4:=by kernel_rfl
theorem jqy:Tryz.prog.cellsOf 96=1:=by kernel_rfl
theorem jqx:Tryz.prog.cellsOf 98=4:=by kernel_rfl
theorem jmy:Tryz.prog.cellsOf 101=1:=by kernel_rfl
theorem jmx:Tryz.prog.cellsOf 103=7:=by kernel_rfl
theorem jmw:Tryz.prog.cellsOf 105=9:=by kernel_rfl
theorem Gg (x:Ex):1<=szE x:=by rw[Y8];omega
theorem Qk:∀ xs:List Ex,(xs.map szE).sum=yp xs
 |[]=>rfl
 |x :: xs=>by rw[Qai,List.sum_cons,Qk xs];rfl
def szA (a:AsT):Nat:=a.name.length+szE a.to+1
def szR (r:RuleT):Nat:=szE r.when+(r.acts.map szA).sum+1
def szP (p:ProcT):Nat:=p.name.length+(p.rules.map szR).sum+1
def szV (v:List Nat):Nat:=v.length+1
def szN (e:EnumT):Nat:=e.name.length+(e.vals.map szV).sum+1
def szD (d:DeclT):Nat:=d.name.length+d.ty.length+yp d.begins+1
def szS (m:SrcT):Nat:=(m.enums.map szN).sum+(m.vars.map szD).sum+(m.procs.map szP).sum+1
theorem rd_ex:∀ N:Nat,Reads H Qaf w N 37 6 eE szE
 |0=>⟨jcJ,Jw,λenc base sp held fuel cs d ps hN h=>by
  have:fuel=0:=by omega
  subst this;simp[DataW.trod] at h⟩
 |N+1=>⟨jcJ,Jw,λenc base sp held fuel cs d ps hN h=>by
  obtain⟨xs,n,rfl,hx,hl,hlen,hf⟩:=DataW.trod_struct Tryz.underlying37 h;cases hx;rw[jcJ] at hl
  match xs,hlen with
  |[y0,y1,y2,y3,y4,y5],_=>
   have h0:DataW.trod enc Qaf w base sp held n 3 ((cs.drop 0).take (Tryz.prog.cellsOf 3))=some y0:=hf 0 _ rfl;rw[ce3] at h0;obtain⟨x0,v0,c0,s0⟩:=(Qg (N:=n) Tryz.underlying3 ce3).2.2 enc base sp held n _ y0.1 y0.2 (by omega) h0;have h1:DataW.trod enc Qaf w base sp held n 2 ((cs.drop 1).take (Tryz.prog.cellsOf 2))=some y1:=hf 1 _ rfl;rw[ce2] at h1;obtain⟨x1,v1,c1,s1⟩:=(Qg (N:=n) Tryz.underlying2 ce2).2.2 enc base sp held n _ y1.1 y1.2 (by omega) h1;have h2:DataW.trod enc Qaf w base sp held n 9 ((cs.drop 2).take (Tryz.prog.cellsOf 9))=some y2:=hf 2 _ rfl;rw[ce9] at h2;obtain⟨x2,v2,c2,s2⟩:=(vo (N:=n) Tryz.underlying9 ce9).2.2 enc base sp held n _ y2.1 y2.2 (by omega) h2;have h3:DataW.trod enc Qaf w base sp held n 35 ((cs.drop 3).take (Tryz.prog.cellsOf 35))=some y3:=hf 3 _ rfl;rw[jf7] at h3;obtain⟨x3,v3,c3,s3⟩:=(Xl (by decide) Tryz.underlying35 jf7 ((rd_ex N).mono (M:=N) (Qaq _)) Gg).2.2 enc base sp held n _ y3.1 y3.2 (by omega) h3;have h4:DataW.trod enc Qaf w base sp held n 3 ((cs.drop 4).take (Tryz.prog.cellsOf 3))=some y4:=hf 4 _ rfl;rw[ce3] at h4;obtain⟨x4,v4,c4,s4⟩:=(Qg (N:=n) Tryz.underlying3 ce3).2.2 enc base sp held n _ y4.1 y4.2 (by omega) h4;have h5:DataW.trod enc Qaf w base sp held n 3 ((cs.drop 5).take (Tryz.prog.cellsOf 3))=some y5:=hf 5 _ rfl;rw[ce3] at h5;obtain⟨x5,v5,c5,s5⟩:=(Qg (N:=n) Tryz.underlying3 ce3).2.2 enc base sp held n _ y5.1 y5.2 (by omega) h5;refine⟨.mk x0.1 x1.1 x2 x3 x4.1 x5.1,?_,?_,?_⟩
   ·rw[qI];exact qM (z:=1) v0 (qM (z:=1) v1 (qM (z:=1) v2 (qM (z:=1) v3 (qM (z:=1) v4 (qM (z:=1) v5 (Zs (by rw[hl])))))))
   ·rw[qI];first|rfl|(simp_all [Qbi,AV.cell];done)|(simp[AV.cell];done)
   ·simp only[Qai,Qal,bulkD,bulkDs,Y8,Ex.kids,Ex.name];skip
    first|omega|(simp only[Qk] at *;omega)⟩
theorem jis:∀ xs:List (List Nat),fl (λs=>[AV.str s]) xs=xs.map AV.str
 |[]=>rfl
 |x :: xs=>by rw[X4,jis xs];rfl
theorem jm3 (N:Nat):Reads H Qaf w (N+1) 91 1 (λxs:List (List Nat)=>[.lst xs.length (xs.map AV.str)]) (λxs=>(xs.map szV).sum+1):=by
 have h:Reads H Qaf w (N+1) 91 1 (λxs:List (List Nat)=>[.lst xs.length (fl (λs=>[AV.str s]) xs)]) (λxs=>(xs.map szV).sum+1):=Xl (by decide) Tryz.underlying91 jqA (vo (N:=N) Tryz.underlying9 ce9) (λx=>Qbr _);simpa only[jis] using h
theorem jm6 (N:Nat):Reads H Qaf w N 93 4 enE szN:=
 ⟨jqz,Qq,λenc base sp held fuel cs d ps hN h=>by
  obtain⟨xs,n,rfl,hx,hl,hlen,hf⟩:=DataW.trod_struct Tryz.underlying93 h;cases hx;rw[jqz] at hl
  match xs,hlen with
  |[y0,y1,y2,y3],_=>
   have h0:DataW.trod enc Qaf w base sp held n 9 ((cs.drop 0).take (Tryz.prog.cellsOf 9))=some y0:=hf 0 _ rfl;rw[ce9] at h0;obtain⟨x0,v0,c0,s0⟩:=(vo (N:=n) Tryz.underlying9 ce9).2.2 enc base sp held n _ y0.1 y0.2 (by omega) h0;have h1:DataW.trod enc Qaf w base sp held n 91 ((cs.drop 1).take (Tryz.prog.cellsOf 91))=some y1:=hf 1 _ rfl;rw[jqA] at h1;obtain⟨x1,v1,c1,s1⟩:=(jm3 N).2.2 enc base sp held n _ y1.1 y1.2 (by omega) h1;have h2:DataW.trod enc Qaf w base sp held n 3 ((cs.drop 2).take (Tryz.prog.cellsOf 3))=some y2:=hf 2 _ rfl;rw[ce3] at h2;obtain⟨x2,v2,c2,s2⟩:=(Qg (N:=n) Tryz.underlying3 ce3).2.2 enc base sp held n _ y2.1 y2.2 (by omega) h2;have h3:DataW.trod enc Qaf w base sp held n 3 ((cs.drop 3).take (Tryz.prog.cellsOf 3))=some y3:=hf 3 _ rfl;rw[ce3] at h3;obtain⟨x3,v3,c3,s3⟩:=(Qg (N:=n) Tryz.underlying3 ce3).2.2 enc base sp held n _ y3.1 y3.2 (by omega) h3;refine⟨⟨x0,x1,x2.1,x3.1⟩,?_,?_,?_⟩
   ·rw[UZ];exact qM (z:=1) v0 (qM (z:=1) v1 (qM (z:=1) v2 (qM (z:=1) v3 (Zs (by rw[hl])))))
   ·rw[UZ];first|rfl|(simp_all [Qbi,AV.cell];done)|(simp[AV.cell];done)
   ·simp only[Qai,Qal,bulkD,bulkDs,szN];skip
    first|omega|(simp only[Qk] at *;omega)⟩
theorem jm7 (N:Nat):Reads H Qaf w N 58 7 qm szD:=
 ⟨jqB,Q5,λenc base sp held fuel cs d ps hN h=>by
  obtain⟨xs,n,rfl,hx,hl,hlen,hf⟩:=DataW.trod_struct Tryz.underlying58 h;cases hx;rw[jqB] at hl
  match xs,hlen with
  |[y0,y1,y2,y3,y4,y5,y6],_=>
   have h0:DataW.trod enc Qaf w base sp held n 9 ((cs.drop 0).take (Tryz.prog.cellsOf 9))=some y0:=hf 0 _ rfl;rw[ce9] at h0;obtain⟨x0,v0,c0,s0⟩:=(vo (N:=n) Tryz.underlying9 ce9).2.2 enc base sp held n _ y0.1 y0.2 (by omega) h0;have h1:DataW.trod enc Qaf w base sp held n 9 ((cs.drop 1).take (Tryz.prog.cellsOf 9))=some y1:=hf 1 _ rfl;rw[ce9] at h1;obtain⟨x1,v1,c1,s1⟩:=(vo (N:=n) Tryz.underlying9 ce9).2.2 enc base sp held n _ y1.1 y1.2 (by omega) h1;have h2:DataW.trod enc Qaf w base sp held n 2 ((cs.drop 2).take (Tryz.prog.cellsOf 2))=some y2:=hf 2 _ rfl;rw[ce2] at h2;obtain⟨x2,v2,c2,s2⟩:=(Qg (N:=n) Tryz.underlying2 ce2).2.2 enc base sp held n _ y2.1 y2.2 (by omega) h2;have h3:DataW.trod enc Qaf w base sp held n 2 ((cs.drop 3).take (Tryz.prog.cellsOf 2))=some y3:=hf 3 _ rfl;rw[ce2] at h3;obtain⟨x3,v3,c3,s3⟩:=(Qg (N:=n) Tryz.underlying2 ce2).2.2 enc base sp held n _ y3.1 y3.2 (by omega) h3;have h4:DataW.trod enc Qaf w base sp held n 35 ((cs.drop 4).take (Tryz.prog.cellsOf 35))=some y4:=hf 4 _ rfl;rw[jf7] at h4;obtain⟨x4,v4,c4,s4⟩:=(Xl (by decide) Tryz.underlying35 jf7 (rd_ex N) Gg).2.2 enc base sp held n _ y4.1 y4.2 (by omega) h4;have h5:DataW.trod enc Qaf w base sp held n 3 ((cs.drop 5).take (Tryz.prog.cellsOf 3))=some y5:=hf 5 _ rfl;rw[ce3] at h5;obtain⟨x5,v5,c5,s5⟩:=(Qg (N:=n) Tryz.underlying3 ce3).2.2 enc base sp held n _ y5.1 y5.2 (by omega) h5;have h6:DataW.trod enc Qaf w base sp held n 3 ((cs.drop 6).take (Tryz.prog.cellsOf 3))=some y6:=hf 6 _ rfl;rw[ce3] at h6;obtain⟨x6,v6,c6,s6⟩:=(Qg (N:=n) Tryz.underlying3 ce3).2.2 enc base sp held n _ y6.1 y6.2 (by omega) h6;refine⟨⟨x0,x1,x2.1,x3.1,x4,x5.1,x6.1⟩,?_,?_,?_⟩
   ·rw[vb];exact qM (z:=1) v0 (qM (z:=1) v1 (qM (z:=1) v2 (qM (z:=1) v3 (qM (z:=1) v4 (qM (z:=1) v5 (qM (z:=1) v6 (Zs (by rw[hl]))))))))
   ·rw[vb];first|rfl|(simp_all [Qbi,AV.cell];done)|(simp[AV.cell];done)
   ·simp only[Qai,Qal,bulkD,bulkDs,szD];skip
    first|omega|(simp only[Qk] at *;omega)⟩
theorem jrz (N:Nat):Reads H Qaf w N 105 9 asE szA:=
 ⟨jmw,ZW,λenc base sp held fuel cs d ps hN h=>by
  obtain⟨xs,n,rfl,hx,hl,hlen,hf⟩:=DataW.trod_struct Tryz.underlying105 h;cases hx;rw[jmw] at hl
  match xs,hlen with
  |[y0,y1,y2,y3],_=>
   have h0:DataW.trod enc Qaf w base sp held n 9 ((cs.drop 0).take (Tryz.prog.cellsOf 9))=some y0:=hf 0 _ rfl;rw[ce9] at h0;obtain⟨x0,v0,c0,s0⟩:=(vo (N:=n) Tryz.underlying9 ce9).2.2 enc base sp held n _ y0.1 y0.2 (by omega) h0;have h1:DataW.trod enc Qaf w base sp held n 37 ((cs.drop 1).take (Tryz.prog.cellsOf 37))=some y1:=hf 1 _ rfl;rw[jcJ] at h1;obtain⟨x1,v1,c1,s1⟩:=((rd_ex N)).2.2 enc base sp held n _ y1.1 y1.2 (by omega) h1;have h2:DataW.trod enc Qaf w base sp held n 3 ((cs.drop 7).take (Tryz.prog.cellsOf 3))=some y2:=hf 2 _ rfl;rw[ce3] at h2;obtain⟨x2,v2,c2,s2⟩:=(Qg (N:=n) Tryz.underlying3 ce3).2.2 enc base sp held n _ y2.1 y2.2 (by omega) h2;have h3:DataW.trod enc Qaf w base sp held n 3 ((cs.drop 8).take (Tryz.prog.cellsOf 3))=some y3:=hf 3 _ rfl;rw[ce3] at h3;obtain⟨x3,v3,c3,s3⟩:=(Qg (N:=n) Tryz.underlying3 ce3).2.2 enc base sp held n _ y3.1 y3.2 (by omega) h3;refine⟨⟨x0,x1,x2.1,x3.1⟩,?_,?_,?_⟩
   ·rw[asE];exact qM (z:=1) v0 (qM (z:=6) v1 (qM (z:=1) v2 (qM (z:=1) v3 (Zs (by rw[hl])))))
   ·rw[asE];first|rfl|(simp_all [Qbi,AV.cell];done)|(simp[AV.cell];done)
   ·simp only[Qai,Qal,bulkD,bulkDs,szA];skip
    first|omega|(simp only[Qk] at *;omega)⟩
theorem jm4 (N:Nat):Reads H Qaf w N 103 7 ruE szR:=
 ⟨jmx,wy,λenc base sp held fuel cs d ps hN h=>by
  obtain⟨xs,n,rfl,hx,hl,hlen,hf⟩:=DataW.trod_struct Tryz.underlying103 h;cases hx;rw[jmx] at hl
  match xs,hlen with
  |[y0,y1],_=>
   have h0:DataW.trod enc Qaf w base sp held n 37 ((cs.drop 0).take (Tryz.prog.cellsOf 37))=some y0:=hf 0 _ rfl;rw[jcJ] at h0;obtain⟨x0,v0,c0,s0⟩:=((rd_ex N)).2.2 enc base sp held n _ y0.1 y0.2 (by omega) h0;have h1:DataW.trod enc Qaf w base sp held n 101 ((cs.drop 6).take (Tryz.prog.cellsOf 101))=some y1:=hf 1 _ rfl;rw[jmy] at h1;obtain⟨x1,v1,c1,s1⟩:=(Xl (by decide) Tryz.underlying101 jmy (jrz N) (λx=>Qbr _)).2.2 enc base sp held n _ y1.1 y1.2 (by omega) h1;refine⟨⟨x0,x1⟩,?_,?_,?_⟩
   ·rw[ruE];exact qM (z:=6) v0 (qM (z:=1) v1 (Zs (by rw[hl])))
   ·rw[ruE];first|rfl|(simp_all [Qbi,AV.cell];done)|(simp[AV.cell];done)
   ·simp only[Qai,Qal,bulkD,bulkDs,szR];skip
    first|omega|(simp only[Qk] at *;omega)⟩
theorem jm5 (N:Nat):Reads H Qaf w N 98 4 prE szP:=
 ⟨jqx,vZ,λenc base sp held fuel cs d ps hN h=>by
  obtain⟨xs,n,rfl,hx,hl,hlen,hf⟩:=DataW.trod_struct Tryz.underlying98 h;cases hx;rw[jqx] at hl
  match xs,hlen with
  |[y0,y1,y2,y3],_=>
   have h0:DataW.trod enc Qaf w base sp held n 9 ((cs.drop 0).take (Tryz.prog.cellsOf 9))=some y0:=hf 0 _ rfl;rw[ce9] at h0;obtain⟨x0,v0,c0,s0⟩:=(vo (N:=n) Tryz.underlying9 ce9).2.2 enc base sp held n _ y0.1 y0.2 (by omega) h0;have h1:DataW.trod enc Qaf w base sp held n 96 ((cs.drop 1).take (Tryz.prog.cellsOf 96))=some y1:=hf 1 _ rfl;rw[jqy] at h1;obtain⟨x1,v1,c1,s1⟩:=(Xl (by decide) Tryz.underlying96 jqy (jm4 N) (λx=>Qbr _)).2.2 enc base sp held n _ y1.1 y1.2 (by omega) h1;have h2:DataW.trod enc Qaf w base sp held n 3 ((cs.drop 2).take (Tryz.prog.cellsOf 3))=some y2:=hf 2 _ rfl;rw[ce3] at h2;obtain⟨x2,v2,c2,s2⟩:=(Qg (N:=n) Tryz.underlying3 ce3).2.2 enc base sp held n _ y2.1 y2.2 (by omega) h2;have h3:DataW.trod enc Qaf w base sp held n 3 ((cs.drop 3).take (Tryz.prog.cellsOf 3))=some y3:=hf 3 _ rfl;rw[ce3] at h3;obtain⟨x3,v3,c3,s3⟩:=(Qg (N:=n) Tryz.underlying3 ce3).2.2 enc base sp held n _ y3.1 y3.2 (by omega) h3;refine⟨⟨x0,x1,x2.1,x3.1⟩,?_,?_,?_⟩
   ·rw[UC];exact qM (z:=1) v0 (qM (z:=1) v1 (qM (z:=1) v2 (qM (z:=1) v3 (Zs (by rw[hl])))))
   ·rw[UC];first|rfl|(simp_all [Qbi,AV.cell];done)|(simp[AV.cell];done)
   ·simp only[Qai,Qal,bulkD,bulkDs,szP];skip
    first|omega|(simp only[Qk] at *;omega)⟩
theorem rd_src (N:Nat):Reads H Qaf w N 27 3 srE szS:=
 ⟨jqC,wt,λenc base sp held fuel cs d ps hN h=>by
  obtain⟨xs,n,rfl,hx,hl,hlen,hf⟩:=DataW.trod_struct Tryz.underlying27 h;cases hx;rw[jqC] at hl
  match xs,hlen with
  |[y0,y1,y2],_=>
   have h0:DataW.trod enc Qaf w base sp held n 23 ((cs.drop 0).take (Tryz.prog.cellsOf 23))=some y0:=hf 0 _ rfl;rw[jqF] at h0;obtain⟨x0,v0,c0,s0⟩:=(Xl (by decide) Tryz.underlying23 jqF (jm6 N) (λx=>Qbr _)).2.2 enc base sp held n _ y0.1 y0.2 (by omega) h0;have h1:DataW.trod enc Qaf w base sp held n 24 ((cs.drop 1).take (Tryz.prog.cellsOf 24))=some y1:=hf 1 _ rfl;rw[jqE] at h1;obtain⟨x1,v1,c1,s1⟩:=(Xl (by decide) Tryz.underlying24 jqE (jm7 N) (λx=>Qbr _)).2.2 enc base sp held n _ y1.1 y1.2 (by omega) h1;have h2:DataW.trod enc Qaf w base sp held n 25 ((cs.drop 2).take (Tryz.prog.cellsOf 25))=some y2:=hf 2 _ rfl;rw[jqD] at h2;obtain⟨x2,v2,c2,s2⟩:=(Xl (by decide) Tryz.underlying25 jqD (jm5 N) (λx=>Qbr _)).2.2 enc base sp held n _ y2.1 y2.2 (by omega) h2;refine⟨⟨x0,x1,x2⟩,?_,?_,?_⟩
   ·rw[Uu];exact qM (z:=1) v0 (qM (z:=1) v1 (qM (z:=1) v2 (Zs (by rw[hl]))))
   ·rw[Uu];first|rfl|(simp_all [Qbi,AV.cell];done)|(simp[AV.cell];done)
   ·simp only[Qai,Qal,bulkD,bulkDs,szS];skip
    first|omega|(simp only[Qk] at *;omega)⟩
end Go.Sy
end
noncomputable section
set_option maxRecDepth 100000
namespace Go.Sy
open Go.Ev Go.Proofs
def z24:XC:=(TD [La 4 [.nils,.nils,.nils],Em 5,La 6 [TI,TI,TI]] (Lb [LQ 13,Pw 14 9 13,TH 12 14,Ly 15 12 0,Ly 16 12 1,La 7 [.nils,.nils,.nils],La 8 [TI,TI,TI],T9 3 7 15,T9 3 8 16] (Lm [PC 17 8,TO 18 17,EQ 19 .neq 18] 19 (Pz [LO (LD 20 [.nils,.nils,.nils] []),LO (LD 21 (PK TI TI TN TI TI) []),EI (T4 22 3 8) 8 30,EM 3 4 20 [(0,30)],EM 6 5 21 [(1,30)],EM 3 6 22 []] .ret)) (Lb [T4 24 3 7,Pw 25 26 24,TH 23 25,Ly 26 23 0,Ly 27 23 1,La 9 [.nils,.nils,.nils],T9 3 9 26,T9 3 8 27] (Lm [PC 28 8,TO 29 28,EQ 30 .neq 29] 30 (Pz [LO (LD 31 [.nils,.nils,.nils] []),LO (LD 32 (PK TI TI TN TI TI) []),EI (T4 33 3 8) 8 30,EM 3 4 31 [(0,30)],EM 6 5 32 [(1,30)],EM 3 6 33 []] .ret)) (Lb [TH 35 1,Pw 36 15 35,TH 34 36,Ly 37 34 0,Ly 38 34 1,Em 10,EJ 10 37,T9 3 8 38] (Lm [PC 39 8,TO 40 39,EQ 41 .neq 40] 41 (Pz [LO (LD 42 [.nils,.nils,.nils] []),LO (LD 43 (PK TI TI TN TI TI) []),EI (T4 44 3 8) 8 30,EM 3 4 42 [(0,30)],EM 6 5 43 [(1,30)],EM 3 6 44 []] .ret)) (Lb [T4 46 3 9,PT 47 10,PZ 48 25 46 47,TH 45 48,Ly 49 45 0,Ly 50 45 1,Em 11,EJ 11 49,T9 3 8 50] (Lm [PC 51 8,TO 52 51,EQ 53 .neq 52] 53 (Pz [LO (LD 54 [.nils,.nils,.nils] []),LO (LD 55 (PK TI TI TN TI TI) []),EI (T4 56 3 8) 8 30,EM 3 4 54 [(0,30)],EM 6 5 55 [(1,30)],EM 3 6 56 []] .ret)) (Pz [EI (T4 57 3 9) 9 51,EI (PT 58 11) 11 37,EI (T4 59 3 8) 8 30,EM 3 4 57 [(0,30),(1,37)],EM 6 5 58 [(1,30)],EM 3 6 59 []] .ret))))))
def y24:XF:=⟨[0,1],z24,[(.cA 4 3),(.cA 5 6),(.cA 6 3)]⟩
theorem x24:jE Qaf 24=some y24:=by kernel_rfl
def z25:XC:=(Ep [LV 2 0,LV 3 1,Em 4,La 5 [TI,TI,TI]] [T7 (.defer (TY 59 []) [5])] (Lb [T4 7 3 2,LD 8 [.nils,.nils,.nils,.nilm,.bool false] [((0,3),7),((4,1),Ls)],TB 9 (.box 8),TG 6 9] (.dops [LO (TH 10 6),EI (PT 11 3) 3 37,(LH (Lt 12 60 [10,11,LR 2,.c TN]) 0 [],some [Eb 12 0,Ll (T4 13 3 5) 5 30 [(0,0)],Lj (T7 (.i (.mv Pg))) 0,Lj (T7 (.i (.mv Pg))) 0]),LK (T4 13 3 5) 5 30 [(0,0)],EM 6 4 12 [(0,30)],EM 3 5 13 []]) .ret))
def y25:XF:=⟨[0,1],z25,[(.cA 4 6),(.cA 5 3)]⟩
theorem x25:jE Qaf 25=some y25:=by kernel_rfl
def jeL:XC:=(Pz [LO (EA 65),LO (LL 66 65),LU 67 0 66,EI (T4 68 3 67) 67 51,EI (T4 69 3 3) 3 30,EM 3 2 68 [(0,30)],EM 3 3 69 []] .ret)
def jeM:XC:=(Es [TK 38 2 1,Pa 39 38,LW 40 39,Pb 41] 4 (EN 42 41 40) 42 4 5 [Lu 43 4 39 41,T4 44 4 43,La 10 [TN,.nils,TI,TI],T9 4 10 44] (TD [EA 45,PC 46 10,TO 47 46,TK 48 2 10,TO 49 48,Ew 50 10,TO 51 50,Lt 52 63 [45,47,49,51]] (EO [P6 53 10,Pa 54 53,LW 55 54,Pb 56] 6 57 56 55 57 6 7 [Lu 58 7 54 56,T4 59 7 58,La 12 [TI,TI,TN,.nils,TI,TI,.nils],T9 7 12 59] (.ops [EA 60,T4 61 7 12,PZ 62 64 60 61]) 63 56 1 56 63)) 64 41 1 41 64 jeL)
def jeN:XC:=(Es [P6 27 1,Pa 28 27,LW 29 28,Pb 30] 2 (EN 31 30 29) 31 2 3 [Lu 32 7 28 30,T4 33 7 32,La 8 [TN,TN,TI,TI,.nils,TI,TI],T9 7 8 33] (.ops [EA 34,T4 35 7 8,PZ 36 62 34 35]) 37 30 1 30 37 jeM)
def jeO:XC:=(Es [PC 16 1,Pa 17 16,LW 18 17,Pb 19] 0 (EN 20 19 18) 20 0 1 [Lu 21 4 17 19,T4 22 4 21,La 6 [TN,.nils,TI,TI],T9 4 6 22] (.ops [EA 23,T4 24 4 6,PZ 25 61 23 24]) 26 19 1 19 26 jeN)
def z26:XC:=(TD [LV 1 0,La 2 [.nils,.nils,.nils],La 3 [TI,TI,TI]] (Ep [T7 (.defer (TY 59 []) [3])] [TB 13 .mkMap,LD 14 [.nils,.nils,.nils,.nilm,.bool false] [((3,1),13)],TB 15 (.box 14),EB 15] jeO))
def y26:XF:=⟨[0],z26,[(.cA 2 3),(.cA 3 3)]⟩
theorem x26:jE Qaf 26=some y26:=by kernel_rfl
def z33:XC:=(TD [LV 1 0,Pb 2] (P3 [Lk 3 (.int .u64 1)] (EO [PC 6 1,Pa 7 6,LW 8 7,Pb 9] 0 10 9 8 10 0 1 [Lu 11 7 7 9,T4 12 7 11,La 5 [TN,TI,TN,TI,TI,.bool false,TI],T9 7 5 12] (.ops [TH 13 3,TK 14 4 5,TO 15 14,TB 16 (.cvt .u64 15),Ew 17 5,TO 18 17,TB 19 (.cvt .u64 18),Pq 20 .sub 16 19,TB 21 (Eu .add 20 .u64 1),Pq 22 .mul 13 21,TG 3 22]) 23 9 1 9 23) [TH 24 3,TB 25 (.cvt .i64 24),P7 25]))
def y33:XF:=⟨[0],z33,[(.t 2)]⟩
theorem x33:jE Qaf 33=some y33:=by kernel_rfl
def z60:XC:=(TD [LV 5 1,Em 8] (P3 [LQ 12,PT 13 5,PZ 14 97 12 13,TH 11 14,Ly 15 11 0,Ly 16 11 1,Em 9,La 10 [TI,TN,TI,TI],EJ 9 15,T9 4 10 16] (PU [PC 17 10,TO 18 17,TH 19 2,Pq 20 .neq 18 19,TH 21 20,LG 22 21 1 10,LI 23 21 22,Ph 24 21 3,Li 25 21 (.strb .neq 23 24),L6 26 21 Ls 25] 26 [TK 27 4 5,TO 28 27,TK 29 5 5,TO 30 29,Lt 31 98 [LR 163,28,30]]) [PT 32 9,EJ 8 32]))
def y60:XF:=⟨[0,1,2,3],z60,[(.cA 8 6)]⟩
theorem x60:jE Qaf 60=some y60:=by kernel_rfl
def z61:XC:=(TD [LV 3 1] (Lb [LQ 6,PC 7 3,TO 8 7,TK 9 2 3,TO 10 9,Ew 11 3,TO 12 11,Lt 13 63 [6,8,10,12]] (EO [P6 14 3,Pa 15 14,LW 16 15,Pb 17] 0 18 17 16 18 0 1 [Lu 19 1 15 17,TO 20 19,TG 5 20] (.ops [LQ 21,TH 22 5,TK 23 2 3,TO 24 23,Ew 25 3,TO 26 25,Lt 27 63 [21,22,24,26]]) 28 17 1 17 28) (.dops [LO (LQ 29),LO (LQ 30),LO (LL 31 30),LU 32 0 31,LU 33 1 32,Ey 34 33 33 23,LU 35 0 3,Ey 36 35 35 9,LU 37 1 3,Ey 38 37 37 91,(Ez 39 99 38 0 [(2,9),(4,23)],some [Eb 39 0,Lj (TK 40 2 3) 0,Ll (TO 41 40) 40 3 [(1,0)],Lj (Ew 42 3) 0,Ll (TO 43 42) 42 3 [(3,0)],Eb 44 0,Eb 45 0,Eb 46 0,Eb 47 0,Eb 48 0,Eb 49 0,Lj (T7 (.i (.mv Pg))) 0]),LU 40 2 3,Pi 41 40 40 3 [(1,0)],LU 42 3 3,Pi 43 42 42 3 [(3,0)],LO (LD 44 [TN,.nils,TI,TI] [((0,1),36),((1,1),39),((2,1),41),((3,1),43)]),LO (LJ 45 1 4 [TN,.nils,TI,TI] [((0,4),44)]),L8 (ES 46 4 56 34 45) 0 [],LO (LL 47 29),LU 48 0 47,LU 49 1 48,EM 1 49 46 []])))
def y61:XF:=⟨[0,1],z61,[]⟩
theorem x61:jE Qaf 61=some y61:=by kernel_rfl
def jeJ:XC:=(.seq (.cops [EW 139,EW 140,LB (LL 141 140),LB (PC 142 141),LB (PC 143 142),P4 144 143,LB (T4 145 7 4),LB (LJ 146 1 7 [TN,TI,TN,TI,TI,.bool false,TI] [((0,7),145)]),LB (ES 147 7 72 144 146),LB (LL 148 139),LB (PC 149 148),LB (PC 150 149),LB (T9 1 150 147)]) (PU [LQ 151,LL 152 151,PC 153 152,T4 154 3 153,Pw 155 33 154,P5 156 .gtr 155 281474976710656] 156 [TK 157 5 3,TO 158 157,TK 159 6 3,TO 160 159,Lt 161 98 [LR 165,158,160]]))
def ja3:XC:=(Es [TK 92 4 3,Pa 93 92,LW 94 93,Pb 95] 1 (EN 96 95 94) 96 1 2 [Lu 97 6 93 95,PT 98 97,Em 7,EJ 7 98] (Lb [LQ 99,PT 100 7,P6 101 4,TO 102 101,TK 103 2 4,TO 104 103,Lt 105 60 [99,100,102,104],Em 8,EJ 8 105] (TD [PT 107 8,Pw 108 102 107,TH 106 108,Ly 109 106 0,Ly 110 106 1,Em 9,EJ 9 109,TG 10 110] (PU [TG 111 10] 111 [TK 112 4 9,TO 113 112,TK 114 5 9,TO 115 114,Lt 116 98 [LR 161,113,115]])) (TD [PT 117 8,Pw 118 103 117,TK 119 5 4,T9 1 119 Ls,TK 120 6 4,T9 1 120 118] (PU [TK 121 6 4,TO 122 121,Ew 123 4,TO 124 123,TB 125 (LP 122 124),TH 126 125,LG 127 126 6 4,LI 128 126 127,LG 129 126 4 4,LI 130 126 129,Eo 131 126 .gtr 128 130,L6 132 126 Ls 131] 132 [TK 133 4 7,TO 134 133,TK 135 5 7,TO 136 135,Lt 137 98 [LR 164,134,136]]))) 138 95 1 95 138 jeJ)
def z62:XC:=(TD [LV 3 1] (Ep [LQ 11,PC 12 3,TO 13 12,TK 14 5 3,TO 15 14,TK 16 6 3,TO 17 16,Lt 18 63 [11,13,15,17]] [PC 19 3,TO 20 19,TK 21 2 3,TO 22 21,Ew 23 3,TO 24 23,LD 25 [TN,TI,TN,TI,TI,.bool false,TI] [((0,1),20),((1,1),Ed),((3,1),22),((4,1),24)],La 4 [TN,TI,TN,TI,TI,.bool false,TI],T9 7 4 25] (Lb [LQ 26,LL 27 26,PC 28 27,P6 29 28,TO 30 29,TB 31 (.fn 101 [3]),PZ 32 100 30 31,TG 5 32] (.block 0 (TW [P6 34 3,TO 35 34,EE 36 35 [98,111,111,108],TG 33 36] 33 (.ops [P6 37 4,T9 1 37 (LR 2),Ew 38 4,T9 1 38 PS,TK 39 4 4,T9 1 39 Ed]) (TW [TH 41 5,EU 42 .geq 41,TG 40 42] 40 (.dops [LU 43 1 3,Ey 44 43 43 9,LO (LQ 45),LO (LL 46 45),LU 47 0 46,LU 48 1 47,Ey 49 48 48 23,LO (TH 50 5),LO (Lu 51 4 49 50),LU 52 1 51,Ey 53 52 52 91,LO (PD 54 53),LO (Lo 55 .sub 54 1),LU 56 1 4,EM 1 56 (LR 3) [(3,91),(7,23),(12,9)],LU 57 2 4,EM 1 57 44 [(5,91),(9,23)],LU 58 3 4,EM 1 58 PS [(7,91),(11,23)],LU 59 4 4,EM 1 59 55 []]) (TW [P6 61 3,TO 62 61,LA 63 .neq 62 (.c TN),TG 60 63] 60 (.ops [TK 64 5 3,TO 65 64,TK 66 6 3,TO 67 66,Lt 68 98 [LR 161,65,67]]) (TW [TK 70 2 3,TO 71 70,Ew 72 3,TO 73 72,Pq 74 .gtr 71 73,TG 69 74] 69 (.ops [TK 75 5 3,TO 76 75,TK 77 6 3,TO 78 77,Lt 79 98 [LR 164,76,78]]) (PU [Ew 81 3,TO 82 81,TK 83 2 3,TO 84 83,Pq 85 .sub 82 84,Lo 86 .geq 85 1024,TG 80 86] 80 [TK 87 5 3,TO 88 87,TK 89 6 3,TO 90 89,Lt 91 98 [LR 165,88,90]])))))) ja3)))
def y62:XF:=⟨[0,1],z62,[]⟩
theorem x62:jE Qaf 62=some y62:=by kernel_rfl
def z63:XC:=(.seq (PU [LQ 8,LL 9 8,Ew 10 9,TO 11 10,TH 12 1,TB 13 (.look 114 11 12 false),EQ 14 .gtr 13] 14 [TH 15 2,TH 16 3,Lt 17 98 [LR 162,15,16]]) (.ops [LQ 18,LL 19 18,Ew 20 19,TO 21 20,TH 22 1,TB 23 (.look 114 21 22 false),LX 24 23 1,T7 (.i (.upd 114 21 22 24))]))
def y63:XF:=⟨[0,1,2,3],z63,[]⟩
theorem x63:jE Qaf 63=some y63:=by kernel_rfl
def jeH:XC:=(.cops [EW 73,EW 74,LB (LL 75 74),LB (PC 76 75),LB (TK 77 2 76),P4 78 77,LB (T4 79 7 4),LB (LJ 80 1 7 [TI,TI,TN,.nils,TI,TI,.nils] [((0,7),79)]),LB (ES 81 7 96 78 80),LB (LL 82 73),LB (PC 83 82),LB (TK 84 2 83),LB (T9 1 84 81)])
def jeI:XC:=(Es [TK 13 6 3,Pa 14 13,LW 15 14,Pb 16] 0 (EN 17 16 15) 17 0 1 [TH 18 16,Lu 19 9 14 16,T4 20 9 19,La 6 [TN,TI,TI,TN,.nils,TI,TI,TI,TI],TG 5 18,T9 9 6 20] (Lb [LQ 21,PC 22 6,TO 23 22,PZ 24 104 21 23,TG 7 24] (PU [TH 25 7,EQ 26 .lss 25] 26 [TK 27 7 6,TO 28 27,TK 29 8 6,TO 30 29,Lt 31 98 [LR 161,28,30]]) (.seq (PU [TK 32 6 3,TO 33 32,TH 34 5,TB 35 (.slS 9 33 none (some 34)),TB 36 (.fn 106 [6]),TQ 37 true none (TY 105 []) [35,36]] 37 [TK 38 7 6,TO 39 38,TK 40 8 6,TO 41 40,Lt 42 98 [LR 162,39,41]]) (.dops [LU 43 6 4,Ey 44 43 43 59,LO (TH 45 7),LO (LQ 46),LU 47 1 6,EI (PT 48 47) 47 37,LO (LQ 49),LO (LL 50 49),LU 51 0 50,LU 52 0 51,Ey 53 52 52 48,LO (TH 54 7),LO (Lu 55 7 53 54),LU 56 1 55,Ey 57 56 56 3,LO (LQ 58),LO (LL 59 58),LU 60 0 59,LU 61 0 60,Ey 62 61 61 48,LO (TH 63 7),LO (Lu 64 7 62 63),LU 65 2 64,Ey 66 65 65 9,(LH (Lt 67 60 [46,48,57,66]) 0 [(22,59)],PB),LO (LD 68 [TI,TI,TI,TN,.nils,TI,TI] [((0,1),45),((1,6),67)]),LO (LJ 69 1 7 [TI,TI,TI,TN,.nils,TI,TI] [((0,7),68)]),L8 (ES 70 7 80 44 69) 0 [],LU 71 6 4,EM 1 71 70 []]))) 72 16 1 16 72 jeH)
def z64:XC:=(Ep [LV 3 1] [LQ 8,PC 9 3,PT 10 9,Lt 11 60 [8,10,LR 2,.c TN],LD 12 [TI,TI,TN,.nils,TI,TI,.nils] [((0,6),11)],La 4 [TI,TI,TN,.nils,TI,TI,.nils],T9 7 4 12] jeI)
def y64:XF:=⟨[0,1],z64,[]⟩
theorem x64:jE Qaf 64=some y64:=by kernel_rfl
def jeC:XC:=(.seq (PU [TG 151 15] 151 [TK 152 4 3,TO 153 152,TK 154 5 3,TO 155 154,Lt 156 98 [LR 163,153,155]]) (.seq (LN [TH 157 14,P5 158 .neq 157 1] 158 [PT 159 6,TH 160 14,LD 161 [TI,TN,TI,TI] [((0,1),160),((3,1),Ed)],EJ 4 159,T9 4 5 161]) (P3 [PC 163 3,TO 164 163,TH 165 7,PZ 166 139 164 165,TH 162 166,Ly 167 162 0,Ly 168 162 1,TG 18 167,TG 19 168] (PU [TH 169 18,Lo 170 .lss 169 (-(99999999+1)),TH 171 170,Ph 172 171 19,Ee 173 171 .gtr 172 100000000,L6 174 171 Ls 173] 174 [TK 175 4 3,TO 176 175,TK 177 5 3,TO 178 177,Lt 179 98 [LR 165,176,178]]) [PT 180 6,TH 181 14,TH 182 18,TH 183 19,LD 184 [TI,TN,TI,TI] [((0,1),181),((2,1),182),((3,1),183)],EJ 4 180,T9 4 5 184])))
def ja1:XC:=(Es [TG 115 7,LW 116 115,Pb 117] 3 (EN 118 117 116) 118 3 4 [Lu 119 4 115 117,T4 120 4 119,La 17 [TI,TN,TI,TI],T9 4 17 120] (.cops [Ef 121 15,Ef 122 121,LB (Ph 123 122 13),LB (Li 124 122 (Eg .gtr 123)),LB (Ph 125 122 124),LB (P8 126 125 0 17),LB (P9 127 125 126),LB (PO 128 125 13),LB (L5 129 125 (.bin .neq 127 128)),LB (Li 130 122 (.pick 125 129 Ld)),LB (EG 131 122 130),Ef 132 131,LB (LG 133 132 0 17),LB (LI 134 132 133),LB (Ph 135 132 7),LB (Li 136 132 (.idxS 4 135 PS)),LB (LG 137 132 0 136),LB (LI 138 132 137),LB (Eo 139 132 .neq 134 138),LB (EG 140 132 139),Ef 141 140,LB (LG 142 141 1 17),LB (LI 143 141 142),LB (Ph 144 141 7),LB (Li 145 141 (.idxS 4 144 PS)),LB (LG 146 141 1 145),LB (LI 147 141 146),LB (Li 148 141 (.strb .neq 143 147)),LB (EG 149 141 148),LB (TG 15 149)]) 150 117 1 117 150 jeC)
def jeD:XC:=(TD [LQ 85,TH 86 8,LL 87 85,TK 88 4 87,T9 1 88 86] (Ep [PC 90 3,TO 91 90,Pw 92 137 91,TH 89 92,Ly 93 89 0,Ly 94 89 1,TG 13 93,TG 14 94] [TH 95 7,PD 96 95,EU 97 .eql 96,TH 98 97,Ph 99 98 7,PV 100 98 99,Ee 101 98 .gtr 100 2,EG 102 98 101,TH 103 102,LG 104 103 0 3,LI 105 103 104,PE 106 (Lh 103) 138 [] [105],Ph 107 103 106,PO 108 107 0,L5 109 107 (.nilc 108),P8 110 107 4 109,P9 111 107 110,L5 112 107 (L9 111),Li 113 103 (.pick 107 112 Ld),EG 114 103 113,TG 15 114] ja1))
def ja2:XC:=(Es [Ew 61 3,Pa 62 61,LW 63 62,Pb 64] 1 (EN 65 64 63) 65 1 2 [Lu 66 6 62 64,PT 67 66,Em 10,EJ 10 67] (Ep [LQ 69,PT 70 10,PZ 71 97 69 70,TH 68 71,Ly 72 68 0,Ly 73 68 1,Em 11,La 12 [TI,TN,TI,TI],EJ 11 72,T9 4 12 73] [Ew 74 6,TO 75 74,PT 76 11,LJ 77 1 6 (PK TI TI TN TI TI) [((0,6),76)],ES 78 6 72 75 77,Ew 79 6,T9 1 79 78] (.ops [TH 80 7,T4 81 4 12,LJ 82 1 4 [TI,TN,TI,TI] [((0,4),81)],ES 83 4 40 80 82,TG 7 83])) 84 64 1 64 84 jeD)
def jeE:XC:=(TD [PT 41 3,Em 6,EJ 6 41] (Ep [Ew 42 6,T9 1 42 (.c .nils)] [Lk 7 .nils] (Ep [LQ 43,LL 44 43,TK 45 4 44,TO 46 45,TG 8 46] [LQ 47,TH 48 8,TH 49 48,P8 50 49 0 3,P9 51 49 50,L5 52 49 (Lf .neq 51 17),LE 53 49 52 Ld,TH 54 53,P8 55 54 0 3,P9 56 54 55,L5 57 54 (Lf .neq 56 18),LE 58 54 57 Ld,LL 59 47,TK 60 4 59,T9 1 60 58] ja2)))
def Z8:XC:=(.seq (TD [PC 20 3,Pa 21 20] (.block 0 (EH 23 21 1 22 23 22 (Pz [EI (PT 24 3) 3 37,LU 25 1 3,Ey 26 25 25 2,LU 27 1 3,Ey 28 27 27 2,LO (LD 29 [TI,TN,TI,TI] [((0,1),Ed),((2,1),26),((3,1),28)]),EM 6 4 24 [(1,2),(3,2)],EM 4 5 29 []] .ret) (EV 31 21 2 30 31 30 [PT 32 3,LD 33 [TI,TN,TI,TI] [((0,1),LR 2),((3,1),Ed)],EJ 4 32,T9 4 5 33] (LN (LZ (Px 35 21 3) 34 35) 34 [LQ 36,PT 37 3,PZ 38 136 36 37,Ly 39 38 0,Ly 40 38 1,EJ 4 39,T9 4 5 40]))))) jeE)
def z97:XC:=(TD [LV 3 1,Em 4,La 5 [TI,TN,TI,TI]] Z8)
def y97:XF:=⟨[0,1],z97,[(.cA 4 6),(.cA 5 4)]⟩
theorem x97:jE Qaf 97=some y97:=by kernel_rfl
def z98:XC:=(.ops [LQ 6,TH 7 1,TH 8 2,LD 9 [TI,TI,TI] [((0,1),6),((1,1),7),((2,1),8)],TB 10 (.iface 30 9),T7 (.pan 10)])
def y98:XF:=⟨[0,1,2],z98,[]⟩
theorem x98:jE Qaf 98=some y98:=by kernel_rfl
def z99:XC:=(Pv [Lk 2 .nils] [LQ 3,TF 4 (.gen .eql 91 true 3 (.c .nils))] 4 [Lk 2 .nils] (Lg [LJ 5 0 1 [TN] [],LQ 6,ES 7 1 16 5 6,P7 7]))
def y99:XF:=⟨[0],z99,[(.t 2)]⟩
theorem x99:jE Qaf 99=some y99:=by kernel_rfl
def jjZ:XC:=(P3 [Pb 4] (EO [LQ 6,LW 7 6,Pb 8] 0 9 8 7 9 0 1 (EC 10 8 5 10) (LN [TH 11 1,LQ 12,TH 13 5,Lu 14 4 12 13,T4 15 4 14,TQ 16 true none 11 [15]] 16 (EC 17 5 4 17)) 18 8 1 8 18) [PW 4 (-(0+1))])
def joE:XF:=⟨[0,1],jjZ,[(.t 4)]⟩
theorem jsC:jE Qaf 100=some joE:=by kernel_rfl
def jjY:XC:=(PQ (LZ (LV 2 0) 3 Ld) [PC 4 2,TO 5 4,P6 6 1,TO 7 6,Ea 8 5 7,TG 3 8])
def joD:XF:=⟨[0,1],jjY,[(.t 3)]⟩
theorem jsB:jE Qaf 101=some joD:=by kernel_rfl
def jjX:XC:=(Pv [LV 1 0,Em 2,PH 3] [PC 8 1,TO 9 8,P5 10 .eql 9 4] 10 [PT 11 1,EJ 2 11,TG 3 Ls] (Es [Ew 12 1,Pa 13 12,LW 14 13,Pb 15] 0 (EN 16 15 14) 16 0 1 [Lu 17 6 13 15,PT 18 17,Em 5,EJ 5 18] (TD [PT 20 5,Pw 21 102 20,TH 19 21,Ly 22 19 0,Ly 23 19 1,Em 6,EJ 6 22,TG 7 23] (LN [TG 24 7] 24 [PT 25 6,EJ 2 25,TG 3 Ls])) 26 15 1 15 26 (Lg [PT 27 1,EJ 2 27,PH 3])))
def joC:XF:=⟨[0],jjX,[(.cA 2 6),(.t 3)]⟩
theorem jsA:jE Qaf 102=some joC:=by kernel_rfl
def jjW:XC:=(TD [LV 1 0,Pb 2] (Lb [La 3 [TI,TI]] (EO [Ew 7 1,Pa 8 7,LW 9 8,Pb 10] 0 11 10 9 11 0 1 [TH 12 10,Lu 13 6 8 10,PT 14 13,Em 5,EB 12,EJ 5 14] (.ops [EA 15,PT 16 5,Pw 17 103 16,Py 18 2 1 3 15,T9 1 18 17]) 19 10 1 10 19) (P3 [TG 6 (TY 140 [])] (TD [PC 20 1,Pa 21 20] (.block 2 (EH 23 21 4 22 23 22 (.ops [TK 24 4 1,TO 25 24,TK 26 5 1,TO 27 26,Lt 28 98 [LR 161,25,27]]) (EV 30 21 5 29 30 29 [Py 31 2 1 3 PS,TO 32 31,TB 33 (.un .neg 32),P7 33] (EV 35 21 6 34 35 34 [Py 36 2 1 3 PS,TO 37 36,Pq 38 .sub Ed 37,P7 38] (EV 40 21 14 39 40 39 [Py 41 2 1 3 PS,TO 42 41,Py 43 2 1 3 Ed,TO 44 43,Pq 45 .mul 42 44,P7 45] (EV 47 21 15 46 47 46 [Py 48 2 1 3 PS,TO 49 48,Py 50 2 1 3 Ed,TO 51 50,Pq 52 .add 49 51,P7 52] (EV 54 21 16 53 54 53 [Py 55 2 1 3 PS,TO 56 55,Py 57 2 1 3 Ed,TO 58 57,Pq 59 .sub 56 58,P7 59] (.seq (PY (Px 61 21 17) 60 61 60 (.ops (LZ (Px 62 21 30) 60 62))) (Eh 60 [TH 63 6,Py 64 2 1 3 PS,TO 65 64,Py 66 2 1 3 Ed,TO 67 66,Pq 68 .eql 65 67,TZ 69 none 63 [68],P7 69] (EV 71 21 18 70 71 70 [TH 72 6,Py 73 2 1 3 PS,TO 74 73,Py 75 2 1 3 Ed,TO 76 75,Pq 77 .neq 74 76,TZ 78 none 72 [77],P7 78] (EV 80 21 19 79 80 79 [TH 81 6,Py 82 2 1 3 PS,TO 83 82,Py 84 2 1 3 Ed,TO 85 84,TB 86 (LP 83 85),TZ 87 none 81 [86],P7 87] (.seq (PY (Px 89 21 20) 88 89 88 (.ops (LZ (Px 90 21 29) 88 90))) (Eh 88 [TH 91 6,Py 92 2 1 3 PS,TO 93 92,Py 94 2 1 3 Ed,TO 95 94,Pq 96 .leq 93 95,TZ 97 none 91 [96],P7 97] (EV 99 21 21 98 99 98 [TH 100 6,Py 101 2 1 3 PS,TO 102 101,Py 103 2 1 3 Ed,TO 104 103,Pq 105 .gtr 102 104,TZ 106 none 100 [105],P7 106] (EV 108 21 22 107 108 107 [TH 109 6,Py 110 2 1 3 PS,TO 111 110,Py 112 2 1 3 Ed,TO 113 112,Pq 114 .geq 111 113,TZ 115 none 109 [114],P7 115] (EV 117 21 27 116 117 116 [Py 118 2 1 3 PS,TO 119 118,Py 120 2 1 3 Ed,TO 121 120,Pq 122 .mul 119 121,P7 122] (LN (LZ (Px 124 21 28) 123 124) 123 [Py 125 2 1 3 PS,TO 126 125,Py 127 2 1 3 Ed,TO 128 127,TB 129 (.bi .max #[2,2] [126,128]),P7 129])))))))))))))))))) [P6 130 1,TO 131 130,P7 131])))
def joB:XF:=⟨[0],jjW,[(.t 2)]⟩
theorem jsz:jE Qaf 103=some joB:=by kernel_rfl
def jjV:XC:=(PQ [LV 3 1,Pb 4] [LQ 5,LL 6 5,PC 7 6,PC 8 7,TO 9 8,TB 10 (.fn 142 [3]),PZ 11 141 9 10,EB 11])
def joA:XF:=⟨[0,1],jjV,[(.t 4)]⟩
theorem jsy:jE Qaf 104=some joA:=by kernel_rfl
def jjU:XC:=(PQ [Ec] [LQ 5,TH 6 1,PZ 7 143 5 6,EU 8 .geq 7,EB 8])
def joz:XF:=⟨[0,1],jjU,[(.t 4)]⟩
theorem jsx:jE Qaf 105=some joz:=by kernel_rfl
def jjT:XC:=(PQ (LZ (LV 2 0) 3 Ld) [PC 4 2,TO 5 4,PC 6 1,TO 7 6,Ea 8 5 7,TG 3 8])
def joy:XF:=⟨[0,1],jjT,[(.t 3)]⟩
theorem jsw:jE Qaf 106=some joy:=by kernel_rfl
def kC:XC:=(Lb [LV 3 1,Em 4,La 5 [TI,TN,TI,TI]] (TD [LQ 10,TK 11 2 3,TO 12 11,PZ 13 104 10 12,TG 6 13] (Lm [TH 14 6,EQ 15 .geq 14] 15 (Lb [LQ 16,LL 17 16,PC 18 17,PC 19 18,TO 20 19,TH 21 6,Lu 22 7 20 21,T4 23 7 22,La 7 [TN,TI,TN,TI,TI,.bool false,TI],T9 7 7 23] (.dops [LO (TH 24 6),LU 25 4 3,Ey 26 25 25 3,LU 27 5 3,Ey 28 27 27 3,LO (LD 29 (PK TI TI TN TI TI) [((0,1),LR 4),((1,1),24),((4,1),26),((5,1),28)]),LU 30 1 7,Ey 31 30 30 3,LU 32 2 7,Ey 33 32 32 9,LU 34 3 7,Ey 35 34 34 2,LU 36 4 7,Ey 37 36 36 2,LO (LD 38 [TI,TN,TI,TI] [((0,1),31),((1,1),33),((2,1),35),((3,1),37)]),EM 6 4 29 [(1,2),(3,2),(5,9),(7,3)],EM 4 5 38 []]) .ret))) (P3 [LQ 40,TK 41 2 3,TO 42 41,PZ 43 165 40 42,TH 39 43,Ly 44 39 0,Ly 45 39 1,TG 8 44,TG 9 45] (PU [TH 46 9,EQ 47 .lss 46] 47 [TK 48 4 3,TO 49 48,TK 50 5 3,TO 51 50,Lt 52 98 [LR 161,49,51]]) [TH 53 9,TK 54 4 3,TO 55 54,TK 56 5 3,TO 57 56,LD 58 (PK TI TI TN TI TI) [((0,1),Ed),((1,1),53),((4,1),55),((5,1),57)],TH 59 8,TH 60 9,TH 61 9,LD 62 [TI,TN,TI,TI] [((0,1),LR 3),((1,1),59),((2,1),60),((3,1),61)],EJ 4 58,T9 4 5 62]))
def jeR:XF:=⟨[0,1],kC,[(.cA 4 6),(.cA 5 4)]⟩
theorem jj4:jE Qaf 136=some jeR:=by kernel_rfl
def jjE:XC:=(P3 [Pb 2,Pb 3] (TD [EB 0] (.block 0 (.seq (PY (Px 6 4 5) 5 6 5 (PY (Px 7 4 14) 5 7 5 (PY (Px 8 4 15) 5 8 5 (.ops (LZ (Px 9 4 16) 5 9))))) (Eh 5 [PW 2 1,PW 3 1] (.seq (PY (Px 11 4 19) 10 11 10 (PY (Px 12 4 20) 10 12 10 (PY (Px 13 4 21) 10 13 10 (.ops (LZ (Px 14 4 22) 10 14))))) (Eh 10 [PW 2 1,PW 3 2] (.seq (PY (Px 16 4 17) 15 16 15 (.ops (LZ (Px 17 4 18) 15 17))) (Eh 15 [Pb 2,PW 3 2] .skip)))))))) [PW 2 2,PW 3 2])
def joj:XF:=⟨[0],jjE,[(.t 2),(.t 3)]⟩
theorem jsh:jE Qaf 137=some joj:=by kernel_rfl
def jjD:XC:=(PQ [PH 2] [LQ 3,Lo 4 .geq 3 7,EA 5,PO 6 5 0,L5 7 5 (Lf .leq 6 13),LE 8 5 7 Ld,TH 9 8,Ph 10 9 0,Ee 11 9 .geq 10 23,Ph 12 9 11,PO 13 12 0,L5 14 12 (Lf .leq 13 26),Li 15 9 (.pick 12 14 Ld),EG 16 9 15,P7 16])
def joi:XF:=⟨[0],jjD,[(.t 2)]⟩
theorem jsg:jE Qaf 138=some joi:=by kernel_rfl
def jjC:XC:=(Ep [Pb 4,Pb 5] [TH 8 1,Lu 9 4 8 PS,T4 10 4 9,La 6 [TI,TN,TI,TI],T9 4 6 10] (P3 [TH 11 1,TH 12 1,PD 13 12,Lo 14 .sub 13 1,Lu 15 4 11 14,T4 16 4 15,La 7 [TI,TN,TI,TI],T9 4 7 16] (TD [TG 17 0] (.block 0 (EV 19 17 5 18 19 18 [TK 20 2 6,TO 21 20,TB 22 (.un .neg 21),Ew 23 6,TO 24 23,TB 25 (.un .neg 24),LJ 26 2 1 [TI] [((0,1),22),((1,1),25)],Pw 27 166 26,Ly 28 27 0,Ly 29 27 1,EB 28,TG 5 29] (EV 31 17 15 30 31 30 [TK 32 2 6,TO 33 32,TK 34 2 7,TO 35 34,Pq 36 .add 33 35,Ew 37 6,TO 38 37,Ew 39 7,TO 40 39,Pq 41 .add 38 40,LJ 42 2 1 [TI] [((0,1),36),((1,1),41)],Pw 43 166 42,Ly 44 43 0,Ly 45 43 1,EB 44,TG 5 45] (LN (LZ (Px 47 17 16) 46 47) 46 [TK 48 2 6,TO 49 48,Ew 50 7,TO 51 50,Pq 52 .sub 49 51,Ew 53 6,TO 54 53,TK 55 2 7,TO 56 55,Pq 57 .sub 54 56,LJ 58 2 1 [TI] [((0,1),52),((1,1),57)],Pw 59 166 58,Ly 60 59 0,Ly 61 59 1,EB 60,TG 5 61]))))) [TK 62 2 6,TO 63 62,TK 64 2 7,TO 65 64,Pq 66 .mul 63 65,TK 67 2 6,TO 68 67,Ew 69 7,TO 70 69,Pq 71 .mul 68 70,Ew 72 6,TO 73 72,TK 74 2 7,TO 75 74,Pq 76 .mul 73 75,Ew 77 6,TO 78 77,Ew 79 7,TO 80 79,Pq 81 .mul 78 80,LJ 82 4 1 [TI] [((0,1),66),((1,1),71),((2,1),76),((3,1),81)],Pw 83 166 82,Ly 84 83 0,Ly 85 83 1,EB 84,TG 5 85]))
def joh:XF:=⟨[0,1],jjC,[(.t 4),(.t 5)]⟩
theorem jsf:jE Qaf 139=some joh:=by kernel_rfl
def jjB:XC:=(Pv [Pb 2] [TG 3 0] 3 [PW 2 1] (Lg [Pb 2]))
def jog:XF:=⟨[0],jjB,[(.t 2)]⟩
theorem jse:jE Qaf 140=some jog:=by kernel_rfl
def jjA:XC:=(P3 [Pb 4] (EO [LQ 6,LW 7 6,Pb 8] 0 9 8 7 9 0 1 (EC 10 8 5 10) (LN [TH 11 1,LQ 12,TH 13 5,Lu 14 7 12 13,T4 15 7 14,TQ 16 true none 11 [15]] 16 (EC 17 5 4 17)) 18 8 1 8 18) [PW 4 (-(0+1))])
def jof:XF:=⟨[0,1],jjA,[(.t 4)]⟩
theorem jsd:jE Qaf 141=some jof:=by kernel_rfl
def jjz:XC:=(PQ (LZ (LV 2 0) 3 Ld) [PC 4 2,TO 5 4,TO 6 1,Ea 7 5 6,TG 3 7])
def joe:XF:=⟨[0,1],jjz,[(.t 3)]⟩
theorem jsc:jE Qaf 142=some joe:=by kernel_rfl
def jeQ:XC:=(P3 [Pb 4] (EO [LQ 6,LW 7 6,Pb 8] 0 9 8 7 9 0 1 (EC 10 8 5 10) (LN [TH 11 1,LQ 12,TH 13 5,Lu 14 9 12 13,T4 15 9 14,TQ 16 true none 11 [15]] 16 (EC 17 5 4 17)) 18 8 1 8 18) [PW 4 (-(0+1))])
def jod:XF:=⟨[0,1],jeQ,[(.t 4)]⟩
theorem jsb:jE Qaf 143=some jod:=by kernel_rfl
def jjp:XC:=(P3 [Lk 4 TN,Pb 5] (EO [LQ 9,LL 10 9,PC 11 10,P6 12 11,Pa 13 12,LW 14 13,Pb 15] 0 16 15 14 16 0 1 [Lu 17 4 13 15,T4 18 4 17,La 7 [TN,.nils,TI,TI],T9 4 7 18] (TD [P6 19 7,TO 20 19,TH 21 1,PZ 22 177 20 21,TG 8 22] (LN [TH 23 8,EQ 24 .geq 23] 24 [PC 25 7,TO 26 25,TH 27 8,EB 26,TG 5 27])) 28 15 1 15 28) [Lk 4 TN,PW 5 (-(0+1))])
def jn3:XF:=⟨[0,1],jjp,[(.t 4),(.t 5)]⟩
theorem jr1:jE Qaf 165=some jn3:=by kernel_rfl
def jjo:XC:=(PQ [Pb 2,Pb 3] [LQ 4,Pw 5 181 4,LQ 6,Pw 7 182 6,P7 5,TG 3 7])
def jn2:XF:=⟨[0],jjo,[(.t 2),(.t 3)]⟩
theorem jr0:jE Qaf 166=some jn2:=by kernel_rfl
def jjk:XC:=(Lb [Pb 2] (PU [LQ 5,PD 6 5,P5 7 .lss 6 1] 7 [TB 8 (.iface 9 (T5 [115,108,105,99,101,115,46,77,105,110,58,32,101,109,112,116,121,32,108,105,115,116])),T7 (.pan 8)]) (P3 [LQ 9,Lu 10 1 9 PS,TO 11 10,TG 3 11] (L7 [PW 4 1] 0 (.seq (TW [EA 12,LQ 13,PD 14 13,Pc 15 12 14] 15 .skip (.exit 0)) (LS 1 (.ops [TH 18 3,LQ 19,EA 20,Lu 21 1 19 20,TO 22 21,TB 23 (.bi .min #[2,2] [18,22]),TG 3 23]) [EA 16,LX 17 16 1,EB 17]))) (EC 24 3 2 24)))
def jnY:XF:=⟨[0],jjk,[(.t 2)]⟩
theorem jrW:jE Qaf 181=some jnY:=by kernel_rfl
def jjj:XC:=(Lb [Pb 2] (PU [LQ 5,PD 6 5,P5 7 .lss 6 1] 7 [TB 8 (.iface 9 (T5 [115,108,105,99,101,115,46,77,97,120,58,32,101,109,112,116,121,32,108,105,115,116])),T7 (.pan 8)]) (P3 [LQ 9,Lu 10 1 9 PS,TO 11 10,TG 3 11] (L7 [PW 4 1] 0 (.seq (TW [EA 12,LQ 13,PD 14 13,Pc 15 12 14] 15 .skip (.exit 0)) (LS 1 (.ops [TH 18 3,LQ 19,EA 20,Lu 21 1 19 20,TO 22 21,TB 23 (.bi .max #[2,2] [18,22]),TG 3 23]) [EA 16,LX 17 16 1,EB 17]))) (EC 24 3 2 24)))
def jnX:XF:=⟨[0],jjj,[(.t 2)]⟩
theorem jrV:jE Qaf 182=some jnX:=by kernel_rfl
theorem joF:jaG Qaf 59=some gY:=by kernel_rfl
end Go.Sy
end
noncomputable section
namespace Go.Sy
open Go.Ev Go.RowKit
theorem jno {v:AV}{h:T AO}(hv:pa v=true):lend h v=some v:=by
 have key:∀ v:AV,pa v=true->(fz 9 h v).map (·.1)=some v:=λv hv=>by rw[jaM (d:=7) hv];rfl
 cases v<;>first|exact key _ hv|(cases hv;done)|skip
 case fn f caps=>
  cases caps with
  |nil=>rfl
  |cons c l=>cases hv
theorem uc {h:T AO}:QV h []=some []:=rfl
theorem JF {h:T AO}{v u:AV}{l r:List AV}(h1:lend h v=some u)(h2:QV h l=some r):QV h (v :: l)=some (u :: r):=by
 simp only[QV,h1,h2]
theorem ZG {h:T AO}{v:AV}{l r:List AV}(h1:pa v=true)(h2:QV h l=some r):QV h (v :: l)=some (v :: r):=JF (jno h1) h2
theorem Hn {h:T AO}:∀ {l:List AV},l.all Go.Sy.pa=true->QV h l=some l
 |[],_=>rfl
 |v :: l,hp=>by
  simp only[QaY,Qar] at hp;exact ZG hp.1 (Hn hp.2)
theorem jnv {s:St}{d b n m z:Nat}{x:Bool}{cs:List AV}(C:Cl s b cs)(hl:n * z=cs.length)(hp:cs.all pc=true):fz (d+2) s.h (.slice b 0 n m z x)=some (.lst n cs,[b]):=jcj (k:=0) C hl hp
def Lr (s:St)(v:AV)(n:Nat)(cs:List AV):Prop:=v=.lst n cs\/(v=.nils/\n=0/\cs=[])\/∃ b m z x,v=.slice b 0 n m z x/\n * z=cs.length/\Cl s b cs
theorem Lv.lr {lo hi n z:Nat}{s:St}{v:AV}{cs:List AV}(h:Lv lo hi s v n cs z):Lr s v n cs:=by
 rcases h with ⟨rfl,rfl,rfl⟩|⟨b,rfl,h2,h3,h4,h5,h6⟩
 ·exact .inr (.inl ⟨rfl,rfl,rfl⟩)
 ·exact .inr (.inr ⟨b,n,z,false,rfl,h3.symm,h4⟩)
theorem Lr.fz {s:St}{v:AV}{n:Nat}{cs:List AV}{d:Nat}(h:Lr s v n cs)(hp:cs.all pc=true):∃ ks,fz (d+2) s.h v=some (.lst n cs,ks):=by
 rcases h with rfl|⟨rfl,rfl,rfl⟩|⟨b,m,z,x,rfl,h1,h2⟩
 ·exact⟨[],rfl⟩
 ·exact⟨[],rfl⟩
 ·exact⟨[b],jnv h2 h1 hp⟩
theorem Lr.lend {s:St}{v:AV}{n:Nat}{cs:List AV}(h:Lr s v n cs)(hp:cs.all pc=true):lend s.h v=some (.lst n cs):=by
 have key:(Go.Ev.fz 9 s.h v).map (·.1)=some (.lst n cs):=by
  obtain⟨ks,e⟩:=h.fz (d:=7) hp;rw[e];rfl
 rcases h with rfl|⟨rfl,rfl,rfl⟩|⟨b,m,z,x,rfl,h1,h2⟩<;>exact key
theorem jh1 {s:St}{l r:List AV}(h:∃ ks,fzs (fz 8 s.h) l=some (r,ks)):lend s.h (.agg l)=some (.agg r):=by
 obtain⟨ks,e⟩:=h;show(fz 9 s.h (.agg l)).map (·.1)=_;show((fzs (fz 8 s.h) l).map λp=>(AV.agg p.1,p.2)).map (·.1)=_;rw[e];rfl
theorem jfD {f:AV->Option (AV×List Nat)}{v u:AV}{l r:List AV}(h1:∃ ks,f v=some (u,ks))(h2:∃ ks,fzs f l=some (r,ks)):∃ ks,fzs f (v :: l)=some (u :: r,ks):=by
 obtain⟨k1,e1⟩:=h1;obtain⟨k2,e2⟩:=h2;exact⟨k1 ++ k2,by simp only[fzs,e1,e2]⟩
theorem jrG {f:AV->Option (AV×List Nat)}:∃ ks,fzs f []=some ([],ks):=⟨[],rfl⟩
theorem WX {s:St}{b o:Nat}{cs r:List AV}(C:Cl s b cs)(h:Yz (fz 9 s.h) cs=r):lend s.h (.ptr b o)=some (.lptr r o):=by
 obtain⟨n,zl,z,ct,hrow,hn,hcs⟩:=C.rw_.len;show wB s.h (.ptr b o)=_;unfold wB;dsimp only;rw[hrow];dsimp only;rw[hn,h]
theorem QB {f:AV->Option (AV×List Nat)}{v u:AV}{l r:List AV}(h1:∃ ks,f v=some (u,ks))(hc:u.cell=true)(h2:Yz f l=r):Yz f (v :: l)=u :: r:=by
 obtain⟨ks,e⟩:=h1;simp only[Yz,e,hc,cond_true,h2]
theorem GB {f:AV->Option (AV×List Nat)}:Yz f []=[]:=rfl
theorem W0 {h:T AO}{v:AV}(d:Nat)(hv:pc v=true):∃ ks,fz (d+1) h v=some (v,ks):=⟨[],jaL hv d _⟩
section
variable {P:Program} {base:Bs}
theorem PL.xb {f:FuncId}{aZ aZ':List AV}{o:Oc}(h:PL P base f aZ o){st:St}(hf:QV st.h aZ'=some aZ)(hb:∀ st,base.run f aZ' st=.no)(K Kp:AV->St->Prop):XB P base f aZ' st K Kp=YG o K Kp st:=h.cx hf hb K Kp
theorem PL.pa {f:FuncId}{aZ:List AV}{o:Oc}(h:PL P base f aZ o)(hp:aZ.all Go.Sy.pa=true)(hb:∀ st,base.run f aZ st=.no)(st:St)(K Kp:AV->St->Prop):XB P base f aZ st K Kp=YG o K Kp st:=by
 exact h.xb (Hn hp) hb K Kp
theorem Q3 {f:FuncId}{F:XF}(hl:jE P f=some F)(hnd:F.body.nd=true)(hm:base.pur f=5){aZ:List AV}{o:Oc}(ho:o.flat=true)
  (h:xC P base F.body (jp F.ps aZ) st0 (QE P F.res (Xe G0 o)) λv _ s=>Xb G0 o v s.bare):PL P base f aZ o:=
 PL.of hm ho (YL hl hnd h)
def jpX (r:ER):ER:=match r with
 |.ok v s=>(match fz 9 s.h v with|some (v',ks)=>.ok v' (kills ks s)|none=>.no)
 |r=>r
theorem BX.ice {f:FuncId}{args:List AV}{st:St}{K Kp:AV->St->Prop}(hm:base.pur f=2)(hb:base.run f args st=.no)(h:BX P base f args st (λv s=>∃ u ks,fz 9 s.h v=some (u,ks)/\K u (kills ks s)) Kp):CX P base f args st K Kp:=by
 obtain⟨r,⟨N,D,h1⟩,h2⟩:=h;have e:∀ n,N<=n->∀ d,D+1<=d->evC P base n d f args st=jpX r:=λn hn d hd=>by
  obtain⟨d',rfl⟩:∃ d',d=d'+1:=⟨d - 1,by omega⟩;have h3:=h1 n hn d' (by omega);simp only[evC,hb,hm,ua,jfB,h3];rfl
 refine⟨_,⟨N,D+1,e⟩,?_⟩;cases r with
 |no=>exact h2.elim
 |pn v s=>exact h2
 |ok v s=>
  obtain⟨u,ks,e1,e2⟩:=(h2:∃ u ks,fz 9 s.h v=some (u,ks)/\K u (kills ks s));unfold jpX;dsimp only;rw[e1];exact e2
theorem jcb {f:FuncId}{F:XF}(hl:jE P f=some F)(hnd:F.body.nd=true){args:List AV}{st:St}(hm:base.pur f=2)(hb:base.run f args st=.no){K Kp:AV->St->Prop}
  (h:xC P base F.body (jp F.ps args) st.bare (QE P F.res λv s=>∃ u ks,fz 9 s.h v=some (u,ks)/\K u (back st (kills ks s))) λv _ s=>Kp v (bk st s)):XB P base f args st K Kp:=
 XB.of (BX.ice hm hb (YL hl hnd h))
end
structure Keep (p:Nat)(s s':St):Prop where
 nx:s.nx<=s'.nx
 fr:s'.fr=s.fr
 get:∀ b,b<s.nx->b≠p->jz s'.h b=jz s.h b
section
variable {p b:Nat} {s s' t:St} {cs:List AV}
theorem Keep.refl:Keep p s s:=⟨Qaq _,rfl,λ_ _ _=>rfl⟩
theorem Keep.trans (h:Keep p s t)(k:Keep p t s'):Keep p s s':=⟨Qau h.nx k.nx,k.fr.trans h.fr,λb hb hp=>(k.get b (QaP hb h.nx) hp).trans (h.get b hb hp)⟩
theorem Keep.nw (h:Keep p s t)(ds:List AV):Keep p s (nw t ds):=⟨Qcx h.nx,h.fr,λb hb hp=>(JQ (by have:=h.nx;omega)).trans (h.get b hb hp)⟩
theorem Keep.wr (h:Keep p s t){c:Nat}(hc:c=p\/s.nx<=c)(o:Nat)(vs:List AV):Keep p s (wr t c o vs):=⟨h.nx,h.fr,λb hb hp=>(Js (by omega)).trans (h.get b hb hp)⟩
theorem Keep.kl (h:Keep p s t){c:Nat}(hc:s.nx<=c):Keep p s (kl c t):=⟨h.nx,h.fr,λb hb hp=>(vD (by omega)).trans (h.get b hb hp)⟩
theorem Keep.kills (h:Keep p s t){ks:List Nat}(hc:∀ c∈ks,s.nx<=c):Keep p s (kills ks t):=⟨h.nx,h.fr,λb hb hp=>by
 show jz (ks.foldr _ t.h) b=_;rw[YT,if_neg (λhm=>by have:=hc b hm;omega)];exact h.get b hb hp⟩
theorem Keep.aps {lo hi n z:Nat}{v:AV}{ds:List AV}{u:St}(h:Keep p s t)(V:Lv lo hi u v n ds z)(hlo:s.nx<=lo)(news:List AV):Keep p s (aps v t news):=⟨by rw[jj];exact Qcx h.nx,by rw[Wa];exact h.fr,λb hb hp=>(V.get t news b (by omega) (by have:=h.nx;omega)).trans (h.get b hb hp)⟩
theorem Keep.cl (h:Keep p s t)(C:Cl s b cs)(hb:b≠p):Cl t b cs:=C.keep h.nx (h.get b C.lt hb)
theorem Keep.lv {lo hi n z:Nat}{v:AV}(h:Keep p s t)(V:Lv lo hi s v n cs z)(hb:p<lo\/hi<=p):Lv lo hi t v n cs z:=V.imp id λ⟨c,h1,h2,h3,h4,h5,h6⟩=>⟨c,h1,h2,h3,h.cl h4 (by omega),h5,h6⟩
theorem Keep.lr {v:AV}{n:Nat}(h:Keep p s t)(V:Lr s v n cs)(hb:∀ b m z x,v=.slice b 0 n m z x->b≠p):Lr t v n cs:=by
 rcases V with e|e|⟨b,m,z,x,e,h1,h2⟩
 ·exact .inl e
 ·exact .inr (.inl e)
 ·exact .inr (.inr ⟨b,m,z,x,e,h1,h.cl h2 (hb b m z x e)⟩)
theorem Keep.back (h:Keep p s t):Keep p s (back s t):=⟨h.nx,rfl,h.get⟩
theorem Keep.bare (h:Keep p s.bare t)(u:St):Keep p s (Go.Ev.back s t):=⟨h.nx,rfl,h.get⟩
end
end Go.Sy
end
noncomputable section
set_option maxRecDepth 100000
namespace Go.Sy
open Go.Ev Go.Proofs
variable {base:Bs}
structure VarT where
 name:List Nat
 kind:Int
 enum:List Nat
 lo:Int
 hi:Int
 beg:Bool
 first:Int
def vaE (v:VarT):List AV:=[.str v.name,.int .i64 v.kind,.str v.enum,.int .i64 v.lo,.int .i64 v.hi,.bool v.beg,.int .i64 v.first]
structure SetT where
 var:Int
 to:Ex
def seE (s:SetT):List AV:=.int .i64 s.var :: eE s.to
structure MoveT where
 when:Ex
 acts:List SetT
def moE (m:MoveT):List AV:=eE m.when ++ [.lst m.acts.length (fl seE m.acts)]
structure ModT where
 vars:List VarT
 enums:List EnumT
 moves:List MoveT
def mdE (m:ModT):List AV:=[.lst m.vars.length (fl vaE m.vars),.lst m.enums.length (fl enE m.enums),.lst m.moves.length (fl moE m.moves)]
structure MtT where
 kind:Int
 enum:List Nat
 lo:Int
 hi:Int
def mtE (m:MtT):List AV:=[.int .i64 m.kind,.str m.enum,.int .i64 m.lo,.int .i64 m.hi]
theorem Wu (v:VarT):vaE v=[.str v.name,.int .i64 v.kind,.str v.enum,.int .i64 v.lo,.int .i64 v.hi,.bool v.beg,.int .i64 v.first]:=rfl
theorem XO (v:VarT):(vaE v).length=7:=nr (by rw[Wu];rfl)
theorem jaa (v:VarT)(k:Nat):(vaE v).getD k .bad=([.str v.name,.int .i64 v.kind,.str v.enum,.int .i64 v.lo,.int .i64 v.hi,.bool v.beg,.int .i64 v.first]:List AV).getD k .bad:=nr (by rw[Wu])
theorem jlA (v:VarT)(k:Nat):(vaE v).drop k=([.str v.name,.int .i64 v.kind,.str v.enum,.int .i64 v.lo,.int .i64 v.hi,.bool v.beg,.int .i64 v.first]:List AV).drop k:=nr (by rw[Wu])
theorem jab (v:VarT):lall AV.cell (vaE v)=true:=nr (by rw[Wu];rfl)
theorem XN (v:VarT):(vaE v).all pc=true:=nr (by rw[Wu];rfl)
theorem jlz {st:St}{K:AV->St->Prop}{xs:List VarT}{i:Nat}(h:i<xs.length):jm (Je 7 (.lptr (fl vaE xs) (i * 7)) st) K=K (.agg (vaE xs[i])) st:=XP XO h
theorem jgB {st:St}{K:AV->St->Prop}{xs:List VarT}{i:Nat}(h:i<xs.length){k:Nat}(hk:k<7):jm (yy (.lptr (fl vaE xs) (i * 7+k)) st) K=K ((vaE xs[i]).getD k .bad) st:=yi XO h hk
theorem jgC {st:St}{K:AV->St->Prop}{xs:List VarT}{i:Nat}(h:i<xs.length):jm (yy (.lptr (fl vaE xs) (i * 7)) st) K=K ((vaE xs[i]).getD 0 .bad) st:=yi (k:=0) XO h (by decide)
theorem jr:type_of% (aI @XO (aI @jaa (aI @jlA (aI @jab (aI @jlz (aI @jgC @jgB)))))):=aI @XO (aI @jaa (aI @jlA (aI @jab (aI @jlz (aI @jgC @jgB)))))
theorem Yl:type_of% (aI @XO (aI @jab @jaa)):=aI @XO (aI @jab @jaa)
theorem KA (s:SetT):seE s=[.int .i64 s.var,.int .i64 s.to.op,.int .i64 s.to.num,.str s.to.name,.lst s.to.kids.length (fl eE s.to.kids),.int .i64 s.to.line,.int .i64 s.to.col]:=(by unfold seE;rw[qI])
theorem vW (s:SetT):(seE s).length=7:=nr (by rw[KA];rfl)
theorem jal (s:SetT)(k:Nat):(seE s).getD k .bad=([.int .i64 s.var,.int .i64 s.to.op,.int .i64 s.to.num,.str s.to.name,.lst s.to.kids.length (fl eE s.to.kids),.int .i64 s.to.line,.int .i64 s.to.col]:List AV).getD k .bad:=nr (by rw[KA])
theorem jlU (s:SetT)(k:Nat):(seE s).drop k=([.int .i64 s.var,.int .i64 s.to.op,.int .i64 s.to.num,.str s.to.name,.lst s.to.kids.length (fl eE s.to.kids),.int .i64 s.to.line,.int .i64 s.to.col]:List AV).drop k:=nr (by rw[KA])
theorem jam (s:SetT):lall AV.cell (seE s)=true:=nr (by rw[KA];rfl)
theorem Za (s:SetT):(seE s).all pc=true:=nr (by rw[KA];rfl)
theorem jlT {st:St}{K:AV->St->Prop}{xs:List SetT}{i:Nat}(h:i<xs.length):jm (Je 7 (.lptr (fl seE xs) (i * 7)) st) K=K (.agg (seE xs[i])) st:=XP vW h
theorem jhk {st:St}{K:AV->St->Prop}{xs:List SetT}{i:Nat}(h:i<xs.length){k:Nat}(hk:k<7):jm (yy (.lptr (fl seE xs) (i * 7+k)) st) K=K ((seE xs[i]).getD k .bad) st:=yi vW h hk
theorem jhl {st:St}{K:AV->St->Prop}{xs:List SetT}{i:Nat}(h:i<xs.length):jm (yy (.lptr (fl seE xs) (i * 7)) st) K=K ((seE xs[i]).getD 0 .bad) st:=yi (k:=0) vW h (by decide)
theorem jt:type_of% (aI @vW (aI @jal (aI @jlU (aI @jam (aI @jlT (aI @jhl @jhk)))))):=aI @vW (aI @jal (aI @jlU (aI @jam (aI @jlT (aI @jhl @jhk)))))
theorem Ym:type_of% (aI @vW (aI @jam @jal)):=aI @vW (aI @jam @jal)
theorem K4 (m:MoveT):moE m=[.int .i64 m.when.op,.int .i64 m.when.num,.str m.when.name,.lst m.when.kids.length (fl eE m.when.kids),.int .i64 m.when.line,.int .i64 m.when.col,.lst m.acts.length (fl seE m.acts)]:=(by unfold moE;rw[qI];rfl)
theorem WQ (m:MoveT):(moE m).length=7:=nr (by rw[K4];rfl)
theorem jaz (m:MoveT)(k:Nat):(moE m).getD k .bad=([.int .i64 m.when.op,.int .i64 m.when.num,.str m.when.name,.lst m.when.kids.length (fl eE m.when.kids),.int .i64 m.when.line,.int .i64 m.when.col,.lst m.acts.length (fl seE m.acts)]:List AV).getD k .bad:=nr (by rw[K4])
theorem jl7 (m:MoveT)(k:Nat):(moE m).drop k=([.int .i64 m.when.op,.int .i64 m.when.num,.str m.when.name,.lst m.when.kids.length (fl eE m.when.kids),.int .i64 m.when.line,.int .i64 m.when.col,.lst m.acts.length (fl seE m.acts)]:List AV).drop k:=nr (by rw[K4])
theorem jaA (m:MoveT):lall AV.cell (moE m)=true:=nr (by rw[K4];rfl)
theorem Zf (m:MoveT):(moE m).all pc=true:=nr (by rw[K4];rfl)
theorem jl6 {st:St}{K:AV->St->Prop}{xs:List MoveT}{i:Nat}(h:i<xs.length):jm (Je 7 (.lptr (fl moE xs) (i * 7)) st) K=K (.agg (moE xs[i])) st:=XP WQ h
theorem jhQ {st:St}{K:AV->St->Prop}{xs:List MoveT}{i:Nat}(h:i<xs.length){k:Nat}(hk:k<7):jm (yy (.lptr (fl moE xs) (i * 7+k)) st) K=K ((moE xs[i]).getD k .bad) st:=yi WQ h hk
theorem jhR {st:St}{K:AV->St->Prop}{xs:List MoveT}{i:Nat}(h:i<xs.length):jm (yy (.lptr (fl moE xs) (i * 7)) st) K=K ((moE xs[i]).getD 0 .bad) st:=yi (k:=0) WQ h (by decide)
theorem jv:type_of% (aI @WQ (aI @jaz (aI @jl7 (aI @jaA (aI @jl6 (aI @jhR @jhQ)))))):=aI @WQ (aI @jaz (aI @jl7 (aI @jaA (aI @jl6 (aI @jhR @jhQ)))))
theorem Ys:type_of% (aI @WQ (aI @jaA @jaz)):=aI @WQ (aI @jaA @jaz)
theorem UG (m:ModT):mdE m=[.lst m.vars.length (fl vaE m.vars),.lst m.enums.length (fl enE m.enums),.lst m.moves.length (fl moE m.moves)]:=rfl
theorem WS (m:ModT):(mdE m).length=3:=nr (by rw[UG];rfl)
theorem jaC (m:ModT)(k:Nat):(mdE m).getD k .bad=([.lst m.vars.length (fl vaE m.vars),.lst m.enums.length (fl enE m.enums),.lst m.moves.length (fl moE m.moves)]:List AV).getD k .bad:=nr (by rw[UG])
theorem jl9 (m:ModT)(k:Nat):(mdE m).drop k=([.lst m.vars.length (fl vaE m.vars),.lst m.enums.length (fl enE m.enums),.lst m.moves.length (fl moE m.moves)]:List AV).drop k:=nr (by rw[UG])
theorem jaE (m:ModT):lall AV.cell (mdE m)=true:=nr (by rw[UG];rfl)
theorem Yt (m:ModT):(mdE m).all pc=true:=nr (by rw[UG];rfl)
theorem jaD (m:ModT):(mdE m).all eqs=true:=nr (by rw[UG];rfl)
theorem jl8 {st:St}{K:AV->St->Prop}{xs:List ModT}{i:Nat}(h:i<xs.length):jm (Je 3 (.lptr (fl mdE xs) (i * 3)) st) K=K (.agg (mdE xs[i])) st:=XP WS h
theorem jhT {st:St}{K:AV->St->Prop}{xs:List ModT}{i:Nat}(h:i<xs.length){k:Nat}(hk:k<3):jm (yy (.lptr (fl mdE xs) (i * 3+k)) st) K=K ((mdE xs[i]).getD k .bad) st:=yi WS h hk
theorem jhU {st:St}{K:AV->St->Prop}{xs:List ModT}{i:Nat}(h:i<xs.length):jm (yy (.lptr (fl mdE xs) (i * 3)) st) K=K ((mdE xs[i]).getD 0 .bad) st:=yi (k:=0) WS h (by decide)
theorem jx:type_of% (aI @WS (aI @jaC (aI @jl9 (aI @jaE (aI @jl8 (aI @jhU @jhT)))))):=aI @WS (aI @jaC (aI @jl9 (aI @jaE (aI @jl8 (aI @jhU @jhT)))))
theorem Yu:type_of% (aI @WS (aI @jaE @jaC)):=aI @WS (aI @jaE @jaC)
theorem K2 (m:MtT):mtE m=[.int .i64 m.kind,.str m.enum,.int .i64 m.lo,.int .i64 m.hi]:=rfl
theorem Yq (m:MtT):(mtE m).length=4:=nr (by rw[K2];rfl)
theorem UF (m:MtT)(k:Nat):(mtE m).getD k .bad=([.int .i64 m.kind,.str m.enum,.int .i64 m.lo,.int .i64 m.hi]:List AV).getD k .bad:=nr (by rw[K2])
theorem jl5 (m:MtT)(k:Nat):(mtE m).drop k=([.int .i64 m.kind,.str m.enum,.int .i64 m.lo,.int .i64 m.hi]:List AV).drop k:=nr (by rw[K2])
theorem jay (m:MtT):lall AV.cell (mtE m)=true:=nr (by rw[K2];rfl)
theorem Yp (m:MtT):(mtE m).all pc=true:=nr (by rw[K2];rfl)
theorem jax {st:St}{K:AV->St->Prop}{xs:List MtT}{i:Nat}(h:i<xs.length):jm (Je 4 (.lptr (fl mtE xs) (i * 4)) st) K=K (.agg (mtE xs[i])) st:=XP Yq h
theorem jhO {st:St}{K:AV->St->Prop}{xs:List MtT}{i:Nat}(h:i<xs.length){k:Nat}(hk:k<4):jm (yy (.lptr (fl mtE xs) (i * 4+k)) st) K=K ((mtE xs[i]).getD k .bad) st:=yi Yq h hk
theorem jhP {st:St}{K:AV->St->Prop}{xs:List MtT}{i:Nat}(h:i<xs.length):jm (yy (.lptr (fl mtE xs) (i * 4)) st) K=K ((mtE xs[i]).getD 0 .bad) st:=yi (k:=0) Yq h (by decide)
theorem ju:type_of% (aI @Yq (aI @UF (aI @jl5 (aI @jay (aI @jax (aI @jhP @jhO)))))):=aI @Yq (aI @UF (aI @jl5 (aI @jay (aI @jax (aI @jhP @jhO)))))
theorem Yr:type_of% (aI @Yq (aI @jay @UF)):=aI @Yq (aI @jay @UF)
theorem dzG {p:Prop}(h:p:=by first|assumption|decide|omega|(simp only[qV,zy,zt,zx,yb,zu,zr,Yl,Ym,Ys,Yu,Yr,rzN,Qaj,Qan];first|done|omega)|(apply Qr<;>first|omega|((simp(disch:=first|assumption|omega|(simp only[qV,zy,zt,zx,yb,zu,zr,Yl,Ym,Ys,Yu,Yr,rzN,Qaj,Qan];first|done|omega)) only[rzL,Qaj,Qan,QaM,Qab,qV,zy,zt,zx,yb,zu,zr,Yl,Ym,Ys,Yu,Yr ])<;>first|done|omega))|(simp(disch:=first|assumption|omega|(simp only[qV,zy,zt,zx,yb,zu,zr,Yl,Ym,Ys,Yu,Yr,rzN,Qaj,Qan];first|done|omega)) only[qV,zy,zt,zx,yb,zu,zr,Yl,Ym,Ys,Yu,Yr,rzG,Qag,Qah,Qac,Qbm,Qaj,Qan,Qaw,QaF];first|done|omega|decide)):p:=h
theorem cyG {p:Prop}(h:p:=by apply Qr<;>first|omega|((simp(disch:=first|assumption|omega|(simp only[qV,zy,zt,zx,yb,zu,zr,Yl,Ym,Ys,Yu,Yr,rzN,Qaj,Qan];first|done|omega)) only[rzL,Qaj,Qan,QaM,Qab,qV,zy,zt,zx,yb,zu,zr,Yl,Ym,Ys,Yu,Yr])<;>first|done|rfl|omega|(simp;done)|(simp;omega))):p:=h
theorem qu {p:Prop}(h:p:=by first|assumption|decide|omega|(simp only[qV,zy,zt,zx,yb,zu,zr,Yl,Ym,Ys,Yu,Yr,zz,rzN,Qaj,Qan];first|done|omega)|(apply Qr<;>first|omega|((simp(disch:=first|assumption|omega|(simp only[qV,zy,zt,zx,yb,zu,zr,Yl,Ym,Ys,Yu,Yr,zz,rzN,Qaj,Qan];first|done|omega)) only[rzL,Qaj,Qan,QaM,Qab,qV,zy,zt,zx,yb,zu,zr,Yl,Ym,Ys,Yu,Yr,zz ])<;>first|done|omega))|(simp(disch:=first|assumption|omega|(simp only[qV,zy,zt,zx,yb,zu,zr,Yl,Ym,Ys,Yu,Yr,zz,rzN,Qaj,Qan];first|done|omega)) only[qV,zy,zt,zx,yb,zu,zr,Yl,Ym,Ys,Yu,Yr,zz,rzG,Qag,Qah,Qac,Qbm,Qaj,Qan,Qaw,QaF];first|done|omega|decide)):p:=h
def kf (c l k:Int):AV:=.iface 30 (.agg [.int .i64 c,.int .i64 l,.int .i64 k])
theorem Ji (hb:NB base)(c l k:Int):Ret base 98 [.int .i64 c,.int .i64 l,.int .i64 k] (.pn (kf c l k)):=by
 refine hb.ret ?_ rfl rfl;refine jI x98 (by rfl) (hb.pur 98 1 (by decide)) ?_;simp only[y98,jp,Qai,Qal,Qag,Qah];rw[(by unfold z98;simp only[qq];rfl:z98=_)];repeat'(first|(apply jc<;>intro _)|simp(disch:=first|exact dzG|fail) only[je,jo,jn,jf,jr,jt,jv,jx,ju,rzZ,Qab,Qac,Qad,Qaa,Qae])
 exact FzD.iface (FzD.agg (.pc rfl))
theorem jmJ (hb:NB base)(v:VarT)(s:List Nat):Tot base 142 [.agg (vaE v),.lptr [.str s] 0] (.bool (decide (v.name=s))):=by
 refine hb.tot ?_ (by first|rfl|simp[pa,pc,q8,Qs,JI,Jj,XN,Za,Zf,Yt,Yp]) rfl;refine jI jsc (by rfl) (hb.pur 142 1 (by decide)) ?_;simp only[joe,jp,Qai,Qal,Qag,Qah];rw[(by unfold jjz;simp only[qq];rfl:jjz=_)];repeat'(first|(apply jc<;>intro _)|simp(disch:=first|exact dzG|fail) only[JS,je,jo,jn,jf,jr,jt,jv,jx,ju,rzZ,Qab,Qac,Qad,Qaa,Qae])
 exact G0.v rfl rfl
theorem jk4 (hb:NB base)(e:EnumT)(d:DeclT):Tot base 101 [.agg (enE e),.lptr (qm d) 0] (.bool (decide (e.name=d.ty))):=by
 refine hb.tot ?_ (by first|rfl|simp[pa,pc,q8,Qs,JI,Jj,XN,Za,Zf,Yt,Yp]) rfl;refine jI jsB (by rfl) (hb.pur 101 1 (by decide)) ?_;simp only[joD,jp,Qai,Qal,Qag,Qah];rw[(by unfold jjY;simp only[qq];rfl:jjY=_)];repeat'(first|(apply jc<;>intro _)|simp(disch:=first|exact dzG|fail) only[JS,je,jo,jn,jf,jr,jt,jv,jx,ju,rzZ,Qab,Qac,Qad,Qaa,Qae])
 exact G0.v rfl rfl
theorem jqN (hb:NB base)(b a:AsT):Tot base 106 [.agg (asE b),.lptr (asE a) 0] (.bool (decide (b.name=a.name))):=by
 refine hb.tot ?_ (by first|rfl|simp[pa,pc,q8,Qs,JI,Jj,XN,Za,Zf,Yt,Yp]) rfl;refine jI jsw (by rfl) (hb.pur 106 1 (by decide)) ?_;simp only[joy,jp,Qai,Qal,Qag,Qah];rw[(by unfold jjT;simp only[qq];rfl:jjT=_)];repeat'(first|(apply jc<;>intro _)|simp(disch:=first|exact dzG|fail) only[JS,je,jo,jn,jf,jr,jt,jv,jx,ju,rzZ,Qab,Qac,Qad,Qaa,Qae])
 exact G0.v rfl rfl
theorem jit (hb:NB base)(xs:List VarT)(hl:xs.length<=BIG)(nm:List Nat):PL Qaf base 141 [.lst xs.length (fl vaE xs),.fn 142 [.lptr [.str nm] 0]] (.ok (.int .i64 (fi (λx=>decide (x.name=nm)) xs))):=by
 refine Q3 jsd (by rfl) (hb.pur 141 5 (by decide)) rfl ?_;simp only[jof,jp,Qai,Qal,Qag,Qah];rw[(by unfold jjA;simp only[qq];rfl:jjA=_)];unfold BIG at hl;repeat'(first|(apply jc<;>intro _)|simp(disch:=first|exact dzG|fail) only[je,jo,jn,jf,jr,jt,jv,jx,ju,rzZ,Qab,Qac,Qad,Qaa,Qae])
 refine qy xs.length (λk L s=>(∀ j (hj:j<xs.length),j<k->(λx=>decide (x.name=nm)) xs[j]=false)/\Has L 0 (.lst xs.length (fl vaE xs))/\Has L 1 (.fn 142 [.lptr [.str nm] 0])) (by first|assumption|omega) (by decide) (by simp(disch:=decide) only[jd,jb]) (by simp(disch:=decide) only[jd,jb]) ?_ (λk L s v h=>by simp(disch:=decide) only[jb];exact h) (λk L s v h=>by simp(disch:=decide) only[jb];exact h) (λk L s hk hI hi hn=>?_) (λL s hI=>?_)
 ·refine⟨λj _ hj=>absurd hj (Qbn _),?_⟩;simp(disch:=decide) only[Qam,Qao,z0,z1,jd,jb,and_true,true_and]
 ·obtain⟨h0,i0,i1⟩:=hI;have e:=jmJ hb xs[k] nm;repeat'(first|(apply jc<;>intro _)|simp(disch:=first|exact dzG|fail) only[ja i0,ja i1,ja hi,ja hn,e,je,jo,jn,jf,jr,jt,jv,jx,ju,rzZ,Qab,Qac,Qad,Qaa,Qae])
  ·rename_i h;exact G0.v (congrArg _ (W8 hk (λj hj=>h0 j (by omega) hj) (by simpa using h)).symm) rfl
  ·rename_i h;refine⟨⟨λj hj hjk=>?_,?_⟩,?_⟩
   ·rcases QaV j k with h2|h2
    ·have:=h0 j hj h2;simpa using this
    ·have:j=k:=by omega
     subst this;simpa using h
   ·simp(disch:=decide) only[Qam,Qao,z0,z1,jd,jb,and_true,true_and,i0,i1]
   ·simp(disch:=decide) only[Qam,Qao,z0,z1,jd,jb,and_true,true_and,hi,hn]
 ·obtain⟨h0,i0,i1⟩:=hI;repeat'(first|(apply jc<;>intro _)|simp(disch:=first|exact dzG|fail) only[je,jo,jn,jf,jr,jt,jv,jx,ju,rzZ,Qab,Qac,Qad,Qaa,Qae])
  exact G0.v (congrArg _ (W7 λj hj=>h0 j hj hj).symm) rfl
theorem jfJ (hb:NB base)(xs:List EnumT)(hl:xs.length<=BIG)(d:DeclT):PL Qaf base 100 [.lst xs.length (fl enE xs),.fn 101 [.lptr (qm d) 0]] (.ok (.int .i64 (fi (λx=>decide (x.name=d.ty)) xs))):=by
 refine Q3 jsC (by rfl) (hb.pur 100 5 (by decide)) rfl ?_;simp only[joE,jp,Qai,Qal,Qag,Qah];rw[(by unfold jjZ;simp only[qq];rfl:jjZ=_)];unfold BIG at hl;repeat'(first|(apply jc<;>intro _)|simp(disch:=first|exact dzG|fail) only[je,jo,jn,jf,jr,jt,jv,jx,ju,rzZ,Qab,Qac,Qad,Qaa,Qae])
 refine qy xs.length (λk L s=>(∀ j (hj:j<xs.length),j<k->(λx=>decide (x.name=d.ty)) xs[j]=false)/\Has L 0 (.lst xs.length (fl enE xs))/\Has L 1 (.fn 101 [.lptr (qm d) 0])) (by first|assumption|omega) (by decide) (by simp(disch:=decide) only[jd,jb]) (by simp(disch:=decide) only[jd,jb]) ?_ (λk L s v h=>by simp(disch:=decide) only[jb];exact h) (λk L s v h=>by simp(disch:=decide) only[jb];exact h) (λk L s hk hI hi hn=>?_) (λL s hI=>?_)
 ·refine⟨λj _ hj=>absurd hj (Qbn _),?_⟩;simp(disch:=decide) only[Qam,Qao,z0,z1,jd,jb,and_true,true_and]
 ·obtain⟨h0,i0,i1⟩:=hI;have e:=jk4 hb xs[k] d;repeat'(first|(apply jc<;>intro _)|simp(disch:=first|exact dzG|fail) only[ja i0,ja i1,ja hi,ja hn,e,je,jo,jn,jf,jr,jt,jv,jx,ju,rzZ,Qab,Qac,Qad,Qaa,Qae])
  ·rename_i h;exact G0.v (congrArg _ (W8 hk (λj hj=>h0 j (by omega) hj) (by simpa using h)).symm) rfl
  ·rename_i h;refine⟨⟨λj hj hjk=>?_,?_⟩,?_⟩
   ·rcases QaV j k with h2|h2
    ·have:=h0 j hj h2;simpa using this
    ·have:j=k:=by omega
     subst this;simpa using h
   ·simp(disch:=decide) only[Qam,Qao,z0,z1,jd,jb,and_true,true_and,i0,i1]
   ·simp(disch:=decide) only[Qam,Qao,z0,z1,jd,jb,and_true,true_and,hi,hn]
 ·obtain⟨h0,i0,i1⟩:=hI;repeat'(first|(apply jc<;>intro _)|simp(disch:=first|exact dzG|fail) only[je,jo,jn,jf,jr,jt,jv,jx,ju,rzZ,Qab,Qac,Qad,Qaa,Qae])
  exact G0.v (congrArg _ (W7 λj hj=>h0 j hj hj).symm) rfl
theorem jkX (hb:NB base)(xs:List AsT)(hl:xs.length<=BIG)(a:AsT):PL Qaf base 143 [.lst xs.length (fl asE xs),.fn 106 [.lptr (asE a) 0]] (.ok (.int .i64 (fi (λx=>decide (x.name=a.name)) xs))):=by
 refine Q3 jsb (by rfl) (hb.pur 143 5 (by decide)) rfl ?_;simp only[jod,jp,Qai,Qal,Qag,Qah];rw[(by unfold jeQ;simp only[qq];rfl:jeQ=_)];unfold BIG at hl;repeat'(first|(apply jc<;>intro _)|simp(disch:=first|exact dzG|fail) only[je,jo,jn,jf,jr,jt,jv,jx,ju,rzZ,Qab,Qac,Qad,Qaa,Qae])
 refine qy xs.length (λk L s=>(∀ j (hj:j<xs.length),j<k->(λx=>decide (x.name=a.name)) xs[j]=false)/\Has L 0 (.lst xs.length (fl asE xs))/\Has L 1 (.fn 106 [.lptr (asE a) 0])) (by first|assumption|omega) (by decide) (by simp(disch:=decide) only[jd,jb]) (by simp(disch:=decide) only[jd,jb]) ?_ (λk L s v h=>by simp(disch:=decide) only[jb];exact h) (λk L s v h=>by simp(disch:=decide) only[jb];exact h) (λk L s hk hI hi hn=>?_) (λL s hI=>?_)
 ·refine⟨λj _ hj=>absurd hj (Qbn _),?_⟩;simp(disch:=decide) only[Qam,Qao,z0,z1,jd,jb,and_true,true_and]
 ·obtain⟨h0,i0,i1⟩:=hI;have e:=jqN hb xs[k] a;repeat'(first|(apply jc<;>intro _)|simp(disch:=first|exact dzG|fail) only[ja i0,ja i1,ja hi,ja hn,e,je,jo,jn,jf,jr,jt,jv,jx,ju,rzZ,Qab,Qac,Qad,Qaa,Qae])
  ·rename_i h;exact G0.v (congrArg _ (W8 hk (λj hj=>h0 j (by omega) hj) (by simpa using h)).symm) rfl
  ·rename_i h;refine⟨⟨λj hj hjk=>?_,?_⟩,?_⟩
   ·rcases QaV j k with h2|h2
    ·have:=h0 j hj h2;simpa using this
    ·have:j=k:=by omega
     subst this;simpa using h
   ·simp(disch:=decide) only[Qam,Qao,z0,z1,jd,jb,and_true,true_and,i0,i1]
   ·simp(disch:=decide) only[Qam,Qao,z0,z1,jd,jb,and_true,true_and,hi,hn]
 ·obtain⟨h0,i0,i1⟩:=hI;repeat'(first|(apply jc<;>intro _)|simp(disch:=first|exact dzG|fail) only[je,jo,jn,jf,jr,jt,jv,jx,ju,rzZ,Qab,Qac,Qad,Qaa,Qae])
  exact G0.v (congrArg _ (W7 λj hj=>h0 j hj hj).symm) rfl
theorem jnt (hb:NB base)(xs:List AsT)(hl:xs.length<=BIG)(a:AsT):PL Qaf base 105 [.lst xs.length (fl asE xs),.fn 106 [.lptr (asE a) 0]] (.ok (.bool (decide (0<=fi (λx=>decide (x.name=a.name)) xs)))):=by
 refine Q3 jsx (by rfl) (hb.pur 105 5 (by decide)) rfl ?_;simp only[joz,jp,Qai,Qal,Qag,Qah];rw[(by unfold jjU;simp only[qq];rfl:jjU=_)];have F:∀ (st:St) (K Kp:AV->St->Prop),XB Qaf base 143 [.lst xs.length (fl asE xs),.fn 106 [.lptr (asE a) 0]] st K Kp=_:=λst K Kp=>(jkX hb xs hl a).xb (ZG rfl (JF rfl rfl)) (λst=>hb.no 143 (by decide) _ _) K Kp;repeat'(first|(apply jc<;>intro _)|simp(disch:=first|exact dzG|fail) only[F,je,jo,jn,jf,jr,jt,jv,jx,ju,rzZ,Qab,Qac,Qad,Qaa,Qae])
 exact G0.v rfl rfl
end Go.Sy
end
noncomputable section
set_option maxRecDepth 100000
namespace Go.Sy
open Go.Ev Go.Proofs
variable {base:Bs}
def yR (op:Int):Int×Int:=if op=5\/op=14\/op=15\/op=16 then(1,1) else if op=19\/op=20\/op=21\/op=22 then(1,2) else if op=17\/op=18 then(0,2) else(2,2)
def Wx (op:Int):Bool:=(decide (7<=op) && decide (op<=13)) ||(decide (23<=op) && decide (op<=26))
theorem G0.tupi {s:St}{a b:Int}{u:AV}(h:u=.tup [.int .i64 a,.int .i64 b]):G0 u (.tup [.int .i64 a,.int .i64 b]) s:=by
 subst h;exact FzD.tup (.cons (.pc rfl) (.cons (.pc rfl) .nil))
theorem jmI (hb:NB base)(op:Int):Tot base 137 [.int .i64 op] (.tup [.int .i64 (yR op).1,.int .i64 (yR op).2]):=by
 refine hb.tot ?_ rfl rfl;refine jI jsh (by rfl) (hb.pur 137 1 (by decide)) ?_;simp only[joj,jp,Qai,Qal,Qag,Qah];rw[(by unfold jjE;simp only[qq];rfl:jjE=_)];repeat'(first|(apply jc<;>intro _)|simp(disch:=first|exact dzG|fail) only[je,jo,jn,jf,jr,jt,jv,jx,ju,rzZ,Qab,Qac,Qad,Qaa,Qae])
 all_goals(refine G0.tupi ?_;unfold yR;simp_all)
theorem jo3 (hb:NB base)(op:Int):Tot base 138 [.int .i64 op] (.bool (Wx op)):=by
 refine hb.tot ?_ rfl rfl;refine jI jsg (by rfl) (hb.pur 138 1 (by decide)) ?_;simp only[joi,jp,Qai,Qal,Qag,Qah];rw[(by unfold jjD;simp only[qq];rfl:jjD=_)];repeat'(first|(apply jc<;>intro _)|simp(disch:=first|exact dzG|fail) only[je,jo,jn,jf,jr,jt,jv,jx,ju,rzZ,Qab,Qac,Qad,Qaa,Qae])
 all_goals(refine G0.v (congrArg AV.bool ?_) rfl;rw[QaX];simp only[Wx,Qbc,Qar,decide_eq_true_eq,Qbb,QbG,QaR,decide_eq_false_iff_not,true_iff,false_iff,iff_true,iff_false,not_true_eq_false,not_false_eq_true,ne_eq,eq_self]<;>omega)
def VJ:List Int->Int
 |[]=>0
 |x :: xs=>xs.foldl min x
def VK:List Int->Int
 |[]=>0
 |x :: xs=>xs.foldl max x
theorem jpJ {l:List Int}{k:Nat}(h0:0<k)(h:k<l.length):VJ (l.take (k+1))=min (VJ (l.take k)) l[k]:=by
 match l,k,h0,h with
 |x :: xs,k+1,_,h=>
  have h':k<xs.length:=by simpa using h
  show(xs.take (k+1)).foldl min x=min ((xs.take k).foldl min x) xs[k];rw[y7 h',QbV];rfl
theorem jpK {l:List Int}{k:Nat}(h0:0<k)(h:k<l.length):VK (l.take (k+1))=max (VK (l.take k)) l[k]:=by
 match l,k,h0,h with
 |x :: xs,k+1,_,h=>
  have h':k<xs.length:=by simpa using h
  show(xs.take (k+1)).foldl max x=max ((xs.take k).foldl max x) xs[k];rw[y7 h',QbV];rfl
theorem Kn {S:List Int}{k:Nat}{st:St}{K:AV->St->Prop}(h:k<S.length):jm (yy (.lptr (S.map (AV.int .i64)) k) st) K=K (.int .i64 S[k]) st:=by
 rw[JS (by simpa using h)]
 congr 1
 simp[QaO,h]
theorem jrS (hb:NB base)(l:List Int)(h0:0<l.length)(hl:l.length<=1000000):PX Qaf base 181 [.lst l.length (l.map (AV.int .i64))] (.ok (.int .i64 (VJ l))):=by
 have z:¬ ((l.length:Int)<1):=by omega
 have e1:VJ (l.take 1)=l[0]:=by match l,h0 with|x :: xs,_=>rfl
 refine jI jrW (by rfl) (hb.pur 181 1 (by decide)) ?_;simp only[jnY,jp,Qai,Qal,Qag,Qah];rw[(by unfold jjk;simp only[qq];rfl:jjk=_)];repeat'(first|(apply jc<;>intro _)|simp(disch:=first|exact dzG|fail) only[z,Kn,je,jo,jn,jf,jr,jt,jv,jx,ju,rzZ,Qab,Qac,Qad,Qaa,Qae])
 refine zY (λmm L s=>∃ k:Nat,1<=k/\k<=l.length/\mm=l.length - k/\Has L 0 (.lst l.length (l.map (AV.int .i64)))/\Has L 3 (.int .i64 (VJ (l.take k)))/\Has L 4 (.int .i64 (k:Int))) ?_ (l.length - 1) ?_
 ·rintro m L s ⟨k,hk1,hk,rfl,i0,i3,i4⟩;by_cases hlt:k<l.length
  ·have hlt':(k:Int)<(l.length:Int):=by omega
   have es:=jpJ hk1 hlt;have e2:(((k+1:Nat):Int))=(k:Int)+1:=by omega
   repeat'(first|(apply jc<;>intro _)|simp(disch:=first|exact dzG|fail) only[ja i0,ja i3,ja i4,hlt',Kn,je,jo,jn,jf,jr,jt,jv,jx,ju,rzZ,Qab,Qac,Qad,Qaa,Qae])
   refine⟨l.length - (k+1),by omega,k+1,by omega,by omega,rfl,?_⟩;rw[es];simp(disch:=decide) only[Qam,Qao,z0,z1,jd,jb,and_true,true_and,i0,e2]
  ·have hlt':¬ (k:Int)<(l.length:Int):=by omega
   have hk':k=l.length:=by omega
   subst hk';rw[QaE] at i3;repeat'(first|(apply jc<;>intro _)|simp(disch:=first|exact dzG|fail) only[ja i0,ja i3,ja i4,hlt',je,jo,jn,jf,jr,jt,jv,jx,ju,rzZ,Qab,Qac,Qad,Qaa,Qae])
   exact G0.v rfl rfl
 ·refine⟨1,by omega,by omega,rfl,?_⟩;rw[e1];simp(disch:=decide) only[Qam,Qao,z0,z1,jd,jb,and_true,true_and]
theorem jrT (hb:NB base)(l:List Int)(h0:0<l.length)(hl:l.length<=1000000):PX Qaf base 182 [.lst l.length (l.map (AV.int .i64))] (.ok (.int .i64 (VK l))):=by
 have z:¬ ((l.length:Int)<1):=by omega
 have e1:VK (l.take 1)=l[0]:=by match l,h0 with|x :: xs,_=>rfl
 refine jI jrV (by rfl) (hb.pur 182 1 (by decide)) ?_;simp only[jnX,jp,Qai,Qal,Qag,Qah];rw[(by unfold jjj;simp only[qq];rfl:jjj=_)];repeat'(first|(apply jc<;>intro _)|simp(disch:=first|exact dzG|fail) only[z,Kn,je,jo,jn,jf,jr,jt,jv,jx,ju,rzZ,Qab,Qac,Qad,Qaa,Qae])
 refine zY (λmm L s=>∃ k:Nat,1<=k/\k<=l.length/\mm=l.length - k/\Has L 0 (.lst l.length (l.map (AV.int .i64)))/\Has L 3 (.int .i64 (VK (l.take k)))/\Has L 4 (.int .i64 (k:Int))) ?_ (l.length - 1) ?_
 ·rintro m L s ⟨k,hk1,hk,rfl,i0,i3,i4⟩;by_cases hlt:k<l.length
  ·have hlt':(k:Int)<(l.length:Int):=by omega
   have es:=jpK hk1 hlt;have e2:(((k+1:Nat):Int))=(k:Int)+1:=by omega
   repeat'(first|(apply jc<;>intro _)|simp(disch:=first|exact dzG|fail) only[ja i0,ja i3,ja i4,hlt',Kn,je,jo,jn,jf,jr,jt,jv,jx,ju,rzZ,Qab,Qac,Qad,Qaa,Qae])
   refine⟨l.length - (k+1),by omega,k+1,by omega,by omega,rfl,?_⟩;rw[es];simp(disch:=decide) only[Qam,Qao,z0,z1,jd,jb,and_true,true_and,i0,e2]
  ·have hlt':¬ (k:Int)<(l.length:Int):=by omega
   have hk':k=l.length:=by omega
   subst hk';rw[QaE] at i3;repeat'(first|(apply jc<;>intro _)|simp(disch:=first|exact dzG|fail) only[ja i0,ja i3,ja i4,hlt',je,jo,jn,jf,jr,jt,jv,jx,ju,rzZ,Qab,Qac,Qad,Qaa,Qae])
   exact G0.v rfl rfl
 ·refine⟨1,by omega,by omega,rfl,?_⟩;rw[e1];simp(disch:=decide) only[Qam,Qao,z0,z1,jd,jb,and_true,true_and]
theorem jd2:∀ l:List Int,(l.map (AV.int .i64)).all pc=true
 |[]=>rfl
 |x :: xs=>by rw[Qai,QaY,jd2 xs];rfl
theorem jqT (hb:NB base)(l:List Int)(h0:0<l.length)(hl:l.length<=1000000):PX Qaf base 166 [.lst l.length (l.map (AV.int .i64))] (.ok (.tup [.int .i64 (VJ l),.int .i64 (VK l)])):=by
 have A:=hb.tot (jrS hb l h0 hl) rfl rfl;have B:=hb.tot (jrT hb l h0 hl) rfl rfl;refine jI jr0 (by rfl) (hb.pur 166 1 (by decide)) ?_;simp only[jn2,jp,Qai,Qal,Qag,Qah];rw[(by unfold jjo;simp only[qq];rfl:jjo=_)];repeat'(first|(apply jc<;>intro _)|simp(disch:=first|exact dzG|fail) only[A,B,je,jo,jn,jf,jr,jt,jv,jx,ju,rzZ,Qab,Qac,Qad,Qaa,Qae])
 exact G0.tupi rfl
theorem jhh (hb:NB base)(l:List Int){cs:List AV}{n:Nat}(hc:l.map (AV.int .i64)=cs)(hn:l.length=n)(h0:0<n)(hl:n<=1000000)(st:St)(b m:Nat)(x:Bool)(D:Cl st b cs)(K Kp:AV->St->Prop) :
  XB Qaf base 166 [.slice b 0 n m 1 x] st K Kp=K (.tup [.int .i64 (VJ l),.int .i64 (VK l)]) (kl b st):=by
 subst hc hn;have F:Fza st [.slice b 0 l.length m 1 x] [.lst l.length (l.map (AV.int .i64))] [b]:=Fza.sl D (by simp) (jd2 l) .nil;exact(jqT hb l h0 hl).xf F (λst=>hb.no 166 (by decide) _ _) K Kp
def Jc (op:Int)(a b:MtT):Int×Int:=
 if op=5 then(min (-a.lo) (-a.hi),max (-a.lo) (-a.hi))
 else if op=15 then(min (a.lo+b.lo) (a.hi+b.hi),max (a.lo+b.lo) (a.hi+b.hi))
 else if op=16 then(min (a.lo - b.hi) (a.hi - b.lo),max (a.lo - b.hi) (a.hi - b.lo))
 else(min (min (min (a.lo * b.lo) (a.lo * b.hi)) (a.hi * b.lo)) (a.hi * b.hi),max (max (max (a.lo * b.lo) (a.lo * b.hi)) (a.hi * b.lo)) (a.hi * b.hi))
def wi (m:MtT):Prop:=-100000000<=m.lo/\m.lo<=100000000/\-100000000<=m.hi/\m.hi<=100000000
theorem K1 {a b:Int}(h1 : -100000000<=a)(h2:a<=100000000)(h3 : -100000000<=b)(h4:b<=100000000) : -10000000000000000<=a * b/\a * b<=10000000000000000:=by
 have e:a.natAbs * b.natAbs<=100000000 * 100000000:=Nat.mul_le_mul (by omega) (by omega);have e2:(a * b).natAbs=a.natAbs * b.natAbs:=Int.natAbs_mul a b;omega
set_option maxHeartbeats 1000000 in
theorem jjb (hb:NB base)(op:Int)(ms:List MtT)(h0:0<ms.length)(hl:ms.length<=2)(he:∀ m∈ms,wi m)(a b:MtT)(ha:ms[0]=a)(hb2:ms[ms.length - 1]=b) :
  PX Qaf base 139 [.int .i64 op,.lst ms.length (fl mtE ms)] (.ok (.tup [.int .i64 (Jc op a b).1,.int .i64 (Jc op a b).2])):=by
 obtain⟨a1,a2,a3,a4⟩:=ha▸he _ (Qay h0);obtain⟨b1,b2,b3,b4⟩:=hb2▸he _ (Qay (show ms.length - 1<ms.length by omega));have m1:=K1 a1 a2 b1 b2;have m2:=K1 a1 a2 b3 b4;have m3:=K1 a3 a4 b1 b2;have m4:=K1 a3 a4 b3 b4;have ld0:∀ (st:St) (K:AV->St->Prop),jm (Je 4 (.lptr (fl mtE ms) 0) st) K=K (.agg (mtE a)) st:=λst K=>by
  have:=jax (st:=st) (K:=K) h0;rw[Qbv,ha] at this;exact this
 have ld1:∀ (st:St) (K:AV->St->Prop),jm (Je 4 (.lptr (fl mtE ms) ((ms.length - 1) * 4)) st) K=K (.agg (mtE b)) st:=λst K=>by
  have:=jax (st:=st) (K:=K) (show ms.length - 1<ms.length by omega);rw[hb2] at this;exact this
 have el:((ms.length:Int) - 1).toNat=ms.length - 1:=by omega
 have S2:=λ(p q:Int)=>jhh hb [p,q] (cs:=[.int .i64 p,.int .i64 q]) (n:=2) rfl rfl (by decide) (by decide);have S4:=λ(p q r t:Int)=>jhh hb [p,q,r,t] (cs:=[.int .i64 p,.int .i64 q,.int .i64 r,.int .i64 t]) (n:=4) rfl rfl (by decide) (by decide);have Sa:=S2 (-a.lo) (-a.hi);have Sb:=S2 (a.lo+b.lo) (a.hi+b.hi);have Sc:=S2 (a.lo - b.hi) (a.hi - b.lo);have Sd:=S4 (a.lo * b.lo) (a.lo * b.hi) (a.hi * b.lo) (a.hi * b.hi);clear S2 S4;clear he;refine jI jsf (by rfl) (hb.pur 139 1 (by decide)) ?_;simp only[joh,jp,Qai,Qal,Qag,Qah];rw[(by unfold jjC;simp only[qq];rfl:jjC=_)];repeat'(first|(apply jc<;>intro _)|simp(disch:=first|exact dzG|fail) only[el,ld0,ld1,Sa,Sb,Sc,Sd,je,jo,jn,jf,jr,jt,jv,jx,ju,rzZ,Qab,Qac,Qad,Qaa,Qae])
 all_goals(refine G0.tupi ?_;unfold Jc VJ VK;simp_all)
end Go.Sy
end
noncomputable section
set_option maxRecDepth 100000
namespace Go.Sy
open Go.Ev Go.Proofs
variable {base:Bs}
inductive KR (α:Type) where
 |ok (x:α)
 |er (c l k:Int)
def qA (vars:List VarT)(s:List Nat):Int:=fi (λx=>decide (x.name=s)) vars
theorem jiu (hb:NB base)(vars:List VarT)(hl:vars.length<=BIG)(s:List Nat)(st:St)(b:Nat)(C:Cl st b [.str s])(K Kp:AV->St->Prop) :
  XB Qaf base 141 [.lst vars.length (fl vaE vars),.fn 142 [.ptr b 0]] st K Kp=K (.int .i64 (qA vars s)) st:=by
 refine(jit hb vars hl s).xb (ZG rfl (JF ?_ rfl)) (λst=>hb.no 141 (by decide) _ _) K Kp;show(Xs st.h [.ptr b 0]).map (AV.fn 142)=_;have:wB st.h (.ptr b 0)=some (.lptr [.str s] 0):=WX C (QB (W0 8 rfl) rfl GB);simp only[Xs,this];rfl
theorem Kl (hb:NB base)(vars:List VarT)(hl:vars.length<=BIG)(s:List Nat)(r:List AV):PL Qaf base 104 [.lptr (.lst vars.length (fl vaE vars) :: r) 0,.str s] (.ok (.int .i64 (qA vars s))):=by
 refine Q3 jsy (by rfl) (hb.pur 104 5 (by decide)) rfl ?_;simp only[joA,jp,Qai,Qal,Qag,Qah];rw[(by unfold jjV;simp only[qq];rfl:jjV=_)];have F:=jiu hb vars hl s;repeat'(first|(apply jc<;>intro _)|simp(disch:=first|exact dzG|fail) only[F,JS,je,jo,jn,jf,jr,jt,jv,jx,ju,rzZ,Qab,Qac,Qad,Qaa,Qae])
 exact G0.v rfl rfl
def zQ:List EnumT->List Nat->List Nat×Int
 |[],_=>([],-1)
 |e :: es,nm=>if 0<=fi (λv=>decide (nm=v)) e.vals then(e.name,fi (λv=>decide (nm=v)) e.vals) else zQ es nm
theorem jbk:∀ {es:List EnumT} {nm:List Nat} {k:Nat} (h:k<es.length),(∀ j (hj:j<es.length),j<k->fi (λv=>decide (nm=v)) es[j].vals<0)->0<=fi (λv=>decide (nm=v)) es[k].vals->zQ es nm=(es[k].name,fi (λv=>decide (nm=v)) es[k].vals)
 |e :: es,nm,0,h,_,h2=>by simp only[Qbx] at h2 ⊢;rw[zQ,if_pos h2]
 |e :: es,nm,k+1,h,h1,h2=>by
  have h0:=h1 0 (by simp) (by omega);simp only[Qbx] at h0;rw[zQ,if_neg (by omega)];simp only[QbD] at h2 ⊢;exact jbk (by simpa using h) (λj hj hjk=>by have:=h1 (j+1) (by simpa using hj) (by omega);simpa only[QbD] using this) h2
theorem jbj:∀ {es:List EnumT} {nm:List Nat},(∀ j (hj:j<es.length),fi (λv=>decide (nm=v)) es[j].vals<0)->zQ es nm=([],-1)
 |[],nm,_=>rfl
 |e :: es,nm,h=>by
  have h0:=h 0 (by simp);simp only[Qbx] at h0;rw[zQ,if_neg (by omega)];exact jbj λj hj=>by have:=h (j+1) (by simpa using hj);simpa only[QbD] using this
theorem jc6 {s:St}{a:List Nat}{b:Int}{u:AV}(h:u=.tup [.str a,.int .i64 b]):G0 u (.tup [.str a,.int .i64 b]) s:=by
 subst h;exact FzD.tup (.cons (.pc rfl) (.cons (.pc rfl) .nil))
theorem jmL (hb:NB base)(enums:List EnumT)(hl:enums.length<=BIG)(hv:∀ e∈enums,e.vals.length<=1000000)(nm:List Nat)(v:AV)(r:List AV):PL Qaf base 165 [.lptr (v :: .lst enums.length (fl enE enums) :: r) 0,.str nm] (.ok (.tup [.str (zQ enums nm).1,.int .i64 (zQ enums nm).2])):=by
 refine Q3 jr1 (by rfl) (hb.pur 165 5 (by decide)) rfl ?_;simp only[jn3,jp,Qai,Qal,Qag,Qah];rw[(by unfold jjp;simp only[qq];rfl:jjp=_)];unfold BIG at hl;repeat'(first|(apply jc<;>intro _)|simp(disch:=first|exact dzG|fail) only[JS,je,jo,jn,jf,jr,jt,jv,jx,ju,rzZ,Qab,Qac,Qad,Qaa,Qae])
 refine qy enums.length (λk L s=>(∀ j (hj:j<enums.length),j<k->fi (λv=>decide (nm=v)) enums[j].vals<0)/\Has L 1 (.str nm)/\Has L 13 (.lst enums.length (fl enE enums))) (by first|assumption|omega) (by decide) (by simp(disch:=decide) only[jd,jb]) (by simp(disch:=decide) only[jd,jb]) ?_ (λk L s v h=>by simp(disch:=decide) only[jb];exact h) (λk L s v h=>by simp(disch:=decide) only[jb];exact h) (λk L s hk hI hi hn=>?_) (λL s hI=>?_)
 ·refine⟨λj _ hj=>absurd hj (Qbn _),?_⟩;simp(disch:=decide) only[Qam,Qao,z0,z1,jd,jb,and_true,true_and]
 ·obtain⟨h0,i1,i13⟩:=hI;have X:=jmF hb enums[k].vals (hv _ (Qay hk)) nm;repeat'(first|(apply jc<;>intro _)|simp(disch:=first|exact dzG|fail) only[ja i1,ja i13,ja hi,ja hn,X,je,jo,jn,jf,jr,jt,jv,jx,ju,rzZ,Qab,Qac,Qad,Qaa,Qae])
  ·rename_i h;refine jc6 ?_;rw[jbk hk h0 (by omega)]
  ·rename_i h;refine⟨⟨λj hj hjk=>?_,?_⟩,?_⟩
   ·rcases QaV j k with h2|h2
    ·exact h0 j hj h2
    ·have:j=k:=by omega
     subst this;omega
   ·simp(disch:=decide) only[Qam,Qao,z0,z1,jd,jb,and_true,true_and,i1,i13]
   ·simp(disch:=decide) only[Qam,Qao,z0,z1,jd,jb,and_true,true_and,hi,hn]
 ·obtain⟨h0,i1,i13⟩:=hI;repeat'(first|(apply jc<;>intro _)|simp(disch:=first|exact dzG|fail) only[je,jo,jn,jf,jr,jt,jv,jx,ju,rzZ,Qab,Qac,Qad,Qaa,Qae])
  refine jc6 ?_;rw[jbj λj hj=>h0 j hj hj];rfl
def mt0:MtT:=⟨0,[],0,0⟩
def zW (vars:List VarT)(enums:List EnumT)(x:Ex):KR (Ex×MtT):=
 if 0<=qA vars x.name then
  (let v:=vars.getD (qA vars x.name).toNat ⟨[],0,[],0,0,false,0⟩
   .ok (.mk 4 (qA vars x.name) [] [] x.line x.col,⟨v.kind,v.enum,v.lo,v.hi⟩))
 else if(zQ enums x.name).2<0 then .er 161 x.line x.col
 else .ok (.mk 1 (zQ enums x.name).2 [] [] x.line x.col,⟨3,(zQ enums x.name).1,(zQ enums x.name).2,(zQ enums x.name).2⟩)
def kO (r:KR (Ex×MtT)):Oc:=match r with
 |.ok x=>.ok (.tup [.agg (eE x.1),.agg (mtE x.2)])
 |.er c l k=>.pn (kf c l k)
theorem wG {α:Type}{q:α->Bool}:∀ {xs:List α},fi q xs<(xs.length:Int)
 |[]=>by simp[fi]
 |x :: xs=>by
  have:=wG (q:=q) (xs:=xs);have hl:((x :: xs).length:Int)=(xs.length:Int)+1:=by simp
  rw[hl];unfold fi;split
  ·omega
  ·split<;>omega
set_option maxHeartbeats 1000000 in
theorem jnf (hb:NB base)(vars:List VarT)(enums:List EnumT)(hl:vars.length<=BIG)(hl2:enums.length<=BIG)(hv:∀ e∈enums,e.vals.length<=1000000)(x:Ex)(r:List AV) :
  PL Qaf base 136 [.lptr (.lst vars.length (fl vaE vars) :: .lst enums.length (fl enE enums) :: r) 0,.agg (eE x)] (kO (zW vars enums x)):=by
 have V:=λst K Kp=>(Kl hb vars hl x.name (.lst enums.length (fl enE enums) :: r)).pa (by rfl) (λst=>hb.no 104 (by decide) _ _) st K Kp;have W:=λst K Kp=>(jmL hb enums hl2 hv x.name (.lst vars.length (fl vaE vars)) r).pa (by rfl) (λst=>hb.no 165 (by decide) _ _) st K Kp;have VT:=qA vars x.name;by_cases h1:0<=qA vars x.name
 ·have hlt:qA vars x.name<(vars.length:Int):=wG;have hlt2:(qA vars x.name).toNat<vars.length:=by omega
  obtain⟨v,hv⟩:∃ v,vars[(qA vars x.name).toNat]=v:=⟨_,rfl⟩;have hn:zW vars enums x=.ok (.mk 4 (qA vars x.name) [] [] x.line x.col,⟨v.kind,v.enum,v.lo,v.hi⟩):=by
   unfold zW;rw[if_pos h1];simp only[QaB,Qav hlt2,Qbd,hv]
  rw[hn];refine Q3 jj4 (by rfl) (hb.pur 136 5 (by decide)) (by rfl) ?_;simp only[jeR,jp,Qai,Qal,Qag,Qah];rw[(by unfold kC;simp only[qq];rfl:kC=_)]
  (have zz:=aI @yY @yX;(repeat'(first|(apply jc<;>intro _)|simp(disch:=first|exact qu|fail) only[V,h1,JS,hv,sm3,sm9,sm2,yY,yX,je,jo,jn,jf,jr,jt,jv,jx,ju,rzZ,Qab,Qac,Qad,Qaa,Qae]));(all_goals(clear zz)))
  exact FzD.tup (.cons YH (.cons (.agg (.pc rfl)) .nil))
 ·have h1':qA vars x.name<0:=by omega
  by_cases h2:(zQ enums x.name).2<0
  ·have hn:zW vars enums x=.er 161 x.line x.col:=by unfold zW;rw[if_neg h1,if_pos h2]
   rw[hn];refine Q3 jj4 (by rfl) (hb.pur 136 5 (by decide)) (by rfl) ?_;simp only[jeR,jp,Qai,Qal,Qag,Qah];rw[(by unfold kC;simp only[qq];rfl:kC=_)];repeat'(first|(apply jc<;>intro _)|simp(disch:=first|exact dzG|fail) only[V,W,h1,h2,Ji hb,JS,kO,je,jo,jn,jf,jr,jt,jv,jx,ju,rzZ,Qab,Qac,Qad,Qaa,Qae])
   exact FzD.iface (FzD.agg (.pc rfl))
  ·have hn:zW vars enums x=.ok (.mk 1 (zQ enums x.name).2 [] [] x.line x.col,⟨3,(zQ enums x.name).1,(zQ enums x.name).2,(zQ enums x.name).2⟩):=by unfold zW;rw[if_neg h1,if_neg h2]
   rw[hn];refine Q3 jj4 (by rfl) (hb.pur 136 5 (by decide)) (by rfl) ?_;simp only[jeR,jp,Qai,Qal,Qag,Qah];rw[(by unfold kC;simp only[qq];rfl:kC=_)];repeat'(first|(apply jc<;>intro _)|simp(disch:=first|exact dzG|fail) only[V,W,h1,h2,JS,je,jo,jn,jf,jr,jt,jv,jx,ju,rzZ,Qab,Qac,Qad,Qaa,Qae])
   exact FzD.tup (.cons YH (.cons (.agg (.pc rfl)) .nil))
end Go.Sy
end
noncomputable section
set_option maxRecDepth 100000
namespace Go.Sy
open Go.Ev Go.Proofs
variable {base:Bs}
def jge (part:Int)(ms:List MtT):Bool:=ms.any λm=>(decide (0<part) && decide (m.kind≠part)) ||decide (m.kind≠(ms.getD 0 mt0).kind) ||decide (m.enum≠(ms.getD 0 mt0).enum)
def YI (fm:Bool)(op num:Int)(name:List Nat)(l c:Int)(ys:List Ex)(ms:List MtT):KR (Ex×MtT):=
 if ms.length=0\/2<ms.length\/(Wx op=true/\fm=false)\/jge (yR op).1 ms=true then .er 163 l c
 else if(yR op).2≠1 then .ok (.mk op num name ys l c,⟨(yR op).2,[],0,1⟩)
 else if(Jc op (ms.getD 0 mt0) (ms.getD (ms.length - 1) mt0)).1 < -100000000\/100000000<(Jc op (ms.getD 0 mt0) (ms.getD (ms.length - 1) mt0)).2 then .er 165 l c
 else .ok (.mk op num name ys l c,⟨(yR op).2,[],(Jc op (ms.getD 0 mt0) (ms.getD (ms.length - 1) mt0)).1,(Jc op (ms.getD 0 mt0) (ms.getD (ms.length - 1) mt0)).2⟩)
mutual
def yF (vars:List VarT)(enums:List EnumT):Bool->Ex->KR (Ex×MtT)
 |fm,.mk op num name ks l c=>
  if op=1 then .ok (.mk op num name ks l c,⟨1,[],num,num⟩)
  else if op=2 then .ok (.mk op num name ks l c,⟨2,[],0,1⟩)
  else if op=3 then zW vars enums (.mk op num name ks l c)
  else match qv vars enums (fm && decide (op≠17) && decide (op≠18)) ks with
   |.er a b d=>.er a b d
   |.ok r=>YI fm op num name l c r.1 r.2
def qv (vars:List VarT)(enums:List EnumT):Bool->List Ex->KR (List Ex×List MtT)
 |_,[]=>.ok ([],[])
 |fm,x :: xs=>match yF vars enums fm x with
  |.er a b d=>.er a b d
  |.ok y=>match qv vars enums fm xs with
   |.er a b d=>.er a b d
   |.ok r=>.ok (y.1 :: r.1,y.2 :: r.2)
end
theorem Hs {vars:List VarT}{enums:List EnumT}{fm:Bool}:∀ {xs:List Ex} {ys:List Ex} {ms:List MtT} {x y:Ex} {m:MtT},qv vars enums fm xs=.ok (ys,ms)->yF vars enums fm x=.ok (y,m)->qv vars enums fm (xs ++ [x])=.ok (ys ++ [y],ms ++ [m])
 |[],ys,ms,x,y,m,h,h2=>by
  simp only[qv] at h;cases h;simp only[QaF,qv,h2]
 |z :: xs,ys,ms,x,y,m,h,h2=>by
  simp only[qv] at h;cases hz:yF vars enums fm z with
  |er a b d=>rw[hz] at h;cases h
  |ok w=>
   rw[hz] at h;cases hr:qv vars enums fm xs with
   |er a b d=>rw[hr] at h;cases h
   |ok r=>
    rw[hr] at h;cases h;obtain⟨r1,r2⟩:=r;simp only[Qaw,qv,hz,Hs hr h2]
theorem Ht {vars:List VarT}{enums:List EnumT}{fm:Bool}:∀ {xs:List Ex} {ys:List Ex} {ms:List MtT} {x:Ex} {a b d:Int} (zs:List Ex),qv vars enums fm xs=.ok (ys,ms)->yF vars enums fm x=.er a b d->qv vars enums fm (xs ++ x :: zs)=.er a b d
 |[],ys,ms,x,a,b,d,zs,h,h2=>by simp only[QaF,qv,h2]
 |z :: xs,ys,ms,x,a,b,d,zs,h,h2=>by
  simp only[qv] at h;cases hz:yF vars enums fm z with
  |er a b d=>rw[hz] at h;cases h
  |ok w=>
   rw[hz] at h;cases hr:qv vars enums fm xs with
   |er a b d=>rw[hr] at h;cases h
   |ok r=>
    rw[hr] at h;cases h;obtain⟨r1,r2⟩:=r;simp only[Qaw,qv,hz,Ht zs hr h2]
theorem QW {vars:List VarT}{enums:List EnumT}{fm:Bool}:∀ {xs:List Ex} {ys:List Ex} {ms:List MtT},qv vars enums fm xs=.ok (ys,ms)->ys.length=xs.length/\ms.length=xs.length
 |[],ys,ms,h=>by simp only[qv] at h;cases h;exact⟨rfl,rfl⟩
 |z :: xs,ys,ms,h=>by
  simp only[qv] at h;cases hz:yF vars enums fm z with
  |er a b d=>rw[hz] at h;cases h
  |ok w=>
   rw[hz] at h;cases hr:qv vars enums fm xs with
   |er a b d=>rw[hr] at h;cases h
   |ok r=>
    rw[hr] at h;cases h;obtain⟨r1,r2⟩:=r;have:=QW hr;simp[this.1,this.2]
theorem WY (vars:List VarT)(enums:List EnumT)(fm:Bool)(x:Ex):yF vars enums fm x=if x.op=1 then .ok (x,⟨1,[],x.num,x.num⟩) else if x.op=2 then .ok (x,⟨2,[],0,1⟩) else if x.op=3 then zW vars enums x else match qv vars enums (fm && decide (x.op≠17) && decide (x.op≠18)) x.kids with
 |.er a b d=>.er a b d
 |.ok r=>YI fm x.op x.num x.name x.line x.col r.1 r.2:=by cases x;rw[yF];rfl
structure VarsOK (vars:List VarT)(enums:List EnumT):Prop where
 len:vars.length<=1000000
 len2:enums.length<=1000000
 vals:∀ e∈enums,e.vals.length<=1000000
 ends:∀ v∈vars,-100000000<=v.lo/\v.lo<=100000000/\-100000000<=v.hi/\v.hi<=100000000
mutual
def ZR:Ex->Bool
 |.mk op num _ ks _ _=>(decide (op≠1) ||(decide (-100000000<=num) && decide (num<=100000000))) && Qy ks
def Qy:List Ex->Bool
 |[]=>true
 |x :: xs=>ZR x && Qy xs
end
theorem jj8 {enums:List EnumT}{nm:List Nat}(h:∀ e∈enums,e.vals.length<=1000000) : -1<=(zQ enums nm).2/\(zQ enums nm).2<=1000000:=by
 induction enums with
 |nil=>simp[zQ]
 |cons e es ih=>
  rw[zQ];have h1:=h e (by simp);have h2:=wG (q:=λv=>decide (nm=v)) (xs:=e.vals);split
  ·dsimp only;omega
  ·exact ih λe he=>h e (by simp[he])
theorem jdd {vars:List VarT}{enums:List EnumT}(V:VarsOK vars enums){x y:Ex}{m:MtT}(h:zW vars enums x=.ok (y,m)):wi m:=by
 unfold zW at h;split at h
 ·rename_i h1;cases h;have hlt:qA vars x.name<(vars.length:Int):=wG;have hlt2:(qA vars x.name).toNat<vars.length:=by omega
  have:vars.getD (qA vars x.name).toNat ⟨[],0,[],0,0,false,0⟩∈vars:=by
   rw[QaB,Qav hlt2];exact Qay hlt2
  exact V.ends _ this
 ·split at h
  ·cases h
  ·cases h;have:=jj8 (nm:=x.name) V.vals;unfold wi;dsimp only;omega
mutual
theorem jfz {vars:List VarT}{enums:List EnumT}(V:VarsOK vars enums):∀ (fm:Bool) (x y:Ex) (m:MtT),ZR x=true->yF vars enums fm x=.ok (y,m)->wi m
 |fm,.mk op num name ks l c,y,m,hn,h=>by
  rw[ZR,Qar] at hn;rw[yF] at h;split at h
  ·rename_i h1;cases h;have:=hn.1;simp[h1] at this;exact⟨this.1,this.2,this.1,this.2⟩
  ·split at h
   ·cases h;unfold wi;dsimp only;omega
   ·split at h
    ·exact jdd V h
    ·split at h
     ·cases h
     ·rename_i r hr;unfold YI at h;split at h
      ·cases h
      ·split at h
       ·cases h;unfold wi;dsimp only;omega
       ·split at h
        ·cases h
        ·rename_i h5;cases h;unfold wi;dsimp only;have e:(Jc op (r.2.getD 0 mt0) (r.2.getD (r.2.length - 1) mt0)).1<=(Jc op (r.2.getD 0 mt0) (r.2.getD (r.2.length - 1) mt0)).2:=by
          unfold Jc;split
          ·dsimp only;omega
          ·split
           ·dsimp only;omega
           ·split
            ·dsimp only;omega
            ·dsimp only;omega
         omega
end
theorem kr {vars:List VarT}{enums:List EnumT}(V:VarsOK vars enums){fm:Bool}:∀ {xs ys:List Ex} {ms:List MtT},Qy xs=true->qv vars enums fm xs=.ok (ys,ms)->∀ m∈ms,wi m
 |[],ys,ms,_,h,m,hm=>by simp only[qv] at h;cases h;cases hm
 |z :: xs,ys,ms,hn,h,m,hm=>by
  rw[Qy,Qar] at hn;simp only[qv] at h;cases hz:yF vars enums fm z with
  |er a b d=>rw[hz] at h;cases h
  |ok w=>
   rw[hz] at h;cases hr:qv vars enums fm xs with
   |er a b d=>rw[hr] at h;cases h
   |ok r=>
    rw[hr] at h;cases h;obtain⟨r1,r2⟩:=r;obtain⟨w1,w2⟩:=w;rcases Qbh.1 hm with rfl|hm
    ·exact jfz V fm z w1 _ hn.1 hz
    ·exact kr V hn.2 hr m hm
theorem Hh:∀ {xs:List Ex} {k:Nat} (h:k<xs.length),Qy xs=true->ZR xs[k]=true
 |x :: xs,0,_,h=>by rw[Qy,Qar] at h;exact h.1
 |x :: xs,k+1,hk,h=>by rw[Qy,Qar] at h;exact Hh (xs:=xs) (k:=k) (by simpa using hk) h.2
end Go.Sy
end
noncomputable section
set_option maxRecDepth 100000
namespace Go.Sy
open Go.Ev Go.Proofs
variable {base:Bs}
structure Ck (p:Nat)(v1 v2 v3 mm:AV)(vars:List VarT)(enums:List EnumT)(fm:Bool)(s:St):Prop where
 cl:Cl s p [v1,v2,v3,mm,.bool fm]
 l1:Lr s v1 vars.length (fl vaE vars)
 l2:Lr s v2 enums.length (fl enE enums)
 n1:∀ b m z x,v1=.slice b 0 vars.length m z x->b≠p
 n2:∀ b m z x,v2=.slice b 0 enums.length m z x->b≠p
section
variable {p:Nat} {v1 v2 v3 mm:AV} {vars:List VarT} {enums:List EnumT} {fm:Bool} {s s':St}
theorem Ck.keep (h:Ck p v1 v2 v3 mm vars enums fm s)(k:Keep p s s'){fm':Bool}(C:Cl s' p [v1,v2,v3,mm,.bool fm']):Ck p v1 v2 v3 mm vars enums fm' s':=⟨C,k.lr h.l1 h.n1,k.lr h.l2 h.n2,h.n1,h.n2⟩
theorem Ck.lend (h:Ck p v1 v2 v3 mm vars enums fm s):∃ r,lend s.h (.ptr p 0)=some (.lptr (.lst vars.length (fl vaE vars) :: .lst enums.length (fl enE enums) :: r) 0):=by
 have e1:=h.l1.fz (d:=7) (Jn XN vars);have e2:=h.l2.fz (d:=7) (Jn JI enums);exact⟨_,WX h.cl (QB e1 rfl (QB e2 rfl rfl))⟩
end
set_option maxHeartbeats 4000000 in
theorem jng (hb:NB base){vars:List VarT}{enums:List EnumT}(V:VarsOK vars enums)(x:Ex){p:Nat}{v1 v2 v3 mm:AV}{fm:Bool}(st:St)(C:Ck p v1 v2 v3 mm vars enums fm st)(K Kp:AV->St->Prop) :
  XB Qaf base 136 [.ptr p 0,.agg (eE x)] st K Kp=YG (kO (zW vars enums x)) K Kp st:=by
 obtain⟨r,hr⟩:=C.lend;have h1:=V.len;have h2:=V.len2;exact(jnf hb vars enums (by unfold BIG;omega) (by unfold BIG;omega) V.vals x r).xb (JF hr (ZG (by first|rfl|simp[pa,pc,q8,Qs,JI,Jj,XN,Za,Zf,Yt,Yp]) rfl)) (λst=>hb.no 136 (by decide) _ _) K Kp
def z6:List AV:=[.int .i64 0,.int .i64 0,.str [],.nils,.int .i64 0,.int .i64 0]
def z4:List AV:=[.int .i64 0,.str [],.int .i64 0,.int .i64 0]
def KC (p:Nat)(v1 v2 v3 mm:AV)(fm:Bool)(st:St)(r:KR (Ex×MtT))(K Kp:AV->St->Prop):Prop:=match r with
 |.ok y=>∀ s',Keep p st s'->Cl s' p [v1,v2,v3,mm,.bool fm]->K (.tup [.agg (eE y.1),.agg (mtE y.2)]) s'
 |.er c l k=>∀ s',Keep p st s'->Kp (kf c l k) s'
theorem jnF {st s:St}{b:Nat}{cs:List AV}:Cl (back st s) b cs=Cl s b cs:=propext ⟨λh=>⟨h.lt,h.row,h.len,h.cell⟩,λh=>⟨h.lt,h.row,h.len,h.cell⟩⟩
theorem Cl.kills {s:St}{b:Nat}{cs:List AV}{ks:List Nat}(C:Cl s b cs)(h:b∉ks):Cl (kills ks s) b cs:=C.keep (Qaq _) (by
 show jz (ks.foldr _ s.h) b=_;rw[YT,if_neg h])
theorem UT {p:Nat}{st s:St}{v u:AV}{cs:List AV}{K:AV->St->Prop}{m:Nat}(F:FzD m 9 s v u)(hm:st.nx<=m)(hp:p<st.nx)(k:Keep p st.bare s)(C:Cl s p cs)(hK:∀ s',Keep p st s'->Cl s' p cs->K u s') :
  ∃ u ks,fz 9 s.h v=some (u,ks)/\K u (back st (kills ks s)):=by
 obtain⟨ks,e,h⟩:=F;have hnx:st.bare.nx=st.nx:=rfl;refine⟨u,ks,e,hK _ (Keep.bare (k.kills λc hc=>by have:=h c hc;omega) st) ?_⟩;rw[jnF];exact C.kills λhm=>by have:=h p hm;omega
theorem Y0 {p:Nat}{st s:St}(k:Keep p st.bare s):Keep p st (bk st s):=⟨k.nx,rfl,k.get⟩
def iQ (st:St)(K:AV->St->Prop):Out->Prop:=QE Qaf y97.res λv s=>∃ u ks,fz 9 s.h v=some (u,ks)/\K u (back st (kills ks s))
def iP (st:St)(Kp:AV->St->Prop):AV->Sl->St->Prop:=λv _ s=>Kp v (bk st s)
structure KS (p q:Nat)(v1 v2 v3 mm:AV)(x:Ex)(fm:Bool)(st:St)(ys:List Ex)(ms:List MtT)(vk vm:AV)(L:Sl)(s:St):Prop where
 keep:Keep p st.bare s
 nx:q+4<=s.nx
 qn:q=st.nx
 hp:p<q
 cp:Cl s p [v1,v2,v3,mm,.bool fm]
 c0:Cl s q (eE x)
 c1:Cl s (q+1) z6
 c2:Cl s (q+2) z4
 c3:Cl s (q+3) [.int .i64 x.op,.int .i64 x.num,.str x.name,vk,.int .i64 x.line,.int .i64 x.col]
 lk:Lv (q+4) s.nx s vk ys.length (fl eE ys) 6
 lm:Lv (q+4) s.nx s vm ms.length (fl mtE ms) 4
 df:Df vk vm
 i0:Has L 0 (.ptr p 0)
 i3:Has L 3 (.ptr q 0)
 i4:Has L 4 (.ptr (q+1) 0)
 i5:Has L 5 (.ptr (q+2) 0)
 i6:Has L 6 (.ptr (q+3) 0)
 i7:Has L 7 vm
def Kc (fm:Bool)(op:Int)(ms:List MtT):Bool:=decide (ms.length=0) ||decide (2<ms.length) ||(Wx op && !fm) ||jge (yR op).1 ms
theorem jkN {fm:Bool}{op num:Int}{name:List Nat}{l c:Int}{ys:List Ex}{ms:List MtT}(h:Kc fm op ms=true):YI fm op num name l c ys ms=.er 163 l c:=by
 unfold YI;unfold Kc at h;simp only[Qbc,decide_eq_true_eq,Qar,QaR] at h;rw[if_pos (by simpa only[or_assoc] using h)]
theorem jqL {fm:Bool}{op:Int}{ms:List MtT}(h:Kc fm op ms=false):¬ (ms.length=0\/2<ms.length\/(Wx op=true/\fm=false)\/jge (yR op).1 ms=true):=by
 intro h2;have:Kc fm op ms=true:=by
  unfold Kc;simp only[Qbc,decide_eq_true_eq,Qar,QaR];simpa only[or_assoc] using h2
 rw[this] at h;cases h
theorem Lv.klD {lo hi n z:Nat}{s:St}{v:AV}{cs:List AV}{b o m1 m2 z2:Nat}{x:Bool}(V:Lv lo hi s v n cs z)(h:Df v (.slice b o m1 m2 z2 x)):Lv lo hi (kl b s) v n cs z:=by
 rcases V with e|⟨c,rfl,h2,h3,h4,h5,h6⟩
 ·exact .inl e
 ·exact .inr ⟨c,rfl,h2,h3,(jN (λe=>h e.symm)).symm▸h4,h5,h6⟩
theorem jhJ (hb:NB base)(op:Int)(ms:List MtT)(h0:0<ms.length)(hl:ms.length<=2)(he:∀ m∈ms,wi m)(st:St)(b m:Nat)(y:Bool)(D:Cl st b (fl mtE ms))(K Kp:AV->St->Prop) :
  XB Qaf base 139 [.int .i64 op,.slice b 0 ms.length m 4 y] st K Kp=K (.tup [.int .i64 (Jc op (ms.getD 0 mt0) (ms.getD (ms.length - 1) mt0)).1,.int .i64 (Jc op (ms.getD 0 mt0) (ms.getD (ms.length - 1) mt0)).2]) (kl b st):=by
 have e0:ms[0]=ms.getD 0 mt0:=by simp[QaO,h0]
 have e1:ms[ms.length - 1]=ms.getD (ms.length - 1) mt0:=by simp[QaO,show ms.length - 1<ms.length by omega]
 have F:Fza st [.int .i64 op,.slice b 0 ms.length m 4 y] [.int .i64 op,.lst ms.length (fl mtE ms)] [b]:=Fza.pa rfl (Fza.sl D (JX Yq ms).symm (Jn Yp ms) .nil);exact(jjb hb op ms h0 hl he _ _ e0 e1).xf F (λst=>hb.no 139 (by decide) _ _) K Kp
set_option maxHeartbeats 4000000 in
theorem jp9 (hb:NB base){p q:Nat}{v1 v2 v3 mm:AV}{x:Ex}{fm b:Bool}{st:St}{ys:List Ex}{ms:List MtT}{vk vm:AV}{L:Sl}{s:St}(S:KS p q v1 v2 v3 mm x fm st ys ms vk vm L s)(hb2:Kc fm x.op ms=b)(he:∀ m∈ms,wi m)
  (i13:Has L 13 (.int .i64 (yR x.op).1)) (i14:Has L 14 (.int .i64 (yR x.op).2)) (i15:Has L 15 (.bool b)) (K Kp:AV->St->Prop) (hK:KC p v1 v2 v3 mm fm st (YI fm x.op x.num x.name x.line x.col ys ms) K Kp) :
  xC Qaf base jeC L s (iQ st K) (iP st Kp):=by
 obtain⟨k,nx,qn,hp,Cp,C0,C1,C2,C3,lk,lm,df,i0,i3,i4,i5,i6,i7⟩:=S;have hnp:p<s.nx:=Cp.lt;unfold z6 z4 at *;unfold iQ iP y97;rw[(by unfold jeC;simp only[qq];rfl:jeC=_)];cases b with
 |true=>
  rw[jkN hb2] at hK
  (have zz:=C0.r;(repeat'(first|(apply jc<;>intro _)|simp(disch:=first|exact qu|fail) only[ja i0,ja i3,ja i15,Ji hb,C0.q,C0.r,je,jo,jn,jf,jr,jt,jv,jx,ju,rzZ,Qab,Qac,Qad,Qaa,Qae]));(all_goals(clear zz)))
  exact hK _ (Y0 k)
 |false=>
  have hnb:=jqL hb2;have hlen:0<ms.length/\ms.length<=2:=by omega
  unfold YI at hK;rw[if_neg hnb] at hK;have vc:∀ l,lall AV.cell (vk :: l)=lall AV.cell l:=λl=>by show cond vk.cell _ false=_;rw[lk.cell];rfl
  have qnx:q+4<=st.nx+4:=by omega
  by_cases ho:(yR x.op).2=1
  ·rw[if_neg (by simpa using ho)] at hK;rcases lm with ⟨_,h9,_⟩|⟨d,rfl,h2,h3,C5,h5,h6⟩
   ·omega
   have N:=jhJ hb x.op ms hlen.1 hlen.2 he;obtain⟨r1,r2,hr⟩:∃ r1 r2,Jc x.op (ms.getD 0 mt0) (ms.getD (ms.length - 1) mt0)=(r1,r2):=⟨_,_,rfl⟩;rw[hr] at hK N;dsimp only at hK N;have f1:(r1 < -(99999999+1))=(r1 < -100000000):=by rfl
   by_cases hr1:r1 < -100000000
   ·rw[if_pos (.inl hr1)] at hK
    (have zz:=aI C0.r (aI C1.r (aI C2.r (aI C3.r C5.r)));(repeat'(first|(apply jc<;>intro _)|simp(disch:=first|exact qu|fail) only[ja i0,ja i3,ja i4,ja i5,ja i6,ja i7,ja i14,ja i15,ho,N,f1,hr1,Ji hb,C0.q,C1.q,C2.q,C3.q,C5.q,C0.r,C1.r,C2.r,C3.r,C5.r,je,jo,jn,jf,jr,jt,jv,jx,ju,rzZ,Qab,Qac,Qad,Qaa,Qae]));(all_goals(clear zz)))
    exact hK _ (Y0 (k.kl (by show st.nx<=_;omega)))
   ·by_cases hr2:100000000<r2
    ·rw[if_pos (.inr hr2)] at hK
     (have zz:=aI C0.r (aI C1.r (aI C2.r (aI C3.r C5.r)));(repeat'(first|(apply jc<;>intro _)|simp(disch:=first|exact qu|fail) only[ja i0,ja i3,ja i4,ja i5,ja i6,ja i7,ja i14,ja i15,ho,N,f1,hr1,hr2,Ji hb,C0.q,C1.q,C2.q,C3.q,C5.q,C0.r,C1.r,C2.r,C3.r,C5.r,je,jo,jn,jf,jr,jt,jv,jx,ju,rzZ,Qab,Qac,Qad,Qaa,Qae]));(all_goals(clear zz)))
     exact hK _ (Y0 (k.kl (by show st.nx<=_;omega)))
    ·rw[if_neg (by omega)] at hK;have hK:∀ s',Keep p st s'->Cl s' p [v1,v2,v3,mm,.bool fm]->K (.tup [.agg (eE (.mk x.op x.num x.name ys x.line x.col)),.agg (mtE ⟨(yR x.op).2,[],r1,r2⟩)]) s':=hK;rw[qI] at hK
     (have zz:=aI @vc (aI C0.r (aI C1.r (aI C2.r (aI C3.r C5.r))));(repeat'(first|(apply jc<;>intro _)|simp(disch:=first|exact qu|fail) only[ja i0,ja i3,ja i4,ja i5,ja i6,ja i7,ja i14,ja i15,ho,N,f1,hr1,hr2,C0.q,C1.q,C2.q,C3.q,C5.q,vc,C0.r,C1.r,C2.r,C3.r,C5.r,je,jo,jn,jf,jr,jt,jv,jx,ju,rzZ,Qab,Qac,Qad,Qaa,Qae]));(all_goals(clear zz)))
     rw[ho] at hK;refine UT (m:=st.nx) (cs:=[v1,v2,v3,mm,.bool fm]) (FzD.tup (.cons (FzD.agg (.cons (.pc rfl) (.cons (.pc rfl) (.cons (.pc rfl) (.cons (Lv.fz (lo:=q+4) (hi:=s.nx) (z:=6) ?_ (by omega) (Jn q8 _)) (.cons (.pc rfl) (.cons (.pc rfl) .nil))))))) (.cons (.agg (.pc rfl)) .nil))) (Qaq _) (by omega) ?_ ?_ hK
     ·have:=lk.klD df
      (first|exact this|(simp(disch:=first|assumption|decide|(first|omega|(simp only[jg,jh,jk,jj,ji];first|done|omega))) only[jA,jB,jy,jN,jC,jG,jF,jH];exact this))
     ·exact(((k.kl (by show st.nx<=_;omega)).wr (.inr (by show st.nx<=_;omega)) _ _).wr (.inr (by show st.nx<=_;omega)) _ _)
     ·(first|exact Cp|(simp(disch:=first|assumption|decide|(first|omega|(simp only[jg,jh,jk,jj,ji];first|done|omega))) only[jA,jB,jy,jN,jC,jG,jF,jH];exact Cp))
  ·rw[if_pos ho] at hK;have hK:∀ s',Keep p st s'->Cl s' p [v1,v2,v3,mm,.bool fm]->K (.tup [.agg (eE (.mk x.op x.num x.name ys x.line x.col)),.agg (mtE ⟨(yR x.op).2,[],0,1⟩)]) s':=hK;rw[qI] at hK
   (have zz:=aI @vc (aI C0.r (aI C1.r (aI C2.r C3.r)));(repeat'(first|(apply jc<;>intro _)|simp(disch:=first|exact qu|fail) only[ja i0,ja i3,ja i4,ja i5,ja i6,ja i14,ja i15,ho,C0.q,C1.q,C2.q,C3.q,vc,C0.r,C1.r,C2.r,C3.r,je,jo,jn,jf,jr,jt,jv,jx,ju,rzZ,Qab,Qac,Qad,Qaa,Qae]));(all_goals(clear zz)))
   refine UT (m:=st.nx) (cs:=[v1,v2,v3,mm,.bool fm]) (FzD.tup (.cons (FzD.agg (.cons (.pc rfl) (.cons (.pc rfl) (.cons (.pc rfl) (.cons (Lv.fz (lo:=q+4) (hi:=s.nx) (z:=6) ?_ (by omega) (Jn q8 _)) (.cons (.pc rfl) (.cons (.pc rfl) .nil))))))) (.cons (.agg (.pc rfl)) .nil))) (Qaq _) (by omega) ?_ ?_ hK
   ·(first|exact lk|(simp(disch:=first|assumption|decide|(first|omega|(simp only[jg,jh,jk,jj,ji];first|done|omega))) only[jA,jB,jy,jN,jC,jG,jF,jH];exact lk))
   ·exact((k.wr (.inr (by show st.nx<=_;omega)) _ _).wr (.inr (by show st.nx<=_;omega)) _ _)
   ·(first|exact Cp|(simp(disch:=first|assumption|decide|(first|omega|(simp only[jg,jh,jk,jj,ji];first|done|omega))) only[jA,jB,jy,jN,jC,jG,jF,jH];exact Cp))
end Go.Sy
end
noncomputable section
set_option maxRecDepth 100000
namespace Go.Sy
open Go.Ev Go.Proofs
variable {base:Bs}
def jgf (part:Int)(k0:Int)(e0:List Nat)(m:MtT):Bool:=(decide (0<part) && decide (m.kind≠part)) ||decide (m.kind≠k0) ||decide (m.enum≠e0)
theorem Has.bool {c:Nat}{a b:Bool}{L:Sl}(h:a=b):Has ((c,.bool a) :: L) c (.bool b):=by rw[h];simp only[jd]
theorem jnK (part:Int)(ms:List MtT):jge part ms=ms.any (jgf part (ms.getD 0 mt0).kind (ms.getD 0 mt0).enum):=rfl
section
variable {p q:Nat} {v1 v2 v3 mm:AV} {x:Ex} {fm:Bool} {st:St} {ys:List Ex} {ms:List MtT} {vk vm:AV} {L:Sl} {s:St}
theorem KS.nw (S:KS p q v1 v2 v3 mm x fm st ys ms vk vm L s)(ds:List AV):KS p q v1 v2 v3 mm x fm st ys ms vk vm L (nw s ds):=by
 obtain⟨k,nx,qn,hp,Cp,C0,C1,C2,C3,lk,lm,df,i0,i3,i4,i5,i6,i7⟩:=S;have h0:=C0.lt;have h1:=C1.lt;have h2:=C2.lt;have h3:=C3.lt;have h4:=Cp.lt;exact⟨k.nw ds,by rw[jg];omega,qn,hp,by(first|exact Cp|(simp(disch:=first|assumption|decide|(first|omega|(simp only[jg,jh,jk,jj,ji];first|done|omega))) only[jA,jB,jy,jN,jC,jG,jF,jH];exact Cp)),by(first|exact C0|(simp(disch:=first|assumption|decide|(first|omega|(simp only[jg,jh,jk,jj,ji];first|done|omega))) only[jA,jB,jy,jN,jC,jG,jF,jH];exact C0)),by(first|exact C1|(simp(disch:=first|assumption|decide|(first|omega|(simp only[jg,jh,jk,jj,ji];first|done|omega))) only[jA,jB,jy,jN,jC,jG,jF,jH];exact C1)),by(first|exact C2|(simp(disch:=first|assumption|decide|(first|omega|(simp only[jg,jh,jk,jj,ji];first|done|omega))) only[jA,jB,jy,jN,jC,jG,jF,jH];exact C2)),by(first|exact C3|(simp(disch:=first|assumption|decide|(first|omega|(simp only[jg,jh,jk,jj,ji];first|done|omega))) only[jA,jB,jy,jN,jC,jG,jF,jH];exact C3)),((jG (Qaq _)).symm▸lk:Lv _ _ (Go.Sy.nw s ds) _ _ _ _).up (by rw[jg];omega),((jG (Qaq _)).symm▸lm:Lv _ _ (Go.Sy.nw s ds) _ _ _ _).up (by rw[jg];omega),df,i0,i3,i4,i5,i6,i7⟩
theorem KS.push (S:KS p q v1 v2 v3 mm x fm st ys ms vk vm L s){c:Nat}{v:AV}(h:c≠0/\c≠3/\c≠4/\c≠5/\c≠6/\c≠7):KS p q v1 v2 v3 mm x fm st ys ms vk vm ((c,v) :: L) s:=by
 obtain⟨k,nx,qn,hp,Cp,C0,C1,C2,C3,lk,lm,df,i0,i3,i4,i5,i6,i7⟩:=S;obtain⟨h0,h3,h4,h5,h6,h7⟩:=h;exact⟨k,nx,qn,hp,Cp,C0,C1,C2,C3,lk,lm,df,by rw[jb h0];exact i0,by rw[jb h3];exact i3,by rw[jb h4];exact i4,by rw[jb h5];exact i5,by rw[jb h6];exact i6,by rw[jb h7];exact i7⟩
theorem KS.wr (S:KS p q v1 v2 v3 mm x fm st ys ms vk vm L s){c o:Nat}{ds:List AV}{hi:Nat}(hc:hi<=c)(lk':Lv (q+4) hi s vk ys.length (fl eE ys) 6)(lm':Lv (q+4) hi s vm ms.length (fl mtE ms) 4)(hq:q+4<=hi)(hs:hi<=s.nx):KS p q v1 v2 v3 mm x fm st ys ms vk vm L (wr s c o ds):=by
 obtain⟨k,nx,qn,hp,Cp,C0,C1,C2,C3,lk,lm,df,i0,i3,i4,i5,i6,i7⟩:=S;have h4:=Cp.lt;exact⟨k.wr (.inr (by show st.nx<=_;omega)) _ _,by rw[jh];exact nx,qn,hp,by(first|exact Cp|(simp(disch:=first|assumption|decide|(first|omega|(simp only[jg,jh,jk,jj,ji];first|done|omega))) only[jA,jB,jy,jN,jC,jG,jF,jH];exact Cp)),by(first|exact C0|(simp(disch:=first|assumption|decide|(first|omega|(simp only[jg,jh,jk,jj,ji];first|done|omega))) only[jA,jB,jy,jN,jC,jG,jF,jH];exact C0)),by(first|exact C1|(simp(disch:=first|assumption|decide|(first|omega|(simp only[jg,jh,jk,jj,ji];first|done|omega))) only[jA,jB,jy,jN,jC,jG,jF,jH];exact C1)),by(first|exact C2|(simp(disch:=first|assumption|decide|(first|omega|(simp only[jg,jh,jk,jj,ji];first|done|omega))) only[jA,jB,jy,jN,jC,jG,jF,jH];exact C2)),by(first|exact C3|(simp(disch:=first|assumption|decide|(first|omega|(simp only[jg,jh,jk,jj,ji];first|done|omega))) only[jA,jB,jy,jN,jC,jG,jF,jH];exact C3)),((jC (.inr hc)).symm▸lk':Lv _ _ (Go.Sy.wr s c o ds) _ _ _ _).up (by rw[jh];exact hs),((jC (.inr hc)).symm▸lm':Lv _ _ (Go.Sy.wr s c o ds) _ _ _ _).up (by rw[jh];exact hs),df,i0,i3,i4,i5,i6,i7⟩
end
set_option maxHeartbeats 4000000 in
theorem jqa (hb:NB base){p q:Nat}{v1 v2 v3 mm:AV}{x:Ex}{fm b:Bool}{st:St}{ys:List Ex}{ms:List MtT}{vk vm:AV}{L:Sl}{s:St}(S:KS p q v1 v2 v3 mm x fm st ys ms vk vm L s)(hb2:(decide (ms.length=0) ||decide (2<ms.length) ||(Wx x.op && !fm))=b)(hml:ms.length<=1000000)(he:∀ m∈ms,wi m)
  (i13:Has L 13 (.int .i64 (yR x.op).1)) (i14:Has L 14 (.int .i64 (yR x.op).2)) (i15:Has L 15 (.bool b)) (K Kp:AV->St->Prop) (hK:KC p v1 v2 v3 mm fm st (YI fm x.op x.num x.name x.line x.col ys ms) K Kp) :
  xC Qaf base ja1 L s (iQ st K) (iP st Kp):=by
 have vl:=S.lm.len;have i7:=S.i7;have bq:Kc fm x.op ms=(b ||ms.any (jgf (yR x.op).1 (ms.getD 0 mt0).kind (ms.getD 0 mt0).enum)):=by rw[<-jnK,<-hb2];rfl
 rw[(by unfold ja1;simp only[qq];rfl:ja1=_)];repeat'(first|(apply jc<;>intro _)|simp(disch:=first|exact dzG|fail) only[ja i7,vl,je,jo,jn,jf,jr,jt,jv,jx,ju,rzZ,Qab,Qac,Qad,Qaa,Qae])
 refine qy ms.length (λk L s=>KS p q v1 v2 v3 mm x fm st ys ms vk vm L s/\Has L 13 (.int .i64 (yR x.op).1)/\Has L 14 (.int .i64 (yR x.op).2)/\Has L 15 (.bool (b ||(ms.take k).any (jgf (yR x.op).1 (ms.getD 0 mt0).kind (ms.getD 0 mt0).enum)))/\Has L 115 vm) (by first|assumption|omega) (by decide) (by simp(disch:=decide) only[jd,jb]) (by simp(disch:=decide) only[jd,jb]) ?_ (λk L s v h=>⟨h.1.push (by decide),by simp(disch:=decide) only[jb];exact h.2⟩) (λk L s v h=>⟨h.1.push (by decide),by simp(disch:=decide) only[jb];exact h.2⟩) (λk L s hk hI hi hn=>?_) (λL s hI=>?_)
 ·refine⟨((S.push (by decide)).push (by decide)).push (by decide),?_⟩;simp(disch:=decide) only[jb,jd,QaZ,List.any_nil,Bool.or_false];exact⟨i13,i14,i15,trivial⟩
 ·obtain⟨S,j13,j14,j15,j115⟩:=hI;have S0:=S;obtain⟨k',nx,qn,hp,Cp,C0,C1,C2,C3,lk,lm,df,j0,j3,j4,j5,j6,j7⟩:=S;have qnx:q+4<=st.nx+4:=by omega
  rcases lm with ⟨_,h9,_⟩|⟨d,rfl,h2,h3,C5,h5,h6⟩
  ·omega
  have e0:ms.getD 0 mt0=ms[0]:=by simp[QaO,show 0<ms.length by omega]
  have g0:(fl mtE ms).getD 0 .bad=.int .i64 ms[0].kind:=(vF Yq (i:=0) (by omega) (k:=0) (by decide)).trans (by rw[UF];rfl);have g1:(fl mtE ms).getD 1 .bad=.str ms[0].enum:=(vF Yq (i:=0) (by omega) (k:=1) (by decide)).trans (by rw[UF];rfl);have tk:List.take (k+1) ms=List.take k ms ++ [ms[k]]:=by rw[Qci,Qav hk];rfl
  rw[e0] at j15;rw[tk,e0,List.any_append,List.any_cons,List.any_nil,Bool.or_false];have S1:∀ ba:Bool,KS p q v1 v2 v3 mm x fm st ys ms vk (.slice d 0 ms.length ms.length 4 false) ((15,.bool ba) :: (17,.ptr s.nx 0) :: L) (Go.Sy.wr (Go.Sy.nw s [.int .i64 0,.str [],.int .i64 0,.int .i64 0]) s.nx 0 (mtE ms[k])):=λba=>
   (((S0.push (by decide)).push (by decide)).nw _).wr (c:=s.nx) (hi:=s.nx) (Qaq _) (by(first|exact lk|(simp(disch:=first|assumption|decide|(first|omega|(simp only[jg,jh,jk,jj,ji];first|done|omega))) only[jA,jB,jy,jN,jC,jG,jF,jH];exact lk))) (by have:=S0.lm;(first|exact this|(simp(disch:=first|assumption|decide|(first|omega|(simp only[jg,jh,jk,jj,ji];first|done|omega))) only[jA,jB,jy,jN,jC,jG,jF,jH];exact this))) (by omega) (by rw[jg];omega)
  (have zz:=C5.r;(repeat'(first|(apply jc<;>intro _)|simp(disch:=first|exact qu|fail) only[ja j115,ja hi,ja hn,ja j13,ja j14,ja j15,ja j7,jfH Yq,g0,g1,C5.q,C5.r,je,jo,jn,jf,jr,jt,jv,jx,ju,rzZ,Qab,Qac,Qad,Qaa,Qae]));(all_goals(clear zz)))
  all_goals simp(disch:=decide) only[jb,jd]
  all_goals refine⟨⟨S1 _,j13,j14,?_,j115⟩,hi,hn⟩
  all_goals apply Has.bool
  all_goals clear hb2 S1 S0 hK he hml bq C5 k' Cp C0 C1 C2 C3 lk df j0 j3 j4 j5 j6 j7 g0 g1 i13 i14 i15 j13 j14 j15 vl i7 e0 tk nx
  all_goals generalize List.any _ _=A at *
  all_goals unfold jgf
  all_goals cases b<;>cases A<;>simp_all<;>omega
 ·obtain⟨S,j13,j14,j15,j115⟩:=hI;rw[QaE] at j15;exact jp9 hb S bq he j13 j14 j15 K Kp hK
end Go.Sy
end
noncomputable section
set_option maxRecDepth 100000
namespace Go.Sy
open Go.Ev Go.Proofs
variable {base:Bs}
theorem KS.setp {p q:Nat}{v1 v2 v3 mm:AV}{x:Ex}{fm:Bool}{st:St}{ys:List Ex}{ms:List MtT}{vk vm:AV}{L:Sl}{s:St}(S:KS p q v1 v2 v3 mm x fm st ys ms vk vm L s)(b:Bool):KS p q v1 v2 v3 mm x b st ys ms vk vm L (Go.Sy.wr s p 4 [.bool b]):=by
 obtain⟨k,nx,qn,hp,Cp,C0,C1,C2,C3,lk,lm,df,i0,i3,i4,i5,i6,i7⟩:=S;have h0:=C0.lt;have h1:=C1.lt;have h2:=C2.lt;have h3:=C3.lt;exact⟨k.wr (.inl rfl) _ _,by rw[jh];exact nx,qn,hp,Cp.wr 4 [.bool b],by(first|exact C0|(simp(disch:=first|assumption|decide|(first|omega|(simp only[jg,jh,jk,jj,ji];first|done|omega))) only[jA,jB,jy,jN,jC,jG,jF,jH];exact C0)),by(first|exact C1|(simp(disch:=first|assumption|decide|(first|omega|(simp only[jg,jh,jk,jj,ji];first|done|omega))) only[jA,jB,jy,jN,jC,jG,jF,jH];exact C1)),by(first|exact C2|(simp(disch:=first|assumption|decide|(first|omega|(simp only[jg,jh,jk,jj,ji];first|done|omega))) only[jA,jB,jy,jN,jC,jG,jF,jH];exact C2)),by(first|exact C3|(simp(disch:=first|assumption|decide|(first|omega|(simp only[jg,jh,jk,jj,ji];first|done|omega))) only[jA,jB,jy,jN,jC,jG,jF,jH];exact C3)),by(first|exact lk|(simp(disch:=first|assumption|decide|(first|omega|(simp only[jg,jh,jk,jj,ji];first|done|omega))) only[jA,jB,jy,jN,jC,jG,jF,jH];exact lk)),by(first|exact lm|(simp(disch:=first|assumption|decide|(first|omega|(simp only[jg,jh,jk,jj,ji];first|done|omega))) only[jA,jB,jy,jN,jC,jG,jF,jH];exact lm)),df,i0,i3,i4,i5,i6,i7⟩
set_option maxHeartbeats 4000000 in
theorem jqb (hb:NB base){p q:Nat}{v1 v2 v3 mm:AV}{x:Ex}{fm fm2:Bool}{st:St}{ys:List Ex}{ms:List MtT}{vk vm:AV}{L:Sl}{s:St}(S:KS p q v1 v2 v3 mm x fm2 st ys ms vk vm L s)(hml:ms.length<=1000000)(he:∀ m∈ms,wi m)
  (i8:Has L 8 (.bool fm)) (K Kp:AV->St->Prop) (hK:KC p v1 v2 v3 mm fm st (YI fm x.op x.num x.name x.line x.col ys ms) K Kp) :
  xC Qaf base jeD L s (iQ st K) (iP st Kp):=by
 have vl:=S.lm.len;have i7:=S.i7;have i0:=S.i0;have i3:=S.i3;have Cp:=S.cp;have C0:=S.c0;have hqp:q≠p:=by have:=S.hp;omega
 have S1:=S.setp fm;have C9:=S1.cp;have ee:∀ b,(decide (ms.length=0) ||decide (2<ms.length) ||(Wx x.op && !fm))=b->xC Qaf base ja1 ((15,.bool b) :: (14,.int .i64 (yR x.op).2) :: (13,.int .i64 (yR x.op).1) :: L) (wr s p 4 [.bool fm]) (iQ st K) (iP st Kp):=λb hb2=>jqa hb (((S1.push (by decide)).push (by decide)).push (by decide)) hb2 hml he (by simp(disch:=decide) only[jb,jd]) (by simp(disch:=decide) only[jb,jd]) (by simp only[jd]) K Kp hK;rw[(by unfold jeD;simp only[qq];rfl:jeD=_)]
 (have zz:=aI @Cp.r C0.r;(repeat'(first|(apply jc<;>intro _)|simp(disch:=first|exact qu|fail) only[ja i0,ja i3,ja i7,ja i8,vl,jmI hb,jo3 hb,Cp.q,C0.q,Cp.r,C0.r,je,jo,jn,jf,jr,jt,jv,jx,ju,rzZ,Qab,Qac,Qad,Qaa,Qae]));(all_goals(clear zz)))
 all_goals refine ee _ ?_
 all_goals clear ee S1 S hK
 all_goals clear vl
 all_goals(cases fm<;>simp_all<;>first|omega|(left;omega))
end Go.Sy
end
noncomputable section
set_option maxRecDepth 100000
namespace Go.Sy
open Go.Ev Go.Proofs
variable {base:Bs}
theorem Lr.bare {s:St}{v:AV}{n:Nat}{cs:List AV}(h:Lr s v n cs):Lr s.bare v n cs:=by
 rcases h with e|e|⟨b,m,z,x,e,h1,h2⟩
 ·exact .inl e
 ·exact .inr (.inl e)
 ·exact .inr (.inr ⟨b,m,z,x,e,h1,h2.bar⟩)
theorem Ck.bare {p:Nat}{v1 v2 v3 mm:AV}{vars:List VarT}{enums:List EnumT}{fm:Bool}{s:St}(h:Ck p v1 v2 v3 mm vars enums fm s):Ck p v1 v2 v3 mm vars enums fm s.bare:=⟨h.cl.bar,h.l1.bare,h.l2.bare,h.n1,h.n2⟩
section
variable {p q:Nat} {v1 v2 v3 mm:AV} {x:Ex} {fm:Bool} {st:St} {ys:List Ex} {ms:List MtT} {vk vm:AV} {L:Sl} {s t:St}
theorem KS.keep' (S:KS p q v1 v2 v3 mm x fm st ys ms vk vm L s)(k:Keep p s t){fm':Bool}(C:Cl t p [v1,v2,v3,mm,.bool fm']):KS p q v1 v2 v3 mm x fm' st ys ms vk vm L t:=by
 obtain⟨k',nx,qn,hp,Cp,C0,C1,C2,C3,lk,lm,df,i0,i3,i4,i5,i6,i7⟩:=S;exact⟨k'.trans k,by have:=k.nx;omega,qn,hp,C,k.cl C0 (by omega),k.cl C1 (by omega),k.cl C2 (by omega),k.cl C3 (by omega),(k.lv lk (.inl (by omega))).up k.nx,(k.lv lm (.inl (by omega))).up k.nx,df,i0,i3,i4,i5,i6,i7⟩
theorem KS.kid (S:KS p q v1 v2 v3 mm x fm st ys ms vk vm L s)(y:Ex):KS p q v1 v2 v3 mm x fm st (ys ++ [y]) ms (apv 6 vk s) vm L (Go.Sy.wr (Go.Sy.aps vk s (eE y)) (q+3) 3 [apv 6 vk s]):=by
 obtain⟨k,nx,qn,hp,Cp,C0,C1,C2,C3,lk,lm,df,i0,i3,i4,i5,i6,i7⟩:=S;have hn:(Go.Sy.wr (Go.Sy.aps vk s (eE y)) (q+3) 3 [apv 6 vk s]).nx=s.nx+1:=by rw[jh,jj]
 have h4:=Cp.lt;have cq:∀ c ds,Cl s c ds->c<q+4->c≠q+3->Cl (Go.Sy.wr (Go.Sy.aps vk s (eE y)) (q+3) 3 [apv 6 vk s]) c ds:=λc ds C h h3=>by
  rw[jA h3,lk.cl s (eE y) ds c (.inl h) (by omega)];exact C
 refine⟨(k.aps lk (by show st.nx<=_;omega) (eE y)).wr (.inr (by show st.nx<=_;omega)) _ _,by rw[hn];omega,qn,hp,cq _ _ Cp (by omega) (by omega),cq _ _ C0 (by omega) (by omega),cq _ _ C1 (by omega) (by omega),cq _ _ C2 (by omega) (by omega),?_,?_,?_,?_,i0,i3,i4,i5,i6,i7⟩
 ·have:=(cast (lk.cl s (eE y) _ (q+3) (.inl (by omega)) (by omega)).symm C3:Cl (Go.Sy.aps vk s (eE y)) (q+3) _);exact this.wr 3 [apv 6 vk s]
 ·rw[hn,jC (.inl (by omega)),Qak,Xz,QC];exact lk.put (Jw y) (by omega) rfl
 ·rw[hn,jC (.inl (by omega))];exact(lm.apsD df).up (by omega)
 ·exact(Df.put lm (Qaq _)).1
theorem KS.mt (S:KS p q v1 v2 v3 mm x fm st ys ms vk vm L s)(m:MtT):KS p q v1 v2 v3 mm x fm st ys (ms ++ [m]) vk (apv 4 vm s) ((7,apv 4 vm s) :: L) (Go.Sy.aps vm s (mtE m)):=by
 obtain⟨k,nx,qn,hp,Cp,C0,C1,C2,C3,lk,lm,df,i0,i3,i4,i5,i6,i7⟩:=S;have hn:(Go.Sy.aps vm s (mtE m)).nx=s.nx+1:=by rw[jj]
 have h4:=Cp.lt;have cq:∀ c ds,Cl s c ds->c<q+4->Cl (Go.Sy.aps vm s (mtE m)) c ds:=λc ds C h=>by
  rw[lm.cl s (mtE m) ds c (.inl h) (by omega)];exact C
 refine⟨k.aps lm (by show st.nx<=_;omega) (mtE m),by rw[hn];omega,qn,hp,cq _ _ Cp (by omega),cq _ _ C0 (by omega),cq _ _ C1 (by omega),cq _ _ C2 (by omega),cq _ _ C3 (by omega),?_,?_,?_,?_,?_,?_,?_,?_,?_⟩
 ·rw[hn];exact(lk.apsD (Df.symm df)).up (by omega)
 ·rw[hn,Qak,Xz,QC];exact lm.put (Yq m) (by omega) rfl
 ·exact(Df.put lk (Qaq _)).2
 ·rw[jb (by decide)];exact i0
 ·rw[jb (by decide)];exact i3
 ·rw[jb (by decide)];exact i4
 ·rw[jb (by decide)];exact i5
 ·rw[jb (by decide)];exact i6
 ·rw[jd];trivial
end
mutual
def wk:Ex->Bool
 |.mk _ _ _ ks _ _=>decide (ks.length<=1000000) && Y3 ks
def Y3:List Ex->Bool
 |[]=>true
 |x :: xs=>wk x && Y3 xs
end
theorem Vo:∀ {xs:List Ex} {k:Nat} (h:k<xs.length),Y3 xs=true->wk xs[k]=true
 |x :: xs,0,_,h=>by rw[Y3,Qar] at h;exact h.1
 |x :: xs,k+1,hk,h=>by rw[Y3,Qar] at h;exact Vo (xs:=xs) (k:=k) (by simpa using hk) h.2
def KE (base:Bs)(vars:List VarT)(enums:List EnumT)(x:Ex):Prop:=∀ (p:Nat) (v1 v2 v3 mm:AV) (fm:Bool) (st:St),Ck p v1 v2 v3 mm vars enums fm st->∀ K Kp,KC p v1 v2 v3 mm fm st (yF vars enums fm x) K Kp->XB Qaf base 97 [.ptr p 0,.agg (eE x)] st K Kp
set_option maxHeartbeats 4000000 in
theorem jqc (hb:NB base){vars:List VarT}{enums:List EnumT}(V:VarsOK vars enums){p q:Nat}{v1 v2 v3 mm:AV}{x:Ex}{fm fm2:Bool}{st:St}{vk vm:AV}{L:Sl}{s:St}(ih:∀ k∈x.kids,KE base vars enums k)(hn:Qy x.kids=true)(hw:x.kids.length<=1000000)(H:Ck p v1 v2 v3 mm vars enums fm st)(S:KS p q v1 v2 v3 mm x fm2 st [] [] vk vm L s)
  (i8:Has L 8 (.bool fm)) (K Kp:AV->St->Prop) (hK:KC p v1 v2 v3 mm fm st (match qv vars enums fm2 x.kids with
   |.er a b d=>.er a b d
   |.ok r=>YI fm x.op x.num x.name x.line x.col r.1 r.2) K Kp) :
  xC Qaf base ja2 L s (iQ st K) (iP st Kp):=by
 have C0:=S.c0;have i3:=S.i3;rw[(by unfold ja2;simp only[qq];rfl:ja2=_)]
 (have zz:=C0.r;(repeat'(first|(apply jc<;>intro _)|simp(disch:=first|exact qu|fail) only[ja i3,C0.q,C0.r,je,jo,jn,jf,jr,jt,jv,jx,ju,rzZ,Qab,Qac,Qad,Qaa,Qae]));(all_goals(clear zz)))
 refine qy x.kids.length (λk L s=>∃ ys ms vk vm,KS p q v1 v2 v3 mm x fm2 st ys ms vk vm L s/\qv vars enums fm2 (x.kids.take k)=.ok (ys,ms)/\Has L 8 (.bool fm)/\Has L 62 (.lst x.kids.length (fl eE x.kids))) (by first|assumption|omega) (by decide) (by simp(disch:=decide) only[jd,jb]) (by simp(disch:=decide) only[jd,jb]) ?_ (λk L s v h=>(by obtain⟨ys,ms,vk,vm,h1,h2,h3,h4⟩:=h;exact⟨ys,ms,vk,vm,h1.push (by decide),h2,by simp(disch:=decide) only[jb];exact h3,by simp(disch:=decide) only[jb];exact h4⟩)) (λk L s v h=>(by obtain⟨ys,ms,vk,vm,h1,h2,h3,h4⟩:=h;exact⟨ys,ms,vk,vm,h1.push (by decide),h2,by simp(disch:=decide) only[jb];exact h3,by simp(disch:=decide) only[jb];exact h4⟩)) (λk L s hk hI hi hn=>?_) (λL s hI=>?_)
 ·refine⟨[],[],vk,vm,((S.push (by decide)).push (by decide)).push (by decide),by rw[QaZ,qv],?_,?_⟩
  ·simp(disch:=decide) only[jb];exact i8
  ·simp(disch:=decide) only[jb,jd]
 ·obtain⟨ys,ms,vk,vm,S,he,j8,j62⟩:=hI;have Cp:=S.cp;have C3:=S.c3;have j0:=S.i0;have j6:=S.i6;have j7:=S.i7;repeat'(first|(apply jc<;>intro _)|simp(disch:=first|exact dzG|fail) only[ja j0,ja j62,ja hi,ja hn,je,jo,jn,jf,jr,jt,jv,jx,ju,rzZ,Qab,Qac,Qad,Qaa,Qae])
  have S0:KS p q v1 v2 v3 mm x fm2 st ys ms vk vm ((10,.ptr s.nx 0) :: L) (Go.Sy.wr (Go.Sy.nw s [.int .i64 0,.int .i64 0,.str [],.nils,.int .i64 0,.int .i64 0]) s.nx 0 (eE x.kids[k])):=
   ((S.push (by decide)).nw _).wr (c:=s.nx) (hi:=s.nx) (Qaq _) (by have:=S.lk;(first|exact this|(simp(disch:=first|assumption|decide|(first|omega|(simp only[jg,jh,jk,jj,ji];first|done|omega))) only[jA,jB,jy,jN,jC,jG,jF,jH];exact this))) (by have:=S.lm;(first|exact this|(simp(disch:=first|assumption|decide|(first|omega|(simp only[jg,jh,jk,jj,ji];first|done|omega))) only[jA,jB,jy,jN,jC,jG,jF,jH];exact this))) S.nx (by rw[jg];omega)
  refine ih x.kids[k] (Qay hk) p v1 v2 v3 mm fm2 _ (H.bare.keep S0.keep S0.cp) _ _ ?_;cases hx:yF vars enums fm2 x.kids[k] with
  |er a b d=>
   intro s' hk';have e:qv vars enums fm2 x.kids=.er a b d:=by
    have:=Ht (x.kids.drop (k+1)) he hx;rwa [QbE,Qbp] at this
   rw[e] at hK;exact hK _ (Y0 (S0.keep.trans hk'))
  |ok w=>
   intro s' hk' hC;have S1:=S0.keep' hk' hC;obtain⟨y,m⟩:=w;have he':qv vars enums fm2 (x.kids.take (k+1))=.ok (ys ++ [y],ms ++ [m]):=by
    rw[Qci,Qav hk];exact Hs he hx
   generalize Go.Sy.wr (Go.Sy.nw s [.int .i64 0,.int .i64 0,.str [],.nils,.int .i64 0,.int .i64 0]) s.nx 0 (eE x.kids[k])=t0 at *;clear S0;have A1:=λst bv xc xx K h hv=>@X7 (q+4) s'.nx ys.length 6 st vk (fl eE ys) K 72 bv xc xx h (by decide) (by have:=QW he;rw[QaK] at this;omega) (by have:=QW he;rw[QaK] at this;omega) hv;have vk1:=S1.lk;have vm1:=S1.lm;have hq:=S1.nx;have C3':=S1.c3;have S2:=((((S1.push (c:=11) (v:=.ptr s'.nx 0) (by decide)).push (c:=12) (v:=.ptr (s'.nx+1) 0) (by decide)).nw [.int .i64 0,.int .i64 0,.str [],.nils,.int .i64 0,.int .i64 0]).nw [.int .i64 0,.str [],.int .i64 0,.int .i64 0]).wr (c:=s'.nx) (o:=0) (ds:=eE y) (hi:=s'.nx) (Qaq _) (by(first|exact vk1|(simp(disch:=first|assumption|decide|(first|omega|(simp only[jg,jh,jk,jj,ji];first|done|omega))) only[jA,jB,jy,jN,jC,jG,jF,jH];exact vk1))) (by(first|exact vm1|(simp(disch:=first|assumption|decide|(first|omega|(simp only[jg,jh,jk,jj,ji];first|done|omega))) only[jA,jB,jy,jN,jC,jG,jF,jH];exact vm1))) hq (by(first|omega|(simp only[jg,jh,jk,jj,ji];first|done|omega)));have S2:=(S2.wr (c:=s'.nx+1) (o:=0) (ds:=mtE m) (hi:=s'.nx) (by omega) (by(first|exact vk1|(simp(disch:=first|assumption|decide|(first|omega|(simp only[jg,jh,jk,jj,ji];first|done|omega))) only[jA,jB,jy,jN,jC,jG,jF,jH];exact vk1))) (by(first|exact vm1|(simp(disch:=first|assumption|decide|(first|omega|(simp only[jg,jh,jk,jj,ji];first|done|omega))) only[jA,jB,jy,jN,jC,jG,jF,jH];exact vm1))) hq (by(first|omega|(simp only[jg,jh,jk,jj,ji];first|done|omega)))).nw (eE y);have S4:=(S2.kid y).nw (mtE m);have A2:=λbv xc xx K hv=>@X7 (q+4) _ ms.length 4 _ vm (fl mtE ms) K 40 bv xc xx S4.lm (by decide) (by have:=QW he;rw[QaK] at this;omega) (by have:=QW he;rw[QaK] at this;omega) hv
   (have zz:=aI @vk1.ln (aI @vk1.rts (aI @jC (aI @jG (aI @jH (aI @vk1 (aI @vm1 (aI @jD (aI @jK (aI @jO @C3'.r)))))))));(repeat'(first|(apply jc<;>intro _)|simp(disch:=first|exact qu|fail) only[ja j0,ja j6,ja j7,A1,A2,vk1.at,jD,C3'.q,vk1.ln,vk1.rts,jC,jG,jH,vk1,vm1,jD,jK,jO,C3'.r,je,jo,jn,jf,jr,jt,jv,jx,ju,rzZ,Qab,Qac,Qad,Qaa,Qae]));(all_goals(clear zz)))
   refine⟨⟨_,_,_,_,S4.mt m,he',?_,?_⟩,?_,?_⟩;all_goals(simp(disch:=decide) only[jb];assumption)
 ·obtain⟨ys,ms,vk,vm,S,he,j8,j62⟩:=hI;rw[QaE] at he;rw[he] at hK;refine jqb hb S ?_ ?_ j8 K Kp hK
  ·have:=QW he;omega
  ·exact kr V hn he
end Go.Sy
end
noncomputable section
set_option maxRecDepth 100000
namespace Go.Sy
open Go.Ev Go.Proofs
variable {base:Bs}
set_option maxHeartbeats 4000000 in
theorem jqd (hb:NB base){vars:List VarT}{enums:List EnumT}(V:VarsOK vars enums){p q:Nat}{v1 v2 v3 mm:AV}{x:Ex}{fm:Bool}{st:St}{L:Sl}{s:St}(ih:∀ k∈x.kids,KE base vars enums k)(hn:Qy x.kids=true)(hw:x.kids.length<=1000000)(H:Ck p v1 v2 v3 mm vars enums fm st)(hop:x.op≠1/\x.op≠2/\x.op≠3)
  (k:Keep p st.bare s) (hs:s.nx=q+3) (qn:q=st.nx) (hp:p<q) (Cp:Cl s p [v1,v2,v3,mm,.bool fm]) (C0:Cl s q (eE x)) (C1:Cl s (q+1) z6) (C2:Cl s (q+2) z4) (i0:Has L 0 (.ptr p 0)) (i3:Has L 3 (.ptr q 0)) (i4:Has L 4 (.ptr (q+1) 0)) (i5:Has L 5 (.ptr (q+2) 0)) (K Kp:AV->St->Prop) (hK:KC p v1 v2 v3 mm fm st (yF vars enums fm x) K Kp) :
  xC Qaf base jeE L s (iQ st K) (iP st Kp):=by
 rw[WY,if_neg hop.1,if_neg hop.2.1,if_neg hop.2.2] at hK;have hqp:q+3≠p:=by omega
 have hq3:q≠p:=by omega
 have hpq:p≠q+3:=by omega
 have S0:KS p q v1 v2 v3 mm x fm st [] [] .nils .nils ((8,.bool fm) :: (7,.nils) :: (6,.ptr (q+3) 0) :: L) (Go.Sy.wr (Go.Sy.wr (Go.Sy.nw s [.int .i64 0,.int .i64 0,.str [],.nils,.int .i64 0,.int .i64 0]) (q+3) 0 [.int .i64 x.op,.int .i64 x.num,.str x.name,.lst x.kids.length (fl eE x.kids),.int .i64 x.line,.int .i64 x.col]) (q+3) 3 [.nils]):=by
  refine⟨((k.nw _).wr (.inr (by show st.nx<=_;omega)) _ _).wr (.inr (by show st.nx<=_;omega)) _ _,by(first|omega|(simp only[jg,jh,jk,jj,ji];first|done|omega)),qn,hp,by(first|exact Cp|(simp(disch:=first|assumption|decide|(first|omega|(simp only[jg,jh,jk,jj,ji];first|done|omega))) only[jA,jB,jy,jN,jC,jG,jF,jH];exact Cp)),by(first|exact C0|(simp(disch:=first|assumption|decide|(first|omega|(simp only[jg,jh,jk,jj,ji];first|done|omega))) only[jA,jB,jy,jN,jC,jG,jF,jH];exact C0)),by(first|exact C1|(simp(disch:=first|assumption|decide|(first|omega|(simp only[jg,jh,jk,jj,ji];first|done|omega))) only[jA,jB,jy,jN,jC,jG,jF,jH];exact C1)),by(first|exact C2|(simp(disch:=first|assumption|decide|(first|omega|(simp only[jg,jh,jk,jj,ji];first|done|omega))) only[jA,jB,jy,jN,jC,jG,jF,jH];exact C2)),?_,Lv.nil,Lv.nil,trivial,?_,?_,?_,?_,?_,?_⟩
  ·have:=((hs▸Cl.new s [.int .i64 0,.int .i64 0,.str [],.nils,.int .i64 0,.int .i64 0]:Cl (Go.Sy.nw s [.int .i64 0,.int .i64 0,.str [],.nils,.int .i64 0,.int .i64 0]) (q+3) _).wr 0 [.int .i64 x.op,.int .i64 x.num,.str x.name,.lst x.kids.length (fl eE x.kids),.int .i64 x.line,.int .i64 x.col]).wr 3 [.nils];exact this
  all_goals(simp(disch:=decide) only[jb,jd];try assumption)
 have ee:∀ b,(fm && decide (x.op≠17) && decide (x.op≠18))=b->xC Qaf base ja2 ((8,.bool fm) :: (7,.nils) :: (6,.ptr (q+3) 0) :: L) (Go.Sy.wr (Go.Sy.wr (Go.Sy.wr (Go.Sy.nw s [.int .i64 0,.int .i64 0,.str [],.nils,.int .i64 0,.int .i64 0]) (q+3) 0 [.int .i64 x.op,.int .i64 x.num,.str x.name,.lst x.kids.length (fl eE x.kids),.int .i64 x.line,.int .i64 x.col]) (q+3) 3 [.nils]) p 4 [.bool b]) (iQ st K) (iP st Kp):=λb e=>by
  rw[e] at hK;exact jqc hb V ih hn hw H (S0.setp b) (by simp only[jd]) K Kp hK
 rw[(by unfold jeE;simp only[qq];rfl:jeE=_)]
 (have zz:=aI @hs (aI @Cp.r C0.r);(repeat'(first|(apply jc<;>intro _)|simp(disch:=first|exact qu|fail) only[ja i0,ja i3,hs,Cp.q,C0.q,hs,Cp.r,C0.r,je,jo,jn,jf,jr,jt,jv,jx,ju,rzZ,Qab,Qac,Qad,Qaa,Qae]));(all_goals(clear zz)))
 all_goals refine ee _ ?_
 all_goals clear ee S0 hK
 all_goals(cases fm<;>simp_all)
end Go.Sy
end
