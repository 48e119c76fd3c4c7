import Derived.Test.YtndojkghlhllpaaGreatDoorSqSyC
import Derived.Test.YtndojkghlhllpaaGreatDoorProg
import Derived.KernelRfl
import Derived.ChangeArms
set_option linter.unusedVariables false
set_option linter.unusedSimpArgs false
set_option maxHeartbeats 8000000
open Go.Proofs.Tryz renaming prog -> γ
open Nat renaming reduceAdd -> δ, reduceSub -> ε, le_refl -> μ, le_trans -> ψ, zero_le -> Qaa, zero_add -> Qaj, not_lt_zero -> Qas, lt_or_ge -> Qat, lt_of_lt_of_le -> Qau, mul_le_mul_right -> Qav, sub_zero -> QaL, le_of_eq -> QaM, zero_mul -> QaP, succ_mul -> QaR, succ_pos -> QaW, lt_irrefl -> Qbe, add_assoc -> Qbt, mod_eq_of_lt -> QbA, succ_lt_succ -> QbI, sub_self -> QbU, le_succ_of_le -> Qct, beq -> Qcy, ble -> QcA
open List renaming map_cons -> ζ, map_nil -> η, getD_cons_zero -> θ, getD_cons_succ -> κ, length_append -> ν, length_cons -> ξ, length_nil -> φ, getElem_mem -> ω, take_length -> Qab, getD -> Qac, length_map -> Qad, getElem?_eq_getElem -> Qaf, cons_append -> Qag, all_eq_true -> Qai, getD_eq_getElem?_getD -> Qak, length_take -> Qal, nil_append -> Qam, cons -> Qan, length_drop -> QaB, all_cons -> QaD, append_assoc -> QaE, mem_map -> QaF, take_zero -> QaH, mem_cons -> QaJ, append_nil -> QaO, map_append -> QaU, eq_nil_of_length_eq_zero -> QaX, all_append -> QaY, flatMap_cons -> QaZ, foldl_append -> Qba, mem_iff_getElem -> Qbi, getElem_append_left -> Qbk, getElem_append_right -> Qbl, take_append_drop -> Qbr, length_pos_iff -> Qbv, drop_drop -> Qbz, getElem_cons_zero -> QbG, getElem?_take -> QbK, getElem?_drop -> QbL, take_add_one -> QbQ, getElem_cons_succ -> QbX, getElem_cons_drop -> QbY, mem_of_mem_take -> QbZ, mem_flatMap -> Qck
open Bool renaming and_eq_true -> χ, eq_iff_iff -> QaA, or_eq_true -> QaC, not_eq_true' -> QaQ, false_eq_true -> QaT, true_and -> Qbu, true_eq_false -> QbH, eq_false_iff -> Qcs
open Array renaming length_toList -> Qao, getElem?_eq_some_iff -> Qaw, getElem?_toList -> QbT
open Option renaming getD_some -> QaN
noncomputable section
set_option maxRecDepth 100000
namespace Go.Sy
open Go.Ev Go.Proofs
variable {base:Bs}
variable {ts:List Tk}{i j n b o:Nat}{v:AV}{h:T AO}{s:St}{cs:List AV}{q:Nat×Nat×Nat}{l:Lt}
theorem Ga (W:Wds ts){n:Int}(hi:i<ts.length)(h:Zu ts i=.ok n j):j<ts.length:=by
 unfold Zu at h;by_cases c:isM (tk ts i) [[45]]=true
 .rw[if_pos c] at h;have h1:=W.isM hi c;by_cases k:(tk ts (i+1)).kind=2
  .rw[if_pos k] at h;cases h;exact W.next _ h1 om
  .rw[if_neg k] at h;cases h
 .rw[if_neg c] at h;by_cases k:(tk ts i).kind=2
  .rw[if_pos k] at h;cases h;exact W.next _ hi om
  .rw[if_neg k] at h;cases h
theorem jtO (hb:NB base){ts:List Tk}(W:Wds ts)(N:Nbs ts){i:Nat}(hi:i<ts.length){nm:Lt}{ln co:Nat}{r:SR DeclT}
  (hr:(match Vf ts i with | .er t=>SR.er t | .ok y j=>(match wX ts j with | .er t=>.er t | .ok bs k=>.ok ⟨nm,y.1,y.2.1,y.2.2,bs,ln,co⟩ k))=r) {L:Sl} {s:St} (n0:4<=s.nx) (C0:Cl s 0 (pC ts i 0)) (C1:Cl s 1 zD)
  (C3:Cl s 3 [.str nm,.str [],.int .i64 0,.int .i64 0,.nils,.int .i64 (ln:Int),.int .i64 (co:Int)]) (i0:Has L 0 (.ptr 0 0)) (i2:Has L 2 (.ptr 1 0)) (i4:Has L 4 (.ptr 3 0)) :
  xC γ base jf3 L s (XQ γ y79.res (SK ts 0 (λd=>.agg (qy d)) r)) λv _ s=>SP ts r v s.bare:=by
 have wl:=W.len;have L0:=C0.lt;have L1:=C1.lt;have L3:=C3.lt;have T:=Zl hb hi (d:=0) om [[98,111,111,108]] (cs:=[.str [98,111,111,108]]) (n:=1) rfl rfl dc;have hN:=λst p=>@Zv base hb ts i 0 hi st p;have hM:=λst p=>@WP base hb ts i 0 hi om st p;unfold Vf at hr;unfold zD pC at *;rw[(by unfold jf3;simp only[qq];rfl:jf3=_)];by_cases c1:isM (tk ts i) [[98,111,111,108]]=true
 .rw[if_pos c1] at hr;have hi1:=W.isM hi c1
  (have zz:=aI C0.r (aI C1.r C3.r);repeat' first|apply jb<;>intro _|simp(disch:=try exact qW) only[ja i0,ja i2,ja i4,T,c1,C0.q,C1.q,C3.q,C0.r,C1.r,C3.r,r6,δ,ε])
  refine jhl hb W hi1 hr ?_ ?_ ?_ ?_ ?_ ?_ ?_
  .simp only[jg,jn,jt];omega
  .unfold pC
   (have zz:=a4 C0.q C1.q C3.q (aI C0.r (aI C1.r C3.r));try exact qt)
  .unfold zD
   (have zz:=a4 C0.q C1.q C3.q (aI C0.r (aI C1.r C3.r));try exact qt)
  ·(have zz:=a4 C0.q C1.q C3.q (aI C0.r (aI C1.r C3.r));try exact qt)
  .simp(disch:=decide) only[h12,i0]
  .simp(disch:=decide) only[h12,i2]
  .simp(disch:=decide) only[h12,i4]
 rw[if_neg c1] at hr;by_cases k1:(tk ts i).kind=1
 .rw[if_pos k1] at hr;have k1':((tk ts i).kind:Int)=1:=om
  have hi1:i+1<ts.length:=W.next i hi om
  (have zz:=aI C0.r (aI C1.r C3.r);repeat' first|apply jb<;>intro _|simp(disch:=try exact qW) only[ja i0,ja i2,ja i4,T,c1,k1,k1',hN,hM,C0.q,C1.q,C3.q,C0.r,C1.r,C3.r,r6,δ,ε])
  refine jhl hb W hi1 hr ?_ ?_ ?_ ?_ ?_ ?_ ?_
  .simp only[jg,jn,jt];omega
  .unfold pC
   (have zz:=a4 C0.q C1.q C3.q (aI C0.r (aI C1.r C3.r));try exact qt)
  .unfold zD
   (have zz:=a4 C0.q C1.q C3.q (aI C0.r (aI C1.r C3.r));try exact qt)
  ·(have zz:=a4 C0.q C1.q C3.q (aI C0.r (aI C1.r C3.r));try exact qt)
  .simp(disch:=decide) only[h12,i0]
  .simp(disch:=decide) only[h12,i2]
  .simp(disch:=decide) only[h12,i4]
 rw[if_neg k1] at hr;have k1':¬ ((tk ts i).kind:Int)=1:=om
 have A:=jc5 hb W N hi (d:=0);cases hn:Zu ts i with
 |er t=>
  rw[hn] at hr A;have hr:SR.er t=r:=hr;subst hr;obtain⟨i',d',A⟩:=A;have E:∀ st p,Cl st p (pC ts i 0)->∀ K Kp,XB γ base 122 [.ptr p 0] st K Kp=_:=λst p C K Kp=>A.xb C rfl (λst=>hb.no 122 dc _ _) K Kp;unfold pC at *
  (have zz:=aI C0.r (aI C1.r C3.r);repeat' first|apply jb<;>intro _|simp(disch:=try exact qW) only[ja i0,ja i2,ja i4,T,c1,k1',hN,E,zS,C0.q,C1.q,C3.q,C0.r,C1.r,C3.r,r6,δ,ε])
  refine⟨i',d',?_⟩;unfold pC
  (refine G1.done (by have zz:=a4 C0.q C1.q C3.q (aI C0.r (aI C1.r C3.r));exact qt) haa haa ?_;try exact vyD)
 |ok lo j=>
  rw[hn] at hr A;dsimp only at hr;have A:PM _ _ _ _ _ _ _:=A;have hj:j<ts.length:=Ga W hi hn;have E:∀ st p,Cl st p (pC ts i 0)->∀ K Kp,XB γ base 122 [.ptr p 0] st K Kp=_:=λst p C K Kp=>A.xb C rfl (λst=>hb.no 122 dc _ _) K Kp;have M:=λst p=>@Xc base hb ts j 0 hj om [46,46] st p;by_cases c2:isM (tk ts j) [[46,46]]=true
  .rw[if_pos c2] at hr;have hj1:=W.isM hj c2;have B:=jc5 hb W N hj1 (d:=0);cases hn2:Zu ts (j+1) with
   |er t=>
    rw[hn2] at hr B;have hr:SR.er t=r:=hr;subst hr;obtain⟨i',d',B⟩:=B;have F:∀ st p,Cl st p (pC ts (j+1) 0)->∀ K Kp,XB γ base 122 [.ptr p 0] st K Kp=_:=λst p C K Kp=>B.xb C rfl (λst=>hb.no 122 dc _ _) K Kp;unfold pC at *
    (have zz:=aI C0.r (aI C1.r C3.r);repeat' first|apply jb<;>intro _|simp(disch:=try exact qW) only[ja i0,ja i2,ja i4,T,c1,k1',hN,E,F,M,c2,zS,C0.q,C1.q,C3.q,C0.r,C1.r,C3.r,r6,δ,ε])
    refine⟨i',d',?_⟩;unfold pC
    (refine G1.done (by have zz:=a4 C0.q C1.q C3.q (aI C0.r (aI C1.r C3.r));exact qt) haa haa ?_;try exact vyD)
   |ok h2 k=>
    rw[hn2] at hr B;have hk:k<ts.length:=Ga W hj1 hn2;have B:PM _ _ _ _ _ _ _:=B;have F:∀ st p,Cl st p (pC ts (j+1) 0)->∀ K Kp,XB γ base 122 [.ptr p 0] st K Kp=_:=λst p C K Kp=>B.xb C rfl (λst=>hb.no 122 dc _ _) K Kp;unfold pC at *
    (have zz:=aI C0.r (aI C1.r C3.r);repeat' first|apply jb<;>intro _|simp(disch:=try exact qW) only[ja i0,ja i2,ja i4,T,c1,k1',hN,E,F,M,c2,C0.q,C1.q,C3.q,C0.r,C1.r,C3.r,r6,δ,ε])
    refine jhl hb W hk hr ?_ ?_ ?_ ?_ ?_ ?_ ?_
    .simp only[jg,jn,jt];omega
    .unfold pC
     (have zz:=a4 C0.q C1.q C3.q (aI C0.r (aI C1.r C3.r));try exact qt)
    .unfold zD
     (have zz:=a4 C0.q C1.q C3.q (aI C0.r (aI C1.r C3.r));try exact qt)
    ·(have zz:=a4 C0.q C1.q C3.q (aI C0.r (aI C1.r C3.r));try exact qt)
    .simp(disch:=decide) only[h12,i0]
    .simp(disch:=decide) only[h12,i2]
    .simp(disch:=decide) only[h12,i4]
  .rw[if_neg c2] at hr;have hr:SR.er (tk ts j)=r:=hr;subst hr;unfold pC at *
   (have zz:=aI C0.r (aI C1.r C3.r);repeat' first|apply jb<;>intro _|simp(disch:=try exact qW) only[ja i0,ja i2,ja i4,T,c1,k1',hN,E,M,c2,zS,C0.q,C1.q,C3.q,C0.r,C1.r,C3.r,r6,δ,ε])
   refine⟨j,0,?_⟩;unfold pC
   (refine G1.done (by have zz:=a4 C0.q C1.q C3.q (aI C0.r (aI C1.r C3.r));exact qt) haa haa ?_;try exact vyD)
theorem jsn (hb:NB base)(W:Wds ts)(N:Nbs ts)(hi:i<ts.length):AnS base 89 (pC ts i 0) [] ts 0 (λd=>.agg (qy d)) (YS ts i):=by
 have wl:=W.len;have hM:=λst p=>@WP base hb ts i 0 hi om st p;unfold YS;by_cases k1:(tk ts i).kind=1
 .rw[if_pos k1];have hi1:i+1<ts.length:=W.next i hi om
  have M:=λst p=>@Xc base hb ts (i+1) 0 hi1 om [58] st p;by_cases c1:isM (tk ts (i+1)) [[58]]=true
  .rw[if_pos c1];have hi2:=W.isM hi1 c1;suffices h:∀ r:SR DeclT,(match Vf ts (i+2) with | .er t=>SR.er t | .ok y j=>(match wX ts j with | .er t=>.er t | .ok bs k=>.ok ⟨(tk ts i).text,y.1,y.2.1,y.2.2,bs,(tk ts i).line,(tk ts i).col⟩ k))=r->AnS base 89 (pC ts i 0) [] ts 0 (λd=>.agg (qy d)) r from h _ rfl
   intro r hr;refine uG x79 haa (hb.pur 89 3 dc) ?_;simp only[y79,jr,ζ,η,θ,κ];rw[(by unfold z79;simp only[qq];rfl:z79=_)];unfold pC at *;repeat' first|apply jb<;>intro _|simp(disch:=try exact dzD) only[hM,k1,M,c1,r6,δ,ε]
   refine jtO hb W N hi2 hr ?_ ?_ ?_ ?_ ?_ ?_ ?_
   .simp only[jg,jn,jt,yu];omega
   .unfold pC
    (try exact cyD)
   .unfold zD
    (try exact cyD)
   ·(try exact cyD)
   .simp(disch:=decide) only[h12]
   .simp(disch:=decide) only[h12]
   .simp(disch:=decide) only[h12]
  .rw[if_neg c1];refine⟨i+1,0,?_⟩;unfold pC at *;refine qe x79 haa (hb.pur 89 3 dc) rfl ?_;simp only[y79,jr,ζ,η,θ,κ];rw[(by unfold z79;simp only[qq];rfl:z79=_)];repeat' first|apply jb<;>intro _|simp(disch:=try exact dzD) only[hM,k1,M,c1,r6,δ,ε]
   (refine G1.done cyD haa haa ?_;try exact vyD)
 .rw[if_neg k1];refine⟨i,0,?_⟩;unfold pC at *;refine qe x79 haa (hb.pur 89 3 dc) rfl ?_;simp only[y79,jr,ζ,η,θ,κ];rw[(by unfold z79;simp only[qq];rfl:z79=_)];repeat' first|apply jb<;>intro _|simp(disch:=try exact dzD) only[hM,k1,r6,δ,ε]
  (refine G1.done cyD haa haa ?_;try exact vyD)
structure AsT where
 name:Lt
 to:Ex
 line:Int
 col:Int
def asE (a:AsT):List AV:=.str a.name :: (eE a.to ++ [.int .i64 (a.line:Int),.int .i64 (a.col:Int)])
theorem vK (a:AsT):(asE a).length=9:=nr (by simp[asE,zR])
theorem Xu (a:AsT):(asE a).all pc=true:=nr (by simp[asE,ya,pc])
theorem GZ (a:AsT):lall AV.cell (asE a)=true:=nr (by unfold asE;rw[qA];rfl)
structure RuleT where
 when:Ex
 acts:List AsT
def ruE (r:RuleT):List AV:=eE r.when ++ [.lst r.acts.length (fl asE r.acts)]
def Q9 (ts:List Tk):Nat->Nat->List AsT->SR (List AsT)
 |0,i,_=>.er (tk ts i)
 |n+1,i,vs=>if(tk ts i).kind=1 then
   (if 32<=vs.length then .er (tk ts i)
    else if isM (tk ts (i+1)) [[58,61]]=true then(match yC ts (i+2) with
     |.er t=>.er t
     |.ok x j=>
      if isM (tk ts j) [[44]]=true then Q9 ts n (j+1) (vs ++ [⟨(tk ts i).text,x,(tk ts i).line,(tk ts i).col⟩])
      else if isM (tk ts j) [[59]]=true then .ok (vs ++ [⟨(tk ts i).text,x,(tk ts i).line,(tk ts i).col⟩]) (j+1)
      else .er (tk ts j))
    else .er (tk ts (i+1)))
  else .er (tk ts i)
def X4 (ts:List Tk)(i:Nat):SR RuleT:=
 match yC ts i with
 |.er t=>.er t
 |.ok x j=>if isM (tk ts j) [[100,111]]=true then(match Q9 ts ts.length (j+1) [] with
   |.ok vs k=>.ok ⟨x,vs⟩ k
   |.er t=>.er t)
  else .er (tk ts j)
theorem jq4:Go.Ev.isAgg γ 118=some false:=Qa0
theorem jq3:Go.Ev.sizeOf γ 118=some 1:=Qa0
theorem jbs (ho:o<qp h b)(hv:rat h b o=v)(hc:eqs v=true):(qb γ 118 (.ptr b o) v h=true)=True:=eq_true (Qz jq4 jq3 ho hv hc)
theorem sm3 (ho:o<qp h b)(hv:rat h b o=v)(hc:eqs v=true):(qb γ 3 (.ptr b o) v h=true)=True:=eq_true (Qz jq2 jq1 ho hv hc)
theorem jrn (hb:NB base)(W:Wds ts)(hi:i<ts.length):AnS base 123 (pC ts i 0) [] ts 0 (λe=>.agg (ruE e)) (X4 ts i):=by
 have wl:=W.len;have A:=kE hb W hi;unfold X4;cases hw:yC ts i with
 |er t=>
  rw[hw] at A;obtain⟨i',d',A⟩:=A;have E:∀ st p,Cl st p (pC ts i 0)->∀ K Kp,XB γ base 72 [.ptr p 0] st K Kp=_:=λst p C K Kp=>A.xb C rfl (λst=>hb.no 72 dc _ _) K Kp;refine⟨i',d',?_⟩;unfold pC at *;refine qe jls haa (hb.pur 123 3 dc) rfl ?_;simp only[jge,jr,ζ,η,θ,κ];rw[(by unfold Kz;simp only[qq];rfl:Kz=_)];repeat' first|apply jb<;>intro _|simp(disch:=try exact dzD) only[E,r6,δ,ε]
  (refine G1.done cyD haa haa ?_;try exact vyD)
 |ok x j=>
  rw[hw] at A;have A:PM _ _ _ _ _ _ _:=A;rw[qA] at A;have hj:j<ts.length:=(ym W hi hw).2.1;have E:∀ st p,Cl st p (pC ts i 0)->∀ K Kp,XB γ base 72 [.ptr p 0] st K Kp=_:=λst p C K Kp=>A.xb C rfl (λst=>hb.no 72 dc _ _) K Kp;have M:=λst p=>@Xc base hb ts j 0 hj om [100,111] st p;dsimp only;by_cases c1:isM (tk ts j) [[100,111]]=true
  .rw[if_pos c1];have hj1:=W.isM hj c1;suffices h:∀ r:SR RuleT,(match Q9 ts ts.length (j+1) [] with | .ok vs k=>SR.ok ⟨x,vs⟩ k | .er t=>.er t)=r->AnS base 123 (pC ts i 0) [] ts 0 (λe=>.agg (ruE e)) r from h _ rfl
   intro r hr;refine uG jls haa (hb.pur 123 3 dc) ?_;simp only[jge,jr,ζ,η,θ,κ];rw[(by unfold Kz;simp only[qq];rfl:Kz=_)];unfold pC at *;repeat' first|apply jb<;>intro _|simp(disch:=try exact dzD) only[E,M,c1,r6,δ,ε]
   refine WD λu hu=>?_;have n0:u.nx=3:=by rw[hu];rfl
   have C0:Cl u 0 (pC ts (j+1) 0):=by
    rw[hu];unfold pC
    (try exact cyD)
   have C1:Cl u 1 [.int .i64 0,.int .i64 0,.str [],.nils,.int .i64 0,.int .i64 0,.nils]:=by
    rw[hu]
    (try exact cyD)
   have C2:Cl u 2 [.int .i64 x.op,.int .i64 x.num,.str x.name,.lst x.kids.length (fl eE x.kids),.int .i64 x.line,.int .i64 x.col,.nils]:=by
    rw[hu]
    (try exact cyD)
   clear hu E M A;refine yA (λmm L s=>∃ (m i':Nat) (vs:List AsT) (v:AV),mm=m/\ts.length<=i'+m/\i'<ts.length/\(match Q9 ts m i' vs with | .ok vs k=>SR.ok ⟨x,vs⟩ k | .er t=>.er t:SR RuleT)=r/\3<=s.nx/\Cl s 0 (pC ts i' 0)/\Cl s 1 [.int .i64 0,.int .i64 0,.str [],.nils,.int .i64 0,.int .i64 0,.nils]/\Cl s 2 [.int .i64 x.op,.int .i64 x.num,.str x.name,.lst x.kids.length (fl eE x.kids),.int .i64 x.line,.int .i64 x.col,v]/\Lv 3 s.nx s v vs.length (fl asE vs) 9/\Has L 0 (.ptr 0 0)/\Has L 2 (.ptr 1 0)/\Has L 3 (.ptr 2 0)) ?_ ts.length ?_
   .rintro m L s ⟨_,i',vs,v,rfl,hm,hi',hl,n0,C0,C1,C2,V,i0,i2,i3⟩;clear hr;cases m with
    |zero=>omega
    |succ m=>
    unfold Q9 at hl;obtain⟨q0,hq0⟩:∃ q,q=s.nx:=⟨_,rfl⟩;rw[<-hq0] at V;have hq':q0<=s.nx:=QaM hq0;have hN:=λst p=>@Zv base hb ts i' 0 hi' st p;have hM:=λst p=>@WP base hb ts i' 0 hi' om st p;have L0:=C0.lt;have L1:=C1.lt;have L2:=C2.lt;have ve:=V.eqs;have g3:rat s.h 2 6=v:=C2.cell 6 hac;have vl:=V.len;by_cases k1:(tk ts i').kind=1
    .rw[if_pos k1] at hl;have k1':((tk ts i').kind:Int)=1:=om
     have hi1:i'+1<ts.length:=W.next i' hi' om
     by_cases h32:32<=vs.length
     .rw[if_pos h32] at hl;have hl:SR.er (tk ts i')=r:=hl;subst hl;have R:=vO hb h32 (tk ts i');unfold pC at *
      (have zz:=a4 @g3 C0.r C1.r C2.r;repeat' first|apply jb<;>intro _|simp(disch:=try exact qW) only[ja i0,ja i2,ja i3,hN,k1',vl,R,jbs,ve,zS,C0.q,C1.q,C2.q,g3,C0.r,C1.r,C2.r,r6,δ,ε])
      refine⟨i',0,?_⟩;unfold pC
      (refine G1.done (by have zz:=a4 C0.q C1.q C2.q (aI C0.r (aI C1.r C2.r));exact qt) haa haa ?_;try exact vyD)
     .rw[if_neg h32] at hl;have R:=vN hb (show vs.length<32 by omega) (tk ts i');have M1:=λst p=>@Xc base hb ts (i'+1) 0 hi1 om [58,61] st p;by_cases c2:isM (tk ts (i'+1)) [[58,61]]=true
      .rw[if_pos c2] at hl;have hi2:=W.isM hi1 c2;have A:=kE hb W hi2;cases hw2:yC ts (i'+2) with
       |er t=>
        rw[hw2] at hl A;have hl:SR.er t=r:=hl;subst hl;obtain⟨i2',d2,A⟩:=A;have E:∀ st p,Cl st p (pC ts (i'+2) 0)->∀ K Kp,XB γ base 72 [.ptr p 0] st K Kp=_:=λst p C K Kp=>A.xb C rfl (λst=>hb.no 72 dc _ _) K Kp;unfold pC at *
        (have zz:=a4 @g3 @yX @yW (aI C0.r (aI C1.r C2.r));repeat' first|apply jb<;>intro _|simp(disch:=try exact qW) only[ja i0,ja i2,ja i3,hN,hM,k1,k1',vl,R,M1,c2,E,jbs,sm9,sm3,ve,zS,Y4,Ug,Uf (base:=base),C0.q,C1.q,C2.q,g3,yX,yW,C0.r,C1.r,C2.r,r6,δ,ε])
        refine⟨i2',d2,?_⟩;unfold pC
        (refine G1.done (by have zz:=a4 C0.q C1.q C2.q (aI C0.r (aI C1.r C2.r));exact qt) haa haa ?_;try exact vyD)
       |ok y q=>
        rw[hw2] at hl A;dsimp only at hl;have A:PM _ _ _ _ _ _ _:=A;rw[qA] at A;have hq:q<ts.length:=(ym W hi2 hw2).2.1;have hq2:i'+3<=q:=(ym W hi2 hw2).1;have E:∀ st p,Cl st p (pC ts (i'+2) 0)->∀ K Kp,XB γ base 72 [.ptr p 0] st K Kp=_:=λst p C K Kp=>A.xb C rfl (λst=>hb.no 72 dc _ _) K Kp;have T:=Zl hb hq (d:=0) om [[44]] (cs:=[.str [44]]) (n:=1) rfl rfl dc;have M:=λst p=>@Xc base hb ts q 0 hq om [59] st p;have Ap:=λst bv xc xx K h hv=>@JK 3 q0 vs.length 9 st v (fl asE vs) K 104 bv xc xx h dc om om hv;obtain⟨a,hav⟩:∃ a:AsT,a=⟨(tk ts i').text,y,(tk ts i').line,(tk ts i').col⟩:=⟨_,rfl⟩;rw[<-hav] at hl;have ea:asE a=[.str (tk ts i').text,.int .i64 y.op,.int .i64 y.num,.str y.name,.lst y.kids.length (fl eE y.kids),.int .i64 y.line,.int .i64 y.col,.int .i64 ((tk ts i').line:Int),.int .i64 ((tk ts i').col:Int)]:=by rw[hav];unfold asE;rw[qA];rfl
        have V2:∀ st m',Lv 3 q0 st v vs.length (fl asE vs) 9->3<=st.nx->m'=st.nx+1->Lv 3 m' (aps v st [.str (tk ts i').text,.int .i64 y.op,.int .i64 y.num,.str y.name,.lst y.kids.length (fl eE y.kids),.int .i64 y.line,.int .i64 y.col,.int .i64 ((tk ts i').line:Int),.int .i64 ((tk ts i').col:Int)]) (apv 9 v st) (vs ++ [a]).length (fl asE (vs ++ [a])) 9:=λst m' h h2 h3=>by
         rw[ν,QH,Qf,ea];exact h.put rfl h2 h3
        unfold pC at *
        (have zz:=a8 @g3 @yX @yW V.ln V.rts @jA @jG (a8 @jK @V @jC @jJ @jN C0.r C1.r C2.r);repeat' first|apply jb<;>intro _|simp(disch:=try exact qW) only[ja i0,ja i2,ja i3,hN,hM,k1,k1',vl,R,M1,c2,E,jbs,sm9,sm3,ve,Ap,V.at,jC,C0.q,C1.q,C2.q,g3,yX,yW,V.ln,V.rts,jA,jG,jK,V,jC,jJ,jN,C0.r,C1.r,C2.r,r6,δ,ε])
        rw[T _ 0 (s.nx+1+1+1) 1 true (by(have zz:=a8 C0.q C1.q C2.q @g3 V.ln V.rts @jC (a4 @jJ @jN C0.r (aI C1.r C2.r));try exact qt)) (by(have zz:=a8 C0.q C1.q C2.q @g3 V.ln V.rts @jC (a4 @jJ @jN C0.r (aI C1.r C2.r));try exact qt)) om]
        (have zz:=a8 @g3 V.ln V.rts @jC @jJ @jN C0.r (aI C1.r C2.r);repeat' first|apply jb<;>intro _|simp(disch:=try exact qW) only[ja i0,ja i2,ja i3,M,V.at,jC,C0.q,C1.q,C2.q,g3,V.ln,V.rts,jC,jJ,jN,C0.r,C1.r,C2.r,r6,δ,ε])
        .rename_i c;rw[if_pos c] at hl;have hi2':=W.isM hq c;refine⟨m,om,m,q+1,vs ++ [a],?v,rfl,om,hi2',hl,om,?c0,?c1,?c2,?lv,?has⟩;case lv=>
          refine Lv.up (hi:=s.nx+3) ?_ om;simp(disch:=first|omega|(simp only[jg,jn,jp,jt];omega)) only[jA,jG,jK];refine V2 _ _ ?_ ?_ ?_;all_goals first|(simp only[jg,jn];done)|(simp only[jg,jn];omega)|(simp(disch:=first|omega|(simp only[jg,jn];omega)) only[jA,jG];exact V)
         case c0=>(have zz:=a8 C0.q C1.q C2.q @g3 V.ln V.rts @jC (a4 @jJ @jN C0.r (aI C1.r C2.r));try exact qt)
         case c1=>(have zz:=a8 C0.q C1.q C2.q @g3 V.ln V.rts @jC (a4 @jJ @jN C0.r (aI C1.r C2.r));try exact qt)
         case c2=>(have zz:=a8 C0.q C1.q C2.q @g3 V.ln V.rts @jC (a4 @jJ @jN C0.r (aI C1.r C2.r));try exact qt)
         case has=>simp(disch:=decide) only[h12,i0,i2,i3]
        .rename_i c c4;rw[if_neg c,if_pos c4] at hl;have hl:SR.ok (⟨x,vs ++ [a]⟩:RuleT) (q+1)=r:=hl;subst hl;show G1 3 (pC ts (q+1) 0) (.agg (ruE ⟨x,vs ++ [a]⟩)) _ _;rw[show ruE ⟨x,vs ++ [a]⟩=[.int .i64 x.op,.int .i64 x.num,.str x.name,.lst x.kids.length (fl eE x.kids),.int .i64 x.line,.int .i64 x.col,.lst (vs ++ [a]).length (fl asE (vs ++ [a]))] by unfold ruE;rw[qA];rfl];refine G1.done ?_ haa haa (FzD.agg (.cons (.pc rfl) (.cons (.pc rfl) (.cons (.pc rfl) (.cons (.pc rfl) (.cons (.pc rfl) (.cons (.pc rfl) (.cons (Lv.fz (lo:=3) (hi:=s.nx+3) (z:=9) ?_ dc (za Xu _)) .nil))))))))
         .unfold pC
          (have zz:=a8 C0.q C1.q C2.q @g3 V.ln V.rts @jC (a4 @jJ @jN C0.r (aI C1.r C2.r));try exact qt)
         .simp(disch:=first|omega|(simp only[jg,jn,jp,jt];omega)) only[jH,jA,jG,jK];refine V2 _ _ ?_ ?_ ?_;all_goals first|(simp only[jg,jn];done)|(simp only[jg,jn];omega)|(simp(disch:=first|omega|(simp only[jg,jn];omega)) only[jA,jG];exact V)
        .rename_i c c4;rw[if_neg c,if_neg c4] at hl;have hl:SR.er (tk ts q)=r:=hl;subst hl;refine⟨q,0,?_⟩;unfold pC
         (refine G1.done (by have zz:=a8 C0.q C1.q C2.q @g3 V.ln V.rts @jC (a4 @jJ @jN C0.r (aI C1.r C2.r));exact qt) haa haa ?_;try exact vyD)
      .rw[if_neg c2] at hl;have hl:SR.er (tk ts (i'+1))=r:=hl;subst hl;unfold pC at *
       (have zz:=a4 @g3 C0.r C1.r C2.r;repeat' first|apply jb<;>intro _|simp(disch:=try exact qW) only[ja i0,ja i2,ja i3,hN,hM,k1,k1',vl,R,M1,c2,jbs,ve,zS,C0.q,C1.q,C2.q,g3,C0.r,C1.r,C2.r,r6,δ,ε])
       refine⟨i'+1,0,?_⟩;unfold pC
       (refine G1.done (by have zz:=a4 C0.q C1.q C2.q (aI C0.r (aI C1.r C2.r));exact qt) haa haa ?_;try exact vyD)
    .rw[if_neg k1] at hl;have k1':¬ ((tk ts i').kind:Int)=1:=om
     have hl:SR.er (tk ts i')=r:=hl;subst hl;unfold pC at *
     (have zz:=a4 @g3 C0.r C1.r C2.r;repeat' first|apply jb<;>intro _|simp(disch:=try exact qW) only[ja i0,ja i2,ja i3,hN,hM,k1,k1',zS,C0.q,C1.q,C2.q,g3,C0.r,C1.r,C2.r,r6,δ,ε])
     refine⟨i',0,?_⟩;unfold pC
     (refine G1.done (by have zz:=a4 C0.q C1.q C2.q (aI C0.r (aI C1.r C2.r));exact qt) haa haa ?_;try exact vyD)
   .refine⟨ts.length,j+1,[],.nils,rfl,om,hj1,hr,om,C0,C1,C2,Lv.nil,?_⟩;simp(disch:=decide) only[h12]
  .rw[if_neg c1];refine⟨j,0,?_⟩;unfold pC at *;refine qe jls haa (hb.pur 123 3 dc) rfl ?_;simp only[jge,jr,ζ,η,θ,κ];rw[(by unfold Kz;simp only[qq];rfl:Kz=_)];repeat' first|apply jb<;>intro _|simp(disch:=try exact dzD) only[E,M,c1,r6,δ,ε]
   (refine G1.done cyD haa haa ?_;try exact vyD)
theorem Ur (r:RuleT):ruE r=[.int .i64 r.when.op,.int .i64 r.when.num,.str r.when.name,.lst r.when.kids.length (fl eE r.when.kids),.int .i64 r.when.line,.int .i64 r.when.col,.lst r.acts.length (fl asE r.acts)]:=by unfold ruE;rw[qA];rfl
theorem uP (r:RuleT):(ruE r).length=7:=nr (by rw[Ur];rfl)
theorem Vm (r:RuleT):(ruE r).all pc=true:=nr (by rw[Ur];rfl)
theorem jfT (W:Wds ts):∀ n i vs ws j,i<ts.length->Q9 ts n i vs=.ok ws j->i<=j/\j<ts.length
 |0,i,vs,ws,j,_,h=>by simp[Q9] at h
 |n+1,i,vs,ws,j,hi,h=>by
  unfold Q9 at h;split at h
  .rename_i k1;have hi1:i+1<ts.length:=W.next i hi om
   split at h
   .cases h
   .split at h
    .rename_i c;have hi2:=W.isM hi1 c;cases hw:yC ts (i+2) with
     |er t=>rw[hw] at h;cases h
     |ok x q=>
      rw[hw] at h;dsimp only at h;have g:=ym W hi2 hw;split at h
      .rename_i c2;have:=jfT W n (q+1) _ ws j (W.isM g.2.1 c2) h;have:=g.1;exact⟨om,om⟩
      .split at h
       .rename_i c3;cases h;have:=W.isM g.2.1 c3;have:=g.1;exact⟨om,om⟩
       .cases h
    .cases h
  .cases h
theorem kM (W:Wds ts){r:RuleT}(hi:i<ts.length)(h:X4 ts i=.ok r j):i<j/\j<ts.length:=by
 unfold X4 at h;cases hw:yC ts i with
 |er t=>rw[hw] at h;cases h
 |ok x q=>
  rw[hw] at h;dsimp only at h;have g:=ym W hi hw;split at h
  .rename_i c;have hq1:=W.isM g.2.1 c;cases ha:Q9 ts ts.length (q+1) [] with
   |er t=>rw[ha] at h;cases h
   |ok vs k=>
    rw[ha] at h;cases h;have:=jfT W _ _ _ _ _ hq1 ha;have:=g.1;exact⟨om,om⟩
  .cases h
structure ProcT where
 name:Lt
 rules:List RuleT
 line:Int
 col:Int
def prE (p:ProcT):List AV:=[.str p.name,.lst p.rules.length (fl ruE p.rules),.int .i64 (p.line:Int),.int .i64 (p.col:Int)]
def QA (ts:List Tk):Nat->Nat->List RuleT->SR (List RuleT)
 |0,i,_=>.er (tk ts i)
 |n+1,i,vs=>if isM (tk ts i) [[119,104,101,110]]=true then
   (if 32<=vs.length then .er (tk ts i) else match X4 ts (i+1) with
    |.er t=>.er t
    |.ok r j=>QA ts n j (vs ++ [r]))
  else if isM (tk ts i) [[125]]=true then .ok vs (i+1) else .er (tk ts i)
def YF (ts:List Tk)(i:Nat):SR ProcT:=
 if(tk ts i).kind=1 then
  (if isM (tk ts (i+1)) [[123]]=true then(match QA ts ts.length (i+2) [] with
    |.ok vs j=>.ok ⟨(tk ts i).text,vs,(tk ts i).line,(tk ts i).col⟩ j
    |.er t=>.er t)
   else .er (tk ts (i+1)))
 else .er (tk ts i)
theorem jtb:Go.Ev.isAgg γ 114=some false:=Qa0
theorem jta:Go.Ev.sizeOf γ 114=some 1:=Qa0
theorem jrg (ho:o<qp h b)(hv:rat h b o=v)(hc:eqs v=true):(qb γ 114 (.ptr b o) v h=true)=True:=eq_true (Qz jtb jta ho hv hc)
theorem jrz (hb:NB base)(W:Wds ts)(hi:i<ts.length):AnS base 90 (pC ts i 0) [] ts 0 (λe=>.agg (prE e)) (YF ts i):=by
 have wl:=W.len;have N:=λst p=>@WP base hb ts i 0 hi om st p;unfold YF;by_cases k1:(tk ts i).kind=1
 .rw[if_pos k1];have hi1:i+1<ts.length:=W.next i hi om
  have M:=λst p=>@Xc base hb ts (i+1) 0 hi1 om [123] st p;by_cases c1:isM (tk ts (i+1)) [[123]]=true
  .rw[if_pos c1];have hi2:=W.isM hi1 c1;suffices h:∀ r:SR ProcT,(match QA ts ts.length (i+2) [] with
    |.ok vs j=>SR.ok ⟨(tk ts i).text,vs,(tk ts i).line,(tk ts i).col⟩ j
    |.er t=>.er t:SR ProcT)=r->AnS base 90 (pC ts i 0) [] ts 0 (λe=>.agg (prE e)) r from h _ rfl
   intro r hr;refine uG x80 haa (hb.pur 90 3 dc) ?_;simp only[y80,jr,ζ,η,θ,κ];rw[(by unfold z80;simp only[qq];rfl:z80=_)];unfold pC at *;repeat' first|apply jb<;>intro _|simp(disch:=try exact dzD) only[N,k1,M,c1,r6,δ,ε]
   refine WD λu hu=>?_;have n0:u.nx=4:=by rw[hu];rfl
   have C0:Cl u 0 (pC ts (i+2) 0):=by
    rw[hu];unfold pC
    (try exact cyD)
   have C1:Cl u 1 [.str [],.nils,.int .i64 0,.int .i64 0]:=by
    rw[hu]
    (try exact cyD)
   have C3:Cl u 3 [.str (tk ts i).text,.nils,.int .i64 ((tk ts i).line:Int),.int .i64 ((tk ts i).col:Int)]:=by
    rw[hu]
    (try exact cyD)
   clear hu N M;generalize (tk ts i).text=nm at *;generalize (tk ts i).line=ln at *;generalize (tk ts i).col=co at *;refine yA (λmm L s=>∃ (m i':Nat) (vs:List RuleT) (v:AV),mm=m/\ts.length<=i'+m/\i'<ts.length/\(match QA ts m i' vs with | .ok vs j=>SR.ok ⟨nm,vs,ln,co⟩ j | .er t=>.er t:SR ProcT)=r/\4<=s.nx/\Cl s 0 (pC ts i' 0)/\Cl s 1 [.str [],.nils,.int .i64 0,.int .i64 0]/\Cl s 3 [.str nm,v,.int .i64 (ln:Int),.int .i64 (co:Int)]/\Lv 4 s.nx s v vs.length (fl ruE vs) 7/\Has L 0 (.ptr 0 0)/\Has L 2 (.ptr 1 0)/\Has L 4 (.ptr 3 0)) ?_ ts.length ?_
   .rintro m L s ⟨_,i',vs,v,rfl,hm,hi',hl,n0,C0,C1,C3,V,i0,i2,i4⟩;clear hr;cases m with
    |zero=>omega
    |succ m=>
    unfold QA at hl;obtain⟨q,hq⟩:∃ q,q=s.nx:=⟨_,rfl⟩;rw[<-hq] at V;have hq':q<=s.nx:=QaM hq;have T:=Zl hb hi' (d:=0) om [[119,104,101,110]] (cs:=[.str [119,104,101,110]]) (n:=1) rfl rfl dc;have L0:=C0.lt;have L1:=C1.lt;have L3:=C3.lt;have ve:=V.eqs;have g3:rat s.h 3 1=v:=C3.cell 1 (QbI (QaW 2));have vl:=V.len;have vc:∀ l,lall AV.cell (v :: l)=lall AV.cell l:=λl=>by show cond v.cell _ false=_;rw[V.cell];rfl
    by_cases c2:isM (tk ts i') [[119,104,101,110]]=true
    .rw[if_pos c2] at hl;have hi1:=W.isM hi' c2;by_cases h32:32<=vs.length
     .rw[if_pos h32] at hl;have hl:SR.er (tk ts i')=r:=hl;subst hl;have R:=vO hb h32 (tk ts i');unfold pC at *
      (have zz:=a4 @g3 C0.r C1.r C3.r;repeat' first|apply jb<;>intro _|simp(disch:=try exact qW) only[ja i0,ja i2,ja i4,T,c2,vl,R,g3,zS,C0.q,C1.q,C3.q,g3,C0.r,C1.r,C3.r,r6,δ,ε])
      refine⟨i'+1,0,?_⟩;unfold pC
      (refine G1.done (by have zz:=a4 C0.q C1.q C3.q (aI C0.r (aI C1.r C3.r));exact qt) haa haa ?_;try exact vyD)
     .rw[if_neg h32] at hl;have R:=vN hb (show vs.length<32 by omega) (tk ts i');have A:=jrn hb W hi1;cases hw:X4 ts (i'+1) with
      |er t=>
       rw[hw] at hl A;have hl:SR.er t=r:=hl;subst hl;obtain⟨i2',d2,A⟩:=A;have E:∀ st p,Cl st p (pC ts (i'+1) 0)->∀ K Kp,XB γ base 123 [.ptr p 0] st K Kp=_:=λst p C K Kp=>A.xb C rfl (λst=>hb.no 123 dc _ _) K Kp;unfold pC at *
       (have zz:=a4 @g3 C0.r C1.r C3.r;repeat' first|apply jb<;>intro _|simp(disch:=try exact qW) only[ja i0,ja i2,ja i4,T,c2,vl,R,g3,E,jrg,ve,zS,C0.q,C1.q,C3.q,g3,C0.r,C1.r,C3.r,r6,δ,ε])
       refine⟨i2',d2,?_⟩;unfold pC
       (refine G1.done (by have zz:=a4 C0.q C1.q C3.q (aI C0.r (aI C1.r C3.r));exact qt) haa haa ?_;try exact vyD)
      |ok a j=>
       rw[hw] at hl A;dsimp only at hl;have A:PM _ _ _ _ _ _ _:=A;have A:PM γ base 123 (pC ts (i'+1) 0) [] (.ok (.agg [.int .i64 a.when.op,.int .i64 a.when.num,.str a.when.name,.lst a.when.kids.length (fl eE a.when.kids),.int .i64 a.when.line,.int .i64 a.when.col,.lst a.acts.length (fl asE a.acts)])) (pC ts j 0):=by rw[<-Ur];exact A
       have hj:=kM W hi1 hw;have E:∀ st p,Cl st p (pC ts (i'+1) 0)->∀ K Kp,XB γ base 123 [.ptr p 0] st K Kp=_:=λst p C K Kp=>A.xb C rfl (λst=>hb.no 123 dc _ _) K Kp;have Ap:=λst bv xc xx K h hv=>@JK 4 q vs.length 7 st v (fl ruE vs) K 96 bv xc xx h dc om om hv;have V2:∀ st m',Lv 4 q st v vs.length (fl ruE vs) 7->4<=st.nx->m'=st.nx+1->Lv 4 m' (aps v st [.int .i64 a.when.op,.int .i64 a.when.num,.str a.when.name,.lst a.when.kids.length (fl eE a.when.kids),.int .i64 a.when.line,.int .i64 a.when.col,.lst a.acts.length (fl asE a.acts)]) (apv 7 v st) (vs ++ [a]).length (fl ruE (vs ++ [a])) 7:=λst m' h h2 h3=>by
        rw[ν,QH,Qf,Ur a];exact h.put rfl h2 h3
       unfold pC at *
       (have zz:=a8 @g3 V.ln V.rts @jA @jG @jK @V (a4 @jC @jJ @jN (aI C0.r (aI C1.r C3.r)));repeat' first|apply jb<;>intro _|simp(disch:=try exact qW) only[ja i0,ja i2,ja i4,T,c2,vl,R,g3,E,jrg,ve,Ap,V.at,jC,C0.q,C1.q,C3.q,g3,V.ln,V.rts,jA,jG,jK,V,jC,jJ,jN,C0.r,C1.r,C3.r,r6,δ,ε])
       refine⟨m,om,m,j,vs ++ [a],?v,rfl,om,hj.2,hl,om,?c0,?c1,?c3,?lv,?has⟩;case lv=>
        refine Lv.up (hi:=s.nx+4) ?_ om;refine V2 _ _ ?_ ?_ ?_;all_goals first|(simp only[jg,jn,jt];done)|(simp only[jg,jn,jt];omega)|(simp(disch:=first|omega|(simp only[jg,jn,jt];omega)) only[jA,jG,jK];exact V)
       case c0=>(have zz:=a8 C0.q C1.q C3.q @g3 V.ln V.rts @jC (a4 @jJ @jN C0.r (aI C1.r C3.r));try exact qt)
       case c1=>(have zz:=a8 C0.q C1.q C3.q @g3 V.ln V.rts @jC (a4 @jJ @jN C0.r (aI C1.r C3.r));try exact qt)
       case c3=>(have zz:=a8 C0.q C1.q C3.q @g3 V.ln V.rts @jC (a4 @jJ @jN C0.r (aI C1.r C3.r));try exact qt)
       case has=>simp(disch:=decide) only[h12,i0,i2,i4]
    .rw[if_neg c2] at hl;have M:=λst p=>@Xc base hb ts i' 0 hi' om [125] st p;unfold pC at *
     (have zz:=a4 @g3 @vc C0.r (aI C1.r C3.r);repeat' first|apply jb<;>intro _|simp(disch:=try exact qW) only[ja i0,ja i2,ja i4,T,c2,M,g3,C0.q,C1.q,C3.q,g3,vc,C0.r,C1.r,C3.r,r6,δ,ε])
     .rename_i c4;rw[if_pos c4] at hl;have hl:SR.ok (⟨nm,vs,ln,co⟩:ProcT) (i'+1)=r:=hl;subst hl;show G1 3 (pC ts (i'+1) 0) (.agg (prE ⟨nm,vs,ln,co⟩)) _ _;refine G1.done ?_ haa haa (FzD.agg (.cons (.pc rfl) (.cons (Lv.fz (lo:=4) (hi:=q) (z:=7) ?_ dc (za Vm _)) (.cons (.pc rfl) (.cons (.pc rfl) .nil)))))
      .unfold pC
       (have zz:=a8 C0.q C1.q C3.q @g3 V.ln V.rts @jC (a4 @jJ @jN C0.r (aI C1.r C3.r));try exact qt)
      .simp(disch:=first|omega|(simp only[jg,jn,jt];omega)) only[jH,jA,jG,jK];exact V
     .rename_i c4;rw[if_neg c4] at hl;have hl:SR.er (tk ts i')=r:=hl;subst hl;refine⟨i',0,?_⟩;unfold pC
      (refine G1.done (by have zz:=a8 C0.q C1.q C3.q @g3 V.ln V.rts @jC (a4 @jJ @jN C0.r (aI C1.r C3.r));exact qt) haa haa ?_;try exact vyD)
   .refine⟨ts.length,i+2,[],.nils,rfl,om,hi2,hr,om,C0,C1,C3,Lv.nil,?_⟩;simp(disch:=decide) only[h12]
  .rw[if_neg c1];refine⟨i+1,0,?_⟩;unfold pC at *;refine qe x80 haa (hb.pur 90 3 dc) rfl ?_;simp only[y80,jr,ζ,η,θ,κ];rw[(by unfold z80;simp only[qq];rfl:z80=_)];repeat' first|apply jb<;>intro _|simp(disch:=try exact dzD) only[N,k1,M,c1,r6,δ,ε]
   (refine G1.done cyD haa haa ?_;try exact vyD)
 .rw[if_neg k1];refine⟨i,0,?_⟩;unfold pC at *;refine qe x80 haa (hb.pur 90 3 dc) rfl ?_;simp only[y80,jr,ζ,η,θ,κ];rw[(by unfold z80;simp only[qq];rfl:z80=_)];repeat' first|apply jb<;>intro _|simp(disch:=try exact dzD) only[N,k1,r6,δ,ε]
  (refine G1.done cyD haa haa ?_;try exact vyD)
def Df:AV->AV->Prop
 |.slice b _ _ _ _ _,.slice c _ _ _ _ _=>c≠b
 |_,_=>True
theorem Lv.apsD {lo hi z:Nat}{w:AV}{news:List AV}(V:Lv lo hi s w n cs z)(h:Df v w):Lv lo hi (Go.Sy.aps v s news) w n cs z:=by
 rcases V with ⟨rfl,h2,h3⟩|⟨b,rfl,h2,h3,h4,h5,h6⟩
 .exact .inl ⟨rfl,h2,h3⟩
 .refine .inr ⟨b,rfl,h2,h3,?_,h5,h6⟩;unfold Go.Sy.aps;split
  .exact h4.apO h
  .exact h4.nw news
theorem Df.put {lo hi z z':Nat}{t:St}{w:AV}(V:Lv lo hi s w n cs z)(h:hi<=t.nx):Df (apv z' v t) w/\Df w (apv z' v t):=by
 rcases V with ⟨rfl,h2,h3⟩|⟨b,rfl,h2,h3,h4,h5,h6⟩
 .unfold apv;split<;>exact⟨trivial,trivial⟩
 .unfold apv;split<;>exact⟨by show b≠t.nx;omega,by show t.nx≠b;omega⟩
structure SrcT where
 enums:List EnumT
 vars:List DeclT
 procs:List ProcT
def srE (m:SrcT):List AV:=[.lst m.enums.length (fl enE m.enums),.lst m.vars.length (fl qy m.vars),.lst m.procs.length (fl prE m.procs)]
def Yj (ts:List Tk):Nat->Nat->SrcT->SR SrcT
 |0,i,_=>.er (tk ts i)
 |n+1,i,m=>if isM (tk ts i) [[101,110,117,109],[118,97,114],[112,114,111,99,101,115,115]]=true then
   (if(tk ts i).text=[101,110,117,109] then
    (if 32<=m.enums.length then .er (tk ts i) else match YR ts (i+1) with
     |.er t=>.er t
     |.ok e j=>Yj ts n j { m with enums:=m.enums ++ [e] })
   else if(tk ts i).text=[118,97,114] then
    (if 32<=m.vars.length then .er (tk ts i) else match YS ts (i+1) with
     |.er t=>.er t
     |.ok e j=>Yj ts n j { m with vars:=m.vars ++ [e] })
   else(if 32<=m.procs.length then .er (tk ts i) else match YF ts (i+1) with
     |.er t=>.er t
     |.ok e j=>Yj ts n j { m with procs:=m.procs ++ [e] }))
  else if(tk ts i).kind=5 then .ok m i else .er (tk ts i)
theorem jeK (W:Wds ts):∀ n i vs ws j,i<ts.length->XW ts n i vs=.ok ws j->i<=j/\j<ts.length
 |0,i,vs,ws,j,_,h=>by simp[XW] at h
 |n+1,i,vs,ws,j,hi,h=>by
  unfold XW at h;split at h
  .rename_i k1;have hi1:i+1<ts.length:=W.next i hi om
   split at h
   .cases h
   .split at h
    .rename_i c;have hi2:=W.isM hi1 c;have:=jeK W n (i+2) _ ws j hi2 h;exact⟨om,om⟩
    .split at h
     .rename_i c;cases h;have:=W.isM hi1 c;exact⟨om,this⟩
     .cases h
  .cases h
theorem HV (W:Wds ts){e:EnumT}(hi:i<ts.length)(h:YR ts i=.ok e j):i<j/\j<ts.length:=by
 unfold YR at h;split at h
 .rename_i k1;have hi1:i+1<ts.length:=W.next i hi om
  split at h
  .rename_i c;have hi2:=W.isM hi1 c;cases hv:XW ts ts.length (i+2) [] with
   |er t=>rw[hv] at h;cases h
   |ok vs k=>
    rw[hv] at h;cases h;have:=jeK W _ _ _ _ _ hi2 hv;exact⟨om,om⟩
  .cases h
 .cases h
theorem jcL (W:Wds ts):∀ n i vs ws j,i<ts.length->QA ts n i vs=.ok ws j->i<=j/\j<ts.length
 |0,i,vs,ws,j,_,h=>by simp[QA] at h
 |n+1,i,vs,ws,j,hi,h=>by
  unfold QA at h;split at h
  .rename_i c;have hi1:=W.isM hi c;split at h
   .cases h
   .cases hr:X4 ts (i+1) with
    |er t=>rw[hr] at h;cases h
    |ok r k=>
     rw[hr] at h;dsimp only at h;have g:=kM W hi1 hr;have:=jcL W n k _ ws j g.2 h;exact⟨om,om⟩
  .split at h
   .rename_i c;cases h;exact⟨om,W.isM hi c⟩
   .cases h
theorem Ht (W:Wds ts){e:ProcT}(hi:i<ts.length)(h:YF ts i=.ok e j):i<j/\j<ts.length:=by
 unfold YF at h;split at h
 .rename_i k1;have hi1:i+1<ts.length:=W.next i hi om
  split at h
  .rename_i c;have hi2:=W.isM hi1 c;cases hv:QA ts ts.length (i+2) [] with
   |er t=>rw[hv] at h;cases h
   |ok vs k=>
    rw[hv] at h;cases h;have:=jcL W _ _ _ _ _ hi2 hv;exact⟨om,om⟩
  .cases h
 .cases h
theorem jiS (W:Wds ts){n:Int}(h:Zu ts i=.ok n j):i<j:=by
 unfold Zu at h;split at h
 .split at h
  .cases h;omega
  .cases h
 .split at h
  .cases h;omega
  .cases h
theorem jcC (W:Wds ts){y:Lt×Int×Int}(hi:i<ts.length)(h:Vf ts i=.ok y j):i<j/\j<ts.length:=by
 unfold Vf at h;split at h
 .rename_i c;cases h;exact⟨om,W.isM hi c⟩
 .split at h
  .rename_i k1;cases h;exact⟨om,W.next i hi om⟩
  .cases hn:Zu ts i with
   |er t=>rw[hn] at h;cases h
   |ok lo k=>
    rw[hn] at h;dsimp only at h;have g:=Ga W hi hn;have g1:=jiS W hn;split at h
    .rename_i c;have hk1:=W.isM g c;cases hn2:Zu ts (k+1) with
     |er t=>rw[hn2] at h;cases h
     |ok h2 q=>
      rw[hn2] at h;cases h;have:=Ga W hk1 hn2;have:=jiS W hn2;exact⟨om,om⟩
    .cases h
theorem jsG (W:Wds ts){bs:List Ex}(hi:i<ts.length)(h:wX ts i=.ok bs j):i<j/\j<ts.length:=by
 unfold wX at h;split at h
 .rename_i c;have hi1:=W.isM hi c;cases hw:yC ts (i+1) with
  |er t=>rw[hw] at h;cases h
  |ok x k=>
   rw[hw] at h;dsimp only at h;have g:=ym W hi1 hw;split at h
   .rename_i c2;cases h;have:=W.isM g.2.1 c2;have:=g.1;exact⟨om,om⟩
   .cases h
 .split at h
  .rename_i c;cases h;exact⟨om,W.isM hi c⟩
  .cases h
theorem HZ (W:Wds ts){e:DeclT}(hi:i<ts.length)(h:YS ts i=.ok e j):i<j/\j<ts.length:=by
 unfold YS at h;split at h
 .rename_i k1;have hi1:i+1<ts.length:=W.next i hi om
  split at h
  .rename_i c;have hi2:=W.isM hi1 c;cases ht:Vf ts (i+2) with
   |er t=>rw[ht] at h;cases h
   |ok y k=>
    rw[ht] at h;dsimp only at h;have g:=jcC W hi2 ht;cases hv:wX ts k with
    |er t=>rw[hv] at h;cases h
    |ok bs q=>
     rw[hv] at h;cases h;have:=jsG W g.2 hv;exact⟨om,om⟩
  .cases h
 .cases h
theorem Qh (e:EnumT):(enE e).all pc=true:=by
 have:∀ l:Lq,(l.map AV.str).all pc=true:=WI;show([AV.str e.name,.lst e.vals.length (e.vals.map .str),.int .i64 (e.line:Int),.int .i64 (e.col:Int)]).all pc=true;simp[pc]
theorem JS (e:DeclT):(qy e).all pc=true:=by
 show([AV.str e.name,.str e.ty,.int .i64 e.lo,.int .i64 e.hi,.lst e.begins.length (fl eE e.begins),.int .i64 (e.line:Int),.int .i64 (e.col:Int)]).all pc=true;simp[pc]
theorem jbB (e:ProcT):(prE e).all pc=true:=by
 show([AV.str e.name,.lst e.rules.length (fl ruE e.rules),.int .i64 (e.line:Int),.int .i64 (e.col:Int)]).all pc=true;simp[pc]
theorem Df.symm {w:AV}(h:Df v w):Df w v:=by
 unfold Df at *;split at h<;>first|exact λe=>h e.symm|(cases v<;>cases w<;>first|trivial|(rename_i h2;exact absurd rfl (h2 _ _ _ _ _ _ _ _ _ _ _ _ rfl)))
theorem jtt:Go.Ev.isAgg γ 22=some false:=Qa0
theorem jts:Go.Ev.sizeOf γ 22=some 1:=Qa0
theorem Hn (ho:o<qp h b)(hv:rat h b o=v)(hc:eqs v=true):(qb γ 22 (.ptr b o) v h=true)=True:=eq_true (Qz jtt jts ho hv hc)
theorem jtr:Go.Ev.isAgg γ 23=some false:=Qa0
theorem jtq:Go.Ev.sizeOf γ 23=some 1:=Qa0
theorem jrj (ho:o<qp h b)(hv:rat h b o=v)(hc:eqs v=true):(qb γ 23 (.ptr b o) v h=true)=True:=eq_true (Qz jtr jtq ho hv hc)
theorem jtp:Go.Ev.isAgg γ 24=some false:=Qa0
theorem jto:Go.Ev.sizeOf γ 24=some 1:=Qa0
theorem jri (ho:o<qp h b)(hv:rat h b o=v)(hc:eqs v=true):(qb γ 24 (.ptr b o) v h=true)=True:=eq_true (Qz jtp jto ho hv hc)
theorem jlF (hb:NB base)(W:Wds ts)(NN:Nbs ts)(hi:i<ts.length):AnS base 66 (pC ts i 0) [] ts 0 (λe=>.agg (srE e)) (Yj ts ts.length i ⟨[],[],[]⟩):=by
 have wl:=W.len;suffices h:∀ r:SR SrcT,Yj ts ts.length i ⟨[],[],[]⟩=r->AnS base 66 (pC ts i 0) [] ts 0 (λe=>.agg (srE e)) r from h _ rfl
 intro r hr;refine uG x37 haa (hb.pur 66 3 dc) ?_;simp only[y37,jr,ζ,η,θ,κ];rw[(by unfold z37;simp only[qq];rfl:z37=_)];unfold pC at *;repeat' first|apply jb<;>intro _|simp(disch:=try exact dzD) only[r6,δ,ε]
 refine WD λu hu=>?_;have n0:u.nx=3:=by rw[hu];rfl
 have C0:Cl u 0 (pC ts i 0):=by
  rw[hu];unfold pC
  (try exact cyD)
 have C1:Cl u 1 [.nils,.nils,.nils]:=by
  rw[hu]
  (try exact cyD)
 have C2:Cl u 2 [.nils,.nils,.nils]:=by
  rw[hu]
  (try exact cyD)
 clear hu;refine yA (λmm L s=>∃ (m i':Nat) (x:SrcT) (v1 v2 v3:AV),mm=m/\ts.length<=i'+m/\i'<ts.length/\Yj ts m i' x=r/\3<=s.nx/\Cl s 0 (pC ts i' 0)/\Cl s 1 [.nils,.nils,.nils]/\Cl s 2 [v1,v2,v3]/\Lv 3 s.nx s v1 x.enums.length (fl enE x.enums) 4/\Lv 3 s.nx s v2 x.vars.length (fl qy x.vars) 7/\Lv 3 s.nx s v3 x.procs.length (fl prE x.procs) 4/\Df v1 v2/\Df v1 v3/\Df v2 v3/\Has L 0 (.ptr 0 0)/\Has L 2 (.ptr 1 0)/\Has L 3 (.ptr 2 0)) ?_ ts.length ?_
 .rintro m L s ⟨_,i',x,v1,v2,v3,rfl,hm,hi',hl,n0,C0,C1,C2,V1,V2,V3,D12,D13,D23,i0,i2,i3⟩;clear hr;cases m with
  |zero=>omega
  |succ m=>
  unfold Yj at hl;obtain⟨q,hq⟩:∃ q,q=s.nx:=⟨_,rfl⟩;rw[<-hq] at V1 V2 V3;have hq':q<=s.nx:=QaM hq;have T:=Zl hb hi' (d:=0) om [[101,110,117,109],[118,97,114],[112,114,111,99,101,115,115]] (cs:=[.str [101,110,117,109],.str [118,97,114],.str [112,114,111,99,101,115,115]]) (n:=3) rfl rfl dc;have L0:=C0.lt;have L1:=C1.lt;have L2:=C2.lt;have ve1:=V1.eqs;have ve2:=V2.eqs;have ve3:=V3.eqs;have g1:rat s.h 2 0=v1:=C2.cell 0 (QaW 2);have g2:rat s.h 2 1=v2:=C2.cell 1 (QbI (QaW 1));have g3:rat s.h 2 2=v3:=C2.cell 2 (QbI (QbI (QaW 0)));have vl1:=V1.len;have vl2:=V2.len;have vl3:=V3.len;have vc1:∀ l,lall AV.cell (v1 :: l)=lall AV.cell l:=λl=>by show cond v1.cell _ false=_;rw[V1.cell];rfl
  have vc2:∀ l,lall AV.cell (v2 :: l)=lall AV.cell l:=λl=>by show cond v2.cell _ false=_;rw[V2.cell];rfl
  have vc3:∀ l,lall AV.cell (v3 :: l)=lall AV.cell l:=λl=>by show cond v3.cell _ false=_;rw[V3.cell];rfl
  by_cases c2:isM (tk ts i') [[101,110,117,109],[118,97,114],[112,114,111,99,101,115,115]]=true
  .rw[if_pos c2] at hl;have hi1:=W.isM hi' c2;by_cases t1:(tk ts i').text=[101,110,117,109]
   .rw[if_pos t1] at hl;by_cases h32:32<=x.enums.length
    .rw[if_pos h32] at hl;have hl:SR.er (tk ts i')=r:=hl;subst hl;have R:=vO hb h32 (tk ts i');unfold pC at *
     (have zz:=a4 @g1 C0.r C1.r C2.r;repeat' first|apply jb<;>intro _|simp(disch:=try exact qW) only[ja i0,ja i2,ja i3,T,c2,t1,vl1,R,g1,zS,C0.q,C1.q,C2.q,g1,C0.r,C1.r,C2.r,r6,δ,ε])
     refine⟨i'+1,0,?_⟩;unfold pC
     (refine G1.done (by have zz:=a4 C0.q C1.q C2.q (aI C0.r (aI C1.r C2.r));exact qt) haa haa ?_;try exact vyD)
    .rw[if_neg h32] at hl;have R:=vN hb (show x.enums.length<32 by omega) (tk ts i');have A:=jsf hb W (d:=0) hi1;cases hw:YR ts (i'+1) with
     |er t=>
      rw[hw] at hl A;have hl:SR.er t=r:=hl;subst hl;obtain⟨i2',d2,A⟩:=A;have E:∀ st p,Cl st p (pC ts (i'+1) 0)->∀ K Kp,XB γ base 88 [.ptr p 0] st K Kp=_:=λst p C K Kp=>A.xb C rfl (λst=>hb.no 88 dc _ _) K Kp;unfold pC at *
      (have zz:=a4 @g1 C0.r C1.r C2.r;repeat' first|apply jb<;>intro _|simp(disch:=try exact qW) only[ja i0,ja i2,ja i3,T,c2,t1,vl1,R,g1,E,Hn,ve1,zS,C0.q,C1.q,C2.q,g1,C0.r,C1.r,C2.r,r6,δ,ε])
      refine⟨i2',d2,?_⟩;unfold pC
      (refine G1.done (by have zz:=a4 C0.q C1.q C2.q (aI C0.r (aI C1.r C2.r));exact qt) haa haa ?_;try exact vyD)
     |ok a j=>
      rw[hw] at hl A;dsimp only at hl;have A:PM γ base 88 (pC ts (i'+1) 0) [] (.ok (.agg [.str a.name,.lst a.vals.length (a.vals.map .str),.int .i64 (a.line:Int),.int .i64 (a.col:Int)])) (pC ts j 0):=A;have hj:=HV W hi1 hw;have E:∀ st p,Cl st p (pC ts (i'+1) 0)->∀ K Kp,XB γ base 88 [.ptr p 0] st K Kp=_:=λst p C K Kp=>A.xb C rfl (λst=>hb.no 88 dc _ _) K Kp;have Ap:=λst bv xc xx K h hv=>@JK 3 q x.enums.length 4 st v1 (fl enE x.enums) K 56 bv xc xx h dc om om hv;have VP:∀ st m',Lv 3 q st v1 x.enums.length (fl enE x.enums) 4->3<=st.nx->m'=st.nx+1->Lv 3 m' (aps v1 st [.str a.name,.lst a.vals.length (a.vals.map .str),.int .i64 (a.line:Int),.int .i64 (a.col:Int)]) (apv 4 v1 st) (x.enums ++ [a]).length (fl enE (x.enums ++ [a])) 4:=λst m' h h2 h3=>by
       rw[ν,QH,Qf];exact h.put rfl h2 h3
      unfold pC at *
      (have zz:=a8 @g1 V1.ln V1.rts @jA @jG @jK @V1 (a4 @jC @jJ @jN (aI C0.r (aI C1.r C2.r)));repeat' first|apply jb<;>intro _|simp(disch:=try exact qW) only[ja i0,ja i2,ja i3,T,c2,t1,vl1,R,g1,E,Hn,ve1,Ap,V1.at,jC,C0.q,C1.q,C2.q,g1,V1.ln,V1.rts,jA,jG,jK,V1,jC,jJ,jN,C0.r,C1.r,C2.r,r6,δ,ε])
      refine⟨m,om,m,j,{ x with enums:=x.enums ++ [a] },?v1,v2,v3,rfl,om,hj.2,hl,om,?c0,?c1,?c2,?lv1,?lv2,?lv3,?d12,?d13,?d23,?has⟩;case lv1=>
       refine Lv.up (hi:=s.nx+4) ?_ om;refine VP _ _ ?_ ?_ ?_;all_goals first|(simp only[jg,jn,jt];done)|(simp only[jg,jn,jt];omega)|(simp(disch:=first|omega|(simp only[jg,jn,jt];omega)) only[jA,jG,jK];exact V1)
      case lv2=>
       refine Lv.up (hi:=q) ?_ om;simp(disch:=first|omega|(simp only[jg,jn,jt];omega)) only[jA,jG,jK];refine Lv.apsD ?_ D12;simp(disch:=first|omega|(simp only[jg,jn,jt];omega)) only[jA,jG,jK];exact V2
      case d12=>exact(Df.put V2 (by simp only[jg,jn,jt];omega)).1
      case lv3=>
       refine Lv.up (hi:=q) ?_ om;simp(disch:=first|omega|(simp only[jg,jn,jt];omega)) only[jA,jG,jK];refine Lv.apsD ?_ D13;simp(disch:=first|omega|(simp only[jg,jn,jt];omega)) only[jA,jG,jK];exact V3
      case d13=>exact(Df.put V3 (by simp only[jg,jn,jt];omega)).1
      case d23=>exact D23
      case c0=>(have zz:=a8 C0.q C1.q C2.q @g1 @g2 @g3 V1.ln (a4 V1.rts @jC @jJ (a4 @jN C0.r C1.r C2.r));try exact qt)
      case c1=>(have zz:=a8 C0.q C1.q C2.q @g1 @g2 @g3 V1.ln (a4 V1.rts @jC @jJ (a4 @jN C0.r C1.r C2.r));try exact qt)
      case c2=>(have zz:=a8 C0.q C1.q C2.q @g1 @g2 @g3 V1.ln (a4 V1.rts @jC @jJ (a4 @jN C0.r C1.r C2.r));try exact qt)
      case has=>simp(disch:=decide) only[h12,i0,i2,i3]
   .rw[if_neg t1] at hl;by_cases t2:(tk ts i').text=[118,97,114]
    .rw[if_pos t2] at hl;by_cases h32:32<=x.vars.length
     .rw[if_pos h32] at hl;have hl:SR.er (tk ts i')=r:=hl;subst hl;have R:=vO hb h32 (tk ts i');unfold pC at *
      (have zz:=a4 @g2 C0.r C1.r C2.r;repeat' first|apply jb<;>intro _|simp(disch:=try exact qW) only[ja i0,ja i2,ja i3,T,c2,t1,t2,vl2,R,g2,zS,C0.q,C1.q,C2.q,g2,C0.r,C1.r,C2.r,r6,δ,ε])
      refine⟨i'+1,0,?_⟩;unfold pC
      (refine G1.done (by have zz:=a4 C0.q C1.q C2.q (aI C0.r (aI C1.r C2.r));exact qt) haa haa ?_;try exact vyD)
     .rw[if_neg h32] at hl;have R:=vN hb (show x.vars.length<32 by omega) (tk ts i');have A:=jsn hb W NN hi1;cases hw:YS ts (i'+1) with
      |er t=>
       rw[hw] at hl A;have hl:SR.er t=r:=hl;subst hl;obtain⟨i2',d2,A⟩:=A;have E:∀ st p,Cl st p (pC ts (i'+1) 0)->∀ K Kp,XB γ base 89 [.ptr p 0] st K Kp=_:=λst p C K Kp=>A.xb C rfl (λst=>hb.no 89 dc _ _) K Kp;unfold pC at *
       (have zz:=a4 @g2 C0.r C1.r C2.r;repeat' first|apply jb<;>intro _|simp(disch:=try exact qW) only[ja i0,ja i2,ja i3,T,c2,t1,t2,vl2,R,g2,E,jrj,ve2,zS,C0.q,C1.q,C2.q,g2,C0.r,C1.r,C2.r,r6,δ,ε])
       refine⟨i2',d2,?_⟩;unfold pC
       (refine G1.done (by have zz:=a4 C0.q C1.q C2.q (aI C0.r (aI C1.r C2.r));exact qt) haa haa ?_;try exact vyD)
      |ok a j=>
       rw[hw] at hl A;dsimp only at hl;have A:PM γ base 89 (pC ts (i'+1) 0) [] (.ok (.agg [.str a.name,.str a.ty,.int .i64 a.lo,.int .i64 a.hi,.lst a.begins.length (fl eE a.begins),.int .i64 (a.line:Int),.int .i64 (a.col:Int)])) (pC ts j 0):=A;have hj:=HZ W hi1 hw;have E:∀ st p,Cl st p (pC ts (i'+1) 0)->∀ K Kp,XB γ base 89 [.ptr p 0] st K Kp=_:=λst p C K Kp=>A.xb C rfl (λst=>hb.no 89 dc _ _) K Kp;have Ap:=λst bv xc xx K h hv=>@JK 3 q x.vars.length 7 st v2 (fl qy x.vars) K 88 bv xc xx h dc om om hv;have VP:∀ st m',Lv 3 q st v2 x.vars.length (fl qy x.vars) 7->3<=st.nx->m'=st.nx+1->Lv 3 m' (aps v2 st [.str a.name,.str a.ty,.int .i64 a.lo,.int .i64 a.hi,.lst a.begins.length (fl eE a.begins),.int .i64 (a.line:Int),.int .i64 (a.col:Int)]) (apv 7 v2 st) (x.vars ++ [a]).length (fl qy (x.vars ++ [a])) 7:=λst m' h h2 h3=>by
        rw[ν,QH,Qf];exact h.put rfl h2 h3
       unfold pC at *
       (have zz:=a8 @g2 V2.ln V2.rts @jA @jG @jK @V2 (a4 @jC @jJ @jN (aI C0.r (aI C1.r C2.r)));repeat' first|apply jb<;>intro _|simp(disch:=try exact qW) only[ja i0,ja i2,ja i3,T,c2,t1,t2,vl2,R,g2,E,jrj,ve2,Ap,V2.at,jC,C0.q,C1.q,C2.q,g2,V2.ln,V2.rts,jA,jG,jK,V2,jC,jJ,jN,C0.r,C1.r,C2.r,r6,δ,ε])
       refine⟨m,om,m,j,{ x with vars:=x.vars ++ [a] },v1,?v2,v3,rfl,om,hj.2,hl,om,?c0,?c1,?c2,?lv1,?lv2,?lv3,?d12,?d13,?d23,?has⟩;case lv2=>
        refine Lv.up (hi:=s.nx+4) ?_ om;refine VP _ _ ?_ ?_ ?_;all_goals first|(simp only[jg,jn,jt];done)|(simp only[jg,jn,jt];omega)|(simp(disch:=first|omega|(simp only[jg,jn,jt];omega)) only[jA,jG,jK];exact V2)
       case lv1=>
        refine Lv.up (hi:=q) ?_ om;simp(disch:=first|omega|(simp only[jg,jn,jt];omega)) only[jA,jG,jK];refine Lv.apsD ?_ D12.symm;simp(disch:=first|omega|(simp only[jg,jn,jt];omega)) only[jA,jG,jK];exact V1
       case d12=>exact(Df.put V1 (by simp only[jg,jn,jt];omega)).2
       case lv3=>
        refine Lv.up (hi:=q) ?_ om;simp(disch:=first|omega|(simp only[jg,jn,jt];omega)) only[jA,jG,jK];refine Lv.apsD ?_ D23;simp(disch:=first|omega|(simp only[jg,jn,jt];omega)) only[jA,jG,jK];exact V3
       case d23=>exact(Df.put V3 (by simp only[jg,jn,jt];omega)).1
       case d13=>exact D13
       case c0=>(have zz:=a8 C0.q C1.q C2.q @g1 @g2 @g3 V2.ln (a4 V2.rts @jC @jJ (a4 @jN C0.r C1.r C2.r));try exact qt)
       case c1=>(have zz:=a8 C0.q C1.q C2.q @g1 @g2 @g3 V2.ln (a4 V2.rts @jC @jJ (a4 @jN C0.r C1.r C2.r));try exact qt)
       case c2=>(have zz:=a8 C0.q C1.q C2.q @g1 @g2 @g3 V2.ln (a4 V2.rts @jC @jJ (a4 @jN C0.r C1.r C2.r));try exact qt)
       case has=>simp(disch:=decide) only[h12,i0,i2,i3]
    .rw[if_neg t2] at hl;by_cases h32:32<=x.procs.length
     .rw[if_pos h32] at hl;have hl:SR.er (tk ts i')=r:=hl;subst hl;have R:=vO hb h32 (tk ts i');unfold pC at *
      (have zz:=a4 @g3 C0.r C1.r C2.r;repeat' first|apply jb<;>intro _|simp(disch:=try exact qW) only[ja i0,ja i2,ja i3,T,c2,t1,t2,vl3,R,g3,zS,C0.q,C1.q,C2.q,g3,C0.r,C1.r,C2.r,r6,δ,ε])
      refine⟨i'+1,0,?_⟩;unfold pC
      (refine G1.done (by have zz:=a4 C0.q C1.q C2.q (aI C0.r (aI C1.r C2.r));exact qt) haa haa ?_;try exact vyD)
     .rw[if_neg h32] at hl;have R:=vN hb (show x.procs.length<32 by omega) (tk ts i');have A:=jrz hb W hi1;cases hw:YF ts (i'+1) with
      |er t=>
       rw[hw] at hl A;have hl:SR.er t=r:=hl;subst hl;obtain⟨i2',d2,A⟩:=A;have E:∀ st p,Cl st p (pC ts (i'+1) 0)->∀ K Kp,XB γ base 90 [.ptr p 0] st K Kp=_:=λst p C K Kp=>A.xb C rfl (λst=>hb.no 90 dc _ _) K Kp;unfold pC at *
       (have zz:=a4 @g3 C0.r C1.r C2.r;repeat' first|apply jb<;>intro _|simp(disch:=try exact qW) only[ja i0,ja i2,ja i3,T,c2,t1,t2,vl3,R,g3,E,jri,ve3,zS,C0.q,C1.q,C2.q,g3,C0.r,C1.r,C2.r,r6,δ,ε])
       refine⟨i2',d2,?_⟩;unfold pC
       (refine G1.done (by have zz:=a4 C0.q C1.q C2.q (aI C0.r (aI C1.r C2.r));exact qt) haa haa ?_;try exact vyD)
      |ok a j=>
       rw[hw] at hl A;dsimp only at hl;have A:PM γ base 90 (pC ts (i'+1) 0) [] (.ok (.agg [.str a.name,.lst a.rules.length (fl ruE a.rules),.int .i64 (a.line:Int),.int .i64 (a.col:Int)])) (pC ts j 0):=A;have hj:=Ht W hi1 hw;have E:∀ st p,Cl st p (pC ts (i'+1) 0)->∀ K Kp,XB γ base 90 [.ptr p 0] st K Kp=_:=λst p C K Kp=>A.xb C rfl (λst=>hb.no 90 dc _ _) K Kp;have Ap:=λst bv xc xx K h hv=>@JK 3 q x.procs.length 4 st v3 (fl prE x.procs) K 56 bv xc xx h dc om om hv;have VP:∀ st m',Lv 3 q st v3 x.procs.length (fl prE x.procs) 4->3<=st.nx->m'=st.nx+1->Lv 3 m' (aps v3 st [.str a.name,.lst a.rules.length (fl ruE a.rules),.int .i64 (a.line:Int),.int .i64 (a.col:Int)]) (apv 4 v3 st) (x.procs ++ [a]).length (fl prE (x.procs ++ [a])) 4:=λst m' h h2 h3=>by
        rw[ν,QH,Qf];exact h.put rfl h2 h3
       unfold pC at *
       (have zz:=a8 @g3 V3.ln V3.rts @jA @jG @jK @V3 (a4 @jC @jJ @jN (aI C0.r (aI C1.r C2.r)));repeat' first|apply jb<;>intro _|simp(disch:=try exact qW) only[ja i0,ja i2,ja i3,T,c2,t1,t2,vl3,R,g3,E,jri,ve3,Ap,V3.at,jC,C0.q,C1.q,C2.q,g3,V3.ln,V3.rts,jA,jG,jK,V3,jC,jJ,jN,C0.r,C1.r,C2.r,r6,δ,ε])
       refine⟨m,om,m,j,{ x with procs:=x.procs ++ [a] },v1,v2,?v3,rfl,om,hj.2,hl,om,?c0,?c1,?c2,?lv1,?lv2,?lv3,?d12,?d13,?d23,?has⟩;case lv3=>
        refine Lv.up (hi:=s.nx+4) ?_ om;refine VP _ _ ?_ ?_ ?_;all_goals first|(simp only[jg,jn,jt];done)|(simp only[jg,jn,jt];omega)|(simp(disch:=first|omega|(simp only[jg,jn,jt];omega)) only[jA,jG,jK];exact V3)
       case lv1=>
        refine Lv.up (hi:=q) ?_ om;simp(disch:=first|omega|(simp only[jg,jn,jt];omega)) only[jA,jG,jK];refine Lv.apsD ?_ D13.symm;simp(disch:=first|omega|(simp only[jg,jn,jt];omega)) only[jA,jG,jK];exact V1
       case d13=>exact(Df.put V1 (by simp only[jg,jn,jt];omega)).2
       case lv2=>
        refine Lv.up (hi:=q) ?_ om;simp(disch:=first|omega|(simp only[jg,jn,jt];omega)) only[jA,jG,jK];refine Lv.apsD ?_ D23.symm;simp(disch:=first|omega|(simp only[jg,jn,jt];omega)) only[jA,jG,jK];exact V2
       case d23=>exact(Df.put V2 (by simp only[jg,jn,jt];omega)).2
       case d12=>exact D12
       case c0=>(have zz:=a8 C0.q C1.q C2.q @g1 @g2 @g3 V3.ln (a4 V3.rts @jC @jJ (a4 @jN C0.r C1.r C2.r));try exact qt)
       case c1=>(have zz:=a8 C0.q C1.q C2.q @g1 @g2 @g3 V3.ln (a4 V3.rts @jC @jJ (a4 @jN C0.r C1.r C2.r));try exact qt)
       case c2=>(have zz:=a8 C0.q C1.q C2.q @g1 @g2 @g3 V3.ln (a4 V3.rts @jC @jJ (a4 @jN C0.r C1.r C2.r));try exact qt)
       case has=>simp(disch:=decide) only[h12,i0,i2,i3]
  .rw[if_neg c2] at hl;by_cases k5:(tk ts i').kind=5
   .rw[if_pos k5] at hl;have hl:SR.ok x i'=r:=hl;subst hl;have k5':((tk ts i').kind:Int)=5:=om
    unfold pC at *
    (have zz:=a8 @g1 @g2 @g3 @vc1 @vc2 @vc3 C0.r (aI C1.r C2.r);repeat' first|apply jb<;>intro _|simp(disch:=try exact qW) only[ja i0,ja i2,ja i3,T,c2,k5',g1,g2,g3,jbu,C0.q,C1.q,C2.q,g1,g2,g3,vc1,vc2,vc3,C0.r,C1.r,C2.r,r6,δ,ε])
    show G1 3 (pC ts i' 0) (.agg (srE x)) _ _;refine G1.done ?_ haa haa (FzD.agg (.cons (Lv.fz (lo:=3) (hi:=q) (z:=4) ?_ dc (za Qh _)) (.cons (Lv.fz (lo:=3) (hi:=q) (z:=7) ?_ dc (za JS _)) (.cons (Lv.fz (lo:=3) (hi:=q) (z:=4) ?_ dc (za jbB _)) .nil))))
    .unfold pC
     (have zz:=a8 C0.q C1.q C2.q @g1 @g2 @g3 C0.r (aI C1.r C2.r);try exact qt)
    all_goals simp(disch:=first|omega|(simp only[jg,jn,jt];omega)) only[jH,jA,jG,jK]
    .exact V1
    .exact V2
    .exact V3
   .rw[if_neg k5] at hl;have hl:SR.er (tk ts i')=r:=hl;subst hl;have k5':¬ ((tk ts i').kind:Int)=5:=om
    unfold pC at *
    (have zz:=a4 @g1 C0.r C1.r C2.r;repeat' first|apply jb<;>intro _|simp(disch:=try exact qW) only[ja i0,ja i2,ja i3,T,c2,k5',g1,QI hb,zS,C0.q,C1.q,C2.q,g1,C0.r,C1.r,C2.r,r6,δ,ε])
    refine⟨i',0,?_⟩;unfold pC
    (refine G1.done (by have zz:=a4 C0.q C1.q C2.q (aI C0.r (aI C1.r C2.r));exact qt) haa haa ?_;try exact vyD)
 .refine⟨ts.length,i,⟨[],[],[]⟩,.nils,.nils,.nils,rfl,om,hi,hr,om,C0,C1,C2,Lv.nil,Lv.nil,Lv.nil,trivial,trivial,trivial,?_⟩;simp(disch:=decide) only[h12]
theorem jtn:Go.Ev.isAgg γ 26=some true:=Qa0
theorem jtm:Go.Ev.sizeOf γ 26=some 3:=Qa0
theorem jgq (ho:0+3<=qp h b)(hv:rats h b 0 3=[.nils,.nils,.nils]):(qb γ 26 (.ptr b 0) (.agg [.nils,.nils,.nils]) h=true)=True:=eq_true (Zq jtn jtm dc ho hv rfl)
def Vk:SrcT:=⟨[],[],[]⟩
def yF (l:Lt):SrcT×(Nat×Nat×Nat):=
 if(qu l).2.1≠0 then(Vk,(qu l).2) else match Yj (qu l).1 (qu l).1.length 0 Vk with
  |.er t=>(Vk,(151,t.line,t.col))
  |.ok m j=>(m,(0,0,0))
theorem gI (m:SrcT):(srE m).all pc=true:=by
 show([AV.lst m.enums.length (fl enE m.enums),.lst m.vars.length (fl qy m.vars),.lst m.procs.length (fl prE m.procs)]).all pc=true;simp[pc]
theorem jeV {ds:List AV}(h2:ds=zW q):G0 (.tup [.agg (srE Vk),.agg (zW q)]) (.tup [.agg [.nils,.nils,.nils],.agg ds]) s:=by
 subst h2;exact FzD.tup (.cons (.agg (.cons FzD.nils (.cons FzD.nils (.cons FzD.nils .nil)))) (.cons (.agg (.pc haa)) .nil))
theorem jos {m:SrcT}{ds:List AV}(h:cs=srE m)(h2:ds=zW q):G0 (.tup [.agg (srE m),.agg (zW q)]) (.tup [.agg cs,.agg ds]) s:=by
 subst h h2;exact FzD.tup (.cons (.agg (.pc (gI m))) (.cons (.agg (.pc haa)) .nil))
theorem jmN (hb:NB base)(hP:PI base)(l:Lt)(hl:l.length<=9223372036854775807)(hW:(qu l).2.1=0->Wds (qu l).1/\(qu l).1≠[]/\(qu l).2=(0,0,0))(hN:(qu l).2.1=0->Nbs (qu l).1) :
  Tot base 52 [.str l] (.tup [.agg (srE (yF l).1),.agg (zW (yF l).2)]):=by
 refine hb.tot ?_ rfl rfl;refine Vo x9 (hb.pur 52 1 dc) ?_;simp only[y9,jr,ζ,η,θ,κ];rw[(by unfold z9;simp only[qq];rfl:z9=_)];have hC:=jn4 hb hP l hl;have f0:(zW (qu l).2)=[.int .i64 ((qu l).2.1:Int),.int .i64 ((qu l).2.2.1:Int),.int .i64 ((qu l).2.2.2:Int)]:=rfl;by_cases he:(qu l).2.1=0
 .obtain⟨W,hne,hz⟩:=hW he;have NN:=hN he;have hi:0<(qu l).1.length:=Qbv.2 hne;have A:=jlF hb W NN hi;unfold yF;rw[if_neg (by simp[he])];rw[hz] at hC;have s0:Vk=⟨[],[],[]⟩:=rfl;rw[<-s0] at A;generalize (qu l).1=ts at *;have fz:zW (0,0,0)=[.int .i64 0,.int .i64 0,.int .i64 0]:=rfl;rw[fz] at hC;cases hr:Yj ts ts.length 0 Vk with
  |er t=>
   rw[hr] at A;obtain⟨i',d',A⟩:=A;have E:∀ st p,Cl st p [.lst ts.length (fl Tk.cells ts),.int .i64 0,.int .i64 0]->∀ K Kp,XB γ base 66 [.ptr p 0] st K Kp=_:=λst p C K Kp=>A.xb C rfl (λst=>hb.no 66 dc _ _) K Kp;unfold pC at *;repeat' first|apply jb<;>intro _|simp(disch:=try exact dzD) only[hC,E,w4,Qv (f:=65) (vs:=[.ptr 1 0]),JT (f:=65) (vs:=[.ptr 1 0]),YU,uE,Vs,Zo,jgq,Y4,Ug,Uf (base:=base),r6,δ,ε]
   exact jeV rfl
  |ok m j=>
   rw[hr] at A;have A:PM γ base 66 (pC ts 0 0) [] (.ok (.agg [.lst m.enums.length (fl enE m.enums),.lst m.vars.length (fl qy m.vars),.lst m.procs.length (fl prE m.procs)])) (pC ts j 0):=A;have E:∀ st p,Cl st p [.lst ts.length (fl Tk.cells ts),.int .i64 0,.int .i64 0]->∀ K Kp,XB γ base 66 [.ptr p 0] st K Kp=_:=λst p C K Kp=>A.xb C rfl (λst=>hb.no 66 dc _ _) K Kp;dsimp only;unfold pC at *;repeat' first|apply jb<;>intro _|simp(disch:=try exact dzD) only[hC,E,w4,Qv (f:=65) (vs:=[.ptr 1 0]),JT (f:=65) (vs:=[.ptr 1 0]),YU,uE,Vs,Zo,jgq,Y4,Ug,Uf (base:=base),r6,δ,ε]
   exact jos rfl rfl
 .have he':¬ ((qu l).2.1:Int)=0:=om
  unfold yF;rw[if_pos he];rw[f0] at hC;generalize (qu l).1=ts at *;repeat' first|apply jb<;>intro _|simp(disch:=try exact dzD) only[hC,he',w4,Qv (f:=65) (vs:=[.ptr 1 0]),JT (f:=65) (vs:=[.ptr 1 0]),YU,uE,Vs,Zo,jgq,r6,δ,ε]
  exact jeV rfl
theorem jgK {r:Lt}{p:Nat×Nat}{t:Tk}(h:y8 r p=(0,t,n)):t.text.length<=r.length/\t.num<=1000000:=by
 cases r with
 |nil=>simp[y8] at h;obtain⟨h1,h2⟩:=h;subst h1;simp
 |cons x r'=>
  unfold y8 at h;simp only at h;split at h
  .split at h
   .simp at h
   .simp only[Prod.mk.injEq] at h;obtain⟨_,h1,h2⟩:=h;subst h1;exact⟨by simp only[Qal];omega,by simp⟩
  .split at h
   .split at h
    .simp at h
    .rename_i hh;simp only[Prod.mk.injEq] at h;obtain⟨_,h1,h2⟩:=h;subst h1;exact⟨by simp only[Qal];omega,by dsimp only;omega⟩
   .split at h
    .simp at h
    .simp only[Prod.mk.injEq] at h;obtain⟨_,h1,h2⟩:=h;subst h1;exact⟨by simp only[Qal];omega,by simp⟩
structure Goods (n:Nat)(ts:List Tk):Prop where
 ne:ts≠[]
 len:ts.length<=n+1
 tok:∀ t∈ts,t.text.length<=n/\t.num<=1000000
 fin:∀ i,i<ts.length->((tk ts i).kind=5↔i+1=ts.length)
theorem jjT (k:Nat):∀ (r:Lt) (p:Nat×Nat),r.length<=k->(J0 r p).2.1=0->(J0 r p).2=(0,0,0)/\Goods r.length (J0 r p).1:=by
 induction k with
 |zero=>
  intro r p hr;have:r=[]:=QaX om;subst this;have hx:y8 (([]:Lt).drop (qg [])) (qj p (([]:Lt).take (qg [])))=(0,⟨5,[],0,(qj p (([]:Lt).take (qg []))).1,(qj p (([]:Lt).take (qg []))).2⟩,0):=by simp only[List.drop_nil];rfl
  rw[vX _ p hx,if_neg hac,if_pos rfl];intro _;refine⟨rfl,by simp,by simp,by simp,λi hi=>?_⟩;have:i=0:=by simp at hi;omega
  subst this;simp[tk]
 |succ k ih=>
  intro r p hr;have hg:=Kc r;generalize hx:y8 (r.drop (qg r)) (qj p (r.take (qg r)))=x;obtain⟨e,t,n⟩:=x;rw[vX r p hx];by_cases he:e=0
  .subst he;rw[if_neg hac];have hk:=Gd hx;have hgd:=jgK hx;have hle:=KW hx;simp only[QaB] at hgd hle;by_cases hn:n=0
   .rw[if_pos hn];intro _;refine⟨rfl,by simp,by simp,?_,λi hi=>?_⟩
    .intro t' ht';have:t'=t:=by simpa using ht'
     subst this;exact⟨om,hgd.2⟩
    .have:i=0:=by simp at hi;omega
     subst this;have:=hk.1.2 hn;simpa[tk] using this
   .rw[if_neg hn];have hl:((r.drop (qg r)).drop n).length<=k:=by simp only[QaB];omega
    have hI:=ih ((r.drop (qg r)).drop n) (qj (qj p (r.take (qg r))) ((r.drop (qg r)).take n)) hl;generalize hq:J0 ((r.drop (qg r)).drop n) (qj (qj p (r.take (qg r))) ((r.drop (qg r)).take n))=q at hI ⊢;by_cases hf:q.2.1=0
    .rw[if_neg (by simp[hf])];intro _;obtain⟨h1,h2⟩:=hI hf;have hl2:((r.drop (qg r)).drop n).length+1<=r.length:=by simp only[QaB];omega
     generalize ((r.drop (qg r)).drop n).length=m at *;have h3:=h2.len;refine⟨h1,by simp,by simp only[ξ];omega,?_,λi hi=>?_⟩
     .intro t' ht';rcases QaJ.1 ht' with rfl|ht'
      .exact⟨om,hgd.2⟩
      .have:=h2.tok t' ht';exact⟨om,this.2⟩
     .cases i with
      |zero=>
       have hk5:t.kind≠5:=λh=>hn (hk.1.1 h);have:=Qbv.2 h2.ne;show t.kind=5↔0+1=q.1.length+1;constructor
       .intro h;exact absurd h hk5
       .intro h;omega
      |succ i=>
       show(tk q.1 i).kind=5↔i+1+1=q.1.length+1;have:=h2.fin i (by simpa using hi);constructor
       .intro h;have:=this.1 h;omega
       .intro h;exact this.2 om
    .rw[if_pos hf];intro h;exact absurd h hf
  .rw[if_pos he];intro h;exact absurd h he
theorem ja6 (h:(qu l).2.1=0):l.length<=65536/\(qu l).2=(0,0,0)/\Goods l.length (qu l).1:=by
 unfold qu at *;by_cases hl:65536<l.length
 .rw[if_pos hl] at h;cases h
 .rw[if_neg hl] at h ⊢;obtain⟨h1,h2⟩:=jjT l.length l (1,1) (μ _) h;exact⟨om,h1,h2⟩
theorem jnl (h:ts.length<=i):tk ts i=⟨0,[],0,0,0⟩:=by simp[tk,Qac,h]
theorem jik (h:i<ts.length):tk ts i∈ts:=by rw[<-jnm h];exact ω h
theorem Goods.wds (h:Goods n ts)(hn:n<=65536):Wds ts where
 len:=by have:=h.len;omega
 next:=λi hi hk=>by
  have:=h.fin i hi;rcases Qat (i+1) ts.length with h2|h2
  .exact h2
  .exact absurd (this.2 om) hk
 txt:=λi=>by
  rcases Qat i ts.length with h2|h2
  .have:=(h.tok _ (jik h2)).1;omega
  .rw[jnl h2];simp
theorem Goods.nbs (h:Goods n ts):Nbs ts:=λi=>by
 rcases Qat i ts.length with h2|h2
 .exact(h.tok _ (jik h2)).2
 .rw[jnl h2];simp
theorem U6 (h:(qu l).2.1=0):Wds (qu l).1/\(qu l).1≠[]/\(qu l).2=(0,0,0):=
 let ⟨h1,h2,h3⟩:=ja6 h
 ⟨h3.wds h1,h3.ne,h2⟩
theorem jjS (h:(qu l).2.1=0):Nbs (qu l).1:=(ja6 h).2.2.nbs
theorem jkd (hb:NB base)(c:Nat):Tot base 79 [.int .u8 (c:Int)] (.bool (Jd c)):=by
 refine hb.tot ?_ rfl rfl;refine jE x83 haa (hb.pur 79 1 dc) ?_;simp only[y83,jr,ζ,η,θ,κ];rw[(by unfold z83;simp only[qq];rfl:z83=_)];repeat' first|apply jb<;>intro _|simp(disch:=try exact dzA) only[rzZ,δ,ε]
 all_goals(refine G0.v (congrArg AV.bool ?_) rfl;rw[QaA];simp only[Jd,QaC,χ,decide_eq_true_eq,QaT,QbH,QaQ,decide_eq_false_iff_not,true_iff,false_iff,iff_true,iff_false,not_true_eq_false,not_false_eq_true,ne_eq,eq_self]<;>omega)
theorem jmU (hb:NB base)(c:Nat):Tot base 80 [.int .u8 (c:Int)] (.bool (qo c)):=by
 refine hb.tot ?_ rfl rfl;refine jE x85 haa (hb.pur 80 1 dc) ?_;simp only[y85,jr,ζ,η,θ,κ];rw[(by unfold z85;simp only[qq];rfl:z85=_)];repeat' first|apply jb<;>intro _|simp(disch:=try exact dzA) only[rzZ,δ,ε]
 all_goals(refine G0.v (congrArg AV.bool ?_) rfl;rw[QaA];simp only[qo,QaC,χ,decide_eq_true_eq,QaT,QbH,QaQ,decide_eq_false_iff_not,true_iff,false_iff,iff_true,iff_false,not_true_eq_false,not_false_eq_true,ne_eq,eq_self]<;>omega)
theorem jtV (hb:NB base)(l:Lt)(S:Lq)(hS:S.length<=1000000):PX γ base 106 [.str l,.lst S.length (S.map .str)] (.ok (.bool (decide (l∈S)))):=by
 have st1:∀ {k:Nat} (h:k<S.length) (st:St) (K:AV->St->Prop),jq (Xl (.lptr (S.map AV.str) k) st) K=K (.str S[k]) st:=λ{k} h st K=>by
  rw[JD (by simpa using h)];congr 1;exact Um h
 refine jE juN haa (hb.pur 106 1 dc) ?_;simp only[jqn,jr,ζ,η,θ,κ];rw[(by unfold jk2;simp only[qq];rfl:jk2=_)];repeat' first|apply jb<;>intro _|simp(disch:=try exact dzA) only[rzZ,δ,ε]
 refine jV S.length (λk L s=>(∀ j (h:j<S.length),j<k->S[j]≠l)/\Has L 0 (.str l)/\Has L 7 (.lst S.length (S.map AV.str))) ?_ (λk L s hk hI hi hn=>?_) (λL s hI=>?_)
 .refine⟨λj h hj=>absurd hj (Qas _),?_⟩;simp(disch:=decide) only[h12]
 .obtain⟨h0,i0,i7⟩:=hI;repeat' first|apply jb<;>intro _|simp(disch:=try exact dzA) only[ja i0,ja i7,ja hi,ja hn,st1,rzZ,δ,ε]
  .rename_i he;have he:S[k]=l:=by simpa using he
   exact G0.v (by rw[decide_eq_true (he▸ω hk)]) rfl
  .rename_i he;have he:¬ S[k]=l:=by simpa using he
   refine⟨⟨λj h hj=>?_,?_⟩,?_⟩
   .rcases Qat j k with h2|h2
    .exact h0 j h h2
    .have:j=k:=om
     subst this;exact he
   .simp(disch:=decide) only[h12,i0,i7]
   .simp(disch:=decide) only[h12,hi,hn]
 .obtain⟨h0,i0,i7⟩:=hI;repeat' first|apply jb<;>intro _|simp(disch:=try exact dzA) only[ja i0,ja i7,rzZ,δ,ε]
  refine G0.v (congrArg AV.bool ?_) rfl
  symm
  rw[decide_eq_false_iff_not];intro hm;obtain⟨j,hj,e⟩:=Qbi.1 hm;exact h0 j hj hj e
theorem jpu (hb:NB base)(l:Lt):Tot base 81 [.str l] (.bool (HE l)):=by
 refine hb.tot ?_ rfl rfl;have O:=λst b m x D K Kp=>(jtV hb l k7 dc).xf (st:=st) (aZ':=[.str l,.slice b 0 19 m 1 x]) (ks:=[b]) (Fza.pa rfl (Fza.sl (n:=19) (D:Cl st b (k7.map AV.str)) dc (WI k7) .nil)) (λst=>hb.no 106 dc _ _) K Kp;unfold k7 at O;simp only[ζ,η] at O;refine jE x84 haa (hb.pur 81 1 dc) ?_;simp only[y84,jr,ζ,η,θ,κ];rw[(by unfold z84;simp only[qq];rfl:z84=_)];repeat' first|apply jb<;>intro _|simp(disch:=try exact dzA) only[O,rzZ,δ,ε]
 exact G0.v rfl rfl
def KV (l:Lt)(i:Nat):Bool:=Jd (l.getD i 0) ||decide (i≠0) && (qo (l.getD i 0) ||decide (l.getD i 0=95))
theorem jdh {p:Nat->Bool}:∀ {l:Lt},yd p l=l.length->∀ j,j<l.length->p (l.getD j 0)=true
 |[],_,j,h=>by simp at h
 |c :: l,h,j,hj=>by
  simp only[yd] at h;by_cases hc:p c=true
  .rw[if_pos hc] at h;cases j with
   |zero=>exact hc
   |succ j=>exact jdh (l:=l) (by simpa using h) j (by simpa using hj)
  .rw[if_neg hc] at h;simp at h
theorem jrC (hi:i<l.length)(h:KV l i=false):nm l=false:=by
 rw[Qcs];intro hn;unfold nm at hn;simp only[χ,decide_eq_true_eq] at hn;obtain⟨⟨⟨_,h2⟩,_⟩,h3⟩:=hn;have:=jdh h3 i hi;unfold KV at h;unfold Jw at this;by_cases h0:i=0
 .subst h0;rw[h2] at h;cases h
 .rw[decide_eq_true h0] at h;cases h1:Jd (l.getD i 0)<;>cases h4:qo (l.getD i 0)<;>cases h5:decide (l.getD i 0=95)<;>simp only[h1,h4,h5] at h this<;>first|(cases h;done)|(cases this;done)
theorem joL (h:∀ i,i<l.length->KV l i=true):nm l=(decide (0<l.length) && decide (l.length<=32) && !HE l):=by
 have e:yd Jw l=l.length:=kZ (μ _) (λj hj=>by
  have:=h j hj;unfold KV at this;unfold Jw;cases h1:Jd (l.getD j 0)<;>cases h4:qo (l.getD j 0)<;>cases h5:decide (l.getD j 0=95)<;>rw[h1,h4,h5] at this<;>first|rfl|(simp at this;done)) (.inl rfl)
 unfold nm;cases l with
 |nil=>rfl
 |cons c l=>
  have h0:=h 0 hac;unfold KV at h0;have:Jd ((c :: l).getD 0 0)=true:=by simpa using h0
  rw[e,this];simp
theorem Z3 (hb:NB base)(l:Lt)(hl:l.length<=4611686018427387904):Tot base 58 [.str l] (.bool (nm l)):=by
 refine hb.tot ?_ rfl rfl;refine jE x56 haa (hb.pur 58 1 dc) ?_;simp only[y56,jr,ζ,η,θ,κ];rw[(by unfold z56;simp only[qq];rfl:z56=_)];repeat' first|apply jb<;>intro _|simp(disch:=try exact dzA) only[rzZ,δ,ε]
 refine yA (λmm L s=>∃ k:Nat,k<=l.length/\mm=l.length - k/\(∀ j,j<k->KV l j=true)/\Has L 0 (.str l)/\Has L 3 (.int .i64 (k:Int))) ?_ l.length ?_
 .rintro m L s ⟨k,hk,rfl,h0,i0,i3⟩;by_cases hlt:k<l.length
  .have hlt':(k:Int)<(l.length:Int):=om
   have LT:=jkd hb (l.getD k 0);have DT:=jmU hb (l.getD k 0);have z:((k:Int)=0)=(k=0):=by rw[eq_iff_iff];omega
   have z9:((l.getD k 0:Int)=95)=(l.getD k 0=95):=by rw[eq_iff_iff];omega
   have e1:(((k+1:Nat):Int))=(k:Int)+1:=om
   have hn:KV l k=(Jd (l.getD k 0) ||decide (k≠0) && (qo (l.getD k 0) ||decide (l.getD k 0=95))):=rfl;repeat' first|apply jb<;>intro _|simp(disch:=try exact dzA) only[ja i0,ja i3,hlt',LT,DT,z,z9,rzZ,δ,ε]
   all_goals first
    |(refine G0.v (congrArg AV.bool (jrC hlt ?_)).symm rfl;rw[hn];simp_all;done)
    |(
     refine⟨l.length - (k+1),om,k+1,om,rfl,λj hj=>?_,?_⟩
     .rcases Qat j k with h2|h2
      .exact h0 j h2
      .have:j=k:=om
       subst this;rw[hn];simp_all
     .simp(disch:=decide) only[h12,i0,e1])
  .have hlt':¬ (k:Int)<(l.length:Int):=om
   have hk':k=l.length:=om
   subst hk';have g:=joL h0;repeat' first|apply jb<;>intro _|simp(disch:=try exact dzA) only[ja i0,ja i3,hlt',jpu hb l,rzZ,δ,ε]
   all_goals(refine G0.v (congrArg AV.bool ?_) rfl;rw[g];simp_all<;>omega)
 .refine⟨0,Qaa _,rfl,λj hj=>absurd hj (Qas _),?_⟩;simp(disch:=decide) only[h12]
theorem jlG (ho:o<qp h b)(hv:rat h b o=v)(hc:eqs v=true):(qb γ 27 (.ptr b o) v h=true)=True:=eq_true (Qz jnk jnj ho hv hc)
theorem vV (n:Nat)(cs:List AV):eqs (.lst n cs)=true:=nr rfl
def vr (op num:Int)(name:Lt):Bool:=
 if op=1 then decide (0<=num) && decide (num<=1000000)
 else if op=2 then decide (num=0) ||decide (num=1)
 else if op=3 then decide (num=0) && nm name
 else if op=4 then true
 else decide (num=0)
mutual
def J9:Ex->Bool
 |.mk op num name ks _ _=>decide (Qd op=(ks.length:Int)) && Jr ks && (decide (op=3) ||decide (name=[])) && vr op num name
def Jr:List Ex->Bool
 |[]=>true
 |x :: xs=>J9 x && Jr xs
end
theorem Uo (x:Ex):J9 x=(decide (Qd x.op=(x.kids.length:Int)) && Jr x.kids && (decide (x.op=3) ||decide (x.name=[])) && vr x.op x.num x.name):=by cases x;rfl
theorem wa:∀ xs ys,Jr (xs ++ ys)=(Jr xs && Jr ys)
 |[],ys=>by simp[Jr]
 |x :: xs,ys=>by rw[Qag,Jr,Jr,wa,Bool.and_assoc]
theorem ckX {p:Prop} (h:p:=by(first|assumption|(simp(disch:=first|assumption|decide|(first|omega|(simp only[jg,jn,jt,jp,jo];first|done|omega))) only[jB,jD,jz,jU,jA,jG,jH,jK];assumption))):p:=h
theorem jpp (hb:NB base):∀ x:Ex,szE x<=BIG->Tot base 60 [.agg (eE x)] (.bool (J9 x)):=by
 refine Ex.indk λx ih hx=>?_;refine hb.tot ?_ (by first|rfl|simp[pa,pc,ya]) rfl;have hd:=Uo x;have hz:=Yo x;generalize hks:x.kids=ks at *;have hlen:=YW ks;have NM:=Z3 hb x.name (by unfold BIG at *;omega);have KT:=jsV hb x.op;unfold BIG at *;unfold vr at hd;refine jE x92 haa (hb.pur 60 1 dc) ?_;simp only[y92,jr,ζ,η,θ,κ];rw[(by unfold z92;simp only[qq];rfl:z92=_)]
 (have zz:=aI @yX (aI @vV @hks);repeat' first|apply jb<;>intro _|simp(disch:=try exact jdL) only[hks,KT,sm3,jlG,yX,vV,hks,r7,δ,ε])
 .rename_i h;exact G0.v (by rw[hd,decide_eq_false h];rfl) rfl
 refine jV ks.length (λk L s=>Jr (ks.take k)=true/\Has L 13 (.lst ks.length (fl eE ks))/\Has L 1 (.ptr 0 0)/\1<=s.nx/\Cl s 0 (eE x)) ?_ (λk L s hk hI hi hn=>?_) (λL s hI=>?_)
 .refine⟨rfl,?_⟩;simp(disch:=decide) only[h12];exact⟨by show 1<=_;simp only[jg,yu];omega,Cl.new _ _⟩
 .obtain⟨h0,i13,i1,n0,C0⟩:=hI;have hk2:=XY hk;have e:=ih ks[k] (ω hk) om;repeat' first|apply jb<;>intro _|simp(disch:=try exact dzB) only[ja i13,ja i1,ja hi,ja hn,e,r7,δ,ε]
  .rename_i hf;have e3:=wa (ks.take (k+1)) (ks.drop (k+1));rw[Qbr,yt hk,wa] at e3;simp only[Jr,hf,Bool.and_false,Bool.false_and,Qbu] at e3;exact G0.v (by rw[hd,e3];simp) rfl
  .rename_i hf;refine⟨⟨?_,?_⟩,?_⟩
   .rw[yt hk,wa,h0];simp_all [Jr]
   .simp(disch:=decide) only[h12,i13,i1];exact⟨by(first|omega|(simp only[jg,jn,jt,jp,jo];first|done|omega)),ckX⟩
   .simp(disch:=decide) only[h12,hi,hn]
 .obtain⟨h0,i13,i1,n0,C0⟩:=hI;rw[Qab] at h0;rw[h0] at hd
  (have zz:=C0.r;repeat' first|apply jb<;>intro _|simp(disch:=try exact jdL) only[ja i13,ja i1,NM,hks,C0.q,C0.r,r7,δ,ε])
  all_goals(refine G0.v (congrArg AV.bool ?_) rfl;rw[hd];simp_all<;>omega)
theorem jgP (x:Ex):uX x=((decide (x.op=3) ||decide (x.name=[])) && vr x.op x.num x.name):=by
 unfold uX vr;by_cases h1:x.op=1
 .simp[h1,Bool.and_comm]
 .by_cases h2:x.op=2
  .simp[h2,Bool.and_comm]
  .by_cases h3:x.op=3
   .simp[h3]
   .by_cases h4:x.op=4
    .simp[h4]
    .simp[h1,h2,h3,h4,Bool.and_comm]
theorem Wq:∀ xs,Jr xs=xs.all J9
 |[]=>rfl
 |x :: xs=>by rw[Jr,Wq xs];rfl
theorem GO {n:Nat}:∀ xs:List Ex,yE xs<=n↔∀ x∈xs,vF x<=n
 |[]=>by simp[yE]
 |x :: xs=>by simp[yE,Nat.max_le,GO xs]
theorem Yq:∀ (d:Nat) (x:Ex),zg d x=(decide (vF x<=d) && J9 x)
 |0,x=>by
  have:vF x=yE x.kids+1:=K6 x;rw[zg,decide_eq_false om];rfl
 |d+1,x=>by
  rw[Vn,Uo,K6,jgP,Wq];have ih:x.kids.all (zg d)=(decide (yE x.kids<=d) && x.kids.all J9):=by
   rw[QaA];simp only[Qai,χ,decide_eq_true_eq,GO];constructor
   .intro h;exact⟨λk hk=>by have:=h k hk;rw[Yq d k] at this;simp at this;exact this.1,λk hk=>by have:=h k hk;rw[Yq d k] at this;simp at this;exact this.2⟩
   .rintro ⟨h1,h2⟩ k hk;rw[Yq d k];simp[h1 k hk,h2 k hk]
  rw[ih];have e1:decide (yE x.kids+1<=d+1)=decide (yE x.kids<=d):=by simp
  rw[e1];have e2:(decide (1<=x.op) && decide (x.op<31) && decide ((x.kids.length:Int)=if 5<=x.op/\x.op<=13 then 1 else if 14<=x.op/\x.op<31 then 2 else 0))=decide (Qd x.op=(x.kids.length:Int)):=by
   rw[QaA];simp only[χ,decide_eq_true_eq];unfold Qd;have:(0:Int)<=(x.kids.length:Int):=om
   generalize (x.kids.length:Int)=n at *;generalize x.op=op at *;constructor
   .rintro ⟨⟨h1,h2⟩,h3⟩;split at h3
    .rw[if_neg om,if_pos om,h3]
    .split at h3
     .rw[if_neg om,if_neg om,if_pos om,h3]
     .rw[if_pos om,h3]
   .intro h;split at h
    .exact⟨⟨om,om⟩,by rw[if_neg om,if_neg om];omega⟩
    .split at h
     .exact⟨⟨om,om⟩,by rw[if_pos om];omega⟩
     .split at h
      .exact⟨⟨om,om⟩,by rw[if_neg om,if_pos om];omega⟩
      .omega
  rw[e2];cases decide (Qd x.op=(x.kids.length:Int))<;>cases decide (yE x.kids<=d)<;>cases x.kids.all J9<;>cases (decide (x.op=3) ||decide (x.name=[]))<;>cases vr x.op x.num x.name<;>rfl
theorem jmP (hb:NB base)(x:Ex)(hx:szE x<=BIG):Tot base 37 [.agg (eE x)] (.bool (zg 60 x)):=by
 refine hb.tot ?_ (by first|rfl|simp[pa,pc,ya]) rfl;have e:=Yq 60 x;have D:=js1 hb x hx;have S:=jpp hb x hx;refine jE x46 haa (hb.pur 37 1 dc) ?_;simp only[y46,jr,ζ,η,θ,κ];rw[(by unfold z46;simp only[qq];rfl:z46=_)];repeat' first|apply jb<;>intro _|simp(disch:=try exact dzB) only[D,S,r7,δ,ε]
 all_goals(refine G0.v (congrArg AV.bool ?_) rfl;rw[e];simp_all<;>omega)
def Jq (x:Ex):Bool:=zg 60 x && !jgU 4 x
theorem Uc (hb:NB base)(x:Ex)(hx:szE x<=BIG):Tot base 11 [.agg (eE x)] (.bool (Jq x)):=by
 refine hb.tot ?_ (by first|rfl|simp[pa,pc,ya]) rfl;have D:=jmP hb x hx;have S:=jtY hb 4 x hx;refine jE x12 haa (hb.pur 11 1 dc) ?_;simp only[y12,jr,ζ,η,θ,κ];rw[(by unfold z12;simp only[qq];rfl:z12=_)];repeat' first|apply jb<;>intro _|simp(disch:=try exact dzB) only[D,S,r7,δ,ε]
 all_goals(refine G0.v (congrArg AV.bool ?_) rfl;unfold Jq;simp_all)
theorem jpo (hb:NB base)(op:Int):Tot base 105 [.int .i64 op] (.str (sgn op)):=by
 refine hb.tot ?_ rfl rfl;refine jE x52 haa (hb.pur 105 1 dc) ?_;simp only[y52,jr,ζ,η,θ,κ];rw[(by unfold z52;simp only[qq];rfl:z52=_)];repeat' first|apply jb<;>intro _|simp(disch:=try exact dzB) only[r7,δ,ε]
 .exact G0.v (by rw[sgn,if_neg om]) rfl
 .exact G0.v (by rw[sgn,if_neg om]) rfl
 .have h26:(op - 5).toNat<vM.length:=by show(op - 5).toNat<26;omega
  show G0 _ ((vM.map AV.str).getD _ _) _;rw[Um h26];exact G0.v (by rw[sgn,if_pos om,Qak,Qaf h26];rfl) rfl
theorem ZC (e:EnumT):enE e=[.str e.name,.lst e.vals.length (e.vals.map .str),.int .i64 e.line,.int .i64 e.col]:=rfl
theorem Q6 (e:EnumT):(enE e).length=4:=nr (by rw[ZC];rfl)
theorem jhh (e:EnumT)(k:Nat):(enE e).getD k .bad=([.str e.name,.lst e.vals.length (e.vals.map .str),.int .i64 e.line,.int .i64 e.col]:List AV).getD k .bad:=nr (by rw[ZC])
theorem jb0 (e:EnumT):lall AV.cell (enE e)=true:=nr (by rw[ZC];rfl)
theorem je:type_of% (a4 @Q6 (λx=>gq (ZC x)) (λx=>gd (ZC x)) (aI @jb0 (frE Q6))):=(a4 @Q6 (λx=>gq (ZC x)) (λx=>gd (ZC x)) (aI @jb0 (frE Q6)))
theorem zt:type_of% (aI @Q6 (aI @jb0 (λx=>gq (ZC x)))):=(aI @Q6 (aI @jb0 (λx=>gq (ZC x))))
theorem QJ (d:DeclT):qy d=[.str d.name,.str d.ty,.int .i64 d.lo,.int .i64 d.hi,.lst d.begins.length (fl eE d.begins),.int .i64 d.line,.int .i64 d.col]:=rfl
theorem Yh (d:DeclT):(qy d).length=7:=nr (by rw[QJ];rfl)
theorem jo8 (d:DeclT)(k:Nat):(qy d).getD k .bad=([.str d.name,.str d.ty,.int .i64 d.lo,.int .i64 d.hi,.lst d.begins.length (fl eE d.begins),.int .i64 d.line,.int .i64 d.col]:List AV).getD k .bad:=nr (by rw[QJ])
theorem Kg (d:DeclT):lall AV.cell (qy d)=true:=nr (by rw[QJ];rfl)
theorem jc:type_of% (a4 @Yh (λx=>gq (QJ x)) (λx=>gd (QJ x)) (aI @Kg (frE Yh))):=(a4 @Yh (λx=>gq (QJ x)) (λx=>gd (QJ x)) (aI @Kg (frE Yh)))
theorem yf:type_of% (aI @Yh (aI @Kg (λx=>gq (QJ x)))):=(aI @Yh (aI @Kg (λx=>gq (QJ x))))
theorem Kj (a:AsT):asE a=[.str a.name,.int .i64 a.to.op,.int .i64 a.to.num,.str a.to.name,.lst a.to.kids.length (fl eE a.to.kids),.int .i64 a.to.line,.int .i64 a.to.col,.int .i64 a.line,.int .i64 a.col]:=(by unfold asE;rw[qA];rfl)
theorem jf:type_of% (a4 @vK (λx=>gq (Kj x)) (λx=>gd (Kj x)) (aI @GZ (frE vK))):=(a4 @vK (λx=>gq (Kj x)) (λx=>gd (Kj x)) (aI @GZ (frE vK)))
theorem zu:type_of% (aI @vK (aI @GZ (λx=>gq (Kj x)))):=(aI @vK (aI @GZ (λx=>gq (Kj x))))
theorem Vl (r:RuleT):ruE r=[.int .i64 r.when.op,.int .i64 r.when.num,.str r.when.name,.lst r.when.kids.length (fl eE r.when.kids),.int .i64 r.when.line,.int .i64 r.when.col,.lst r.acts.length (fl asE r.acts)]:=Ur r
theorem jbw (r:RuleT):lall AV.cell (ruE r)=true:=nr (by rw[Vl];rfl)
theorem jZ:type_of% (a4 @uP (λx=>gq (Vl x)) (λx=>gd (Vl x)) (aI @jbw (frE uP))):=(a4 @uP (λx=>gq (Vl x)) (λx=>gd (Vl x)) (aI @jbw (frE uP)))
theorem zo:type_of% (aI @uP (aI @jbw (λx=>gq (Vl x)))):=(aI @uP (aI @jbw (λx=>gq (Vl x))))
theorem wd (p:ProcT):prE p=[.str p.name,.lst p.rules.length (fl ruE p.rules),.int .i64 p.line,.int .i64 p.col]:=rfl
theorem Vq (p:ProcT):(prE p).length=4:=nr (by rw[wd];rfl)
theorem jbC (p:ProcT):lall AV.cell (prE p)=true:=nr (by rw[wd];rfl)
theorem qT:type_of% (a4 @Vq (λx=>gq (wd x)) (λx=>gd (wd x)) (aI @jbC (frE Vq))):=(a4 @Vq (λx=>gq (wd x)) (λx=>gd (wd x)) (aI @jbC (frE Vq)))
theorem zq:type_of% (aI @Vq (aI @jbC (λx=>gq (wd x)))):=(aI @Vq (aI @jbC (λx=>gq (wd x))))
theorem Z9 (m:SrcT):srE m=[.lst m.enums.length (fl enE m.enums),.lst m.vars.length (fl qy m.vars),.lst m.procs.length (fl prE m.procs)]:=rfl
theorem uK (m:SrcT):(srE m).length=3:=nr (by rw[Z9];rfl)
theorem jbr (m:SrcT):lall AV.cell (srE m)=true:=nr (by rw[Z9];rfl)
theorem qS:type_of% (a4 @uK (λx=>gq (Z9 x)) (λx=>gd (Z9 x)) (aI @jbr (frE uK))):=(a4 @uK (λx=>gq (Z9 x)) (λx=>gd (Z9 x)) (aI @jbr (frE uK)))
theorem zn:type_of% (aI @uK (aI @jbr (λx=>gq (Z9 x)))):=(aI @uK (aI @jbr (λx=>gq (Z9 x))))
theorem dzE {p:Prop}(h:p:=by first|assumption|decide|omega|(simp only[qV,zu,zo,zt,yf,zq,zn,rzN,ξ,φ];first|done|omega)|(apply Qu<;>first|omega|((simp(disch:=first|assumption|omega|(simp only[qV,zu,zo,zt,yf,zq,zn,rzN,ξ,φ];first|done|omega)) only[rzL,ξ,φ,Qaj,δ,qV,zu,zo,zt,yf,zq,zn ])<;>first|done|omega))|(simp(disch:=first|assumption|omega|(simp only[qV,zu,zo,zt,yf,zq,zn,rzN,ξ,φ];first|done|omega)) only[qV,zu,zo,zt,yf,zq,zn,rzG,θ,κ,ε,QaL,ξ,φ,Qag,Qam];first|done|omega|decide)):p:=h
theorem cyE {p:Prop}(h:p:=by apply Qu<;>first|omega|((simp(disch:=first|assumption|omega|(simp only[qV,zu,zo,zt,yf,zq,zn,rzN,ξ,φ];first|done|omega)) only[rzL,ξ,φ,Qaj,δ,qV,zu,zo,zt,yf,zq,zn])<;>first|done|rfl|omega|(simp;done)|(simp;omega))):p:=h
theorem zI {p:Prop}(h:p:=by first|assumption|decide|omega|(simp only[qV,zu,zo,zt,yf,zq,zn,zz,rzN,ξ,φ];first|done|omega)|(apply Qu<;>first|omega|((simp(disch:=first|assumption|omega|(simp only[qV,zu,zo,zt,yf,zq,zn,zz,rzN,ξ,φ];first|done|omega)) only[rzL,ξ,φ,Qaj,δ,qV,zu,zo,zt,yf,zq,zn,zz ])<;>first|done|omega))|(simp(disch:=first|assumption|omega|(simp only[qV,zu,zo,zt,yf,zq,zn,zz,rzN,ξ,φ];first|done|omega)) only[qV,zu,zo,zt,yf,zq,zn,zz,rzG,θ,κ,ε,QaL,ξ,φ,Qag,Qam];first|done|omega|decide)):p:=h
theorem jhR {S:Lq}{k:Nat}{st:St}{K:AV->St->Prop}(h:k<S.length):jq (Xl (.lptr (S.map AV.str) k) st) K=K (.str S[k]) st:=by
 rw[JD (by simpa using h)];congr 1;exact Um h
theorem joh {a:Nat}{st:St}{K:AV->St->Prop}(h:a<=9223372036854775807):jq (JC .quo (.int .i64 (a:Int)) (.int .i64 10) st) K=K (.int .i64 ((a / 10:Nat):Int)) st:=by
 have e:qQ .i64 ((a / 10:Nat):Int)=((a / 10:Nat):Int):=XN om om;show K (.int .i64 (qQ .i64 ((a / 10:Nat):Int))) st=_;rw[e]
theorem jog {a:Nat}{st:St}{K:AV->St->Prop}:jq (JC .rem (.int .i64 (a:Int)) (.int .i64 10) st) K=K (.int .i64 ((a % 10:Nat):Int)) st:=rfl
def Wx (n:Nat):Lt:=if n<10 then [48+n] else Wx (n / 10) ++ [48+n % 10]
termination_by n
decreasing_by omega
def wV (n:Int):Lt:=if n<0 then 45 :: Wx (-n).toNat else Wx n.toNat
theorem jsl:∀ n,n<10->(([48,49,50,51,52,53,54,55,56,57]:Lt).drop n).take 1=[48+n]:=dc
theorem uA:∀ (k n:Nat),n<10 ^ (k+1)->(Wx n).length<=k+1
 |0,n,h=>by rw[Wx,if_pos om];simp
 |k+1,n,h=>by
  rw[Wx];by_cases h2:n<10
  .rw[if_pos h2];simp
  .rw[if_neg h2,ν];have:=uA k (n / 10) (by rw[Nat.pow_succ] at h;omega);simp;omega
theorem jkf (hb:NB base)(n:Nat)(h:n<=1000000000000000):Tot base 77 [.int .i64 (n:Int)] (.str (Wx n)):=by
 induction n using Nat.strongRecOn with
 |_ n ih=>
 refine hb.tot ?_ rfl rfl;have hd:Wx n=if n<10 then [48+n] else Wx (n / 10) ++ [48+n % 10]:=by rw[Wx]
 by_cases h2:n<10
 .have g:=jsl n h2;have e1:((n:Int)+1 - (n:Int)).toNat=1:=om
  have e2:(n:Int)<10:=om
  refine jE x53 haa (hb.pur 77 1 dc) ?_;simp only[y53,jr,ζ,η,θ,κ];rw[(by unfold z53;simp only[qq];rfl:z53=_)];repeat' first|apply jb<;>intro _|simp(disch:=try exact dzB) only[e1,e2,g,r7,δ,ε]
  exact G0.v (by rw[hd,if_pos h2]) rfl
 .have i:=ih (n / 10) om om;have g:=jsl (n % 10) om;have e1:(((n % 10:Nat):Int)+1 - ((n % 10:Nat):Int)).toNat=1:=om
  have e2:¬ (n:Int)<10:=om
  have e0:¬ (n:Int)<0:=om
  have e3:(n % 10:Nat)+1<=10:=om
  have hl:=uA 14 (n / 10) (by
   have:(10:Nat) ^ (14+1)=1000000000000000:=dc
   omega)
  refine jE x53 haa (hb.pur 77 1 dc) ?_;simp only[y53,jr,ζ,η,θ,κ];rw[(by unfold z53;simp only[qq];rfl:z53=_)];repeat' first|apply jb<;>intro _|simp(disch:=try exact dzB) only[e1,e2,e0,g,joh,jog,i,r7,δ,ε]
  exact G0.v (by rw[hd,if_neg h2]) rfl
theorem jhD (hb:NB base)(n:Int)(h1 : -1000000000000000<=n)(h2:n<=1000000000000000):Tot base 77 [.int .i64 n] (.str (wV n)):=by
 by_cases h0:n<0
 .obtain⟨m,hm⟩:∃ m:Nat,-n=(m:Int):=⟨(-n).toNat,om⟩;have D:=jkf hb m om;have hl:=uA 15 m (by
   have:(10:Nat) ^ (15+1)=10000000000000000:=dc
   omega)
  refine hb.tot ?_ rfl rfl;refine jE x53 haa (hb.pur 77 1 dc) ?_;simp only[y53,jr,ζ,η,θ,κ];rw[(by unfold z53;simp only[qq];rfl:z53=_)];repeat' first|apply jb<;>intro _|simp(disch:=try exact dzB) only[h0,hm,D,r7,δ,ε]
  exact G0.v (by rw[wV,if_pos h0,hm];rfl) rfl
 .obtain⟨m,hm⟩:∃ m:Nat,n=(m:Int):=⟨n.toNat,om⟩;subst hm;rw[wV,if_neg h0];exact jkf hb m om
theorem uB {n:Int}(h1 : -1000000<=n)(h2:n<=1000000):(wV n).length<=8:=by
 have e:(10:Nat) ^ (6+1)=10000000:=dc
 unfold wV;split
 .have:=uA 6 (-n).toNat om;simp;omega
 .have:=uA 6 n.toNat om;omega
def zy:Ex->Lt
 |.mk op num name ks _ _=>match ks with
  |[x,y]=>(if x.kids.length=0 then zy x else 40 :: (zy x ++ [41])) ++ [32] ++ sgn op ++ [32] ++ (if y.kids.length=0 then zy y else 40 :: (zy y ++ [41]))
  |[x]=>sgn op ++ (if 6<op then [32] else []) ++ (if x.kids.length=0 then zy x else 40 :: (zy x ++ [41]))
  |_=>if op=1 then wV num else if op=2 then(if num=1 then [116,114,117,101] else [102,97,108,115,101]) else name
termination_by x=>SizeOf.sizeOf x
def wS (x:Ex):Lt:=if x.kids.length=0 then zy x else 40 :: (zy x ++ [41])
theorem jeS (op num:Int)(name:Lt)(x y:Ex)(l c:Int):zy (.mk op num name [x,y] l c)=wS x ++ [32] ++ sgn op ++ [32] ++ wS y:=by rw[zy];rfl
theorem jeT (op num:Int)(name:Lt)(x:Ex)(l c:Int):zy (.mk op num name [x] l c)=sgn op ++ (if 6<op then [32] else []) ++ wS x:=by rw[zy];rfl
theorem jeU (op num:Int)(name:Lt)(l c:Int):zy (.mk op num name [] l c)=if op=1 then wV num else if op=2 then(if num=1 then [116,114,117,101] else [102,97,108,115,101]) else name:=by rw[zy]<;>intros<;>simp_all
theorem Ho (op:Int):(sgn op).length<=3:=by
 unfold sgn;split
 .rename_i h;have:∀ n,n<26->(vM.getD n []).length<=3:=dc
  exact this _ om
 .simp
theorem gK {x:Ex}(h:J9 x=true):Qd x.op=(x.kids.length:Int)/\(∀ k∈x.kids,J9 k=true)/\vr x.op x.num x.name=true/\(x.op=3\/x.name=[]):=by
 rw[Uo,Wq] at h;simp only[χ,decide_eq_true_eq,Qai,QaC] at h;exact⟨h.1.1.1,h.1.1.2,h.2,h.1.2⟩
theorem jdp (op:Int):Qd op<=2:=by unfold Qd;split<;>(try split)<;>(try split)<;>omega
theorem JN:∀ x:Ex,J9 x=true->(zy x).length<=16 * szE x:=by
 refine Ex.indk λx ih h=>?_;obtain⟨h1,h2,h3,h4⟩:=gK h;have h5:=jdp x.op;cases x with
 |mk op num name ks l c=>
 simp only[Ex.op,Ex.num,Ex.name,Ex.kids] at *;have sz:szE (.mk op num name ks l c)=yP ks+name.length+1:=rfl;rw[sz];have inn:∀ k∈ks,(wS k).length<=16 * szE k+2:=λk hk=>by
  have:=ih k hk (h2 k hk);unfold wS;split
  .omega
  .simp;omega
 match ks,h1,inn with
 |[],_,_=>
  rw[jeU];unfold vr at h3;split
  .rename_i h6;rw[if_pos h6] at h3;simp at h3;have:=uB (n:=num) om om;omega
  .split
   .split<;>simp<;>omega
   .omega
 |[x],_,inn=>
  rw[jeT];have:=inn x hac;have:=Ho op;simp only[ν,yP];split<;>simp<;>omega
 |[x,y],_,inn=>
  rw[jeS];have:=inn x hac;have:=inn y hac;have:=Ho op;simp only[ν,yP,ξ,φ];omega
 |x :: y :: z :: r,h1,_=>
  simp only[ξ] at h1;omega
theorem jmi {x:Ex}(h:J9 x=true):(wS x).length<=16 * szE x+2:=by
 have:=JN x h;unfold wS;split
 .omega
 .simp;omega
theorem jrR (x:Ex)(xs:List Ex){st:St}{K:AV->St->Prop}:jq (Q4 6 (.lptr (fl eE (x :: xs)) 0) st) K=K (.agg (eE x)) st:=by
 have:=jmu (st:=st) (K:=K) (xs:=x :: xs) (i:=0) hac;rw[QaP] at this;exact this
theorem jvg (x y:Ex)(xs:List Ex){st:St}{K:AV->St->Prop}:jq (Q4 6 (.lptr (fl eE (x :: y :: xs)) 6) st) K=K (.agg (eE y)) st:=jmu (st:=st) (K:=K) (xs:=x :: y :: xs) (i:=1) hac
theorem jmS (hb:NB base){x:Ex}(h:J9 x=true)(hx:szE x<=BIG)(T:Tot base 78 [.agg (eE x)] (.str (zy x))):Tot base 104 [.agg (eE x)] (.str (wS x)):=by
 refine hb.tot ?_ (by first|rfl|simp[pa,pc,ya]) rfl;have hl:=JN x h;have z:((x.kids.length:Int)=0)=(x.kids.length=0):=by rw[eq_iff_iff];omega
 unfold BIG at hx;refine jE x51 haa (hb.pur 104 1 dc) ?_;simp only[y51,jr,ζ,η,θ,κ];rw[(by unfold z51;simp only[qq];rfl:z51=_)]
 (have zz:=@ν.{0};repeat' first|apply jb<;>intro _|simp(disch:=try exact jdL) only[T,z,ν,r7,δ,ε])
 .exact G0.v (by rw[wS,if_pos (by assumption)]) rfl
 .exact G0.v (by rw[wS,if_neg (by assumption)]<;>rfl) rfl
theorem jek (hb:NB base):∀ x:Ex,szE x<=BIG->J9 x=true->Tot base 78 [.agg (eE x)] (.str (zy x)):=by
 refine Ex.indk λx ih hx h=>?_;refine hb.tot ?_ (by first|rfl|simp[pa,pc,ya]) rfl;obtain⟨h1,h2,h3,h4⟩:=gK h;have h5:=jdp x.op;have sz:=Yo x;have hl:=JN x h;have SG:=jpo hb x.op;have sl:=Ho x.op;have inn:∀ k∈x.kids,Tot base 104 [.agg (eE k)] (.str (wS k))/\(wS k).length<=16 * szE k+2:=λk hk=>by
  have:szE k<=yP x.kids:=by
   obtain⟨i,hi,rfl⟩:=Qbi.1 hk;exact XY hi
  have hk2:szE k<=BIG:=om
  exact⟨jmS hb (h2 k hk) hk2 (ih k hk hk2 (h2 k hk)),jmi (h2 k hk)⟩
 clear ih hl;unfold BIG at *;cases x with
 |mk op num name ks l c=>
 simp only[Ex.op,Ex.num,Ex.name,Ex.kids] at *
 match ks,h1,sz,inn with
 |[],_,sz,_=>
  rw[jeU];have D:op=1->Tot base 77 [.int .i64 num] (.str (wV num)):=λe=>by
   subst e;unfold vr at h3;simp at h3;exact jhD hb num om om
  have ek:(Ex.mk op num name [] l c).kids=[]:=rfl;have eo:(Ex.mk op num name [] l c).op=op:=rfl;have en:(Ex.mk op num name [] l c).num=num:=rfl;have ea:(Ex.mk op num name [] l c).name=name:=rfl;refine jE x16 haa (hb.pur 78 1 dc) ?_;simp only[y16,jr,ζ,η,θ,κ];rw[(by unfold z16;simp only[qq];rfl:z16=_)];repeat' first|apply jb<;>intro _|simp(disch:=try exact dzB) only[D,ek,eo,en,ea,r7,δ,ε]
  all_goals(refine G0.v (congrArg AV.str ?_) rfl;split<;>(try split)<;>first|rfl|omega|(exfalso;omega)|contradiction)
 |[x],_,sz,inn=>
  obtain⟨I,il⟩:=inn x hac;simp only[yP] at sz;rw[jeT];have ek:(Ex.mk op num name [x] l c).kids=[x]:=rfl;have eo:(Ex.mk op num name [x] l c).op=op:=rfl;refine jE x16 haa (hb.pur 78 1 dc) ?_;simp only[y16,jr,ζ,η,θ,κ];rw[(by unfold z16;simp only[qq];rfl:z16=_)]
  (have zz:=aI @yX (aI @vV (aI @ν.{0} (aI @ek @eo)));repeat' first|apply jb<;>intro _|simp(disch:=try exact jdL) only[ek,eo,I,SG,jrR,sm3,jlG,Xk,yX,vV,ν,ek,eo,r7,δ,ε])
  all_goals(refine G0.v (congrArg AV.str ?_) rfl;split<;>first|rfl|(exfalso;omega)|(simp;done))
 |[x,y],_,sz,inn=>
  obtain⟨I,il⟩:=inn x hac;obtain⟨I2,il2⟩:=inn y hac;simp only[yP] at sz;rw[jeS];have ek:(Ex.mk op num name [x,y] l c).kids=[x,y]:=rfl;have eo:(Ex.mk op num name [x,y] l c).op=op:=rfl;refine jE x16 haa (hb.pur 78 1 dc) ?_;simp only[y16,jr,ζ,η,θ,κ];rw[(by unfold z16;simp only[qq];rfl:z16=_)]
  (have zz:=aI @yX (aI @vV (aI @ν.{0} (aI @ek @eo)));repeat' first|apply jb<;>intro _|simp(disch:=try exact jdL) only[ek,eo,I,I2,SG,jrR,jvg,sm3,jlG,Xk,yX,vV,ν,ek,eo,r7,δ,ε])
  exact G0.v rfl rfl
 |x :: y :: z :: r,h1,_,_=>
  simp only[ξ] at h1;omega
def Qe:Lq->Lt
 |[]=>[]
 |x :: xs=>x ++ xs.flatMap λy=>44 :: 32 :: y
theorem Gu (xs:Lq)(y:Lt):Qe (xs ++ [y])=Qe xs ++ (if xs.length=0 then [] else [44,32]) ++ y:=by
 cases xs with
 |nil=>simp[Qe]
 |cons x xs=>simp[Qe]
theorem Y9 {n:Nat}:∀ {xs:Lq},(∀ x∈xs,x.length<=n)->(Qe xs).length<=xs.length * (n+2)
 |[],_=>by simp[Qe]
 |x :: xs,h=>by
  have h1:=h x hac;have:(xs.flatMap λy=>44 :: 32 :: y).length<=xs.length * (n+2):=by
   clear h1;induction xs with
   |nil=>simp
   |cons y ys ih=>
    have h2:=h y hac;have:=ih λz hz=>h z (by simp at hz ⊢;rcases hz with rfl|hz<;>simp[*]);rw[QaZ,ν,show(y :: ys).length=ys.length+1 from rfl,QaR];simp only[ξ];omega
  rw[Qe,ν,show(x :: xs).length=xs.length+1 from rfl,QaR];omega
theorem Xb {l:Lt}(h:nm l=true):l.length<=32:=by
 unfold nm at h;simp only[χ,decide_eq_true_eq] at h;exact h.1.1.1.2
def Q5 (e:EnumT):Option Lt:=if nm e.name=true/\1<=e.vals.length/\e.vals.length<=32/\e.vals.all nm=true then some ([101,110,117,109,32] ++ e.name ++ [32,123,32] ++ Qe e.vals ++ [32,125,10]) else none
def Hi (o:Option Lt):AV:=.tup [.str (o.getD []),.bool o.isSome]
theorem jij (l:Lt):Hi (some l)=.tup [.str l,.bool true]:=rfl
theorem G0.tup2 {s:St}{a:Lt}{b:Bool}{u:AV}(h:u=.tup [.str a,.bool b]):G0 u (.tup [.str a,.bool b]) s:=by
 subst h;exact FzD.tup (.cons (.pc rfl) (.cons (.pc rfl) .nil))
theorem jed {α:Type}{p:α->Bool}{xs:List α}{k:Nat}(h:k<xs.length)(h2:p xs[k]=false):xs.all p=false:=by
 rw[Qcs];intro h3;rw[Qai] at h3;have:=h3 _ (ω h);rw[h2] at this;cases this
theorem jb4 {α:Type}{p:α->Bool}{xs:List α}{k:Nat}(h:k<xs.length):(xs.take (k+1)).all p=((xs.take k).all p && p xs[k]):=by
 rw[yt h,QaY];simp
theorem r9:type_of%(a4 @jd @jf @jZ (aI @je (aI @jc @rzZ))):=a4 @jd @jf @jZ (aI @je (aI @jc @rzZ))
theorem jpx (hb:NB base)(e:EnumT)(h1:e.name.length<=BIG)(h2:e.vals.length<=BIG)(h3:∀ v∈e.vals,v.length<=BIG):Tot base 56 [.agg (enE e)] (Hi (Q5 e)):=by
 refine hb.tot ?_ (by first|rfl|simp[pa,pc,ya,Xu,Vm,Qh,JS]) rfl;have NM:=Z3 hb e.name (by unfold BIG at *;omega);unfold BIG at *;have c1:((e.vals.length:Int)<1)=(e.vals.length<1):=by rw[eq_iff_iff];omega
 have c2:((32:Int)<(e.vals.length:Int))=(32<e.vals.length):=by rw[eq_iff_iff];omega
 refine jE x54 haa (hb.pur 56 1 dc) ?_;simp only[y54,jr,ζ,η,θ,κ];rw[(by unfold z54;simp only[qq];rfl:z54=_)]
 (have zz:=@ν.{0};repeat' first|apply jb<;>intro _|simp(disch:=try exact zI) only[NM,c1,c2,ν,r9,δ,ε])
 .rename_i h;exact G0.tup2 (by rw[Q5,if_neg (by rintro ⟨h6,_⟩;rw[h] at h6;cases h6)];rfl)
 .exact G0.tup2 (by rw[Q5,if_neg om];rfl)
 .exact G0.tup2 (by rw[Q5,if_neg om];rfl)
 have hn:nm e.name=true:=by simp_all
 have hnl:=Xb hn;have l1:1<=e.vals.length:=om
 have l2:e.vals.length<=32:=om
 refine jV e.vals.length (λk L s=>(e.vals.take k).all nm=true/\Has L 4 (.str ([101,110,117,109,32] ++ e.name ++ [32,123,32] ++ Qe (e.vals.take k)))/\Has L 28 (.lst e.vals.length (e.vals.map AV.str))) ?_ (λk L s hk hI hi hn=>?_) (λL s hI=>?_)
 .refine⟨rfl,?_⟩;rw[QaH,Qe,QaO];simp(disch:=decide) only[h12,QaE,Qag,Qam]
 .obtain⟨h0,i4,i28⟩:=hI;have N2:=Z3 hb e.vals[k] (by have:=h3 _ (ω hk);omega);have hs:=Gu (e.vals.take k) e.vals[k];rw[<-yt hk] at hs;have hjl:(Qe (e.vals.take k)).length<=32 * 34:=by
   have:=Y9 (n:=32) (xs:=e.vals.take k) λx hx=>Xb (Qai.1 h0 x hx);have h7:(e.vals.take k).length<=32:=by rw[Qal];omega
   have:=Qav 34 h7;omega
  have hvl:=h3 _ (ω hk);have tl:(e.vals.take k).length=k:=by rw[Qal];omega
  rw[tl] at hs;have c3:((0:Int)<(k:Int))=(0<k):=by rw[eq_iff_iff];omega
  (have zz:=@ν.{0};repeat' first|apply jb<;>intro _|simp(disch:=try exact zI) only[ja i4,ja i28,ja hi,ja hn,jhR,N2,c3,ν,r9,δ,ε])
  .rename_i h;exact G0.tup2 (by rw[Q5,if_neg (by rintro ⟨_,_,_,h6⟩;rw[jed hk h] at h6;cases h6)];rfl)
  .rename_i h h8;refine⟨⟨by rw[jb4 hk,h0];simp_all,?_⟩,?_⟩
   .rw[hs,if_neg om];simp(disch:=decide) only[h12,i28,QaE,Qag,Qam]
   .simp(disch:=decide) only[h12,hi,hn]
  .rename_i h h8;refine⟨⟨by rw[jb4 hk,h0];simp_all,?_⟩,?_⟩
   .rw[hs,if_pos om];simp(disch:=decide) only[h12,i28,QaE,Qag,Qam]
   .simp(disch:=decide) only[h12,hi,hn]
 .obtain⟨h0,i4,i28⟩:=hI;rw[Qab] at h0 i4;have hjl:(Qe e.vals).length<=32 * 34:=by
   have:=Y9 (n:=32) (xs:=e.vals) λx hx=>Xb (Qai.1 h0 x hx);have:=Qav 34 l2;omega
  (have zz:=@ν.{0};repeat' first|apply jb<;>intro _|simp(disch:=try exact zI) only[ja i4,ja i28,ν,r9,δ,ε])
  exact G0.tup2 (by rw[Q5,if_pos ⟨hn,l1,l2,h0⟩];rfl)
def wB (n:Int):Bool:=decide (-1000000<=n) && decide (n<=1000000)
def QX (d:DeclT):Option Lt:=
 if d.ty=[] then(if wB d.lo=true/\wB d.hi=true then some (wV d.lo ++ [46,46] ++ wV d.hi) else none)
 else if d.lo=0/\d.hi=0/\(d.ty=[98,111,111,108]\/nm d.ty=true) then some d.ty else none
def Z1 (xs:List Ex):Lt:=xs.flatMap λx=>[32,61,32] ++ zy x
def Qt (d:DeclT):Option Lt:=match QX d with
 |none=>none
 |some t=>if d.begins.length<=1/\nm d.name=true/\d.begins.all Jq=true then some ([118,97,114,32] ++ d.name ++ [32,58,32] ++ t ++ Z1 d.begins ++ [59,10]) else none
theorem H0 {d:DeclT}(h:QX d=none):Qt d=none:=by unfold Qt;rw[h]
theorem jfI {d:DeclT}{t:Lt}(h:QX d=some t):Qt d=if d.begins.length<=1/\nm d.name=true/\d.begins.all Jq=true then some ([118,97,114,32] ++ d.name ++ [32,58,32] ++ t ++ Z1 d.begins ++ [59,10]) else none:=by unfold Qt;rw[h]
theorem Jj {x:Ex}(h:Jq x=true):J9 x=true:=by
 unfold Jq at h;rw[Yq] at h;simp only[χ] at h;exact h.1.2
theorem jrQ {xs:List Ex}(h:0<xs.length){st:St}{K:AV->St->Prop}:jq (Q4 6 (.lptr (fl eE xs) 0) st) K=K (.agg (eE xs[0])) st:=by
 have:=jmu (st:=st) (K:=K) h;rw[QaP] at this;exact this
theorem ja5 (hb:NB base)(d:DeclT)(t:Lt)(hw:QX d=some t)(ht:t.length<=BIG)(h1:d.name.length<=BIG)(h2:∀ x∈d.begins,szE x<=BIG){L:Sl}{s:St}(i1:Has L 1 (.ptr 0 0))(i4:Has L 4 (.str ([118,97,114,32] ++ d.name ++ [32,58,32] ++ t)))(n0:1<=s.nx)(C0:Cl s 0 (qy d)) :
  xC γ base jf7 L s (XQ γ y55.res (Yg G0 (.ok (Hi (Qt d))))) λv _ s=>X8 G0 (.ok (Hi (Qt d))) v s.bare:=by
 have NM:=Z3 hb d.name (by unfold BIG at *;omega);have c2:((1:Int)<(d.begins.length:Int))=(1<d.begins.length):=by rw[eq_iff_iff];omega
 have hd:=jfI hw;unfold BIG at *;unfold y55;rw[(by unfold jf7;simp only[qq];rfl:jf7=_)]
 (have zz:=C0.r;repeat' first|apply jb<;>intro _|simp(disch:=try exact zI) only[ja i1,ja i4,NM,c2,C0.q,C0.r,r9,δ,ε])
 .exact G0.tup2 (by rw[hd,if_neg om];rfl)
 .rename_i h8 h;exact G0.tup2 (by rw[hd,if_neg (by rintro ⟨_,h6,_⟩;rw[h] at h6;cases h6)];rfl)
 have hn:nm d.name=true:=by simp_all
 have l1:d.begins.length<=1:=om
 have hnl:=Xb hn;refine jV d.begins.length (λk L s=>(d.begins.take k).all Jq=true/\Has L 1 (.ptr 0 0)/\Has L 4 (.str ([118,97,114,32] ++ d.name ++ [32,58,32] ++ t ++ Z1 (d.begins.take k)))/\Has L 68 (.lst d.begins.length (fl eE d.begins))/\1<=s.nx) ?_ (λk L s hk hI hi hn=>?_) (λL s hI=>?_)
 .refine⟨rfl,?_⟩;rw[QaH,show Z1 []=[] from rfl,QaO];simp(disch:=decide) only[h12,i1,i4];exact n0
 .obtain⟨h0,i1,i4,i68,n0⟩:=hI;have hk0:k=0:=om
  subst hk0;have hi:Has L 70 (.int .i64 0):=hi;have hx:=h2 _ (ω hk);have WR:=Uc hb d.begins[0] hx;have TX:=λ(h:Jq d.begins[0]=true)=>jek hb d.begins[0] hx (Jj h);have TL:=λ(h:Jq d.begins[0]=true)=>JN d.begins[0] (Jj h);have hs:d.begins.take (0+1)=[d.begins[0]]:=yt hk;rw[QaH,show Z1 []=[] from rfl,QaO] at i4;by_cases hwr:Jq d.begins[0]=true
  .have TX:=TX hwr;have TL:=TL hwr;rw[hwr] at WR
   (have zz:=@ν.{0};repeat' first|apply jb<;>intro _|simp(disch:=try exact zI) only[ja i1,ja i4,ja i68,ja hi,ja hn,jrQ hk,WR,TX,ν,r9,δ,ε])
   refine⟨⟨by rw[hs];simp[hwr],?_⟩,?_⟩
   .rw[hs,show Z1 [d.begins[0]]=[32,61,32] ++ zy d.begins[0] from by simp[Z1]];simp(disch:=decide) only[h12,i1,i68,QaE,Qag,Qam]
    (first|omega|(simp only[jg,jn,jt,jp,jo];first|done|omega))
   .simp(disch:=decide) only[h12,hi,hn]
  .have hf:Jq d.begins[0]=false:=by simpa using hwr
   rw[hf] at WR
   (have zz:=@ν.{0};repeat' first|apply jb<;>intro _|simp(disch:=try exact zI) only[ja i1,ja i4,ja i68,ja hi,ja hn,jrQ hk,WR,ν,r9,δ,ε])
   exact G0.tup2 (by rw[hd,if_neg (by rintro ⟨_,_,h6⟩;rw[jed hk hf] at h6;cases h6)];rfl)
 .obtain⟨h0,i1,i4,i68,n0⟩:=hI;rw[Qab] at h0 i4;have bl:(Z1 d.begins).length<=16 * 1099511627776+3:=by
   match hx:d.begins with
   |[]=>simp[Z1]
   |[x]=>
    rw[hx] at h0 h2;have:=JN x (Jj (by simpa using h0));have:=h2 x hac;simp[Z1];omega
   |x :: y :: r=>rw[hx] at l1;simp at l1
  (have zz:=@ν.{0};repeat' first|apply jb<;>intro _|simp(disch:=try exact zI) only[ja i1,ja i4,ν,r9,δ,ε])
  exact G0.tup2 (by rw[hd,if_pos ⟨l1,hn,h0⟩];simp only[jij,QaE,Qag,Qam])
theorem jpy (hb:NB base)(d:DeclT)(h1:d.name.length<=BIG)(h3:d.ty.length<=BIG)(h2:∀ x∈d.begins,szE x<=BIG):Tot base 57 [.agg (qy d)] (Hi (Qt d)):=by
 refine hb.tot ?_ (by first|rfl|simp[pa,pc,ya,Xu,Vm,Qh,JS]) rfl;have NT:=Z3 hb d.ty (by unfold BIG at *;omega);have S1:Tot base 76 [.int .i64 d.lo] (.bool (wB d.lo)):=jeX hb d.lo;have S2:Tot base 76 [.int .i64 d.hi] (.bool (wB d.hi)):=jeX hb d.hi;unfold BIG at *;by_cases ht:d.ty=[]
 .by_cases hs:wB d.lo=true/\wB d.hi=true
  .have e1:=hs.1;have e2:=hs.2;unfold wB at e1 e2;simp only[χ,decide_eq_true_eq] at e1 e2;have D1:=jhD hb d.lo om om;have D2:=jhD hb d.hi om om;have l1:=uB e1.1 e1.2;have l2:=uB e2.1 e2.2;have hw:QX d=some (wV d.lo ++ [46,46] ++ wV d.hi):=by rw[QX,if_pos ht,if_pos hs]
   rw[hs.1] at S1;rw[hs.2] at S2;refine jE x55 haa (hb.pur 57 1 dc) ?_;simp only[y55,jr,ζ,η,θ,κ];rw[(by unfold z55;simp only[qq];rfl:z55=_)]
   (have zz:=aI @ν.{0} @yX;repeat' first|apply jb<;>intro _|simp(disch:=try exact zI) only[ht,S1,S2,D1,D2,sm2,ν,yX,r9,δ,ε])
   refine ja5 hb d _ hw (by simp[BIG];omega) (by unfold BIG;omega) (by unfold BIG;exact h2) ?_ ?_ ?_ ?_
   .simp(disch:=decide) only[h12]
   .simp(disch:=decide) only[h12,QaE,Qag,Qam]
   ·(first|omega|(simp only[jg,jn,jt,jp,jo];first|done|omega))
   .first|exact Cl.new _ _|(try exact cyE)
  .have hw:QX d=none:=by rw[QX,if_pos ht,if_neg hs]
   refine jE x55 haa (hb.pur 57 1 dc) ?_;simp only[y55,jr,ζ,η,θ,κ];rw[(by unfold z55;simp only[qq];rfl:z55=_)]
   (have zz:=@ν.{0};repeat' first|apply jb<;>intro _|simp(disch:=try exact zI) only[ht,S1,S2,ν,r9,δ,ε])
   all_goals first|(exact G0.tup2 (by rw[H0 hw];rfl))|(exfalso;simp_all;done)
 .by_cases hs:d.lo=0/\d.hi=0/\(d.ty=[98,111,111,108]\/nm d.ty=true)
  .have hw:QX d=some d.ty:=by rw[QX,if_neg ht,if_pos hs]
   obtain⟨e1,e2,e3⟩:=hs;refine jE x55 haa (hb.pur 57 1 dc) ?_;simp only[y55,jr,ζ,η,θ,κ];rw[(by unfold z55;simp only[qq];rfl:z55=_)]
   (have zz:=@ν.{0};repeat' first|apply jb<;>intro _|simp(disch:=try exact zI) only[ht,e1,e2,NT,ν,r9,δ,ε])
   all_goals first
    |(exfalso;simp_all;done)
    |(
     refine ja5 hb d _ hw (by unfold BIG;omega) (by unfold BIG;omega) (by unfold BIG;exact h2) ?_ ?_ ?_ ?_
     .simp(disch:=decide) only[h12]
     .simp(disch:=decide) only[h12,QaE,Qag,Qam]
     ·(first|omega|(simp only[jg,jn,jt,jp,jo];first|done|omega))
     .first|exact Cl.new _ _|(try exact cyE))
  .have hw:QX d=none:=by rw[QX,if_neg ht,if_neg hs]
   refine jE x55 haa (hb.pur 57 1 dc) ?_;simp only[y55,jr,ζ,η,θ,κ];rw[(by unfold z55;simp only[qq];rfl:z55=_)]
   (have zz:=@ν.{0};repeat' first|apply jb<;>intro _|simp(disch:=try exact zI) only[ht,NT,ν,r9,δ,ε])
   all_goals first|(exact G0.tup2 (by rw[H0 hw];rfl))|(exfalso;simp_all;done)
theorem jnp {b o:Nat}{cs:List AV}{h:T AO}(ho:o+6<=qp h b)(hv:rats h b o 6=cs)(hc:cs.all eqs=true):(qb γ 29 (.ptr b o) (.agg cs) h=true)=True:=eq_true (Zq jbp jbo dc ho hv hc)
theorem jcV {s:St}{cs:List AV}{b o k:Nat}(hb:b=s.nx)(h:o+k<=cs.length):rats (nw s cs).h b o k=(cs.drop o).take k:=by
 subst hb;exact(Cl.new s cs).ratsP k o h
theorem JA {s:St}{vs:List AV}{b o o' k:Nat}(h1:o'<=o)(h:o+k<=o'+vs.length):rats (wr s b o' vs).h b o k=(vs.drop (o - o')).take k:=by
 refine ZV hae λi hi=>?_;rw[Ki om om,Qak,Qak,QbK,if_pos hi,QbL,show o - o'+i=o+i - o' by omega]
def XU (a:AsT):Lt:=a.name ++ [32,58,61,32] ++ zy a.to
def kw (a:AsT):Bool:=nm a.name && Jq a.to
def Qq (r:RuleT):Option Lt:=if Jq r.when=true/\1<=r.acts.length/\r.acts.length<=32/\r.acts.all kw=true then some ([32,32,119,104,101,110,32] ++ zy r.when ++ [32,100,111,32] ++ Qe (r.acts.map XU) ++ [59,10]) else none
def WL:Nat:=17592186044516
theorem gi {a:AsT}(h:kw a=true)(h2:szE a.to<=BIG):(XU a).length<=WL:=by
 unfold kw at h;simp only[χ] at h;have:=Xb h.1;have:=JN a.to (Jj h.2);unfold BIG at h2;unfold WL XU;simp only[ν,ξ,φ];omega
theorem UV:∀ (a b:Int) (nm:Lt) (n:Nat) (cs:List AV) (l c:Int),([.int .i64 a,.int .i64 b,.str nm,.lst n cs,.int .i64 l,.int .i64 c]:List AV).all eqs=true:=λ_ _ _ _ _ _ _=>nr rfl
theorem jpq (hb:NB base)(r:RuleT)(h1:szE r.when<=BIG)(h2:r.acts.length<=BIG)(h3:∀ a∈r.acts,szE a.to<=BIG/\a.name.length<=BIG):Tot base 59 [.agg (ruE r)] (Hi (Qq r)):=by
 refine hb.tot ?_ (by first|rfl|simp[pa,pc,ya,Xu,Vm,Qh,JS]) rfl;have c1:((r.acts.length:Int)<1)=(r.acts.length<1):=by rw[eq_iff_iff];omega
 have c2:((32:Int)<(r.acts.length:Int))=(32<r.acts.length):=by rw[eq_iff_iff];omega
 have WR:=Uc hb r.when h1;by_cases hw:Jq r.when=true
 .have TX:=jek hb r.when h1 (Jj hw);have TL:=JN r.when (Jj hw);rw[qA] at WR TX;rw[hw] at WR;unfold BIG at h1 h2;refine jE x57 haa (hb.pur 59 1 dc) ?_;simp only[y57,jr,ζ,η,θ,κ];rw[(by unfold z57;simp only[qq];rfl:z57=_)]
  (have zz:=@ν.{0};repeat' first|apply jb<;>intro _|simp(disch:=try exact zI) only[WR,TX,c1,c2,jcV,ν,r9,δ,ε])
  .exact G0.tup2 (by rw[Qq,if_neg om];rfl)
  .exact G0.tup2 (by rw[Qq,if_neg om];rfl)
  have l1:1<=r.acts.length:=om
  have l2:r.acts.length<=32:=om
  refine jV r.acts.length (λk L s=>(r.acts.take k).all kw=true/\Has L 4 (.str ([32,32,119,104,101,110,32] ++ zy r.when ++ [32,100,111,32] ++ Qe ((r.acts.take k).map XU)))/\Has L 29 (.lst r.acts.length (fl asE r.acts))/\1<=s.nx) ?_ (λk L s hk hI hi hn=>?_) (λL s hI=>?_)
  .refine⟨rfl,?_⟩;rw[QaH,η,Qe,QaO];simp(disch:=decide) only[h12,QaE,Qag,Qam]
   (first|omega|(simp only[jg,jn,jt,jp,jo];first|done|omega))
  .obtain⟨h0,i4,i29,n0⟩:=hI;have hx:=h3 _ (ω hk);have hin:r.acts[k]∈r.acts:=ω hk;have hact:∀ a∈r.acts.take k,(XU a).length<=WL:=λa ha=>gi (Qai.1 h0 a ha) (h3 a (QbZ ha)).1;have hbad:kw r.acts[k]=false->Qq r=none:=λh=>by rw[Qq,if_neg (by rintro ⟨_,_,_,h6⟩;rw[jed hk h] at h6;cases h6)]
   have hgood:kw r.acts[k]=true->(r.acts.take (k+1)).all kw=true:=λh=>by rw[jb4 hk,h0,h];rfl
   have hs:=Gu ((r.acts.take k).map XU) (XU r.acts[k]);have e9:(r.acts.take k).map XU ++ [XU r.acts[k]]=(r.acts.take (k+1)).map XU:=by rw[yt hk,QaU];rfl
   rw[e9] at hs;have tl:((r.acts.take k).map XU).length=k:=by rw[Qad,Qal];omega
   rw[tl] at hs;have hjl:(Qe ((r.acts.take k).map XU)).length<=32 * (WL+2):=by
    have:=Y9 (n:=WL) (xs:=(r.acts.take k).map XU) λx hx=>by
     obtain⟨a,ha,rfl⟩:=QaF.1 hx;exact hact a ha
    rw[tl] at this;have:=Qav (WL+2) (show k<=32 by omega);omega
   clear hact e9 tl;have N2:=Z3 hb r.acts[k].name (by have:=hx.2;unfold BIG at this;omega);have W2:=Uc hb r.acts[k].to hx.1;have T2:=λ(h:Jq r.acts[k].to=true)=>jek hb r.acts[k].to hx.1 (Jj h);have T3:=λ(h:Jq r.acts[k].to=true)=>JN r.acts[k].to (Jj h);have hdef:kw r.acts[k]=(nm r.acts[k].name && Jq r.acts[k].to):=rfl;have hdw:XU r.acts[k]=r.acts[k].name ++ [32,58,61,32] ++ zy r.acts[k].to:=rfl;have c3:((0:Int)<(k:Int))=(0<k):=by rw[eq_iff_iff];omega
   obtain⟨hx1,hx2⟩:=hx;unfold BIG WL at *;obtain⟨a,ha⟩:∃ a,a=r.acts[k]:=⟨_,rfl⟩;rw[<-ha] at hx1 hx2 hbad hgood hs N2 W2 T2 T3 hdef hdw;by_cases hnm:nm a.name=true
   .have hnl:=Xb hnm;rw[hnm] at N2;by_cases hwb:Jq a.to=true
    .have T2:=T2 hwb;have T3:=T3 hwb;rw[qA] at W2 T2;rw[hwb] at W2;have hg:=hgood (by rw[hdef,hnm,hwb];rfl);rw[hdw] at hs;by_cases hk0:k=0
     .rw[if_pos hk0] at hs;have hk1:¬ 0<k:=om
      (have zz:=aI @JA (aI @ν.{0} (aI @yW @UV));repeat' first|apply jb<;>intro _|simp(disch:=try exact zI) only[ja i4,ja i29,ja hi,ja hn,N2,W2,T2,c3,hk1,<-ha,JA,sm9,jnp,JA,ν,yW,UV,r9,δ,ε])
      refine⟨⟨hg,?_⟩,?_⟩
      .rw[hs];simp(disch:=decide) only[h12,i29,QaE,Qag,Qam]
       (first|omega|(simp only[jg,jn,jt,jp,jo];first|done|omega))
      .simp(disch:=decide) only[h12,hi,hn]
     .rw[if_neg hk0] at hs;have hk1:0<k:=om
      (have zz:=aI @JA (aI @ν.{0} (aI @yW @UV));repeat' first|apply jb<;>intro _|simp(disch:=try exact zI) only[ja i4,ja i29,ja hi,ja hn,N2,W2,T2,c3,hk1,<-ha,JA,sm9,jnp,JA,ν,yW,UV,r9,δ,ε])
      refine⟨⟨hg,?_⟩,?_⟩
      .rw[hs];simp(disch:=decide) only[h12,i29,QaE,Qag,Qam]
       (first|omega|(simp only[jg,jn,jt,jp,jo];first|done|omega))
      .simp(disch:=decide) only[h12,hi,hn]
    .have hwf:Jq a.to=false:=by simpa using hwb
     rw[qA] at W2;rw[hwf] at W2;have hb9:=hbad (by rw[hdef,hwf];simp)
     (have zz:=aI @JA (aI @ν.{0} (aI @yW @UV));repeat' first|apply jb<;>intro _|simp(disch:=try exact zI) only[ja i4,ja i29,ja hi,ja hn,N2,W2,<-ha,JA,JA,ν,yW,UV,r9,δ,ε])
     exact G0.tup2 (by rw[hb9];rfl)
   .have hnf:nm a.name=false:=by simpa using hnm
    rw[hnf] at N2;have hb9:=hbad (by rw[hdef,hnf];rfl)
    (have zz:=aI @JA (aI @ν.{0} (aI @yW @UV));repeat' first|apply jb<;>intro _|simp(disch:=try exact zI) only[ja i4,ja i29,ja hi,ja hn,N2,<-ha,JA,JA,ν,yW,UV,r9,δ,ε])
    exact G0.tup2 (by rw[hb9];rfl)
  .obtain⟨h0,i4,i29,n0⟩:=hI;rw[Qab] at h0 i4;have hjl:(Qe (r.acts.map XU)).length<=32 * (WL+2):=by
    have:=Y9 (n:=WL) (xs:=r.acts.map XU) λx hx=>by
     obtain⟨a,ha,rfl⟩:=QaF.1 hx;exact gi (Qai.1 h0 a ha) (h3 a ha).1
    rw[Qad] at this;have:=Qav (WL+2) l2;omega
   unfold WL at hjl
   (have zz:=@ν.{0};repeat' first|apply jb<;>intro _|simp(disch:=try exact zI) only[ja i4,ja i29,ν,r9,δ,ε])
   exact G0.tup2 (by rw[Qq,if_pos ⟨hw,l1,l2,h0⟩];simp only[jij,QaE,Qag,Qam])
 .have hf:Jq r.when=false:=by simpa using hw
  rw[hf] at WR;rw[qA] at WR;refine jE x57 haa (hb.pur 59 1 dc) ?_;simp only[y57,jr,ζ,η,θ,κ];rw[(by unfold z57;simp only[qq];rfl:z57=_)]
  (have zz:=@ν.{0};repeat' first|apply jb<;>intro _|simp(disch:=try exact zI) only[WR,jcV,ν,r9,δ,ε])
  exact G0.tup2 (by rw[Qq,if_neg (by rintro ⟨h6,_⟩;exact hw h6)];rfl)
def yO:List (Option Lt)->Option Lt
 |[]=>some []
 |none :: _=>none
 |some a :: r=>(yO r).map (a ++ ·)
theorem jjV:∀ {xs:List (Option Lt)} {a b:Lt},yO xs=some a->yO (xs ++ [some b])=some (a ++ b)
 |[],a,b,h=>by simp[yO] at h;subst h;simp[yO]
 |none :: r,a,b,h=>by simp[yO] at h
 |some c :: r,a,b,h=>by
  rw[yO] at h;cases hr:yO r with
  |none=>rw[hr] at h;simp at h
  |some d=>
   rw[hr] at h;simp at h;subst h;rw[Qag,yO,jjV hr];simp
theorem jjW:∀ {xs:List (Option Lt)},none∈xs->yO xs=none
 |[],h=>by simp at h
 |none :: r,_=>rfl
 |some c :: r,h=>by
  rw[yO,jjW (by simpa using h)];rfl
theorem Q8 {n:Nat}:∀ {xs:List (Option Lt)} {a:Lt},(∀ l,some l∈xs->l.length<=n)->yO xs=some a->a.length<=xs.length * n
 |[],a,_,h=>by simp[yO] at h;subst h;simp
 |none :: r,a,_,h=>by simp[yO] at h
 |some c :: r,a,hl,h=>by
  rw[yO] at h;cases hr:yO r with
  |none=>rw[hr] at h;simp at h
  |some d=>
   rw[hr] at h;simp at h;subst h;have:=Q8 (xs:=r) (λl h=>hl l (by simp[h])) hr;have:=hl c hac;rw[ν,show(some c :: r).length=r.length+1 from rfl,QaR];omega
theorem Wh {α:Type}{f:α->Option Lt}{xs:List α}{k:Nat}(h:k<xs.length){a b:Lt}(h1:yO ((xs.take k).map f)=some a)(h2:f xs[k]=some b):yO ((xs.take (k+1)).map f)=some (a ++ b):=by
 rw[yt h,QaU,ζ,η,h2];exact jjV h1
theorem V6 {α:Type}{f:α->Option Lt}{xs:List α}{k:Nat}(h:k<xs.length)(h2:f xs[k]=none):yO (xs.map f)=none:=jjW (by rw[<-h2];exact List.mem_map_of_mem (ω h))
theorem U0 {e:EnumT}{l:Lt}(h:Q5 e=some l):l.length<=2000:=by
 unfold Q5 at h;split at h
 .rename_i hh;simp only[Option.some.injEq] at h;subst h;have:=Xb hh.1;have:=Y9 (n:=32) (xs:=e.vals) λx hx=>Xb (Qai.1 hh.2.2.2 x hx);have:=Qav 34 hh.2.2.1;simp only[ν,ξ,φ];omega
 .cases h
theorem jih {d:DeclT}{t:Lt}(h:QX d=some t):t.length<=32:=by
 unfold QX at h;split at h
 .split at h
  .rename_i hh;simp only[Option.some.injEq] at h;subst h;obtain⟨e1,e2⟩:=hh;unfold wB at e1 e2;simp only[χ,decide_eq_true_eq] at e1 e2;have l1:=uB e1.1 e1.2;have l2:=uB e2.1 e2.2;simp only[ν,ξ,φ];omega
  .cases h
 .split at h
  .rename_i hh;simp only[Option.some.injEq] at h;subst h;rcases hh.2.2 with h|h
   .rw[h];decide
   .exact Xb h
  .cases h
theorem U5 {d:DeclT}{l:Lt}(h:Qt d=some l)(h2:∀ x∈d.begins,szE x<=BIG):l.length<=WL:=by
 cases ht:QX d with
 |none=>rw[H0 ht] at h;cases h
 |some t=>
  rw[jfI ht] at h;have tl:=jih ht;split at h
  .rename_i hh;simp only[Option.some.injEq] at h;subst h;have:=Xb hh.2.1;have bl:(Z1 d.begins).length<=16 * BIG+3:=by
    match hx:d.begins with
    |[]=>simp[Z1]
    |[x]=>
     rw[hx] at hh h2;have:=JN x (Jj (by simpa using hh.2.2));have:=h2 x hac;simp[Z1];omega
    |x :: y :: r=>rw[hx] at hh;simp at hh
   unfold BIG at bl;unfold WL;simp only[ν,ξ,φ];omega
  .cases h
structure WrR (r:RuleT):Prop where
 when:szE r.when<=BIG
 acts:r.acts.length<=BIG
 to:∀ a∈r.acts,szE a.to<=BIG/\a.name.length<=BIG
structure WrS (m:SrcT):Prop where
 enums:m.enums.length<=BIG
 en:∀ e∈m.enums,e.name.length<=BIG/\e.vals.length<=BIG/\∀ v∈e.vals,v.length<=BIG
 vars:m.vars.length<=BIG
 de:∀ d∈m.vars,d.name.length<=BIG/\d.ty.length<=BIG/\d.begins.length<=BIG/\∀ x∈d.begins,szE x<=BIG
 procs:m.procs.length<=BIG
 pr:∀ p∈m.procs,p.name.length<=BIG/\p.rules.length<=BIG/\∀ r∈p.rules,WrR r
def RL:Nat:=33 * (WL+2)
theorem uO {r:RuleT}{l:Lt}(h:Qq r=some l)(w:WrR r):l.length<=RL:=by
 unfold Qq at h;split at h
 .rename_i hh;simp only[Option.some.injEq] at h;subst h;have h1:=JN r.when (Jj hh.1);have h2:=w.when;have:=Y9 (n:=WL) (xs:=r.acts.map XU) λx hx=>by
   obtain⟨a,ha,rfl⟩:=QaF.1 hx;exact gi (Qai.1 hh.2.2.2 a ha) (w.to a ha).1
  rw[Qad] at this;have:=Qav (WL+2) hh.2.2.1;unfold RL;unfold BIG at h2;unfold WL at *;simp only[ν,ξ,φ];omega
 .cases h
def Xq (p:ProcT):Option Lt:=if nm p.name=true/\p.rules.length<=32 then(match yO (p.rules.map Qq) with|some t=>some ([112,114,111,99,101,115,115,32] ++ p.name ++ [32,123,10] ++ t ++ [125,10])|none=>none) else none
def PRL:Nat:=33 * RL
theorem jiN {p:ProcT}{l:Lt}(h:Xq p=some l)(w:∀ r∈p.rules,WrR r):l.length<=PRL:=by
 unfold Xq at h;split at h
 .rename_i hh;cases hc:yO (p.rules.map Qq) with
  |none=>rw[hc] at h;cases h
  |some t=>
   rw[hc] at h;simp only[Option.some.injEq] at h;subst h;have:=Xb hh.1;have h3:=Q8 (n:=RL) (λl hl=>by
    obtain⟨r,hr,he⟩:=QaF.1 hl;exact uO he (w r hr)) hc
   rw[Qad] at h3;have:=Qav RL hh.2;unfold PRL;have:1000<=RL:=by unfold RL WL;omega
   simp only[ν,ξ,φ];omega
 .cases h
def Qm (m:SrcT):Option Lt:=
 if m.enums.length<=32/\m.vars.length<=32/\m.procs.length<=32 then(match yO (m.enums.map Q5),yO (m.vars.map Qt),yO (m.procs.map Xq) with
  |some a,some b,some c=>some (a ++ b ++ c)
  |_,_,_=>none) else none
theorem jrf {m:SrcT}(h:yO (m.enums.map Q5)=none):Qm m=none:=by unfold Qm;rw[h];split<;>rfl
theorem jrc {m:SrcT}(h:yO (m.vars.map Qt)=none):Qm m=none:=by unfold Qm;rw[h];split<;>(try split)<;>first|rfl|(rename_i h2 _ _ _;simp at *)
theorem jrd {m:SrcT}(h:yO (m.procs.map Xq)=none):Qm m=none:=by unfold Qm;rw[h];split<;>(try split)<;>first|rfl|(simp at *)
theorem jre {m:SrcT}{a b c:Lt}(h0:m.enums.length<=32/\m.vars.length<=32/\m.procs.length<=32)(h1:yO (m.enums.map Q5)=some a)(h2:yO (m.vars.map Qt)=some b)(h3:yO (m.procs.map Xq)=some c):Qm m=some (a ++ b ++ c):=by
 unfold Qm;rw[if_pos h0,h1,h2,h3]
def jgn (o:Option Lt):AV:=.tup [.str (o.getD []),.int .i64 (if o.isSome=true then 0 else 141)]
theorem G0.tupw {s:St}{a:Lt}{n:Int}{u:AV}(h:u=.tup [.str a,.int .i64 n]):G0 u (.tup [.str a,.int .i64 n]) s:=by
 subst h;exact FzD.tup (.cons (.pc rfl) (.cons (.pc rfl) .nil))
theorem r10:type_of%(a8 @jd @jf @jZ @je @jc @qT @qS @rzZ):=a8 @jd @jf @jZ @je @jc @qT @qS @rzZ
theorem jj9 (hb:NB base)(m:SrcT)(w:WrS m):Tot base 35 [.agg (srE m)] (jgn (Qm m)):=by
 refine hb.tot ?_ (by first|rfl|simp[pa,pc,ya,Xu,Vm,Qh,JS,jbB,gI]) rfl;have we:=w.enums;have wv:=w.vars;have wp:=w.procs;have c1:((32:Int)<(m.enums.length:Int))=(32<m.enums.length):=by rw[eq_iff_iff];omega
 have c2:((32:Int)<(m.vars.length:Int))=(32<m.vars.length):=by rw[eq_iff_iff];omega
 have c3:((32:Int)<(m.procs.length:Int))=(32<m.procs.length):=by rw[eq_iff_iff];omega
 unfold BIG at we wv wp;have hbad:∀ s:St,Qm m=none->G0 (jgn (Qm m)) (.tup [.str [],.int .i64 141]) s:=λs h=>G0.tupw (by rw[h];rfl);refine jE x18 haa (hb.pur 35 1 dc) ?_;simp only[y18,jr,ζ,η,θ,κ];rw[(by unfold z18;simp only[qq];rfl:z18=_)];repeat' first|apply jb<;>intro _|simp(disch:=try exact dzE) only[c1,c2,c3,r10,δ,ε]
 .exact hbad _ (by rw[Qm,if_neg om])
 .exact hbad _ (by rw[Qm,if_neg om])
 .exact hbad _ (by rw[Qm,if_neg om])
 have l1:m.enums.length<=32:=om
 have l2:m.vars.length<=32:=om
 have l3:m.procs.length<=32:=om
 clear c1 c2 c3;refine jV m.enums.length (λk L s=>∃ a,yO ((m.enums.take k).map Q5)=some a/\Has L 1 (.ptr 0 0)/\Has L 4 (.str a)/\Has L 36 (.lst m.enums.length (fl enE m.enums))/\1<=s.nx/\Cl s 0 (srE m)) ?_ (λk L s hk hI hi hn=>?_) (λL s hI=>?_)
 .refine⟨[],rfl,?_⟩;simp(disch:=decide) only[h12];exact⟨by(first|omega|(simp only[jg,jn,jt,jp,jo];first|done|omega)),by first|exact Cl.new _ _|(try exact cyE)⟩
 .obtain⟨a,ha,i1,i4,iL,n0,C0⟩:=hI;obtain⟨w1,w2,w3⟩:=w.en _ (ω hk);have E:=jpx hb m.enums[k] w1 w2 w3;have al:a.length<=32 * 2000:=by
   have:=Q8 (n:=2000) (λl hl=>by
    obtain⟨e,_,he⟩:=QaF.1 hl;exact U0 he) ha
   rw[Qad,Qal] at this;have:=Qav 2000 (show min k m.enums.length<=32 by omega);omega
  have good:=λb=>@Wh _ Q5 m.enums k hk a b ha;have bad:=@V6 _ Q5 m.enums k hk;have el:=@U0 m.enums[k];cases ho:Q5 m.enums[k] with
  |none=>
   rw[ho] at E;have E:Tot base 56 [.agg (enE m.enums[k])] (.tup [.str [],.bool false]):=E
   (have zz:=aI @ν.{0} C0.r;repeat' first|apply jb<;>intro _|simp(disch:=try exact zI) only[ja i1,ja i4,ja iL,ja hi,ja hn,E,C0.q,ν,C0.r,r10,δ,ε])
   exact hbad _ (jrf (bad ho))
  |some b=>
   rw[ho] at E;have E:Tot base 56 [.agg (enE m.enums[k])] (.tup [.str b,.bool true]):=E;have bl:=el ho
   (have zz:=aI @ν.{0} C0.r;repeat' first|apply jb<;>intro _|simp(disch:=try exact zI) only[ja i1,ja i4,ja iL,ja hi,ja hn,E,C0.q,ν,C0.r,r10,δ,ε])
   refine⟨⟨a ++ b,good b ho,?_⟩,?_⟩
   .simp(disch:=decide) only[h12,i1,iL];exact⟨by(first|omega|(simp only[jg,jn,jt,jp,jo];first|done|omega)),ckX⟩
   .simp(disch:=decide) only[h12,hi,hn]
 .obtain⟨a,ha,i1,i4,iL,n0,C0⟩:=hI;rw[Qab] at ha;have al:a.length<=32 * 2000:=by
   have:=Q8 (n:=2000) (λl hl=>by
    obtain⟨e,_,he⟩:=QaF.1 hl;exact U0 he) ha
   rw[Qad] at this;have:=Qav 2000 l1;omega
  (have zz:=C0.r;repeat' first|apply jb<;>intro _|simp(disch:=try exact zI) only[ja i1,ja i4,ja iL,C0.q,C0.r,r10,δ,ε])
  refine jV m.vars.length (λk L s=>∃ b,yO ((m.vars.take k).map Qt)=some b/\Has L 1 (.ptr 0 0)/\Has L 4 (.str (a ++ b))/\Has L 54 (.lst m.vars.length (fl qy m.vars))/\1<=s.nx/\Cl s 0 (srE m)) ?_ (λk L s hk hI hi hn=>?_) (λL s hI=>?_)
  .refine⟨[],rfl,?_⟩;simp(disch:=decide) only[h12,i1,i4,QaO];exact⟨n0,C0⟩
  .clear i1 i4 iL n0 C0;obtain⟨b,hb2,i1,i4,iL,n0,C0⟩:=hI;obtain⟨w1,w2,_,w3⟩:=w.de _ (ω hk);have E:=jpy hb m.vars[k] w1 w2 w3;have bl:b.length<=32 * WL:=by
    have:=Q8 (n:=WL) (λl hl=>by
     obtain⟨e,he1,he⟩:=QaF.1 hl;exact U5 he (w.de e (QbZ he1)).2.2.2) hb2
    rw[Qad,Qal] at this;have:=Qav WL (show min k m.vars.length<=32 by omega);omega
   have good:=λc=>@Wh _ Qt m.vars k hk b c hb2;have bad:=@V6 _ Qt m.vars k hk;have el:=λl (h:Qt m.vars[k]=some l)=>U5 h w3;unfold WL at *;cases ho:Qt m.vars[k] with
   |none=>
    rw[ho] at E;have E:Tot base 57 [.agg (qy m.vars[k])] (.tup [.str [],.bool false]):=E
    (have zz:=aI @ν.{0} C0.r;repeat' first|apply jb<;>intro _|simp(disch:=try exact zI) only[ja i1,ja i4,ja iL,ja hi,ja hn,E,C0.q,ν,C0.r,r10,δ,ε])
    exact hbad _ (jrc (bad ho))
   |some c=>
    rw[ho] at E;have E:Tot base 57 [.agg (qy m.vars[k])] (.tup [.str c,.bool true]):=E;have cl:=el _ ho
    (have zz:=aI @ν.{0} C0.r;repeat' first|apply jb<;>intro _|simp(disch:=try exact zI) only[ja i1,ja i4,ja iL,ja hi,ja hn,E,C0.q,ν,C0.r,r10,δ,ε])
    refine⟨⟨b ++ c,good c ho,?_⟩,?_⟩
    .simp(disch:=decide) only[h12,i1,iL,QaE];exact⟨by(first|omega|(simp only[jg,jn,jt,jp,jo];first|done|omega)),ckX⟩
    .simp(disch:=decide) only[h12,hi,hn]
  .clear i1 i4 iL n0 C0;obtain⟨b,hb2,i1,i4,iL,n0,C0⟩:=hI;rw[Qab] at hb2;have bl:b.length<=32 * WL:=by
    have:=Q8 (n:=WL) (λl hl=>by
     obtain⟨e,he1,he⟩:=QaF.1 hl;exact U5 he (w.de e he1).2.2.2) hb2
    rw[Qad] at this;have:=Qav WL l2;omega
   (have zz:=C0.r;repeat' first|apply jb<;>intro _|simp(disch:=try exact zI) only[ja i1,ja i4,ja iL,C0.q,C0.r,r10,δ,ε])
   refine jV m.procs.length (λk L s=>∃ c,yO ((m.procs.take k).map Xq)=some c/\Has L 1 (.ptr 0 0)/\Has L 4 (.str (a ++ b ++ c))/\Has L 72 (.lst m.procs.length (fl prE m.procs))/\1<=s.nx) ?_ (λko Lo so hko hIo hio hno=>?_) (λLo so hIo=>?_)
   .refine⟨[],rfl,?_⟩;simp(disch:=decide) only[h12,i1,i4,QaO];exact n0
   .clear i1 i4 iL n0 C0;obtain⟨c,hc,i1,i4,iL,n0⟩:=hIo;obtain⟨w1,w2,w3⟩:=w.pr _ (ω hko);have NM:=Z3 hb m.procs[ko].name (by unfold BIG at *;omega);have cl:c.length<=32 * PRL:=by
     have:=Q8 (n:=PRL) (λl hl=>by
      obtain⟨e,he1,he⟩:=QaF.1 hl;exact jiN he (w.pr e (QbZ he1)).2.2) hc
     rw[Qad,Qal] at this;have:=Qav PRL (show min ko m.procs.length<=32 by omega);omega
    have good:=λd=>@Wh _ Xq m.procs ko hko c d hc;have bad:=λh=>jrd (@V6 _ Xq m.procs ko hko h);obtain⟨x,hx⟩:∃ x,x=m.procs[ko]:=⟨_,rfl⟩;rw[<-hx] at good bad w1 w2 w3 NM;have pb:Xq x=none->∀ s:St,G0 (jgn (Qm m)) (.tup [.str [],.int .i64 141]) s:=λh s=>hbad s (bad h);have c4:((32:Int)<(x.rules.length:Int))=(32<x.rules.length):=by rw[eq_iff_iff];omega
    have WLv:WL=17592186044516:=rfl;have RLv:RL=33 * (WL+2):=rfl;have PLv:PRL=33 * RL:=rfl;unfold BIG at w1 w2;by_cases hnm:nm x.name=true
    .have hnl:=Xb hnm;rw[hnm] at NM
     (have zz:=@ν.{0};repeat' first|apply jb<;>intro _|simp(disch:=try exact zI) only[ja i1,ja i4,ja iL,ja hio,ja hno,NM,c4,<-hx,ν,r10,δ,ε])
     .exact pb (by rw[Xq,if_neg om]) _
     have l5:x.rules.length<=32:=om
     refine jV x.rules.length (λj L s=>∃ t,yO ((x.rules.take j).map Qq)=some t/\Has L 1 (.ptr 0 0)/\Has L 4 (.str (a ++ b ++ c ++ ([112,114,111,99,101,115,115,32] ++ x.name ++ [32,123,10] ++ t)))/\Has L 72 (.lst m.procs.length (fl prE m.procs))/\Has L 73 (.int .i64 (m.procs.length:Int))/\Has L 74 (.int .i64 (ko:Int))/\Has L 95 (.lst x.rules.length (fl ruE x.rules))/\1<=s.nx) ?_ (λk L s hk hI hi hn=>?_) (λL s hI=>?_)
     .refine⟨[],rfl,?_⟩;simp(disch:=decide) only[h12,i1,i4,iL,hno,hio,QaO,QaE,Qag,Qam]
      (first|omega|(simp only[jg,jn,jt,jp,jo];first|done|omega))
     .clear i1 i4 iL n0 hio hno;obtain⟨t,ht,i1,i4,iL,hno,hio,i95,n0⟩:=hI;have wr:=w3 _ (ω hk);have E:=jpq hb x.rules[k] wr.when wr.acts wr.to;have tl:t.length<=32 * RL:=by
       have:=Q8 (n:=RL) (λl hl=>by
        obtain⟨e,he1,he⟩:=QaF.1 hl;exact uO he (w3 e (QbZ he1))) ht
       rw[Qad,Qal] at this;have:=Qav RL (show min k x.rules.length<=32 by omega);omega
      have good2:=λd=>@Wh _ Qq x.rules k hk t d ht;have bad2:=@V6 _ Qq x.rules k hk;have el:=λl (h:Qq x.rules[k]=some l)=>uO h wr;cases ho:Qq x.rules[k] with
      |none=>
       rw[ho] at E;have E:Tot base 59 [.agg (ruE x.rules[k])] (.tup [.str [],.bool false]):=E
       (have zz:=@ν.{0};repeat' first|apply jb<;>intro _|simp(disch:=try exact zI) only[ja i1,ja i4,ja iL,ja i95,ja hi,ja hn,E,ν,r10,δ,ε])
       exact pb (by rw[Xq,if_pos ⟨hnm,l5⟩,bad2 ho]) _
      |some d=>
       rw[ho] at E;have E:Tot base 59 [.agg (ruE x.rules[k])] (.tup [.str d,.bool true]):=E;have dl:=el _ ho
       (have zz:=@ν.{0};repeat' first|apply jb<;>intro _|simp(disch:=try exact zI) only[ja i1,ja i4,ja iL,ja i95,ja hi,ja hn,E,ν,r10,δ,ε])
       refine⟨⟨t ++ d,good2 d ho,?_⟩,?_⟩
       .simp(disch:=decide) only[h12,i1,iL,hno,hio,i95,QaE,Qag,Qam]
        (first|omega|(simp only[jg,jn,jt,jp,jo];first|done|omega))
       .simp(disch:=decide) only[h12,hi,hn]
     .clear i1 i4 iL n0 hio hno;obtain⟨t,ht,i1,i4,iL,hno,hio,i95,n0⟩:=hI;rw[Qab] at ht;have tl:t.length<=32 * RL:=by
       have:=Q8 (n:=RL) (λl hl=>by
        obtain⟨e,he1,he⟩:=QaF.1 hl;exact uO he (w3 e he1)) ht
       rw[Qad] at this;have:=Qav RL l5;omega
      have hpw:Xq x=some ([112,114,111,99,101,115,115,32] ++ x.name ++ [32,123,10] ++ t ++ [125,10]):=by rw[Xq,if_pos ⟨hnm,l5⟩,ht]
      (have zz:=@ν.{0};repeat' first|apply jb<;>intro _|simp(disch:=try exact zI) only[ja i1,ja i4,ja iL,ν,r10,δ,ε])
      refine⟨⟨_,good _ hpw,?_⟩,?_⟩
      .simp(disch:=decide) only[h12,i1,iL,QaE,Qag,Qam]
       (first|omega|(simp only[jg,jn,jt,jp,jo];first|done|omega))
      .simp(disch:=decide) only[h12,hio,hno]
    .have hnf:nm x.name=false:=by simpa using hnm
     rw[hnf] at NM
     (have zz:=@ν.{0};repeat' first|apply jb<;>intro _|simp(disch:=try exact zI) only[ja i1,ja i4,ja iL,ja hio,ja hno,NM,<-hx,ν,r10,δ,ε])
     exact pb (by rw[Xq,if_neg (by rintro ⟨h6,_⟩;exact hnm h6)]) _
   .clear i1 i4 iL n0 C0;obtain⟨c,hc,i1,i4,iL,n0⟩:=hIo;rw[Qab] at hc;repeat' first|apply jb<;>intro _|simp(disch:=try exact dzE) only[ja i1,ja i4,r10,δ,ε]
    exact G0.tupw (by rw[jre ⟨l1,l2,l3⟩ ha hb2 hc];rfl)
def z24:XC:=(ov [o9 4 [.nils,.nils,.nils],TA 5,o9 6 [oB,oB,oB]] (oY [IZ 13,Oy 14 52 13,oz 12 14,Tx 15 12,Ty 16 12,o9 7 [.nils,.nils,.nils],o9 8 [oB,oB,oB],o6 3 7 15,o6 3 8 16] (Id [OP 17 8,oI 18 17,ow 19 (O8 .neq 18)] 19 (Lj [TG 20 [.nils,.nils,.nils] [],TG 21 OJ [],La 22 3 8 8 45,Tz 3 4 20 [(0,45)],Tz 6 5 21 [(1,45)],TV 3 6 22])) (oY [T1 24 7,Oy 25 53 24,oz 23 25,Tx 26 23,Ty 27 23,o9 9 [.nils,.nils,.nils],o6 3 9 26,o6 3 8 27] (Id [OP 28 8,oI 29 28,ow 30 (O8 .neq 29)] 30 (Lj [TG 31 [.nils,.nils,.nils] [],TG 32 OJ [],La 33 3 8 8 45,Tz 3 4 31 [(0,45)],Tz 6 5 32 [(1,45)],TV 3 6 33])) (oY [OZ 35,Oy 36 54 35,oz 34 36,Tx 37 34,Ty 38 34,TA 10,TW 10 37,o6 3 8 38] (Id [OP 39 8,oI 40 39,ow 41 (O8 .neq 40)] 41 (Lj [TG 42 [.nils,.nils,.nils] [],TG 43 OJ [],La 44 3 8 8 45,Tz 3 4 42 [(0,45)],Tz 6 5 43 [(1,45)],TV 3 6 44])) (oY [T1 46 9,Ta 47 10,OB 48 55 46 47,oz 45 48,Tx 49 45,Ty 50 45,TA 11,TW 11 49,o6 3 8 50] (Id [OP 51 8,oI 52 51,ow 53 (O8 .neq 52)] 53 (Lj [TG 54 [.nils,.nils,.nils] [],TG 55 OJ [],La 56 3 8 8 45,Tz 3 4 54 [(0,45)],Tz 6 5 55 [(1,45)],TV 3 6 56])) (Lj [La 57 3 9 9 35,La 58 6 11 11 29,La 59 3 8 8 45,Tz 3 4 57 [(0,45),(1,29)],Tz 6 5 58 [(1,45)],TV 3 6 59]))))))
def y24:XF:=⟨[0,1],z24,[(.cA 4 3),(.cA 5 6),(.cA 6 3)]⟩
theorem x24:jy γ 34=some y24:=Qa0
def z25:XC:=(O9 [TU 2,IE 3 1,TA 4,o9 5 [oB,oB,oB]] [o4 (.defer (oR 67 []) [5])] (oY [T1 7 2,Iw 8 [.nils,.nils,.nils,.nilm,Tl] [((0,3),7),((4,1),Ii)],ol 9 (.box 8),oy 6 9] (.dops [Tr 10 6,La 11 6 3 3 29,(Iy (Iq 12 75 [10,11,IT 2,.c oK]) 0 [],some [OQ 12,Ik (T1 13 5) 5 45 [(0,0)],Ia (o4 (.i (.mv IJ))) 0,Ia (o4 (.i (.mv IJ))) 0]),OO 13 3 5 5 45 [(0,0)],Tz 6 4 12 [(0,45)],TV 3 5 13]) .ret))
def y25:XF:=⟨[0,1],z25,[(.cA 4 6),(.cA 5 3)]⟩
theorem x25:jy γ 55=some y25:=Qa0
def jf8:XC:=(Lj [Tr 65 4,IP (IR 66 65),IY 67 0 66,La 68 3 67 67 35,La 69 3 3 3 45,Tz 3 2 68 [(0,45)],TV 3 3 69])
def jf9:XC:=(.seq (T8 [Lg 38 1,Oi 39 38,IQ 40 39,I3 41] 4 42 41 40 42 4 5 [Il 43 4 39 41,oV 44 4 43,o9 10 [oK,.nils,oB,oB],o6 4 10 44] (ov [TZ 45,OP 46 10,oI 47 46,Lg 48 10,oI 49 48,Tm 50 10,oI 51 50,Iq 52 70 [45,47,49,51]] (T8 [Tw 53 10,Oi 54 53,IQ 55 54,I3 56] 6 57 56 55 57 6 7 [Il 58 7 54 56,oV 59 7 58,o9 12 [oB,oB,oK,.nils,oB,oB,.nils],o6 7 12 59] (.ops [TZ 60,oV 61 7 12,OB 62 71 60 61]) 63 56 56 63)) 64 41 41 64) jf8)
def jga:XC:=(.seq (T8 [Tw 27 1,Oi 28 27,IQ 29 28,I3 30] 2 31 30 29 31 2 3 [Il 32 7 28 30,oV 33 7 32,o9 8 [oK,oK,oB,oB,.nils,oB,oB],o6 7 8 33] (.ops [TZ 34,oV 35 7 8,OB 36 69 34 35]) 37 30 30 37) jf9)
def jgb:XC:=(.seq (T8 [OP 16 1,Oi 17 16,IQ 18 17,I3 19] 0 20 19 18 20 0 1 [Il 21 4 17 19,oV 22 4 21,o9 6 [oK,.nils,oB,oB],o6 4 6 22] (.ops [TZ 23,oV 24 4 6,OB 25 68 23 24]) 26 19 19 26) jga)
def z26:XC:=(ov [TU 1,o9 2 [.nils,.nils,.nils],o9 3 [oB,oB,oB]] (O9 [o4 (.defer (oR 67 []) [3])] [ol 13 .mkMap,Iw 14 [.nils,.nils,.nils,.nilm,Tl] [((3,1),13)],ol 15 (.box 14),TM 15] jgb))
def y26:XF:=⟨[0],z26,[(.cA 2 3),(.cA 3 3)]⟩
theorem x26:jy γ 53=some y26:=Qa0
def z33:XC:=(ov [TU 1,I3 2] (OV [Ib 3 (.int .u64 1)] (T8 [OP 6 1,Oi 7 6,IQ 8 7,I3 9] 0 10 9 8 10 0 1 [Il 11 7 7 9,oV 12 7 11,o9 5 [oK,oB,oK,oB,oB,Tl,oB],o6 7 5 12] (.ops [oz 13 3,oF 14 4 5,oI 15 14,ol 16 (.cvt .u64 15),Tm 17 5,oI 18 17,ol 19 (.cvt .u64 18),IX 20 .sub 16 19,ol 21 (oJ .add 20 (.int .u64 1)),IX 22 .mul 13 21,oy 3 22]) 23 9 9 23) [oz 24 3,ol 25 (.cvt .i64 24),Tq 25]))
def y33:XF:=⟨[0],z33,[(.t 2)]⟩
theorem x33:jy γ 36=some y33:=Qa0
def z60:XC:=(ov [IE 5 1,TA 8] (OV [IZ 12,Ta 13 5,OB 14 103 12 13,oz 11 14,Tx 15 11,Ty 16 11,TA 9,o9 10 [oB,oK,oB,oB],TW 9 15,o6 4 10 16] (OA [OP 17 10,oI 18 17,oz 19 2,IX 20 .neq 18 19,oz 21 20,Oq 22 21 1 10,Ow 23 21 22,II 24 21 3,Ig 25 21 (.strb .neq 23 24),Lf 26 21 25] 26 [oF 27 4 5,oI 28 27,oF 29 5 5,oI 30 29,Iq 31 94 [IT 163,28,30]]) [Ta 32 9,TW 8 32]))
def y60:XF:=⟨[0,1,2,3],z60,[(.cA 8 6)]⟩
theorem x60:jy γ 75=some y60:=Qa0
def z61:XC:=(ov [IE 3 1] (oY [IZ 6,OP 7 3,oI 8 7,Lg 9 3,oI 10 9,Tm 11 3,oI 12 11,Iq 13 70 [6,8,10,12]] (T8 [Tw 14 3,Oi 15 14,IQ 16 15,I3 17] 0 18 17 16 18 0 1 [Lk 19 15 17,oI 20 19,oy 5 20] (.ops [IZ 21,Ld 22,Lg 23 3,oI 24 23,Tm 25 3,oI 26 25,Iq 27 70 [21,22,24,26]]) 28 17 17 28) (.dops [IP (IZ 29),IP (IZ 30),IP (IR 31 30),IY 32 0 31,IY 33 1 32,Tt 34 33 33 22,IY 35 0 3,Tt 36 35 35 9,IY 37 1 3,Tt 38 37 37 106,(TS 39 91 38 0 [(2,9),(4,22)],some [OQ 39,Ia (Lg 40 3) 0,Ik (oI 41 40) 40 3 [(1,0)],Ia (Tm 42 3) 0,Ik (oI 43 42) 42 3 [(3,0)],OQ 44,OQ 45,OQ 46,OQ 47,OQ 48,OQ 49,Ia (o4 (.i (.mv IJ))) 0]),IY 40 2 3,On 41 40 40 3 [(1,0)],IY 42 3 3,On 43 42 42 3 [(3,0)],TG 44 [oK,.nils,oB,oB] [((0,1),36),((1,1),39),((2,1),41),((3,1),43)],IP (Iu 45 1 4 [oK,.nils,oB,oB] [((0,4),44)]),I4 (Or 46 4 56 34 45) 0 [],IP (IR 47 29),IY 48 0 47,IY 49 1 48,TV 1 49 46])))
def y61:XF:=⟨[0,1],z61,[]⟩
theorem x61:jy γ 68=some y61:=Qa0
def jf6:XC:=(TO [Lc 139,Lc 140,IG (IR 141 140),IG (OP 142 141),IG (OP 143 142),OS 144 143,IG (oV 145 7 4),IG (Iu 146 1 7 [oK,oB,oK,oB,oB,Tl,oB] [((0,7),145)]),IG (Or 147 7 72 144 146),IG (IR 148 139),IG (OP 149 148),IG (OP 150 149),IG (o6 1 150 147)] (OA [IZ 151,IR 152 151,OP 153 152,T1 154 153,Oy 155 36 154,O4 156 .gtr 155 281474976710656] 156 [oF 157 5 3,oI 158 157,oF 159 6 3,oI 160 159,Iq 161 94 [IT 165,158,160]]))
def jcc:XC:=(.seq (T8 [oF 92 4 3,Oi 93 92,IQ 94 93,I3 95] 1 96 95 94 96 1 2 [Il 97 6 93 95,Ta 98 97,TA 7,TW 7 98] (oY [IZ 99,Ta 100 7,Tw 101 4,oI 102 101,Lg 103 4,oI 104 103,Iq 105 75 [99,100,102,104],TA 8,TW 8 105] (ov [Ta 107 8,Oy 108 95 107,oz 106 108,Tx 109 106,Ty 110 106,TA 9,TW 9 109,oy 10 110] (OA [oy 111 10] 111 [oF 112 4 9,oI 113 112,oF 114 5 9,oI 115 114,Iq 116 94 [IT 161,113,115]])) (ov [Ta 117 8,Oy 118 96 117,oF 119 5 4,o6 1 119 Ii,oF 120 6 4,o6 1 120 118] (OA [oF 121 6 4,oI 122 121,Tm 123 4,oI 124 123,IX 125 .lss 122 124,oz 126 125,Oq 127 126 6 4,Ow 128 126 127,Oq 129 126 4 4,Ow 130 126 129,Ig 131 126 (.bin .gtr 128 130),Lf 132 126 131] 132 [oF 133 4 7,oI 134 133,oF 135 5 7,oI 136 135,Iq 137 94 [IT 164,134,136]]))) 138 95 95 138) jf6)
def z62:XC:=(ov [IE 3 1] (O9 [IZ 11,OP 12 3,oI 13 12,oF 14 5 3,oI 15 14,oF 16 6 3,oI 17 16,Iq 18 70 [11,13,15,17]] [OP 19 3,oI 20 19,Lg 21 3,oI 22 21,Tm 23 3,oI 24 23,Iw 25 [oK,oB,oK,oB,oB,Tl,oB] [((0,1),20),((1,1),Th),((3,1),22),((4,1),24)],o9 4 [oK,oB,oK,oB,oB,Tl,oB],o6 7 4 25] (oY [IZ 26,IR 27 26,OP 28 27,Tw 29 28,oI 30 29,ol 31 (.fn 93 [3]),OB 32 92 30 31,oy 5 32] (.block 0 (oL [Tw 34 3,oI 35 34,T7 36 35 [98,111,111,108],oy 33 36] 33 (.ops [Tw 37 4,o6 1 37 (IT 2),Tm 38 4,o6 1 38 ON,oF 39 4 4,o6 1 39 Th]) (oL [Ld 41,ol 42 (O8 .geq 41),oy 40 42] 40 (.dops [IY 43 1 3,Tt 44 43 43 9,IP (IZ 45),IP (IR 46 45),IY 47 0 46,IY 48 1 47,Tt 49 48 48 22,Tr 50 5,IP (Il 51 4 49 50),IY 52 1 51,Tt 53 52 52 106,IP (I5 54 53),IP (Ic 55 .sub 54 1),IY 56 1 4,Tz 1 56 (IT 3) [(3,106),(7,22),(12,9)],IY 57 2 4,Tz 1 57 44 [(5,106),(9,22)],IY 58 3 4,Tz 1 58 ON [(7,106),(11,22)],IY 59 4 4,TV 1 59 55]) (oL [Tw 61 3,oI 62 61,IH 63 .neq 62 (.c oK),oy 60 63] 60 (.ops [oF 64 5 3,oI 65 64,oF 66 6 3,oI 67 66,Iq 68 94 [IT 161,65,67]]) (oL [Lg 70 3,oI 71 70,Tm 72 3,oI 73 72,IX 74 .gtr 71 73,oy 69 74] 69 (.ops [oF 75 5 3,oI 76 75,oF 77 6 3,oI 78 77,Iq 79 94 [IT 164,76,78]]) (OA [Tm 81 3,oI 82 81,Lg 83 3,oI 84 83,IX 85 .sub 82 84,Ic 86 .geq 85 1024,oy 80 86] 80 [oF 87 5 3,oI 88 87,oF 89 6 3,oI 90 89,Iq 91 94 [IT 165,88,90]])))))) jcc)))
def y62:XF:=⟨[0,1],z62,[]⟩
theorem x62:jy γ 69=some y62:=Qa0
def z63:XC:=(.seq (OA [IZ 8,IR 9 8,Tm 10 9,oI 11 10,OZ 12,ol 13 (.look 89 11 12 false),ow 14 (O8 .gtr 13)] 14 [oz 15 2,oz 16 3,Iq 17 94 [IT 162,15,16]]) (.ops [IZ 18,IR 19 18,Tm 20 19,oI 21 20,OZ 22,ol 23 (.look 89 21 22 false),TB 24 23 1,o4 (.i (.upd 89 21 22 24))]))
def y63:XF:=⟨[0,1,2,3],z63,[]⟩
theorem x63:jy γ 70=some y63:=Qa0
def jf4:XC:=(.cops [Lc 73,Lc 74,IG (IR 75 74),IG (OP 76 75),IG (Lg 77 76),OS 78 77,IG (oV 79 7 4),IG (Iu 80 1 7 [oB,oB,oK,.nils,oB,oB,.nils] [((0,7),79)]),IG (Or 81 7 96 78 80),IG (IR 82 73),IG (OP 83 82),IG (Lg 84 83),IG (o6 1 84 81)])
def jf5:XC:=(.seq (T8 [oF 13 6 3,Oi 14 13,IQ 15 14,I3 16] 0 17 16 15 17 0 1 [oz 18 16,Il 19 9 14 16,oV 20 9 19,o9 6 [oK,oB,oB,oK,.nils,oB,oB,oB,oB],oy 5 18,o6 9 6 20] (oY [IZ 21,OP 22 6,oI 23 22,OB 24 97 21 23,oy 7 24] (OA [oz 25 7,ow 26 (O8 .lss 25)] 26 [oF 27 7 6,oI 28 27,oF 29 8 6,oI 30 29,Iq 31 94 [IT 161,28,30]]) (.seq (OA [oF 32 6 3,oI 33 32,Ld 34,ol 35 (.slS 9 33 none (some 34)),ol 36 (.fn 99 [6]),T6 37 (oR 98 []) [35,36]] 37 [oF 38 7 6,oI 39 38,oF 40 8 6,oI 41 40,Iq 42 94 [IT 162,39,41]]) (.dops [IY 43 6 4,Tt 44 43 43 67,Tr 45 7,IP (IZ 46),IY 47 1 6,La 48 6 47 47 29,IP (IZ 49),IP (IR 50 49),IY 51 0 50,IY 52 0 51,Tt 53 52 52 32,Tr 54 7,IP (Il 55 7 53 54),IY 56 1 55,Tt 57 56 56 3,IP (IZ 58),IP (IR 59 58),IY 60 0 59,IY 61 0 60,Tt 62 61 61 32,Tr 63 7,IP (Il 64 7 62 63),IY 65 2 64,Tt 66 65 65 9,(Iy (Iq 67 75 [46,48,57,66]) 0 [(22,67)],OK),TG 68 [oB,oB,oB,oK,.nils,oB,oB] [((0,1),45),((1,6),67)],IP (Iu 69 1 7 [oB,oB,oB,oK,.nils,oB,oB] [((0,7),68)]),I4 (Or 70 7 80 44 69) 0 [],IY 71 6 4,TV 1 71 70]))) 72 16 16 72) jf4)
def z64:XC:=(O9 [IE 3 1] [IZ 8,OP 9 3,Ta 10 9,Iq 11 75 [8,10,IT 2,.c oK],Iw 12 [oB,oB,oK,.nils,oB,oB,.nils] [((0,6),11)],o9 4 [oB,oB,oK,.nils,oB,oB,.nils],o6 7 4 12] jf5)
def y64:XF:=⟨[0,1],z64,[]⟩
theorem x64:jy γ 71=some y64:=Qa0
def jfZ:XC:=(.seq (OA [oy 151 15] 151 [oF 152 4 3,oI 153 152,oF 154 5 3,oI 155 154,Iq 156 94 [IT 163,153,155]]) (Lb [oz 157 14,O4 158 .neq 157 1] 158 [Ta 159 6,oz 160 14,Iw 161 [oB,oK,oB,oB] [((0,1),160),((3,1),Th)],TW 4 159,o6 4 5 161] (OV [OP 163 3,oI 164 163,oz 165 7,OB 166 134 164 165,oz 162 166,Tx 167 162,Ty 168 162,oy 18 167,oy 19 168] (OA [oz 169 18,Ic 170 .lss 169 (-(99999999+1)),oz 171 170,II 172 171 19,O7 173 171 .gtr 172 100000000,Lf 174 171 173] 174 [oF 175 4 3,oI 176 175,oF 177 5 3,oI 178 177,Iq 179 94 [IT 165,176,178]]) [Ta 180 6,oz 181 14,oz 182 18,oz 183 19,Iw 184 [oB,oK,oB,oB] [((0,1),181),((2,1),182),((3,1),183)],TW 4 180,o6 4 5 184])))
def jca:XC:=(.seq (T8 [oy 115 7,IQ 116 115,I3 117] 3 118 117 116 118 3 4 [Il 119 4 115 117,oV 120 4 119,o9 17 [oB,oK,oB,oB],o6 4 17 120] (.cops [TC 121 15,TC 122 121,IG (II 123 122 13),IG (Ig 124 122 (O8 .gtr 123)),IG (II 125 122 124),IG (Oz 126 125 0 17),IG (Ox 127 125 126),IG (I0 128 125 13),IG (Ih 129 125 (.bin .neq 127 128)),IG (Lm 130 122 125 129 oX),IG (Td 131 122 130),TC 132 131,IG (Oq 133 132 0 17),IG (Ow 134 132 133),IG (II 135 132 7),IG (Ig 136 132 (.idxS 4 135 ON)),IG (Oq 137 132 0 136),IG (Ow 138 132 137),IG (Ig 139 132 (.bin .neq 134 138)),IG (Td 140 132 139),TC 141 140,IG (Oq 142 141 1 17),IG (Ow 143 141 142),IG (II 144 141 7),IG (Ig 145 141 (.idxS 4 144 ON)),IG (Oq 146 141 1 145),IG (Ow 147 141 146),IG (Ig 148 141 (.strb .neq 143 147)),IG (Td 149 141 148),IG (oy 15 149)]) 150 117 117 150) jfZ)
def jf0:XC:=(ov [IZ 85,oz 86 8,IR 87 85,oF 88 4 87,o6 1 88 86] (O9 [OP 90 3,oI 91 90,Oy 92 132 91,oz 89 92,Tx 93 89,Ty 94 89,oy 13 93,oy 14 94] [oz 95 7,I5 96 95,ol 97 (TK 96),oz 98 97,II 99 98 7,TR 100 98 99,O7 101 98 .gtr 100 2,Td 102 98 101,oz 103 102,Oq 104 103 0 3,Ow 105 103 104,Li 106 103 133 [105],II 107 103 106,I0 108 107 0,Ih 109 107 (.nilc 108),Oz 110 107 4 109,Ox 111 107 110,Ih 112 107 (IB 111),Lm 113 103 107 112 oX,Td 114 103 113,oy 15 114] jca))
def jcb:XC:=(.seq (T8 [Tm 61 3,Oi 62 61,IQ 63 62,I3 64] 1 65 64 63 65 1 2 [Il 66 6 62 64,Ta 67 66,TA 10,TW 10 67] (O9 [IZ 69,Ta 70 10,OB 71 103 69 70,oz 68 71,Tx 72 68,Ty 73 68,TA 11,o9 12 [oB,oK,oB,oB],TW 11 72,o6 4 12 73] [Tm 74 6,oI 75 74,Ta 76 11,Iu 77 1 6 OJ [((0,6),76)],Or 78 6 72 75 77,Tm 79 6,o6 1 79 78] (.ops [oz 80 7,oV 81 4 12,Iu 82 1 4 [oB,oK,oB,oB] [((0,4),81)],Or 83 4 40 80 82,oy 7 83])) 84 64 64 84) jf0)
def jf1:XC:=(ov [Ta 41 3,TA 6,TW 6 41] (O9 [Tm 42 6,o6 1 42 (.c .nils)] [O6 7] (O9 [IZ 43,IR 44 43,oF 45 4 44,oI 46 45,oy 8 46] [IZ 47,oz 48 8,oz 49 48,Oz 50 49 0 3,Ox 51 49 50,Te 52 49 .neq 51 17,Tc 53 49 52,oz 54 53,Oz 55 54 0 3,Ox 56 54 55,Te 57 54 .neq 56 18,Tc 58 54 57,IR 59 47,oF 60 4 59,o6 1 60 58] jcb)))
def wO:XC:=(.seq (T9 [OP 20 3,Oi 21 20] 0 (Oj 23 21 1 22 23 22 (Lj [La 24 6 3 3 29,IY 25 1 3,Tt 26 25 25 2,IY 27 1 3,Tt 28 27 27 2,TG 29 [oB,oK,oB,oB] [((0,1),Th),((2,1),26),((3,1),28)],Tz 6 4 24 [(1,2),(3,2)],TV 4 5 29]) (Tf 31 21 2 30 31 30 [Ta 32 3,Iw 33 [oB,oK,oB,oB] [((0,1),IT 2),((3,1),Th)],TW 4 32,o6 4 5 33] (Iz (IW 35 21 3 34 35) 34 [IZ 36,Ta 37 3,OB 38 131 36 37,Tx 39 38,Ty 40 38,TW 4 39,o6 4 5 40])))) jf1)
def z97:XC:=(ov [IE 3 1,TA 4,o9 5 [oB,oK,oB,oB]] wO)
def y97:XF:=⟨[0,1],z97,[(.cA 4 6),(.cA 5 4)]⟩
theorem x97:jy γ 103=some y97:=Qa0
def z98:XC:=(.ops [IZ 6,OZ 7,oz 8 2,Iw 9 [oB,oB,oB] [((0,1),6),((1,1),7),((2,1),8)],ol 10 (.iface 45 9),o4 (.pan 10)])
def y98:XF:=⟨[0,1,2],z98,[]⟩
theorem x98:jy γ 94=some y98:=Qa0
def z99:XC:=(Og [O6 2] [IZ 3,ow 4 (.gen .eql 106 true 3 (.c .nils))] 4 [O6 2] (o5 [TJ 5 0 oK [],IZ 6,Or 7 1 16 5 6,Tq 7]))
def y99:XF:=⟨[0],z99,[(.t 2)]⟩
theorem x99:jy γ 91=some y99:=Qa0
def jlk:XC:=(OV [I3 4] (T8 [IZ 6,IQ 7 6,I3 8] 0 9 8 7 9 0 1 (Tg 10 8 5 10) (Iz [OZ 11,IZ 12,Ld 13,Il 14 4 12 13,oV 15 4 14,T6 16 11 [15]] 16 (Tg 17 5 4 17)) 18 8 8 18) [O0 4 (-(0+1))])
def jqF:XF:=⟨[0,1],jlk,[(.t 4)]⟩
theorem ju5:jy γ 92=some jqF:=Qa0
def jlj:XC:=(OL (T4 2 3) [OP 4 2,oI 5 4,Tw 6 1,oI 7 6,Ts 8 5 7,oy 3 8])
def jqE:XF:=⟨[0,1],jlj,[(.t 3)]⟩
theorem ju4:jy γ 93=some jqE:=Qa0
def jli:XC:=(Og [TU 1,TA 2,Om 3] [OP 8 1,oI 9 8,O4 10 .eql 9 4] 10 [Ta 11 1,TW 2 11,Tb 3] (OY (T8 [Tm 12 1,Oi 13 12,IQ 14 13,I3 15] 0 16 15 14 16 0 1 [Il 17 6 13 15,Ta 18 17,TA 5,TW 5 18] (ov [Ta 20 5,Oy 21 95 20,oz 19 21,Tx 22 19,Ty 23 19,TA 6,TW 6 22,oy 7 23] (Iz [oy 24 7] 24 [Ta 25 6,TW 2 25,Tb 3])) 26 15 15 26) [Ta 27 1,TW 2 27,Om 3]))
def jqD:XF:=⟨[0],jli,[(.cA 2 6),(.t 3)]⟩
theorem ju3:jy γ 95=some jqD:=Qa0
def jlh:XC:=(ov [TU 1,I3 2] (oY [o9 3 [oB,oB]] (T8 [Tm 7 1,Oi 8 7,IQ 9 8,I3 10] 0 11 10 9 11 0 1 [oz 12 10,Il 13 6 8 10,Ta 14 13,TA 5,TM 12,TW 5 14] (.ops [TZ 15,Ta 16 5,Oy 17 96 16,OM 18 2 1 3 15,o6 1 18 17]) 19 10 10 19) (OV [oy 6 (oR 124 [])] (T9 [OP 20 1,Oi 21 20] 2 (Oj 23 21 4 22 23 22 (.ops [oF 24 4 1,oI 25 24,oF 26 5 1,oI 27 26,Iq 28 94 [IT 161,25,27]]) (Tf 30 21 5 29 30 29 [OM 31 2 1 3 ON,oI 32 31,ol 33 (.un .neg 32),Tq 33] (Tf 35 21 6 34 35 34 [OM 36 2 1 3 ON,oI 37 36,IX 38 .sub Th 37,Tq 38] (Tf 40 21 14 39 40 39 [OM 41 2 1 3 ON,oI 42 41,OM 43 2 1 3 Th,oI 44 43,IX 45 .mul 42 44,Tq 45] (Tf 47 21 15 46 47 46 [OM 48 2 1 3 ON,oI 49 48,OM 50 2 1 3 Th,oI 51 50,IX 52 .add 49 51,Tq 52] (Tf 54 21 16 53 54 53 [OM 55 2 1 3 ON,oI 56 55,OM 57 2 1 3 Th,oI 58 57,IX 59 .sub 56 58,Tq 59] (.seq (Tu 61 21 17 60 61 60 (.ops (IW 62 21 30 60 62))) (Tj 60 [T0 63,OM 64 2 1 3 ON,oI 65 64,OM 66 2 1 3 Th,oI 67 66,IX 68 .eql 65 67,oU 69 none 63 [68],Tq 69] (Tf 71 21 18 70 71 70 [T0 72,OM 73 2 1 3 ON,oI 74 73,OM 75 2 1 3 Th,oI 76 75,IX 77 .neq 74 76,oU 78 none 72 [77],Tq 78] (Tf 80 21 19 79 80 79 [T0 81,OM 82 2 1 3 ON,oI 83 82,OM 84 2 1 3 Th,oI 85 84,IX 86 .lss 83 85,oU 87 none 81 [86],Tq 87] (.seq (Tu 89 21 20 88 89 88 (.ops (IW 90 21 29 88 90))) (Tj 88 [T0 91,OM 92 2 1 3 ON,oI 93 92,OM 94 2 1 3 Th,oI 95 94,IX 96 .leq 93 95,oU 97 none 91 [96],Tq 97] (Tf 99 21 21 98 99 98 [T0 100,OM 101 2 1 3 ON,oI 102 101,OM 103 2 1 3 Th,oI 104 103,IX 105 .gtr 102 104,oU 106 none 100 [105],Tq 106] (Tf 108 21 22 107 108 107 [T0 109,OM 110 2 1 3 ON,oI 111 110,OM 112 2 1 3 Th,oI 113 112,IX 114 .geq 111 113,oU 115 none 109 [114],Tq 115] (Tf 117 21 27 116 117 116 [OM 118 2 1 3 ON,oI 119 118,OM 120 2 1 3 Th,oI 121 120,IX 122 .mul 119 121,Tq 122] (Iz (IW 124 21 28 123 124) 123 [OM 125 2 1 3 ON,oI 126 125,OM 127 2 1 3 Th,oI 128 127,ol 129 (.bi .max #[2,2] [126,128]),Tq 129]))))))))))))))))) [Tw 130 1,oI 131 130,Tq 131])))
def jqC:XF:=⟨[0],jlh,[(.t 2)]⟩
theorem ju2:jy γ 96=some jqC:=Qa0
def jlg:XC:=(OL [IE 3 1,I3 4] [IZ 5,IR 6 5,OP 7 6,OP 8 7,oI 9 8,ol 10 (.fn 126 [3]),OB 11 125 9 10,TM 11])
def jqB:XF:=⟨[0,1],jlg,[(.t 4)]⟩
theorem ju1:jy γ 97=some jqB:=Qa0
def jlf:XC:=(OL Tv [IZ 5,OZ 6,OB 7 127 5 6,ol 8 (O8 .geq 7),TM 8])
def jqA:XF:=⟨[0,1],jlf,[(.t 4)]⟩
theorem ju0:jy γ 98=some jqA:=Qa0
def jle:XC:=(OL (T4 2 3) [OP 4 2,oI 5 4,OP 6 1,oI 7 6,Ts 8 5 7,oy 3 8])
def jqz:XF:=⟨[0,1],jle,[(.t 3)]⟩
theorem juZ:jy γ 99=some jqz:=Qa0
def Ky:XC:=(oY [IE 3 1,TA 4,o9 5 [oB,oK,oB,oB]] (ov [IZ 10,Lg 11 3,oI 12 11,OB 13 97 10 12,oy 6 13] (Id [T0 14,ow 15 (O8 .geq 14)] 15 (oY [IZ 16,IR 17 16,OP 18 17,OP 19 18,oI 20 19,T0 21,Il 22 7 20 21,oV 23 7 22,o9 7 [oK,oB,oK,oB,oB,Tl,oB],o6 7 7 23] (.dops [Tr 24 6,IY 25 4 3,Tt 26 25 25 3,IY 27 5 3,Tt 28 27 27 3,TG 29 OJ [((0,1),IT 4),((1,1),24),((4,1),26),((5,1),28)],IY 30 1 7,Tt 31 30 30 3,IY 32 2 7,Tt 33 32 32 9,IY 34 3 7,Tt 35 34 34 2,IY 36 4 7,Tt 37 36 36 2,TG 38 [oB,oK,oB,oB] [((0,1),31),((1,1),33),((2,1),35),((3,1),37)],Tz 6 4 29 [(1,2),(3,2),(5,9),(7,3)],TV 4 5 38]) .ret))) (OV [IZ 40,Lg 41 3,oI 42 41,OB 43 152 40 42,oz 39 43,Tx 44 39,Ty 45 39,oy 8 44,oy 9 45] (OA [oz 46 9,ow 47 (O8 .lss 46)] 47 [oF 48 4 3,oI 49 48,oF 50 5 3,oI 51 50,Iq 52 94 [IT 161,49,51]]) [oz 53 9,oF 54 4 3,oI 55 54,oF 56 5 3,oI 57 56,Iw 58 OJ [((0,1),Th),((1,1),53),((4,1),55),((5,1),57)],oz 59 8,oz 60 9,oz 61 9,Iw 62 [oB,oK,oB,oB] [((0,1),IT 3),((1,1),59),((2,1),60),((3,1),61)],TW 4 58,o6 4 5 62]))
def jgd:XF:=⟨[0,1],Ky,[(.cA 4 6),(.cA 5 4)]⟩
theorem jlr:jy γ 131=some jgd:=Qa0
def jkZ:XC:=(OV [I3 2,I3 3] (T9 [TM 0] 0 (.seq (Tu 6 4 5 5 6 5 (Tu 7 4 14 5 7 5 (Tu 8 4 15 5 8 5 (.ops (IW 9 4 16 5 9))))) (Tj 5 [O0 2 1,O0 3 1] (.seq (Tu 11 4 19 10 11 10 (Tu 12 4 20 10 12 10 (Tu 13 4 21 10 13 10 (.ops (IW 14 4 22 10 14))))) (Tj 10 [O0 2 1,O0 3 2] (.seq (Tu 16 4 17 15 16 15 (.ops (IW 17 4 18 15 17))) (Tj 15 [I3 2,O0 3 2] .skip))))))) [O0 2 2,O0 3 2])
def jqk:XF:=⟨[0],jkZ,[(.t 2),(.t 3)]⟩
theorem juK:jy γ 132=some jqk:=Qa0
def jkY:XC:=(OL Ll [IZ 3,Ic 4 .geq 3 7,TZ 5,I0 6 5 0,Te 7 5 .leq 6 13,Tc 8 5 7,oz 9 8,II 10 9 0,O7 11 9 .geq 10 23,II 12 9 11,I0 13 12 0,Te 14 12 .leq 13 26,Lm 15 9 12 14 oX,Td 16 9 15,Tq 16])
def jqj:XF:=⟨[0],jkY,[(.t 2)]⟩
theorem juJ:jy γ 133=some jqj:=Qa0
def jkX:XC:=(O9 [I3 4,I3 5] [OZ 8,Il 9 4 8 ON,oV 10 4 9,o9 6 [oB,oK,oB,oB],o6 4 6 10] (OV [OZ 11,OZ 12,I5 13 12,Ic 14 .sub 13 1,Il 15 4 11 14,oV 16 4 15,o9 7 [oB,oK,oB,oB],o6 4 7 16] (T9 [oy 17 0] 0 (Tf 19 17 5 18 19 18 [Lg 20 6,oI 21 20,ol 22 (.un .neg 21),Tm 23 6,oI 24 23,ol 25 (.un .neg 24),TJ 26 2 oB [((0,1),22),((1,1),25)],Oy 27 153 26,Tx 28 27,Ty 29 27,TM 28,oy 5 29] (Tf 31 17 15 30 31 30 [Lg 32 6,oI 33 32,Lg 34 7,oI 35 34,IX 36 .add 33 35,Tm 37 6,oI 38 37,Tm 39 7,oI 40 39,IX 41 .add 38 40,TJ 42 2 oB [((0,1),36),((1,1),41)],Oy 43 153 42,Tx 44 43,Ty 45 43,TM 44,oy 5 45] (Iz (IW 47 17 16 46 47) 46 [Lg 48 6,oI 49 48,Tm 50 7,oI 51 50,IX 52 .sub 49 51,Tm 53 6,oI 54 53,Lg 55 7,oI 56 55,IX 57 .sub 54 56,TJ 58 2 oB [((0,1),52),((1,1),57)],Oy 59 153 58,Tx 60 59,Ty 61 59,TM 60,oy 5 61])))) [Lg 62 6,oI 63 62,Lg 64 7,oI 65 64,IX 66 .mul 63 65,Lg 67 6,oI 68 67,Tm 69 7,oI 70 69,IX 71 .mul 68 70,Tm 72 6,oI 73 72,Lg 74 7,oI 75 74,IX 76 .mul 73 75,Tm 77 6,oI 78 77,Tm 79 7,oI 80 79,IX 81 .mul 78 80,TJ 82 4 oB [((0,1),66),((1,1),71),((2,1),76),((3,1),81)],Oy 83 153 82,Tx 84 83,Ty 85 83,TM 84,oy 5 85]))
def jqi:XF:=⟨[0,1],jkX,[(.t 4),(.t 5)]⟩
theorem juI:jy γ 134=some jqi:=Qa0
def jkW:XC:=(Og [I3 2] [oy 3 0] 3 [O0 2 1] (o5 [I3 2]))
def jqh:XF:=⟨[0],jkW,[(.t 2)]⟩
theorem juH:jy γ 124=some jqh:=Qa0
def jkV:XC:=(OV [I3 4] (T8 [IZ 6,IQ 7 6,I3 8] 0 9 8 7 9 0 1 (Tg 10 8 5 10) (Iz [OZ 11,IZ 12,Ld 13,Il 14 7 12 13,oV 15 7 14,T6 16 11 [15]] 16 (Tg 17 5 4 17)) 18 8 8 18) [O0 4 (-(0+1))])
def jqg:XF:=⟨[0,1],jkV,[(.t 4)]⟩
theorem juG:jy γ 125=some jqg:=Qa0
def jkU:XC:=(OL (T4 2 3) [OP 4 2,oI 5 4,oI 6 1,Ts 7 5 6,oy 3 7])
def jqf:XF:=⟨[0,1],jkU,[(.t 3)]⟩
theorem juF:jy γ 126=some jqf:=Qa0
def jgc:XC:=(OV [I3 4] (T8 [IZ 6,IQ 7 6,I3 8] 0 9 8 7 9 0 1 (Tg 10 8 5 10) (Iz [OZ 11,IZ 12,Ld 13,Il 14 9 12 13,oV 15 9 14,T6 16 11 [15]] 16 (Tg 17 5 4 17)) 18 8 8 18) [O0 4 (-(0+1))])
def jqe:XF:=⟨[0,1],jgc,[(.t 4)]⟩
theorem juE:jy γ 127=some jqe:=Qa0
def jkK:XC:=(OV [Ib 4 oK,I3 5] (T8 [IZ 9,IR 10 9,OP 11 10,Tw 12 11,Oi 13 12,IQ 14 13,I3 15] 0 16 15 14 16 0 1 [Il 17 4 13 15,oV 18 4 17,o9 7 [oK,.nils,oB,oB],o6 4 7 18] (ov [Tw 19 7,oI 20 19,OZ 21,OB 22 164 20 21,oy 8 22] (Iz [oz 23 8,ow 24 (O8 .geq 23)] 24 [OP 25 7,oI 26 25,oz 27 8,TM 26,oy 5 27])) 28 15 15 28) [Ib 4 oK,O0 5 (-(0+1))])
def jp4:XF:=⟨[0,1],jkK,[(.t 4),(.t 5)]⟩
theorem juu:jy γ 152=some jp4:=Qa0
def jkJ:XC:=(OL [I3 2,I3 3] [IZ 4,Oy 5 167 4,IZ 6,Oy 7 168 6,Tq 5,oy 3 7])
def jp3:XF:=⟨[0],jkJ,[(.t 2),(.t 3)]⟩
theorem jut:jy γ 153=some jp3:=Qa0
def jkF:XC:=(oY [I3 2] (OA [IZ 5,I5 6 5,O4 7 .lss 6 1] 7 [ol 8 (.iface 9 (o8 [115,108,105,99,101,115,46,77,105,110,58,32,101,109,112,116,121,32,108,105,115,116])),o4 (.pan 8)]) (OV [IZ 9,Lk 10 9 ON,oI 11 10,oy 3 11] (IV [O0 4 1] 0 (.seq (O5 [TZ 12,IZ 13,I5 14 13,I6 15 12 14] 15 (.exit 0)) (IA 1 (.ops [oz 18 3,IZ 19,TZ 20,Lk 21 19 20,oI 22 21,ol 23 (.bi .min #[2,2] [18,22]),oy 3 23]) [TZ 16,TB 17 16 1,TM 17]))) (Tg 24 3 2 24)))
def jpZ:XF:=⟨[0],jkF,[(.t 2)]⟩
theorem jup:jy γ 167=some jpZ:=Qa0
def jkE:XC:=(oY [I3 2] (OA [IZ 5,I5 6 5,O4 7 .lss 6 1] 7 [ol 8 (.iface 9 (o8 [115,108,105,99,101,115,46,77,97,120,58,32,101,109,112,116,121,32,108,105,115,116])),o4 (.pan 8)]) (OV [IZ 9,Lk 10 9 ON,oI 11 10,oy 3 11] (IV [O0 4 1] 0 (.seq (O5 [TZ 12,IZ 13,I5 14 13,I6 15 12 14] 15 (.exit 0)) (IA 1 (.ops [oz 18 3,IZ 19,TZ 20,Lk 21 19 20,oI 22 21,ol 23 (.bi .max #[2,2] [18,22]),oy 3 23]) [TZ 16,TB 17 16 1,TM 17]))) (Tg 24 3 2 24)))
def jpY:XF:=⟨[0],jkE,[(.t 2)]⟩
theorem juo:jy γ 168=some jpY:=Qa0
theorem jqI:jbL γ 67=some G9:=Qa0
end Go.Sy
end
noncomputable section
namespace Go.Sy
open Go.Ev Go.RowKit
variable {w:World}{N:Nat}{t:TypeId}{cs:List Value}
def frW (w:World):Inj:=⟨λ_=>.unborn,λB=>match w.heap[B]? with|some (.cells c _ _)=>some c.toList|_=>none⟩
theorem jtK {B:Nat}{vs:List Value}(h:(frW w).g B=some vs):∃ c e f,w.heap[B]? = some (.cells c e f)/\c.toList=vs:=by
 unfold frW at h;dsimp only at h;split at h
 .rename_i c e f hc;exact⟨c,e,f,hc,by simpa using h⟩
 .cases h
theorem jr2 {B:Nat}{c:Array Value}{e:TypeId}{f:Nat×Nat}(h:w.heap[B]? = some (.cells c e f)):(frW w).g B=some c.toList:=by
 unfold frW;dsimp only;rw[h]
theorem jou (hg:GW w):Sim (frW w) st0.h st0.nx w:=
 ⟨λb B S e=>(by cases e),λb e=>(by cases e),λb b' B S S' e=>(by cases e),λb e=>absurd rfl e,⟨hg,λb S j hj e=>by cases e⟩,λB vs h=>by
  obtain⟨c,e,f,h1,h2⟩:=jtK h;exact⟨⟨c,e,f.1,f.2,h1,h2,trivial⟩,λb S e=>by cases e⟩⟩
section
variable {H:Type} {enc:TypeId×Value->H} {P:Program} {w:World} {base:Nat} {sp:Nat->Bool} {held:Bool}
mutual
def bulkD:DataW H->Nat
 |.lit (.string bytes)=>bytes.length+1
 |.lit _=>1
 |.nil=>1
 |.ptr d=>bulkD d+1
 |.slice elems spare=>bulkDs elems+bulkDs spare+1
 |.agg parts=>bulkDs parts+1
 |.iface _ d=>bulkD d+1
 |.map entries=>1
 |.held _=>1
def bulkDs:List (DataW H)->Nat
 |[]=>0
 |d :: r=>bulkD d+bulkDs r
end
def Reads (H:Type)(P:Program)(w:World)(N:Nat)(t:TypeId){α:Type}(z:Nat)(en:α->List AV)(sz:α->Nat):Prop:=
 P.cellsOf t=z/\(∀ x,(en x).length=z)/\∀ (enc:TypeId×Value->H) (base:Nat) (sp:Nat->Bool) (held:Bool) (fuel:Nat) (cs:List Value) (d:DataW H) (ps:List MemPlace),fuel<=N->DataW.trod enc P w base sp held fuel t cs=some (d,ps)->∃ x:α,VRs (frW w) (en x) cs/\(en x).all AV.cell=true/\sz x<=bulkD d
def jvh (k:IntKind)(n:{n:Int // (Lit.int k n).wf=true}):List AV:=[.int k n.1]
theorem Qb {k:IntKind}(hu:P.underlying t=some (.int k))(hc:P.cellsOf t=1):Reads H P w N t 1 (jvh k) (λ_=>1):=
 ⟨hc,λ_=>rfl,λenc base sp held fuel cs d ps hN h=>by
  obtain⟨n,rfl,hx,hw⟩:=DataW.trod_int hu h;cases hx;exact⟨⟨n,hw⟩,⟨_,_,rfl,rfl,rfl⟩,rfl,μ _⟩⟩
theorem ue (hu:P.underlying t=some .string)(hc:P.cellsOf t=1):Reads H P w N t 1 (λs:Lt=>[.str s]) (λs=>s.length+1):=
 ⟨hc,λ_=>rfl,λenc base sp held fuel cs d ps hN h=>by
  obtain⟨s,rfl,hx,hm⟩:=DataW.trod_string hu h;cases hx;refine⟨s.data.toList.map UInt8.toNat,⟨_,_,rfl,⟨s,rfl,rfl⟩,rfl⟩,rfl,?_⟩;show(s.data.toList.map UInt8.toNat).length+1<=_;rw[bulkD,Qad];exact μ _⟩
theorem jfL {a:Addr}{v:Value}(h:w.cell? a=some v):a.spot=none/\∃ c e f,w.heap[a.block]? = some (.cells c e f)/\c[a.off]? = some v:=by
 unfold World.cell? at h;split at h
 .rename_i c e f hc;split at h
  .cases h
  .rename_i hs;exact⟨by simpa using hs,c,e,f,hc,h⟩
 .cases h
theorem jdV {base:Nat}{a:Addr}{n:Nat}(h:w.cells? base a n=some cs):cs.length=n/\∀ i,i<n->w.cell? (a.add i)=some (cs.getD i undef):=by
 unfold World.cells? at h;split at h
 .refine⟨by simpa using mapM_some_length h,λi hi=>?_⟩;have:=mapM_some_get h i i (by simp[hi]);rw[this];have hl:cs.length=n:=by simpa using mapM_some_length h
  simp[Qac,show i<cs.length by omega]
 .cases h
theorem jee (b o n:Nat):(Addr.add ⟨b,o,none⟩ n)=⟨b,o+n,none⟩:=by
 unfold Addr.add;split
 .rename_i h;subst h;rfl
 .rfl
theorem Xy {α:Type}{e:TypeId}{z:Nat}{en:α->List AV}{sz:α->Nat}(hz0:0<z)(hu:P.underlying t=some (.slice e))(hc:P.cellsOf t=1)(R:Reads H P w N e z en sz)(hpos:∀ x,1<=sz x) :
  Reads H P w (N+1) t 1 (λxs:List α=>[.lst xs.length (fl en xs)]) (λxs=>(xs.map sz).sum+1):=
 ⟨hc,λ_=>rfl,λenc base sp held fuel cs d ps hN h=>by
  obtain⟨hz,hl,hr⟩:=R;rcases DataW.trod_slice hu h with ⟨rfl,hx⟩|⟨a,len,cap,elems,rest,n,rfl,rfl,hx,hb,hle,hm,hel,h1,_,_⟩
  .cases hx;exact⟨[],⟨_,_,rfl,⟨none,0,rfl,μ _,rfl,λh=>absurd h (Qbe 0)⟩,rfl⟩,rfl,by simp[bulkD]⟩
  .rw[hz] at h1;have each:∀ i,i<len->∃ ci d q,w.cells? base (a.add (i * z)) z=some ci/\DataW.trod enc P w base sp held n e ci=some (d,q)/\elems[i]? = some (d,q):=λi hi=>by
    have:=h1 i hi;rw[Qaf om] at this;obtain⟨ci,e1,e2⟩:=Option.bind_eq_some_iff.1 this;exact⟨ci,elems[i].1,elems[i].2,e1,e2,Qaf om⟩
   have all:∀ m,m<=len->∃ xs:List α,xs.length=m/\(xs.map sz).sum<=bulkDs ((elems.take m).map (·.1))/\∀ i (hi:i<xs.length),∃ ci,w.cells? base (a.add (i * z)) z=some ci/\VRs (frW w) (en xs[i]) ci/\(en xs[i]).all AV.cell=true:=by
    intro m;induction m with
    |zero=>exact λ_=>⟨[],rfl,by simp[bulkDs],λi hi=>by simp at hi⟩
    |succ m ih=>
     intro hm;obtain⟨xs,e1,e2,e3⟩:=ih om;obtain⟨ci,d,q,f1,f2,f3⟩:=each m om;obtain⟨x,g1,g2,g3⟩:=hr enc base sp held n ci d q om f2;have app:∀ (l r:List (DataW H)),bulkDs (l ++ r)=bulkDs l+bulkDs r:=λl r=>by
      induction l with
      |nil=>simp[bulkDs]
      |cons y l ih=>rw[Qag,bulkDs,bulkDs,ih,Qbt]
     refine⟨xs ++ [x],by simp[e1],?_,λi hi=>?_⟩
     .rw[QbQ,f3];simp only[Option.toList,QaU,ζ,η,List.sum_append,List.sum_cons,List.sum_nil,app,bulkDs];omega
     .by_cases hlt:i<xs.length
      .rw[Qbk hlt];exact e3 i hlt
      .have:i=m:=by simp at hi;omega
       subst this;rw[Qbl om];simp only[e1,QbU,QbG];exact⟨ci,f1,g1,g2⟩
   obtain⟨xs,e1,e2,e3⟩:=all len (μ _);have hcell:(fl en xs).all AV.cell=true:=by
    rw[Qai];intro v hv;obtain⟨y,hy,hv⟩:=Qck.1 hv;obtain⟨i,hi,rfl⟩:=Qbi.1 hy;obtain⟨_,_,_,h5⟩:=e3 i hi;exact Qai.1 h5 v hv
   refine⟨xs,⟨_,_,rfl,?_,rfl⟩,rfl,?_⟩
   .refine⟨some a,cap,by rw[e1],om,hcell,λhpos=>?_⟩;obtain⟨c0,f0,_,_⟩:=e3 0 hpos;have f1:=(jdV f0).2 0 hz0;rw[QaP] at f1;have z0:(a.add 0).add 0=a:=rfl;rw[z0] at f1;obtain⟨hs,c,ty,fr,hB,_⟩:=jfL f1;obtain⟨B,o,s⟩:=a;dsimp only at hs hB;subst hs;have cell:∀ i (hi:i<xs.length) j,j<z->∃ v,c[o+(i * z+j)]? = some v/\VR (frW w) ((en xs[i]).getD j .bad) v:=λi hi j hj=>by
     obtain⟨ci,g0,g1,g2⟩:=e3 i hi;have g3:=(jdV g0).2 j hj;rw[jee,jee] at g3;obtain⟨_,c',ty',fr',hB',g4⟩:=jfL g3;dsimp only at hB' g4;rw[hB] at hB';cases hB';refine⟨_,by rw[<-Qbt];exact g4,?_⟩;exact g1.get j (by rw[hl];exact hj)
    have bound:o+xs.length * z<=c.size:=by
     have hl1:0<xs.length:=hpos;obtain⟨v,g,_⟩:=cell (xs.length - 1) om (z - 1) om;have:=(Qaw.1 g).1;have e:(xs.length - 1) * z+(z - 1)+1=xs.length * z:=by
      have:(xs.length - 1+1) * z=(xs.length - 1) * z+z:=QaR _ _;rw[show xs.length - 1+1=xs.length by omega] at this;omega
     omega
    have hfl:=zH hl xs;have hcs:c.toList.length=c.size:=Qao;refine⟨B,o,c.toList,rfl,jr2 hB,by rw[hfl,hcs];exact bound,?_⟩;show VRs (frW w) _ _;refine VRs.of_get (by rw[hfl,Qal,QaB,hcs];omega) λi hi=>?_;rw[hfl] at hi;have hj:i % z<z:=Nat.mod_lt _ hz0;have hq:i / z<xs.length:=Nat.div_lt_of_lt_mul (by rw[Nat.mul_comm];exact hi);have hiz:i / z * z+i % z=i:=by rw[Nat.mul_comm];exact Nat.div_add_mod i z
    obtain⟨v,g1,g2⟩:=cell (i / z) hq (i % z) hj;rw[hiz] at g1;have g3:=ur hl hq hj;rw[hiz] at g3;rw[g3];have g4:((c.toList.drop o).take (fl en xs).length).getD i undef=v:=by
     rw[hfl];simp only[Qac,QbK,hi,if_true,QbL,QbT,g1,QaN]
    rw[g4];exact g2
   .cases hx;rw[bulkD];have:elems.take len=elems:=by rw[<-hel];exact Qab
    rw[this] at e2;show(xs.map sz).sum+1<=bulkDs (elems.map (·.1))+bulkDs (rest.map (·.1))+1;omega⟩
theorem Reads.mono {M:Nat}{α:Type}{z:Nat}{en:α->List AV}{sz:α->Nat}(R:Reads H P w N t z en sz)(h:M<=N):Reads H P w M t z en sz:=
 ⟨R.1,R.2.1,λenc base sp held fuel cs d ps hN=>R.2.2 enc base sp held fuel cs d ps om⟩
theorem qL {ι:Inj}{a b:List AV}{o z:Nat}(h1:VRs ι a ((cs.drop o).take z))(h2:VRs ι b (cs.drop (o+z))):VRs ι (a ++ b) (cs.drop o):=by
 have:=VRs.append h1 h2;rwa [<-Qbz,Qbr] at this
theorem ZM {ι:Inj}{o:Nat}(h:cs.length=o):VRs ι [] (cs.drop o):=by
 rw[List.drop_eq_nil_of_le om];rfl
end
end Go.Sy
end
noncomputable section
set_option maxRecDepth 100000
namespace Go.Sy
open Go.Ev Go.RowKit Go.Proofs
variable {H:Type} {w:World}
theorem ce2:Tryz.prog.cellsOf 2=1:=Qa0
theorem ce3:Tryz.prog.cellsOf 3=1:=Qa0
theorem ce9:Tryz.prog.cellsOf 9=1:=Qa0
theorem jsB:Tryz.prog.cellsOf 22=1:=Qa0
theorem jsA:Tryz.prog.cellsOf 23=1:=Qa0
theorem jsz:Tryz.prog.cellsOf 24=1:=Qa0
theorem jsy:Tryz.prog.cellsOf 26=3:=Qa0
theorem jhp:Tryz.prog.cellsOf 27=1:=Qa0
theorem jdX:Tryz.prog.cellsOf 29=6:=Qa0
theorem jsx:Tryz.prog.cellsOf 112=7:=Qa0
theorem jsw:Tryz.prog.cellsOf 106=1:=Qa0
theorem jsv:Tryz.prog.cellsOf 108=4:=Qa0
theorem jsu:Tryz.prog.cellsOf 114=1:=Qa0
theorem jst:Tryz.prog.cellsOf 116=4:=Qa0
theorem jnX:Tryz.prog.cellsOf 118=1:=Qa0
theorem jnW:Tryz.prog.cellsOf 120=7:=Qa0
theorem jnV:Tryz.prog.cellsOf 155=9:=Qa0
theorem Hl (x:Ex):1<=szE x:=by rw[Yo];omega
theorem Qk:∀ xs:List Ex,(xs.map szE).sum=yP xs
 |[]=>rfl
 |x :: xs=>by rw[ζ,List.sum_cons,Qk xs];rfl
def szA (a:AsT):Nat:=a.name.length+szE a.to+1
def szR (r:RuleT):Nat:=szE r.when+(r.acts.map szA).sum+1
def szP (p:ProcT):Nat:=p.name.length+(p.rules.map szR).sum+1
def szV (v:Lt):Nat:=v.length+1
def szN (e:EnumT):Nat:=e.name.length+(e.vals.map szV).sum+1
def szD (d:DeclT):Nat:=d.name.length+d.ty.length+yP d.begins+1
def szS (m:SrcT):Nat:=(m.enums.map szN).sum+(m.vars.map szD).sum+(m.procs.map szP).sum+1
theorem jby:∀ N:Nat,Reads H γ w N 29 6 eE szE
 |0=>⟨jdX,zR,λenc base sp held fuel cs d ps hN h=>by
  have:fuel=0:=om
  subst this;simp[DataW.trod] at h⟩
 |N+1=>⟨jdX,zR,λenc base sp held fuel cs d ps hN h=>by
  obtain⟨xs,n,rfl,hx,hl,hlen,hf⟩:=DataW.trod_struct Tryz.underlying29 h;cases hx;rw[jdX] at hl
  match xs,hlen with
  |[y0,y1,y2,y3,y4,y5],_=>
   have h0:DataW.trod enc γ w base sp held n 3 ((cs.drop 0).take (Tryz.prog.cellsOf 3))=some y0:=hf 0 _ rfl;rw[ce3] at h0;obtain⟨x0,v0,c0,s0⟩:=(Qb (N:=n) Tryz.underlying3 ce3).2.2 enc base sp held n _ y0.1 y0.2 om h0;have h1:DataW.trod enc γ w base sp held n 2 ((cs.drop 1).take (Tryz.prog.cellsOf 2))=some y1:=hf 1 _ rfl;rw[ce2] at h1;obtain⟨x1,v1,c1,s1⟩:=(Qb (N:=n) Tryz.underlying2 ce2).2.2 enc base sp held n _ y1.1 y1.2 om h1;have h2:DataW.trod enc γ w base sp held n 9 ((cs.drop 2).take (Tryz.prog.cellsOf 9))=some y2:=hf 2 _ rfl;rw[ce9] at h2;obtain⟨x2,v2,c2,s2⟩:=(ue (N:=n) Tryz.underlying9 ce9).2.2 enc base sp held n _ y2.1 y2.2 om h2;have h3:DataW.trod enc γ w base sp held n 27 ((cs.drop 3).take (Tryz.prog.cellsOf 27))=some y3:=hf 3 _ rfl;rw[jhp] at h3;obtain⟨x3,v3,c3,s3⟩:=(Xy dc Tryz.underlying27 jhp ((jby N).mono (M:=N) (μ _)) Hl).2.2 enc base sp held n _ y3.1 y3.2 om h3;have h4:DataW.trod enc γ w base sp held n 3 ((cs.drop 4).take (Tryz.prog.cellsOf 3))=some y4:=hf 4 _ rfl;rw[ce3] at h4;obtain⟨x4,v4,c4,s4⟩:=(Qb (N:=n) Tryz.underlying3 ce3).2.2 enc base sp held n _ y4.1 y4.2 om h4;have h5:DataW.trod enc γ w base sp held n 3 ((cs.drop 5).take (Tryz.prog.cellsOf 3))=some y5:=hf 5 _ rfl;rw[ce3] at h5;obtain⟨x5,v5,c5,s5⟩:=(Qb (N:=n) Tryz.underlying3 ce3).2.2 enc base sp held n _ y5.1 y5.2 om h5;refine⟨.mk x0.1 x1.1 x2 x3 x4.1 x5.1,?_,?_,?_⟩
   .rw[qA];exact qL (z:=1) v0 (qL (z:=1) v1 (qL (z:=1) v2 (qL (z:=1) v3 (qL (z:=1) v4 (qL (z:=1) v5 (ZM (by rw[hl])))))))
   .rw[qA];first|rfl|(simp_all [QaY,AV.cell];done)|(simp[AV.cell];done)
   .simp only[ζ,η,bulkD,bulkDs,Yo,Ex.kids,Ex.name];skip
    first|omega|(simp only[Qk] at *;omega)⟩
theorem jjy:∀ xs:Lq,fl (λs=>[AV.str s]) xs=xs.map AV.str
 |[]=>rfl
 |x :: xs=>by rw[Xh,jjy xs];rfl
theorem joA (N:Nat):Reads H γ w (N+1) 106 1 (λxs:Lq=>[.lst xs.length (xs.map AV.str)]) (λxs=>(xs.map szV).sum+1):=by
 have h:Reads H γ w (N+1) 106 1 (λxs:Lq=>[.lst xs.length (fl (λs=>[AV.str s]) xs)]) (λxs=>(xs.map szV).sum+1):=Xy dc Tryz.underlying106 jsw (ue (N:=N) Tryz.underlying9 ce9) (λx=>QaW _);simpa only[jjy] using h
theorem joD (N:Nat):Reads H γ w N 108 4 enE szN:=
 ⟨jsv,Q6,λenc base sp held fuel cs d ps hN h=>by
  obtain⟨xs,n,rfl,hx,hl,hlen,hf⟩:=DataW.trod_struct Tryz.underlying108 h;cases hx;rw[jsv] at hl
  match xs,hlen with
  |[y0,y1,y2,y3],_=>
   have h0:DataW.trod enc γ w base sp held n 9 ((cs.drop 0).take (Tryz.prog.cellsOf 9))=some y0:=hf 0 _ rfl;rw[ce9] at h0;obtain⟨x0,v0,c0,s0⟩:=(ue (N:=n) Tryz.underlying9 ce9).2.2 enc base sp held n _ y0.1 y0.2 om h0;have h1:DataW.trod enc γ w base sp held n 106 ((cs.drop 1).take (Tryz.prog.cellsOf 106))=some y1:=hf 1 _ rfl;rw[jsw] at h1;obtain⟨x1,v1,c1,s1⟩:=(joA N).2.2 enc base sp held n _ y1.1 y1.2 om h1;have h2:DataW.trod enc γ w base sp held n 3 ((cs.drop 2).take (Tryz.prog.cellsOf 3))=some y2:=hf 2 _ rfl;rw[ce3] at h2;obtain⟨x2,v2,c2,s2⟩:=(Qb (N:=n) Tryz.underlying3 ce3).2.2 enc base sp held n _ y2.1 y2.2 om h2;have h3:DataW.trod enc γ w base sp held n 3 ((cs.drop 3).take (Tryz.prog.cellsOf 3))=some y3:=hf 3 _ rfl;rw[ce3] at h3;obtain⟨x3,v3,c3,s3⟩:=(Qb (N:=n) Tryz.underlying3 ce3).2.2 enc base sp held n _ y3.1 y3.2 om h3;refine⟨⟨x0,x1,x2.1,x3.1⟩,?_,?_,?_⟩
   .rw[ZC];exact qL (z:=1) v0 (qL (z:=1) v1 (qL (z:=1) v2 (qL (z:=1) v3 (ZM (by rw[hl])))))
   .rw[ZC];first|rfl|(simp_all [QaY,AV.cell];done)|(simp[AV.cell];done)
   .simp only[ζ,η,bulkD,bulkDs,szN];skip
    first|omega|(simp only[Qk] at *;omega)⟩
theorem joE (N:Nat):Reads H γ w N 112 7 qy szD:=
 ⟨jsx,Yh,λenc base sp held fuel cs d ps hN h=>by
  obtain⟨xs,n,rfl,hx,hl,hlen,hf⟩:=DataW.trod_struct Tryz.underlying112 h;cases hx;rw[jsx] at hl
  match xs,hlen with
  |[y0,y1,y2,y3,y4,y5,y6],_=>
   have h0:DataW.trod enc γ w base sp held n 9 ((cs.drop 0).take (Tryz.prog.cellsOf 9))=some y0:=hf 0 _ rfl;rw[ce9] at h0;obtain⟨x0,v0,c0,s0⟩:=(ue (N:=n) Tryz.underlying9 ce9).2.2 enc base sp held n _ y0.1 y0.2 om h0;have h1:DataW.trod enc γ w base sp held n 9 ((cs.drop 1).take (Tryz.prog.cellsOf 9))=some y1:=hf 1 _ rfl;rw[ce9] at h1;obtain⟨x1,v1,c1,s1⟩:=(ue (N:=n) Tryz.underlying9 ce9).2.2 enc base sp held n _ y1.1 y1.2 om h1;have h2:DataW.trod enc γ w base sp held n 2 ((cs.drop 2).take (Tryz.prog.cellsOf 2))=some y2:=hf 2 _ rfl;rw[ce2] at h2;obtain⟨x2,v2,c2,s2⟩:=(Qb (N:=n) Tryz.underlying2 ce2).2.2 enc base sp held n _ y2.1 y2.2 om h2;have h3:DataW.trod enc γ w base sp held n 2 ((cs.drop 3).take (Tryz.prog.cellsOf 2))=some y3:=hf 3 _ rfl;rw[ce2] at h3;obtain⟨x3,v3,c3,s3⟩:=(Qb (N:=n) Tryz.underlying2 ce2).2.2 enc base sp held n _ y3.1 y3.2 om h3;have h4:DataW.trod enc γ w base sp held n 27 ((cs.drop 4).take (Tryz.prog.cellsOf 27))=some y4:=hf 4 _ rfl;rw[jhp] at h4;obtain⟨x4,v4,c4,s4⟩:=(Xy dc Tryz.underlying27 jhp (jby N) Hl).2.2 enc base sp held n _ y4.1 y4.2 om h4;have h5:DataW.trod enc γ w base sp held n 3 ((cs.drop 5).take (Tryz.prog.cellsOf 3))=some y5:=hf 5 _ rfl;rw[ce3] at h5;obtain⟨x5,v5,c5,s5⟩:=(Qb (N:=n) Tryz.underlying3 ce3).2.2 enc base sp held n _ y5.1 y5.2 om h5;have h6:DataW.trod enc γ w base sp held n 3 ((cs.drop 6).take (Tryz.prog.cellsOf 3))=some y6:=hf 6 _ rfl;rw[ce3] at h6;obtain⟨x6,v6,c6,s6⟩:=(Qb (N:=n) Tryz.underlying3 ce3).2.2 enc base sp held n _ y6.1 y6.2 om h6;refine⟨⟨x0,x1,x2.1,x3.1,x4,x5.1,x6.1⟩,?_,?_,?_⟩
   .rw[QJ];exact qL (z:=1) v0 (qL (z:=1) v1 (qL (z:=1) v2 (qL (z:=1) v3 (qL (z:=1) v4 (qL (z:=1) v5 (qL (z:=1) v6 (ZM (by rw[hl]))))))))
   .rw[QJ];first|rfl|(simp_all [QaY,AV.cell];done)|(simp[AV.cell];done)
   .simp only[ζ,η,bulkD,bulkDs,szD];skip
    first|omega|(simp only[Qk] at *;omega)⟩
theorem jtA (N:Nat):Reads H γ w N 155 9 asE szA:=
 ⟨jnV,vK,λenc base sp held fuel cs d ps hN h=>by
  obtain⟨xs,n,rfl,hx,hl,hlen,hf⟩:=DataW.trod_struct Tryz.underlying155 h;cases hx;rw[jnV] at hl
  match xs,hlen with
  |[y0,y1,y2,y3],_=>
   have h0:DataW.trod enc γ w base sp held n 9 ((cs.drop 0).take (Tryz.prog.cellsOf 9))=some y0:=hf 0 _ rfl;rw[ce9] at h0;obtain⟨x0,v0,c0,s0⟩:=(ue (N:=n) Tryz.underlying9 ce9).2.2 enc base sp held n _ y0.1 y0.2 om h0;have h1:DataW.trod enc γ w base sp held n 29 ((cs.drop 1).take (Tryz.prog.cellsOf 29))=some y1:=hf 1 _ rfl;rw[jdX] at h1;obtain⟨x1,v1,c1,s1⟩:=((jby N)).2.2 enc base sp held n _ y1.1 y1.2 om h1;have h2:DataW.trod enc γ w base sp held n 3 ((cs.drop 7).take (Tryz.prog.cellsOf 3))=some y2:=hf 2 _ rfl;rw[ce3] at h2;obtain⟨x2,v2,c2,s2⟩:=(Qb (N:=n) Tryz.underlying3 ce3).2.2 enc base sp held n _ y2.1 y2.2 om h2;have h3:DataW.trod enc γ w base sp held n 3 ((cs.drop 8).take (Tryz.prog.cellsOf 3))=some y3:=hf 3 _ rfl;rw[ce3] at h3;obtain⟨x3,v3,c3,s3⟩:=(Qb (N:=n) Tryz.underlying3 ce3).2.2 enc base sp held n _ y3.1 y3.2 om h3;refine⟨⟨x0,x1,x2.1,x3.1⟩,?_,?_,?_⟩
   .rw[asE];exact qL (z:=1) v0 (qL (z:=6) v1 (qL (z:=1) v2 (qL (z:=1) v3 (ZM (by rw[hl])))))
   .rw[asE];first|rfl|(simp_all [QaY,AV.cell];done)|(simp[AV.cell];done)
   .simp only[ζ,η,bulkD,bulkDs,szA];skip
    first|omega|(simp only[Qk] at *;omega)⟩
theorem joB (N:Nat):Reads H γ w N 120 7 ruE szR:=
 ⟨jnW,uP,λenc base sp held fuel cs d ps hN h=>by
  obtain⟨xs,n,rfl,hx,hl,hlen,hf⟩:=DataW.trod_struct Tryz.underlying120 h;cases hx;rw[jnW] at hl
  match xs,hlen with
  |[y0,y1],_=>
   have h0:DataW.trod enc γ w base sp held n 29 ((cs.drop 0).take (Tryz.prog.cellsOf 29))=some y0:=hf 0 _ rfl;rw[jdX] at h0;obtain⟨x0,v0,c0,s0⟩:=((jby N)).2.2 enc base sp held n _ y0.1 y0.2 om h0;have h1:DataW.trod enc γ w base sp held n 118 ((cs.drop 6).take (Tryz.prog.cellsOf 118))=some y1:=hf 1 _ rfl;rw[jnX] at h1;obtain⟨x1,v1,c1,s1⟩:=(Xy dc Tryz.underlying118 jnX (jtA N) (λx=>QaW _)).2.2 enc base sp held n _ y1.1 y1.2 om h1;refine⟨⟨x0,x1⟩,?_,?_,?_⟩
   .rw[ruE];exact qL (z:=6) v0 (qL (z:=1) v1 (ZM (by rw[hl])))
   .rw[ruE];first|rfl|(simp_all [QaY,AV.cell];done)|(simp[AV.cell];done)
   .simp only[ζ,η,bulkD,bulkDs,szR];skip
    first|omega|(simp only[Qk] at *;omega)⟩
theorem joC (N:Nat):Reads H γ w N 116 4 prE szP:=
 ⟨jst,Vq,λenc base sp held fuel cs d ps hN h=>by
  obtain⟨xs,n,rfl,hx,hl,hlen,hf⟩:=DataW.trod_struct Tryz.underlying116 h;cases hx;rw[jst] at hl
  match xs,hlen with
  |[y0,y1,y2,y3],_=>
   have h0:DataW.trod enc γ w base sp held n 9 ((cs.drop 0).take (Tryz.prog.cellsOf 9))=some y0:=hf 0 _ rfl;rw[ce9] at h0;obtain⟨x0,v0,c0,s0⟩:=(ue (N:=n) Tryz.underlying9 ce9).2.2 enc base sp held n _ y0.1 y0.2 om h0;have h1:DataW.trod enc γ w base sp held n 114 ((cs.drop 1).take (Tryz.prog.cellsOf 114))=some y1:=hf 1 _ rfl;rw[jsu] at h1;obtain⟨x1,v1,c1,s1⟩:=(Xy dc Tryz.underlying114 jsu (joB N) (λx=>QaW _)).2.2 enc base sp held n _ y1.1 y1.2 om h1;have h2:DataW.trod enc γ w base sp held n 3 ((cs.drop 2).take (Tryz.prog.cellsOf 3))=some y2:=hf 2 _ rfl;rw[ce3] at h2;obtain⟨x2,v2,c2,s2⟩:=(Qb (N:=n) Tryz.underlying3 ce3).2.2 enc base sp held n _ y2.1 y2.2 om h2;have h3:DataW.trod enc γ w base sp held n 3 ((cs.drop 3).take (Tryz.prog.cellsOf 3))=some y3:=hf 3 _ rfl;rw[ce3] at h3;obtain⟨x3,v3,c3,s3⟩:=(Qb (N:=n) Tryz.underlying3 ce3).2.2 enc base sp held n _ y3.1 y3.2 om h3;refine⟨⟨x0,x1,x2.1,x3.1⟩,?_,?_,?_⟩
   .rw[wd];exact qL (z:=1) v0 (qL (z:=1) v1 (qL (z:=1) v2 (qL (z:=1) v3 (ZM (by rw[hl])))))
   .rw[wd];first|rfl|(simp_all [QaY,AV.cell];done)|(simp[AV.cell];done)
   .simp only[ζ,η,bulkD,bulkDs,szP];skip
    first|omega|(simp only[Qk] at *;omega)⟩
theorem rd_src (N:Nat):Reads H γ w N 26 3 srE szS:=
 ⟨jsy,uK,λenc base sp held fuel cs d ps hN h=>by
  obtain⟨xs,n,rfl,hx,hl,hlen,hf⟩:=DataW.trod_struct Tryz.underlying26 h;cases hx;rw[jsy] at hl
  match xs,hlen with
  |[y0,y1,y2],_=>
   have h0:DataW.trod enc γ w base sp held n 22 ((cs.drop 0).take (Tryz.prog.cellsOf 22))=some y0:=hf 0 _ rfl;rw[jsB] at h0;obtain⟨x0,v0,c0,s0⟩:=(Xy dc Tryz.underlying22 jsB (joD N) (λx=>QaW _)).2.2 enc base sp held n _ y0.1 y0.2 om h0;have h1:DataW.trod enc γ w base sp held n 23 ((cs.drop 1).take (Tryz.prog.cellsOf 23))=some y1:=hf 1 _ rfl;rw[jsA] at h1;obtain⟨x1,v1,c1,s1⟩:=(Xy dc Tryz.underlying23 jsA (joE N) (λx=>QaW _)).2.2 enc base sp held n _ y1.1 y1.2 om h1;have h2:DataW.trod enc γ w base sp held n 24 ((cs.drop 2).take (Tryz.prog.cellsOf 24))=some y2:=hf 2 _ rfl;rw[jsz] at h2;obtain⟨x2,v2,c2,s2⟩:=(Xy dc Tryz.underlying24 jsz (joC N) (λx=>QaW _)).2.2 enc base sp held n _ y2.1 y2.2 om h2;refine⟨⟨x0,x1,x2⟩,?_,?_,?_⟩
   .rw[Z9];exact qL (z:=1) v0 (qL (z:=1) v1 (qL (z:=1) v2 (ZM (by rw[hl]))))
   .rw[Z9];first|rfl|(simp_all [QaY,AV.cell];done)|(simp[AV.cell];done)
   .simp only[ζ,η,bulkD,bulkDs,szS];skip
    first|omega|(simp only[Qk] at *;omega)⟩
end Go.Sy
end
noncomputable section
namespace Go.Sy
open Go.Ev Go.RowKit
variable {v:AV}{h:T AO}{l r cs:List AV}{s:St}{n:Nat}{f:AV->Option (AV×Lt)}
theorem HC (hv:pa v=true):lend h v=some v:=by
 have key:∀ v:AV,pa v=true->(fz 9 h v).map (·.1)=some v:=λv hv=>by rw[jbS (d:=7) hv];rfl
 cases v<;>first|exact key _ hv|(cases hv;done)|skip
 case fn f caps=>
  cases caps with
  |nil=>rfl
  |cons c l=>cases hv
theorem zO :Qs h []=some []:=rfl
theorem qK {u:AV}(h1:lend h v=some u)(h2:Qs h l=some r):Qs h (v :: l)=some (u :: r):=by
 simp only[Qs,h1,h2]
theorem JZ (h1:pa v=true)(h2:Qs h l=some r):Qs h (v :: l)=some (v :: r):=qK (HC h1) h2
theorem jaI :∀ {l:List AV},l.all Go.Sy.pa=true->Qs h l=some l
 |[],_=>rfl
 |v :: l,hp=>by
  simp only[QaD,χ] at hp;exact JZ hp.1 (jaI hp.2)
theorem jfu {d b m z:Nat}{x:Bool}(C:Cl s b cs)(hl:n * z=cs.length)(hp:cs.all pc=true):fz (d+2) s.h (.slice b 0 n m z x)=some (.lst n cs,[b]):=jdz (k:=0) C hl hp
theorem VH {b m z:Nat}{x:Bool}(C:Cl s b cs)(hl:n * z=cs.length)(hp:cs.all pc=true):lend s.h (.slice b 0 n m z x)=some (.lst n cs):=by
 show(fz 9 s.h _).map (·.1)=_;rw[jfu (d:=7) C hl hp];rfl
def Lr (s:St)(v:AV)(n:Nat)(cs:List AV):Prop:=v=.lst n cs\/(v=.nils/\n=0/\cs=[])\/∃ b m z x,v=.slice b 0 n m z x/\n * z=cs.length/\Cl s b cs
theorem Lv.lr {lo hi z:Nat}(h:Lv lo hi s v n cs z):Lr s v n cs:=by
 rcases h with ⟨rfl,rfl,rfl⟩|⟨b,rfl,h2,h3,h4,h5,h6⟩
 .exact .inr (.inl ⟨rfl,rfl,rfl⟩)
 .exact .inr (.inr ⟨b,n,z,false,rfl,h3.symm,h4⟩)
theorem Lr.fz {d:Nat}(h:Lr s v n cs)(hp:cs.all pc=true):∃ ks,fz (d+2) s.h v=some (.lst n cs,ks):=by
 rcases h with rfl|⟨rfl,rfl,rfl⟩|⟨b,m,z,x,rfl,h1,h2⟩
 .exact⟨[],rfl⟩
 .exact⟨[],rfl⟩
 .exact⟨[b],jfu h2 h1 hp⟩
theorem Lr.lend (h:Lr s v n cs)(hp:cs.all pc=true):lend s.h v=some (.lst n cs):=by
 have key:(Go.Ev.fz 9 s.h v).map (·.1)=some (.lst n cs):=by
  obtain⟨ks,e⟩:=h.fz (d:=7) hp;rw[e];rfl
 rcases h with rfl|⟨rfl,rfl,rfl⟩|⟨b,m,z,x,rfl,h1,h2⟩<;>exact key
theorem ji3 (h:∃ ks,fzs (fz 8 s.h) l=some (r,ks)):lend s.h (.agg l)=some (.agg r):=by
 obtain⟨ks,e⟩:=h;show(fz 9 s.h (.agg l)).map (·.1)=_;show((fzs (fz 8 s.h) l).map λp=>(AV.agg p.1,p.2)).map (·.1)=_;rw[e];rfl
theorem jgV {u:AV}(h1:∃ ks,f v=some (u,ks))(h2:∃ ks,fzs f l=some (r,ks)):∃ ks,fzs f (v :: l)=some (u :: r,ks):=by
 obtain⟨k1,e1⟩:=h1;obtain⟨k2,e2⟩:=h2;exact⟨k1 ++ k2,by simp only[fzs,e1,e2]⟩
theorem jtJ :∃ ks,fzs f []=some ([],ks):=⟨[],rfl⟩
theorem uj {b o:Nat}(C:Cl s b cs)(h:YO (fz 9 s.h) cs=r):lend s.h (.ptr b o)=some (.lptr r o):=by
 obtain⟨n,zl,z,ct,hrow,hn,hcs⟩:=C.rw_.len;show wo s.h (.ptr b o)=_;unfold wo;dsimp only;rw[hrow];dsimp only;rw[hn,h]
theorem QG {u:AV}(h1:∃ ks,f v=some (u,ks))(hc:u.cell=true)(h2:YO f l=r):YO f (v :: l)=u :: r:=by
 obtain⟨ks,e⟩:=h1;simp only[YO,e,hc,cond_true,h2]
theorem HJ :YO f []=[]:=rfl
theorem VM (d:Nat)(hv:pc v=true):∃ ks,fz (d+1) h v=some (v,ks):=⟨[],jbR hv d _⟩
section
variable {P:Program} {base:Bs}
theorem PL.xb {f:FuncId}{aZ aZ':List AV}{o:Oc}(h:PL P base f aZ o){st:St}(hf:Qs st.h aZ'=some aZ)(hb:∀ st,base.run f aZ' st=.no)(K Kp:AV->St->Prop):XB P base f aZ' st K Kp=YZ o K Kp st:=h.cx hf hb K Kp
theorem PL.pa {f:FuncId}{aZ:List AV}{o:Oc}(h:PL P base f aZ o)(hp:aZ.all Go.Sy.pa=true)(hb:∀ st,base.run f aZ st=.no)(st:St)(K Kp:AV->St->Prop):XB P base f aZ st K Kp=YZ o K Kp st:=by
 exact h.xb (jaI hp) hb K Kp
theorem zL {f:FuncId}{F:XF}(hl:jy P f=some F)(hnd:F.body.nd=true)(hm:base.pur f=5){aZ:List AV}{o:Oc}(ho:o.flat=true)
  (h:xC P base F.body (jr F.ps aZ) st0 (XQ P F.res (Yg G0 o)) λv _ s=>X8 G0 o v s.bare):PL P base f aZ o:=
 PL.of hm ho (Y2 hl hnd h)
def jrT (r:ER):ER:=match r with
 |.ok v s=>(match fz 9 s.h v with|some (v',ks)=>.ok v' (kills ks s)|none=>.no)
 |r=>r
theorem BX.ice {f:FuncId}{args:List AV}{st:St}{K Kp:AV->St->Prop}(hm:base.pur f=2)(hb:base.run f args st=.no)(h:BX P base f args st (λv s=>∃ u ks,fz 9 s.h v=some (u,ks)/\K u (kills ks s)) Kp):CX P base f args st K Kp:=by
 obtain⟨r,⟨N,D,h1⟩,h2⟩:=h;have e:∀ n,N<=n->∀ d,D+1<=d->evC P base n d f args st=jrT r:=λn hn d hd=>by
  obtain⟨d',rfl⟩:∃ d',d=d'+1:=⟨d - 1,om⟩;have h3:=h1 n hn d' om;simp only[evC,hb,hm,uT,jgT,h3];rfl
 refine⟨_,⟨N,D+1,e⟩,?_⟩;cases r with
 |no=>exact h2.elim
 |pn v s=>exact h2
 |ok v s=>
  obtain⟨u,ks,e1,e2⟩:=(h2:∃ u ks,fz 9 s.h v=some (u,ks)/\K u (kills ks s));unfold jrT;dsimp only;rw[e1];exact e2
theorem VK {f:FuncId}{F:XF}(hl:jy P f=some F)(hnd:F.body.nd=true){args:List AV}{st:St}(hm:base.pur f=2)(hb:base.run f args st=.no){K Kp:AV->St->Prop}
  (h:xC P base F.body (jr F.ps args) st.bare (XQ P F.res λv s=>∃ u ks,fz 9 s.h v=some (u,ks)/\K u (back st (kills ks s))) λv _ s=>Kp v (bk st s)):XB P base f args st K Kp:=
 XB.of (BX.ice hm hb (Y2 hl hnd h))
end
structure Keep (p:Nat)(s s':St):Prop where
 nx:s.nx<=s'.nx
 fr:s'.fr=s.fr
 get:∀ b,b<s.nx->b≠p->jv s'.h b=jv s.h b
section
variable {p b:Nat} {s s' t:St} {cs:List AV}
theorem Keep.refl:Keep p s s:=⟨μ _,rfl,λ_ _ _=>rfl⟩
theorem Keep.trans (h:Keep p s t)(k:Keep p t s'):Keep p s s':=⟨ψ h.nx k.nx,k.fr.trans h.fr,λb hb hp=>(k.get b (Qau hb h.nx) hp).trans (h.get b hb hp)⟩
theorem Keep.nw (h:Keep p s t)(ds:List AV):Keep p s (nw t ds):=⟨Qct h.nx,h.fr,λb hb hp=>(q8 (by have:=h.nx;omega)).trans (h.get b hb hp)⟩
theorem Keep.wr (h:Keep p s t){c:Nat}(hc:c=p\/s.nx<=c)(o:Nat)(vs:List AV):Keep p s (wr t c o vs):=⟨h.nx,h.fr,λb hb hp=>(zN om).trans (h.get b hb hp)⟩
theorem Keep.kl (h:Keep p s t){c:Nat}(hc:s.nx<=c):Keep p s (kl c t):=⟨h.nx,h.fr,λb hb hp=>(um om).trans (h.get b hb hp)⟩
theorem Keep.kills (h:Keep p s t){ks:Lt}(hc:∀ c∈ks,s.nx<=c):Keep p s (kills ks t):=⟨h.nx,h.fr,λb hb hp=>by
 show jv (ks.foldr _ t.h) b=_;rw[XI,if_neg (λhm=>by have:=hc b hm;omega)];exact h.get b hb hp⟩
theorem Keep.aps {lo hi n z:Nat}{v:AV}{ds:List AV}{u:St}(h:Keep p s t)(V:Lv lo hi u v n ds z)(hlo:s.nx<=lo)(news:List AV):Keep p s (aps v t news):=⟨by rw[jp];exact Qct h.nx,by rw[Yw];exact h.fr,λb hb hp=>(V.get t news b om (by have:=h.nx;omega)).trans (h.get b hb hp)⟩
theorem Keep.cl (h:Keep p s t)(C:Cl s b cs)(hb:b≠p):Cl t b cs:=C.keep h.nx (h.get b C.lt hb)
theorem Keep.lv {lo hi n z:Nat}{v:AV}(h:Keep p s t)(V:Lv lo hi s v n cs z)(hb:p<lo\/hi<=p):Lv lo hi t v n cs z:=V.imp id λ⟨c,h1,h2,h3,h4,h5,h6⟩=>⟨c,h1,h2,h3,h.cl h4 om,h5,h6⟩
theorem Keep.lr {v:AV}{n:Nat}(h:Keep p s t)(V:Lr s v n cs)(hb:∀ b m z x,v=.slice b 0 n m z x->b≠p):Lr t v n cs:=by
 rcases V with e|e|⟨b,m,z,x,e,h1,h2⟩
 .exact .inl e
 .exact .inr (.inl e)
 .exact .inr (.inr ⟨b,m,z,x,e,h1,h.cl h2 (hb b m z x e)⟩)
theorem Keep.back (h:Keep p s t):Keep p s (back s t):=⟨h.nx,rfl,h.get⟩
theorem Keep.bare (h:Keep p s.bare t)(u:St):Keep p s (Go.Ev.back s t):=⟨h.nx,rfl,h.get⟩
end
end Go.Sy
end
noncomputable section
set_option maxRecDepth 100000
namespace Go.Sy
open Go.Ev Go.Proofs
variable {base:Bs}
variable {K:AV->St->Prop}{p:Prop}
structure VarT where
 name:Lt
 kind:Int
 enum:Lt
 lo:Int
 hi:Int
 beg:Bool
 first:Int
def vaE (v:VarT):List AV:=[.str v.name,.int .i64 v.kind,.str v.enum,.int .i64 v.lo,.int .i64 v.hi,.bool v.beg,.int .i64 v.first]
structure SetT where
 var:Int
 to:Ex
def seE (s:SetT):List AV:=.int .i64 s.var :: eE s.to
structure MoveT where
 when:Ex
 acts:List SetT
def moE (m:MoveT):List AV:=eE m.when ++ [.lst m.acts.length (fl seE m.acts)]
structure ModT where
 vars:List VarT
 enums:List EnumT
 moves:List MoveT
def mdE (m:ModT):List AV:=[.lst m.vars.length (fl vaE m.vars),.lst m.enums.length (fl enE m.enums),.lst m.moves.length (fl moE m.moves)]
structure MtT where
 kind:Int
 enum:Lt
 lo:Int
 hi:Int
def mtE (m:MtT):List AV:=[.int .i64 m.kind,.str m.enum,.int .i64 m.lo,.int .i64 m.hi]
theorem Zh (v:VarT):vaE v=[.str v.name,.int .i64 v.kind,.str v.enum,.int .i64 v.lo,.int .i64 v.hi,.bool v.beg,.int .i64 v.first]:=rfl
theorem YA (v:VarT):(vaE v).length=7:=nr (by rw[Zh];rfl)
theorem jbn (v:VarT):lall AV.cell (vaE v)=true:=nr (by rw[Zh];rfl)
theorem Yz (v:VarT):(vaE v).all pc=true:=nr (by rw[Zh];rfl)
theorem jh:type_of% (a4 @YA (λx=>gq (Zh x)) (λx=>gd (Zh x)) (aI @jbn (frE YA))):=(a4 @YA (λx=>gq (Zh x)) (λx=>gd (Zh x)) (aI @jbn (frE YA)))
theorem YB:type_of% (aI @YA (aI @jbn (λx=>gq (Zh x)))):=(aI @YA (aI @jbn (λx=>gq (Zh x))))
theorem w9 (s:SetT):seE s=[.int .i64 s.var,.int .i64 s.to.op,.int .i64 s.to.num,.str s.to.name,.lst s.to.kids.length (fl eE s.to.kids),.int .i64 s.to.line,.int .i64 s.to.col]:=(by unfold seE;rw[qA])
theorem YD (s:SetT):(seE s).length=7:=nr (by rw[w9];rfl)
theorem jbv (s:SetT):lall AV.cell (seE s)=true:=nr (by rw[w9];rfl)
theorem vf (s:SetT):(seE s).all pc=true:=nr (by rw[w9];rfl)
theorem ji:type_of% (a4 @YD (λx=>gq (w9 x)) (λx=>gd (w9 x)) (aI @jbv (frE YD))):=(a4 @YD (λx=>gq (w9 x)) (λx=>gd (w9 x)) (aI @jbv (frE YD)))
theorem YE:type_of% (aI @YD (aI @jbv (λx=>gq (w9 x)))):=(aI @YD (aI @jbv (λx=>gq (w9 x))))
theorem vo (m:MoveT):moE m=[.int .i64 m.when.op,.int .i64 m.when.num,.str m.when.name,.lst m.when.kids.length (fl eE m.when.kids),.int .i64 m.when.line,.int .i64 m.when.col,.lst m.acts.length (fl seE m.acts)]:=(by unfold moE;rw[qA];rfl)
theorem uU (m:MoveT):(moE m).length=7:=nr (by rw[vo];rfl)
theorem jbH (m:MoveT):lall AV.cell (moE m)=true:=nr (by rw[vo];rfl)
theorem wk (m:MoveT):(moE m).all pc=true:=nr (by rw[vo];rfl)
theorem jk:type_of% (a4 @uU (λx=>gq (vo x)) (λx=>gd (vo x)) (aI @jbH (frE uU))):=(a4 @uU (λx=>gq (vo x)) (λx=>gd (vo x)) (aI @jbH (frE uU)))
theorem YJ:type_of% (aI @uU (aI @jbH (λx=>gq (vo x)))):=(aI @uU (aI @jbH (λx=>gq (vo x))))
theorem wm (m:ModT):mdE m=[.lst m.vars.length (fl vaE m.vars),.lst m.enums.length (fl enE m.enums),.lst m.moves.length (fl moE m.moves)]:=rfl
theorem kU (m:ModT):(mdE m).length=3:=nr (by rw[wm];rfl)
theorem jbJ (m:ModT):lall AV.cell (mdE m)=true:=nr (by rw[wm];rfl)
theorem Ju (m:ModT):(mdE m).all pc=true:=nr (by rw[wm];rfl)
theorem jnB (m:ModT):(mdE m).all eqs=true:=nr (by rw[wm];rfl)
theorem jl:type_of% (a4 @kU (λx=>gq (wm x)) (λx=>gd (wm x)) (aI @jbJ (frE kU))):=(a4 @kU (λx=>gq (wm x)) (λx=>gd (wm x)) (aI @jbJ (frE kU)))
theorem YK:type_of% (aI @kU (aI @jbJ (λx=>gq (wm x)))):=(aI @kU (aI @jbJ (λx=>gq (wm x))))
theorem wi (m:MtT):mtE m=[.int .i64 m.kind,.str m.enum,.int .i64 m.lo,.int .i64 m.hi]:=rfl
theorem YH (m:MtT):(mtE m).length=4:=nr (by rw[wi];rfl)
theorem jny (m:MtT)(k:Nat):(mtE m).getD k .bad=([.int .i64 m.kind,.str m.enum,.int .i64 m.lo,.int .i64 m.hi]:List AV).getD k .bad:=nr (by rw[wi])
theorem jbG (m:MtT):lall AV.cell (mtE m)=true:=nr (by rw[wi];rfl)
theorem wj (m:MtT):(mtE m).all pc=true:=nr (by rw[wi];rfl)
theorem jnz {st:St}{xs:List MtT}{i:Nat}(h:i<xs.length):jq (Q4 4 (.lptr (fl mtE xs) (i * 4)) st) K=K (.agg (mtE xs[i])) st:=gy YH h
theorem jj:type_of% (a4 @YH (λx=>gq (wi x)) (λx=>gd (wi x)) (aI @jbG (frE YH))):=(a4 @YH (λx=>gq (wi x)) (λx=>gd (wi x)) (aI @jbG (frE YH)))
theorem YI:type_of% (aI @YH (aI @jbG (λx=>gq (wi x)))):=(aI @YH (aI @jbG (λx=>gq (wi x))))
theorem dzG (h:p:=by first|assumption|decide|omega|(simp only[qV,zu,zo,zt,yf,zq,zn,YB,YE,YJ,YK,YI,rzN,ξ,φ];first|done|omega)|(apply Qu<;>first|omega|((simp(disch:=first|assumption|omega|(simp only[qV,zu,zo,zt,yf,zq,zn,YB,YE,YJ,YK,YI,rzN,ξ,φ];first|done|omega)) only[rzL,ξ,φ,Qaj,δ,qV,zu,zo,zt,yf,zq,zn,YB,YE,YJ,YK,YI ])<;>first|done|omega))|(simp(disch:=first|assumption|omega|(simp only[qV,zu,zo,zt,yf,zq,zn,YB,YE,YJ,YK,YI,rzN,ξ,φ];first|done|omega)) only[qV,zu,zo,zt,yf,zq,zn,YB,YE,YJ,YK,YI,rzG,θ,κ,ε,QaL,ξ,φ,Qag,Qam];first|done|omega|decide)):p:=h
theorem cyG (h:p:=by apply Qu<;>first|omega|((simp(disch:=first|assumption|omega|(simp only[qV,zu,zo,zt,yf,zq,zn,YB,YE,YJ,YK,YI,rzN,ξ,φ];first|done|omega)) only[rzL,ξ,φ,Qaj,δ,qV,zu,zo,zt,yf,zq,zn,YB,YE,YJ,YK,YI])<;>first|done|rfl|omega|(simp;done)|(simp;omega))):p:=h
theorem jW (h:p:=by first|assumption|decide|omega|(simp only[qV,zu,zo,zt,yf,zq,zn,YB,YE,YJ,YK,YI,zz,rzN,ξ,φ];first|done|omega)|(apply Qu<;>first|omega|((simp(disch:=first|assumption|omega|(simp only[qV,zu,zo,zt,yf,zq,zn,YB,YE,YJ,YK,YI,zz,rzN,ξ,φ];first|done|omega)) only[rzL,ξ,φ,Qaj,δ,qV,zu,zo,zt,yf,zq,zn,YB,YE,YJ,YK,YI,zz ])<;>first|done|omega))|(simp(disch:=first|assumption|omega|(simp only[qV,zu,zo,zt,yf,zq,zn,YB,YE,YJ,YK,YI,zz,rzN,ξ,φ];first|done|omega)) only[qV,zu,zo,zt,yf,zq,zn,YB,YE,YJ,YK,YI,zz,rzG,θ,κ,ε,QaL,ξ,φ,Qag,Qam];first|done|omega|decide)):p:=h
def kf (c l k:Int):AV:=.iface 45 (.agg [.int .i64 c,.int .i64 l,.int .i64 k])
theorem r8:type_of%(a8 @jd @jf @je @jc @jh @ji @jk (aI @jl (aI @jj @rzZ))):=a8 @jd @jf @je @jc @jh @ji @jk (aI @jl (aI @jj @rzZ))
theorem Jh (hb:NB base)(c l k:Int):Ret base 94 [.int .i64 c,.int .i64 l,.int .i64 k] (.pn (kf c l k)):=by
 refine hb.ret ?_ rfl rfl;refine jE x98 haa (hb.pur 94 1 dc) ?_;simp only[y98,jr,ζ,η,θ,κ];rw[(by unfold z98;simp only[qq];rfl:z98=_)];repeat' first|apply jb<;>intro _|simp(disch:=try exact dzG) only[r8,δ,ε]
 exact FzD.iface (FzD.agg (.pc rfl))
theorem joc (hb:NB base)(v:VarT)(s:Lt):Tot base 126 [.agg (vaE v),.lptr [.str s] 0] (.bool (decide (v.name=s))):=by
 refine hb.tot ?_ (by first|rfl|simp[pa,pc,ya,Xu,Qh,JS,Yz,vf,wk,Ju,wj]) rfl;refine jE juF haa (hb.pur 126 1 dc) ?_;simp only[jqf,jr,ζ,η,θ,κ];rw[(by unfold jkU;simp only[qq];rfl:jkU=_)];repeat' first|apply jb<;>intro _|simp(disch:=try exact dzG) only[JD,r8,δ,ε]
 exact G0.v rfl rfl
theorem jmt (hb:NB base)(e:EnumT)(d:DeclT):Tot base 93 [.agg (enE e),.lptr (qy d) 0] (.bool (decide (e.name=d.ty))):=by
 refine hb.tot ?_ (by first|rfl|simp[pa,pc,ya,Xu,Qh,JS,Yz,vf,wk,Ju,wj]) rfl;refine jE ju4 haa (hb.pur 93 1 dc) ?_;simp only[jqE,jr,ζ,η,θ,κ];rw[(by unfold jlj;simp only[qq];rfl:jlj=_)];repeat' first|apply jb<;>intro _|simp(disch:=try exact dzG) only[JD,r8,δ,ε]
 exact G0.v rfl rfl
theorem jsJ (hb:NB base)(b a:AsT):Tot base 99 [.agg (asE b),.lptr (asE a) 0] (.bool (decide (b.name=a.name))):=by
 refine hb.tot ?_ (by first|rfl|simp[pa,pc,ya,Xu,Qh,JS,Yz,vf,wk,Ju,wj]) rfl;refine jE juZ haa (hb.pur 99 1 dc) ?_;simp only[jqz,jr,ζ,η,θ,κ];rw[(by unfold jle;simp only[qq];rfl:jle=_)];repeat' first|apply jb<;>intro _|simp(disch:=try exact dzG) only[JD,r8,δ,ε]
 exact G0.v rfl rfl
theorem jjz (hb:NB base)(xs:List VarT)(hl:xs.length<=BIG)(nm:Lt):PL γ base 125 [.lst xs.length (fl vaE xs),.fn 126 [.lptr [.str nm] 0]] (.ok (.int .i64 (fi (λx=>decide (x.name=nm)) xs))):=by
 refine zL juG haa (hb.pur 125 5 dc) rfl ?_;simp only[jqg,jr,ζ,η,θ,κ];rw[(by unfold jkV;simp only[qq];rfl:jkV=_)];unfold BIG at hl;repeat' first|apply jb<;>intro _|simp(disch:=try exact dzG) only[r8,δ,ε]
 refine jV xs.length (λk L s=>(∀ j (hj:j<xs.length),j<k->(λx=>decide (x.name=nm)) xs[j]=false)/\Has L 0 (.lst xs.length (fl vaE xs))/\Has L 1 (.fn 126 [.lptr [.str nm] 0])) ?_ (λk L s hk hI hi hn=>?_) (λL s hI=>?_)
 .refine⟨λj _ hj=>absurd hj (Qas _),?_⟩;simp(disch:=decide) only[h12]
 .obtain⟨h0,i0,i1⟩:=hI;have e:=joc hb xs[k] nm;repeat' first|apply jb<;>intro _|simp(disch:=try exact dzG) only[ja i0,ja i1,ja hi,ja hn,e,r8,δ,ε]
  .rename_i h;exact G0.v (congrArg _ (u7 hk (λj hj=>h0 j om hj) (by simpa using h)).symm) rfl
  .rename_i h;refine⟨⟨λj hj hjk=>?_,?_⟩,?_⟩
   .rcases Qat j k with h2|h2
    .have:=h0 j hj h2;simpa using this
    .have:j=k:=om
     subst this;simpa using h
   .simp(disch:=decide) only[h12,i0,i1]
   .simp(disch:=decide) only[h12,hi,hn]
 .obtain⟨h0,i0,i1⟩:=hI;repeat' first|apply jb<;>intro _|simp(disch:=try exact dzG) only[r8,δ,ε]
  exact G0.v (congrArg _ (u6 λj hj=>h0 j hj hj).symm) rfl
theorem jg1 (hb:NB base)(xs:List EnumT)(hl:xs.length<=BIG)(d:DeclT):PL γ base 92 [.lst xs.length (fl enE xs),.fn 93 [.lptr (qy d) 0]] (.ok (.int .i64 (fi (λx=>decide (x.name=d.ty)) xs))):=by
 refine zL ju5 haa (hb.pur 92 5 dc) rfl ?_;simp only[jqF,jr,ζ,η,θ,κ];rw[(by unfold jlk;simp only[qq];rfl:jlk=_)];unfold BIG at hl;repeat' first|apply jb<;>intro _|simp(disch:=try exact dzG) only[r8,δ,ε]
 refine jV xs.length (λk L s=>(∀ j (hj:j<xs.length),j<k->(λx=>decide (x.name=d.ty)) xs[j]=false)/\Has L 0 (.lst xs.length (fl enE xs))/\Has L 1 (.fn 93 [.lptr (qy d) 0])) ?_ (λk L s hk hI hi hn=>?_) (λL s hI=>?_)
 .refine⟨λj _ hj=>absurd hj (Qas _),?_⟩;simp(disch:=decide) only[h12]
 .obtain⟨h0,i0,i1⟩:=hI;have e:=jmt hb xs[k] d;repeat' first|apply jb<;>intro _|simp(disch:=try exact dzG) only[ja i0,ja i1,ja hi,ja hn,e,r8,δ,ε]
  .rename_i h;exact G0.v (congrArg _ (u7 hk (λj hj=>h0 j om hj) (by simpa using h)).symm) rfl
  .rename_i h;refine⟨⟨λj hj hjk=>?_,?_⟩,?_⟩
   .rcases Qat j k with h2|h2
    .have:=h0 j hj h2;simpa using this
    .have:j=k:=om
     subst this;simpa using h
   .simp(disch:=decide) only[h12,i0,i1]
   .simp(disch:=decide) only[h12,hi,hn]
 .obtain⟨h0,i0,i1⟩:=hI;repeat' first|apply jb<;>intro _|simp(disch:=try exact dzG) only[r8,δ,ε]
  exact G0.v (congrArg _ (u6 λj hj=>h0 j hj hj).symm) rfl
theorem jmm (hb:NB base)(xs:List AsT)(hl:xs.length<=BIG)(a:AsT):PL γ base 127 [.lst xs.length (fl asE xs),.fn 99 [.lptr (asE a) 0]] (.ok (.int .i64 (fi (λx=>decide (x.name=a.name)) xs))):=by
 refine zL juE haa (hb.pur 127 5 dc) rfl ?_;simp only[jqe,jr,ζ,η,θ,κ];rw[(by unfold jgc;simp only[qq];rfl:jgc=_)];unfold BIG at hl;repeat' first|apply jb<;>intro _|simp(disch:=try exact dzG) only[r8,δ,ε]
 refine jV xs.length (λk L s=>(∀ j (hj:j<xs.length),j<k->(λx=>decide (x.name=a.name)) xs[j]=false)/\Has L 0 (.lst xs.length (fl asE xs))/\Has L 1 (.fn 99 [.lptr (asE a) 0])) ?_ (λk L s hk hI hi hn=>?_) (λL s hI=>?_)
 .refine⟨λj _ hj=>absurd hj (Qas _),?_⟩;simp(disch:=decide) only[h12]
 .obtain⟨h0,i0,i1⟩:=hI;have e:=jsJ hb xs[k] a;repeat' first|apply jb<;>intro _|simp(disch:=try exact dzG) only[ja i0,ja i1,ja hi,ja hn,e,r8,δ,ε]
  .rename_i h;exact G0.v (congrArg _ (u7 hk (λj hj=>h0 j om hj) (by simpa using h)).symm) rfl
  .rename_i h;refine⟨⟨λj hj hjk=>?_,?_⟩,?_⟩
   .rcases Qat j k with h2|h2
    .have:=h0 j hj h2;simpa using this
    .have:j=k:=om
     subst this;simpa using h
   .simp(disch:=decide) only[h12,i0,i1]
   .simp(disch:=decide) only[h12,hi,hn]
 .obtain⟨h0,i0,i1⟩:=hI;repeat' first|apply jb<;>intro _|simp(disch:=try exact dzG) only[r8,δ,ε]
  exact G0.v (congrArg _ (u6 λj hj=>h0 j hj hj).symm) rfl
theorem jo1 (hb:NB base)(xs:List AsT)(hl:xs.length<=BIG)(a:AsT):PL γ base 98 [.lst xs.length (fl asE xs),.fn 99 [.lptr (asE a) 0]] (.ok (.bool (decide (0<=fi (λx=>decide (x.name=a.name)) xs)))):=by
 refine zL ju0 haa (hb.pur 98 5 dc) rfl ?_;simp only[jqA,jr,ζ,η,θ,κ];rw[(by unfold jlf;simp only[qq];rfl:jlf=_)];have F:∀ (st:St) (K Kp:AV->St->Prop),XB γ base 127 [.lst xs.length (fl asE xs),.fn 99 [.lptr (asE a) 0]] st K Kp=_:=λst K Kp=>(jmm hb xs hl a).xb (JZ rfl (qK rfl rfl)) (λst=>hb.no 127 dc _ _) K Kp;repeat' first|apply jb<;>intro _|simp(disch:=try exact dzG) only[F,r8,δ,ε]
 exact G0.v rfl rfl
def q9 (op:Int):Int×Int:=if op=5\/op=14\/op=15\/op=16 then(1,1) else if op=19\/op=20\/op=21\/op=22 then(1,2) else if op=17\/op=18 then(0,2) else(2,2)
def Zk (op:Int):Bool:=(decide (7<=op) && decide (op<=13)) ||(decide (23<=op) && decide (op<=26))
theorem G0.tupi {s:St}{a b:Int}{u:AV}(h:u=.tup [.int .i64 a,.int .i64 b]):G0 u (.tup [.int .i64 a,.int .i64 b]) s:=by
 subst h;exact FzD.tup (.cons (.pc rfl) (.cons (.pc rfl) .nil))
theorem jn9 (hb:NB base)(op:Int):Tot base 132 [.int .i64 op] (.tup [.int .i64 (q9 op).1,.int .i64 (q9 op).2]):=by
 refine hb.tot ?_ rfl rfl;refine jE juK haa (hb.pur 132 1 dc) ?_;simp only[jqk,jr,ζ,η,θ,κ];rw[(by unfold jkZ;simp only[qq];rfl:jkZ=_)];repeat' first|apply jb<;>intro _|simp(disch:=try exact dzG) only[r8,δ,ε]
 all_goals(refine G0.tupi ?_;unfold q9;simp_all)
theorem jq5 (hb:NB base)(op:Int):Tot base 133 [.int .i64 op] (.bool (Zk op)):=by
 refine hb.tot ?_ rfl rfl;refine jE juJ haa (hb.pur 133 1 dc) ?_;simp only[jqj,jr,ζ,η,θ,κ];rw[(by unfold jkY;simp only[qq];rfl:jkY=_)];repeat' first|apply jb<;>intro _|simp(disch:=try exact dzG) only[r8,δ,ε]
 all_goals(refine G0.v (congrArg AV.bool ?_) rfl;rw[QaA];simp only[Zk,QaC,χ,decide_eq_true_eq,QaT,QbH,QaQ,decide_eq_false_iff_not,true_iff,false_iff,iff_true,iff_false,not_true_eq_false,not_false_eq_true,ne_eq,eq_self]<;>omega)
def UC:Lu->Int
 |[]=>0
 |x :: xs=>xs.foldl min x
def UD:Lu->Int
 |[]=>0
 |x :: xs=>xs.foldl max x
theorem jrH {l:Lu}{k:Nat}(h0:0<k)(h:k<l.length):UC (l.take (k+1))=min (UC (l.take k)) l[k]:=by
 match l,k,h0,h with
 |x :: xs,k+1,_,h=>
  have h':k<xs.length:=by simpa using h
  show(xs.take (k+1)).foldl min x=min ((xs.take k).foldl min x) xs[k];rw[yt h',Qba];rfl
theorem jrJ {l:Lu}{k:Nat}(h0:0<k)(h:k<l.length):UD (l.take (k+1))=max (UD (l.take k)) l[k]:=by
 match l,k,h0,h with
 |x :: xs,k+1,_,h=>
  have h':k<xs.length:=by simpa using h
  show(xs.take (k+1)).foldl max x=max ((xs.take k).foldl max x) xs[k];rw[yt h',Qba];rfl
theorem Qx {S:Lu}{k:Nat}{st:St}(h:k<S.length):jq (Xl (.lptr (S.map (AV.int .i64)) k) st) K=K (.int .i64 S[k]) st:=by
 rw[JD (by simpa using h)]
 congr 1
 simp[Qac,h]
theorem jtW (hb:NB base)(l:Lu)(h0:0<l.length)(hl:l.length<=1000000):PX γ base 167 [.lst l.length (l.map (AV.int .i64))] (.ok (.int .i64 (UC l))):=by
 have z:¬ ((l.length:Int)<1):=om
 have e1:UC (l.take 1)=l[0]:=by match l,h0 with|x :: xs,_=>rfl
 refine jE jup haa (hb.pur 167 1 dc) ?_;simp only[jpZ,jr,ζ,η,θ,κ];rw[(by unfold jkF;simp only[qq];rfl:jkF=_)];repeat' first|apply jb<;>intro _|simp(disch:=try exact dzG) only[z,Qx,r8,δ,ε]
 refine yA (λmm L s=>∃ k:Nat,1<=k/\k<=l.length/\mm=l.length - k/\Has L 0 (.lst l.length (l.map (AV.int .i64)))/\Has L 3 (.int .i64 (UC (l.take k)))/\Has L 4 (.int .i64 (k:Int))) ?_ (l.length - 1) ?_
 .rintro m L s ⟨k,hk1,hk,rfl,i0,i3,i4⟩;by_cases hlt:k<l.length
  .have hlt':(k:Int)<(l.length:Int):=om
   have es:=jrH hk1 hlt;have e2:(((k+1:Nat):Int))=(k:Int)+1:=om
   repeat' first|apply jb<;>intro _|simp(disch:=try exact dzG) only[ja i0,ja i3,ja i4,hlt',Qx,r8,δ,ε]
   refine⟨l.length - (k+1),om,k+1,om,om,rfl,?_⟩;rw[es];simp(disch:=decide) only[h12,i0,e2]
  .have hlt':¬ (k:Int)<(l.length:Int):=om
   have hk':k=l.length:=om
   subst hk';rw[Qab] at i3;repeat' first|apply jb<;>intro _|simp(disch:=try exact dzG) only[ja i0,ja i3,ja i4,hlt',r8,δ,ε]
   exact G0.v rfl rfl
 .refine⟨1,om,om,rfl,?_⟩;rw[e1];simp(disch:=decide) only[h12]
theorem jtX (hb:NB base)(l:Lu)(h0:0<l.length)(hl:l.length<=1000000):PX γ base 168 [.lst l.length (l.map (AV.int .i64))] (.ok (.int .i64 (UD l))):=by
 have z:¬ ((l.length:Int)<1):=om
 have e1:UD (l.take 1)=l[0]:=by match l,h0 with|x :: xs,_=>rfl
 refine jE juo haa (hb.pur 168 1 dc) ?_;simp only[jpY,jr,ζ,η,θ,κ];rw[(by unfold jkE;simp only[qq];rfl:jkE=_)];repeat' first|apply jb<;>intro _|simp(disch:=try exact dzG) only[z,Qx,r8,δ,ε]
 refine yA (λmm L s=>∃ k:Nat,1<=k/\k<=l.length/\mm=l.length - k/\Has L 0 (.lst l.length (l.map (AV.int .i64)))/\Has L 3 (.int .i64 (UD (l.take k)))/\Has L 4 (.int .i64 (k:Int))) ?_ (l.length - 1) ?_
 .rintro m L s ⟨k,hk1,hk,rfl,i0,i3,i4⟩;by_cases hlt:k<l.length
  .have hlt':(k:Int)<(l.length:Int):=om
   have es:=jrJ hk1 hlt;have e2:(((k+1:Nat):Int))=(k:Int)+1:=om
   repeat' first|apply jb<;>intro _|simp(disch:=try exact dzG) only[ja i0,ja i3,ja i4,hlt',Qx,r8,δ,ε]
   refine⟨l.length - (k+1),om,k+1,om,om,rfl,?_⟩;rw[es];simp(disch:=decide) only[h12,i0,e2]
  .have hlt':¬ (k:Int)<(l.length:Int):=om
   have hk':k=l.length:=om
   subst hk';rw[Qab] at i3;repeat' first|apply jb<;>intro _|simp(disch:=try exact dzG) only[ja i0,ja i3,ja i4,hlt',r8,δ,ε]
   exact G0.v rfl rfl
 .refine⟨1,om,om,rfl,?_⟩;rw[e1];simp(disch:=decide) only[h12]
theorem zM:∀ l:Lu,(l.map (AV.int .i64)).all pc=true
 |[]=>rfl
 |x :: xs=>by rw[ζ,QaD,zM xs];rfl
theorem jsR (hb:NB base)(l:Lu)(h0:0<l.length)(hl:l.length<=1000000):PX γ base 153 [.lst l.length (l.map (AV.int .i64))] (.ok (.tup [.int .i64 (UC l),.int .i64 (UD l)])):=by
 have A:=hb.tot (jtW hb l h0 hl) rfl rfl;have B:=hb.tot (jtX hb l h0 hl) rfl rfl;refine jE jut haa (hb.pur 153 1 dc) ?_;simp only[jp3,jr,ζ,η,θ,κ];rw[(by unfold jkJ;simp only[qq];rfl:jkJ=_)];repeat' first|apply jb<;>intro _|simp(disch:=try exact dzG) only[A,B,r8,δ,ε]
 exact G0.tupi rfl
theorem jiq (hb:NB base)(l:Lu){cs:List AV}{n:Nat}(hc:l.map (AV.int .i64)=cs)(hn:l.length=n)(h0:0<n)(hl:n<=1000000)(st:St)(b m:Nat)(x:Bool)(D:Cl st b cs)(K Kp:AV->St->Prop) :
  XB γ base 153 [.slice b 0 n m 1 x] st K Kp=K (.tup [.int .i64 (UC l),.int .i64 (UD l)]) (kl b st):=by
 subst hc hn;have F:Fza st [.slice b 0 l.length m 1 x] [.lst l.length (l.map (AV.int .i64))] [b]:=Fza.sl D hac (zM l) .nil;exact(jsR hb l h0 hl).xf F (λst=>hb.no 153 dc _ _) K Kp
def Ja (op:Int)(a b:MtT):Int×Int:=
 if op=5 then(min (-a.lo) (-a.hi),max (-a.lo) (-a.hi))
 else if op=15 then(min (a.lo+b.lo) (a.hi+b.hi),max (a.lo+b.lo) (a.hi+b.hi))
 else if op=16 then(min (a.lo - b.hi) (a.hi - b.lo),max (a.lo - b.hi) (a.hi - b.lo))
 else(min (min (min (a.lo * b.lo) (a.lo * b.hi)) (a.hi * b.lo)) (a.hi * b.hi),max (max (max (a.lo * b.lo) (a.lo * b.hi)) (a.hi * b.lo)) (a.hi * b.hi))
def wZ (m:MtT):Prop:=-100000000<=m.lo/\m.lo<=100000000/\-100000000<=m.hi/\m.hi<=100000000
theorem Ge {a b:Int}(h1 : -100000000<=a)(h2:a<=100000000)(h3 : -100000000<=b)(h4:b<=100000000) : -10000000000000000<=a * b/\a * b<=10000000000000000:=by
 have e:a.natAbs * b.natAbs<=100000000 * 100000000:=Nat.mul_le_mul om om;have e2:(a * b).natAbs=a.natAbs * b.natAbs:=Int.natAbs_mul a b;omega
theorem jkc (hb:NB base)(op:Int)(ms:List MtT)(h0:0<ms.length)(hl:ms.length<=2)(he:∀ m∈ms,wZ m)(a b:MtT)(ha:ms[0]=a)(hb2:ms[ms.length - 1]=b) :
  PX γ base 134 [.int .i64 op,.lst ms.length (fl mtE ms)] (.ok (.tup [.int .i64 (Ja op a b).1,.int .i64 (Ja op a b).2])):=by
 obtain⟨a1,a2,a3,a4⟩:=ha▸he _ (ω h0);obtain⟨b1,b2,b3,b4⟩:=hb2▸he _ (ω (show ms.length - 1<ms.length by omega));have m1:=Ge a1 a2 b1 b2;have m2:=Ge a1 a2 b3 b4;have m3:=Ge a3 a4 b1 b2;have m4:=Ge a3 a4 b3 b4;have ld0:∀ (st:St) (K:AV->St->Prop),jq (Q4 4 (.lptr (fl mtE ms) 0) st) K=K (.agg (mtE a)) st:=λst K=>by
  have:=jnz (st:=st) (K:=K) h0;rw[QaP,ha] at this;exact this
 have ld1:∀ (st:St) (K:AV->St->Prop),jq (Q4 4 (.lptr (fl mtE ms) ((ms.length - 1) * 4)) st) K=K (.agg (mtE b)) st:=λst K=>by
  have:=jnz (st:=st) (K:=K) (show ms.length - 1<ms.length by omega);rw[hb2] at this;exact this
 have el:((ms.length:Int) - 1).toNat=ms.length - 1:=om
 have S2:=λ(p q:Int)=>jiq hb [p,q] (cs:=[.int .i64 p,.int .i64 q]) (n:=2) rfl rfl dc dc;have S4:=λ(p q r t:Int)=>jiq hb [p,q,r,t] (cs:=[.int .i64 p,.int .i64 q,.int .i64 r,.int .i64 t]) (n:=4) rfl rfl dc dc;have Sa:=S2 (-a.lo) (-a.hi);have Sb:=S2 (a.lo+b.lo) (a.hi+b.hi);have Sc:=S2 (a.lo - b.hi) (a.hi - b.lo);have Sd:=S4 (a.lo * b.lo) (a.lo * b.hi) (a.hi * b.lo) (a.hi * b.hi);clear S2 S4;clear he;refine jE juI haa (hb.pur 134 1 dc) ?_;simp only[jqi,jr,ζ,η,θ,κ];rw[(by unfold jkX;simp only[qq];rfl:jkX=_)];repeat' first|apply jb<;>intro _|simp(disch:=try exact dzG) only[el,ld0,ld1,Sa,Sb,Sc,Sd,r8,δ,ε]
 all_goals(refine G0.tupi ?_;unfold Ja UC UD;simp_all)
inductive KR (α:Type) where
 |ok (x:α)
 |er (c l k:Int)
def qc (vars:List VarT)(s:Lt):Int:=fi (λx=>decide (x.name=s)) vars
theorem jjA (hb:NB base)(vars:List VarT)(hl:vars.length<=BIG)(s:Lt)(st:St)(b:Nat)(C:Cl st b [.str s])(K Kp:AV->St->Prop) :
  XB γ base 125 [.lst vars.length (fl vaE vars),.fn 126 [.ptr b 0]] st K Kp=K (.int .i64 (qc vars s)) st:=by
 refine(jjz hb vars hl s).xb (JZ rfl (qK ?_ rfl)) (λst=>hb.no 125 dc _ _) K Kp;show(QD st.h [.ptr b 0]).map (AV.fn 126)=_;have:wo st.h (.ptr b 0)=some (.lptr [.str s] 0):=uj C (QG (VM 8 rfl) rfl HJ);simp only[QD,this];rfl
theorem gv (hb:NB base)(vars:List VarT)(hl:vars.length<=BIG)(s:Lt)(r:List AV):PL γ base 97 [.lptr (.lst vars.length (fl vaE vars) :: r) 0,.str s] (.ok (.int .i64 (qc vars s))):=by
 refine zL ju1 haa (hb.pur 97 5 dc) rfl ?_;simp only[jqB,jr,ζ,η,θ,κ];rw[(by unfold jlg;simp only[qq];rfl:jlg=_)];have F:=jjA hb vars hl s;repeat' first|apply jb<;>intro _|simp(disch:=try exact dzG) only[F,JD,r8,δ,ε]
 exact G0.v rfl rfl
def zx:List EnumT->Lt->Lt×Int
 |[],_=>([],-1)
 |e :: es,nm=>if 0<=fi (λv=>decide (nm=v)) e.vals then(e.name,fi (λv=>decide (nm=v)) e.vals) else zx es nm
theorem jcv:∀ {es:List EnumT} {nm:Lt} {k:Nat} (h:k<es.length),(∀ j (hj:j<es.length),j<k->fi (λv=>decide (nm=v)) es[j].vals<0)->0<=fi (λv=>decide (nm=v)) es[k].vals->zx es nm=(es[k].name,fi (λv=>decide (nm=v)) es[k].vals)
 |e :: es,nm,0,h,_,h2=>by simp only[QbG] at h2 ⊢;rw[zx,if_pos h2]
 |e :: es,nm,k+1,h,h1,h2=>by
  have h0:=h1 0 hac om;simp only[QbG] at h0;rw[zx,if_neg om];simp only[QbX] at h2 ⊢;exact jcv (by simpa using h) (λj hj hjk=>by have:=h1 (j+1) (by simpa using hj) om;simpa only[QbX] using this) h2
theorem jcu:∀ {es:List EnumT} {nm:Lt},(∀ j (hj:j<es.length),fi (λv=>decide (nm=v)) es[j].vals<0)->zx es nm=([],-1)
 |[],nm,_=>rfl
 |e :: es,nm,h=>by
  have h0:=h 0 hac;simp only[QbG] at h0;rw[zx,if_neg om];exact jcu λj hj=>by have:=h (j+1) (by simpa using hj);simpa only[QbX] using this
theorem jen {s:St}{a:Lt}{b:Int}{u:AV}(h:u=.tup [.str a,.int .i64 b]):G0 u (.tup [.str a,.int .i64 b]) s:=by
 subst h;exact FzD.tup (.cons (.pc rfl) (.cons (.pc rfl) .nil))
theorem joe (hb:NB base)(enums:List EnumT)(hl:enums.length<=BIG)(hv:∀ e∈enums,e.vals.length<=1000000)(nm:Lt)(v:AV)(r:List AV):PL γ base 152 [.lptr (v :: .lst enums.length (fl enE enums) :: r) 0,.str nm] (.ok (.tup [.str (zx enums nm).1,.int .i64 (zx enums nm).2])):=by
 refine zL juu haa (hb.pur 152 5 dc) rfl ?_;simp only[jp4,jr,ζ,η,θ,κ];rw[(by unfold jkK;simp only[qq];rfl:jkK=_)];unfold BIG at hl;repeat' first|apply jb<;>intro _|simp(disch:=try exact dzG) only[JD,r8,δ,ε]
 refine jV enums.length (λk L s=>(∀ j (hj:j<enums.length),j<k->fi (λv=>decide (nm=v)) enums[j].vals<0)/\Has L 1 (.str nm)/\Has L 13 (.lst enums.length (fl enE enums))) ?_ (λk L s hk hI hi hn=>?_) (λL s hI=>?_)
 .refine⟨λj _ hj=>absurd hj (Qas _),?_⟩;simp(disch:=decide) only[h12]
 .obtain⟨h0,i1,i13⟩:=hI;have X:=jn2 hb enums[k].vals (hv _ (ω hk)) nm;repeat' first|apply jb<;>intro _|simp(disch:=try exact dzG) only[ja i1,ja i13,ja hi,ja hn,X,r8,δ,ε]
  .rename_i h;refine jen ?_;rw[jcv hk h0 om]
  .rename_i h;refine⟨⟨λj hj hjk=>?_,?_⟩,?_⟩
   .rcases Qat j k with h2|h2
    .exact h0 j hj h2
    .have:j=k:=om
     subst this;omega
   .simp(disch:=decide) only[h12,i1,i13]
   .simp(disch:=decide) only[h12,hi,hn]
 .obtain⟨h0,i1,i13⟩:=hI;repeat' first|apply jb<;>intro _|simp(disch:=try exact dzG) only[r8,δ,ε]
  refine jen ?_;rw[jcu λj hj=>h0 j hj hj];rfl
def mt0:MtT:=⟨0,[],0,0⟩
def zi (vars:List VarT)(enums:List EnumT)(x:Ex):KR (Ex×MtT):=
 if 0<=qc vars x.name then
  (let v:=vars.getD (qc vars x.name).toNat ⟨[],0,[],0,0,false,0⟩
   .ok (.mk 4 (qc vars x.name) [] [] x.line x.col,⟨v.kind,v.enum,v.lo,v.hi⟩))
 else if(zx enums x.name).2<0 then .er 161 x.line x.col
 else .ok (.mk 1 (zx enums x.name).2 [] [] x.line x.col,⟨3,(zx enums x.name).1,(zx enums x.name).2,(zx enums x.name).2⟩)
def kO (r:KR (Ex×MtT)):Oc:=match r with
 |.ok x=>.ok (.tup [.agg (eE x.1),.agg (mtE x.2)])
 |.er c l k=>.pn (kf c l k)
theorem ZA {α:Type}{q:α->Bool}:∀ {xs:List α},fi q xs<(xs.length:Int)
 |[]=>by simp[fi]
 |x :: xs=>by
  have:=ZA (q:=q) (xs:=xs);have hl:((x :: xs).length:Int)=(xs.length:Int)+1:=by simp
  rw[hl];unfold fi;split
  .omega
  .split<;>omega
theorem joN (hb:NB base)(vars:List VarT)(enums:List EnumT)(hl:vars.length<=BIG)(hl2:enums.length<=BIG)(hv:∀ e∈enums,e.vals.length<=1000000)(x:Ex)(r:List AV) :
  PL γ base 131 [.lptr (.lst vars.length (fl vaE vars) :: .lst enums.length (fl enE enums) :: r) 0,.agg (eE x)] (kO (zi vars enums x)):=by
 have V:=λst K Kp=>(gv hb vars hl x.name (.lst enums.length (fl enE enums) :: r)).pa haa (λst=>hb.no 97 dc _ _) st K Kp;have W:=λst K Kp=>(joe hb enums hl2 hv x.name (.lst vars.length (fl vaE vars)) r).pa haa (λst=>hb.no 152 dc _ _) st K Kp;have VT:=qc vars x.name;by_cases h1:0<=qc vars x.name
 .have hlt:qc vars x.name<(vars.length:Int):=ZA;have hlt2:(qc vars x.name).toNat<vars.length:=om
  obtain⟨v,hv⟩:∃ v,vars[(qc vars x.name).toNat]=v:=⟨_,rfl⟩;have hn:zi vars enums x=.ok (.mk 4 (qc vars x.name) [] [] x.line x.col,⟨v.kind,v.enum,v.lo,v.hi⟩):=by
   unfold zi;rw[if_pos h1];simp only[Qak,Qaf hlt2,QaN,hv]
  rw[hn];refine zL jlr haa (hb.pur 131 5 dc) haa ?_;simp only[jgd,jr,ζ,η,θ,κ];rw[(by unfold Ky;simp only[qq];rfl:Ky=_)]
  (have zz:=aI @yX @yW;repeat' first|apply jb<;>intro _|simp(disch:=try exact jW) only[V,h1,JD,hv,sm3,sm9,sm2,yX,yW,r8,δ,ε])
  exact FzD.tup (.cons Y1 (.cons (.agg (.pc rfl)) .nil))
 .have h1':qc vars x.name<0:=om
  by_cases h2:(zx enums x.name).2<0
  .have hn:zi vars enums x=.er 161 x.line x.col:=by unfold zi;rw[if_neg h1,if_pos h2]
   rw[hn];refine zL jlr haa (hb.pur 131 5 dc) haa ?_;simp only[jgd,jr,ζ,η,θ,κ];rw[(by unfold Ky;simp only[qq];rfl:Ky=_)];repeat' first|apply jb<;>intro _|simp(disch:=try exact dzG) only[V,W,h1,h2,Jh hb,JD,kO,r8,δ,ε]
   exact FzD.iface (FzD.agg (.pc rfl))
  .have hn:zi vars enums x=.ok (.mk 1 (zx enums x.name).2 [] [] x.line x.col,⟨3,(zx enums x.name).1,(zx enums x.name).2,(zx enums x.name).2⟩):=by unfold zi;rw[if_neg h1,if_neg h2]
   rw[hn];refine zL jlr haa (hb.pur 131 5 dc) haa ?_;simp only[jgd,jr,ζ,η,θ,κ];rw[(by unfold Ky;simp only[qq];rfl:Ky=_)];repeat' first|apply jb<;>intro _|simp(disch:=try exact dzG) only[V,W,h1,h2,JD,r8,δ,ε]
   exact FzD.tup (.cons Y1 (.cons (.agg (.pc rfl)) .nil))
def ki (part:Int)(ms:List MtT):Bool:=ms.any λm=>(decide (0<part) && decide (m.kind≠part)) ||decide (m.kind≠(ms.getD 0 mt0).kind) ||decide (m.enum≠(ms.getD 0 mt0).enum)
def Ym (fm:Bool)(op num:Int)(name:Lt)(l c:Int)(ys:List Ex)(ms:List MtT):KR (Ex×MtT):=
 if ms.length=0\/2<ms.length\/(Zk op=true/\fm=false)\/ki (q9 op).1 ms=true then .er 163 l c
 else if(q9 op).2≠1 then .ok (.mk op num name ys l c,⟨(q9 op).2,[],0,1⟩)
 else if(Ja op (ms.getD 0 mt0) (ms.getD (ms.length - 1) mt0)).1 < -100000000\/100000000<(Ja op (ms.getD 0 mt0) (ms.getD (ms.length - 1) mt0)).2 then .er 165 l c
 else .ok (.mk op num name ys l c,⟨(q9 op).2,[],(Ja op (ms.getD 0 mt0) (ms.getD (ms.length - 1) mt0)).1,(Ja op (ms.getD 0 mt0) (ms.getD (ms.length - 1) mt0)).2⟩)
mutual
def ye (vars:List VarT)(enums:List EnumT):Bool->Ex->KR (Ex×MtT)
 |fm,.mk op num name ks l c=>
  if op=1 then .ok (.mk op num name ks l c,⟨1,[],num,num⟩)
  else if op=2 then .ok (.mk op num name ks l c,⟨2,[],0,1⟩)
  else if op=3 then zi vars enums (.mk op num name ks l c)
  else match qf vars enums (fm && decide (op≠17) && decide (op≠18)) ks with
   |.er a b d=>.er a b d
   |.ok r=>Ym fm op num name l c r.1 r.2
def qf (vars:List VarT)(enums:List EnumT):Bool->List Ex->KR (List Ex×List MtT)
 |_,[]=>.ok ([],[])
 |fm,x :: xs=>match ye vars enums fm x with
  |.er a b d=>.er a b d
  |.ok y=>match qf vars enums fm xs with
   |.er a b d=>.er a b d
   |.ok r=>.ok (y.1 :: r.1,y.2 :: r.2)
end
theorem jaN {vars:List VarT}{enums:List EnumT}{fm:Bool}:∀ {xs:List Ex} {ys:List Ex} {ms:List MtT} {x y:Ex} {m:MtT},qf vars enums fm xs=.ok (ys,ms)->ye vars enums fm x=.ok (y,m)->qf vars enums fm (xs ++ [x])=.ok (ys ++ [y],ms ++ [m])
 |[],ys,ms,x,y,m,h,h2=>by
  simp only[qf] at h;cases h;simp only[Qam,qf,h2]
 |z :: xs,ys,ms,x,y,m,h,h2=>by
  simp only[qf] at h;cases hz:ye vars enums fm z with
  |er a b d=>rw[hz] at h;cases h
  |ok w=>
   rw[hz] at h;cases hr:qf vars enums fm xs with
   |er a b d=>rw[hr] at h;cases h
   |ok r=>
    rw[hr] at h;cases h;obtain⟨r1,r2⟩:=r;simp only[Qag,qf,hz,jaN hr h2]
theorem jaP {vars:List VarT}{enums:List EnumT}{fm:Bool}:∀ {xs:List Ex} {ys:List Ex} {ms:List MtT} {x:Ex} {a b d:Int} (zs:List Ex),qf vars enums fm xs=.ok (ys,ms)->ye vars enums fm x=.er a b d->qf vars enums fm (xs ++ x :: zs)=.er a b d
 |[],ys,ms,x,a,b,d,zs,h,h2=>by simp only[Qam,qf,h2]
 |z :: xs,ys,ms,x,a,b,d,zs,h,h2=>by
  simp only[qf] at h;cases hz:ye vars enums fm z with
  |er a b d=>rw[hz] at h;cases h
  |ok w=>
   rw[hz] at h;cases hr:qf vars enums fm xs with
   |er a b d=>rw[hr] at h;cases h
   |ok r=>
    rw[hr] at h;cases h;obtain⟨r1,r2⟩:=r;simp only[Qag,qf,hz,jaP zs hr h2]
theorem Jn {vars:List VarT}{enums:List EnumT}{fm:Bool}:∀ {xs:List Ex} {ys:List Ex} {ms:List MtT},qf vars enums fm xs=.ok (ys,ms)->ys.length=xs.length/\ms.length=xs.length
 |[],ys,ms,h=>by simp only[qf] at h;cases h;exact⟨rfl,rfl⟩
 |z :: xs,ys,ms,h=>by
  simp only[qf] at h;cases hz:ye vars enums fm z with
  |er a b d=>rw[hz] at h;cases h
  |ok w=>
   rw[hz] at h;cases hr:qf vars enums fm xs with
   |er a b d=>rw[hr] at h;cases h
   |ok r=>
    rw[hr] at h;cases h;obtain⟨r1,r2⟩:=r;have:=Jn hr;simp[this.1,this.2]
theorem VI (vars:List VarT)(enums:List EnumT)(fm:Bool)(x:Ex):ye vars enums fm x=if x.op=1 then .ok (x,⟨1,[],x.num,x.num⟩) else if x.op=2 then .ok (x,⟨2,[],0,1⟩) else if x.op=3 then zi vars enums x else match qf vars enums (fm && decide (x.op≠17) && decide (x.op≠18)) x.kids with
 |.er a b d=>.er a b d
 |.ok r=>Ym fm x.op x.num x.name x.line x.col r.1 r.2:=by cases x;rw[ye];rfl
structure VarsOK (vars:List VarT)(enums:List EnumT):Prop where
 len:vars.length<=1000000
 len2:enums.length<=1000000
 vals:∀ e∈enums,e.vals.length<=1000000
 ends:∀ v∈vars,-100000000<=v.lo/\v.lo<=100000000/\-100000000<=v.hi/\v.hi<=100000000
mutual
def wh:Ex->Bool
 |.mk op num _ ks _ _=>(decide (op≠1) ||(decide (-100000000<=num) && decide (num<=100000000))) && QB ks
def QB:List Ex->Bool
 |[]=>true
 |x :: xs=>wh x && QB xs
end
theorem jlw {enums:List EnumT}{nm:Lt}(h:∀ e∈enums,e.vals.length<=1000000) : -1<=(zx enums nm).2/\(zx enums nm).2<=1000000:=by
 induction enums with
 |nil=>simp[zx]
 |cons e es ih=>
  rw[zx];have h1:=h e hac;have h2:=ZA (q:=λv=>decide (nm=v)) (xs:=e.vals);split
  .dsimp only;omega
  .exact ih λe he=>h e (by simp[he])
theorem jet {vars:List VarT}{enums:List EnumT}(V:VarsOK vars enums){x y:Ex}{m:MtT}(h:zi vars enums x=.ok (y,m)):wZ m:=by
 unfold zi at h;split at h
 .rename_i h1;cases h;have hlt:qc vars x.name<(vars.length:Int):=ZA;have hlt2:(qc vars x.name).toNat<vars.length:=om
  have:vars.getD (qc vars x.name).toNat ⟨[],0,[],0,0,false,0⟩∈vars:=by
   rw[Qak,Qaf hlt2];exact ω hlt2
  exact V.ends _ this
 .split at h
  .cases h
  .cases h;have:=jlw (nm:=x.name) V.vals;unfold wZ;dsimp only;omega
mutual
theorem jgR {vars:List VarT}{enums:List EnumT}(V:VarsOK vars enums):∀ (fm:Bool) (x y:Ex) (m:MtT),wh x=true->ye vars enums fm x=.ok (y,m)->wZ m
 |fm,.mk op num name ks l c,y,m,hn,h=>by
  rw[wh,χ] at hn;rw[ye] at h;split at h
  .rename_i h1;cases h;have:=hn.1;simp[h1] at this;exact⟨this.1,this.2,this.1,this.2⟩
  .split at h
   .cases h;unfold wZ;dsimp only;omega
   .split at h
    .exact jet V h
    .split at h
     .cases h
     .rename_i r hr;unfold Ym at h;split at h
      .cases h
      .split at h
       .cases h;unfold wZ;dsimp only;omega
       .split at h
        .cases h
        .rename_i h5;cases h;unfold wZ;dsimp only;have e:(Ja op (r.2.getD 0 mt0) (r.2.getD (r.2.length - 1) mt0)).1<=(Ja op (r.2.getD 0 mt0) (r.2.getD (r.2.length - 1) mt0)).2:=by
          unfold Ja;split
          .dsimp only;omega
          .split
           .dsimp only;omega
           .split
            .dsimp only;omega
            .dsimp only;omega
         omega
end
theorem Kt {vars:List VarT}{enums:List EnumT}(V:VarsOK vars enums){fm:Bool}:∀ {xs ys:List Ex} {ms:List MtT},QB xs=true->qf vars enums fm xs=.ok (ys,ms)->∀ m∈ms,wZ m
 |[],ys,ms,_,h,m,hm=>by simp only[qf] at h;cases h;cases hm
 |z :: xs,ys,ms,hn,h,m,hm=>by
  rw[QB,χ] at hn;simp only[qf] at h;cases hz:ye vars enums fm z with
  |er a b d=>rw[hz] at h;cases h
  |ok w=>
   rw[hz] at h;cases hr:qf vars enums fm xs with
   |er a b d=>rw[hr] at h;cases h
   |ok r=>
    rw[hr] at h;cases h;obtain⟨r1,r2⟩:=r;obtain⟨w1,w2⟩:=w;rcases QaJ.1 hm with rfl|hm
    .exact jgR V fm z w1 _ hn.1 hz
    .exact Kt V hn.2 hr m hm
theorem jaA:∀ {xs:List Ex} {k:Nat} (h:k<xs.length),QB xs=true->wh xs[k]=true
 |x :: xs,0,_,h=>by rw[QB,χ] at h;exact h.1
 |x :: xs,k+1,hk,h=>by rw[QB,χ] at h;exact jaA (xs:=xs) (k:=k) (by simpa using hk) h.2
structure Ck (p:Nat)(v1 v2 v3 mm:AV)(vars:List VarT)(enums:List EnumT)(fm:Bool)(s:St):Prop where
 cl:Cl s p [v1,v2,v3,mm,.bool fm]
 l1:Lr s v1 vars.length (fl vaE vars)
 l2:Lr s v2 enums.length (fl enE enums)
 n1:∀ b m z x,v1=.slice b 0 vars.length m z x->b≠p
 n2:∀ b m z x,v2=.slice b 0 enums.length m z x->b≠p
section
variable {p:Nat} {v1 v2 v3 mm:AV} {vars:List VarT} {enums:List EnumT} {fm:Bool} {s s':St}
theorem Ck.keep (h:Ck p v1 v2 v3 mm vars enums fm s)(k:Keep p s s'){fm':Bool}(C:Cl s' p [v1,v2,v3,mm,.bool fm']):Ck p v1 v2 v3 mm vars enums fm' s':=⟨C,k.lr h.l1 h.n1,k.lr h.l2 h.n2,h.n1,h.n2⟩
theorem Ck.lend (h:Ck p v1 v2 v3 mm vars enums fm s):∃ r,lend s.h (.ptr p 0)=some (.lptr (.lst vars.length (fl vaE vars) :: .lst enums.length (fl enE enums) :: r) 0):=by
 have e1:=h.l1.fz (d:=7) (za Yz vars);have e2:=h.l2.fz (d:=7) (za Qh enums);exact⟨_,uj h.cl (QG e1 rfl (QG e2 rfl rfl))⟩
end
theorem joO (hb:NB base){vars:List VarT}{enums:List EnumT}(V:VarsOK vars enums)(x:Ex){p:Nat}{v1 v2 v3 mm:AV}{fm:Bool}(st:St)(C:Ck p v1 v2 v3 mm vars enums fm st)(K Kp:AV->St->Prop) :
  XB γ base 131 [.ptr p 0,.agg (eE x)] st K Kp=YZ (kO (zi vars enums x)) K Kp st:=by
 obtain⟨r,hr⟩:=C.lend;have h1:=V.len;have h2:=V.len2;exact(joN hb vars enums (by unfold BIG;omega) (by unfold BIG;omega) V.vals x r).xb (qK hr (JZ (by first|rfl|simp[pa,pc,ya,Xu,Qh,JS,Yz,vf,wk,Ju,wj]) rfl)) (λst=>hb.no 131 dc _ _) K Kp
def z6:List AV:=[.int .i64 0,.int .i64 0,.str [],.nils,.int .i64 0,.int .i64 0]
def z4:List AV:=[.int .i64 0,.str [],.int .i64 0,.int .i64 0]
def KC (p:Nat)(v1 v2 v3 mm:AV)(fm:Bool)(st:St)(r:KR (Ex×MtT))(K Kp:AV->St->Prop):Prop:=match r with
 |.ok y=>∀ s',Keep p st s'->Cl s' p [v1,v2,v3,mm,.bool fm]->K (.tup [.agg (eE y.1),.agg (mtE y.2)]) s'
 |.er c l k=>∀ s',Keep p st s'->Kp (kf c l k) s'
theorem jpd {st s:St}{b:Nat}{cs:List AV}:Cl (back st s) b cs=Cl s b cs:=propext ⟨λh=>⟨h.lt,h.row,h.len,h.cell⟩,λh=>⟨h.lt,h.row,h.len,h.cell⟩⟩
theorem Cl.kills {s:St}{b:Nat}{cs:List AV}{ks:Lt}(C:Cl s b cs)(h:b∉ks):Cl (kills ks s) b cs:=C.keep (μ _) (by
 show jv (ks.foldr _ s.h) b=_;rw[XI,if_neg h])
theorem Kb {p:Nat}{st s:St}{v u:AV}{cs:List AV}{K:AV->St->Prop}{m:Nat}(F:FzD m 9 s v u)(hm:st.nx<=m)(hp:p<st.nx)(k:Keep p st.bare s)(C:Cl s p cs)(hK:∀ s',Keep p st s'->Cl s' p cs->K u s') :
  ∃ u ks,fz 9 s.h v=some (u,ks)/\K u (back st (kills ks s)):=by
 obtain⟨ks,e,h⟩:=F;have hnx:st.bare.nx=st.nx:=rfl;refine⟨u,ks,e,hK _ (Keep.bare (k.kills λc hc=>by have:=h c hc;omega) st) ?_⟩;rw[jpd];exact C.kills λhm=>by have:=h p hm;omega
theorem Ze {p:Nat}{st s:St}(k:Keep p st.bare s):Keep p st (bk st s):=⟨k.nx,rfl,k.get⟩
def iQ (st:St)(K:AV->St->Prop):Out->Prop:=XQ γ y97.res λv s=>∃ u ks,fz 9 s.h v=some (u,ks)/\K u (back st (kills ks s))
def iP (st:St)(Kp:AV->St->Prop):AV->Sl->St->Prop:=λv _ s=>Kp v (bk st s)
structure KS (p q:Nat)(v1 v2 v3 mm:AV)(x:Ex)(fm:Bool)(st:St)(ys:List Ex)(ms:List MtT)(vk vm:AV)(L:Sl)(s:St):Prop where
 keep:Keep p st.bare s
 nx:q+4<=s.nx
 qn:q=st.nx
 hp:p<q
 cp:Cl s p [v1,v2,v3,mm,.bool fm]
 c0:Cl s q (eE x)
 c1:Cl s (q+1) z6
 c2:Cl s (q+2) z4
 c3:Cl s (q+3) [.int .i64 x.op,.int .i64 x.num,.str x.name,vk,.int .i64 x.line,.int .i64 x.col]
 lk:Lv (q+4) s.nx s vk ys.length (fl eE ys) 6
 lm:Lv (q+4) s.nx s vm ms.length (fl mtE ms) 4
 df:Df vk vm
 i0:Has L 0 (.ptr p 0)
 i3:Has L 3 (.ptr q 0)
 i4:Has L 4 (.ptr (q+1) 0)
 i5:Has L 5 (.ptr (q+2) 0)
 i6:Has L 6 (.ptr (q+3) 0)
 i7:Has L 7 vm
def gc (fm:Bool)(op:Int)(ms:List MtT):Bool:=decide (ms.length=0) ||decide (2<ms.length) ||(Zk op && !fm) ||ki (q9 op).1 ms
theorem jmc {fm:Bool}{op num:Int}{name:Lt}{l c:Int}{ys:List Ex}{ms:List MtT}(h:gc fm op ms=true):Ym fm op num name l c ys ms=.er 163 l c:=by
 unfold Ym;unfold gc at h;simp only[QaC,decide_eq_true_eq,χ,QaQ] at h;rw[if_pos (by simpa only[or_assoc] using h)]
theorem jsH {fm:Bool}{op:Int}{ms:List MtT}(h:gc fm op ms=false):¬ (ms.length=0\/2<ms.length\/(Zk op=true/\fm=false)\/ki (q9 op).1 ms=true):=by
 intro h2;have:gc fm op ms=true:=by
  unfold gc;simp only[QaC,decide_eq_true_eq,χ,QaQ];simpa only[or_assoc] using h2
 rw[this] at h;cases h
theorem Lv.klD {lo hi n z:Nat}{s:St}{v:AV}{cs:List AV}{b o m1 m2 z2:Nat}{x:Bool}(V:Lv lo hi s v n cs z)(h:Df v (.slice b o m1 m2 z2 x)):Lv lo hi (kl b s) v n cs z:=by
 rcases V with e|⟨c,rfl,h2,h3,h4,h5,h6⟩
 .exact .inl e
 .exact .inr ⟨c,rfl,h2,h3,(jU (λe=>h e.symm)).symm▸h4,h5,h6⟩
theorem jiR (hb:NB base)(op:Int)(ms:List MtT)(h0:0<ms.length)(hl:ms.length<=2)(he:∀ m∈ms,wZ m)(st:St)(b m:Nat)(y:Bool)(D:Cl st b (fl mtE ms))(K Kp:AV->St->Prop) :
  XB γ base 134 [.int .i64 op,.slice b 0 ms.length m 4 y] st K Kp=K (.tup [.int .i64 (Ja op (ms.getD 0 mt0) (ms.getD (ms.length - 1) mt0)).1,.int .i64 (Ja op (ms.getD 0 mt0) (ms.getD (ms.length - 1) mt0)).2]) (kl b st):=by
 have e0:ms[0]=ms.getD 0 mt0:=by simp[Qac,h0]
 have e1:ms[ms.length - 1]=ms.getD (ms.length - 1) mt0:=by simp[Qac,show ms.length - 1<ms.length by omega]
 have F:Fza st [.int .i64 op,.slice b 0 ms.length m 4 y] [.int .i64 op,.lst ms.length (fl mtE ms)] [b]:=Fza.pa rfl (Fza.sl D (zH YH ms).symm (za wj ms) .nil);exact(jkc hb op ms h0 hl he _ _ e0 e1).xf F (λst=>hb.no 134 dc _ _) K Kp
theorem jr5 (hb:NB base){p q:Nat}{v1 v2 v3 mm:AV}{x:Ex}{fm b:Bool}{st:St}{ys:List Ex}{ms:List MtT}{vk vm:AV}{L:Sl}{s:St}(S:KS p q v1 v2 v3 mm x fm st ys ms vk vm L s)(hb2:gc fm x.op ms=b)(he:∀ m∈ms,wZ m)
  (i13:Has L 13 (.int .i64 (q9 x.op).1)) (i14:Has L 14 (.int .i64 (q9 x.op).2)) (i15:Has L 15 (.bool b)) (K Kp:AV->St->Prop) (hK:KC p v1 v2 v3 mm fm st (Ym fm x.op x.num x.name x.line x.col ys ms) K Kp) :
  xC γ base jfZ L s (iQ st K) (iP st Kp):=by
 obtain⟨k,nx,qn,hp,Cp,C0,C1,C2,C3,lk,lm,df,i0,i3,i4,i5,i6,i7⟩:=S;have hnp:p<s.nx:=Cp.lt;unfold z6 z4 at *;unfold iQ iP y97;rw[(by unfold jfZ;simp only[qq];rfl:jfZ=_)];cases b with
 |true=>
  rw[jmc hb2] at hK
  (have zz:=C0.r;repeat' first|apply jb<;>intro _|simp(disch:=try exact jW) only[ja i0,ja i3,ja i15,Jh hb,C0.q,C0.r,r8,δ,ε])
  exact hK _ (Ze k)
 |false=>
  have hnb:=jsH hb2;have hlen:0<ms.length/\ms.length<=2:=om
  unfold Ym at hK;rw[if_neg hnb] at hK;have vc:∀ l,lall AV.cell (vk :: l)=lall AV.cell l:=λl=>by show cond vk.cell _ false=_;rw[lk.cell];rfl
  have qnx:q+4<=st.nx+4:=om
  by_cases ho:(q9 x.op).2=1
  .rw[if_neg (by simpa using ho)] at hK;rcases lm with ⟨_,h9,_⟩|⟨d,rfl,h2,h3,C5,h5,h6⟩
   .omega
   have N:=jiR hb x.op ms hlen.1 hlen.2 he;obtain⟨r1,r2,hr⟩:∃ r1 r2,Ja x.op (ms.getD 0 mt0) (ms.getD (ms.length - 1) mt0)=(r1,r2):=⟨_,_,rfl⟩;rw[hr] at hK N;dsimp only at hK N;have f1:(r1 < -(99999999+1))=(r1 < -100000000):=by rfl
   by_cases hr1:r1 < -100000000
   .rw[if_pos (.inl hr1)] at hK
    (have zz:=a4 C0.r C1.r C2.r (aI C3.r C5.r);repeat' first|apply jb<;>intro _|simp(disch:=try exact jW) only[ja i0,ja i3,ja i4,ja i5,ja i6,ja i7,ja i14,ja i15,ho,N,f1,hr1,Jh hb,C0.q,C1.q,C2.q,C3.q,C5.q,C0.r,C1.r,C2.r,C3.r,C5.r,r8,δ,ε])
    exact hK _ (Ze (k.kl (by show st.nx<=_;omega)))
   .by_cases hr2:100000000<r2
    .rw[if_pos (.inr hr2)] at hK
     (have zz:=a4 C0.r C1.r C2.r (aI C3.r C5.r);repeat' first|apply jb<;>intro _|simp(disch:=try exact jW) only[ja i0,ja i3,ja i4,ja i5,ja i6,ja i7,ja i14,ja i15,ho,N,f1,hr1,hr2,Jh hb,C0.q,C1.q,C2.q,C3.q,C5.q,C0.r,C1.r,C2.r,C3.r,C5.r,r8,δ,ε])
     exact hK _ (Ze (k.kl (by show st.nx<=_;omega)))
    .rw[if_neg om] at hK;have hK:∀ s',Keep p st s'->Cl s' p [v1,v2,v3,mm,.bool fm]->K (.tup [.agg (eE (.mk x.op x.num x.name ys x.line x.col)),.agg (mtE ⟨(q9 x.op).2,[],r1,r2⟩)]) s':=hK;rw[qA] at hK
     (have zz:=a4 @vc C0.r C1.r (aI C2.r (aI C3.r C5.r));repeat' first|apply jb<;>intro _|simp(disch:=try exact jW) only[ja i0,ja i3,ja i4,ja i5,ja i6,ja i7,ja i14,ja i15,ho,N,f1,hr1,hr2,C0.q,C1.q,C2.q,C3.q,C5.q,vc,C0.r,C1.r,C2.r,C3.r,C5.r,r8,δ,ε])
     rw[ho] at hK;refine Kb (m:=st.nx) (cs:=[v1,v2,v3,mm,.bool fm]) (FzD.tup (.cons (FzD.agg (.cons (.pc rfl) (.cons (.pc rfl) (.cons (.pc rfl) (.cons (Lv.fz (lo:=q+4) (hi:=s.nx) (z:=6) ?_ om (za ya _)) (.cons (.pc rfl) (.cons (.pc rfl) .nil))))))) (.cons (.agg (.pc rfl)) .nil))) (μ _) om ?_ ?_ hK
     .have:=lk.klD df
      exact ckX
     .exact(((k.kl (by show st.nx<=_;omega)).wr (.inr (by show st.nx<=_;omega)) _ _).wr (.inr (by show st.nx<=_;omega)) _ _)
     .exact ckX
  .rw[if_pos ho] at hK;have hK:∀ s',Keep p st s'->Cl s' p [v1,v2,v3,mm,.bool fm]->K (.tup [.agg (eE (.mk x.op x.num x.name ys x.line x.col)),.agg (mtE ⟨(q9 x.op).2,[],0,1⟩)]) s':=hK;rw[qA] at hK
   (have zz:=a4 @vc C0.r C1.r (aI C2.r C3.r);repeat' first|apply jb<;>intro _|simp(disch:=try exact jW) only[ja i0,ja i3,ja i4,ja i5,ja i6,ja i14,ja i15,ho,C0.q,C1.q,C2.q,C3.q,vc,C0.r,C1.r,C2.r,C3.r,r8,δ,ε])
   refine Kb (m:=st.nx) (cs:=[v1,v2,v3,mm,.bool fm]) (FzD.tup (.cons (FzD.agg (.cons (.pc rfl) (.cons (.pc rfl) (.cons (.pc rfl) (.cons (Lv.fz (lo:=q+4) (hi:=s.nx) (z:=6) ?_ om (za ya _)) (.cons (.pc rfl) (.cons (.pc rfl) .nil))))))) (.cons (.agg (.pc rfl)) .nil))) (μ _) om ?_ ?_ hK
   .exact ckX
   .exact((k.wr (.inr (by show st.nx<=_;omega)) _ _).wr (.inr (by show st.nx<=_;omega)) _ _)
   .exact ckX
def jhw (part:Int)(k0:Int)(e0:Lt)(m:MtT):Bool:=(decide (0<part) && decide (m.kind≠part)) ||decide (m.kind≠k0) ||decide (m.enum≠e0)
theorem Has.bool {c:Nat}{a b:Bool}{L:Sl}(h:a=b):Has ((c,.bool a) :: L) c (.bool b):=by rw[h];simp only[ju]
theorem jpj (part:Int)(ms:List MtT):ki part ms=ms.any (jhw part (ms.getD 0 mt0).kind (ms.getD 0 mt0).enum):=rfl
section
variable {p q:Nat} {v1 v2 v3 mm:AV} {x:Ex} {fm:Bool} {st:St} {ys:List Ex} {ms:List MtT} {vk vm:AV} {L:Sl} {s:St}
theorem KS.nw (S:KS p q v1 v2 v3 mm x fm st ys ms vk vm L s)(ds:List AV):KS p q v1 v2 v3 mm x fm st ys ms vk vm L (nw s ds):=by
 obtain⟨k,nx,qn,hp,Cp,C0,C1,C2,C3,lk,lm,df,i0,i3,i4,i5,i6,i7⟩:=S;have h0:=C0.lt;have h1:=C1.lt;have h2:=C2.lt;have h3:=C3.lt;have h4:=Cp.lt;exact⟨k.nw ds,by rw[jg];omega,qn,hp,ckX,ckX,ckX,ckX,ckX,((jG (μ _)).symm▸lk:Lv _ _ (Go.Sy.nw s ds) _ _ _ _).up (by rw[jg];omega),((jG (μ _)).symm▸lm:Lv _ _ (Go.Sy.nw s ds) _ _ _ _).up (by rw[jg];omega),df,i0,i3,i4,i5,i6,i7⟩
theorem KS.push (S:KS p q v1 v2 v3 mm x fm st ys ms vk vm L s){c:Nat}{v:AV}(h:c≠0/\c≠3/\c≠4/\c≠5/\c≠6/\c≠7):KS p q v1 v2 v3 mm x fm st ys ms vk vm ((c,v) :: L) s:=by
 obtain⟨k,nx,qn,hp,Cp,C0,C1,C2,C3,lk,lm,df,i0,i3,i4,i5,i6,i7⟩:=S;obtain⟨h0,h3,h4,h5,h6,h7⟩:=h;exact⟨k,nx,qn,hp,Cp,C0,C1,C2,C3,lk,lm,df,by rw[jm h0];exact i0,by rw[jm h3];exact i3,by rw[jm h4];exact i4,by rw[jm h5];exact i5,by rw[jm h6];exact i6,by rw[jm h7];exact i7⟩
theorem KS.wr (S:KS p q v1 v2 v3 mm x fm st ys ms vk vm L s){c o:Nat}{ds:List AV}{hi:Nat}(hc:hi<=c)(lk':Lv (q+4) hi s vk ys.length (fl eE ys) 6)(lm':Lv (q+4) hi s vm ms.length (fl mtE ms) 4)(hq:q+4<=hi)(hs:hi<=s.nx):KS p q v1 v2 v3 mm x fm st ys ms vk vm L (wr s c o ds):=by
 obtain⟨k,nx,qn,hp,Cp,C0,C1,C2,C3,lk,lm,df,i0,i3,i4,i5,i6,i7⟩:=S;have h4:=Cp.lt;exact⟨k.wr (.inr (by show st.nx<=_;omega)) _ _,by rw[jn];exact nx,qn,hp,ckX,ckX,ckX,ckX,ckX,((jA (.inr hc)).symm▸lk':Lv _ _ (Go.Sy.wr s c o ds) _ _ _ _).up (by rw[jn];exact hs),((jA (.inr hc)).symm▸lm':Lv _ _ (Go.Sy.wr s c o ds) _ _ _ _).up (by rw[jn];exact hs),df,i0,i3,i4,i5,i6,i7⟩
end
theorem jr6 (hb:NB base){p q:Nat}{v1 v2 v3 mm:AV}{x:Ex}{fm b:Bool}{st:St}{ys:List Ex}{ms:List MtT}{vk vm:AV}{L:Sl}{s:St}(S:KS p q v1 v2 v3 mm x fm st ys ms vk vm L s)(hb2:(decide (ms.length=0) ||decide (2<ms.length) ||(Zk x.op && !fm))=b)(hml:ms.length<=1000000)(he:∀ m∈ms,wZ m)
  (i13:Has L 13 (.int .i64 (q9 x.op).1)) (i14:Has L 14 (.int .i64 (q9 x.op).2)) (i15:Has L 15 (.bool b)) (K Kp:AV->St->Prop) (hK:KC p v1 v2 v3 mm fm st (Ym fm x.op x.num x.name x.line x.col ys ms) K Kp) :
  xC γ base jca L s (iQ st K) (iP st Kp):=by
 have vl:=S.lm.len;have i7:=S.i7;have bq:gc fm x.op ms=(b ||ms.any (jhw (q9 x.op).1 (ms.getD 0 mt0).kind (ms.getD 0 mt0).enum)):=by rw[<-jpj,<-hb2];rfl
 rw[(by unfold jca;simp only[qq];rfl:jca=_)];repeat' first|apply jb<;>intro _|simp(disch:=try exact dzG) only[ja i7,vl,r8,δ,ε]
 refine jV ms.length (λk L s=>KS p q v1 v2 v3 mm x fm st ys ms vk vm L s/\Has L 13 (.int .i64 (q9 x.op).1)/\Has L 14 (.int .i64 (q9 x.op).2)/\Has L 15 (.bool (b ||(ms.take k).any (jhw (q9 x.op).1 (ms.getD 0 mt0).kind (ms.getD 0 mt0).enum)))/\Has L 115 vm) ?_ (λk L s hk hI hi hn=>?_) (λL s hI=>?_) (hc:=(λk L s v h=>⟨h.1.push dc,by simp(disch:=decide) only[jm];exact h.2⟩)) (hI:=(λk L s v h=>⟨h.1.push dc,by simp(disch:=decide) only[jm];exact h.2⟩))
 .refine⟨((S.push dc).push dc).push dc,?_⟩;simp(disch:=decide) only[jm,ju,QaH,List.any_nil,Bool.or_false];exact⟨i13,i14,i15,trivial⟩
 .obtain⟨S,j13,j14,j15,j115⟩:=hI;have S0:=S;obtain⟨k',nx,qn,hp,Cp,C0,C1,C2,C3,lk,lm,df,j0,j3,j4,j5,j6,j7⟩:=S;have qnx:q+4<=st.nx+4:=om
  rcases lm with ⟨_,h9,_⟩|⟨d,rfl,h2,h3,C5,h5,h6⟩
  .omega
  have e0:ms.getD 0 mt0=ms[0]:=by simp[Qac,show 0<ms.length by omega]
  have g0:(fl mtE ms).getD 0 .bad=.int .i64 ms[0].kind:=(ur YH (i:=0) om (k:=0) dc).trans (by rw[jny];rfl);have g1:(fl mtE ms).getD 1 .bad=.str ms[0].enum:=(ur YH (i:=0) om (k:=1) dc).trans (by rw[jny];rfl);have tk:List.take (k+1) ms=List.take k ms ++ [ms[k]]:=by rw[QbQ,Qaf hk];rfl
  rw[e0] at j15;rw[tk,e0,List.any_append,List.any_cons,List.any_nil,Bool.or_false];have S1:∀ ba:Bool,KS p q v1 v2 v3 mm x fm st ys ms vk (.slice d 0 ms.length ms.length 4 false) ((15,.bool ba) :: (17,.ptr s.nx 0) :: L) (wr (nw s [.int .i64 0,.str [],.int .i64 0,.int .i64 0]) s.nx 0 (mtE ms[k])):=λba=>
   (((S0.push dc).push dc).nw _).wr (c:=s.nx) (hi:=s.nx) (μ _) (ckX) (by have:=S0.lm;exact ckX) om (by rw[jg];omega)
  (have zz:=C5.r;repeat' first|apply jb<;>intro _|simp(disch:=try exact jW) only[ja j115,ja hi,ja hn,ja j13,ja j14,ja j15,ja j7,jgZ YH,g0,g1,C5.q,C5.r,r8,δ,ε])
  all_goals simp(disch:=decide) only[jm,ju]
  all_goals refine⟨⟨S1 _,j13,j14,?_,j115⟩,hi,hn⟩
  all_goals apply Has.bool
  all_goals clear hb2 S1 S0 hK he hml bq C5 k' Cp C0 C1 C2 C3 lk df j0 j3 j4 j5 j6 j7 g0 g1 i13 i14 i15 j13 j14 j15 vl i7 e0 tk nx
  all_goals generalize List.any _ _=A at *
  all_goals unfold jhw
  all_goals cases b<;>cases A<;>simp_all<;>omega
 .obtain⟨S,j13,j14,j15,j115⟩:=hI;rw[Qab] at j15;exact jr5 hb S bq he j13 j14 j15 K Kp hK
theorem KS.setp {p q:Nat}{v1 v2 v3 mm:AV}{x:Ex}{fm:Bool}{st:St}{ys:List Ex}{ms:List MtT}{vk vm:AV}{L:Sl}{s:St}(S:KS p q v1 v2 v3 mm x fm st ys ms vk vm L s)(b:Bool):KS p q v1 v2 v3 mm x b st ys ms vk vm L (Go.Sy.wr s p 4 [.bool b]):=by
 obtain⟨k,nx,qn,hp,Cp,C0,C1,C2,C3,lk,lm,df,i0,i3,i4,i5,i6,i7⟩:=S;have h0:=C0.lt;have h1:=C1.lt;have h2:=C2.lt;have h3:=C3.lt;exact⟨k.wr (.inl rfl) _ _,by rw[jn];exact nx,qn,hp,Cp.wr 4 [.bool b],ckX,ckX,ckX,ckX,ckX,ckX,df,i0,i3,i4,i5,i6,i7⟩
theorem jr7 (hb:NB base){p q:Nat}{v1 v2 v3 mm:AV}{x:Ex}{fm fm2:Bool}{st:St}{ys:List Ex}{ms:List MtT}{vk vm:AV}{L:Sl}{s:St}(S:KS p q v1 v2 v3 mm x fm2 st ys ms vk vm L s)(hml:ms.length<=1000000)(he:∀ m∈ms,wZ m)
  (i8:Has L 8 (.bool fm)) (K Kp:AV->St->Prop) (hK:KC p v1 v2 v3 mm fm st (Ym fm x.op x.num x.name x.line x.col ys ms) K Kp) :
  xC γ base jf0 L s (iQ st K) (iP st Kp):=by
 have vl:=S.lm.len;have i7:=S.i7;have i0:=S.i0;have i3:=S.i3;have Cp:=S.cp;have C0:=S.c0;have hqp:q≠p:=by have:=S.hp;omega
 have S1:=S.setp fm;have C9:=S1.cp;have ee:∀ b,(decide (ms.length=0) ||decide (2<ms.length) ||(Zk x.op && !fm))=b->xC γ base jca ((15,.bool b) :: (14,.int .i64 (q9 x.op).2) :: (13,.int .i64 (q9 x.op).1) :: L) (wr s p 4 [.bool fm]) (iQ st K) (iP st Kp):=λb hb2=>jr6 hb (((S1.push dc).push dc).push dc) hb2 hml he (by simp(disch:=decide) only[jm,ju]) (by simp(disch:=decide) only[jm,ju]) (by simp only[ju]) K Kp hK;rw[(by unfold jf0;simp only[qq];rfl:jf0=_)]
 (have zz:=aI @Cp.r C0.r;repeat' first|apply jb<;>intro _|simp(disch:=try exact jW) only[ja i0,ja i3,ja i7,ja i8,vl,jn9 hb,jq5 hb,Cp.q,C0.q,Cp.r,C0.r,r8,δ,ε])
 all_goals refine ee _ ?_
 all_goals clear ee S1 S hK
 all_goals clear vl
 all_goals(cases fm<;>simp_all<;>first|omega|(left;omega))
theorem Lr.bare {s:St}{v:AV}{n:Nat}{cs:List AV}(h:Lr s v n cs):Lr s.bare v n cs:=by
 rcases h with e|e|⟨b,m,z,x,e,h1,h2⟩
 .exact .inl e
 .exact .inr (.inl e)
 .exact .inr (.inr ⟨b,m,z,x,e,h1,h2.bar⟩)
theorem Ck.bare {p:Nat}{v1 v2 v3 mm:AV}{vars:List VarT}{enums:List EnumT}{fm:Bool}{s:St}(h:Ck p v1 v2 v3 mm vars enums fm s):Ck p v1 v2 v3 mm vars enums fm s.bare:=⟨h.cl.bar,h.l1.bare,h.l2.bare,h.n1,h.n2⟩
section
variable {p q:Nat} {v1 v2 v3 mm:AV} {x:Ex} {fm:Bool} {st:St} {ys:List Ex} {ms:List MtT} {vk vm:AV} {L:Sl} {s t:St}
theorem KS.keep' (S:KS p q v1 v2 v3 mm x fm st ys ms vk vm L s)(k:Keep p s t){fm':Bool}(C:Cl t p [v1,v2,v3,mm,.bool fm']):KS p q v1 v2 v3 mm x fm' st ys ms vk vm L t:=by
 obtain⟨k',nx,qn,hp,Cp,C0,C1,C2,C3,lk,lm,df,i0,i3,i4,i5,i6,i7⟩:=S;exact⟨k'.trans k,by have:=k.nx;omega,qn,hp,C,k.cl C0 om,k.cl C1 om,k.cl C2 om,k.cl C3 om,(k.lv lk (.inl om)).up k.nx,(k.lv lm (.inl om)).up k.nx,df,i0,i3,i4,i5,i6,i7⟩
theorem KS.kid (S:KS p q v1 v2 v3 mm x fm st ys ms vk vm L s)(y:Ex):KS p q v1 v2 v3 mm x fm st (ys ++ [y]) ms (apv 6 vk s) vm L (Go.Sy.wr (Go.Sy.aps vk s (eE y)) (q+3) 3 [apv 6 vk s]):=by
 obtain⟨k,nx,qn,hp,Cp,C0,C1,C2,C3,lk,lm,df,i0,i3,i4,i5,i6,i7⟩:=S;have hn:(Go.Sy.wr (Go.Sy.aps vk s (eE y)) (q+3) 3 [apv 6 vk s]).nx=s.nx+1:=by rw[jn,jp]
 have h4:=Cp.lt;have cq:∀ c ds,Cl s c ds->c<q+4->c≠q+3->Cl (Go.Sy.wr (Go.Sy.aps vk s (eE y)) (q+3) 3 [apv 6 vk s]) c ds:=λc ds C h h3=>by
  rw[jB h3,lk.cl s (eE y) ds c (.inl h) om];exact C
 refine⟨(k.aps lk (by show st.nx<=_;omega) (eE y)).wr (.inr (by show st.nx<=_;omega)) _ _,by rw[hn];omega,qn,hp,cq _ _ Cp om om,cq _ _ C0 om om,cq _ _ C1 om om,cq _ _ C2 om om,?_,?_,?_,?_,i0,i3,i4,i5,i6,i7⟩
 .have:=(cast (lk.cl s (eE y) _ (q+3) (.inl om) om).symm C3:Cl (Go.Sy.aps vk s (eE y)) (q+3) _);exact this.wr 3 [apv 6 vk s]
 .rw[hn,jA (.inl om),ν,QH,Qf];exact lk.put (zR y) om rfl
 .rw[hn,jA (.inl om)];exact(lm.apsD df).up om
 .exact(Df.put lm (μ _)).1
theorem KS.mt (S:KS p q v1 v2 v3 mm x fm st ys ms vk vm L s)(m:MtT):KS p q v1 v2 v3 mm x fm st ys (ms ++ [m]) vk (apv 4 vm s) ((7,apv 4 vm s) :: L) (Go.Sy.aps vm s (mtE m)):=by
 obtain⟨k,nx,qn,hp,Cp,C0,C1,C2,C3,lk,lm,df,i0,i3,i4,i5,i6,i7⟩:=S;have hn:(Go.Sy.aps vm s (mtE m)).nx=s.nx+1:=by rw[jp]
 have h4:=Cp.lt;have cq:∀ c ds,Cl s c ds->c<q+4->Cl (Go.Sy.aps vm s (mtE m)) c ds:=λc ds C h=>by
  rw[lm.cl s (mtE m) ds c (.inl h) om];exact C
 refine⟨k.aps lm (by show st.nx<=_;omega) (mtE m),by rw[hn];omega,qn,hp,cq _ _ Cp om,cq _ _ C0 om,cq _ _ C1 om,cq _ _ C2 om,cq _ _ C3 om,?_,?_,?_,?_,?_,?_,?_,?_,?_⟩
 .rw[hn];exact(lk.apsD (Df.symm df)).up om
 .rw[hn,ν,QH,Qf];exact lm.put (YH m) om rfl
 .exact(Df.put lk (μ _)).2
 .rw[jm dc];exact i0
 .rw[jm dc];exact i3
 .rw[jm dc];exact i4
 .rw[jm dc];exact i5
 .rw[jm dc];exact i6
 .rw[ju];trivial
end
mutual
def w5:Ex->Bool
 |.mk _ _ _ ks _ _=>decide (ks.length<=1000000) && Zg ks
def Zg:List Ex->Bool
 |[]=>true
 |x :: xs=>w5 x && Zg xs
end
theorem Uh:∀ {xs:List Ex} {k:Nat} (h:k<xs.length),Zg xs=true->w5 xs[k]=true
 |x :: xs,0,_,h=>by rw[Zg,χ] at h;exact h.1
 |x :: xs,k+1,hk,h=>by rw[Zg,χ] at h;exact Uh (xs:=xs) (k:=k) (by simpa using hk) h.2
def KE (base:Bs)(vars:List VarT)(enums:List EnumT)(x:Ex):Prop:=∀ (p:Nat) (v1 v2 v3 mm:AV) (fm:Bool) (st:St),Ck p v1 v2 v3 mm vars enums fm st->∀ K Kp,KC p v1 v2 v3 mm fm st (ye vars enums fm x) K Kp->XB γ base 103 [.ptr p 0,.agg (eE x)] st K Kp
theorem jr8 (hb:NB base){vars:List VarT}{enums:List EnumT}(V:VarsOK vars enums){p q:Nat}{v1 v2 v3 mm:AV}{x:Ex}{fm fm2:Bool}{st:St}{vk vm:AV}{L:Sl}{s:St}(ih:∀ k∈x.kids,KE base vars enums k)(hn:QB x.kids=true)(hw:x.kids.length<=1000000)(H:Ck p v1 v2 v3 mm vars enums fm st)(S:KS p q v1 v2 v3 mm x fm2 st [] [] vk vm L s)
  (i8:Has L 8 (.bool fm)) (K Kp:AV->St->Prop) (hK:KC p v1 v2 v3 mm fm st (match qf vars enums fm2 x.kids with
   |.er a b d=>.er a b d
   |.ok r=>Ym fm x.op x.num x.name x.line x.col r.1 r.2) K Kp) :
  xC γ base jcb L s (iQ st K) (iP st Kp):=by
 have C0:=S.c0;have i3:=S.i3;rw[(by unfold jcb;simp only[qq];rfl:jcb=_)]
 (have zz:=C0.r;repeat' first|apply jb<;>intro _|simp(disch:=try exact jW) only[ja i3,C0.q,C0.r,r8,δ,ε])
 refine jV x.kids.length (λk L s=>∃ ys ms vk vm,KS p q v1 v2 v3 mm x fm2 st ys ms vk vm L s/\qf vars enums fm2 (x.kids.take k)=.ok (ys,ms)/\Has L 8 (.bool fm)/\Has L 62 (.lst x.kids.length (fl eE x.kids))) ?_ (λk L s hk hI hi hn=>?_) (λL s hI=>?_) (hc:=(λk L s v h=>(by obtain⟨ys,ms,vk,vm,h1,h2,h3,h4⟩:=h;exact⟨ys,ms,vk,vm,h1.push dc,h2,by simp(disch:=decide) only[jm];exact h3,by simp(disch:=decide) only[jm];exact h4⟩))) (hI:=(λk L s v h=>(by obtain⟨ys,ms,vk,vm,h1,h2,h3,h4⟩:=h;exact⟨ys,ms,vk,vm,h1.push dc,h2,by simp(disch:=decide) only[jm];exact h3,by simp(disch:=decide) only[jm];exact h4⟩)))
 .refine⟨[],[],vk,vm,((S.push dc).push dc).push dc,by rw[QaH,qf],?_,?_⟩
  .simp(disch:=decide) only[jm];exact i8
  .simp(disch:=decide) only[jm,ju]
 .obtain⟨ys,ms,vk,vm,S,he,j8,j62⟩:=hI;have Cp:=S.cp;have C3:=S.c3;have j0:=S.i0;have j6:=S.i6;have j7:=S.i7;repeat' first|apply jb<;>intro _|simp(disch:=try exact dzG) only[ja j0,ja j62,ja hi,ja hn,r8,δ,ε]
  have S0:KS p q v1 v2 v3 mm x fm2 st ys ms vk vm ((10,.ptr s.nx 0) :: L) (wr (nw s [.int .i64 0,.int .i64 0,.str [],.nils,.int .i64 0,.int .i64 0]) s.nx 0 (eE x.kids[k])):=
   ((S.push dc).nw _).wr (c:=s.nx) (hi:=s.nx) (μ _) (by have:=S.lk;exact ckX) (by have:=S.lm;exact ckX) S.nx (by rw[jg];omega)
  refine ih x.kids[k] (ω hk) p v1 v2 v3 mm fm2 _ (H.bare.keep S0.keep S0.cp) _ _ ?_;cases hx:ye vars enums fm2 x.kids[k] with
  |er a b d=>
   intro s' hk';have e:qf vars enums fm2 x.kids=.er a b d:=by
    have:=jaP (x.kids.drop (k+1)) he hx;rwa [QbY,Qbr] at this
   rw[e] at hK;exact hK _ (Ze (S0.keep.trans hk'))
  |ok w=>
   intro s' hk' hC;have S1:=S0.keep' hk' hC;obtain⟨y,m⟩:=w;have he':qf vars enums fm2 (x.kids.take (k+1))=.ok (ys ++ [y],ms ++ [m]):=by
    rw[QbQ,Qaf hk];exact jaN he hx
   generalize wr (nw s [.int .i64 0,.int .i64 0,.str [],.nils,.int .i64 0,.int .i64 0]) s.nx 0 (eE x.kids[k])=t0 at *;clear S0;have A1:=λst bv xc xx K h hv=>@JK (q+4) s'.nx ys.length 6 st vk (fl eE ys) K 72 bv xc xx h dc (by have:=Jn he;rw[Qal] at this;omega) (by have:=Jn he;rw[Qal] at this;omega) hv;have vk1:=S1.lk;have vm1:=S1.lm;have hq:=S1.nx;have C3':=S1.c3;have S2:=((((S1.push (c:=11) (v:=.ptr s'.nx 0) dc).push (c:=12) (v:=.ptr (s'.nx+1) 0) dc).nw [.int .i64 0,.int .i64 0,.str [],.nils,.int .i64 0,.int .i64 0]).nw [.int .i64 0,.str [],.int .i64 0,.int .i64 0]).wr (c:=s'.nx) (o:=0) (ds:=eE y) (hi:=s'.nx) (μ _) (ckX) (ckX) hq (by(first|omega|(simp only[jg,jn,jt,jp,jo];first|done|omega)));have S2:=(S2.wr (c:=s'.nx+1) (o:=0) (ds:=mtE m) (hi:=s'.nx) om (ckX) (ckX) hq (by(first|omega|(simp only[jg,jn,jt,jp,jo];first|done|omega)))).nw (eE y);have S4:=(S2.kid y).nw (mtE m);have A2:=λbv xc xx K hv=>@JK (q+4) _ ms.length 4 _ vm (fl mtE ms) K 40 bv xc xx S4.lm dc (by have:=Jn he;rw[Qal] at this;omega) (by have:=Jn he;rw[Qal] at this;omega) hv
   (have zz:=a8 @vk1.ln @vk1.rts @jA @jG @jK @vk1 @vm1 (a4 @jC @jJ @jN @C3'.r);repeat' first|apply jb<;>intro _|simp(disch:=try exact jW) only[ja j0,ja j6,ja j7,A1,A2,vk1.at,jC,C3'.q,vk1.ln,vk1.rts,jA,jG,jK,vk1,vm1,jC,jJ,jN,C3'.r,r8,δ,ε])
   refine⟨⟨_,_,_,_,S4.mt m,he',?_,?_⟩,?_,?_⟩;all_goals exact hsX
 .obtain⟨ys,ms,vk,vm,S,he,j8,j62⟩:=hI;rw[Qab] at he;rw[he] at hK;refine jr7 hb S ?_ ?_ j8 K Kp hK
  .have:=Jn he;omega
  .exact Kt V hn he
theorem jr9 (hb:NB base){vars:List VarT}{enums:List EnumT}(V:VarsOK vars enums){p q:Nat}{v1 v2 v3 mm:AV}{x:Ex}{fm:Bool}{st:St}{L:Sl}{s:St}(ih:∀ k∈x.kids,KE base vars enums k)(hn:QB x.kids=true)(hw:x.kids.length<=1000000)(H:Ck p v1 v2 v3 mm vars enums fm st)(hop:x.op≠1/\x.op≠2/\x.op≠3)
  (k:Keep p st.bare s) (hs:s.nx=q+3) (qn:q=st.nx) (hp:p<q) (Cp:Cl s p [v1,v2,v3,mm,.bool fm]) (C0:Cl s q (eE x)) (C1:Cl s (q+1) z6) (C2:Cl s (q+2) z4) (i0:Has L 0 (.ptr p 0)) (i3:Has L 3 (.ptr q 0)) (i4:Has L 4 (.ptr (q+1) 0)) (i5:Has L 5 (.ptr (q+2) 0)) (K Kp:AV->St->Prop) (hK:KC p v1 v2 v3 mm fm st (ye vars enums fm x) K Kp) :
  xC γ base jf1 L s (iQ st K) (iP st Kp):=by
 rw[VI,if_neg hop.1,if_neg hop.2.1,if_neg hop.2.2] at hK;have hqp:q+3≠p:=om
 have hq3:q≠p:=om
 have hpq:p≠q+3:=om
 have S0:KS p q v1 v2 v3 mm x fm st [] [] .nils .nils ((8,.bool fm) :: (7,.nils) :: (6,.ptr (q+3) 0) :: L) (wr (wr (nw s [.int .i64 0,.int .i64 0,.str [],.nils,.int .i64 0,.int .i64 0]) (q+3) 0 [.int .i64 x.op,.int .i64 x.num,.str x.name,.lst x.kids.length (fl eE x.kids),.int .i64 x.line,.int .i64 x.col]) (q+3) 3 [.nils]):=by
  refine⟨((k.nw _).wr (.inr (by show st.nx<=_;omega)) _ _).wr (.inr (by show st.nx<=_;omega)) _ _,by(first|omega|(simp only[jg,jn,jt,jp,jo];first|done|omega)),qn,hp,ckX,ckX,ckX,ckX,?_,Lv.nil,Lv.nil,trivial,?_,?_,?_,?_,?_,?_⟩
  .have:=((hs▸Cl.new s [.int .i64 0,.int .i64 0,.str [],.nils,.int .i64 0,.int .i64 0]:Cl (nw s [.int .i64 0,.int .i64 0,.str [],.nils,.int .i64 0,.int .i64 0]) (q+3) _).wr 0 [.int .i64 x.op,.int .i64 x.num,.str x.name,.lst x.kids.length (fl eE x.kids),.int .i64 x.line,.int .i64 x.col]).wr 3 [.nils];exact this
  all_goals(simp(disch:=decide) only[jm,ju];try assumption)
 have ee:∀ b,(fm && decide (x.op≠17) && decide (x.op≠18))=b->xC γ base jcb ((8,.bool fm) :: (7,.nils) :: (6,.ptr (q+3) 0) :: L) (wr (wr (wr (nw s [.int .i64 0,.int .i64 0,.str [],.nils,.int .i64 0,.int .i64 0]) (q+3) 0 [.int .i64 x.op,.int .i64 x.num,.str x.name,.lst x.kids.length (fl eE x.kids),.int .i64 x.line,.int .i64 x.col]) (q+3) 3 [.nils]) p 4 [.bool b]) (iQ st K) (iP st Kp):=λb e=>by
  rw[e] at hK;exact jr8 hb V ih hn hw H (S0.setp b) (by simp only[ju]) K Kp hK
 rw[(by unfold jf1;simp only[qq];rfl:jf1=_)]
 (have zz:=aI @hs (aI @Cp.r C0.r);repeat' first|apply jb<;>intro _|simp(disch:=try exact jW) only[ja i0,ja i3,hs,Cp.q,C0.q,hs,Cp.r,C0.r,r8,δ,ε])
 all_goals refine ee _ ?_
 all_goals clear ee S0 hK
 all_goals(cases fm<;>simp_all)
theorem jsa (hb:NB base){vars:List VarT}{enums:List EnumT}(V:VarsOK vars enums){p q:Nat}{v1 v2 v3 mm:AV}{x:Ex}{fm:Bool}{st:St}{L:Sl}{s:St}(ih:∀ k∈x.kids,KE base vars enums k)(hn:QB x.kids=true)(hw:x.kids.length<=1000000)(H:Ck p v1 v2 v3 mm vars enums fm st)
  (k:Keep p st.bare s) (hs:s.nx=q+3) (qn:q=st.nx) (hp:p<q) (Cp:Cl s p [v1,v2,v3,mm,.bool fm]) (C0:Cl s q (eE x)) (C1:Cl s (q+1) z6) (C2:Cl s (q+2) z4) (i0:Has L 0 (.ptr p 0)) (i3:Has L 3 (.ptr q 0)) (i4:Has L 4 (.ptr (q+1) 0)) (i5:Has L 5 (.ptr (q+2) 0)) (K Kp:AV->St->Prop) (hK:KC p v1 v2 v3 mm fm st (ye vars enums fm x) K Kp) :
  xC γ base wO L s (iQ st K) (iP st Kp):=by
 have nk:=λK Kp=>joO hb V x s (H.bare.keep k Cp) K Kp;have fin:∀ (y:Ex) (m:MtT) (s':St),Keep p st.bare s'->Cl s' p [v1,v2,v3,mm,.bool fm]->ye vars enums fm x=.ok (y,m)->∃ u ks,fz 9 s'.h (.tup [.agg (eE y),.agg (mtE m)])=some (u,ks)/\K u (back st (kills ks s')):=λy m s' k' C h=>by
  rw[h] at hK;exact Kb (m:=st.nx) (cs:=[v1,v2,v3,mm,.bool fm]) (FzD.tup (.cons (FzD.agg (.pc (ya y))) (.cons (.agg (.pc (wj m))) .nil))) (μ _) om k' C hK
 by_cases h1:x.op=1
 .have e:=VI vars enums fm x;rw[if_pos h1] at e;unfold iQ iP y97;rw[(by unfold wO;simp only[qq];rfl:wO=_)];unfold z6 z4 at *;have f:=fin x ⟨1,[],x.num,x.num⟩ (wr (wr s (q+1) 0 (eE x)) (q+2) 0 (mtE ⟨1,[],x.num,x.num⟩)) ((k.wr (.inr (by show st.nx<=_;omega)) _ _).wr (.inr (by show st.nx<=_;omega)) _ _) (ckX) e;rw[qA,h1] at f
  (have zz:=a4 @Cp.r C0.r C1.r C2.r;repeat' first|apply jb<;>intro _|simp(disch:=try exact jW) only[ja i0,ja i3,ja i4,ja i5,h1,Xk,sm2,Cp.q,C0.q,C1.q,C2.q,Cp.r,C0.r,C1.r,C2.r,r8,δ,ε])
  refine⟨?_,f⟩;have a1:rat s.h q 1=.int .i64 x.num:=(C0.cell 1 (by rw[zR];decide)).trans (by rw[jsi];rfl);exact⟨(sm2 (by rw[C0.len,zR];decide) a1 rfl).mpr trivial,(sm2 (by rw[XG,C0.len,zR];decide) (by rw[wL om];exact a1) rfl).mpr trivial⟩
 .by_cases h2:x.op=2
  .have e:=VI vars enums fm x;rw[if_neg h1,if_pos h2] at e;unfold iQ iP y97;rw[(by unfold wO;simp only[qq];rfl:wO=_)];unfold z6 z4 at *;have f:=fin x ⟨2,[],0,1⟩ (wr (wr s (q+1) 0 (eE x)) (q+2) 0 (mtE ⟨2,[],0,1⟩)) ((k.wr (.inr (by show st.nx<=_;omega)) _ _).wr (.inr (by show st.nx<=_;omega)) _ _) (ckX) e;rw[qA,h2] at f
   (have zz:=a4 @Cp.r C0.r C1.r C2.r;repeat' first|apply jb<;>intro _|simp(disch:=try exact jW) only[ja i0,ja i3,ja i4,ja i5,h2,Cp.q,C0.q,C1.q,C2.q,Cp.r,C0.r,C1.r,C2.r,r8,δ,ε])
   exact f
  .by_cases h3:x.op=3
   .have e:=VI vars enums fm x;rw[if_neg h1,if_neg h2,if_pos h3] at e;rw[qA,h3] at nk;unfold z6 z4 at *;cases hr:zi vars enums x with
    |er a b d=>
     rw[e,hr] at hK;rw[hr] at nk;rw[(by unfold wO;simp only[qq];rfl:wO=_)]
     (have zz:=a4 @Cp.r C0.r C1.r C2.r;repeat' first|apply jb<;>intro _|simp(disch:=try exact jW) only[ja i0,ja i3,ja i4,ja i5,h3,nk,kO,jgH,Cp.q,C0.q,C1.q,C2.q,Cp.r,C0.r,C1.r,C2.r,r8,δ,ε])
     exact hK _ (Ze k)
    |ok y=>
     obtain⟨y,m⟩:=y;have f:=fin y m (wr (wr s (q+1) 0 (eE y)) (q+2) 0 (mtE m)) ((k.wr (.inr (by show st.nx<=_;omega)) _ _).wr (.inr (by show st.nx<=_;omega)) _ _) (ckX) (e.trans hr);rw[hr] at nk;unfold iQ iP y97;rw[(by unfold wO;simp only[qq];rfl:wO=_)]
     (have zz:=a4 @Cp.r C0.r C1.r C2.r;repeat' first|apply jb<;>intro _|simp(disch:=try exact jW) only[ja i0,ja i3,ja i4,ja i5,h3,nk,kO,JH,Cp.q,C0.q,C1.q,C2.q,Cp.r,C0.r,C1.r,C2.r,r8,δ,ε])
     exact f
   .have ee:=λL (j0:Has L 0 (.ptr p 0)) (j3:Has L 3 (.ptr q 0)) (j4:Has L 4 (.ptr (q+1) 0)) (j5:Has L 5 (.ptr (q+2) 0))=>jr9 hb V ih hn hw H ⟨h1,h2,h3⟩ k hs qn hp Cp C0 C1 C2 j0 j3 j4 j5 K Kp hK;rw[(by unfold wO;simp only[qq];rfl:wO=_)]
    (have zz:=C0.r;repeat' first|apply jb<;>intro _|simp(disch:=try exact jW) only[ja i0,ja i3,h1,h2,h3,C0.q,C0.r,r8,δ,ε])
    refine ee _ ?_ ?_ ?_ ?_;all_goals exact hsX
theorem jr4 (hb:NB base){vars:List VarT}{enums:List EnumT}(V:VarsOK vars enums):∀ x:Ex,wh x=true->w5 x=true->KE base vars enums x:=by
 refine Ex.indk λx ih hn hw p v1 v2 v3 mm fm st H K Kp hK=>?_;have hn':QB x.kids=true:=by cases x;rw[wh,χ] at hn;exact hn.2
 have hw':x.kids.length<=1000000/\Zg x.kids=true:=by cases x;rw[w5,χ,decide_eq_true_eq] at hw;exact hw
 have ih':∀ k∈x.kids,KE base vars enums k:=λk hk=>by
  obtain⟨i,hi,rfl⟩:=Qbi.1 hk;exact ih _ hk (jaA hi hn') (Uh hi hw'.2)
 refine VK x97 haa (hb.pur 103 2 dc) (hb.no 103 dc _ _) ?_;simp only[y97,jr,ζ,η,θ,κ];have Cp:=H.cl.bar;have h0:p<st.nx:=H.cl.lt;have hB:st.bare.nx=st.nx:=rfl;rw[(by unfold z97;simp only[qq];rfl:z97=_)]
 (have zz:=@Cp.r;repeat' first|apply jb<;>intro _|simp(disch:=try exact jW) only[Cp.q,Cp.r,r8,δ,ε])
 have Hc:=H.cl;have n0:Cl (nw st.bare (eE x)) st.nx (eE x):=Cl.new st.bare (eE x);have n1:Cl (nw (nw st.bare (eE x)) z6) (st.nx+1) z6:=Cl.new _ _;have n2:Cl (nw (nw (nw st.bare (eE x)) z6) z4) (st.nx+2) z4:=Cl.new _ _;refine jsa (L:=[(5,.ptr (st.nx+1+1) 0),(4,.ptr (st.nx+1) 0),(3,.ptr st.nx 0),(0,.ptr p 0),(1,.agg (eE x))]) (s:=nw (nw (nw st.bare (eE x)) z6) z4) (st:=st) hb V ih' hn' hw'.1 H ((((Keep.refl (s:=st.bare)).nw _).nw _).nw _) rfl rfl h0 (ckX) (ckX) (ckX) n2 ?_ ?_ ?_ ?_ K Kp hK;all_goals exact⟨rfl,rfl⟩
variable {base:Bs}
def yD (vars:List VarT)(enums:List EnumT)(fm:Bool)(x:Ex)(w:Int)(en:Lt):KR Ex:=match ye vars enums fm x with
 |.er a b c=>.er a b c
 |.ok r=>if r.2.kind≠w\/r.2.enum≠en then .er 163 x.line x.col else .ok r.1
def KT (p:Nat)(v1 v2 v3 mm:AV)(fm:Bool)(st:St)(r:KR Ex)(K Kp:AV->St->Prop):Prop:=match r with
 |.ok y=>∀ s',Keep p st s'->Cl s' p [v1,v2,v3,mm,.bool fm]->K (.agg (eE y)) s'
 |.er c l k=>∀ s',Keep p st s'->Kp (kf c l k) s'
theorem kG (hb:NB base){vars:List VarT}{enums:List EnumT}(V:VarsOK vars enums)(x:Ex)(hn:wh x=true)(hw:w5 x=true)(w:Int)(en:Lt){p:Nat}{v1 v2 v3 mm:AV}{fm:Bool}{st:St}(H:Ck p v1 v2 v3 mm vars enums fm st)(K Kp:AV->St->Prop)(hK:KT p v1 v2 v3 mm fm st (yD vars enums fm x w en) K Kp):XB γ base 75 [.ptr p 0,.agg (eE x),.int .i64 w,.str en] st K Kp:=by
 refine VK x60 haa (hb.pur 75 2 dc) (hb.no 75 dc _ _) ?_;simp only[y60,jr,ζ,η,θ,κ];have Hc:=H.cl;have Cp:=H.cl.bar;have h0:p<st.nx:=H.cl.lt;have hB:st.bare.nx=st.nx:=rfl;have k1:Keep p st.bare (nw (nw st.bare (eE x)) [.int .i64 0,.int .i64 0,.str [],.nils,.int .i64 0,.int .i64 0]):=(Keep.refl.nw _).nw _;have C1:Cl (nw (nw st.bare (eE x)) [.int .i64 0,.int .i64 0,.str [],.nils,.int .i64 0,.int .i64 0]) p [v1,v2,v3,mm,.bool fm]:=ckX
 have n0:Cl (nw st.bare (eE x)) st.nx (eE x):=Cl.new st.bare (eE x);have n0:Cl (nw (nw st.bare (eE x)) [.int .i64 0,.int .i64 0,.str [],.nils,.int .i64 0,.int .i64 0]) st.nx (eE x):=ckX
 have n1:Cl (nw (nw st.bare (eE x)) [.int .i64 0,.int .i64 0,.str [],.nils,.int .i64 0,.int .i64 0]) (st.nx+1) [.int .i64 0,.int .i64 0,.str [],.nils,.int .i64 0,.int .i64 0]:=Cl.new _ _;rw[(by unfold z60;simp only[qq];rfl:z60=_)];repeat' first|apply jb<;>intro _|simp(disch:=try exact dzG) only[r8,δ,ε]
 refine jr4 hb V x hn hw p v1 v2 v3 mm fm _ (H.bare.keep k1 C1) _ _ ?_;unfold yD at hK;cases hr:ye vars enums fm x with
 |er a b c=>
  rw[hr] at hK;intro s' k2;exact hK _ (Ze (k1.trans k2))
 |ok y=>
  rw[hr] at hK;obtain⟨y,m⟩:=y;intro s' k2 C2;have k3:=k1.trans k2;have m0:=k2.cl n0 om;have m1:=k2.cl n1 om;have hnx:=k2.nx;have hnx:st.nx+2<=s'.nx:=hnx;have hK:KT p v1 v2 v3 mm fm st (if m.kind≠w\/m.enum≠en then .er 163 x.line x.col else .ok y) K Kp:=hK;generalize nw (nw st.bare (eE x)) [.int .i64 0,.int .i64 0,.str [],.nils,.int .i64 0,.int .i64 0]=t0 at *
  (have zz:=aI @m0.r @m1.r;repeat' first|apply jb<;>intro _|simp(disch:=try exact jW) only[Jh hb,m0.q,m1.q,m0.r,m1.r,r8,δ,ε])
  .rw[if_pos (.inl (by assumption))] at hK;exact hK _ (Ze ((((k3.nw _).nw _).wr (.inr (by show st.nx<=_;omega)) _ _).wr (.inr (by show st.nx<=_;omega)) _ _))
  .rw[if_pos (.inr (by assumption))] at hK;exact hK _ (Ze ((((k3.nw _).nw _).wr (.inr (by show st.nx<=_;omega)) _ _).wr (.inr (by show st.nx<=_;omega)) _ _))
  .rename_i h1 h2;rw[if_neg (by rintro (h|h)<;>contradiction)] at hK;refine Kb (m:=st.nx) (cs:=[v1,v2,v3,mm,.bool fm]) (FzD.agg (.pc (ya y))) (μ _) h0 (((((k3.nw _).nw _).wr (.inr (by show st.nx<=_;omega)) _ _).wr (.inr (by show st.nx<=_;omega)) _ _).wr (.inr (by show st.nx<=_;omega)) _ _) (ckX) hK
section
variable {P:Program} {e:En} {st s:St} {K:AV->St->Prop}
def jgM (st:St):ER:=st.alloc (.map []) λb st=>.ok (.map b) st
def VG (P:Program)(t:TypeId)(ok:Bool)(m k:AV)(st:St):ER:=(QC P t (O m) (O k) ok).run E0 st
def jcA (P:Program)(t:TypeId)(m k v:AV)(st:St):ER:=(Jm P t (O m) (O k) (O v)).run E0 st
theorem jnF:wK P base (.i .mkMap) e st K=jq (jgM st) K:=k_0 (V:=jgM) rfl (λ_=>rfl) K
theorem UG (t:TypeId)(m k:A)(ok:Bool):wK P base (.i (.look t m k ok)) e st K=on1 e m λv=>on1 e k λu=>jq (VG P t ok v u st) K:=k_2 rfl (λ_=>rfl) K
theorem jbN (t:TypeId)(m k x:A):wK P base (.i (.upd t m k x)) e st K=on1 e m λv=>on1 e k λu=>on1 e x λw=>jq (jcA P t v u w st) K:=k_3 rfl (λ_=>rfl) K
def mpl (ts:Lq):List (AV×AV):=ts.map λt=>(.str t,.int .i64 1)
def mp (s:St)(b:Nat)(es:List (AV×AV)):St:=⟨s.nx,(qh (jO b)).run (.map es) s.h,min s.dirty b,s.fr⟩
def nmp (s:St):St:=⟨s.nx+1,(qh (jO s.nx)).run (.map []) s.h,s.dirty,s.fr⟩
theorem jgI (s:St)(b:Nat)(es:List (AV×AV)):(mp s b es).nx=s.nx:=nr rfl
theorem jnw (s:St):(nmp s).nx=s.nx+1:=nr rfl
theorem WW (s:St)(b c:Nat)(es:List (AV×AV)):jv (mp s b es).h c=if c=b then some (.map es) else jv s.h c:=by unfold mp;rw[qd]
theorem Gz (s:St)(c:Nat):jv (nmp s).h c=if c=s.nx then some (.map []) else jv s.h c:=by unfold nmp;rw[qd]
structure Mp (s:St)(b:Nat)(ts:Lq):Prop where
 lt:b<s.nx
 get:jv s.h b=some (.map (mpl ts))
theorem Mp.new (s:St):Mp (nmp s) s.nx []:=⟨by rw[jnw];omega,by rw[Gz,if_pos rfl];rfl⟩
theorem Mp.keep {b:Nat}{ts:Lq}{t:St}(h:Mp s b ts)(h1:s.nx<=t.nx)(h2:jv t.h b=jv s.h b):Mp t b ts:=⟨Qau h.lt h1,h2.trans h.get⟩
theorem Mp.put {b:Nat}{ts us:Lq}(h:Mp s b ts):Mp (mp s b (mpl us)) b us:=⟨by rw[jgI];exact h.lt,by rw[WW,if_pos rfl]⟩
theorem jm8:jq (jgM st) K=K (.map st.nx) (nmp st):=by
 unfold jgM;rw[St.alloc_eq];rfl
end
theorem gA:Tryz.prog.underlying 89=some (.map 9 3):=Qa0
theorem jq0:Tryz.prog.underlying 9=some .string:=Qa0
theorem ze3:gj γ 3=some (.int .i64 0):=Qa0
theorem kf9 (s:Lt):(wQ γ 9).run (.str s)=true:=by unfold wQ;rw[jq0]
theorem eq9 (s t:Lt):(eqF γ 20 9).run (.str s) (.str t)=some (decide (s=t)):=by
 show(eqF γ (19+1) 9).run (.str s) (.str t)=_;unfold eqF;rw[jq0,<-Ql]
theorem jfy (nm:Lt):∀ ts:Lq,wu (eqF γ 20 9) (.str nm) (mpl ts)=some (if nm∈ts then some (.int .i64 1) else none)
 |[]=>rfl
 |t :: ts=>by
  show(match (eqF γ 20 9).run (.str nm) (.str t) with|some b=>cond b (some (some (AV.int .i64 1))) (wu (eqF γ 20 9) (.str nm) (mpl ts))|none=>none)=_;rw[eq9,jfy nm ts];by_cases h:nm=t
  .simp[h]
  .simp[h]
theorem jid (nm:Lt):∀ ts:Lq,nm∉ts->ua (eqF γ 20 9) (.str nm) (.int .i64 1) (mpl ts)=some (mpl (ts ++ [nm]))
 |[],_=>rfl
 |t :: ts,h=>by
  have h1:nm≠t:=λe=>h (by simp[e]);have h2:=jid nm ts λe=>h (by simp[e]);show(match (eqF γ 20 9).run (.str nm) (.str t) with
   |some b=>cond b (cond (VY (.str nm) (.str t)) (some (Qan (AV.str nm,AV.int .i64 1) (mpl ts))) none) (match ua (eqF γ 20 9) (.str nm) (.int .i64 1) (mpl ts) with|some l=>some (Qan (AV.str t,AV.int .i64 1) l)|none=>none)
   |none=>none)=_
  rw[eq9,h2];simp[h1,mpl]
section
variable {st:St} {K:AV->St->Prop}
theorem jqU {b:Nat}{ts:Lq}(h:Mp st b ts)(nm:Lt):jq (VG γ 89 false (.map b) (.str nm) st) K=K (.int .i64 (if nm∈ts then 1 else 0)) st:=by
 unfold VG QC;rw[gA];simp only[ze3];show jq (cond ((wQ γ 9).run (.str nm)) (X9 (jv st.h b) λes=>jT (wu (eqF γ 20 9) (.str nm) es) λo=>_) .no) K=_;rw[kf9,h.get];show jq (jT (wu (eqF γ 20 9) (.str nm) (mpl ts)) λo=>_) K=_;rw[jfy];by_cases h:nm∈ts
 .simp only[if_pos h];rfl
 .simp only[if_neg h];rfl
theorem js4 {b:Nat}{ts:Lq}(h:Mp st b ts){nm:Lt}(hn:nm∉ts):jq (jcA γ 89 (.map b) (.str nm) (.int .i64 1) st) K=K qm (mp st b (mpl (ts ++ [nm]))):=by
 unfold jcA Jm;rw[gA];show jq (cond ((wQ γ 9).run (.str nm)) (X9 (jv st.h b) λes=>jT (ua (eqF γ 20 9) (.str nm) (.int .i64 1) es) λes=>st.put b (.map es) λst=>.ok qm st) .no) K=_;rw[kf9,h.get];show jq (jT (ua (eqF γ 20 9) (.str nm) (.int .i64 1) (mpl ts)) λes=>st.put b (.map es) λst=>.ok qm st) K=_;rw[jid nm ts hn];show jq (st.put b (.map (mpl (ts ++ [nm]))) λst=>.ok qm st) K=_;rw[St.put_eq];rfl
end
theorem gG (hb:NB base){p mb:Nat}{v1 v2 v3:AV}{fm:Bool}{ts:Lq}{st:St}(C:Cl st p [v1,v2,v3,.map mb,.bool fm])(M:Mp st mb ts)(nm:Lt)(l c:Int)(K Kp:AV->St->Prop)
  (hK:if nm∈ts then Kp (kf 162 l c) st else K (.tup []) (mp st mb (mpl (ts ++ [nm])))):XB γ base 70 [.ptr p 0,.str nm,.int .i64 l,.int .i64 c] st K Kp:=by
 refine zP x63 haa (hb.at0 70 dc dc _ _) ?_;simp only[y63,jr,ζ,η,θ,κ];rw[(by unfold z63;simp only[qq];rfl:z63=_)];have M:Mp st.bare mb ts:=⟨M.lt,M.get⟩;have hK:if nm∈ts then Kp (kf 162 l c) (bk st st.bare) else K (.tup []) (bk st (mp st.bare mb (mpl (ts ++ [nm])))):=hK
 have C:=C.bar;have hbk:bk st st.bare=st:=rfl;have hbc:back st st.bare=st:=rfl;have hbb:st.bare.bare=st.bare:=rfl;generalize st.bare=s0 at *;have L1:=λK nm=>jqU (st:=s0) (K:=K) M nm;by_cases h:nm∈ts
 .rw[if_pos h] at hK
  (have zz:=C.r;repeat' first|apply jb<;>intro _|simp(disch:=try exact jW) only[UG,jbN,L1,h,if_true,Jh hb,C.q,C.r,r8,δ,ε])
  exact hK
 .rw[if_neg h] at hK;have U1:=λK=>js4 (st:=s0) (K:=K) M h
  (have zz:=C.r;repeat' first|apply jb<;>intro _|simp(disch:=try exact jW) only[UG,jbN,L1,U1,h,if_false,show((0:Int)+1)=1 from rfl,Jh hb,C.q,C.r,r8,δ,ε])
  exact hK
variable {base:Bs}
structure Kq (p mb lo:Nat)(s s':St):Prop where
 nx:s.nx<=s'.nx
 fr:s'.fr=s.fr
 get:∀ b,b<lo->b≠p->b≠mb->jv s'.h b=jv s.h b
section
variable {p mb lo:Nat} {s t u:St}
theorem Kq.refl:Kq p mb lo s s:=⟨μ _,rfl,λ_ _ _ _=>rfl⟩
theorem Kq.trans (h:Kq p mb lo s t)(k:Kq p mb lo t u):Kq p mb lo s u:=⟨ψ h.nx k.nx,k.fr.trans h.fr,λb h1 h2 h3=>(k.get b h1 h2 h3).trans (h.get b h1 h2 h3)⟩
theorem Kq.nw (h:Kq p mb lo s t)(hl:lo<=t.nx)(ds:List AV):Kq p mb lo s (Go.Sy.nw t ds):=⟨Qct h.nx,h.fr,λb h1 h2 h3=>(q8 om).trans (h.get b h1 h2 h3)⟩
theorem Kq.wr (h:Kq p mb lo s t){c:Nat}(hc:c=p\/lo<=c)(o:Nat)(vs:List AV):Kq p mb lo s (Go.Sy.wr t c o vs):=⟨h.nx,h.fr,λb h1 h2 h3=>(zN om).trans (h.get b h1 h2 h3)⟩
theorem Kq.kl (h:Kq p mb lo s t){c:Nat}(hc:lo<=c):Kq p mb lo s (Go.Sy.kl c t):=⟨h.nx,h.fr,λb h1 h2 h3=>(um om).trans (h.get b h1 h2 h3)⟩
theorem Kq.mp (h:Kq p mb lo s t)(es:List (AV×AV)):Kq p mb lo s (Go.Sy.mp t mb es):=⟨h.nx,h.fr,λb h1 h2 h3=>by rw[WW,if_neg h3];exact h.get b h1 h2 h3⟩
theorem Kq.aps (h:Kq p mb lo s t){hi n z:Nat}{v:AV}{ds:List AV}{u:St}(V:Lv lo hi u v n ds z)(hl:lo<=t.nx)(news:List AV):Kq p mb lo s (Go.Sy.aps v t news):=⟨by rw[jp];exact Qct h.nx,by rw[Yw];exact h.fr,λb h1 h2 h3=>(V.get t news b (.inl h1) om).trans (h.get b h1 h2 h3)⟩
theorem Kq.keep (h:Kq p mb lo s t)(k:Keep p t u)(hl:lo<=t.nx):Kq p mb lo s u:=⟨ψ h.nx k.nx,k.fr.trans h.fr,λb h1 h2 h3=>(k.get b om h2).trans (h.get b h1 h2 h3)⟩
theorem Kq.cl (h:Kq p mb lo s t){b:Nat}{cs:List AV}(C:Cl s b cs)(h1:b<lo)(h2:b≠p)(h3:b≠mb):Cl t b cs:=C.keep h.nx (h.get b h1 h2 h3)
theorem Kq.bk (h:Kq p mb lo s.bare t):Kq p mb lo s (bk s t):=⟨h.nx,rfl,h.get⟩
end
theorem Mp.nw {s:St}{b:Nat}{ts:Lq}(h:Mp s b ts)(ds:List AV):Mp (Go.Sy.nw s ds) b ts:=h.keep (Nat.le_succ _) (q8 (by have:=h.lt;omega))
theorem Mp.wr {s:St}{b:Nat}{ts:Lq}(h:Mp s b ts){c:Nat}(hc:b≠c)(o:Nat)(ds:List AV):Mp (Go.Sy.wr s c o ds) b ts:=h.keep (μ _) (zN hc)
theorem V4 {s:St}{b c:Nat}{es:List (AV×AV)}{cs:List AV}(h:c≠b):Cl (mp s b es) c cs=Cl s c cs:=propext ⟨λC=>C.keep (QaM (jgI s b es)) (by rw[WW,if_neg h]),λC=>C.keep (μ _) (by rw[WW,if_neg h])⟩
structure MS (p mb lo hi:Nat)(m:ModT)(ts:Lq)(v1 v2 v3:AV)(s:St):Prop where
 cp:Cl s p [v1,v2,v3,.map mb,.bool false]
 mp:Mp s mb ts
 l1:Lv lo hi s v1 m.vars.length (fl vaE m.vars) 7
 l2:Lv lo hi s v2 m.enums.length (fl enE m.enums) 4
 l3:Lv lo hi s v3 m.moves.length (fl moE m.moves) 7
 d12:Df v1 v2
 d13:Df v1 v3
 d23:Df v2 v3
 hp:p<lo
 hm:mb<lo
 pm:p≠mb
 lo:lo<=hi
 hi:hi<=s.nx
def MX (p mb lo:Nat)(m:ModT)(ts:Lq)(s:St):Prop:=∃ v1 v2 v3,MS p mb lo s.nx m ts v1 v2 v3 s
section
variable {p mb lo hi:Nat} {m:ModT} {ts us:Lq} {v1 v2 v3:AV} {s t:St}
theorem Lv.mp {n z:Nat}{v:AV}{cs:List AV}{es:List (AV×AV)}(h:Lv lo hi s v n cs z)(hm:mb<lo):Lv lo hi (Go.Sy.mp s mb es) v n cs z:=h.imp id λ⟨c,h1,h2,h3,h4,h5,h6⟩=>⟨c,h1,h2,h3,by rw[V4 om];exact h4,h5,h6⟩
theorem MS.nw (S:MS p mb lo hi m ts v1 v2 v3 s)(ds:List AV):MS p mb lo hi m ts v1 v2 v3 (Go.Sy.nw s ds):=by
 obtain⟨C,M,l1,l2,l3,d12,d13,d23,hp,hm,pm,h1,h2⟩:=S;exact⟨ckX,M.nw ds,ckX,ckX,ckX,d12,d13,d23,hp,hm,pm,h1,by rw[jg];omega⟩
theorem MS.wr (S:MS p mb lo hi m ts v1 v2 v3 s){c:Nat}(hc:hi<=c)(o:Nat)(ds:List AV):MS p mb lo hi m ts v1 v2 v3 (Go.Sy.wr s c o ds):=by
 obtain⟨C,M,l1,l2,l3,d12,d13,d23,hp,hm,pm,h1,h2⟩:=S;exact⟨ckX,M.wr om o ds,ckX,ckX,ckX,d12,d13,d23,hp,hm,pm,h1,by rw[jn];omega⟩
theorem MS.take (S:MS p mb lo hi m ts v1 v2 v3 s)(us:Lq):MS p mb lo hi m us v1 v2 v3 (Go.Sy.mp s mb (mpl us)):=by
 obtain⟨C,M,l1,l2,l3,d12,d13,d23,hp,hm,pm,h1,h2⟩:=S;exact⟨by rw[V4 pm];exact C,M.put,l1.mp hm,l2.mp hm,l3.mp hm,d12,d13,d23,hp,hm,pm,h1,h2⟩
theorem MS.keep (S:MS p mb lo hi m ts v1 v2 v3 s)(k:Keep p s t)(C':Cl t p [v1,v2,v3,.map mb,.bool false]):MS p mb lo hi m ts v1 v2 v3 t:=by
 obtain⟨C,M,l1,l2,l3,d12,d13,d23,hp,hm,pm,h1,h2⟩:=S;exact⟨C',M.keep k.nx (k.get mb M.lt om),k.lv l1 (.inl hp),k.lv l2 (.inl hp),k.lv l3 (.inl hp),d12,d13,d23,hp,hm,pm,h1,ψ h2 k.nx⟩
theorem MS.up (S:MS p mb lo hi m ts v1 v2 v3 s){hi':Nat}(h:hi<=hi')(h2:hi'<=s.nx):MS p mb lo hi' m ts v1 v2 v3 s:=by
 obtain⟨C,M,l1,l2,l3,d12,d13,d23,hp,hm,pm,h1,h3⟩:=S;exact⟨C,M,l1.up h,l2.up h,l3.up h,d12,d13,d23,hp,hm,pm,ψ h1 h,h2⟩
theorem MS.bare (S:MS p mb lo hi m ts v1 v2 v3 s):MS p mb lo hi m ts v1 v2 v3 s.bare:=by
 obtain⟨C,M,l1,l2,l3,d12,d13,d23,hp,hm,pm,h1,h2⟩:=S;exact⟨C.bar,⟨M.lt,M.get⟩,by rw[jH];exact l1,by rw[jH];exact l2,by rw[jH];exact l3,d12,d13,d23,hp,hm,pm,h1,h2⟩
theorem MS.ofbk {u:St}(S:MS p mb lo hi m ts v1 v2 v3 s):MS p mb lo hi m ts v1 v2 v3 (bk u s):=by
 obtain⟨C,M,l1,l2,l3,d12,d13,d23,hp,hm,pm,h1,h2⟩:=S;have e:∀ b cs,Cl s b cs->Cl (bk u s) b cs:=λb cs h=>⟨h.lt,h.row,h.len,h.cell⟩;have el:∀ v n cs z,Lv lo hi s v n cs z->Lv lo hi (bk u s) v n cs z:=λv n cs z h=>h.imp id λ⟨c,h1,h2,h3,h4,h5,h6⟩=>⟨c,h1,h2,h3,e _ _ h4,h5,h6⟩;exact⟨e _ _ C,⟨M.lt,M.get⟩,el _ _ _ _ l1,el _ _ _ _ l2,el _ _ _ _ l3,d12,d13,d23,hp,hm,pm,h1,h2⟩
theorem MS.enum (S:MS p mb lo hi m ts v1 v2 v3 s)(e:EnumT):MS p mb lo (s.nx+1) { m with enums:=m.enums ++ [e] } ts v1 (apv 4 v2 s) v3 (Go.Sy.wr (Go.Sy.aps v2 s (enE e)) p 1 [apv 4 v2 s]):=by
 obtain⟨C,M,l1,l2,l3,d12,d13,d23,hp,hm,pm,h1,h2⟩:=S;have h4:=C.lt;have hn:(Go.Sy.wr (Go.Sy.aps v2 s (enE e)) p 1 [apv 4 v2 s]).nx=s.nx+1:=by rw[jn,jp]
 refine⟨?_,?_,?_,?_,?_,(Df.put l1 h2).2,d13,(Df.put l3 h2).1,hp,hm,pm,om,by rw[hn];exact μ _⟩
 .exact(cast (l2.cl s (enE e) _ p (.inl hp) h4).symm C:Cl (Go.Sy.aps v2 s (enE e)) p _).wr 1 [apv 4 v2 s]
 .exact M.keep (by rw[hn];omega) (by rw[zN (λh=>pm h.symm)];exact l2.get s (enE e) mb (.inl hm) M.lt)
 .rw[jA (.inl hp)];exact(l1.apsD (Df.symm d12)).up om
 .rw[jA (.inl hp),ν,QH,Qf];exact l2.put (Q6 e) om rfl
 .rw[jA (.inl hp)];exact(l3.apsD d23).up om
end
def KM (p mb lo:Nat)(st:St)(r:KR (ModT×Lq))(K Kp:AV->St->Prop):Prop:=match r with
 |.ok y=>∀ s',Kq p mb lo st s'->MX p mb lo y.1 y.2 s'->K (.tup []) s'
 |.er c l k=>∀ s',Kq p mb lo st s'->Kp (kf c l k) s'
def XX (ts:Lq)(nm:Lt)(l c:Int):KR Lq:=if nm∈ts then .er 162 l c else .ok (ts ++ [nm])
def zA (l c:Int):Lq->Lq->KR Lq
 |ts,[]=>.ok ts
 |ts,n :: ns=>match XX ts n l c with
  |.er a b d=>.er a b d
  |.ok ts=>zA l c ts ns
def vC (m:ModT)(ts:Lq)(e:EnumT):KR (ModT×Lq):=match zA e.line e.col ts (e.name :: e.vals) with
 |.er a b d=>.er a b d
 |.ok ts=>.ok ({ m with enums:=m.enums ++ [e] },ts)
theorem Vh {l c:Int}:∀ {xs ys:Lq} {ts:Lq},zA l c ts (xs ++ ys)=match zA l c ts xs with | .er a b d=>.er a b d | .ok us=>zA l c us ys
 |[],ys,ts=>rfl
 |x :: xs,ys,ts=>by
  simp only[Qag,zA];cases XX ts x l c with
  |er a b d=>rfl
  |ok us=>exact Vh
theorem jsg (hb:NB base)(hcl:∀ vs:Lq,0<vs.length->vs.length<=1000000->Tot base 91 [.lst vs.length (vs.map .str)] (.lst vs.length (vs.map .str))){p mb lo:Nat}{m:ModT}{ts:Lq}{st:St}(e:EnumT)(hv:0<e.vals.length)(hv2:e.vals.length<=1000000)(hE:m.enums.length<=1000000)(H:MX p mb lo m ts st)(K Kp:AV->St->Prop)(hK:KM p mb lo st (vC m ts e) K Kp):XB γ base 68 [.ptr p 0,.agg (enE e)] st K Kp:=by
 obtain⟨v1,v2,v3,S⟩:=H;obtain⟨C,M,l1,l2,l3,d12,d13,d23,hp,hm,pm,lo0,hi0⟩:=id S;refine zP x61 haa (hb.at0 68 dc dc _ _) ?_;simp only[y61,jr,ζ,η,θ,κ];rw[(by unfold z61;simp only[qq];rfl:z61=_)];have q0:Kq p mb lo st.bare st.bare:=Kq.refl;have hnx:st.bare.nx=st.nx:=rfl;have S0:=S.bare.nw (enE e);have q1:=q0.nw lo0 (enE e);have Cb:Cl (nw st.bare (enE e)) st.nx (enE e):=Cl.new st.bare (enE e);unfold vC at hK;repeat' first|apply jb<;>intro _|simp(disch:=try exact dzG) only[r8,δ,ε]
 refine gG hb S0.cp S0.mp _ _ _ _ _ ?_;by_cases h:e.name∈ts
 .rw[if_pos h];have e1:zA e.line e.col ts (e.name :: e.vals)=.er 162 e.line e.col:=by simp only[zA,XX,if_pos h]
  rw[e1] at hK;exact hK _ q1.bk
 .rw[if_neg h];have e1:zA e.line e.col ts (e.name :: e.vals)=zA e.line e.col (ts ++ [e.name]) e.vals:=by simp only[zA,XX,if_neg h]
  rw[e1] at hK
  replace S0:=S0.take (ts ++ [e.name])
  replace q1:=q1.mp (mpl (ts ++ [e.name]))
  have Cb:Cl (Go.Sy.mp (nw st.bare (enE e)) mb (mpl (ts ++ [e.name]))) st.nx (enE e):=by rw[V4 om];exact Cb
  have hn1:(Go.Sy.mp (nw st.bare (enE e)) mb (mpl (ts ++ [e.name]))).nx=st.nx+1:=rfl;generalize Go.Sy.mp (nw st.bare (enE e)) mb (mpl (ts ++ [e.name]))=s1 at *
  (have zz:=@Cb.r;repeat' first|apply jb<;>intro _|simp(disch:=try exact jW) only[Cb.q,Cb.r,r8,δ,ε])
  refine jV e.vals.length (λk L s=>∃ us,zA e.line e.col (ts ++ [e.name]) (e.vals.take k)=.ok us/\MS p mb lo st.nx m us v1 v2 v3 s/\Kq p mb lo st.bare s/\st.nx+1<=s.nx/\Cl s st.nx (enE e)/\Has L 0 (.ptr p 0)/\Has L 3 (.ptr st.nx 0)/\Has L 15 (.lst e.vals.length (e.vals.map .str))) ?_ (λk L s hk hI hi hn=>?_) (λL s hI=>?_)
  .refine⟨_,by rw[QaH,zA],S0,q1,om,Cb,?_,?_,?_⟩<;>exact hsX
  .obtain⟨us,h1,S1,q1,hnn,Cb,i0,i3,i15⟩:=hI;have tk:e.vals.take (k+1)=e.vals.take k ++ [e.vals[k]]:=yt hk
   (have zz:=@Cb.r;repeat' first|apply jb<;>intro _|simp(disch:=try exact jW) only[ja i0,ja i3,ja i15,ja hi,ja hn,jhR hk,Cb.q,Cb.r,r8,δ,ε])
   refine gG hb S1.cp S1.mp _ _ _ _ _ ?_;by_cases h:e.vals[k]∈us
   .rw[if_pos h];have e2:zA e.line e.col (ts ++ [e.name]) e.vals=.er 162 e.line e.col:=by
     have e3:e.vals=e.vals.take k ++ (e.vals[k] :: e.vals.drop (k+1)):=by rw[QbY,Qbr]
     rw[e3,Vh,h1];simp only[zA,XX,if_pos h]
    rw[e2] at hK;exact hK _ q1.bk
   .rw[if_neg h];have e2:zA e.line e.col (ts ++ [e.name]) (e.vals.take (k+1))=.ok (us ++ [e.vals[k]]):=by
     rw[tk,Vh,h1];simp only[zA,XX,if_neg h]
    repeat' first|apply jb<;>intro _|simp(disch:=try exact dzG) only[r8,δ,ε]
    refine⟨⟨_,e2,S1.take _,q1.mp _,by rw[jgI];exact hnn,by rw[V4 om];exact Cb,?_,?_,?_⟩,?_,?_⟩<;>exact hsX
  .obtain⟨us,h1,S1,q1,hnn,Cb,i0,i3,i15⟩:=hI;rw[Qab] at h1;rw[h1] at hK;have T:=λ(h:0<e.vals.length)=>hcl e.vals h hv2;have Cp:=S1.cp;have V2:=S1.l2;have ve2:=V2.eqs;have Ap:=λst' bv xc xx K h hv=>@JK lo st.nx m.enums.length 4 st' v2 (fl enE m.enums) K 56 bv xc xx h dc om om hv;have hqp:st.nx≠p:=om
   have S2:=(S1.nw (enE e)).enum e;have S2:=(S2.up (by(first|omega|(simp only[jg,jn,jt,jp,jo];first|done|omega))) (μ _)).ofbk (u:=st);have q2:=(((q1.nw om (enE e)).aps V2 (by(first|omega|(simp only[jg,jn,jt,jp,jo];first|done|omega))) (enE e)).wr (.inl rfl) 1 [apv 4 v2 (nw s (enE e))]).bk;have g0:rat s.h st.nx 0=.str e.name:=(Cb.cell 0 (by rw[Q6];decide)).trans (by rw[jhh];rfl);have g2:rat s.h st.nx 2=.int .i64 e.line:=(Cb.cell 2 (by rw[Q6];decide)).trans (by rw[jhh];rfl);have g3:rat s.h st.nx 3=.int .i64 e.col:=(Cb.cell 3 (by rw[Q6];decide)).trans (by rw[jhh];rfl);have gp:rat s.h p 1=v2:=Cp.cell 1 (by simp only[ξ,φ];omega);have ln:qp s.h st.nx=4:=by rw[Cb.len,Q6]
   (have zz:=a8 V2.ln V2.rts @jA @jG @jK @V2 @jC (a4 @jJ @jN @Cb.r @Cp.r);repeat' first|apply jb<;>intro _|simp(disch:=try exact jW) only[ja i0,ja i3,T hv,Ap,Hn,sm9,Hm,sm3,ve2,V2.at,jC,Cb.q,Cp.q,V2.ln,V2.rts,jA,jG,jK,V2,jC,jJ,jN,Cb.r,Cp.r,r8,δ,ε])
   have a9:=(sm9 om g0 rfl).mpr trivial;have a2:=(sm3 om g2 rfl).mpr trivial;have a3:=(sm3 om g3 rfl).mpr trivial;have a23:=(Hn (by rw[Cp.len];simp only[ξ,φ];omega) gp ve2).mpr trivial;repeat' apply aI
   all_goals first|exact a9|exact a23|exact a2|exact a3|exact hK _ q2 ⟨_,_,_,S2⟩
mutual
def Qg:Ex->Option Ex
 |.mk op num name ks l c=>if op=4 then some (.mk op num name ks l c) else Jg ks
def Jg:List Ex->Option Ex
 |[]=>none
 |x :: xs=>match Qg x with
  |some y=>some y
  |none=>Jg xs
end
theorem u4 (x:Ex):Qg x=if x.op=4 then some x else Jg x.kids:=by cases x;rw[Qg];rfl
theorem Wu:∀ {xs ys:List Ex},Jg (xs ++ ys)=match Jg xs with|some y=>some y|none=>Jg ys
 |[],ys=>rfl
 |x :: xs,ys=>by
  simp only[Qag,Jg];cases Qg x with
  |some y=>rfl
  |none=>exact Wu
def JE (x:Ex):Ex×Bool:=match Qg x with
 |some y=>(y,true)
 |none=>(x,false)
theorem G0.exb {s:St}{a:List AV}{b:Bool}{u:AV}(h:u=.tup [.agg a,.bool b])(ha:a.all pc=true):G0 u (.tup [.agg a,.bool b]) s:=by
 subst h;exact FzD.tup (.cons (.agg (.pc ha)) (.cons (.pc rfl) .nil))
theorem jo3 (hb:NB base):∀ x:Ex,w5 x=true->Tot base 95 [.agg (eE x)] (.tup [.agg (eE (JE x).1),.bool (JE x).2]):=by
 refine Ex.indk λx ih hw=>?_;have hw':x.kids.length<=1000000/\Zg x.kids=true:=by cases x;rw[w5,χ,decide_eq_true_eq] at hw;exact hw
 refine hb.tot ?_ (by first|rfl|simp[pa,pc,ya,Xu,Qh,JS,Yz,vf,wk,Ju,wj]) rfl;refine jE ju3 haa (hb.pur 95 1 dc) ?_;simp only[jqD,jr,ζ,η,θ,κ];rw[(by unfold jli;simp only[qq];rfl:jli=_)];repeat' first|apply jb<;>intro _|simp(disch:=try exact dzG) only[r8,δ,ε]
 .rename_i h;have e:JE x=(x,true):=by unfold JE;rw[u4,if_pos h]
  rw[e];exact G0.exb rfl (ya x)
 rename_i h;have e0:Qg x=Jg x.kids:=by rw[u4,if_neg h]
 refine jV x.kids.length (λk L s=>Jg (x.kids.take k)=none/\2<=s.nx/\Cl s 0 (eE x)/\Cl s 1 z6/\Has L 1 (.ptr 0 0)/\Has L 2 (.ptr 1 0)/\Has L 13 (.lst x.kids.length (fl eE x.kids))) ?_ (λk L s hk hI hi hn=>?_) (λL s hI=>?_)
 .refine⟨by rw[QaH,Jg],by(first|omega|(simp only[jg,jn,jt,jp,jo];first|done|omega)),?_,Cl.new _ _,?_,?_,?_⟩
  .have n0:=Cl.new st0 (eE x);exact n0.nw _
  all_goals simp(disch:=decide) only[jm,ju]
 .obtain⟨h1,h2,C0,C1,i1,i2,i13⟩:=hI;have E:=ih x.kids[k] (ω hk) (Uh hk hw'.2);have tk:x.kids.take (k+1)=x.kids.take k ++ [x.kids[k]]:=yt hk;cases hf:Qg x.kids[k] with
  |some y=>
   have e:JE x=(y,true):=by
    unfold JE;have e3:x.kids=x.kids.take k ++ (x.kids[k] :: x.kids.drop (k+1)):=by rw[QbY,Qbr]
    rw[e0,e3,Wu,h1];simp only[Jg,hf]
   have e2:JE x.kids[k]=(y,true):=by unfold JE;rw[hf]
   rw[e2] at E;unfold z6 at C1
   (have zz:=aI C0.r C1.r;repeat' first|apply jb<;>intro _|simp(disch:=try exact jW) only[ja i1,ja i2,ja i13,ja hi,ja hn,E,C0.q,C1.q,C0.r,C1.r,r8,δ,ε])
   rw[e];exact G0.exb rfl (ya y)
  |none=>
   have e2:JE x.kids[k]=(x.kids[k],false):=by unfold JE;rw[hf]
   rw[e2] at E
   (have zz:=aI C0.r C1.r;repeat' first|apply jb<;>intro _|simp(disch:=try exact jW) only[ja i1,ja i2,ja i13,ja hi,ja hn,E,C0.q,C1.q,C0.r,C1.r,r8,δ,ε])
   refine⟨⟨?_,by(first|omega|(simp only[jg,jn,jt,jp,jo];first|done|omega)),ckX,ckX,?_,?_,?_⟩,?_,?_⟩
   .rw[tk,Wu,h1];simp only[Jg,hf]
   all_goals exact hsX
 .obtain⟨h1,h2,C0,C1,i1,i2,i13⟩:=hI;rw[Qab] at h1;have e:JE x=(x,false):=by unfold JE;rw[e0,h1]
  unfold z6 at C1
  (have zz:=aI C0.r C1.r;repeat' first|apply jb<;>intro _|simp(disch:=try exact jW) only[ja i1,ja i2,C0.q,C1.q,C0.r,C1.r,r8,δ,ε])
  rw[e,<-qA];exact G0.exb rfl (ya x)
end Go.Sy
end
