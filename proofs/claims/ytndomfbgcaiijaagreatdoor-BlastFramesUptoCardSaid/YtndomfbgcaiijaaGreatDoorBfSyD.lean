import Derived.Test.YtndomfbgcaiijaaGreatDoorBfSyC
import Derived.Test.YtndomfbgcaiijaaGreatDoorProg
import Derived.KernelRfl
import Derived.ChangeArms
set_option linter.unusedVariables false
set_option linter.unusedSimpArgs false
set_option maxHeartbeats 8000000
open Nat renaming reduceAdd -> γ, reduceSub -> ε, le_refl -> η, le_trans -> χ, zero_le -> Qae, zero_add -> Qaj, lt_or_ge -> Qaq, lt_of_lt_of_le -> Qat, mul_le_mul_right -> QaA, sub_zero -> QaF, not_lt_zero -> QaI, succ_pos -> QaS, zero_mul -> QaV, succ_mul -> QaX, le_of_eq -> QaY, lt_irrefl -> Qba, le_succ -> Qbd, add_assoc -> Qbj, mod_eq_of_lt -> Qby, succ_lt_succ -> QbF, le_succ_of_le -> Qcu, beq -> QcA, ble -> QcC
open Go.Proofs.Tryz renaming prog -> δ
open List renaming map_cons -> ζ, map_nil -> θ, getD_cons_zero -> κ, getD_cons_succ -> μ, length_cons -> τ, length_append -> υ, length_nil -> φ, getElem_mem -> Qaa, getD_eq_getElem?_getD -> Qab, length_map -> Qac, getElem?_eq_getElem -> Qad, getD -> Qaf, all_eq_true -> Qah, cons_append -> Qai, take_length -> Qak, cons -> Qal, nil_append -> Qam, length_take -> Qas, length_drop -> Qav, map_append -> Qay, append_assoc -> QaB, all_cons -> QaC, take_zero -> QaG, all_append -> QaN, mem_map -> QaQ, mem_cons -> QaT, append_nil -> QaU, eq_nil_of_length_eq_zero -> Qbi, mem_iff_getElem -> Qbm, range_succ -> Qbs, getElem_cons_zero -> Qbv, drop_drop -> Qbw, take_append_drop -> QbD, take_succ_eq_append_getElem -> QbG, getElem?_take -> QbH, getElem_cons_succ -> QbN, length_pos_iff -> QbO, getElem_cons_drop -> QbP, getElem?_drop -> QbR, mem_of_mem_take -> QbS, take_add_one -> QbX, foldl_append -> Qca, flatMap_cons -> Qcm, getElem_append_left -> Qcx, getElem_append_right -> Qcy
open Bool renaming and_eq_true -> ψ, eq_iff_iff -> Qaw, or_eq_true -> QaE, not_eq_true' -> QaO, false_eq_true -> QaP, true_eq_false -> QbE, true_and -> QbJ, eq_false_iff -> Qcd
open Array renaming length_toList -> Qan, getElem?_eq_some_iff -> Qax, getElem?_toList -> QbM
open Option renaming getD_some -> QaM
noncomputable section
set_option maxRecDepth 100000
namespace Go.Sy
open Go.Ev Go.Proofs
variable {base:Bs}
variable {b o i j n:Nat}{v:AV}{h:T AO}{ts:List Tk}{s:St}{cs:List AV}{q:Nat×Nat×Nat}{l:Lc}
structure AsT where
 name:Lc
 to:Ex
 line:Int
 col:Int
def asE (a:AsT):List AV:=.str a.name :: (eE a.to ++ [.int .i64 (a.line:Int),.int .i64 (a.col:Int)])
theorem vb (a:AsT):(asE a).length=9:=nr (by simp[asE,Jp])
theorem Q7 (a:AsT):(asE a).all pc=true:=nr (by simp[asE,yd,pc])
theorem GQ (a:AsT):lall AV.cell (asE a)=true:=nr (by unfold asE;rw[qx];rfl)
structure RuleT where
 when:Ex
 acts:List AsT
def ruE (r:RuleT):List AV:=eE r.when ++ [.lst r.acts.length (fl asE r.acts)]
def Yp (ts:List Tk):Nat->Nat->List AsT->SR (List AsT)
 |0,i,_=>.er (tk ts i)
 |n+1,i,vs=>if(tk ts i).kind=1 then
   (if 32<=vs.length then .er (tk ts i)
    else if isM (tk ts (i+1)) [[58,61]]=true then(match yY ts (i+2) with
     |.er t=>.er t
     |.ok x j=>
      if isM (tk ts j) [[44]]=true then Yp ts n (j+1) (vs ++ [⟨(tk ts i).text,x,(tk ts i).line,(tk ts i).col⟩])
      else if isM (tk ts j) [[59]]=true then .ok (vs ++ [⟨(tk ts i).text,x,(tk ts i).line,(tk ts i).col⟩]) (j+1)
      else .er (tk ts j))
    else .er (tk ts (i+1)))
  else .er (tk ts i)
def ZJ (ts:List Tk)(i:Nat):SR RuleT:=
 match yY ts i with
 |.er t=>.er t
 |.ok x j=>if isM (tk ts j) [[100,111]]=true then(match Yp ts ts.length (j+1) [] with
   |.ok vs k=>.ok ⟨x,vs⟩ k
   |.er t=>.er t)
  else .er (tk ts j)
theorem jrD:Go.Ev.isAgg δ 153=some false:=Qa0
theorem jrC:Go.Ev.sizeOf δ 153=some 1:=Qa0
theorem jbi (ho:o<jV h b)(hv:rat h b o=v)(hc:eqs v=true):(jZ δ 153 (.ptr b o) v h=true)=True:=eq_true (JA jrD jrC ho hv hc)
theorem sm3 (ho:o<jV h b)(hv:rat h b o=v)(hc:eqs v=true):(jZ δ 3 (.ptr b o) v h=true)=True:=eq_true (JA jrB jrA ho hv hc)
theorem jrV (hb:NB base)(W:Wds ts)(hi:i<ts.length):AnS base 166 (pC ts i 0) [] ts 0 (λe=>.agg (ruE e)) (ZJ ts i):=by
 have wl:=W.len;have A:=UT hb W hi;unfold ZJ;cases hw:yY ts i with
 |er t=>
  rw[hw] at A;obtain⟨i',d',A⟩:=A;have E:∀ st p,Cl st p (pC ts i 0)->∀ K Kp,XB δ base 96 [.ptr p 0] st K Kp=_:=λst p C K Kp=>A.xb C rfl (λst=>hb.no 96 dc _ _) K Kp;refine⟨i',d',?_⟩;unfold pC at *;refine qa jlD haa (hb.pur 166 3 dc) rfl ?_;simp only[jf4,jj,ζ,θ,κ,μ];rw[(by unfold Ki;simp only[qq];rfl:Ki=_)];repeat' first|apply jb<;>intro _|simp(disch:=try exact dzD) only[E,r6,γ,ε]
  (refine G1.done cyD haa haa ?_;try exact vyD)
 |ok x j=>
  rw[hw] at A;have A:PM _ _ _ _ _ _ _:=A;rw[qx] at A;have hj:j<ts.length:=(yJ W hi hw).2.1;have E:∀ st p,Cl st p (pC ts i 0)->∀ K Kp,XB δ base 96 [.ptr p 0] st K Kp=_:=λst p C K Kp=>A.xb C rfl (λst=>hb.no 96 dc _ _) K Kp;have M:=λst p=>@QJ base hb ts j 0 hj om [100,111] st p;dsimp only;by_cases c1:isM (tk ts j) [[100,111]]=true
  .rw[if_pos c1];have hj1:=W.isM hj c1;suffices h:∀ r:SR RuleT,(match Yp ts ts.length (j+1) [] with | .ok vs k=>SR.ok ⟨x,vs⟩ k | .er t=>.er t)=r->AnS base 166 (pC ts i 0) [] ts 0 (λe=>.agg (ruE e)) r from h _ rfl
   intro r hr;refine ul jlD haa (hb.pur 166 3 dc) ?_;simp only[jf4,jj,ζ,θ,κ,μ];rw[(by unfold Ki;simp only[qq];rfl:Ki=_)];unfold pC at *;repeat' first|apply jb<;>intro _|simp(disch:=try exact dzD) only[E,M,c1,r6,γ,ε]
   refine Wh λu hu=>?_;have n0:u.nx=3:=by rw[hu];rfl
   have C0:Cl u 0 (pC ts (j+1) 0):=by
    rw[hu];unfold pC
    (try exact cyD)
   have C1:Cl u 1 [.int .i64 0,.int .i64 0,.str [],.nils,.int .i64 0,.int .i64 0,.nils]:=by
    rw[hu]
    (try exact cyD)
   have C2:Cl u 2 [.int .i64 x.op,.int .i64 x.num,.str x.name,.lst x.kids.length (fl eE x.kids),.int .i64 x.line,.int .i64 x.col,.nils]:=by
    rw[hu]
    (try exact cyD)
   clear hu E M A;refine ye (λmm L s=>∃ (m i':Nat) (vs:List AsT) (v:AV),mm=m/\ts.length<=i'+m/\i'<ts.length/\(match Yp ts m i' vs with | .ok vs k=>SR.ok ⟨x,vs⟩ k | .er t=>.er t:SR RuleT)=r/\3<=s.nx/\Cl s 0 (pC ts i' 0)/\Cl s 1 [.int .i64 0,.int .i64 0,.str [],.nils,.int .i64 0,.int .i64 0,.nils]/\Cl s 2 [.int .i64 x.op,.int .i64 x.num,.str x.name,.lst x.kids.length (fl eE x.kids),.int .i64 x.line,.int .i64 x.col,v]/\Lv 3 s.nx s v vs.length (fl asE vs) 9/\Has L 0 (.ptr 0 0)/\Has L 2 (.ptr 1 0)/\Has L 3 (.ptr 2 0)) ?_ ts.length ?_
   .rintro m L s ⟨_,i',vs,v,rfl,hm,hi',hl,n0,C0,C1,C2,V,i0,i2,i3⟩;clear hr;cases m with
    |zero=>omega
    |succ m=>
    unfold Yp at hl;obtain⟨q0,hq0⟩:∃ q,q=s.nx:=⟨_,rfl⟩;rw[<-hq0] at V;have hq':q0<=s.nx:=QaY hq0;have hN:=λst p=>@Y0 base hb ts i' 0 hi' st p;have hM:=λst p=>@Wr base hb ts i' 0 hi' om st p;have L0:=C0.lt;have L1:=C1.lt;have L2:=C2.lt;have ve:=V.eqs;have g3:rat s.h 2 6=v:=C2.cell 6 hac;have vl:=V.len;by_cases k1:(tk ts i').kind=1
    .rw[if_pos k1] at hl;have k1':((tk ts i').kind:Int)=1:=om
     have hi1:i'+1<ts.length:=W.next i' hi' om
     by_cases h32:32<=vs.length
     .rw[if_pos h32] at hl;have hl:SR.er (tk ts i')=r:=hl;subst hl;have R:=vq hb h32 (tk ts i');unfold pC at *
      (have zz:=a4 @g3 C0.r C1.r C2.r;repeat' first|apply jb<;>intro _|simp(disch:=try exact qS) only[ja i0,ja i2,ja i3,hN,k1',vl,R,jbi,ve,zx,C0.q,C1.q,C2.q,g3,C0.r,C1.r,C2.r,r6,γ,ε])
      refine⟨i',0,?_⟩;unfold pC
      (refine G1.done (by have zz:=a4 C0.q C1.q C2.q (aI C0.r (aI C1.r C2.r));exact qh) haa haa ?_;try exact vyD)
     .rw[if_neg h32] at hl;have R:=vp hb (show vs.length<32 by omega) (tk ts i');have M1:=λst p=>@QJ base hb ts (i'+1) 0 hi1 om [58,61] st p;by_cases c2:isM (tk ts (i'+1)) [[58,61]]=true
      .rw[if_pos c2] at hl;have hi2:=W.isM hi1 c2;have A:=UT hb W hi2;cases hw2:yY ts (i'+2) with
       |er t=>
        rw[hw2] at hl A;have hl:SR.er t=r:=hl;subst hl;obtain⟨i2',d2,A⟩:=A;have E:∀ st p,Cl st p (pC ts (i'+2) 0)->∀ K Kp,XB δ base 96 [.ptr p 0] st K Kp=_:=λst p C K Kp=>A.xb C rfl (λst=>hb.no 96 dc _ _) K Kp;unfold pC at *
        (have zz:=a4 @g3 @yI @yH (aI C0.r (aI C1.r C2.r));repeat' first|apply jb<;>intro _|simp(disch:=try exact qS) only[ja i0,ja i2,ja i3,hN,hM,k1,k1',vl,R,M1,c2,E,jbi,sm9,sm3,ve,zx,Yx,VU,VS (base:=base),C0.q,C1.q,C2.q,g3,yI,yH,C0.r,C1.r,C2.r,r6,γ,ε])
        refine⟨i2',d2,?_⟩;unfold pC
        (refine G1.done (by have zz:=a4 C0.q C1.q C2.q (aI C0.r (aI C1.r C2.r));exact qh) haa haa ?_;try exact vyD)
       |ok y q=>
        rw[hw2] at hl A;dsimp only at hl;have A:PM _ _ _ _ _ _ _:=A;rw[qx] at A;have hq:q<ts.length:=(yJ W hi2 hw2).2.1;have hq2:i'+3<=q:=(yJ W hi2 hw2).1;have E:∀ st p,Cl st p (pC ts (i'+2) 0)->∀ K Kp,XB δ base 96 [.ptr p 0] st K Kp=_:=λst p C K Kp=>A.xb C rfl (λst=>hb.no 96 dc _ _) K Kp;have T:=YS hb hq (d:=0) om [[44]] (cs:=[.str [44]]) (n:=1) rfl rfl dc;have M:=λst p=>@QJ base hb ts q 0 hq om [59] st p;have Ap:=λst bv xc xx K h hv=>@Jt 3 q0 vs.length 9 st v (fl asE vs) K 104 bv xc xx h dc om om hv;obtain⟨a,hav⟩:∃ a:AsT,a=⟨(tk ts i').text,y,(tk ts i').line,(tk ts i').col⟩:=⟨_,rfl⟩;rw[<-hav] at hl;have ea:asE a=[.str (tk ts i').text,.int .i64 y.op,.int .i64 y.num,.str y.name,.lst y.kids.length (fl eE y.kids),.int .i64 y.line,.int .i64 y.col,.int .i64 ((tk ts i').line:Int),.int .i64 ((tk ts i').col:Int)]:=by rw[hav];unfold asE;rw[qx];rfl
        have V2:∀ st m',Lv 3 q0 st v vs.length (fl asE vs) 9->3<=st.nx->m'=st.nx+1->Lv 3 m' (aps v st [.str (tk ts i').text,.int .i64 y.op,.int .i64 y.num,.str y.name,.lst y.kids.length (fl eE y.kids),.int .i64 y.line,.int .i64 y.col,.int .i64 ((tk ts i').line:Int),.int .i64 ((tk ts i').col:Int)]) (apv 9 v st) (vs ++ [a]).length (fl asE (vs ++ [a])) 9:=λst m' h h2 h3=>by
         rw[υ,Xl,Qc,ea];exact h.put rfl h2 h3
        unfold pC at *
        (have zz:=a8 @g3 @yI @yH V.ln V.rts @jD @jG (a8 @jJ @V @jC @jI @jM C0.r C1.r C2.r);repeat' first|apply jb<;>intro _|simp(disch:=try exact qS) only[ja i0,ja i2,ja i3,hN,hM,k1,k1',vl,R,M1,c2,E,jbi,sm9,sm3,ve,Ap,V.at,jC,C0.q,C1.q,C2.q,g3,yI,yH,V.ln,V.rts,jD,jG,jJ,V,jC,jI,jM,C0.r,C1.r,C2.r,r6,γ,ε])
        rw[T _ 0 (s.nx+1+1+1) 1 true (by(have zz:=a8 C0.q C1.q C2.q @g3 V.ln V.rts @jC (a4 @jI @jM C0.r (aI C1.r C2.r));try exact qh)) (by(have zz:=a8 C0.q C1.q C2.q @g3 V.ln V.rts @jC (a4 @jI @jM C0.r (aI C1.r C2.r));try exact qh)) om]
        (have zz:=a8 @g3 V.ln V.rts @jC @jI @jM C0.r (aI C1.r C2.r);repeat' first|apply jb<;>intro _|simp(disch:=try exact qS) only[ja i0,ja i2,ja i3,M,V.at,jC,C0.q,C1.q,C2.q,g3,V.ln,V.rts,jC,jI,jM,C0.r,C1.r,C2.r,r6,γ,ε])
        .rename_i c;rw[if_pos c] at hl;have hi2':=W.isM hq c;refine⟨m,om,m,q+1,vs ++ [a],?v,rfl,om,hi2',hl,om,?c0,?c1,?c2,?lv,?has⟩;case lv=>
          refine Lv.up (hi:=s.nx+3) ?_ om;simp(disch:=first|omega|(simp only[jf,ji,jm,ju];omega)) only[jD,jG,jJ];refine V2 _ _ ?_ ?_ ?_;all_goals first|(simp only[jf,ji];done)|(simp only[jf,ji];omega)|(simp(disch:=first|omega|(simp only[jf,ji];omega)) only[jD,jG];exact V)
         case c0=>(have zz:=a8 C0.q C1.q C2.q @g3 V.ln V.rts @jC (a4 @jI @jM C0.r (aI C1.r C2.r));try exact qh)
         case c1=>(have zz:=a8 C0.q C1.q C2.q @g3 V.ln V.rts @jC (a4 @jI @jM C0.r (aI C1.r C2.r));try exact qh)
         case c2=>(have zz:=a8 C0.q C1.q C2.q @g3 V.ln V.rts @jC (a4 @jI @jM C0.r (aI C1.r C2.r));try exact qh)
         case has=>simp(disch:=decide) only[h12,i0,i2,i3]
        .rename_i c c4;rw[if_neg c,if_pos c4] at hl;have hl:SR.ok (⟨x,vs ++ [a]⟩:RuleT) (q+1)=r:=hl;subst hl;show G1 3 (pC ts (q+1) 0) (.agg (ruE ⟨x,vs ++ [a]⟩)) _ _;rw[show ruE ⟨x,vs ++ [a]⟩=[.int .i64 x.op,.int .i64 x.num,.str x.name,.lst x.kids.length (fl eE x.kids),.int .i64 x.line,.int .i64 x.col,.lst (vs ++ [a]).length (fl asE (vs ++ [a]))] by unfold ruE;rw[qx];rfl];refine G1.done ?_ haa haa (FzD.agg (.cons (.pc rfl) (.cons (.pc rfl) (.cons (.pc rfl) (.cons (.pc rfl) (.cons (.pc rfl) (.cons (.pc rfl) (.cons (Lv.fz (lo:=3) (hi:=s.nx+3) (z:=9) ?_ dc (zq Q7 _)) .nil))))))))
         .unfold pC
          (have zz:=a8 C0.q C1.q C2.q @g3 V.ln V.rts @jC (a4 @jI @jM C0.r (aI C1.r C2.r));try exact qh)
         .simp(disch:=first|omega|(simp only[jf,ji,jm,ju];omega)) only[jH,jD,jG,jJ];refine V2 _ _ ?_ ?_ ?_;all_goals first|(simp only[jf,ji];done)|(simp only[jf,ji];omega)|(simp(disch:=first|omega|(simp only[jf,ji];omega)) only[jD,jG];exact V)
        .rename_i c c4;rw[if_neg c,if_neg c4] at hl;have hl:SR.er (tk ts q)=r:=hl;subst hl;refine⟨q,0,?_⟩;unfold pC
         (refine G1.done (by have zz:=a8 C0.q C1.q C2.q @g3 V.ln V.rts @jC (a4 @jI @jM C0.r (aI C1.r C2.r));exact qh) haa haa ?_;try exact vyD)
      .rw[if_neg c2] at hl;have hl:SR.er (tk ts (i'+1))=r:=hl;subst hl;unfold pC at *
       (have zz:=a4 @g3 C0.r C1.r C2.r;repeat' first|apply jb<;>intro _|simp(disch:=try exact qS) only[ja i0,ja i2,ja i3,hN,hM,k1,k1',vl,R,M1,c2,jbi,ve,zx,C0.q,C1.q,C2.q,g3,C0.r,C1.r,C2.r,r6,γ,ε])
       refine⟨i'+1,0,?_⟩;unfold pC
       (refine G1.done (by have zz:=a4 C0.q C1.q C2.q (aI C0.r (aI C1.r C2.r));exact qh) haa haa ?_;try exact vyD)
    .rw[if_neg k1] at hl;have k1':¬ ((tk ts i').kind:Int)=1:=om
     have hl:SR.er (tk ts i')=r:=hl;subst hl;unfold pC at *
     (have zz:=a4 @g3 C0.r C1.r C2.r;repeat' first|apply jb<;>intro _|simp(disch:=try exact qS) only[ja i0,ja i2,ja i3,hN,hM,k1,k1',zx,C0.q,C1.q,C2.q,g3,C0.r,C1.r,C2.r,r6,γ,ε])
     refine⟨i',0,?_⟩;unfold pC
     (refine G1.done (by have zz:=a4 C0.q C1.q C2.q (aI C0.r (aI C1.r C2.r));exact qh) haa haa ?_;try exact vyD)
   .refine⟨ts.length,j+1,[],.nils,rfl,om,hj1,hr,om,C0,C1,C2,Lv.nil,?_⟩;simp(disch:=decide) only[h12]
  .rw[if_neg c1];refine⟨j,0,?_⟩;unfold pC at *;refine qa jlD haa (hb.pur 166 3 dc) rfl ?_;simp only[jf4,jj,ζ,θ,κ,μ];rw[(by unfold Ki;simp only[qq];rfl:Ki=_)];repeat' first|apply jb<;>intro _|simp(disch:=try exact dzD) only[E,M,c1,r6,γ,ε]
   (refine G1.done cyD haa haa ?_;try exact vyD)
theorem V9 (r:RuleT):ruE r=[.int .i64 r.when.op,.int .i64 r.when.num,.str r.when.name,.lst r.when.kids.length (fl eE r.when.kids),.int .i64 r.when.line,.int .i64 r.when.col,.lst r.acts.length (fl asE r.acts)]:=by unfold ruE;rw[qx];rfl
theorem uB (r:RuleT):(ruE r).length=7:=nr (by rw[V9];rfl)
theorem W3 (r:RuleT):(ruE r).all pc=true:=nr (by rw[V9];rfl)
theorem jfx (W:Wds ts):∀ n i vs ws j,i<ts.length->Yp ts n i vs=.ok ws j->i<=j/\j<ts.length
 |0,i,vs,ws,j,_,h=>by simp[Yp] at h
 |n+1,i,vs,ws,j,hi,h=>by
  unfold Yp at h;split at h
  .rename_i k1;have hi1:i+1<ts.length:=W.next i hi om
   split at h
   .cases h
   .split at h
    .rename_i c;have hi2:=W.isM hi1 c;cases hw:yY ts (i+2) with
     |er t=>rw[hw] at h;cases h
     |ok x q=>
      rw[hw] at h;dsimp only at h;have g:=yJ W hi2 hw;split at h
      .rename_i c2;have:=jfx W n (q+1) _ ws j (W.isM g.2.1 c2) h;have:=g.1;exact⟨om,om⟩
      .split at h
       .rename_i c3;cases h;have:=W.isM g.2.1 c3;have:=g.1;exact⟨om,om⟩
       .cases h
    .cases h
  .cases h
theorem Hl (W:Wds ts){r:RuleT}(hi:i<ts.length)(h:ZJ ts i=.ok r j):i<j/\j<ts.length:=by
 unfold ZJ at h;cases hw:yY ts i with
 |er t=>rw[hw] at h;cases h
 |ok x q=>
  rw[hw] at h;dsimp only at h;have g:=yJ W hi hw;split at h
  .rename_i c;have hq1:=W.isM g.2.1 c;cases ha:Yp ts ts.length (q+1) [] with
   |er t=>rw[ha] at h;cases h
   |ok vs k=>
    rw[ha] at h;cases h;have:=jfx W _ _ _ _ _ hq1 ha;have:=g.1;exact⟨om,om⟩
  .cases h
structure ProcT where
 name:Lc
 rules:List RuleT
 line:Int
 col:Int
def prE (p:ProcT):List AV:=[.str p.name,.lst p.rules.length (fl ruE p.rules),.int .i64 (p.line:Int),.int .i64 (p.col:Int)]
def Xb (ts:List Tk):Nat->Nat->List RuleT->SR (List RuleT)
 |0,i,_=>.er (tk ts i)
 |n+1,i,vs=>if isM (tk ts i) [[119,104,101,110]]=true then
   (if 32<=vs.length then .er (tk ts i) else match ZJ ts (i+1) with
    |.er t=>.er t
    |.ok r j=>Xb ts n j (vs ++ [r]))
  else if isM (tk ts i) [[125]]=true then .ok vs (i+1) else .er (tk ts i)
def wD (ts:List Tk)(i:Nat):SR ProcT:=
 if(tk ts i).kind=1 then
  (if isM (tk ts (i+1)) [[123]]=true then(match Xb ts ts.length (i+2) [] with
    |.ok vs j=>.ok ⟨(tk ts i).text,vs,(tk ts i).line,(tk ts i).col⟩ j
    |.er t=>.er t)
   else .er (tk ts (i+1)))
 else .er (tk ts i)
theorem juh:Go.Ev.isAgg δ 149=some false:=Qa0
theorem jug:Go.Ev.sizeOf δ 149=some 1:=Qa0
theorem jrN (ho:o<jV h b)(hv:rat h b o=v)(hc:eqs v=true):(jZ δ 149 (.ptr b o) v h=true)=True:=eq_true (JA juh jug ho hv hc)
theorem jr7 (hb:NB base)(W:Wds ts)(hi:i<ts.length):AnS base 126 (pC ts i 0) [] ts 0 (λe=>.agg (prE e)) (wD ts i):=by
 have wl:=W.len;have N:=λst p=>@Wr base hb ts i 0 hi om st p;unfold wD;by_cases k1:(tk ts i).kind=1
 .rw[if_pos k1];have hi1:i+1<ts.length:=W.next i hi om
  have M:=λst p=>@QJ base hb ts (i+1) 0 hi1 om [123] st p;by_cases c1:isM (tk ts (i+1)) [[123]]=true
  .rw[if_pos c1];have hi2:=W.isM hi1 c1;suffices h:∀ r:SR ProcT,(match Xb ts ts.length (i+2) [] with
    |.ok vs j=>SR.ok ⟨(tk ts i).text,vs,(tk ts i).line,(tk ts i).col⟩ j
    |.er t=>.er t:SR ProcT)=r->AnS base 126 (pC ts i 0) [] ts 0 (λe=>.agg (prE e)) r from h _ rfl
   intro r hr;refine ul x80 haa (hb.pur 126 3 dc) ?_;simp only[y80,jj,ζ,θ,κ,μ];rw[(by unfold z80;simp only[qq];rfl:z80=_)];unfold pC at *;repeat' first|apply jb<;>intro _|simp(disch:=try exact dzD) only[N,k1,M,c1,r6,γ,ε]
   refine Wh λu hu=>?_;have n0:u.nx=4:=by rw[hu];rfl
   have C0:Cl u 0 (pC ts (i+2) 0):=by
    rw[hu];unfold pC
    (try exact cyD)
   have C1:Cl u 1 [.str [],.nils,.int .i64 0,.int .i64 0]:=by
    rw[hu]
    (try exact cyD)
   have C3:Cl u 3 [.str (tk ts i).text,.nils,.int .i64 ((tk ts i).line:Int),.int .i64 ((tk ts i).col:Int)]:=by
    rw[hu]
    (try exact cyD)
   clear hu N M;generalize (tk ts i).text=nm at *;generalize (tk ts i).line=ln at *;generalize (tk ts i).col=co at *;refine ye (λmm L s=>∃ (m i':Nat) (vs:List RuleT) (v:AV),mm=m/\ts.length<=i'+m/\i'<ts.length/\(match Xb ts m i' vs with | .ok vs j=>SR.ok ⟨nm,vs,ln,co⟩ j | .er t=>.er t:SR ProcT)=r/\4<=s.nx/\Cl s 0 (pC ts i' 0)/\Cl s 1 [.str [],.nils,.int .i64 0,.int .i64 0]/\Cl s 3 [.str nm,v,.int .i64 (ln:Int),.int .i64 (co:Int)]/\Lv 4 s.nx s v vs.length (fl ruE vs) 7/\Has L 0 (.ptr 0 0)/\Has L 2 (.ptr 1 0)/\Has L 4 (.ptr 3 0)) ?_ ts.length ?_
   .rintro m L s ⟨_,i',vs,v,rfl,hm,hi',hl,n0,C0,C1,C3,V,i0,i2,i4⟩;clear hr;cases m with
    |zero=>omega
    |succ m=>
    unfold Xb at hl;obtain⟨q,hq⟩:∃ q,q=s.nx:=⟨_,rfl⟩;rw[<-hq] at V;have hq':q<=s.nx:=QaY hq;have T:=YS hb hi' (d:=0) om [[119,104,101,110]] (cs:=[.str [119,104,101,110]]) (n:=1) rfl rfl dc;have L0:=C0.lt;have L1:=C1.lt;have L3:=C3.lt;have ve:=V.eqs;have g3:rat s.h 3 1=v:=C3.cell 1 (QbF (QaS 2));have vl:=V.len;have vc:∀ l,lall AV.cell (v :: l)=lall AV.cell l:=λl=>by show cond v.cell _ false=_;rw[V.cell];rfl
    by_cases c2:isM (tk ts i') [[119,104,101,110]]=true
    .rw[if_pos c2] at hl;have hi1:=W.isM hi' c2;by_cases h32:32<=vs.length
     .rw[if_pos h32] at hl;have hl:SR.er (tk ts i')=r:=hl;subst hl;have R:=vq hb h32 (tk ts i');unfold pC at *
      (have zz:=a4 @g3 C0.r C1.r C3.r;repeat' first|apply jb<;>intro _|simp(disch:=try exact qS) only[ja i0,ja i2,ja i4,T,c2,vl,R,g3,zx,C0.q,C1.q,C3.q,g3,C0.r,C1.r,C3.r,r6,γ,ε])
      refine⟨i'+1,0,?_⟩;unfold pC
      (refine G1.done (by have zz:=a4 C0.q C1.q C3.q (aI C0.r (aI C1.r C3.r));exact qh) haa haa ?_;try exact vyD)
     .rw[if_neg h32] at hl;have R:=vp hb (show vs.length<32 by omega) (tk ts i');have A:=jrV hb W hi1;cases hw:ZJ ts (i'+1) with
      |er t=>
       rw[hw] at hl A;have hl:SR.er t=r:=hl;subst hl;obtain⟨i2',d2,A⟩:=A;have E:∀ st p,Cl st p (pC ts (i'+1) 0)->∀ K Kp,XB δ base 166 [.ptr p 0] st K Kp=_:=λst p C K Kp=>A.xb C rfl (λst=>hb.no 166 dc _ _) K Kp;unfold pC at *
       (have zz:=a4 @g3 C0.r C1.r C3.r;repeat' first|apply jb<;>intro _|simp(disch:=try exact qS) only[ja i0,ja i2,ja i4,T,c2,vl,R,g3,E,jrN,ve,zx,C0.q,C1.q,C3.q,g3,C0.r,C1.r,C3.r,r6,γ,ε])
       refine⟨i2',d2,?_⟩;unfold pC
       (refine G1.done (by have zz:=a4 C0.q C1.q C3.q (aI C0.r (aI C1.r C3.r));exact qh) haa haa ?_;try exact vyD)
      |ok a j=>
       rw[hw] at hl A;dsimp only at hl;have A:PM _ _ _ _ _ _ _:=A;have A:PM δ base 166 (pC ts (i'+1) 0) [] (.ok (.agg [.int .i64 a.when.op,.int .i64 a.when.num,.str a.when.name,.lst a.when.kids.length (fl eE a.when.kids),.int .i64 a.when.line,.int .i64 a.when.col,.lst a.acts.length (fl asE a.acts)])) (pC ts j 0):=by rw[<-V9];exact A
       have hj:=Hl W hi1 hw;have E:∀ st p,Cl st p (pC ts (i'+1) 0)->∀ K Kp,XB δ base 166 [.ptr p 0] st K Kp=_:=λst p C K Kp=>A.xb C rfl (λst=>hb.no 166 dc _ _) K Kp;have Ap:=λst bv xc xx K h hv=>@Jt 4 q vs.length 7 st v (fl ruE vs) K 96 bv xc xx h dc om om hv;have V2:∀ st m',Lv 4 q st v vs.length (fl ruE vs) 7->4<=st.nx->m'=st.nx+1->Lv 4 m' (aps v st [.int .i64 a.when.op,.int .i64 a.when.num,.str a.when.name,.lst a.when.kids.length (fl eE a.when.kids),.int .i64 a.when.line,.int .i64 a.when.col,.lst a.acts.length (fl asE a.acts)]) (apv 7 v st) (vs ++ [a]).length (fl ruE (vs ++ [a])) 7:=λst m' h h2 h3=>by
        rw[υ,Xl,Qc,V9 a];exact h.put rfl h2 h3
       unfold pC at *
       (have zz:=a8 @g3 V.ln V.rts @jD @jG @jJ @V (a4 @jC @jI @jM (aI C0.r (aI C1.r C3.r)));repeat' first|apply jb<;>intro _|simp(disch:=try exact qS) only[ja i0,ja i2,ja i4,T,c2,vl,R,g3,E,jrN,ve,Ap,V.at,jC,C0.q,C1.q,C3.q,g3,V.ln,V.rts,jD,jG,jJ,V,jC,jI,jM,C0.r,C1.r,C3.r,r6,γ,ε])
       refine⟨m,om,m,j,vs ++ [a],?v,rfl,om,hj.2,hl,om,?c0,?c1,?c3,?lv,?has⟩;case lv=>
        refine Lv.up (hi:=s.nx+4) ?_ om;refine V2 _ _ ?_ ?_ ?_;all_goals first|(simp only[jf,ji,ju];done)|(simp only[jf,ji,ju];omega)|(simp(disch:=first|omega|(simp only[jf,ji,ju];omega)) only[jD,jG,jJ];exact V)
       case c0=>(have zz:=a8 C0.q C1.q C3.q @g3 V.ln V.rts @jC (a4 @jI @jM C0.r (aI C1.r C3.r));try exact qh)
       case c1=>(have zz:=a8 C0.q C1.q C3.q @g3 V.ln V.rts @jC (a4 @jI @jM C0.r (aI C1.r C3.r));try exact qh)
       case c3=>(have zz:=a8 C0.q C1.q C3.q @g3 V.ln V.rts @jC (a4 @jI @jM C0.r (aI C1.r C3.r));try exact qh)
       case has=>simp(disch:=decide) only[h12,i0,i2,i4]
    .rw[if_neg c2] at hl;have M:=λst p=>@QJ base hb ts i' 0 hi' om [125] st p;unfold pC at *
     (have zz:=a4 @g3 @vc C0.r (aI C1.r C3.r);repeat' first|apply jb<;>intro _|simp(disch:=try exact qS) only[ja i0,ja i2,ja i4,T,c2,M,g3,C0.q,C1.q,C3.q,g3,vc,C0.r,C1.r,C3.r,r6,γ,ε])
     .rename_i c4;rw[if_pos c4] at hl;have hl:SR.ok (⟨nm,vs,ln,co⟩:ProcT) (i'+1)=r:=hl;subst hl;show G1 3 (pC ts (i'+1) 0) (.agg (prE ⟨nm,vs,ln,co⟩)) _ _;refine G1.done ?_ haa haa (FzD.agg (.cons (.pc rfl) (.cons (Lv.fz (lo:=4) (hi:=q) (z:=7) ?_ dc (zq W3 _)) (.cons (.pc rfl) (.cons (.pc rfl) .nil)))))
      .unfold pC
       (have zz:=a8 C0.q C1.q C3.q @g3 V.ln V.rts @jC (a4 @jI @jM C0.r (aI C1.r C3.r));try exact qh)
      .simp(disch:=first|omega|(simp only[jf,ji,ju];omega)) only[jH,jD,jG,jJ];exact V
     .rename_i c4;rw[if_neg c4] at hl;have hl:SR.er (tk ts i')=r:=hl;subst hl;refine⟨i',0,?_⟩;unfold pC
      (refine G1.done (by have zz:=a8 C0.q C1.q C3.q @g3 V.ln V.rts @jC (a4 @jI @jM C0.r (aI C1.r C3.r));exact qh) haa haa ?_;try exact vyD)
   .refine⟨ts.length,i+2,[],.nils,rfl,om,hi2,hr,om,C0,C1,C3,Lv.nil,?_⟩;simp(disch:=decide) only[h12]
  .rw[if_neg c1];refine⟨i+1,0,?_⟩;unfold pC at *;refine qa x80 haa (hb.pur 126 3 dc) rfl ?_;simp only[y80,jj,ζ,θ,κ,μ];rw[(by unfold z80;simp only[qq];rfl:z80=_)];repeat' first|apply jb<;>intro _|simp(disch:=try exact dzD) only[N,k1,M,c1,r6,γ,ε]
   (refine G1.done cyD haa haa ?_;try exact vyD)
 .rw[if_neg k1];refine⟨i,0,?_⟩;unfold pC at *;refine qa x80 haa (hb.pur 126 3 dc) rfl ?_;simp only[y80,jj,ζ,θ,κ,μ];rw[(by unfold z80;simp only[qq];rfl:z80=_)];repeat' first|apply jb<;>intro _|simp(disch:=try exact dzD) only[N,k1,r6,γ,ε]
  (refine G1.done cyD haa haa ?_;try exact vyD)
def Df:AV->AV->Prop
 |.slice b _ _ _ _ _,.slice c _ _ _ _ _=>c≠b
 |_,_=>True
theorem Lv.apsD {lo hi z:Nat}{w:AV}{news:List AV}(V:Lv lo hi s w n cs z)(h:Df v w):Lv lo hi (Go.Sy.aps v s news) w n cs z:=by
 rcases V with ⟨rfl,h2,h3⟩|⟨b,rfl,h2,h3,h4,h5,h6⟩
 .exact .inl ⟨rfl,h2,h3⟩
 .refine .inr ⟨b,rfl,h2,h3,?_,h5,h6⟩;unfold Go.Sy.aps;split
  .exact h4.apO h
  .exact h4.nw news
theorem Df.put {lo hi z z':Nat}{t:St}{w:AV}(V:Lv lo hi s w n cs z)(h:hi<=t.nx):Df (apv z' v t) w/\Df w (apv z' v t):=by
 rcases V with ⟨rfl,h2,h3⟩|⟨b,rfl,h2,h3,h4,h5,h6⟩
 .unfold apv;split<;>exact⟨trivial,trivial⟩
 .unfold apv;split<;>exact⟨by show b≠t.nx;omega,by show t.nx≠b;omega⟩
structure SrcT where
 enums:List EnumT
 vars:List DeclT
 procs:List ProcT
def srE (m:SrcT):List AV:=[.lst m.enums.length (fl enE m.enums),.lst m.vars.length (fl qt m.vars),.lst m.procs.length (fl prE m.procs)]
def Zj (ts:List Tk):Nat->Nat->SrcT->SR SrcT
 |0,i,_=>.er (tk ts i)
 |n+1,i,m=>if isM (tk ts i) [[101,110,117,109],[118,97,114],[112,114,111,99,101,115,115]]=true then
   (if(tk ts i).text=[101,110,117,109] then
    (if 32<=m.enums.length then .er (tk ts i) else match wU ts (i+1) with
     |.er t=>.er t
     |.ok e j=>Zj ts n j { m with enums:=m.enums ++ [e] })
   else if(tk ts i).text=[118,97,114] then
    (if 32<=m.vars.length then .er (tk ts i) else match wX ts (i+1) with
     |.er t=>.er t
     |.ok e j=>Zj ts n j { m with vars:=m.vars ++ [e] })
   else(if 32<=m.procs.length then .er (tk ts i) else match wD ts (i+1) with
     |.er t=>.er t
     |.ok e j=>Zj ts n j { m with procs:=m.procs ++ [e] }))
  else if(tk ts i).kind=5 then .ok m i else .er (tk ts i)
theorem jen (W:Wds ts):∀ n i vs ws j,i<ts.length->YN ts n i vs=.ok ws j->i<=j/\j<ts.length
 |0,i,vs,ws,j,_,h=>by simp[YN] at h
 |n+1,i,vs,ws,j,hi,h=>by
  unfold YN at h;split at h
  .rename_i k1;have hi1:i+1<ts.length:=W.next i hi om
   split at h
   .cases h
   .split at h
    .rename_i c;have hi2:=W.isM hi1 c;have:=jen W n (i+2) _ ws j hi2 h;exact⟨om,om⟩
    .split at h
     .rename_i c;cases h;have:=W.isM hi1 c;exact⟨om,this⟩
     .cases h
  .cases h
theorem jfh (W:Wds ts){e:EnumT}(hi:i<ts.length)(h:wU ts i=.ok e j):i<j/\j<ts.length:=by
 unfold wU at h;split at h
 .rename_i k1;have hi1:i+1<ts.length:=W.next i hi om
  split at h
  .rename_i c;have hi2:=W.isM hi1 c;cases hv:YN ts ts.length (i+2) [] with
   |er t=>rw[hv] at h;cases h
   |ok vs k=>
    rw[hv] at h;cases h;have:=jen W _ _ _ _ _ hi2 hv;exact⟨om,om⟩
  .cases h
 .cases h
theorem jcz (W:Wds ts):∀ n i vs ws j,i<ts.length->Xb ts n i vs=.ok ws j->i<=j/\j<ts.length
 |0,i,vs,ws,j,_,h=>by simp[Xb] at h
 |n+1,i,vs,ws,j,hi,h=>by
  unfold Xb at h;split at h
  .rename_i c;have hi1:=W.isM hi c;split at h
   .cases h
   .cases hr:ZJ ts (i+1) with
    |er t=>rw[hr] at h;cases h
    |ok r k=>
     rw[hr] at h;dsimp only at h;have g:=Hl W hi1 hr;have:=jcz W n k _ ws j g.2 h;exact⟨om,om⟩
  .split at h
   .rename_i c;cases h;exact⟨om,W.isM hi c⟩
   .cases h
theorem jeN (W:Wds ts){e:ProcT}(hi:i<ts.length)(h:wD ts i=.ok e j):i<j/\j<ts.length:=by
 unfold wD at h;split at h
 .rename_i k1;have hi1:i+1<ts.length:=W.next i hi om
  split at h
  .rename_i c;have hi2:=W.isM hi1 c;cases hv:Xb ts ts.length (i+2) [] with
   |er t=>rw[hv] at h;cases h
   |ok vs k=>
    rw[hv] at h;cases h;have:=jcz W _ _ _ _ _ hi2 hv;exact⟨om,om⟩
  .cases h
 .cases h
theorem jiJ (W:Wds ts){n:Int}(h:YZ ts i=.ok n j):i<j:=by
 unfold YZ at h;split at h
 .split at h
  .cases h;omega
  .cases h
 .split at h
  .cases h;omega
  .cases h
theorem jic (W:Wds ts){y:Lc×Int×Int}(hi:i<ts.length)(h:WT ts i=.ok y j):i<j/\j<ts.length:=by
 unfold WT at h;split at h
 .rename_i c;cases h;exact⟨om,W.isM hi c⟩
 .split at h
  .rename_i k1;cases h;exact⟨om,W.next i hi om⟩
  .cases hn:YZ ts i with
   |er t=>rw[hn] at h;cases h
   |ok lo k=>
    rw[hn] at h;dsimp only at h;have g:=gO W hi hn;have g1:=jiJ W hn;split at h
    .rename_i c;have hk1:=W.isM g c;cases hn2:YZ ts (k+1) with
     |er t=>rw[hn2] at h;cases h
     |ok h2 q=>
      rw[hn2] at h;cases h;have:=gO W hk1 hn2;have:=jiJ W hn2;exact⟨om,om⟩
    .cases h
theorem jto (W:Wds ts){bs:List Ex}(hi:i<ts.length)(h:We ts i=.ok bs j):i<j/\j<ts.length:=by
 unfold We at h;split at h
 .rename_i c;have hi1:=W.isM hi c;cases hw:yY ts (i+1) with
  |er t=>rw[hw] at h;cases h
  |ok x k=>
   rw[hw] at h;dsimp only at h;have g:=yJ W hi1 hw;split at h
   .rename_i c2;cases h;have:=W.isM g.2.1 c2;have:=g.1;exact⟨om,om⟩
   .cases h
 .split at h
  .rename_i c;cases h;exact⟨om,W.isM hi c⟩
  .cases h
theorem jfl (W:Wds ts){e:DeclT}(hi:i<ts.length)(h:wX ts i=.ok e j):i<j/\j<ts.length:=by
 unfold wX at h;split at h
 .rename_i k1;have hi1:i+1<ts.length:=W.next i hi om
  split at h
  .rename_i c;have hi2:=W.isM hi1 c;cases ht:WT ts (i+2) with
   |er t=>rw[ht] at h;cases h
   |ok y k=>
    rw[ht] at h;dsimp only at h;have g:=jic W hi2 ht;cases hv:We ts k with
    |er t=>rw[hv] at h;cases h
    |ok bs q=>
     rw[hv] at h;cases h;have:=jto W g.2 hv;exact⟨om,om⟩
  .cases h
 .cases h
theorem JT (e:EnumT):(enE e).all pc=true:=by
 have:∀ l:Lb,(l.map AV.str).all pc=true:=Wk;show([AV.str e.name,.lst e.vals.length (e.vals.map .str),.int .i64 (e.line:Int),.int .i64 (e.col:Int)]).all pc=true;simp[pc]
theorem Jy (e:DeclT):(qt e).all pc=true:=by
 show([AV.str e.name,.str e.ty,.int .i64 e.lo,.int .i64 e.hi,.lst e.begins.length (fl eE e.begins),.int .i64 (e.line:Int),.int .i64 (e.col:Int)]).all pc=true;simp[pc]
theorem jbr (e:ProcT):(prE e).all pc=true:=by
 show([AV.str e.name,.lst e.rules.length (fl ruE e.rules),.int .i64 (e.line:Int),.int .i64 (e.col:Int)]).all pc=true;simp[pc]
theorem Df.symm {w:AV}(h:Df v w):Df w v:=by
 unfold Df at *;split at h<;>first|exact λe=>h e.symm|(cases v<;>cases w<;>first|trivial|(rename_i h2;exact absurd rfl (h2 _ _ _ _ _ _ _ _ _ _ _ _ rfl)))
theorem juF:Go.Ev.isAgg δ 22=some false:=Qa0
theorem juE:Go.Ev.sizeOf δ 22=some 1:=Qa0
theorem Hi (ho:o<jV h b)(hv:rat h b o=v)(hc:eqs v=true):(jZ δ 22 (.ptr b o) v h=true)=True:=eq_true (JA juF juE ho hv hc)
theorem juD:Go.Ev.isAgg δ 23=some false:=Qa0
theorem juC:Go.Ev.sizeOf δ 23=some 1:=Qa0
theorem jrR (ho:o<jV h b)(hv:rat h b o=v)(hc:eqs v=true):(jZ δ 23 (.ptr b o) v h=true)=True:=eq_true (JA juD juC ho hv hc)
theorem juB:Go.Ev.isAgg δ 24=some false:=Qa0
theorem juA:Go.Ev.sizeOf δ 24=some 1:=Qa0
theorem jrQ (ho:o<jV h b)(hv:rat h b o=v)(hc:eqs v=true):(jZ δ 24 (.ptr b o) v h=true)=True:=eq_true (JA juB juA ho hv hc)
theorem jlP (hb:NB base)(W:Wds ts)(NN:Nbs ts)(hi:i<ts.length):AnS base 90 (pC ts i 0) [] ts 0 (λe=>.agg (srE e)) (Zj ts ts.length i ⟨[],[],[]⟩):=by
 have wl:=W.len;suffices h:∀ r:SR SrcT,Zj ts ts.length i ⟨[],[],[]⟩=r->AnS base 90 (pC ts i 0) [] ts 0 (λe=>.agg (srE e)) r from h _ rfl
 intro r hr;refine ul x37 haa (hb.pur 90 3 dc) ?_;simp only[y37,jj,ζ,θ,κ,μ];rw[(by unfold z37;simp only[qq];rfl:z37=_)];unfold pC at *;repeat' first|apply jb<;>intro _|simp(disch:=try exact dzD) only[r6,γ,ε]
 refine Wh λu hu=>?_;have n0:u.nx=3:=by rw[hu];rfl
 have C0:Cl u 0 (pC ts i 0):=by
  rw[hu];unfold pC
  (try exact cyD)
 have C1:Cl u 1 [.nils,.nils,.nils]:=by
  rw[hu]
  (try exact cyD)
 have C2:Cl u 2 [.nils,.nils,.nils]:=by
  rw[hu]
  (try exact cyD)
 clear hu;refine ye (λmm L s=>∃ (m i':Nat) (x:SrcT) (v1 v2 v3:AV),mm=m/\ts.length<=i'+m/\i'<ts.length/\Zj ts m i' x=r/\3<=s.nx/\Cl s 0 (pC ts i' 0)/\Cl s 1 [.nils,.nils,.nils]/\Cl s 2 [v1,v2,v3]/\Lv 3 s.nx s v1 x.enums.length (fl enE x.enums) 4/\Lv 3 s.nx s v2 x.vars.length (fl qt x.vars) 7/\Lv 3 s.nx s v3 x.procs.length (fl prE x.procs) 4/\Df v1 v2/\Df v1 v3/\Df v2 v3/\Has L 0 (.ptr 0 0)/\Has L 2 (.ptr 1 0)/\Has L 3 (.ptr 2 0)) ?_ ts.length ?_
 .rintro m L s ⟨_,i',x,v1,v2,v3,rfl,hm,hi',hl,n0,C0,C1,C2,V1,V2,V3,D12,D13,D23,i0,i2,i3⟩;clear hr;cases m with
  |zero=>omega
  |succ m=>
  unfold Zj at hl;obtain⟨q,hq⟩:∃ q,q=s.nx:=⟨_,rfl⟩;rw[<-hq] at V1 V2 V3;have hq':q<=s.nx:=QaY hq;have T:=YS hb hi' (d:=0) om [[101,110,117,109],[118,97,114],[112,114,111,99,101,115,115]] (cs:=[.str [101,110,117,109],.str [118,97,114],.str [112,114,111,99,101,115,115]]) (n:=3) rfl rfl dc;have L0:=C0.lt;have L1:=C1.lt;have L2:=C2.lt;have ve1:=V1.eqs;have ve2:=V2.eqs;have ve3:=V3.eqs;have g1:rat s.h 2 0=v1:=C2.cell 0 (QaS 2);have g2:rat s.h 2 1=v2:=C2.cell 1 (QbF (QaS 1));have g3:rat s.h 2 2=v3:=C2.cell 2 (QbF (QbF (QaS 0)));have vl1:=V1.len;have vl2:=V2.len;have vl3:=V3.len;have vc1:∀ l,lall AV.cell (v1 :: l)=lall AV.cell l:=λl=>by show cond v1.cell _ false=_;rw[V1.cell];rfl
  have vc2:∀ l,lall AV.cell (v2 :: l)=lall AV.cell l:=λl=>by show cond v2.cell _ false=_;rw[V2.cell];rfl
  have vc3:∀ l,lall AV.cell (v3 :: l)=lall AV.cell l:=λl=>by show cond v3.cell _ false=_;rw[V3.cell];rfl
  by_cases c2:isM (tk ts i') [[101,110,117,109],[118,97,114],[112,114,111,99,101,115,115]]=true
  .rw[if_pos c2] at hl;have hi1:=W.isM hi' c2;by_cases t1:(tk ts i').text=[101,110,117,109]
   .rw[if_pos t1] at hl;by_cases h32:32<=x.enums.length
    .rw[if_pos h32] at hl;have hl:SR.er (tk ts i')=r:=hl;subst hl;have R:=vq hb h32 (tk ts i');unfold pC at *
     (have zz:=a4 @g1 C0.r C1.r C2.r;repeat' first|apply jb<;>intro _|simp(disch:=try exact qS) only[ja i0,ja i2,ja i3,T,c2,t1,vl1,R,g1,zx,C0.q,C1.q,C2.q,g1,C0.r,C1.r,C2.r,r6,γ,ε])
     refine⟨i'+1,0,?_⟩;unfold pC
     (refine G1.done (by have zz:=a4 C0.q C1.q C2.q (aI C0.r (aI C1.r C2.r));exact qh) haa haa ?_;try exact vyD)
    .rw[if_neg h32] at hl;have R:=vp hb (show x.enums.length<32 by omega) (tk ts i');have A:=jsR hb W (d:=0) hi1;cases hw:wU ts (i'+1) with
     |er t=>
      rw[hw] at hl A;have hl:SR.er t=r:=hl;subst hl;obtain⟨i2',d2,A⟩:=A;have E:∀ st p,Cl st p (pC ts (i'+1) 0)->∀ K Kp,XB δ base 124 [.ptr p 0] st K Kp=_:=λst p C K Kp=>A.xb C rfl (λst=>hb.no 124 dc _ _) K Kp;unfold pC at *
      (have zz:=a4 @g1 C0.r C1.r C2.r;repeat' first|apply jb<;>intro _|simp(disch:=try exact qS) only[ja i0,ja i2,ja i3,T,c2,t1,vl1,R,g1,E,Hi,ve1,zx,C0.q,C1.q,C2.q,g1,C0.r,C1.r,C2.r,r6,γ,ε])
      refine⟨i2',d2,?_⟩;unfold pC
      (refine G1.done (by have zz:=a4 C0.q C1.q C2.q (aI C0.r (aI C1.r C2.r));exact qh) haa haa ?_;try exact vyD)
     |ok a j=>
      rw[hw] at hl A;dsimp only at hl;have A:PM δ base 124 (pC ts (i'+1) 0) [] (.ok (.agg [.str a.name,.lst a.vals.length (a.vals.map .str),.int .i64 (a.line:Int),.int .i64 (a.col:Int)])) (pC ts j 0):=A;have hj:=jfh W hi1 hw;have E:∀ st p,Cl st p (pC ts (i'+1) 0)->∀ K Kp,XB δ base 124 [.ptr p 0] st K Kp=_:=λst p C K Kp=>A.xb C rfl (λst=>hb.no 124 dc _ _) K Kp;have Ap:=λst bv xc xx K h hv=>@Jt 3 q x.enums.length 4 st v1 (fl enE x.enums) K 56 bv xc xx h dc om om hv;have VP:∀ st m',Lv 3 q st v1 x.enums.length (fl enE x.enums) 4->3<=st.nx->m'=st.nx+1->Lv 3 m' (aps v1 st [.str a.name,.lst a.vals.length (a.vals.map .str),.int .i64 (a.line:Int),.int .i64 (a.col:Int)]) (apv 4 v1 st) (x.enums ++ [a]).length (fl enE (x.enums ++ [a])) 4:=λst m' h h2 h3=>by
       rw[υ,Xl,Qc];exact h.put rfl h2 h3
      unfold pC at *
      (have zz:=a8 @g1 V1.ln V1.rts @jD @jG @jJ @V1 (a4 @jC @jI @jM (aI C0.r (aI C1.r C2.r)));repeat' first|apply jb<;>intro _|simp(disch:=try exact qS) only[ja i0,ja i2,ja i3,T,c2,t1,vl1,R,g1,E,Hi,ve1,Ap,V1.at,jC,C0.q,C1.q,C2.q,g1,V1.ln,V1.rts,jD,jG,jJ,V1,jC,jI,jM,C0.r,C1.r,C2.r,r6,γ,ε])
      refine⟨m,om,m,j,{ x with enums:=x.enums ++ [a] },?v1,v2,v3,rfl,om,hj.2,hl,om,?c0,?c1,?c2,?lv1,?lv2,?lv3,?d12,?d13,?d23,?has⟩;case lv1=>
       refine Lv.up (hi:=s.nx+4) ?_ om;refine VP _ _ ?_ ?_ ?_;all_goals first|(simp only[jf,ji,ju];done)|(simp only[jf,ji,ju];omega)|(simp(disch:=first|omega|(simp only[jf,ji,ju];omega)) only[jD,jG,jJ];exact V1)
      case lv2=>
       refine Lv.up (hi:=q) ?_ om;simp(disch:=first|omega|(simp only[jf,ji,ju];omega)) only[jD,jG,jJ];refine Lv.apsD ?_ D12;simp(disch:=first|omega|(simp only[jf,ji,ju];omega)) only[jD,jG,jJ];exact V2
      case d12=>exact(Df.put V2 (by simp only[jf,ji,ju];omega)).1
      case lv3=>
       refine Lv.up (hi:=q) ?_ om;simp(disch:=first|omega|(simp only[jf,ji,ju];omega)) only[jD,jG,jJ];refine Lv.apsD ?_ D13;simp(disch:=first|omega|(simp only[jf,ji,ju];omega)) only[jD,jG,jJ];exact V3
      case d13=>exact(Df.put V3 (by simp only[jf,ji,ju];omega)).1
      case d23=>exact D23
      case c0=>(have zz:=a8 C0.q C1.q C2.q @g1 @g2 @g3 V1.ln (a4 V1.rts @jC @jI (a4 @jM C0.r C1.r C2.r));try exact qh)
      case c1=>(have zz:=a8 C0.q C1.q C2.q @g1 @g2 @g3 V1.ln (a4 V1.rts @jC @jI (a4 @jM C0.r C1.r C2.r));try exact qh)
      case c2=>(have zz:=a8 C0.q C1.q C2.q @g1 @g2 @g3 V1.ln (a4 V1.rts @jC @jI (a4 @jM C0.r C1.r C2.r));try exact qh)
      case has=>simp(disch:=decide) only[h12,i0,i2,i3]
   .rw[if_neg t1] at hl;by_cases t2:(tk ts i').text=[118,97,114]
    .rw[if_pos t2] at hl;by_cases h32:32<=x.vars.length
     .rw[if_pos h32] at hl;have hl:SR.er (tk ts i')=r:=hl;subst hl;have R:=vq hb h32 (tk ts i');unfold pC at *
      (have zz:=a4 @g2 C0.r C1.r C2.r;repeat' first|apply jb<;>intro _|simp(disch:=try exact qS) only[ja i0,ja i2,ja i3,T,c2,t1,t2,vl2,R,g2,zx,C0.q,C1.q,C2.q,g2,C0.r,C1.r,C2.r,r6,γ,ε])
      refine⟨i'+1,0,?_⟩;unfold pC
      (refine G1.done (by have zz:=a4 C0.q C1.q C2.q (aI C0.r (aI C1.r C2.r));exact qh) haa haa ?_;try exact vyD)
     .rw[if_neg h32] at hl;have R:=vp hb (show x.vars.length<32 by omega) (tk ts i');have A:=jsZ hb W NN hi1;cases hw:wX ts (i'+1) with
      |er t=>
       rw[hw] at hl A;have hl:SR.er t=r:=hl;subst hl;obtain⟨i2',d2,A⟩:=A;have E:∀ st p,Cl st p (pC ts (i'+1) 0)->∀ K Kp,XB δ base 125 [.ptr p 0] st K Kp=_:=λst p C K Kp=>A.xb C rfl (λst=>hb.no 125 dc _ _) K Kp;unfold pC at *
       (have zz:=a4 @g2 C0.r C1.r C2.r;repeat' first|apply jb<;>intro _|simp(disch:=try exact qS) only[ja i0,ja i2,ja i3,T,c2,t1,t2,vl2,R,g2,E,jrR,ve2,zx,C0.q,C1.q,C2.q,g2,C0.r,C1.r,C2.r,r6,γ,ε])
       refine⟨i2',d2,?_⟩;unfold pC
       (refine G1.done (by have zz:=a4 C0.q C1.q C2.q (aI C0.r (aI C1.r C2.r));exact qh) haa haa ?_;try exact vyD)
      |ok a j=>
       rw[hw] at hl A;dsimp only at hl;have A:PM δ base 125 (pC ts (i'+1) 0) [] (.ok (.agg [.str a.name,.str a.ty,.int .i64 a.lo,.int .i64 a.hi,.lst a.begins.length (fl eE a.begins),.int .i64 (a.line:Int),.int .i64 (a.col:Int)])) (pC ts j 0):=A;have hj:=jfl W hi1 hw;have E:∀ st p,Cl st p (pC ts (i'+1) 0)->∀ K Kp,XB δ base 125 [.ptr p 0] st K Kp=_:=λst p C K Kp=>A.xb C rfl (λst=>hb.no 125 dc _ _) K Kp;have Ap:=λst bv xc xx K h hv=>@Jt 3 q x.vars.length 7 st v2 (fl qt x.vars) K 88 bv xc xx h dc om om hv;have VP:∀ st m',Lv 3 q st v2 x.vars.length (fl qt x.vars) 7->3<=st.nx->m'=st.nx+1->Lv 3 m' (aps v2 st [.str a.name,.str a.ty,.int .i64 a.lo,.int .i64 a.hi,.lst a.begins.length (fl eE a.begins),.int .i64 (a.line:Int),.int .i64 (a.col:Int)]) (apv 7 v2 st) (x.vars ++ [a]).length (fl qt (x.vars ++ [a])) 7:=λst m' h h2 h3=>by
        rw[υ,Xl,Qc];exact h.put rfl h2 h3
       unfold pC at *
       (have zz:=a8 @g2 V2.ln V2.rts @jD @jG @jJ @V2 (a4 @jC @jI @jM (aI C0.r (aI C1.r C2.r)));repeat' first|apply jb<;>intro _|simp(disch:=try exact qS) only[ja i0,ja i2,ja i3,T,c2,t1,t2,vl2,R,g2,E,jrR,ve2,Ap,V2.at,jC,C0.q,C1.q,C2.q,g2,V2.ln,V2.rts,jD,jG,jJ,V2,jC,jI,jM,C0.r,C1.r,C2.r,r6,γ,ε])
       refine⟨m,om,m,j,{ x with vars:=x.vars ++ [a] },v1,?v2,v3,rfl,om,hj.2,hl,om,?c0,?c1,?c2,?lv1,?lv2,?lv3,?d12,?d13,?d23,?has⟩;case lv2=>
        refine Lv.up (hi:=s.nx+4) ?_ om;refine VP _ _ ?_ ?_ ?_;all_goals first|(simp only[jf,ji,ju];done)|(simp only[jf,ji,ju];omega)|(simp(disch:=first|omega|(simp only[jf,ji,ju];omega)) only[jD,jG,jJ];exact V2)
       case lv1=>
        refine Lv.up (hi:=q) ?_ om;simp(disch:=first|omega|(simp only[jf,ji,ju];omega)) only[jD,jG,jJ];refine Lv.apsD ?_ D12.symm;simp(disch:=first|omega|(simp only[jf,ji,ju];omega)) only[jD,jG,jJ];exact V1
       case d12=>exact(Df.put V1 (by simp only[jf,ji,ju];omega)).2
       case lv3=>
        refine Lv.up (hi:=q) ?_ om;simp(disch:=first|omega|(simp only[jf,ji,ju];omega)) only[jD,jG,jJ];refine Lv.apsD ?_ D23;simp(disch:=first|omega|(simp only[jf,ji,ju];omega)) only[jD,jG,jJ];exact V3
       case d23=>exact(Df.put V3 (by simp only[jf,ji,ju];omega)).1
       case d13=>exact D13
       case c0=>(have zz:=a8 C0.q C1.q C2.q @g1 @g2 @g3 V2.ln (a4 V2.rts @jC @jI (a4 @jM C0.r C1.r C2.r));try exact qh)
       case c1=>(have zz:=a8 C0.q C1.q C2.q @g1 @g2 @g3 V2.ln (a4 V2.rts @jC @jI (a4 @jM C0.r C1.r C2.r));try exact qh)
       case c2=>(have zz:=a8 C0.q C1.q C2.q @g1 @g2 @g3 V2.ln (a4 V2.rts @jC @jI (a4 @jM C0.r C1.r C2.r));try exact qh)
       case has=>simp(disch:=decide) only[h12,i0,i2,i3]
    .rw[if_neg t2] at hl;by_cases h32:32<=x.procs.length
     .rw[if_pos h32] at hl;have hl:SR.er (tk ts i')=r:=hl;subst hl;have R:=vq hb h32 (tk ts i');unfold pC at *
      (have zz:=a4 @g3 C0.r C1.r C2.r;repeat' first|apply jb<;>intro _|simp(disch:=try exact qS) only[ja i0,ja i2,ja i3,T,c2,t1,t2,vl3,R,g3,zx,C0.q,C1.q,C2.q,g3,C0.r,C1.r,C2.r,r6,γ,ε])
      refine⟨i'+1,0,?_⟩;unfold pC
      (refine G1.done (by have zz:=a4 C0.q C1.q C2.q (aI C0.r (aI C1.r C2.r));exact qh) haa haa ?_;try exact vyD)
     .rw[if_neg h32] at hl;have R:=vp hb (show x.procs.length<32 by omega) (tk ts i');have A:=jr7 hb W hi1;cases hw:wD ts (i'+1) with
      |er t=>
       rw[hw] at hl A;have hl:SR.er t=r:=hl;subst hl;obtain⟨i2',d2,A⟩:=A;have E:∀ st p,Cl st p (pC ts (i'+1) 0)->∀ K Kp,XB δ base 126 [.ptr p 0] st K Kp=_:=λst p C K Kp=>A.xb C rfl (λst=>hb.no 126 dc _ _) K Kp;unfold pC at *
       (have zz:=a4 @g3 C0.r C1.r C2.r;repeat' first|apply jb<;>intro _|simp(disch:=try exact qS) only[ja i0,ja i2,ja i3,T,c2,t1,t2,vl3,R,g3,E,jrQ,ve3,zx,C0.q,C1.q,C2.q,g3,C0.r,C1.r,C2.r,r6,γ,ε])
       refine⟨i2',d2,?_⟩;unfold pC
       (refine G1.done (by have zz:=a4 C0.q C1.q C2.q (aI C0.r (aI C1.r C2.r));exact qh) haa haa ?_;try exact vyD)
      |ok a j=>
       rw[hw] at hl A;dsimp only at hl;have A:PM δ base 126 (pC ts (i'+1) 0) [] (.ok (.agg [.str a.name,.lst a.rules.length (fl ruE a.rules),.int .i64 (a.line:Int),.int .i64 (a.col:Int)])) (pC ts j 0):=A;have hj:=jeN W hi1 hw;have E:∀ st p,Cl st p (pC ts (i'+1) 0)->∀ K Kp,XB δ base 126 [.ptr p 0] st K Kp=_:=λst p C K Kp=>A.xb C rfl (λst=>hb.no 126 dc _ _) K Kp;have Ap:=λst bv xc xx K h hv=>@Jt 3 q x.procs.length 4 st v3 (fl prE x.procs) K 56 bv xc xx h dc om om hv;have VP:∀ st m',Lv 3 q st v3 x.procs.length (fl prE x.procs) 4->3<=st.nx->m'=st.nx+1->Lv 3 m' (aps v3 st [.str a.name,.lst a.rules.length (fl ruE a.rules),.int .i64 (a.line:Int),.int .i64 (a.col:Int)]) (apv 4 v3 st) (x.procs ++ [a]).length (fl prE (x.procs ++ [a])) 4:=λst m' h h2 h3=>by
        rw[υ,Xl,Qc];exact h.put rfl h2 h3
       unfold pC at *
       (have zz:=a8 @g3 V3.ln V3.rts @jD @jG @jJ @V3 (a4 @jC @jI @jM (aI C0.r (aI C1.r C2.r)));repeat' first|apply jb<;>intro _|simp(disch:=try exact qS) only[ja i0,ja i2,ja i3,T,c2,t1,t2,vl3,R,g3,E,jrQ,ve3,Ap,V3.at,jC,C0.q,C1.q,C2.q,g3,V3.ln,V3.rts,jD,jG,jJ,V3,jC,jI,jM,C0.r,C1.r,C2.r,r6,γ,ε])
       refine⟨m,om,m,j,{ x with procs:=x.procs ++ [a] },v1,v2,?v3,rfl,om,hj.2,hl,om,?c0,?c1,?c2,?lv1,?lv2,?lv3,?d12,?d13,?d23,?has⟩;case lv3=>
        refine Lv.up (hi:=s.nx+4) ?_ om;refine VP _ _ ?_ ?_ ?_;all_goals first|(simp only[jf,ji,ju];done)|(simp only[jf,ji,ju];omega)|(simp(disch:=first|omega|(simp only[jf,ji,ju];omega)) only[jD,jG,jJ];exact V3)
       case lv1=>
        refine Lv.up (hi:=q) ?_ om;simp(disch:=first|omega|(simp only[jf,ji,ju];omega)) only[jD,jG,jJ];refine Lv.apsD ?_ D13.symm;simp(disch:=first|omega|(simp only[jf,ji,ju];omega)) only[jD,jG,jJ];exact V1
       case d13=>exact(Df.put V1 (by simp only[jf,ji,ju];omega)).2
       case lv2=>
        refine Lv.up (hi:=q) ?_ om;simp(disch:=first|omega|(simp only[jf,ji,ju];omega)) only[jD,jG,jJ];refine Lv.apsD ?_ D23.symm;simp(disch:=first|omega|(simp only[jf,ji,ju];omega)) only[jD,jG,jJ];exact V2
       case d23=>exact(Df.put V2 (by simp only[jf,ji,ju];omega)).2
       case d12=>exact D12
       case c0=>(have zz:=a8 C0.q C1.q C2.q @g1 @g2 @g3 V3.ln (a4 V3.rts @jC @jI (a4 @jM C0.r C1.r C2.r));try exact qh)
       case c1=>(have zz:=a8 C0.q C1.q C2.q @g1 @g2 @g3 V3.ln (a4 V3.rts @jC @jI (a4 @jM C0.r C1.r C2.r));try exact qh)
       case c2=>(have zz:=a8 C0.q C1.q C2.q @g1 @g2 @g3 V3.ln (a4 V3.rts @jC @jI (a4 @jM C0.r C1.r C2.r));try exact qh)
       case has=>simp(disch:=decide) only[h12,i0,i2,i3]
  .rw[if_neg c2] at hl;by_cases k5:(tk ts i').kind=5
   .rw[if_pos k5] at hl;have hl:SR.ok x i'=r:=hl;subst hl;have k5':((tk ts i').kind:Int)=5:=om
    unfold pC at *
    (have zz:=a8 @g1 @g2 @g3 @vc1 @vc2 @vc3 C0.r (aI C1.r C2.r);repeat' first|apply jb<;>intro _|simp(disch:=try exact qS) only[ja i0,ja i2,ja i3,T,c2,k5',g1,g2,g3,jbk,C0.q,C1.q,C2.q,g1,g2,g3,vc1,vc2,vc3,C0.r,C1.r,C2.r,r6,γ,ε])
    show G1 3 (pC ts i' 0) (.agg (srE x)) _ _;refine G1.done ?_ haa haa (FzD.agg (.cons (Lv.fz (lo:=3) (hi:=q) (z:=4) ?_ dc (zq JT _)) (.cons (Lv.fz (lo:=3) (hi:=q) (z:=7) ?_ dc (zq Jy _)) (.cons (Lv.fz (lo:=3) (hi:=q) (z:=4) ?_ dc (zq jbr _)) .nil))))
    .unfold pC
     (have zz:=a8 C0.q C1.q C2.q @g1 @g2 @g3 C0.r (aI C1.r C2.r);try exact qh)
    all_goals simp(disch:=first|omega|(simp only[jf,ji,ju];omega)) only[jH,jD,jG,jJ]
    .exact V1
    .exact V2
    .exact V3
   .rw[if_neg k5] at hl;have hl:SR.er (tk ts i')=r:=hl;subst hl;have k5':¬ ((tk ts i').kind:Int)=5:=om
    unfold pC at *
    (have zz:=a4 @g1 C0.r C1.r C2.r;repeat' first|apply jb<;>intro _|simp(disch:=try exact qS) only[ja i0,ja i2,ja i3,T,c2,k5',g1,Qf hb,zx,C0.q,C1.q,C2.q,g1,C0.r,C1.r,C2.r,r6,γ,ε])
    refine⟨i',0,?_⟩;unfold pC
    (refine G1.done (by have zz:=a4 C0.q C1.q C2.q (aI C0.r (aI C1.r C2.r));exact qh) haa haa ?_;try exact vyD)
 .refine⟨ts.length,i,⟨[],[],[]⟩,.nils,.nils,.nils,rfl,om,hi,hr,om,C0,C1,C2,Lv.nil,Lv.nil,Lv.nil,trivial,trivial,trivial,?_⟩;simp(disch:=decide) only[h12]
theorem juz:Go.Ev.isAgg δ 26=some true:=Qa0
theorem juy:Go.Ev.sizeOf δ 26=some 3:=Qa0
theorem jgh (ho:0+3<=jV h b)(hv:rats h b 0 3=[.nils,.nils,.nils]):(jZ δ 26 (.ptr b 0) (.agg [.nils,.nils,.nils]) h=true)=True:=eq_true (YW juz juy dc ho hv rfl)
def V5:SrcT:=⟨[],[],[]⟩
def zk (l:Lc):SrcT×(Nat×Nat×Nat):=
 if(qj l).2.1≠0 then(V5,(qj l).2) else match Zj (qj l).1 (qj l).1.length 0 V5 with
  |.er t=>(V5,(151,t.line,t.col))
  |.ok m j=>(m,(0,0,0))
theorem gn (m:SrcT):(srE m).all pc=true:=by
 show([AV.lst m.enums.length (fl enE m.enums),.lst m.vars.length (fl qt m.vars),.lst m.procs.length (fl prE m.procs)]).all pc=true;simp[pc]
theorem jeA {ds:List AV}(h2:ds=zG q):G0 (.tup [.agg (srE V5),.agg (zG q)]) (.tup [.agg [.nils,.nils,.nils],.agg ds]) s:=by
 subst h2;exact FzD.tup (.cons (.agg (.cons FzD.nils (.cons FzD.nils (.cons FzD.nils .nil)))) (.cons (.agg (.pc haa)) .nil))
theorem joA {m:SrcT}{ds:List AV}(h:cs=srE m)(h2:ds=zG q):G0 (.tup [.agg (srE m),.agg (zG q)]) (.tup [.agg cs,.agg ds]) s:=by
 subst h h2;exact FzD.tup (.cons (.agg (.pc (gn m))) (.cons (.agg (.pc haa)) .nil))
theorem jmR (hb:NB base)(hP:PI base)(l:Lc)(hl:l.length<=9223372036854775807)(hW:(qj l).2.1=0->Wds (qj l).1/\(qj l).1≠[]/\(qj l).2=(0,0,0))(hN:(qj l).2.1=0->Nbs (qj l).1) :
  Tot base 65 [.str l] (.tup [.agg (srE (zk l).1),.agg (zG (zk l).2)]):=by
 refine hb.tot ?_ rfl rfl;refine W5 x9 (hb.pur 65 1 dc) ?_;simp only[y9,jj,ζ,θ,κ,μ];rw[(by unfold z9;simp only[qq];rfl:z9=_)];have hC:=joi hb hP l hl;have f0:(zG (qj l).2)=[.int .i64 ((qj l).2.1:Int),.int .i64 ((qj l).2.2.1:Int),.int .i64 ((qj l).2.2.2:Int)]:=rfl;by_cases he:(qj l).2.1=0
 .obtain⟨W,hne,hz⟩:=hW he;have NN:=hN he;have hi:0<(qj l).1.length:=QbO.2 hne;have A:=jlP hb W NN hi;unfold zk;rw[if_neg (by simp[he])];rw[hz] at hC;have s0:V5=⟨[],[],[]⟩:=rfl;rw[<-s0] at A;generalize (qj l).1=ts at *;have fz:zG (0,0,0)=[.int .i64 0,.int .i64 0,.int .i64 0]:=rfl;rw[fz] at hC;cases hr:Zj ts ts.length 0 V5 with
  |er t=>
   rw[hr] at A;obtain⟨i',d',A⟩:=A;have E:∀ st p,Cl st p [.lst ts.length (fl Tk.cells ts),.int .i64 0,.int .i64 0]->∀ K Kp,XB δ base 90 [.ptr p 0] st K Kp=_:=λst p C K Kp=>A.xb C rfl (λst=>hb.no 90 dc _ _) K Kp;unfold pC at *;repeat' first|apply jb<;>intro _|simp(disch:=try exact dzD) only[hC,E,Ya,Jb (f:=89) (vs:=[.ptr 1 0]),yw (f:=89) (vs:=[.ptr 1 0]),zH,uh,W9,YU,jgh,Yx,VU,VS (base:=base),r6,γ,ε]
   exact jeA rfl
  |ok m j=>
   rw[hr] at A;have A:PM δ base 90 (pC ts 0 0) [] (.ok (.agg [.lst m.enums.length (fl enE m.enums),.lst m.vars.length (fl qt m.vars),.lst m.procs.length (fl prE m.procs)])) (pC ts j 0):=A;have E:∀ st p,Cl st p [.lst ts.length (fl Tk.cells ts),.int .i64 0,.int .i64 0]->∀ K Kp,XB δ base 90 [.ptr p 0] st K Kp=_:=λst p C K Kp=>A.xb C rfl (λst=>hb.no 90 dc _ _) K Kp;dsimp only;unfold pC at *;repeat' first|apply jb<;>intro _|simp(disch:=try exact dzD) only[hC,E,Ya,Jb (f:=89) (vs:=[.ptr 1 0]),yw (f:=89) (vs:=[.ptr 1 0]),zH,uh,W9,YU,jgh,Yx,VU,VS (base:=base),r6,γ,ε]
   exact joA rfl rfl
 .have he':¬ ((qj l).2.1:Int)=0:=om
  unfold zk;rw[if_pos he];rw[f0] at hC;generalize (qj l).1=ts at *;repeat' first|apply jb<;>intro _|simp(disch:=try exact dzD) only[hC,he',Ya,Jb (f:=89) (vs:=[.ptr 1 0]),yw (f:=89) (vs:=[.ptr 1 0]),zH,uh,W9,YU,jgh,r6,γ,ε]
  exact jeA rfl
theorem jgy {r:Lc}{p:Nat×Nat}{t:Tk}(h:yR r p=(0,t,n)):t.text.length<=r.length/\t.num<=1000000:=by
 cases r with
 |nil=>simp[yR] at h;obtain⟨h1,h2⟩:=h;subst h1;simp
 |cons x r'=>
  unfold yR at h;simp only at h;split at h
  .split at h
   .simp at h
   .simp only[Prod.mk.injEq] at h;obtain⟨_,h1,h2⟩:=h;subst h1;exact⟨by simp only[Qas];omega,by simp⟩
  .split at h
   .split at h
    .simp at h
    .rename_i hh;simp only[Prod.mk.injEq] at h;obtain⟨_,h1,h2⟩:=h;subst h1;exact⟨by simp only[Qas];omega,by dsimp only;omega⟩
   .split at h
    .simp at h
    .simp only[Prod.mk.injEq] at h;obtain⟨_,h1,h2⟩:=h;subst h1;exact⟨by simp only[Qas];omega,by simp⟩
structure Goods (n:Nat)(ts:List Tk):Prop where
 ne:ts≠[]
 len:ts.length<=n+1
 tok:∀ t∈ts,t.text.length<=n/\t.num<=1000000
 fin:∀ i,i<ts.length->((tk ts i).kind=5↔i+1=ts.length)
theorem jjJ (k:Nat):∀ (r:Lc) (p:Nat×Nat),r.length<=k->(JE r p).2.1=0->(JE r p).2=(0,0,0)/\Goods r.length (JE r p).1:=by
 induction k with
 |zero=>
  intro r p hr;have:r=[]:=Qbi om;subst this;have hx:yR (([]:Lc).drop (qb [])) (qc p (([]:Lc).take (qb [])))=(0,⟨5,[],0,(qc p (([]:Lc).take (qb []))).1,(qc p (([]:Lc).take (qb []))).2⟩,0):=by simp only[List.drop_nil];rfl
  rw[vD _ p hx,if_neg hac,if_pos rfl];intro _;refine⟨rfl,by simp,by simp,by simp,λi hi=>?_⟩;have:i=0:=by simp at hi;omega
  subst this;simp[tk]
 |succ k ih=>
  intro r p hr;have hg:=kL r;generalize hx:yR (r.drop (qb r)) (qc p (r.take (qb r)))=x;obtain⟨e,t,n⟩:=x;rw[vD r p hx];by_cases he:e=0
  .subst he;rw[if_neg hac];have hk:=gQ hx;have hgd:=jgy hx;have hle:=Ky hx;simp only[Qav] at hgd hle;by_cases hn:n=0
   .rw[if_pos hn];intro _;refine⟨rfl,by simp,by simp,?_,λi hi=>?_⟩
    .intro t' ht';have:t'=t:=by simpa using ht'
     subst this;exact⟨om,hgd.2⟩
    .have:i=0:=by simp at hi;omega
     subst this;have:=hk.1.2 hn;simpa[tk] using this
   .rw[if_neg hn];have hl:((r.drop (qb r)).drop n).length<=k:=by simp only[Qav];omega
    have hI:=ih ((r.drop (qb r)).drop n) (qc (qc p (r.take (qb r))) ((r.drop (qb r)).take n)) hl;generalize hq:JE ((r.drop (qb r)).drop n) (qc (qc p (r.take (qb r))) ((r.drop (qb r)).take n))=q at hI ⊢;by_cases hf:q.2.1=0
    .rw[if_neg (by simp[hf])];intro _;obtain⟨h1,h2⟩:=hI hf;have hl2:((r.drop (qb r)).drop n).length+1<=r.length:=by simp only[Qav];omega
     generalize ((r.drop (qb r)).drop n).length=m at *;have h3:=h2.len;refine⟨h1,by simp,by simp only[τ];omega,?_,λi hi=>?_⟩
     .intro t' ht';rcases QaT.1 ht' with rfl|ht'
      .exact⟨om,hgd.2⟩
      .have:=h2.tok t' ht';exact⟨om,this.2⟩
     .cases i with
      |zero=>
       have hk5:t.kind≠5:=λh=>hn (hk.1.1 h);have:=QbO.2 h2.ne;show t.kind=5↔0+1=q.1.length+1;constructor
       .intro h;exact absurd h hk5
       .intro h;omega
      |succ i=>
       show(tk q.1 i).kind=5↔i+1+1=q.1.length+1;have:=h2.fin i (by simpa using hi);constructor
       .intro h;have:=this.1 h;omega
       .intro h;exact this.2 om
    .rw[if_pos hf];intro h;exact absurd h hf
  .rw[if_pos he];intro h;exact absurd h he
theorem jaU (h:(qj l).2.1=0):l.length<=65536/\(qj l).2=(0,0,0)/\Goods l.length (qj l).1:=by
 unfold qj at *;by_cases hl:65536<l.length
 .rw[if_pos hl] at h;cases h
 .rw[if_neg hl] at h ⊢;obtain⟨h1,h2⟩:=jjJ l.length l (1,1) (η _) h;exact⟨om,h1,h2⟩
theorem jnC (h:ts.length<=i):tk ts i=⟨0,[],0,0,0⟩:=by simp[tk,Qaf,h]
theorem jig (h:i<ts.length):tk ts i∈ts:=by rw[<-jnD h];exact Qaa h
theorem Goods.wds (h:Goods n ts)(hn:n<=65536):Wds ts where
 len:=by have:=h.len;omega
 next:=λi hi hk=>by
  have:=h.fin i hi;rcases Qaq (i+1) ts.length with h2|h2
  .exact h2
  .exact absurd (this.2 om) hk
 txt:=λi=>by
  rcases Qaq i ts.length with h2|h2
  .have:=(h.tok _ (jig h2)).1;omega
  .rw[jnC h2];simp
theorem Goods.nbs (h:Goods n ts):Nbs ts:=λi=>by
 rcases Qaq i ts.length with h2|h2
 .exact(h.tok _ (jig h2)).2
 .rw[jnC h2];simp
theorem GE (h:(qj l).2.1=0):Wds (qj l).1/\(qj l).1≠[]/\(qj l).2=(0,0,0):=
 let ⟨h1,h2,h3⟩:=jaU h
 ⟨h3.wds h1,h3.ne,h2⟩
theorem jjH (h:(qj l).2.1=0):Nbs (qj l).1:=(jaU h).2.2.nbs
def jlc:XC:=(Ty [Tw] [oz 7 1,IP 8 7,IO 9] 0 10 9 8 10 0 1 [TK 11 7 9,oF 12 11,oz 6 12] (ID (Tz 13 6 (Iz 14) (ow 15 (.strb .eql 13 14))) 15 [oK 4 Io]) 16 9 1 9 16 [Tw])
def jqQ:XF:=⟨[0,1],jlc,[(.t 4)]⟩
theorem jwp:jx δ 142=some jqQ:=Qa0
def z84:XC:=(OK [TU] [Iz 3,TG 4 19 oJ [Ow 0 [101,110,117,109],Ow 1 [118,97,114],Ow 2 [98,111,111,108],Ow 3 [112,114,111,99,101,115,115],Ow 4 [119,104,101,110],Ow 5 [100,111],Ow 6 [116,114,117,101],Ow 7 [102,97,108,115,101],O4 8 88,O4 9 70,O4 10 71,O4 11 85,O4 12 82,O4 13 89,O4 14 90,O4 15 79,O4 16 72,O4 17 83,O4 18 84],OL 5 142 3 4,Tl 5])
def y84:XF:=⟨[0],z84,[(.t 2)]⟩
theorem x84:jx δ 105=some y84:=Qa0
def z83:XC:=(OK [TU] [Iz 3,ON 4 .geq 3 (TI 97),oy 5 4,Os 6 5 0,Iv 7 5 (oH .leq 6 (TI 122)),II 8 5 7 OI,oy 9 8,Oh 10 9 0,Iu 11 9 (oH .geq 10 (TI 65)),Oh 12 9 11,Os 13 12 0,Iv 14 12 (oH .leq 13 (TI 90)),Iu 15 9 (.pick 12 14 OI),T7 16 9 15,Tl 16])
def y83:XF:=⟨[0],z83,[(.t 2)]⟩
theorem x83:jx δ 103=some y83:=Qa0
def z85:XC:=(OK [TU] [Iz 3,ON 4 .geq 3 (TI 48),oy 5 4,Os 6 5 0,Iv 7 5 (oH .leq 6 (TI 57)),II 8 5 7 OI,Tl 8])
def y85:XF:=⟨[0],z85,[(.t 2)]⟩
theorem x85:jx δ 104=some y85:=Qa0
def z56:XC:=(IZ [TU] (IY [IO 3] 0 (.seq (oM [oy 4 3,Iz 5,ol 6 (.lenS 5),I5 7 4 6] 7 .skip (.exit 0)) (IK 1 (ID [Iz 10,oy 11 3,ol 12 (.ixStr 10 11),OG 13 103 12,ol 14 (I8 13),oy 15 14,Os 16 15 3,Iv 17 15 (oH .eql 16 oB),Os 18 15 17,Oh 19 18 0,Oh 20 18 3,Iu 21 18 (.ixStr 19 20),O7 22 (18,false) 104 [] [21],Iu 23 18 (I8 22),Oh 24 18 23,Os 25 24 0,Os 26 24 3,Iv 27 24 (.ixStr 25 26),Iv 28 24 (oH .neq 27 (TI 95)),Iu 29 18 (.pick 24 28 OI),Iv 30 15 (.pick 18 Oi 29),On 31 15 30 OI] 31 [TU]) (TA 8 3 (IQ 9 8 1) 3 9)))) [Iz 32,ol 33 (.lenS 32),ON 34 .gtr 33 oB,oy 35 34,Os 36 35 0,Iv 37 35 (.lenS 36),Iv 38 35 (o8 .leq 37 32),II 39 35 38 OI,oy 40 39,Os 41 40 0,O7 42 (40,true) 105 [] [41],Iv 43 40 (I8 42),II 44 40 43 OI,Tl 44])
def y56:XF:=⟨[0],z56,[(.t 2)]⟩
theorem x56:jx δ 71=some y56:=Qa0
def z16:XC:=(oX [IV 1 0,oK 2 oJ] (Id [TB 3 1,oF 4 3,IU 5 4,Th 6 .eql 5 2] 6 (OQ [IT 7 3 1,Tj 8 7 7 63,IJ (Ih 9 6 8 OM),Tc 10 6 9 9 65 [],(Ts 11 140 10 0 [],some [TM 11,TM 12,Ic (OZ 13 1) 0,Ij (oF 14 13) 13 3 [(2,0)],TM 15,TM 16,TM 17,Ic (TB 18 1) 0,Ij (oF 19 18) 18 63 [(3,0),(7,0)],Ic (Ih 20 6 19 Tb) 0,Ij (TJ 21 20) 20 65 [(5,0),(9,0)],TM 22,TM 23,Ic (oK 2 IH) 0]),IJ (OY 12 11 (o4 [32])),IT 13 0 1,Oj 14 13 13 3 [(2,0)],(Ts 15 141 14 0 [],some [TM 15,TM 16,TM 17,Ic (TB 18 1) 0,Ij (oF 19 18) 18 63 [(3,0),(7,0)],Ic (Ih 20 6 19 Tb) 0,Ij (TJ 21 20) 20 65 [(5,0),(9,0)],TM 22,TM 23,Ic (oK 2 IH) 0]),IJ (OY 16 12 15),IJ (OY 17 16 (o4 [32])),IT 18 3 1,Oj 19 18 18 63 [(3,0),(7,0)],IJ (Ih 20 6 19 Tb),Tc 21 6 20 20 65 [(5,0),(9,0)],(Ts 22 140 21 0 [],I6),IJ (OY 23 17 22),IJ (Tl 23)] .ret)) (.seq (Id [TB 24 1,oF 25 24,IU 26 25,Th 27 .eql 26 1] 27 (.seq (Id [OZ 28 1,oF 29 28,Th 30 .gtr 29 6] 30 (OQ [IT 31 0 1,Tj 32 31 31 3,(Ts 33 141 32 0 [],some [TM 33,TM 34,Ic (TB 35 1) 0,Ij (oF 36 35) 35 63 [(2,0)],Ic (Ih 37 6 36 OM) 0,Ij (TJ 38 37) 37 65 [(4,0)],TM 39,TM 40,Ic (oK 2 IH) 0]),IJ (OY 34 33 (o4 [32])),IT 35 3 1,Oj 36 35 35 63 [(2,0)],IJ (Ih 37 6 36 OM),Tc 38 6 37 37 65 [(4,0)],(Ts 39 140 38 0 [],I6),IJ (OY 40 34 39),IJ (Tl 40)] .ret)) (OQ [IT 41 0 1,Tj 42 41 41 3,(Ts 43 141 42 0 [],some [TM 43,Ic (TB 44 1) 0,Ij (oF 45 44) 44 63 [(1,0)],Ic (Ih 46 6 45 OM) 0,Ij (TJ 47 46) 46 65 [(3,0)],TM 48,TM 49,Ic (oK 2 IH) 0]),IT 44 3 1,Oj 45 44 44 63 [(1,0)],IJ (Ih 46 6 45 OM),Tc 47 6 46 46 65 [(3,0)],(Ts 48 140 47 0 [],I6),IJ (OY 49 43 48),IJ (Tl 49)] .ret))) (.seq (ID [OZ 50 1,oF 51 50,Th 52 .eql 51 1] 52 [Tu 53 1,oF 54 53,OG 55 101 54,Tl 55]) (Tq (Id [OZ 56 1,oF 57 56,Th 58 .eql 57 2] 58 (Tq (ID [Tu 59 1,oF 60 59,Th 61 .eql 60 1] 61 [oK 2 (.str [116,114,117,101])]) [oK 2 (.str [102,97,108,115,101])])) [oD 62 2 1,oF 63 62,Tl 63]))))
def y16:XF:=⟨[0],z16,[(.t 2)]⟩
theorem x16:jx δ 102=some y16:=Qa0
def z51:XC:=(IZ [IV 1 0,oK 2 oJ] (ID [TB 3 1,oF 4 3,IU 5 4,Ti 6 .eql 5] 6 [TJ 7 1,OG 8 102 7,Tl 8]) [TJ 9 1,OG 10 102 9,OY 11 (o4 [40]) 10,OY 12 11 (o4 [41]),Tl 12])
def y51:XF:=⟨[0],z51,[(.t 2)]⟩
theorem x51:jx δ 140=some y51:=Qa0
def z53:XC:=(Oy [oK 2 oJ] [Iz 3,Ti 4 .lss 3] 4 [Iz 5,ol 6 (.un .neg 5),OG 7 101 6,OY 8 (o4 [45]) 7,Tl 8] (.seq (ID [Iz 9,Th 10 .lss 9 10] 10 [Iz 11,Iz 12,IQ 13 12 1,ol 14 (.slStr (o4 [48,49,50,51,52,53,54,55,56,57]) (some 11) (some 13)),Tl 14]) (.seq (.cops [Tp 15,Iw (Ii 16 .quo 15 10),(OG 17 101 16,some [TM 17,Ic (Iz 18) 0,Ic (Ii 19 .rem 18 10) 0,Ic (Iz 20) 0,Ic (Ii 21 .rem 20 10) 0,Ic (IQ 22 21 1) 0,Ic (ol 23 (.slStr (o4 [48,49,50,51,52,53,54,55,56,57]) (some 19) (some 22))) 0,TM 24,Ic (oK 2 IH) 0]),Tp 18,Iw (Ii 19 .rem 18 10),Tp 20,Iw (Ii 21 .rem 20 10),Iw (IQ 22 21 1),Iw (ol 23 (.slStr (o4 [48,49,50,51,52,53,54,55,56,57]) (some 19) (some 22))),Iw (OY 24 17 23),Iw (Tl 24)]) .ret)))
def y53:XF:=⟨[0],z53,[(.t 2)]⟩
theorem x53:jx δ 101=some y53:=Qa0
def z18:XC:=(ou [IV 1 0,oK 2 oJ,IO 3] (Oy [oK 4 oJ] [OZ 19 1,oF 20 19,IU 21 20,Ii 22 .gtr 21 32,oy 23 22,OV 24 23 1 1,OS 25 23 24,TT 26 23 25,Tr 27 23 .gtr 26 32,T7 28 23 27,oy 29 28,OV 30 29 2 1,OS 31 29 30,TT 32 29 31,Tr 33 29 .gtr 32 32,On 34 29 Oi 33] 34 [oK 2 oJ,Oq 3 141] (.seq (TN [OZ 35 1,Ot 36 35,IP 37 36,IO 38] 0 39 38 37 39 0 1 [Ih 40 4 36 38,o7 41 4 40,Ib 6 [oJ,.nils,oB,oB],o9 4 6 41] (Oy [o7 43 4 6,OG 44 69 43,oy 42 44,O8 45 42,O9 46 42,oz 7 45,oz 8 46] (T5 47 8 (TH 48 47)) 48 [oK 2 oJ,Oq 3 141] (.ops [oy 49 4,oy 50 7,OY 51 49 50,TR 51])) 52 38 1 38 52) (.seq (TN [Tu 53 1,Ot 54 53,IP 55 54,IO 56] 2 57 56 55 57 2 3 [Ih 58 7 54 56,o7 59 7 58,Ib 10 [oJ,oJ,oB,oB,.nils,oB,oB],o9 7 10 59] (Oy [o7 61 7 10,OG 62 70 61,oy 60 62,O8 63 60,O9 64 60,oz 11 63,oz 12 64] (T5 65 12 (TH 66 65)) 66 [oK 2 oJ,Oq 3 141] (.ops [oy 67 4,oy 68 11,OY 69 67 68,TR 69])) 70 56 1 56 70) (Tq (Og [oD 71 2 1,Ot 72 71,IP 73 72,IO 74] 4 (Tx 75 74 73) 75 4 5 (Oy [Ih 76 4 72 74,o7 77 4 76,Ib 14 [oJ,.nils,oB,oB],o9 4 14 77] [OZ 78 14,oF 79 78,OG 80 71 79,ol 81 (I8 80),oy 82 81,OV 83 82 1 14,OS 84 82 83,TT 85 82 84,Tr 86 82 .gtr 85 32,On 87 82 Oi 86] 87 [oK 2 oJ,Oq 3 141] (oX [oy 88 4,OZ 89 14,oF 90 89,OY 91 (o4 [112,114,111,99,101,115,115,32]) 90,OY 92 91 (o4 [32,123,10]),OY 93 88 92,TR 93] (TN [Tu 94 14,Ot 95 94,IP 96 95,IO 97] 6 98 97 96 98 6 7 [Ih 99 7 95 97,o7 100 7 99,Ib 16 [oB,oB,oJ,.nils,oB,oB,.nils],o9 7 16 100] (Oy [o7 102 7 16,OG 103 72 102,oy 101 103,O8 104 101,O9 105 101,oz 17 104,oz 18 105] (T5 106 18 (TH 107 106)) 107 [oK 2 oJ,Oq 3 141] (.ops [oy 108 4,oy 109 17,OY 110 108 109,TR 110])) 111 97 1 97 111) (.ops (TA 112 4 (OY 113 112 (o4 [125,10])) 4 113)))) 114 74 1 74 114) (Tz 115 4 (Tl 115) (IO 3)))))))
def y18:XF:=⟨[0],z18,[(.t 2),(.t 3)]⟩
theorem x18:jx δ 37=some y18:=Qa0
def z54:XC:=(Oy [IV 1 0,oK 2 oJ,OA 3] [OZ 7 1,oF 8 7,OG 9 71 8,ol 10 (I8 9),oy 11 10,OV 12 11 1 1,OS 13 11 12,TT 14 11 13,Tr 15 11 .lss 14 1,T7 16 11 15,oy 17 16,OV 18 17 1 1,OS 19 17 18,TT 20 17 19,Tr 21 17 .gtr 20 32,On 22 17 Oi 21] 22 [oK 2 oJ,OA 3] (IZ [OZ 23 1,oF 24 23,OY 25 (o4 [101,110,117,109,32]) 24,OY 26 25 (o4 [32,123,32]),TR 26] (Og [Tu 27 1,Ot 28 27,IP 29 28,IO 30] 0 (Tx 31 30 29) 31 0 1 (Oy [oy 32 30,TK 33 28 30,oF 34 33,oz 5 32,oz 6 34] (Tz 35 6 (OG 36 71 35) (TH 37 36)) 37 [oK 2 oJ,OA 3] (.seq (Oo (T5 38 5 (Ti 39 .gtr 38)) 39 (TA 40 4 (OY 41 40 (o4 [44,32])) 4 41)) (.ops [oy 42 4,oy 43 6,OY 44 42 43,TR 44]))) 45 30 1 30 45) [oy 46 4,OY 47 46 (o4 [32,125,10]),Tl 47,oK 3 Io]))
def y54:XF:=⟨[0],z54,[(.t 2),(.t 3)]⟩
theorem x54:jx δ 69=some y54:=Qa0
def jfX:XC:=(.seq (ID [oD 57 4 1,oF 58 57,IU 59 58,Ii 60 .gtr 59 1,oy 61 60,OV 62 61 0 1,OS 63 61 62,O7 64 (61,false) 71 [] [63],Iu 65 61 (I8 64),On 66 61 Oi 65] 66 [oK 2 oJ,OA 3]) (Tq (Og [oD 67 4 1,Ot 68 67,IP 69 68,IO 70] 0 (Tx 71 70 69) 71 0 1 (Oy [Ih 72 6 68 70,TJ 73 72,T4 6,o9 6 6 73] [TJ 74 6,OG 75 24 74,TH 76 75] 76 [oK 2 oJ,OA 3] (.ops [oy 77 4,TJ 78 6,OG 79 102 78,OY 80 (o4 [32,61,32]) 79,OY 81 77 80,TR 81])) 82 70 1 70 82) [oy 83 4,OY 84 83 (o4 [59,10]),Tl 84,oK 3 Io]))
def z55:XC:=(ou [IV 1 0,oK 2 oJ,OA 3] (oX [OZ 7 1,oF 8 7,OY 9 (o4 [118,97,114,32]) 8,OY 10 9 (o4 [32,58,32]),TR 10] (oM [Tu 11 1,oF 12 11,ow 13 (.strb .eql 12 (.c oJ))] 13 (.seq (ID [oD 14 2 1,oF 15 14,OG 16 100 15,ol 17 (I8 16),oy 18 17,OV 19 18 3 1,OS 20 18 19,O7 21 (18,false) 100 [] [20],Iu 22 18 (I8 21),On 23 18 Oi 22] 23 [oK 2 oJ,OA 3]) (.dops [To 24 4,IT 25 2 1,Tj 26 25 25 2,(Ts 27 101 26 0 [],some [TM 27,TM 28,Ic (TB 29 1) 0,Ij (oF 30 29) 29 2 [(2,0)],TM 31,TM 32,TM 33,Ic (oK 4 IH) 0]),IJ (OY 28 27 (o4 [46,46])),IT 29 3 1,Oj 30 29 29 2 [(2,0)],(Ts 31 101 30 0 [],I6),IJ (OY 32 28 31),IJ (OY 33 24 32),IJ (TR 33)])) (.seq (ID [oD 34 2 1,oF 35 34,ON 36 .neq 35 oB,oy 37 36,OV 38 37 3 1,OS 39 37 38,Iu 40 37 (oH .neq 39 oB),T7 41 37 40,oy 42 41,OV 43 42 1 1,OS 44 42 43,Iu 45 42 (.strb .neq 44 (o4 [98,111,111,108])),Oh 46 42 45,Tv 47 46 1 1,Td 48 46 47,O7 49 (46,true) 71 [] [48],Iv 50 46 (I8 49),Iu 51 42 (.pick 46 50 OI),On 52 42 Oi 51] 52 [oK 2 oJ,OA 3]) (.ops [oy 53 4,Tu 54 1,oF 55 54,OY 56 53 55,TR 56]))) jfX))
def y55:XF:=⟨[0],z55,[(.t 2),(.t 3)]⟩
theorem x55:jx δ 70=some y55:=Qa0
def z57:XC:=(Oy [IV 1 0,oK 2 oJ,OA 3] [OZ 7 1,TJ 8 7,OG 9 24 8,ol 10 (I8 9),oy 11 10,OV 12 11 6 1,OS 13 11 12,TT 14 11 13,Tr 15 11 .lss 14 1,T7 16 11 15,oy 17 16,OV 18 17 6 1,OS 19 17 18,TT 20 17 19,Tr 21 17 .gtr 20 32,On 22 17 Oi 21] 22 [oK 2 oJ,OA 3] (IZ [OZ 23 1,TJ 24 23,OG 25 102 24,OY 26 (o4 [32,32,119,104,101,110,32]) 25,OY 27 26 (o4 [32,100,111,32]),TR 27] (Og [oD 28 6 1,Ot 29 28,IP 30 29,IO 31] 0 (Tx 32 31 30) 32 0 1 (Oy [oy 33 31,Ih 34 9 29 31,o7 35 9 34,Ib 6 [oJ,oB,oB,oJ,.nils,oB,oB,oB,oB],oz 5 33,o9 9 6 35] [OZ 36 6,oF 37 36,OG 38 71 37,ol 39 (I8 38),oy 40 39,OV 41 40 1 6,Iu 42 40 (.ldA 6 41),O7 43 (40,false) 24 [] [42],Iu 44 40 (I8 43),On 45 40 Oi 44] 45 [oK 2 oJ,OA 3] (.seq (Oo (T5 46 5 (Ti 47 .gtr 46)) 47 (TA 48 4 (OY 49 48 (o4 [44,32])) 4 49)) (.dops [To 50 4,IT 51 0 6,Tj 52 51 51 9,IJ (OY 53 52 (o4 [32,58,61,32])),IT 54 1 6,Tc 55 6 54 54 65 [],(Ts 56 102 55 0 [(3,9)],I6),IJ (OY 57 53 56),IJ (OY 58 50 57),IJ (TR 58)]))) 59 31 1 31 59) [oy 60 4,OY 61 60 (o4 [59,10]),Tl 61,oK 3 Io]))
def y57:XF:=⟨[0],z57,[(.t 2),(.t 3)]⟩
theorem x57:jx δ 72=some y57:=Qa0
theorem jj6 (hb:NB base)(c:Nat):Tot base 103 [.int .u8 (c:Int)] (.bool (zN c)):=by
 refine hb.tot ?_ rfl rfl;refine jB x83 haa (hb.pur 103 1 dc) ?_;simp only[y83,jj,ζ,θ,κ,μ];rw[(by unfold z83;simp only[qq];rfl:z83=_)];repeat' first|apply jb<;>intro _|simp(disch:=try exact dzA) only[rzZ,γ,ε]
 all_goals(refine G0.v (congrArg AV.bool ?_) rfl;rw[Qaw];simp only[zN,QaE,ψ,decide_eq_true_eq,QaP,QbE,QaO,decide_eq_false_iff_not,true_iff,false_iff,iff_true,iff_false,not_true_eq_false,not_false_eq_true,ne_eq,eq_self]<;>omega)
theorem jmX (hb:NB base)(c:Nat):Tot base 104 [.int .u8 (c:Int)] (.bool (qf c)):=by
 refine hb.tot ?_ rfl rfl;refine jB x85 haa (hb.pur 104 1 dc) ?_;simp only[y85,jj,ζ,θ,κ,μ];rw[(by unfold z85;simp only[qq];rfl:z85=_)];repeat' first|apply jb<;>intro _|simp(disch:=try exact dzA) only[rzZ,γ,ε]
 all_goals(refine G0.v (congrArg AV.bool ?_) rfl;rw[Qaw];simp only[qf,QaE,ψ,decide_eq_true_eq,QaP,QbE,QaO,decide_eq_false_iff_not,true_iff,false_iff,iff_true,iff_false,not_true_eq_false,not_false_eq_true,ne_eq,eq_self]<;>omega)
theorem jvi (hb:NB base)(l:Lc)(S:Lb)(hS:S.length<=1000000):PX δ base 142 [.str l,.lst S.length (S.map .str)] (.ok (.bool (decide (l∈S)))):=by
 have st1:∀ {k:Nat} (h:k<S.length) (st:St) (K:AV->St->Prop),jk (XW (.lptr (S.map AV.str) k) st) K=K (.str S[k]) st:=λ{k} h st K=>by
  rw[qI (by simpa using h)];congr 1;exact V4 h
 refine jB jwp haa (hb.pur 142 1 dc) ?_;simp only[jqQ,jj,ζ,θ,κ,μ];rw[(by unfold jlc;simp only[qq];rfl:jlc=_)];repeat' first|apply jb<;>intro _|simp(disch:=try exact dzA) only[rzZ,γ,ε]
 refine jU S.length (λk L s=>(∀ j (h:j<S.length),j<k->S[j]≠l)/\Has L 0 (.str l)/\Has L 7 (.lst S.length (S.map AV.str))) ?_ (λk L s hk hI hi hn=>?_) (λL s hI=>?_)
 .refine⟨λj h hj=>absurd hj (QaI _),?_⟩;simp(disch:=decide) only[h12]
 .obtain⟨h0,i0,i7⟩:=hI;repeat' first|apply jb<;>intro _|simp(disch:=try exact dzA) only[ja i0,ja i7,ja hi,ja hn,st1,rzZ,γ,ε]
  .rename_i he;have he:S[k]=l:=by simpa using he
   exact G0.v (by rw[decide_eq_true (he▸Qaa hk)]) rfl
  .rename_i he;have he:¬ S[k]=l:=by simpa using he
   refine⟨⟨λj h hj=>?_,?_⟩,?_⟩
   .rcases Qaq j k with h2|h2
    .exact h0 j h h2
    .have:j=k:=om
     subst this;exact he
   .simp(disch:=decide) only[h12,i0,i7]
   .simp(disch:=decide) only[h12,hi,hn]
 .obtain⟨h0,i0,i7⟩:=hI;repeat' first|apply jb<;>intro _|simp(disch:=try exact dzA) only[ja i0,ja i7,rzZ,γ,ε]
  refine G0.v (congrArg AV.bool ?_) rfl
  symm
  rw[decide_eq_false_iff_not];intro hm;obtain⟨j,hj,e⟩:=Qbm.1 hm;exact h0 j hj hj e
theorem jpG (hb:NB base)(l:Lc):Tot base 105 [.str l] (.bool (Hy l)):=by
 refine hb.tot ?_ rfl rfl;have O:=λst b m x D K Kp=>(jvi hb l kG dc).xf (st:=st) (aZ':=[.str l,.slice b 0 19 m 1 x]) (ks:=[b]) (Fza.pa rfl (Fza.sl (n:=19) (D:Cl st b (kG.map AV.str)) dc (Wk kG) .nil)) (λst=>hb.no 142 dc _ _) K Kp;unfold kG at O;simp only[ζ,θ] at O;refine jB x84 haa (hb.pur 105 1 dc) ?_;simp only[y84,jj,ζ,θ,κ,μ];rw[(by unfold z84;simp only[qq];rfl:z84=_)];repeat' first|apply jb<;>intro _|simp(disch:=try exact dzA) only[O,rzZ,γ,ε]
 exact G0.v rfl rfl
def Kx (l:Lc)(i:Nat):Bool:=zN (l.getD i 0) ||decide (i≠0) && (qf (l.getD i 0) ||decide (l.getD i 0=95))
theorem jc4 {p:Nat->Bool}:∀ {l:Lc},q7 p l=l.length->∀ j,j<l.length->p (l.getD j 0)=true
 |[],_,j,h=>by simp at h
 |c :: l,h,j,hj=>by
  simp only[q7] at h;by_cases hc:p c=true
  .rw[if_pos hc] at h;cases j with
   |zero=>exact hc
   |succ j=>exact jc4 (l:=l) (by simpa using h) j (by simpa using hj)
  .rw[if_neg hc] at h;simp at h
theorem jsb (hi:i<l.length)(h:Kx l i=false):nm l=false:=by
 rw[Qcd];intro hn;unfold nm at hn;simp only[ψ,decide_eq_true_eq] at hn;obtain⟨⟨⟨_,h2⟩,_⟩,h3⟩:=hn;have:=jc4 h3 i hi;unfold Kx at h;unfold Jg at this;by_cases h0:i=0
 .subst h0;rw[h2] at h;cases h
 .rw[decide_eq_true h0] at h;cases h1:zN (l.getD i 0)<;>cases h4:qf (l.getD i 0)<;>cases h5:decide (l.getD i 0=95)<;>simp only[h1,h4,h5] at h this<;>first|(cases h;done)|(cases this;done)
theorem joS (h:∀ i,i<l.length->Kx l i=true):nm l=(decide (0<l.length) && decide (l.length<=32) && !Hy l):=by
 have e:q7 Jg l=l.length:=kF (η _) (λj hj=>by
  have:=h j hj;unfold Kx at this;unfold Jg;cases h1:zN (l.getD j 0)<;>cases h4:qf (l.getD j 0)<;>cases h5:decide (l.getD j 0=95)<;>rw[h1,h4,h5] at this<;>first|rfl|(simp at this;done)) (.inl rfl)
 unfold nm;cases l with
 |nil=>rfl
 |cons c l=>
  have h0:=h 0 hac;unfold Kx at h0;have:zN ((c :: l).getD 0 0)=true:=by simpa using h0
  rw[e,this];simp
theorem ZD (hb:NB base)(l:Lc)(hl:l.length<=4611686018427387904):Tot base 71 [.str l] (.bool (nm l)):=by
 refine hb.tot ?_ rfl rfl;refine jB x56 haa (hb.pur 71 1 dc) ?_;simp only[y56,jj,ζ,θ,κ,μ];rw[(by unfold z56;simp only[qq];rfl:z56=_)];repeat' first|apply jb<;>intro _|simp(disch:=try exact dzA) only[rzZ,γ,ε]
 refine ye (λmm L s=>∃ k:Nat,k<=l.length/\mm=l.length - k/\(∀ j,j<k->Kx l j=true)/\Has L 0 (.str l)/\Has L 3 (.int .i64 (k:Int))) ?_ l.length ?_
 .rintro m L s ⟨k,hk,rfl,h0,i0,i3⟩;by_cases hlt:k<l.length
  .have hlt':(k:Int)<(l.length:Int):=om
   have LT:=jj6 hb (l.getD k 0);have DT:=jmX hb (l.getD k 0);have z:((k:Int)=0)=(k=0):=by rw[eq_iff_iff];omega
   have z9:((l.getD k 0:Int)=95)=(l.getD k 0=95):=by rw[eq_iff_iff];omega
   have e1:(((k+1:Nat):Int))=(k:Int)+1:=om
   have hn:Kx l k=(zN (l.getD k 0) ||decide (k≠0) && (qf (l.getD k 0) ||decide (l.getD k 0=95))):=rfl;repeat' first|apply jb<;>intro _|simp(disch:=try exact dzA) only[ja i0,ja i3,hlt',LT,DT,z,z9,rzZ,γ,ε]
   all_goals first
    |(refine G0.v (congrArg AV.bool (jsb hlt ?_)).symm rfl;rw[hn];simp_all;done)
    |(
     refine⟨l.length - (k+1),om,k+1,om,rfl,λj hj=>?_,?_⟩
     .rcases Qaq j k with h2|h2
      .exact h0 j h2
      .have:j=k:=om
       subst this;rw[hn];simp_all
     .simp(disch:=decide) only[h12,i0,e1])
  .have hlt':¬ (k:Int)<(l.length:Int):=om
   have hk':k=l.length:=om
   subst hk';have g:=joS h0;repeat' first|apply jb<;>intro _|simp(disch:=try exact dzA) only[ja i0,ja i3,hlt',jpG hb l,rzZ,γ,ε]
   all_goals(refine G0.v (congrArg AV.bool ?_) rfl;rw[g];simp_all<;>omega)
 .refine⟨0,Qae _,rfl,λj hj=>absurd hj (QaI _),?_⟩;simp(disch:=decide) only[h12]
theorem jlQ (ho:o<jV h b)(hv:rat h b o=v)(hc:eqs v=true):(jZ δ 63 (.ptr b o) v h=true)=True:=eq_true (JA jnA jnz ho hv hc)
theorem vB (n:Nat)(cs:List AV):eqs (.lst n cs)=true:=nr rfl
def wP (op num:Int)(name:Lc):Bool:=
 if op=1 then decide (0<=num) && decide (num<=1000000)
 else if op=2 then decide (num=0) ||decide (num=1)
 else if op=3 then decide (num=0) && nm name
 else if op=4 then true
 else decide (num=0)
mutual
def JP:Ex->Bool
 |.mk op num name ks _ _=>decide (ZS op=(ks.length:Int)) && Jd ks && (decide (op=3) ||decide (name=[])) && wP op num name
def Jd:List Ex->Bool
 |[]=>true
 |x :: xs=>JP x && Jd xs
end
theorem V7 (x:Ex):JP x=(decide (ZS x.op=(x.kids.length:Int)) && Jd x.kids && (decide (x.op=3) ||decide (x.name=[])) && wP x.op x.num x.name):=by cases x;rfl
theorem ZI:∀ xs ys,Jd (xs ++ ys)=(Jd xs && Jd ys)
 |[],ys=>by simp[Jd]
 |x :: xs,ys=>by rw[Qai,Jd,Jd,ZI,Bool.and_assoc]
theorem nxX {p:Prop} (h:p:=by first|omega|(simp only[jf,ji,ju,jm,jl];first|done|omega)):p:=h
theorem ckX {p:Prop} (h:p:=by(first|assumption|(simp(disch:=first|assumption|decide|(first|omega|(simp only[jf,ji,ju,jm,jl];first|done|omega))) only[jA,jE,jz,jT,jD,jG,jH,jJ];assumption))):p:=h
theorem jpC (hb:NB base):∀ x:Ex,szE x<=BIG->Tot base 83 [.agg (eE x)] (.bool (JP x)):=by
 refine Ex.indk λx ih hx=>?_;refine hb.tot ?_ (by first|rfl|simp[pa,pc,yd]) rfl;have hd:=V7 x;have hz:=ZZ x;generalize hks:x.kids=ks at *;have hlen:=vL ks;have NM:=ZD hb x.name (by unfold BIG at *;omega);have KT:=jtF hb x.op;unfold BIG at *;unfold wP at hd;refine jB x92 haa (hb.pur 83 1 dc) ?_;simp only[y92,jj,ζ,θ,κ,μ];rw[(by unfold z92;simp only[qq];rfl:z92=_)]
 (have zz:=aI @yI (aI @vB @hks);repeat' first|apply jb<;>intro _|simp(disch:=try exact jdv) only[hks,KT,sm3,jlQ,yI,vB,hks,r7,γ,ε])
 .rename_i h;exact G0.v (by rw[hd,decide_eq_false h];rfl) rfl
 refine jU ks.length (λk L s=>Jd (ks.take k)=true/\Has L 13 (.lst ks.length (fl eE ks))/\Has L 1 (.ptr 0 0)/\1<=s.nx/\Cl s 0 (eE x)) ?_ (λk L s hk hI hi hn=>?_) (λL s hI=>?_)
 .refine⟨rfl,?_⟩;simp(disch:=decide) only[h12];exact⟨by show 1<=_;simp only[jf,q6];omega,Cl.new _ _⟩
 .obtain⟨h0,i13,i1,n0,C0⟩:=hI;have hk2:=vj hk;have e:=ih ks[k] (Qaa hk) om;repeat' first|apply jb<;>intro _|simp(disch:=try exact dzB) only[ja i13,ja i1,ja hi,ja hn,e,r7,γ,ε]
  .rename_i hf;have e3:=ZI (ks.take (k+1)) (ks.drop (k+1));rw[QbD,zC hk,ZI] at e3;simp only[Jd,hf,Bool.and_false,Bool.false_and,QbJ] at e3;exact G0.v (by rw[hd,e3];simp) rfl
  .rename_i hf;refine⟨⟨?_,?_⟩,?_⟩
   .rw[zC hk,ZI,h0];simp_all [Jd]
   .simp(disch:=decide) only[h12,i13,i1];exact⟨nxX,ckX⟩
   .simp(disch:=decide) only[h12,hi,hn]
 .obtain⟨h0,i13,i1,n0,C0⟩:=hI;rw[Qak] at h0;rw[h0] at hd
  (have zz:=C0.r;repeat' first|apply jb<;>intro _|simp(disch:=try exact jdv) only[ja i13,ja i1,NM,hks,C0.q,C0.r,r7,γ,ε])
  all_goals(refine G0.v (congrArg AV.bool ?_) rfl;rw[hd];simp_all<;>omega)
theorem jgF (x:Ex):Vn x=((decide (x.op=3) ||decide (x.name=[])) && wP x.op x.num x.name):=by
 unfold Vn wP;by_cases h1:x.op=1
 .simp[h1,Bool.and_comm]
 .by_cases h2:x.op=2
  .simp[h2,Bool.and_comm]
  .by_cases h3:x.op=3
   .simp[h3]
   .by_cases h4:x.op=4
    .simp[h4]
    .simp[h1,h2,h3,h4,Bool.and_comm]
theorem u0:∀ xs,Jd xs=xs.all JP
 |[]=>rfl
 |x :: xs=>by rw[Jd,u0 xs];rfl
theorem GC {n:Nat}:∀ xs:List Ex,yq xs<=n↔∀ x∈xs,wW x<=n
 |[]=>by simp[yq]
 |x :: xs=>by simp[yq,Nat.max_le,GC xs]
theorem X4:∀ (d:Nat) (x:Ex),zF d x=(decide (wW x<=d) && JP x)
 |0,x=>by
  have:wW x=yq x.kids+1:=KK x;rw[zF,decide_eq_false om];rfl
 |d+1,x=>by
  rw[Kr,V7,KK,jgF,u0];have ih:x.kids.all (zF d)=(decide (yq x.kids<=d) && x.kids.all JP):=by
   rw[Qaw];simp only[Qah,ψ,decide_eq_true_eq,GC];constructor
   .intro h;exact⟨λk hk=>by have:=h k hk;rw[X4 d k] at this;simp at this;exact this.1,λk hk=>by have:=h k hk;rw[X4 d k] at this;simp at this;exact this.2⟩
   .rintro ⟨h1,h2⟩ k hk;rw[X4 d k];simp[h1 k hk,h2 k hk]
  rw[ih];have e1:decide (yq x.kids+1<=d+1)=decide (yq x.kids<=d):=by simp
  rw[e1];have e2:(decide (1<=x.op) && decide (x.op<31) && decide ((x.kids.length:Int)=if 5<=x.op/\x.op<=13 then 1 else if 14<=x.op/\x.op<31 then 2 else 0))=decide (ZS x.op=(x.kids.length:Int)):=by
   rw[Qaw];simp only[ψ,decide_eq_true_eq];unfold ZS;have:(0:Int)<=(x.kids.length:Int):=om
   generalize (x.kids.length:Int)=n at *;generalize x.op=op at *;constructor
   .rintro ⟨⟨h1,h2⟩,h3⟩;split at h3
    .rw[if_neg om,if_pos om,h3]
    .split at h3
     .rw[if_neg om,if_neg om,if_pos om,h3]
     .rw[if_pos om,h3]
   .intro h;split at h
    .exact⟨⟨om,om⟩,by rw[if_neg om,if_neg om];omega⟩
    .split at h
     .exact⟨⟨om,om⟩,by rw[if_pos om];omega⟩
     .split at h
      .exact⟨⟨om,om⟩,by rw[if_neg om,if_pos om];omega⟩
      .omega
  rw[e2];cases decide (ZS x.op=(x.kids.length:Int))<;>cases decide (yq x.kids<=d)<;>cases x.kids.all JP<;>cases (decide (x.op=3) ||decide (x.name=[]))<;>cases wP x.op x.num x.name<;>rfl
theorem jmS (hb:NB base)(x:Ex)(hx:szE x<=BIG):Tot base 54 [.agg (eE x)] (.bool (zF 60 x)):=by
 refine hb.tot ?_ (by first|rfl|simp[pa,pc,yd]) rfl;have e:=X4 60 x;have D:=jtN hb x hx;have S:=jpC hb x hx;refine jB x46 haa (hb.pur 54 1 dc) ?_;simp only[y46,jj,ζ,θ,κ,μ];rw[(by unfold z46;simp only[qq];rfl:z46=_)];repeat' first|apply jb<;>intro _|simp(disch:=try exact dzB) only[D,S,r7,γ,ε]
 all_goals(refine G0.v (congrArg AV.bool ?_) rfl;rw[e];simp_all<;>omega)
def Jc (x:Ex):Bool:=zF 60 x && !jgL 4 x
theorem VL (hb:NB base)(x:Ex)(hx:szE x<=BIG):Tot base 24 [.agg (eE x)] (.bool (Jc x)):=by
 refine hb.tot ?_ (by first|rfl|simp[pa,pc,yd]) rfl;have D:=jmS hb x hx;have S:=jvn hb 4 x hx;refine jB x12 haa (hb.pur 24 1 dc) ?_;simp only[y12,jj,ζ,θ,κ,μ];rw[(by unfold z12;simp only[qq];rfl:z12=_)];repeat' first|apply jb<;>intro _|simp(disch:=try exact dzB) only[D,S,r7,γ,ε]
 all_goals(refine G0.v (congrArg AV.bool ?_) rfl;unfold Jc;simp_all)
theorem jpB (hb:NB base)(op:Int):Tot base 141 [.int .i64 op] (.str (sgn op)):=by
 refine hb.tot ?_ rfl rfl;refine jB x52 haa (hb.pur 141 1 dc) ?_;simp only[y52,jj,ζ,θ,κ,μ];rw[(by unfold z52;simp only[qq];rfl:z52=_)];repeat' first|apply jb<;>intro _|simp(disch:=try exact dzB) only[r7,γ,ε]
 .exact G0.v (by rw[sgn,if_neg om]) rfl
 .exact G0.v (by rw[sgn,if_neg om]) rfl
 .have h26:(op - 5).toNat<vo.length:=by show(op - 5).toNat<26;omega
  show G0 _ ((vo.map AV.str).getD _ _) _;rw[V4 h26];exact G0.v (by rw[sgn,if_pos om,Qab,Qad h26];rfl) rfl
theorem Y5 (e:EnumT):enE e=[.str e.name,.lst e.vals.length (e.vals.map .str),.int .i64 e.line,.int .i64 e.col]:=rfl
theorem QE (e:EnumT):(enE e).length=4:=nr (by rw[Y5];rfl)
theorem jg9 (e:EnumT)(k:Nat):(enE e).getD k .bad=([.str e.name,.lst e.vals.length (e.vals.map .str),.int .i64 e.line,.int .i64 e.col]:List AV).getD k .bad:=nr (by rw[Y5])
theorem jbL (e:EnumT):lall AV.cell (enE e)=true:=nr (by rw[Y5];rfl)
theorem jg:type_of% (a4 @QE (λx=>gq (Y5 x)) (λx=>gd (Y5 x)) (aI @jbL (frE QE))):=(a4 @QE (λx=>gq (Y5 x)) (λx=>gd (Y5 x)) (aI @jbL (frE QE)))
theorem ze:type_of% (aI @QE (aI @jbL (λx=>gq (Y5 x)))):=(aI @QE (aI @jbL (λx=>gq (Y5 x))))
theorem Qg (d:DeclT):qt d=[.str d.name,.str d.ty,.int .i64 d.lo,.int .i64 d.hi,.lst d.begins.length (fl eE d.begins),.int .i64 d.line,.int .i64 d.col]:=rfl
theorem XQ (d:DeclT):(qt d).length=7:=nr (by rw[Qg];rfl)
theorem jpl (d:DeclT)(k:Nat):(qt d).getD k .bad=([.str d.name,.str d.ty,.int .i64 d.lo,.int .i64 d.hi,.lst d.begins.length (fl eE d.begins),.int .i64 d.line,.int .i64 d.col]:List AV).getD k .bad:=nr (by rw[Qg])
theorem kS (d:DeclT):lall AV.cell (qt d)=true:=nr (by rw[Qg];rfl)
theorem jc:type_of% (a4 @XQ (λx=>gq (Qg x)) (λx=>gd (Qg x)) (aI @kS (frE XQ))):=(a4 @XQ (λx=>gq (Qg x)) (λx=>gd (Qg x)) (aI @kS (frE XQ)))
theorem q8:type_of% (aI @XQ (aI @kS (λx=>gq (Qg x)))):=(aI @XQ (aI @kS (λx=>gq (Qg x))))
theorem kV (a:AsT):asE a=[.str a.name,.int .i64 a.to.op,.int .i64 a.to.num,.str a.to.name,.lst a.to.kids.length (fl eE a.to.kids),.int .i64 a.to.line,.int .i64 a.to.col,.int .i64 a.line,.int .i64 a.col]:=(by unfold asE;rw[qx];rfl)
theorem jh:type_of% (a4 @vb (λx=>gq (kV x)) (λx=>gd (kV x)) (aI @GQ (frE vb))):=(a4 @vb (λx=>gq (kV x)) (λx=>gd (kV x)) (aI @GQ (frE vb)))
theorem zf:type_of% (aI @vb (aI @GQ (λx=>gq (kV x)))):=(aI @vb (aI @GQ (λx=>gq (kV x))))
theorem W0 (r:RuleT):ruE r=[.int .i64 r.when.op,.int .i64 r.when.num,.str r.when.name,.lst r.when.kids.length (fl eE r.when.kids),.int .i64 r.when.line,.int .i64 r.when.col,.lst r.acts.length (fl asE r.acts)]:=V9 r
theorem jbm (r:RuleT):lall AV.cell (ruE r)=true:=nr (by rw[W0];rfl)
theorem j1:type_of% (a4 @uB (λx=>gq (W0 x)) (λx=>gd (W0 x)) (aI @jbm (frE uB))):=(a4 @uB (λx=>gq (W0 x)) (λx=>gd (W0 x)) (aI @jbm (frE uB)))
theorem zb:type_of% (aI @uB (aI @jbm (λx=>gq (W0 x)))):=(aI @uB (aI @jbm (λx=>gq (W0 x))))
theorem ZL (p:ProcT):prE p=[.str p.name,.lst p.rules.length (fl ruE p.rules),.int .i64 p.line,.int .i64 p.col]:=rfl
theorem W7 (p:ProcT):(prE p).length=4:=nr (by rw[ZL];rfl)
theorem jbs (p:ProcT):lall AV.cell (prE p)=true:=nr (by rw[ZL];rfl)
theorem qM:type_of% (a4 @W7 (λx=>gq (ZL x)) (λx=>gd (ZL x)) (aI @jbs (frE W7))):=(a4 @W7 (λx=>gq (ZL x)) (λx=>gd (ZL x)) (aI @jbs (frE W7)))
theorem zc:type_of% (aI @W7 (aI @jbs (λx=>gq (ZL x)))):=(aI @W7 (aI @jbs (λx=>gq (ZL x))))
theorem ZH (m:SrcT):srE m=[.lst m.enums.length (fl enE m.enums),.lst m.vars.length (fl qt m.vars),.lst m.procs.length (fl prE m.procs)]:=rfl
theorem ut (m:SrcT):(srE m).length=3:=nr (by rw[ZH];rfl)
theorem jbh (m:SrcT):lall AV.cell (srE m)=true:=nr (by rw[ZH];rfl)
theorem qL:type_of% (a4 @ut (λx=>gq (ZH x)) (λx=>gd (ZH x)) (aI @jbh (frE ut))):=(a4 @ut (λx=>gq (ZH x)) (λx=>gd (ZH x)) (aI @jbh (frE ut)))
theorem za:type_of% (aI @ut (aI @jbh (λx=>gq (ZH x)))):=(aI @ut (aI @jbh (λx=>gq (ZH x))))
theorem dzE {p:Prop}(h:p:=by first|assumption|decide|omega|(simp only[qQ,zf,zb,ze,q8,zc,za,rzN,τ,φ];first|done|omega)|(apply J4<;>first|omega|((simp(disch:=first|assumption|omega|(simp only[qQ,zf,zb,ze,q8,zc,za,rzN,τ,φ];first|done|omega)) only[rzL,τ,φ,Qaj,γ,qQ,zf,zb,ze,q8,zc,za ])<;>first|done|omega))|(simp(disch:=first|assumption|omega|(simp only[qQ,zf,zb,ze,q8,zc,za,rzN,τ,φ];first|done|omega)) only[qQ,zf,zb,ze,q8,zc,za,rzG,κ,μ,ε,QaF,τ,φ,Qai,Qam];first|done|omega|decide)):p:=h
theorem cyE {p:Prop}(h:p:=by apply J4<;>first|omega|((simp(disch:=first|assumption|omega|(simp only[qQ,zf,zb,ze,q8,zc,za,rzN,τ,φ];first|done|omega)) only[rzL,τ,φ,Qaj,γ,qQ,zf,zb,ze,q8,zc,za])<;>first|done|rfl|omega|(simp;done)|(simp;omega))):p:=h
theorem zr {p:Prop}(h:p:=by first|assumption|decide|omega|(simp only[qQ,zf,zb,ze,q8,zc,za,zz,rzN,τ,φ];first|done|omega)|(apply J4<;>first|omega|((simp(disch:=first|assumption|omega|(simp only[qQ,zf,zb,ze,q8,zc,za,zz,rzN,τ,φ];first|done|omega)) only[rzL,τ,φ,Qaj,γ,qQ,zf,zb,ze,q8,zc,za,zz ])<;>first|done|omega))|(simp(disch:=first|assumption|omega|(simp only[qQ,zf,zb,ze,q8,zc,za,zz,rzN,τ,φ];first|done|omega)) only[qQ,zf,zb,ze,q8,zc,za,zz,rzG,κ,μ,ε,QaF,τ,φ,Qai,Qam];first|done|omega|decide)):p:=h
theorem jhO {S:Lb}{k:Nat}{st:St}{K:AV->St->Prop}(h:k<S.length):jk (XW (.lptr (S.map AV.str) k) st) K=K (.str S[k]) st:=by
 rw[qI (by simpa using h)];congr 1;exact V4 h
theorem jor {a:Nat}{st:St}{K:AV->St->Prop}(h:a<=9223372036854775807):jk (yE .quo (.int .i64 (a:Int)) (.int .i64 10) st) K=K (.int .i64 ((a / 10:Nat):Int)) st:=by
 have e:qU .i64 ((a / 10:Nat):Int)=((a / 10:Nat):Int):=Zw om om;show K (.int .i64 (qU .i64 ((a / 10:Nat):Int))) st=_;rw[e]
theorem joq {a:Nat}{st:St}{K:AV->St->Prop}:jk (yE .rem (.int .i64 (a:Int)) (.int .i64 10) st) K=K (.int .i64 ((a % 10:Nat):Int)) st:=rfl
def Wc (n:Nat):Lc:=if n<10 then [48+n] else Wc (n / 10) ++ [48+n % 10]
termination_by n
decreasing_by omega
def wo (n:Int):Lc:=if n<0 then 45 :: Wc (-n).toNat else Wc n.toNat
theorem jsX:∀ n,n<10->(([48,49,50,51,52,53,54,55,56,57]:Lc).drop n).take 1=[48+n]:=dc
theorem ud:∀ (k n:Nat),n<10 ^ (k+1)->(Wc n).length<=k+1
 |0,n,h=>by rw[Wc,if_pos om];simp
 |k+1,n,h=>by
  rw[Wc];by_cases h2:n<10
  .rw[if_pos h2];simp
  .rw[if_neg h2,υ];have:=ud k (n / 10) (by rw[Nat.pow_succ] at h;omega);simp;omega
theorem jkb (hb:NB base)(n:Nat)(h:n<=1000000000000000):Tot base 101 [.int .i64 (n:Int)] (.str (Wc n)):=by
 induction n using Nat.strongRecOn with
 |_ n ih=>
 refine hb.tot ?_ rfl rfl;have hd:Wc n=if n<10 then [48+n] else Wc (n / 10) ++ [48+n % 10]:=by rw[Wc]
 by_cases h2:n<10
 .have g:=jsX n h2;have e1:((n:Int)+1 - (n:Int)).toNat=1:=om
  have e2:(n:Int)<10:=om
  refine jB x53 haa (hb.pur 101 1 dc) ?_;simp only[y53,jj,ζ,θ,κ,μ];rw[(by unfold z53;simp only[qq];rfl:z53=_)];repeat' first|apply jb<;>intro _|simp(disch:=try exact dzB) only[e1,e2,g,r7,γ,ε]
  exact G0.v (by rw[hd,if_pos h2]) rfl
 .have i:=ih (n / 10) om om;have g:=jsX (n % 10) om;have e1:(((n % 10:Nat):Int)+1 - ((n % 10:Nat):Int)).toNat=1:=om
  have e2:¬ (n:Int)<10:=om
  have e0:¬ (n:Int)<0:=om
  have e3:(n % 10:Nat)+1<=10:=om
  have hl:=ud 14 (n / 10) (by
   have:(10:Nat) ^ (14+1)=1000000000000000:=dc
   omega)
  refine jB x53 haa (hb.pur 101 1 dc) ?_;simp only[y53,jj,ζ,θ,κ,μ];rw[(by unfold z53;simp only[qq];rfl:z53=_)];repeat' first|apply jb<;>intro _|simp(disch:=try exact dzB) only[e1,e2,e0,g,jor,joq,i,r7,γ,ε]
  exact G0.v (by rw[hd,if_neg h2]) rfl
theorem jhy (hb:NB base)(n:Int)(h1 : -1000000000000000<=n)(h2:n<=1000000000000000):Tot base 101 [.int .i64 n] (.str (wo n)):=by
 by_cases h0:n<0
 .obtain⟨m,hm⟩:∃ m:Nat,-n=(m:Int):=⟨(-n).toNat,om⟩;have D:=jkb hb m om;have hl:=ud 15 m (by
   have:(10:Nat) ^ (15+1)=10000000000000000:=dc
   omega)
  refine hb.tot ?_ rfl rfl;refine jB x53 haa (hb.pur 101 1 dc) ?_;simp only[y53,jj,ζ,θ,κ,μ];rw[(by unfold z53;simp only[qq];rfl:z53=_)];repeat' first|apply jb<;>intro _|simp(disch:=try exact dzB) only[h0,hm,D,r7,γ,ε]
  exact G0.v (by rw[wo,if_pos h0,hm];rfl) rfl
 .obtain⟨m,hm⟩:∃ m:Nat,n=(m:Int):=⟨n.toNat,om⟩;subst hm;rw[wo,if_neg h0];exact jkb hb m om
theorem ue {n:Int}(h1 : -1000000<=n)(h2:n<=1000000):(wo n).length<=8:=by
 have e:(10:Nat) ^ (6+1)=10000000:=dc
 unfold wo;split
 .have:=ud 6 (-n).toNat om;simp;omega
 .have:=ud 6 n.toNat om;omega
def zh:Ex->Lc
 |.mk op num name ks _ _=>match ks with
  |[x,y]=>(if x.kids.length=0 then zh x else 40 :: (zh x ++ [41])) ++ [32] ++ sgn op ++ [32] ++ (if y.kids.length=0 then zh y else 40 :: (zh y ++ [41]))
  |[x]=>sgn op ++ (if 6<op then [32] else []) ++ (if x.kids.length=0 then zh x else 40 :: (zh x ++ [41]))
  |_=>if op=1 then wo num else if op=2 then(if num=1 then [116,114,117,101] else [102,97,108,115,101]) else name
termination_by x=>SizeOf.sizeOf x
def wm (x:Ex):Lc:=if x.kids.length=0 then zh x else 40 :: (zh x ++ [41])
theorem jex (op num:Int)(name:Lc)(x y:Ex)(l c:Int):zh (.mk op num name [x,y] l c)=wm x ++ [32] ++ sgn op ++ [32] ++ wm y:=by rw[zh];rfl
theorem jey (op num:Int)(name:Lc)(x:Ex)(l c:Int):zh (.mk op num name [x] l c)=sgn op ++ (if 6<op then [32] else []) ++ wm x:=by rw[zh];rfl
theorem jez (op num:Int)(name:Lc)(l c:Int):zh (.mk op num name [] l c)=if op=1 then wo num else if op=2 then(if num=1 then [116,114,117,101] else [102,97,108,115,101]) else name:=by rw[zh]<;>intros<;>simp_all
theorem Hj (op:Int):(sgn op).length<=3:=by
 unfold sgn;split
 .rename_i h;have:∀ n,n<26->(vo.getD n []).length<=3:=dc
  exact this _ om
 .simp
theorem gw {x:Ex}(h:JP x=true):ZS x.op=(x.kids.length:Int)/\(∀ k∈x.kids,JP k=true)/\wP x.op x.num x.name=true/\(x.op=3\/x.name=[]):=by
 rw[V7,u0] at h;simp only[ψ,decide_eq_true_eq,Qah,QaE] at h;exact⟨h.1.1.1,h.1.1.2,h.2,h.1.2⟩
theorem jdc (op:Int):ZS op<=2:=by unfold ZS;split<;>(try split)<;>(try split)<;>omega
theorem Jw:∀ x:Ex,JP x=true->(zh x).length<=16 * szE x:=by
 refine Ex.indk λx ih h=>?_;obtain⟨h1,h2,h3,h4⟩:=gw h;have h5:=jdc x.op;cases x with
 |mk op num name ks l c=>
 simp only[Ex.op,Ex.num,Ex.name,Ex.kids] at *;have sz:szE (.mk op num name ks l c)=zj ks+name.length+1:=rfl;rw[sz];have inn:∀ k∈ks,(wm k).length<=16 * szE k+2:=λk hk=>by
  have:=ih k hk (h2 k hk);unfold wm;split
  .omega
  .simp;omega
 match ks,h1,inn with
 |[],_,_=>
  rw[jez];unfold wP at h3;split
  .rename_i h6;rw[if_pos h6] at h3;simp at h3;have:=ue (n:=num) om om;omega
  .split
   .split<;>simp<;>omega
   .omega
 |[x],_,inn=>
  rw[jey];have:=inn x hac;have:=Hj op;simp only[υ,zj];split<;>simp<;>omega
 |[x,y],_,inn=>
  rw[jex];have:=inn x hac;have:=inn y hac;have:=Hj op;simp only[υ,zj,τ,φ];omega
 |x :: y :: z :: r,h1,_=>
  simp only[τ] at h1;omega
theorem jmn {x:Ex}(h:JP x=true):(wm x).length<=16 * szE x+2:=by
 have:=Jw x h;unfold wm;split
 .omega
 .simp;omega
theorem jsq (x:Ex)(xs:List Ex){st:St}{K:AV->St->Prop}:jk (QV 6 (.lptr (fl eE (x :: xs)) 0) st) K=K (.agg (eE x)) st:=by
 have:=jmA (st:=st) (K:=K) (xs:=x :: xs) (i:=0) hac;rw[QaV] at this;exact this
theorem jwR (x y:Ex)(xs:List Ex){st:St}{K:AV->St->Prop}:jk (QV 6 (.lptr (fl eE (x :: y :: xs)) 6) st) K=K (.agg (eE y)) st:=jmA (st:=st) (K:=K) (xs:=x :: y :: xs) (i:=1) hac
theorem jmV (hb:NB base){x:Ex}(h:JP x=true)(hx:szE x<=BIG)(T:Tot base 102 [.agg (eE x)] (.str (zh x))):Tot base 140 [.agg (eE x)] (.str (wm x)):=by
 refine hb.tot ?_ (by first|rfl|simp[pa,pc,yd]) rfl;have hl:=Jw x h;have z:((x.kids.length:Int)=0)=(x.kids.length=0):=by rw[eq_iff_iff];omega
 unfold BIG at hx;refine jB x51 haa (hb.pur 140 1 dc) ?_;simp only[y51,jj,ζ,θ,κ,μ];rw[(by unfold z51;simp only[qq];rfl:z51=_)]
 (have zz:=@υ.{0};repeat' first|apply jb<;>intro _|simp(disch:=try exact jdv) only[T,z,υ,r7,γ,ε])
 .exact G0.v (by rw[wm,if_pos (by assumption)]) rfl
 .exact G0.v (by rw[wm,if_neg (by assumption)]<;>rfl) rfl
theorem jd1 (hb:NB base):∀ x:Ex,szE x<=BIG->JP x=true->Tot base 102 [.agg (eE x)] (.str (zh x)):=by
 refine Ex.indk λx ih hx h=>?_;refine hb.tot ?_ (by first|rfl|simp[pa,pc,yd]) rfl;obtain⟨h1,h2,h3,h4⟩:=gw h;have h5:=jdc x.op;have sz:=ZZ x;have hl:=Jw x h;have SG:=jpB hb x.op;have sl:=Hj x.op;have inn:∀ k∈x.kids,Tot base 140 [.agg (eE k)] (.str (wm k))/\(wm k).length<=16 * szE k+2:=λk hk=>by
  have:szE k<=zj x.kids:=by
   obtain⟨i,hi,rfl⟩:=Qbm.1 hk;exact vj hi
  have hk2:szE k<=BIG:=om
  exact⟨jmV hb (h2 k hk) hk2 (ih k hk hk2 (h2 k hk)),jmn (h2 k hk)⟩
 clear ih hl;unfold BIG at *;cases x with
 |mk op num name ks l c=>
 simp only[Ex.op,Ex.num,Ex.name,Ex.kids] at *
 match ks,h1,sz,inn with
 |[],_,sz,_=>
  rw[jez];have D:op=1->Tot base 101 [.int .i64 num] (.str (wo num)):=λe=>by
   subst e;unfold wP at h3;simp at h3;exact jhy hb num om om
  have ek:(Ex.mk op num name [] l c).kids=[]:=rfl;have eo:(Ex.mk op num name [] l c).op=op:=rfl;have en:(Ex.mk op num name [] l c).num=num:=rfl;have ea:(Ex.mk op num name [] l c).name=name:=rfl;refine jB x16 haa (hb.pur 102 1 dc) ?_;simp only[y16,jj,ζ,θ,κ,μ];rw[(by unfold z16;simp only[qq];rfl:z16=_)];repeat' first|apply jb<;>intro _|simp(disch:=try exact dzB) only[D,ek,eo,en,ea,r7,γ,ε]
  all_goals(refine G0.v (congrArg AV.str ?_) rfl;split<;>(try split)<;>first|rfl|omega|(exfalso;omega)|contradiction)
 |[x],_,sz,inn=>
  obtain⟨I,il⟩:=inn x hac;simp only[zj] at sz;rw[jey];have ek:(Ex.mk op num name [x] l c).kids=[x]:=rfl;have eo:(Ex.mk op num name [x] l c).op=op:=rfl;refine jB x16 haa (hb.pur 102 1 dc) ?_;simp only[y16,jj,ζ,θ,κ,μ];rw[(by unfold z16;simp only[qq];rfl:z16=_)]
  (have zz:=aI @yI (aI @vB (aI @υ.{0} (aI @ek @eo)));repeat' first|apply jb<;>intro _|simp(disch:=try exact jdv) only[ek,eo,I,SG,jsq,sm3,jlQ,QT,yI,vB,υ,ek,eo,r7,γ,ε])
  all_goals(refine G0.v (congrArg AV.str ?_) rfl;split<;>first|rfl|(exfalso;omega)|(simp;done))
 |[x,y],_,sz,inn=>
  obtain⟨I,il⟩:=inn x hac;obtain⟨I2,il2⟩:=inn y hac;simp only[zj] at sz;rw[jex];have ek:(Ex.mk op num name [x,y] l c).kids=[x,y]:=rfl;have eo:(Ex.mk op num name [x,y] l c).op=op:=rfl;refine jB x16 haa (hb.pur 102 1 dc) ?_;simp only[y16,jj,ζ,θ,κ,μ];rw[(by unfold z16;simp only[qq];rfl:z16=_)]
  (have zz:=aI @yI (aI @vB (aI @υ.{0} (aI @ek @eo)));repeat' first|apply jb<;>intro _|simp(disch:=try exact jdv) only[ek,eo,I,I2,SG,jsq,jwR,sm3,jlQ,QT,yI,vB,υ,ek,eo,r7,γ,ε])
  exact G0.v rfl rfl
 |x :: y :: z :: r,h1,_,_=>
  simp only[τ] at h1;omega
def JR:Lb->Lc
 |[]=>[]
 |x :: xs=>x ++ xs.flatMap λy=>44 :: 32 :: y
theorem Ge (xs:Lb)(y:Lc):JR (xs ++ [y])=JR xs ++ (if xs.length=0 then [] else [44,32]) ++ y:=by
 cases xs with
 |nil=>simp[JR]
 |cons x xs=>simp[JR]
theorem YE {n:Nat}:∀ {xs:Lb},(∀ x∈xs,x.length<=n)->(JR xs).length<=xs.length * (n+2)
 |[],_=>by simp[JR]
 |x :: xs,h=>by
  have h1:=h x hac;have:(xs.flatMap λy=>44 :: 32 :: y).length<=xs.length * (n+2):=by
   clear h1;induction xs with
   |nil=>simp
   |cons y ys ih=>
    have h2:=h y hac;have:=ih λz hz=>h z (by simp at hz ⊢;rcases hz with rfl|hz<;>simp[*]);rw[Qcm,υ,show(y :: ys).length=ys.length+1 from rfl,QaX];simp only[τ];omega
  rw[JR,υ,show(x :: xs).length=xs.length+1 from rfl,QaX];omega
theorem QI {l:Lc}(h:nm l=true):l.length<=32:=by
 unfold nm at h;simp only[ψ,decide_eq_true_eq] at h;exact h.1.1.1.2
def QD (e:EnumT):Option Lc:=if nm e.name=true/\1<=e.vals.length/\e.vals.length<=32/\e.vals.all nm=true then some ([101,110,117,109,32] ++ e.name ++ [32,123,32] ++ JR e.vals ++ [32,125,10]) else none
def Ha (o:Option Lc):AV:=.tup [.str (o.getD []),.bool o.isSome]
theorem jie (l:Lc):Ha (some l)=.tup [.str l,.bool true]:=rfl
theorem G0.tup2 {s:St}{a:Lc}{b:Bool}{u:AV}(h:u=.tup [.str a,.bool b]):G0 u (.tup [.str a,.bool b]) s:=by
 subst h;exact FzD.tup (.cons (.pc rfl) (.cons (.pc rfl) .nil))
theorem jdW {α:Type}{p:α->Bool}{xs:List α}{k:Nat}(h:k<xs.length)(h2:p xs[k]=false):xs.all p=false:=by
 rw[Qcd];intro h3;rw[Qah] at h3;have:=h3 _ (Qaa h);rw[h2] at this;cases this
theorem jht {α:Type}{p:α->Bool}{xs:List α}{k:Nat}(h:k<xs.length):(xs.take (k+1)).all p=((xs.take k).all p && p xs[k]):=by
 rw[zC h,QaN];simp
theorem r9:type_of%(a4 @jd @jh @j1 (aI @jg (aI @jc @rzZ))):=a4 @jd @jh @j1 (aI @jg (aI @jc @rzZ))
theorem jpK (hb:NB base)(e:EnumT)(h1:e.name.length<=BIG)(h2:e.vals.length<=BIG)(h3:∀ v∈e.vals,v.length<=BIG):Tot base 69 [.agg (enE e)] (Ha (QD e)):=by
 refine hb.tot ?_ (by first|rfl|simp[pa,pc,yd,Q7,W3,JT,Jy]) rfl;have NM:=ZD hb e.name (by unfold BIG at *;omega);unfold BIG at *;have c1:((e.vals.length:Int)<1)=(e.vals.length<1):=by rw[eq_iff_iff];omega
 have c2:((32:Int)<(e.vals.length:Int))=(32<e.vals.length):=by rw[eq_iff_iff];omega
 refine jB x54 haa (hb.pur 69 1 dc) ?_;simp only[y54,jj,ζ,θ,κ,μ];rw[(by unfold z54;simp only[qq];rfl:z54=_)]
 (have zz:=@υ.{0};repeat' first|apply jb<;>intro _|simp(disch:=try exact zr) only[NM,c1,c2,υ,r9,γ,ε])
 .rename_i h;exact G0.tup2 (by rw[QD,if_neg (by rintro ⟨h6,_⟩;rw[h] at h6;cases h6)];rfl)
 .exact G0.tup2 (by rw[QD,if_neg om];rfl)
 .exact G0.tup2 (by rw[QD,if_neg om];rfl)
 have hn:nm e.name=true:=by simp_all
 have hnl:=QI hn;have l1:1<=e.vals.length:=om
 have l2:e.vals.length<=32:=om
 refine jU e.vals.length (λk L s=>(e.vals.take k).all nm=true/\Has L 4 (.str ([101,110,117,109,32] ++ e.name ++ [32,123,32] ++ JR (e.vals.take k)))/\Has L 28 (.lst e.vals.length (e.vals.map AV.str))) ?_ (λk L s hk hI hi hn=>?_) (λL s hI=>?_)
 .refine⟨rfl,?_⟩;rw[QaG,JR,QaU];simp(disch:=decide) only[h12,QaB,Qai,Qam]
 .obtain⟨h0,i4,i28⟩:=hI;have N2:=ZD hb e.vals[k] (by have:=h3 _ (Qaa hk);omega);have hs:=Ge (e.vals.take k) e.vals[k];rw[<-zC hk] at hs;have hjl:(JR (e.vals.take k)).length<=32 * 34:=by
   have:=YE (n:=32) (xs:=e.vals.take k) λx hx=>QI (Qah.1 h0 x hx);have h7:(e.vals.take k).length<=32:=by rw[Qas];omega
   have:=QaA 34 h7;omega
  have hvl:=h3 _ (Qaa hk);have tl:(e.vals.take k).length=k:=by rw[Qas];omega
  rw[tl] at hs;have c3:((0:Int)<(k:Int))=(0<k):=by rw[eq_iff_iff];omega
  (have zz:=@υ.{0};repeat' first|apply jb<;>intro _|simp(disch:=try exact zr) only[ja i4,ja i28,ja hi,ja hn,jhO,N2,c3,υ,r9,γ,ε])
  .rename_i h;exact G0.tup2 (by rw[QD,if_neg (by rintro ⟨_,_,_,h6⟩;rw[jdW hk h] at h6;cases h6)];rfl)
  .rename_i h h8;refine⟨⟨by rw[jht hk,h0];simp_all,?_⟩,?_⟩
   .rw[hs,if_neg om];simp(disch:=decide) only[h12,i28,QaB,Qai,Qam]
   .simp(disch:=decide) only[h12,hi,hn]
  .rename_i h h8;refine⟨⟨by rw[jht hk,h0];simp_all,?_⟩,?_⟩
   .rw[hs,if_pos om];simp(disch:=decide) only[h12,i28,QaB,Qai,Qam]
   .simp(disch:=decide) only[h12,hi,hn]
 .obtain⟨h0,i4,i28⟩:=hI;rw[Qak] at h0 i4;have hjl:(JR e.vals).length<=32 * 34:=by
   have:=YE (n:=32) (xs:=e.vals) λx hx=>QI (Qah.1 h0 x hx);have:=QaA 34 l2;omega
  (have zz:=@υ.{0};repeat' first|apply jb<;>intro _|simp(disch:=try exact zr) only[ja i4,ja i28,υ,r9,γ,ε])
  exact G0.tup2 (by rw[QD,if_pos ⟨hn,l1,l2,h0⟩];rfl)
def Z0 (n:Int):Bool:=decide (-1000000<=n) && decide (n<=1000000)
def Qs (d:DeclT):Option Lc:=
 if d.ty=[] then(if Z0 d.lo=true/\Z0 d.hi=true then some (wo d.lo ++ [46,46] ++ wo d.hi) else none)
 else if d.lo=0/\d.hi=0/\(d.ty=[98,111,111,108]\/nm d.ty=true) then some d.ty else none
def ZC (xs:List Ex):Lc:=xs.flatMap λx=>[32,61,32] ++ zh x
def J3 (d:DeclT):Option Lc:=match Qs d with
 |none=>none
 |some t=>if d.begins.length<=1/\nm d.name=true/\d.begins.all Jc=true then some ([118,97,114,32] ++ d.name ++ [32,58,32] ++ t ++ ZC d.begins ++ [59,10]) else none
theorem HO {d:DeclT}(h:Qs d=none):J3 d=none:=by unfold J3;rw[h]
theorem jfm {d:DeclT}{t:Lc}(h:Qs d=some t):J3 d=if d.begins.length<=1/\nm d.name=true/\d.begins.all Jc=true then some ([118,97,114,32] ++ d.name ++ [32,58,32] ++ t ++ ZC d.begins ++ [59,10]) else none:=by unfold J3;rw[h]
theorem zT {x:Ex}(h:Jc x=true):JP x=true:=by
 unfold Jc at h;rw[X4] at h;simp only[ψ] at h;exact h.1.2
theorem jsp {xs:List Ex}(h:0<xs.length){st:St}{K:AV->St->Prop}:jk (QV 6 (.lptr (fl eE xs) 0) st) K=K (.agg (eE xs[0])) st:=by
 have:=jmA (st:=st) (K:=K) h;rw[QaV] at this;exact this
theorem jaT (hb:NB base)(d:DeclT)(t:Lc)(hw:Qs d=some t)(ht:t.length<=BIG)(h1:d.name.length<=BIG)(h2:∀ x∈d.begins,szE x<=BIG){L:Sl}{s:St}(i1:Has L 1 (.ptr 0 0))(i4:Has L 4 (.str ([118,97,114,32] ++ d.name ++ [32,58,32] ++ t)))(n0:1<=s.nx)(C0:Cl s 0 (qt d)) :
  xC δ base jfX L s (Xo δ y55.res (XP G0 (.ok (Ha (J3 d))))) λv _ s=>Xy G0 (.ok (Ha (J3 d))) v s.bare:=by
 have NM:=ZD hb d.name (by unfold BIG at *;omega);have c2:((1:Int)<(d.begins.length:Int))=(1<d.begins.length):=by rw[eq_iff_iff];omega
 have hd:=jfm hw;unfold BIG at *;unfold y55;rw[(by unfold jfX;simp only[qq];rfl:jfX=_)]
 (have zz:=C0.r;repeat' first|apply jb<;>intro _|simp(disch:=try exact zr) only[ja i1,ja i4,NM,c2,C0.q,C0.r,r9,γ,ε])
 .exact G0.tup2 (by rw[hd,if_neg om];rfl)
 .rename_i h8 h;exact G0.tup2 (by rw[hd,if_neg (by rintro ⟨_,h6,_⟩;rw[h] at h6;cases h6)];rfl)
 have hn:nm d.name=true:=by simp_all
 have l1:d.begins.length<=1:=om
 have hnl:=QI hn;refine jU d.begins.length (λk L s=>(d.begins.take k).all Jc=true/\Has L 1 (.ptr 0 0)/\Has L 4 (.str ([118,97,114,32] ++ d.name ++ [32,58,32] ++ t ++ ZC (d.begins.take k)))/\Has L 68 (.lst d.begins.length (fl eE d.begins))/\1<=s.nx) ?_ (λk L s hk hI hi hn=>?_) (λL s hI=>?_)
 .refine⟨rfl,?_⟩;rw[QaG,show ZC []=[] from rfl,QaU];simp(disch:=decide) only[h12,i1,i4];exact n0
 .obtain⟨h0,i1,i4,i68,n0⟩:=hI;have hk0:k=0:=om
  subst hk0;have hi:Has L 70 (.int .i64 0):=hi;have hx:=h2 _ (Qaa hk);have WR:=VL hb d.begins[0] hx;have TX:=λ(h:Jc d.begins[0]=true)=>jd1 hb d.begins[0] hx (zT h);have TL:=λ(h:Jc d.begins[0]=true)=>Jw d.begins[0] (zT h);have hs:d.begins.take (0+1)=[d.begins[0]]:=zC hk;rw[QaG,show ZC []=[] from rfl,QaU] at i4;by_cases hwr:Jc d.begins[0]=true
  .have TX:=TX hwr;have TL:=TL hwr;rw[hwr] at WR
   (have zz:=@υ.{0};repeat' first|apply jb<;>intro _|simp(disch:=try exact zr) only[ja i1,ja i4,ja i68,ja hi,ja hn,jsp hk,WR,TX,υ,r9,γ,ε])
   refine⟨⟨by rw[hs];simp[hwr],?_⟩,?_⟩
   .rw[hs,show ZC [d.begins[0]]=[32,61,32] ++ zh d.begins[0] from by simp[ZC]];simp(disch:=decide) only[h12,i1,i68,QaB,Qai,Qam]
    (first|omega|(simp only[jf,ji,ju,jm,jl];first|done|omega))
   .simp(disch:=decide) only[h12,hi,hn]
  .have hf:Jc d.begins[0]=false:=by simpa using hwr
   rw[hf] at WR
   (have zz:=@υ.{0};repeat' first|apply jb<;>intro _|simp(disch:=try exact zr) only[ja i1,ja i4,ja i68,ja hi,ja hn,jsp hk,WR,υ,r9,γ,ε])
   exact G0.tup2 (by rw[hd,if_neg (by rintro ⟨_,_,h6⟩;rw[jdW hk hf] at h6;cases h6)];rfl)
 .obtain⟨h0,i1,i4,i68,n0⟩:=hI;rw[Qak] at h0 i4;have bl:(ZC d.begins).length<=16 * 1099511627776+3:=by
   match hx:d.begins with
   |[]=>simp[ZC]
   |[x]=>
    rw[hx] at h0 h2;have:=Jw x (zT (by simpa using h0));have:=h2 x hac;simp[ZC];omega
   |x :: y :: r=>rw[hx] at l1;simp at l1
  (have zz:=@υ.{0};repeat' first|apply jb<;>intro _|simp(disch:=try exact zr) only[ja i1,ja i4,υ,r9,γ,ε])
  exact G0.tup2 (by rw[hd,if_pos ⟨l1,hn,h0⟩];simp only[jie,QaB,Qai,Qam])
theorem jpL (hb:NB base)(d:DeclT)(h1:d.name.length<=BIG)(h3:d.ty.length<=BIG)(h2:∀ x∈d.begins,szE x<=BIG):Tot base 70 [.agg (qt d)] (Ha (J3 d)):=by
 refine hb.tot ?_ (by first|rfl|simp[pa,pc,yd,Q7,W3,JT,Jy]) rfl;have NT:=ZD hb d.ty (by unfold BIG at *;omega);have S1:Tot base 100 [.int .i64 d.lo] (.bool (Z0 d.lo)):=jeB hb d.lo;have S2:Tot base 100 [.int .i64 d.hi] (.bool (Z0 d.hi)):=jeB hb d.hi;unfold BIG at *;by_cases ht:d.ty=[]
 .by_cases hs:Z0 d.lo=true/\Z0 d.hi=true
  .have e1:=hs.1;have e2:=hs.2;unfold Z0 at e1 e2;simp only[ψ,decide_eq_true_eq] at e1 e2;have D1:=jhy hb d.lo om om;have D2:=jhy hb d.hi om om;have l1:=ue e1.1 e1.2;have l2:=ue e2.1 e2.2;have hw:Qs d=some (wo d.lo ++ [46,46] ++ wo d.hi):=by rw[Qs,if_pos ht,if_pos hs]
   rw[hs.1] at S1;rw[hs.2] at S2;refine jB x55 haa (hb.pur 70 1 dc) ?_;simp only[y55,jj,ζ,θ,κ,μ];rw[(by unfold z55;simp only[qq];rfl:z55=_)]
   (have zz:=aI @υ.{0} @yI;repeat' first|apply jb<;>intro _|simp(disch:=try exact zr) only[ht,S1,S2,D1,D2,sm2,υ,yI,r9,γ,ε])
   refine jaT hb d _ hw (by simp[BIG];omega) (by unfold BIG;omega) (by unfold BIG;exact h2) ?_ ?_ ?_ ?_
   .simp(disch:=decide) only[h12]
   .simp(disch:=decide) only[h12,QaB,Qai,Qam]
   ·(first|omega|(simp only[jf,ji,ju,jm,jl];first|done|omega))
   .first|exact Cl.new _ _|(try exact cyE)
  .have hw:Qs d=none:=by rw[Qs,if_pos ht,if_neg hs]
   refine jB x55 haa (hb.pur 70 1 dc) ?_;simp only[y55,jj,ζ,θ,κ,μ];rw[(by unfold z55;simp only[qq];rfl:z55=_)]
   (have zz:=@υ.{0};repeat' first|apply jb<;>intro _|simp(disch:=try exact zr) only[ht,S1,S2,υ,r9,γ,ε])
   all_goals first|(exact G0.tup2 (by rw[HO hw];rfl))|(exfalso;simp_all;done)
 .by_cases hs:d.lo=0/\d.hi=0/\(d.ty=[98,111,111,108]\/nm d.ty=true)
  .have hw:Qs d=some d.ty:=by rw[Qs,if_neg ht,if_pos hs]
   obtain⟨e1,e2,e3⟩:=hs;refine jB x55 haa (hb.pur 70 1 dc) ?_;simp only[y55,jj,ζ,θ,κ,μ];rw[(by unfold z55;simp only[qq];rfl:z55=_)]
   (have zz:=@υ.{0};repeat' first|apply jb<;>intro _|simp(disch:=try exact zr) only[ht,e1,e2,NT,υ,r9,γ,ε])
   all_goals first
    |(exfalso;simp_all;done)
    |(
     refine jaT hb d _ hw (by unfold BIG;omega) (by unfold BIG;omega) (by unfold BIG;exact h2) ?_ ?_ ?_ ?_
     .simp(disch:=decide) only[h12]
     .simp(disch:=decide) only[h12,QaB,Qai,Qam]
     ·(first|omega|(simp only[jf,ji,ju,jm,jl];first|done|omega))
     .first|exact Cl.new _ _|(try exact cyE))
  .have hw:Qs d=none:=by rw[Qs,if_neg ht,if_neg hs]
   refine jB x55 haa (hb.pur 70 1 dc) ?_;simp only[y55,jj,ζ,θ,κ,μ];rw[(by unfold z55;simp only[qq];rfl:z55=_)]
   (have zz:=@υ.{0};repeat' first|apply jb<;>intro _|simp(disch:=try exact zr) only[ht,NT,υ,r9,γ,ε])
   all_goals first|(exact G0.tup2 (by rw[HO hw];rfl))|(exfalso;simp_all;done)
theorem jnE {b o:Nat}{cs:List AV}{h:T AO}(ho:o+6<=jV h b)(hv:rats h b o 6=cs)(hc:cs.all eqs=true):(jZ δ 65 (.ptr b o) (.agg cs) h=true)=True:=eq_true (YW jbf jbe dc ho hv hc)
theorem jcH {s:St}{cs:List AV}{b o k:Nat}(hb:b=s.nx)(h:o+k<=cs.length):rats (nw s cs).h b o k=(cs.drop o).take k:=by
 subst hb;exact(Cl.new s cs).ratsP k o h
theorem Jk {s:St}{vs:List AV}{b o o' k:Nat}(h1:o'<=o)(h:o+k<=o'+vs.length):rats (wr s b o' vs).h b o k=(vs.drop (o - o')).take k:=by
 refine Zq hae λi hi=>?_;rw[kU om om,Qab,Qab,QbH,if_pos hi,QbR,show o - o'+i=o+i - o' by omega]
def Xr (a:AsT):Lc:=a.name ++ [32,58,61,32] ++ zh a.to
def UN (a:AsT):Bool:=nm a.name && Jc a.to
def J1 (r:RuleT):Option Lc:=if Jc r.when=true/\1<=r.acts.length/\r.acts.length<=32/\r.acts.all UN=true then some ([32,32,119,104,101,110,32] ++ zh r.when ++ [32,100,111,32] ++ JR (r.acts.map Xr) ++ [59,10]) else none
def WL:Nat:=17592186044516
theorem KY {a:AsT}(h:UN a=true)(h2:szE a.to<=BIG):(Xr a).length<=WL:=by
 unfold UN at h;simp only[ψ] at h;have:=QI h.1;have:=Jw a.to (zT h.2);unfold BIG at h2;unfold WL Xr;simp only[υ,τ,φ];omega
theorem Uu:∀ (a b:Int) (nm:Lc) (n:Nat) (cs:List AV) (l c:Int),([.int .i64 a,.int .i64 b,.str nm,.lst n cs,.int .i64 l,.int .i64 c]:List AV).all eqs=true:=λ_ _ _ _ _ _ _=>nr rfl
theorem jpD (hb:NB base)(r:RuleT)(h1:szE r.when<=BIG)(h2:r.acts.length<=BIG)(h3:∀ a∈r.acts,szE a.to<=BIG/\a.name.length<=BIG):Tot base 72 [.agg (ruE r)] (Ha (J1 r)):=by
 refine hb.tot ?_ (by first|rfl|simp[pa,pc,yd,Q7,W3,JT,Jy]) rfl;have c1:((r.acts.length:Int)<1)=(r.acts.length<1):=by rw[eq_iff_iff];omega
 have c2:((32:Int)<(r.acts.length:Int))=(32<r.acts.length):=by rw[eq_iff_iff];omega
 have WR:=VL hb r.when h1;by_cases hw:Jc r.when=true
 .have TX:=jd1 hb r.when h1 (zT hw);have TL:=Jw r.when (zT hw);rw[qx] at WR TX;rw[hw] at WR;unfold BIG at h1 h2;refine jB x57 haa (hb.pur 72 1 dc) ?_;simp only[y57,jj,ζ,θ,κ,μ];rw[(by unfold z57;simp only[qq];rfl:z57=_)]
  (have zz:=@υ.{0};repeat' first|apply jb<;>intro _|simp(disch:=try exact zr) only[WR,TX,c1,c2,jcH,υ,r9,γ,ε])
  .exact G0.tup2 (by rw[J1,if_neg om];rfl)
  .exact G0.tup2 (by rw[J1,if_neg om];rfl)
  have l1:1<=r.acts.length:=om
  have l2:r.acts.length<=32:=om
  refine jU r.acts.length (λk L s=>(r.acts.take k).all UN=true/\Has L 4 (.str ([32,32,119,104,101,110,32] ++ zh r.when ++ [32,100,111,32] ++ JR ((r.acts.take k).map Xr)))/\Has L 29 (.lst r.acts.length (fl asE r.acts))/\1<=s.nx) ?_ (λk L s hk hI hi hn=>?_) (λL s hI=>?_)
  .refine⟨rfl,?_⟩;rw[QaG,θ,JR,QaU];simp(disch:=decide) only[h12,QaB,Qai,Qam]
   (first|omega|(simp only[jf,ji,ju,jm,jl];first|done|omega))
  .obtain⟨h0,i4,i29,n0⟩:=hI;have hx:=h3 _ (Qaa hk);have hin:r.acts[k]∈r.acts:=Qaa hk;have hact:∀ a∈r.acts.take k,(Xr a).length<=WL:=λa ha=>KY (Qah.1 h0 a ha) (h3 a (QbS ha)).1;have hbad:UN r.acts[k]=false->J1 r=none:=λh=>by rw[J1,if_neg (by rintro ⟨_,_,_,h6⟩;rw[jdW hk h] at h6;cases h6)]
   have hgood:UN r.acts[k]=true->(r.acts.take (k+1)).all UN=true:=λh=>by rw[jht hk,h0,h];rfl
   have hs:=Ge ((r.acts.take k).map Xr) (Xr r.acts[k]);have e9:(r.acts.take k).map Xr ++ [Xr r.acts[k]]=(r.acts.take (k+1)).map Xr:=by rw[zC hk,Qay];rfl
   rw[e9] at hs;have tl:((r.acts.take k).map Xr).length=k:=by rw[Qac,Qas];omega
   rw[tl] at hs;have hjl:(JR ((r.acts.take k).map Xr)).length<=32 * (WL+2):=by
    have:=YE (n:=WL) (xs:=(r.acts.take k).map Xr) λx hx=>by
     obtain⟨a,ha,rfl⟩:=QaQ.1 hx;exact hact a ha
    rw[tl] at this;have:=QaA (WL+2) (show k<=32 by omega);omega
   clear hact e9 tl;have N2:=ZD hb r.acts[k].name (by have:=hx.2;unfold BIG at this;omega);have W2:=VL hb r.acts[k].to hx.1;have T2:=λ(h:Jc r.acts[k].to=true)=>jd1 hb r.acts[k].to hx.1 (zT h);have T3:=λ(h:Jc r.acts[k].to=true)=>Jw r.acts[k].to (zT h);have hdef:UN r.acts[k]=(nm r.acts[k].name && Jc r.acts[k].to):=rfl;have hdw:Xr r.acts[k]=r.acts[k].name ++ [32,58,61,32] ++ zh r.acts[k].to:=rfl;have c3:((0:Int)<(k:Int))=(0<k):=by rw[eq_iff_iff];omega
   obtain⟨hx1,hx2⟩:=hx;unfold BIG WL at *;obtain⟨a,ha⟩:∃ a,a=r.acts[k]:=⟨_,rfl⟩;rw[<-ha] at hx1 hx2 hbad hgood hs N2 W2 T2 T3 hdef hdw;by_cases hnm:nm a.name=true
   .have hnl:=QI hnm;rw[hnm] at N2;by_cases hwb:Jc a.to=true
    .have T2:=T2 hwb;have T3:=T3 hwb;rw[qx] at W2 T2;rw[hwb] at W2;have hg:=hgood (by rw[hdef,hnm,hwb];rfl);rw[hdw] at hs;by_cases hk0:k=0
     .rw[if_pos hk0] at hs;have hk1:¬ 0<k:=om
      (have zz:=aI @Jk (aI @υ.{0} (aI @yH @Uu));repeat' first|apply jb<;>intro _|simp(disch:=try exact zr) only[ja i4,ja i29,ja hi,ja hn,N2,W2,T2,c3,hk1,<-ha,Jk,sm9,jnE,Jk,υ,yH,Uu,r9,γ,ε])
      refine⟨⟨hg,?_⟩,?_⟩
      .rw[hs];simp(disch:=decide) only[h12,i29,QaB,Qai,Qam]
       (first|omega|(simp only[jf,ji,ju,jm,jl];first|done|omega))
      .simp(disch:=decide) only[h12,hi,hn]
     .rw[if_neg hk0] at hs;have hk1:0<k:=om
      (have zz:=aI @Jk (aI @υ.{0} (aI @yH @Uu));repeat' first|apply jb<;>intro _|simp(disch:=try exact zr) only[ja i4,ja i29,ja hi,ja hn,N2,W2,T2,c3,hk1,<-ha,Jk,sm9,jnE,Jk,υ,yH,Uu,r9,γ,ε])
      refine⟨⟨hg,?_⟩,?_⟩
      .rw[hs];simp(disch:=decide) only[h12,i29,QaB,Qai,Qam]
       (first|omega|(simp only[jf,ji,ju,jm,jl];first|done|omega))
      .simp(disch:=decide) only[h12,hi,hn]
    .have hwf:Jc a.to=false:=by simpa using hwb
     rw[qx] at W2;rw[hwf] at W2;have hb9:=hbad (by rw[hdef,hwf];simp)
     (have zz:=aI @Jk (aI @υ.{0} (aI @yH @Uu));repeat' first|apply jb<;>intro _|simp(disch:=try exact zr) only[ja i4,ja i29,ja hi,ja hn,N2,W2,<-ha,Jk,Jk,υ,yH,Uu,r9,γ,ε])
     exact G0.tup2 (by rw[hb9];rfl)
   .have hnf:nm a.name=false:=by simpa using hnm
    rw[hnf] at N2;have hb9:=hbad (by rw[hdef,hnf];rfl)
    (have zz:=aI @Jk (aI @υ.{0} (aI @yH @Uu));repeat' first|apply jb<;>intro _|simp(disch:=try exact zr) only[ja i4,ja i29,ja hi,ja hn,N2,<-ha,Jk,Jk,υ,yH,Uu,r9,γ,ε])
    exact G0.tup2 (by rw[hb9];rfl)
  .obtain⟨h0,i4,i29,n0⟩:=hI;rw[Qak] at h0 i4;have hjl:(JR (r.acts.map Xr)).length<=32 * (WL+2):=by
    have:=YE (n:=WL) (xs:=r.acts.map Xr) λx hx=>by
     obtain⟨a,ha,rfl⟩:=QaQ.1 hx;exact KY (Qah.1 h0 a ha) (h3 a ha).1
    rw[Qac] at this;have:=QaA (WL+2) l2;omega
   unfold WL at hjl
   (have zz:=@υ.{0};repeat' first|apply jb<;>intro _|simp(disch:=try exact zr) only[ja i4,ja i29,υ,r9,γ,ε])
   exact G0.tup2 (by rw[J1,if_pos ⟨hw,l1,l2,h0⟩];simp only[jie,QaB,Qai,Qam])
 .have hf:Jc r.when=false:=by simpa using hw
  rw[hf] at WR;rw[qx] at WR;refine jB x57 haa (hb.pur 72 1 dc) ?_;simp only[y57,jj,ζ,θ,κ,μ];rw[(by unfold z57;simp only[qq];rfl:z57=_)]
  (have zz:=@υ.{0};repeat' first|apply jb<;>intro _|simp(disch:=try exact zr) only[WR,jcH,υ,r9,γ,ε])
  exact G0.tup2 (by rw[J1,if_neg (by rintro ⟨h6,_⟩;exact hw h6)];rfl)
def yB:List (Option Lc)->Option Lc
 |[]=>some []
 |none :: _=>none
 |some a :: r=>(yB r).map (a ++ ·)
theorem jjL:∀ {xs:List (Option Lc)} {a b:Lc},yB xs=some a->yB (xs ++ [some b])=some (a ++ b)
 |[],a,b,h=>by simp[yB] at h;subst h;simp[yB]
 |none :: r,a,b,h=>by simp[yB] at h
 |some c :: r,a,b,h=>by
  rw[yB] at h;cases hr:yB r with
  |none=>rw[hr] at h;simp at h
  |some d=>
   rw[hr] at h;simp at h;subst h;rw[Qai,yB,jjL hr];simp
theorem jjM:∀ {xs:List (Option Lc)},none∈xs->yB xs=none
 |[],h=>by simp at h
 |none :: r,_=>rfl
 |some c :: r,h=>by
  rw[yB,jjM (by simpa using h)];rfl
theorem QG {n:Nat}:∀ {xs:List (Option Lc)} {a:Lc},(∀ l,some l∈xs->l.length<=n)->yB xs=some a->a.length<=xs.length * n
 |[],a,_,h=>by simp[yB] at h;subst h;simp
 |none :: r,a,_,h=>by simp[yB] at h
 |some c :: r,a,hl,h=>by
  rw[yB] at h;cases hr:yB r with
  |none=>rw[hr] at h;simp at h
  |some d=>
   rw[hr] at h;simp at h;subst h;have:=QG (xs:=r) (λl h=>hl l (by simp[h])) hr;have:=hl c hac;rw[υ,show(some c :: r).length=r.length+1 from rfl,QaX];omega
theorem uV {α:Type}{f:α->Option Lc}{xs:List α}{k:Nat}(h:k<xs.length){a b:Lc}(h1:yB ((xs.take k).map f)=some a)(h2:f xs[k]=some b):yB ((xs.take (k+1)).map f)=some (a ++ b):=by
 rw[zC h,Qay,ζ,θ,h2];exact jjL h1
theorem VG {α:Type}{f:α->Option Lc}{xs:List α}{k:Nat}(h:k<xs.length)(h2:f xs[k]=none):yB (xs.map f)=none:=jjM (by rw[<-h2];exact List.mem_map_of_mem (Qaa h))
theorem Uz {e:EnumT}{l:Lc}(h:QD e=some l):l.length<=2000:=by
 unfold QD at h;split at h
 .rename_i hh;simp only[Option.some.injEq] at h;subst h;have:=QI hh.1;have:=YE (n:=32) (xs:=e.vals) λx hx=>QI (Qah.1 hh.2.2.2 x hx);have:=QaA 34 hh.2.2.1;simp only[υ,τ,φ];omega
 .cases h
theorem jib {d:DeclT}{t:Lc}(h:Qs d=some t):t.length<=32:=by
 unfold Qs at h;split at h
 .split at h
  .rename_i hh;simp only[Option.some.injEq] at h;subst h;obtain⟨e1,e2⟩:=hh;unfold Z0 at e1 e2;simp only[ψ,decide_eq_true_eq] at e1 e2;have l1:=ue e1.1 e1.2;have l2:=ue e2.1 e2.2;simp only[υ,τ,φ];omega
  .cases h
 .split at h
  .rename_i hh;simp only[Option.some.injEq] at h;subst h;rcases hh.2.2 with h|h
   .rw[h];decide
   .exact QI h
  .cases h
theorem UE {d:DeclT}{l:Lc}(h:J3 d=some l)(h2:∀ x∈d.begins,szE x<=BIG):l.length<=WL:=by
 cases ht:Qs d with
 |none=>rw[HO ht] at h;cases h
 |some t=>
  rw[jfm ht] at h;have tl:=jib ht;split at h
  .rename_i hh;simp only[Option.some.injEq] at h;subst h;have:=QI hh.2.1;have bl:(ZC d.begins).length<=16 * BIG+3:=by
    match hx:d.begins with
    |[]=>simp[ZC]
    |[x]=>
     rw[hx] at hh h2;have:=Jw x (zT (by simpa using hh.2.2));have:=h2 x hac;simp[ZC];omega
    |x :: y :: r=>rw[hx] at hh;simp at hh
   unfold BIG at bl;unfold WL;simp only[υ,τ,φ];omega
  .cases h
structure WrR (r:RuleT):Prop where
 when:szE r.when<=BIG
 acts:r.acts.length<=BIG
 to:∀ a∈r.acts,szE a.to<=BIG/\a.name.length<=BIG
structure WrS (m:SrcT):Prop where
 enums:m.enums.length<=BIG
 en:∀ e∈m.enums,e.name.length<=BIG/\e.vals.length<=BIG/\∀ v∈e.vals,v.length<=BIG
 vars:m.vars.length<=BIG
 de:∀ d∈m.vars,d.name.length<=BIG/\d.ty.length<=BIG/\d.begins.length<=BIG/\∀ x∈d.begins,szE x<=BIG
 procs:m.procs.length<=BIG
 pr:∀ p∈m.procs,p.name.length<=BIG/\p.rules.length<=BIG/\∀ r∈p.rules,WrR r
def RL:Nat:=33 * (WL+2)
theorem uA {r:RuleT}{l:Lc}(h:J1 r=some l)(w:WrR r):l.length<=RL:=by
 unfold J1 at h;split at h
 .rename_i hh;simp only[Option.some.injEq] at h;subst h;have h1:=Jw r.when (zT hh.1);have h2:=w.when;have:=YE (n:=WL) (xs:=r.acts.map Xr) λx hx=>by
   obtain⟨a,ha,rfl⟩:=QaQ.1 hx;exact KY (Qah.1 hh.2.2.2 a ha) (w.to a ha).1
  rw[Qac] at this;have:=QaA (WL+2) hh.2.2.1;unfold RL;unfold BIG at h2;unfold WL at *;simp only[υ,τ,φ];omega
 .cases h
def QZ (p:ProcT):Option Lc:=if nm p.name=true/\p.rules.length<=32 then(match yB (p.rules.map J1) with|some t=>some ([112,114,111,99,101,115,115,32] ++ p.name ++ [32,123,10] ++ t ++ [125,10])|none=>none) else none
def PRL:Nat:=33 * RL
theorem jiE {p:ProcT}{l:Lc}(h:QZ p=some l)(w:∀ r∈p.rules,WrR r):l.length<=PRL:=by
 unfold QZ at h;split at h
 .rename_i hh;cases hc:yB (p.rules.map J1) with
  |none=>rw[hc] at h;cases h
  |some t=>
   rw[hc] at h;simp only[Option.some.injEq] at h;subst h;have:=QI hh.1;have h3:=QG (n:=RL) (λl hl=>by
    obtain⟨r,hr,he⟩:=QaQ.1 hl;exact uA he (w r hr)) hc
   rw[Qac] at h3;have:=QaA RL hh.2;unfold PRL;have:1000<=RL:=by unfold RL WL;omega
   simp only[υ,τ,φ];omega
 .cases h
def J7 (m:SrcT):Option Lc:=
 if m.enums.length<=32/\m.vars.length<=32/\m.procs.length<=32 then(match yB (m.enums.map QD),yB (m.vars.map J3),yB (m.procs.map QZ) with
  |some a,some b,some c=>some (a ++ b ++ c)
  |_,_,_=>none) else none
theorem jrM {m:SrcT}(h:yB (m.enums.map QD)=none):J7 m=none:=by unfold J7;rw[h];split<;>rfl
theorem jrJ {m:SrcT}(h:yB (m.vars.map J3)=none):J7 m=none:=by unfold J7;rw[h];split<;>(try split)<;>first|rfl|(rename_i h2 _ _ _;simp at *)
theorem jrK {m:SrcT}(h:yB (m.procs.map QZ)=none):J7 m=none:=by unfold J7;rw[h];split<;>(try split)<;>first|rfl|(simp at *)
theorem jrL {m:SrcT}{a b c:Lc}(h0:m.enums.length<=32/\m.vars.length<=32/\m.procs.length<=32)(h1:yB (m.enums.map QD)=some a)(h2:yB (m.vars.map J3)=some b)(h3:yB (m.procs.map QZ)=some c):J7 m=some (a ++ b ++ c):=by
 unfold J7;rw[if_pos h0,h1,h2,h3]
def jge (o:Option Lc):AV:=.tup [.str (o.getD []),.int .i64 (if o.isSome=true then 0 else 141)]
theorem G0.tupw {s:St}{a:Lc}{n:Int}{u:AV}(h:u=.tup [.str a,.int .i64 n]):G0 u (.tup [.str a,.int .i64 n]) s:=by
 subst h;exact FzD.tup (.cons (.pc rfl) (.cons (.pc rfl) .nil))
theorem r10:type_of%(a8 @jd @jh @j1 @jg @jc @qM @qL @rzZ):=a8 @jd @jh @j1 @jg @jc @qM @qL @rzZ
theorem jj2 (hb:NB base)(m:SrcT)(w:WrS m):Tot base 37 [.agg (srE m)] (jge (J7 m)):=by
 refine hb.tot ?_ (by first|rfl|simp[pa,pc,yd,Q7,W3,JT,Jy,jbr,gn]) rfl;have we:=w.enums;have wv:=w.vars;have wp:=w.procs;have c1:((32:Int)<(m.enums.length:Int))=(32<m.enums.length):=by rw[eq_iff_iff];omega
 have c2:((32:Int)<(m.vars.length:Int))=(32<m.vars.length):=by rw[eq_iff_iff];omega
 have c3:((32:Int)<(m.procs.length:Int))=(32<m.procs.length):=by rw[eq_iff_iff];omega
 unfold BIG at we wv wp;have hbad:∀ s:St,J7 m=none->G0 (jge (J7 m)) (.tup [.str [],.int .i64 141]) s:=λs h=>G0.tupw (by rw[h];rfl);refine jB x18 haa (hb.pur 37 1 dc) ?_;simp only[y18,jj,ζ,θ,κ,μ];rw[(by unfold z18;simp only[qq];rfl:z18=_)];repeat' first|apply jb<;>intro _|simp(disch:=try exact dzE) only[c1,c2,c3,r10,γ,ε]
 .exact hbad _ (by rw[J7,if_neg om])
 .exact hbad _ (by rw[J7,if_neg om])
 .exact hbad _ (by rw[J7,if_neg om])
 have l1:m.enums.length<=32:=om
 have l2:m.vars.length<=32:=om
 have l3:m.procs.length<=32:=om
 clear c1 c2 c3;refine jU m.enums.length (λk L s=>∃ a,yB ((m.enums.take k).map QD)=some a/\Has L 1 (.ptr 0 0)/\Has L 4 (.str a)/\Has L 36 (.lst m.enums.length (fl enE m.enums))/\1<=s.nx/\Cl s 0 (srE m)) ?_ (λk L s hk hI hi hn=>?_) (λL s hI=>?_)
 .refine⟨[],rfl,?_⟩;simp(disch:=decide) only[h12];exact⟨nxX,by first|exact Cl.new _ _|(try exact cyE)⟩
 .obtain⟨a,ha,i1,i4,iL,n0,C0⟩:=hI;obtain⟨w1,w2,w3⟩:=w.en _ (Qaa hk);have E:=jpK hb m.enums[k] w1 w2 w3;have al:a.length<=32 * 2000:=by
   have:=QG (n:=2000) (λl hl=>by
    obtain⟨e,_,he⟩:=QaQ.1 hl;exact Uz he) ha
   rw[Qac,Qas] at this;have:=QaA 2000 (show min k m.enums.length<=32 by omega);omega
  have good:=λb=>@uV _ QD m.enums k hk a b ha;have bad:=@VG _ QD m.enums k hk;have el:=@Uz m.enums[k];cases ho:QD m.enums[k] with
  |none=>
   rw[ho] at E;have E:Tot base 69 [.agg (enE m.enums[k])] (.tup [.str [],.bool false]):=E
   (have zz:=aI @υ.{0} C0.r;repeat' first|apply jb<;>intro _|simp(disch:=try exact zr) only[ja i1,ja i4,ja iL,ja hi,ja hn,E,C0.q,υ,C0.r,r10,γ,ε])
   exact hbad _ (jrM (bad ho))
  |some b=>
   rw[ho] at E;have E:Tot base 69 [.agg (enE m.enums[k])] (.tup [.str b,.bool true]):=E;have bl:=el ho
   (have zz:=aI @υ.{0} C0.r;repeat' first|apply jb<;>intro _|simp(disch:=try exact zr) only[ja i1,ja i4,ja iL,ja hi,ja hn,E,C0.q,υ,C0.r,r10,γ,ε])
   refine⟨⟨a ++ b,good b ho,?_⟩,?_⟩
   .simp(disch:=decide) only[h12,i1,iL];exact⟨nxX,ckX⟩
   .simp(disch:=decide) only[h12,hi,hn]
 .obtain⟨a,ha,i1,i4,iL,n0,C0⟩:=hI;rw[Qak] at ha;have al:a.length<=32 * 2000:=by
   have:=QG (n:=2000) (λl hl=>by
    obtain⟨e,_,he⟩:=QaQ.1 hl;exact Uz he) ha
   rw[Qac] at this;have:=QaA 2000 l1;omega
  (have zz:=C0.r;repeat' first|apply jb<;>intro _|simp(disch:=try exact zr) only[ja i1,ja i4,ja iL,C0.q,C0.r,r10,γ,ε])
  refine jU m.vars.length (λk L s=>∃ b,yB ((m.vars.take k).map J3)=some b/\Has L 1 (.ptr 0 0)/\Has L 4 (.str (a ++ b))/\Has L 54 (.lst m.vars.length (fl qt m.vars))/\1<=s.nx/\Cl s 0 (srE m)) ?_ (λk L s hk hI hi hn=>?_) (λL s hI=>?_)
  .refine⟨[],rfl,?_⟩;simp(disch:=decide) only[h12,i1,i4,QaU];exact⟨n0,C0⟩
  .clear i1 i4 iL n0 C0;obtain⟨b,hb2,i1,i4,iL,n0,C0⟩:=hI;obtain⟨w1,w2,_,w3⟩:=w.de _ (Qaa hk);have E:=jpL hb m.vars[k] w1 w2 w3;have bl:b.length<=32 * WL:=by
    have:=QG (n:=WL) (λl hl=>by
     obtain⟨e,he1,he⟩:=QaQ.1 hl;exact UE he (w.de e (QbS he1)).2.2.2) hb2
    rw[Qac,Qas] at this;have:=QaA WL (show min k m.vars.length<=32 by omega);omega
   have good:=λc=>@uV _ J3 m.vars k hk b c hb2;have bad:=@VG _ J3 m.vars k hk;have el:=λl (h:J3 m.vars[k]=some l)=>UE h w3;unfold WL at *;cases ho:J3 m.vars[k] with
   |none=>
    rw[ho] at E;have E:Tot base 70 [.agg (qt m.vars[k])] (.tup [.str [],.bool false]):=E
    (have zz:=aI @υ.{0} C0.r;repeat' first|apply jb<;>intro _|simp(disch:=try exact zr) only[ja i1,ja i4,ja iL,ja hi,ja hn,E,C0.q,υ,C0.r,r10,γ,ε])
    exact hbad _ (jrJ (bad ho))
   |some c=>
    rw[ho] at E;have E:Tot base 70 [.agg (qt m.vars[k])] (.tup [.str c,.bool true]):=E;have cl:=el _ ho
    (have zz:=aI @υ.{0} C0.r;repeat' first|apply jb<;>intro _|simp(disch:=try exact zr) only[ja i1,ja i4,ja iL,ja hi,ja hn,E,C0.q,υ,C0.r,r10,γ,ε])
    refine⟨⟨b ++ c,good c ho,?_⟩,?_⟩
    .simp(disch:=decide) only[h12,i1,iL,QaB];exact⟨nxX,ckX⟩
    .simp(disch:=decide) only[h12,hi,hn]
  .clear i1 i4 iL n0 C0;obtain⟨b,hb2,i1,i4,iL,n0,C0⟩:=hI;rw[Qak] at hb2;have bl:b.length<=32 * WL:=by
    have:=QG (n:=WL) (λl hl=>by
     obtain⟨e,he1,he⟩:=QaQ.1 hl;exact UE he (w.de e he1).2.2.2) hb2
    rw[Qac] at this;have:=QaA WL l2;omega
   (have zz:=C0.r;repeat' first|apply jb<;>intro _|simp(disch:=try exact zr) only[ja i1,ja i4,ja iL,C0.q,C0.r,r10,γ,ε])
   refine jU m.procs.length (λk L s=>∃ c,yB ((m.procs.take k).map QZ)=some c/\Has L 1 (.ptr 0 0)/\Has L 4 (.str (a ++ b ++ c))/\Has L 72 (.lst m.procs.length (fl prE m.procs))/\1<=s.nx) ?_ (λko Lo so hko hIo hio hno=>?_) (λLo so hIo=>?_)
   .refine⟨[],rfl,?_⟩;simp(disch:=decide) only[h12,i1,i4,QaU];exact n0
   .clear i1 i4 iL n0 C0;obtain⟨c,hc,i1,i4,iL,n0⟩:=hIo;obtain⟨w1,w2,w3⟩:=w.pr _ (Qaa hko);have NM:=ZD hb m.procs[ko].name (by unfold BIG at *;omega);have cl:c.length<=32 * PRL:=by
     have:=QG (n:=PRL) (λl hl=>by
      obtain⟨e,he1,he⟩:=QaQ.1 hl;exact jiE he (w.pr e (QbS he1)).2.2) hc
     rw[Qac,Qas] at this;have:=QaA PRL (show min ko m.procs.length<=32 by omega);omega
    have good:=λd=>@uV _ QZ m.procs ko hko c d hc;have bad:=λh=>jrK (@VG _ QZ m.procs ko hko h);obtain⟨x,hx⟩:∃ x,x=m.procs[ko]:=⟨_,rfl⟩;rw[<-hx] at good bad w1 w2 w3 NM;have pb:QZ x=none->∀ s:St,G0 (jge (J7 m)) (.tup [.str [],.int .i64 141]) s:=λh s=>hbad s (bad h);have c4:((32:Int)<(x.rules.length:Int))=(32<x.rules.length):=by rw[eq_iff_iff];omega
    have WLv:WL=17592186044516:=rfl;have RLv:RL=33 * (WL+2):=rfl;have PLv:PRL=33 * RL:=rfl;unfold BIG at w1 w2;by_cases hnm:nm x.name=true
    .have hnl:=QI hnm;rw[hnm] at NM
     (have zz:=@υ.{0};repeat' first|apply jb<;>intro _|simp(disch:=try exact zr) only[ja i1,ja i4,ja iL,ja hio,ja hno,NM,c4,<-hx,υ,r10,γ,ε])
     .exact pb (by rw[QZ,if_neg om]) _
     have l5:x.rules.length<=32:=om
     refine jU x.rules.length (λj L s=>∃ t,yB ((x.rules.take j).map J1)=some t/\Has L 1 (.ptr 0 0)/\Has L 4 (.str (a ++ b ++ c ++ ([112,114,111,99,101,115,115,32] ++ x.name ++ [32,123,10] ++ t)))/\Has L 72 (.lst m.procs.length (fl prE m.procs))/\Has L 73 (.int .i64 (m.procs.length:Int))/\Has L 74 (.int .i64 (ko:Int))/\Has L 95 (.lst x.rules.length (fl ruE x.rules))/\1<=s.nx) ?_ (λk L s hk hI hi hn=>?_) (λL s hI=>?_)
     .refine⟨[],rfl,?_⟩;simp(disch:=decide) only[h12,i1,i4,iL,hno,hio,QaU,QaB,Qai,Qam]
      (first|omega|(simp only[jf,ji,ju,jm,jl];first|done|omega))
     .clear i1 i4 iL n0 hio hno;obtain⟨t,ht,i1,i4,iL,hno,hio,i95,n0⟩:=hI;have wr:=w3 _ (Qaa hk);have E:=jpD hb x.rules[k] wr.when wr.acts wr.to;have tl:t.length<=32 * RL:=by
       have:=QG (n:=RL) (λl hl=>by
        obtain⟨e,he1,he⟩:=QaQ.1 hl;exact uA he (w3 e (QbS he1))) ht
       rw[Qac,Qas] at this;have:=QaA RL (show min k x.rules.length<=32 by omega);omega
      have good2:=λd=>@uV _ J1 x.rules k hk t d ht;have bad2:=@VG _ J1 x.rules k hk;have el:=λl (h:J1 x.rules[k]=some l)=>uA h wr;cases ho:J1 x.rules[k] with
      |none=>
       rw[ho] at E;have E:Tot base 72 [.agg (ruE x.rules[k])] (.tup [.str [],.bool false]):=E
       (have zz:=@υ.{0};repeat' first|apply jb<;>intro _|simp(disch:=try exact zr) only[ja i1,ja i4,ja iL,ja i95,ja hi,ja hn,E,υ,r10,γ,ε])
       exact pb (by rw[QZ,if_pos ⟨hnm,l5⟩,bad2 ho]) _
      |some d=>
       rw[ho] at E;have E:Tot base 72 [.agg (ruE x.rules[k])] (.tup [.str d,.bool true]):=E;have dl:=el _ ho
       (have zz:=@υ.{0};repeat' first|apply jb<;>intro _|simp(disch:=try exact zr) only[ja i1,ja i4,ja iL,ja i95,ja hi,ja hn,E,υ,r10,γ,ε])
       refine⟨⟨t ++ d,good2 d ho,?_⟩,?_⟩
       .simp(disch:=decide) only[h12,i1,iL,hno,hio,i95,QaB,Qai,Qam]
        (first|omega|(simp only[jf,ji,ju,jm,jl];first|done|omega))
       .simp(disch:=decide) only[h12,hi,hn]
     .clear i1 i4 iL n0 hio hno;obtain⟨t,ht,i1,i4,iL,hno,hio,i95,n0⟩:=hI;rw[Qak] at ht;have tl:t.length<=32 * RL:=by
       have:=QG (n:=RL) (λl hl=>by
        obtain⟨e,he1,he⟩:=QaQ.1 hl;exact uA he (w3 e he1)) ht
       rw[Qac] at this;have:=QaA RL l5;omega
      have hpw:QZ x=some ([112,114,111,99,101,115,115,32] ++ x.name ++ [32,123,10] ++ t ++ [125,10]):=by rw[QZ,if_pos ⟨hnm,l5⟩,ht]
      (have zz:=@υ.{0};repeat' first|apply jb<;>intro _|simp(disch:=try exact zr) only[ja i1,ja i4,ja iL,υ,r10,γ,ε])
      refine⟨⟨_,good _ hpw,?_⟩,?_⟩
      .simp(disch:=decide) only[h12,i1,iL,QaB,Qai,Qam]
       (first|omega|(simp only[jf,ji,ju,jm,jl];first|done|omega))
      .simp(disch:=decide) only[h12,hio,hno]
    .have hnf:nm x.name=false:=by simpa using hnm
     rw[hnf] at NM
     (have zz:=@υ.{0};repeat' first|apply jb<;>intro _|simp(disch:=try exact zr) only[ja i1,ja i4,ja iL,ja hio,ja hno,NM,<-hx,υ,r10,γ,ε])
     exact pb (by rw[QZ,if_neg (by rintro ⟨h6,_⟩;exact hnm h6)]) _
   .clear i1 i4 iL n0 C0;obtain⟨c,hc,i1,i4,iL,n0⟩:=hIo;rw[Qak] at hc;repeat' first|apply jb<;>intro _|simp(disch:=try exact dzE) only[ja i1,ja i4,r10,γ,ε]
    exact G0.tupw (by rw[jrL ⟨l1,l2,l3⟩ ha hb2 hc];rfl)
end Go.Sy
end
noncomputable section
namespace Go.Sy
open Go.Ev Go.RowKit
variable {w:World}{N:Nat}{t:TypeId}{cs:List Value}
def frW (w:World):Inj:=⟨λ_=>.unborn,λB=>match w.heap[B]? with|some (.cells c _ _)=>some c.toList|_=>none⟩
theorem ju5 {B:Nat}{vs:List Value}(h:(frW w).g B=some vs):∃ c e f,w.heap[B]? = some (.cells c e f)/\c.toList=vs:=by
 unfold frW at h;dsimp only at h;split at h
 .rename_i c e f hc;exact⟨c,e,f,hc,by simpa using h⟩
 .cases h
theorem jsD {B:Nat}{c:Array Value}{e:TypeId}{f:Nat×Nat}(h:w.heap[B]? = some (.cells c e f)):(frW w).g B=some c.toList:=by
 unfold frW;dsimp only;rw[h]
theorem joB (hg:∃ te pe,w.cell? ⟨1,0,none⟩=some (.iface te pe)):Sim (frW w) st0.h st0.nx w:=
 ⟨λb B S e=>(by cases e),λb e=>(by cases e),λb b' B S S' e=>(by cases e),λb e=>absurd rfl e,⟨hg,λb S e=>by cases e⟩,λB vs h=>by
  obtain⟨c,e,f,h1,h2⟩:=ju5 h;exact⟨⟨c,e,f.1,f.2,h1,h2,trivial⟩,λb S e=>by cases e⟩⟩
section
variable {H:Type} {enc:TypeId×Value->H} {P:Program} {w:World} {base:Nat} {sp:Nat->Bool} {held:Bool}
mutual
def bulkD:DataW H->Nat
 |.lit (.string bytes)=>bytes.length+1
 |.lit _=>1
 |.nil=>1
 |.ptr d=>bulkD d+1
 |.slice elems spare=>bulkDs elems+bulkDs spare+1
 |.agg parts=>bulkDs parts+1
 |.iface _ d=>bulkD d+1
 |.map entries=>1
 |.held _=>1
def bulkDs:List (DataW H)->Nat
 |[]=>0
 |d :: r=>bulkD d+bulkDs r
end
def Reads (H:Type)(P:Program)(w:World)(N:Nat)(t:TypeId){α:Type}(z:Nat)(en:α->List AV)(sz:α->Nat):Prop:=
 P.cellsOf t=z/\(∀ x,(en x).length=z)/\∀ (enc:TypeId×Value->H) (base:Nat) (sp:Nat->Bool) (held:Bool) (fuel:Nat) (cs:List Value) (d:DataW H) (ps:List MemPlace),fuel<=N->DataW.trod enc P w base sp held fuel t cs=some (d,ps)->∃ x:α,VRs (frW w) (en x) cs/\(en x).all AV.cell=true/\sz x<=bulkD d
def jde (k:IntKind)(n:{n:Int // (Lit.int k n).wf=true}):List AV:=[.int k n.1]
theorem JC {k:IntKind}(hu:P.underlying t=some (.int k))(hc:P.cellsOf t=1):Reads H P w N t 1 (jde k) (λ_=>1):=
 ⟨hc,λ_=>rfl,λenc base sp held fuel cs d ps hN h=>by
  obtain⟨n,rfl,hx,hw⟩:=DataW.trod_int hu h;cases hx;exact⟨⟨n,hw⟩,⟨_,_,rfl,rfl,rfl⟩,rfl,η _⟩⟩
theorem vN (hu:P.underlying t=some .string)(hc:P.cellsOf t=1):Reads H P w N t 1 (λs:Lc=>[.str s]) (λs=>s.length+1):=
 ⟨hc,λ_=>rfl,λenc base sp held fuel cs d ps hN h=>by
  obtain⟨s,rfl,hx,hm⟩:=DataW.trod_string hu h;cases hx;refine⟨s.data.toList.map UInt8.toNat,⟨_,_,rfl,⟨s,rfl,rfl⟩,rfl⟩,rfl,?_⟩;show(s.data.toList.map UInt8.toNat).length+1<=_;rw[bulkD,Qac];exact η _⟩
theorem jfp {a:Addr}{v:Value}(h:w.cell? a=some v):a.spot=none/\∃ c e f,w.heap[a.block]? = some (.cells c e f)/\c[a.off]? = some v:=by
 unfold World.cell? at h;split at h
 .rename_i c e f hc;split at h
  .cases h
  .rename_i hs;exact⟨by simpa using hs,c,e,f,hc,h⟩
 .cases h
theorem jdC {base:Nat}{a:Addr}{n:Nat}(h:w.cells? base a n=some cs):cs.length=n/\∀ i,i<n->w.cell? (a.add i)=some (cs.getD i undef):=by
 unfold World.cells? at h;split at h
 .refine⟨by simpa using mapM_some_length h,λi hi=>?_⟩;have:=mapM_some_get h i i (by simp[hi]);rw[this];have hl:cs.length=n:=by simpa using mapM_some_length h
  simp[Qaf,show i<cs.length by omega]
 .cases h
theorem jdX (b o n:Nat):(Addr.add ⟨b,o,none⟩ n)=⟨b,o+n,none⟩:=by
 unfold Addr.add;split
 .rename_i h;subst h;rfl
 .rfl
theorem Qv {α:Type}{e:TypeId}{z:Nat}{en:α->List AV}{sz:α->Nat}(hz0:0<z)(hu:P.underlying t=some (.slice e))(hc:P.cellsOf t=1)(R:Reads H P w N e z en sz)(hpos:∀ x,1<=sz x) :
  Reads H P w (N+1) t 1 (λxs:List α=>[.lst xs.length (fl en xs)]) (λxs=>(xs.map sz).sum+1):=
 ⟨hc,λ_=>rfl,λenc base sp held fuel cs d ps hN h=>by
  obtain⟨hz,hl,hr⟩:=R;rcases DataW.trod_slice hu h with ⟨rfl,hx⟩|⟨a,len,cap,elems,rest,n,rfl,rfl,hx,hb,hle,hm,hel,h1,_,_⟩
  .cases hx;exact⟨[],⟨_,_,rfl,⟨none,0,rfl,η _,rfl,λh=>absurd h (Qba 0)⟩,rfl⟩,rfl,by simp[bulkD]⟩
  .rw[hz] at h1;have each:∀ i,i<len->∃ ci d q,w.cells? base (a.add (i * z)) z=some ci/\DataW.trod enc P w base sp held n e ci=some (d,q)/\elems[i]? = some (d,q):=λi hi=>by
    have:=h1 i hi;rw[Qad om] at this;obtain⟨ci,e1,e2⟩:=Option.bind_eq_some_iff.1 this;exact⟨ci,elems[i].1,elems[i].2,e1,e2,Qad om⟩
   have all:∀ m,m<=len->∃ xs:List α,xs.length=m/\(xs.map sz).sum<=bulkDs ((elems.take m).map (·.1))/\∀ i (hi:i<xs.length),∃ ci,w.cells? base (a.add (i * z)) z=some ci/\VRs (frW w) (en xs[i]) ci/\(en xs[i]).all AV.cell=true:=by
    intro m;induction m with
    |zero=>exact λ_=>⟨[],rfl,by simp[bulkDs],λi hi=>by simp at hi⟩
    |succ m ih=>
     intro hm;obtain⟨xs,e1,e2,e3⟩:=ih om;obtain⟨ci,d,q,f1,f2,f3⟩:=each m om;obtain⟨x,g1,g2,g3⟩:=hr enc base sp held n ci d q om f2;have app:∀ (l r:List (DataW H)),bulkDs (l ++ r)=bulkDs l+bulkDs r:=λl r=>by
      induction l with
      |nil=>simp[bulkDs]
      |cons y l ih=>rw[Qai,bulkDs,bulkDs,ih,Qbj]
     refine⟨xs ++ [x],by simp[e1],?_,λi hi=>?_⟩
     .rw[QbX,f3];simp only[Option.toList,Qay,ζ,θ,List.sum_append,List.sum_cons,List.sum_nil,app,bulkDs];omega
     .by_cases hlt:i<xs.length
      .rw[Qcx hlt];exact e3 i hlt
      .have:i=m:=by simp at hi;omega
       subst this;rw[Qcy om];simp only[e1,Nat.sub_self,Qbv];exact⟨ci,f1,g1,g2⟩
   obtain⟨xs,e1,e2,e3⟩:=all len (η _);have hcell:(fl en xs).all AV.cell=true:=by
    rw[Qah];intro v hv;obtain⟨y,hy,hv⟩:=List.mem_flatMap.1 hv;obtain⟨i,hi,rfl⟩:=Qbm.1 hy;obtain⟨_,_,_,h5⟩:=e3 i hi;exact Qah.1 h5 v hv
   refine⟨xs,⟨_,_,rfl,?_,rfl⟩,rfl,?_⟩
   .refine⟨some a,cap,by rw[e1],om,hcell,λhpos=>?_⟩;obtain⟨c0,f0,_,_⟩:=e3 0 hpos;have f1:=(jdC f0).2 0 hz0;rw[QaV] at f1;have z0:(a.add 0).add 0=a:=rfl;rw[z0] at f1;obtain⟨hs,c,ty,fr,hB,_⟩:=jfp f1;obtain⟨B,o,s⟩:=a;dsimp only at hs hB;subst hs;have cell:∀ i (hi:i<xs.length) j,j<z->∃ v,c[o+(i * z+j)]? = some v/\VR (frW w) ((en xs[i]).getD j .bad) v:=λi hi j hj=>by
     obtain⟨ci,g0,g1,g2⟩:=e3 i hi;have g3:=(jdC g0).2 j hj;rw[jdX,jdX] at g3;obtain⟨_,c',ty',fr',hB',g4⟩:=jfp g3;dsimp only at hB' g4;rw[hB] at hB';cases hB';refine⟨_,by rw[<-Qbj];exact g4,?_⟩;exact g1.get j (by rw[hl];exact hj)
    have bound:o+xs.length * z<=c.size:=by
     have hl1:0<xs.length:=hpos;obtain⟨v,g,_⟩:=cell (xs.length - 1) om (z - 1) om;have:=(Qax.1 g).1;have e:(xs.length - 1) * z+(z - 1)+1=xs.length * z:=by
      have:(xs.length - 1+1) * z=(xs.length - 1) * z+z:=QaX _ _;rw[show xs.length - 1+1=xs.length by omega] at this;omega
     omega
    have hfl:=zZ hl xs;have hcs:c.toList.length=c.size:=Qan;refine⟨B,o,c.toList,rfl,jsD hB,by rw[hfl,hcs];exact bound,?_⟩;show VRs (frW w) _ _;refine VRs.of_get (by rw[hfl,Qas,Qav,hcs];omega) λi hi=>?_;rw[hfl] at hi;have hj:i % z<z:=Nat.mod_lt _ hz0;have hq:i / z<xs.length:=Nat.div_lt_of_lt_mul (by rw[Nat.mul_comm];exact hi);have hiz:i / z * z+i % z=i:=by rw[Nat.mul_comm];exact Nat.div_add_mod i z
    obtain⟨v,g1,g2⟩:=cell (i / z) hq (i % z) hj;rw[hiz] at g1;have g3:=v7 hl hq hj;rw[hiz] at g3;rw[g3];have g4:((c.toList.drop o).take (fl en xs).length).getD i undef=v:=by
     rw[hfl];simp only[Qaf,QbH,hi,if_true,QbR,QbM,g1,QaM]
    rw[g4];exact g2
   .cases hx;rw[bulkD];have:elems.take len=elems:=by rw[<-hel];exact Qak
    rw[this] at e2;show(xs.map sz).sum+1<=bulkDs (elems.map (·.1))+bulkDs (rest.map (·.1))+1;omega⟩
theorem Reads.mono {M:Nat}{α:Type}{z:Nat}{en:α->List AV}{sz:α->Nat}(R:Reads H P w N t z en sz)(h:M<=N):Reads H P w M t z en sz:=
 ⟨R.1,R.2.1,λenc base sp held fuel cs d ps hN=>R.2.2 enc base sp held fuel cs d ps om⟩
theorem qH {ι:Inj}{a b:List AV}{o z:Nat}(h1:VRs ι a ((cs.drop o).take z))(h2:VRs ι b (cs.drop (o+z))):VRs ι (a ++ b) (cs.drop o):=by
 have:=VRs.append h1 h2;rwa [<-Qbw,QbD] at this
theorem Zf {ι:Inj}{o:Nat}(h:cs.length=o):VRs ι [] (cs.drop o):=by
 rw[List.drop_eq_nil_of_le om];rfl
end
end Go.Sy
end
noncomputable section
set_option maxRecDepth 100000
namespace Go.Sy
open Go.Ev Go.RowKit Go.Proofs
variable {H:Type} {w:World}
theorem ce2:Tryz.prog.cellsOf 2=1:=Qa0
theorem ce3:Tryz.prog.cellsOf 3=1:=Qa0
theorem ce9:Tryz.prog.cellsOf 9=1:=Qa0
theorem jte:Tryz.prog.cellsOf 22=1:=Qa0
theorem jtd:Tryz.prog.cellsOf 23=1:=Qa0
theorem jtc:Tryz.prog.cellsOf 24=1:=Qa0
theorem jtb:Tryz.prog.cellsOf 26=3:=Qa0
theorem jhh:Tryz.prog.cellsOf 63=1:=Qa0
theorem jdE:Tryz.prog.cellsOf 65=6:=Qa0
theorem jta:Tryz.prog.cellsOf 147=7:=Qa0
theorem js9:Tryz.prog.cellsOf 141=1:=Qa0
theorem js8:Tryz.prog.cellsOf 143=4:=Qa0
theorem js7:Tryz.prog.cellsOf 149=1:=Qa0
theorem js6:Tryz.prog.cellsOf 151=4:=Qa0
theorem job:Tryz.prog.cellsOf 153=1:=Qa0
theorem joa:Tryz.prog.cellsOf 155=7:=Qa0
theorem jn9:Tryz.prog.cellsOf 203=9:=Qa0
theorem Hf (x:Ex):1<=szE x:=by rw[ZZ];omega
theorem JV:∀ xs:List Ex,(xs.map szE).sum=zj xs
 |[]=>rfl
 |x :: xs=>by rw[ζ,List.sum_cons,JV xs];rfl
def szA (a:AsT):Nat:=a.name.length+szE a.to+1
def szR (r:RuleT):Nat:=szE r.when+(r.acts.map szA).sum+1
def szP (p:ProcT):Nat:=p.name.length+(p.rules.map szR).sum+1
def szV (v:Lc):Nat:=v.length+1
def szN (e:EnumT):Nat:=e.name.length+(e.vals.map szV).sum+1
def szD (d:DeclT):Nat:=d.name.length+d.ty.length+zj d.begins+1
def szS (m:SrcT):Nat:=(m.enums.map szN).sum+(m.vars.map szD).sum+(m.procs.map szP).sum+1
theorem jbo:∀ N:Nat,Reads H δ w N 65 6 eE szE
 |0=>⟨jdE,Jp,λenc base sp held fuel cs d ps hN h=>by
  have:fuel=0:=om
  subst this;simp[DataW.trod] at h⟩
 |N+1=>⟨jdE,Jp,λenc base sp held fuel cs d ps hN h=>by
  obtain⟨xs,n,rfl,hx,hl,hlen,hf⟩:=DataW.trod_struct Tryz.underlying65 h;cases hx;rw[jdE] at hl
  match xs,hlen with
  |[y0,y1,y2,y3,y4,y5],_=>
   have h0:DataW.trod enc δ w base sp held n 3 ((cs.drop 0).take (Tryz.prog.cellsOf 3))=some y0:=hf 0 _ rfl;rw[ce3] at h0;obtain⟨x0,v0,c0,s0⟩:=(JC (N:=n) Tryz.underlying3 ce3).2.2 enc base sp held n _ y0.1 y0.2 om h0;have h1:DataW.trod enc δ w base sp held n 2 ((cs.drop 1).take (Tryz.prog.cellsOf 2))=some y1:=hf 1 _ rfl;rw[ce2] at h1;obtain⟨x1,v1,c1,s1⟩:=(JC (N:=n) Tryz.underlying2 ce2).2.2 enc base sp held n _ y1.1 y1.2 om h1;have h2:DataW.trod enc δ w base sp held n 9 ((cs.drop 2).take (Tryz.prog.cellsOf 9))=some y2:=hf 2 _ rfl;rw[ce9] at h2;obtain⟨x2,v2,c2,s2⟩:=(vN (N:=n) Tryz.underlying9 ce9).2.2 enc base sp held n _ y2.1 y2.2 om h2;have h3:DataW.trod enc δ w base sp held n 63 ((cs.drop 3).take (Tryz.prog.cellsOf 63))=some y3:=hf 3 _ rfl;rw[jhh] at h3;obtain⟨x3,v3,c3,s3⟩:=(Qv dc Tryz.underlying63 jhh ((jbo N).mono (M:=N) (η _)) Hf).2.2 enc base sp held n _ y3.1 y3.2 om h3;have h4:DataW.trod enc δ w base sp held n 3 ((cs.drop 4).take (Tryz.prog.cellsOf 3))=some y4:=hf 4 _ rfl;rw[ce3] at h4;obtain⟨x4,v4,c4,s4⟩:=(JC (N:=n) Tryz.underlying3 ce3).2.2 enc base sp held n _ y4.1 y4.2 om h4;have h5:DataW.trod enc δ w base sp held n 3 ((cs.drop 5).take (Tryz.prog.cellsOf 3))=some y5:=hf 5 _ rfl;rw[ce3] at h5;obtain⟨x5,v5,c5,s5⟩:=(JC (N:=n) Tryz.underlying3 ce3).2.2 enc base sp held n _ y5.1 y5.2 om h5;refine⟨.mk x0.1 x1.1 x2 x3 x4.1 x5.1,?_,?_,?_⟩
   .rw[qx];exact qH (z:=1) v0 (qH (z:=1) v1 (qH (z:=1) v2 (qH (z:=1) v3 (qH (z:=1) v4 (qH (z:=1) v5 (Zf (by rw[hl])))))))
   .rw[qx];first|rfl|(simp_all [QaN,AV.cell];done)|(simp[AV.cell];done)
   .simp only[ζ,θ,bulkD,bulkDs,ZZ,Ex.kids,Ex.name];skip
    first|omega|(simp only[JV] at *;omega)⟩
theorem jjp:∀ xs:Lb,fl (λs=>[AV.str s]) xs=xs.map AV.str
 |[]=>rfl
 |x :: xs=>by rw[Qd,jjp xs];rfl
theorem joG (N:Nat):Reads H δ w (N+1) 141 1 (λxs:Lb=>[.lst xs.length (xs.map AV.str)]) (λxs=>(xs.map szV).sum+1):=by
 have h:Reads H δ w (N+1) 141 1 (λxs:Lb=>[.lst xs.length (fl (λs=>[AV.str s]) xs)]) (λxs=>(xs.map szV).sum+1):=Qv dc Tryz.underlying141 js9 (vN (N:=N) Tryz.underlying9 ce9) (λx=>QaS _);simpa only[jjp] using h
theorem joJ (N:Nat):Reads H δ w N 143 4 enE szN:=
 ⟨js8,QE,λenc base sp held fuel cs d ps hN h=>by
  obtain⟨xs,n,rfl,hx,hl,hlen,hf⟩:=DataW.trod_struct Tryz.underlying143 h;cases hx;rw[js8] at hl
  match xs,hlen with
  |[y0,y1,y2,y3],_=>
   have h0:DataW.trod enc δ w base sp held n 9 ((cs.drop 0).take (Tryz.prog.cellsOf 9))=some y0:=hf 0 _ rfl;rw[ce9] at h0;obtain⟨x0,v0,c0,s0⟩:=(vN (N:=n) Tryz.underlying9 ce9).2.2 enc base sp held n _ y0.1 y0.2 om h0;have h1:DataW.trod enc δ w base sp held n 141 ((cs.drop 1).take (Tryz.prog.cellsOf 141))=some y1:=hf 1 _ rfl;rw[js9] at h1;obtain⟨x1,v1,c1,s1⟩:=(joG N).2.2 enc base sp held n _ y1.1 y1.2 om h1;have h2:DataW.trod enc δ w base sp held n 3 ((cs.drop 2).take (Tryz.prog.cellsOf 3))=some y2:=hf 2 _ rfl;rw[ce3] at h2;obtain⟨x2,v2,c2,s2⟩:=(JC (N:=n) Tryz.underlying3 ce3).2.2 enc base sp held n _ y2.1 y2.2 om h2;have h3:DataW.trod enc δ w base sp held n 3 ((cs.drop 3).take (Tryz.prog.cellsOf 3))=some y3:=hf 3 _ rfl;rw[ce3] at h3;obtain⟨x3,v3,c3,s3⟩:=(JC (N:=n) Tryz.underlying3 ce3).2.2 enc base sp held n _ y3.1 y3.2 om h3;refine⟨⟨x0,x1,x2.1,x3.1⟩,?_,?_,?_⟩
   .rw[Y5];exact qH (z:=1) v0 (qH (z:=1) v1 (qH (z:=1) v2 (qH (z:=1) v3 (Zf (by rw[hl])))))
   .rw[Y5];first|rfl|(simp_all [QaN,AV.cell];done)|(simp[AV.cell];done)
   .simp only[ζ,θ,bulkD,bulkDs,szN];skip
    first|omega|(simp only[JV] at *;omega)⟩
theorem joK (N:Nat):Reads H δ w N 147 7 qt szD:=
 ⟨jta,XQ,λenc base sp held fuel cs d ps hN h=>by
  obtain⟨xs,n,rfl,hx,hl,hlen,hf⟩:=DataW.trod_struct Tryz.underlying147 h;cases hx;rw[jta] at hl
  match xs,hlen with
  |[y0,y1,y2,y3,y4,y5,y6],_=>
   have h0:DataW.trod enc δ w base sp held n 9 ((cs.drop 0).take (Tryz.prog.cellsOf 9))=some y0:=hf 0 _ rfl;rw[ce9] at h0;obtain⟨x0,v0,c0,s0⟩:=(vN (N:=n) Tryz.underlying9 ce9).2.2 enc base sp held n _ y0.1 y0.2 om h0;have h1:DataW.trod enc δ w base sp held n 9 ((cs.drop 1).take (Tryz.prog.cellsOf 9))=some y1:=hf 1 _ rfl;rw[ce9] at h1;obtain⟨x1,v1,c1,s1⟩:=(vN (N:=n) Tryz.underlying9 ce9).2.2 enc base sp held n _ y1.1 y1.2 om h1;have h2:DataW.trod enc δ w base sp held n 2 ((cs.drop 2).take (Tryz.prog.cellsOf 2))=some y2:=hf 2 _ rfl;rw[ce2] at h2;obtain⟨x2,v2,c2,s2⟩:=(JC (N:=n) Tryz.underlying2 ce2).2.2 enc base sp held n _ y2.1 y2.2 om h2;have h3:DataW.trod enc δ w base sp held n 2 ((cs.drop 3).take (Tryz.prog.cellsOf 2))=some y3:=hf 3 _ rfl;rw[ce2] at h3;obtain⟨x3,v3,c3,s3⟩:=(JC (N:=n) Tryz.underlying2 ce2).2.2 enc base sp held n _ y3.1 y3.2 om h3;have h4:DataW.trod enc δ w base sp held n 63 ((cs.drop 4).take (Tryz.prog.cellsOf 63))=some y4:=hf 4 _ rfl;rw[jhh] at h4;obtain⟨x4,v4,c4,s4⟩:=(Qv dc Tryz.underlying63 jhh (jbo N) Hf).2.2 enc base sp held n _ y4.1 y4.2 om h4;have h5:DataW.trod enc δ w base sp held n 3 ((cs.drop 5).take (Tryz.prog.cellsOf 3))=some y5:=hf 5 _ rfl;rw[ce3] at h5;obtain⟨x5,v5,c5,s5⟩:=(JC (N:=n) Tryz.underlying3 ce3).2.2 enc base sp held n _ y5.1 y5.2 om h5;have h6:DataW.trod enc δ w base sp held n 3 ((cs.drop 6).take (Tryz.prog.cellsOf 3))=some y6:=hf 6 _ rfl;rw[ce3] at h6;obtain⟨x6,v6,c6,s6⟩:=(JC (N:=n) Tryz.underlying3 ce3).2.2 enc base sp held n _ y6.1 y6.2 om h6;refine⟨⟨x0,x1,x2.1,x3.1,x4,x5.1,x6.1⟩,?_,?_,?_⟩
   .rw[Qg];exact qH (z:=1) v0 (qH (z:=1) v1 (qH (z:=1) v2 (qH (z:=1) v3 (qH (z:=1) v4 (qH (z:=1) v5 (qH (z:=1) v6 (Zf (by rw[hl]))))))))
   .rw[Qg];first|rfl|(simp_all [QaN,AV.cell];done)|(simp[AV.cell];done)
   .simp only[ζ,θ,bulkD,bulkDs,szD];skip
    first|omega|(simp only[JV] at *;omega)⟩
theorem juO (N:Nat):Reads H δ w N 203 9 asE szA:=
 ⟨jn9,vb,λenc base sp held fuel cs d ps hN h=>by
  obtain⟨xs,n,rfl,hx,hl,hlen,hf⟩:=DataW.trod_struct Tryz.underlying203 h;cases hx;rw[jn9] at hl
  match xs,hlen with
  |[y0,y1,y2,y3],_=>
   have h0:DataW.trod enc δ w base sp held n 9 ((cs.drop 0).take (Tryz.prog.cellsOf 9))=some y0:=hf 0 _ rfl;rw[ce9] at h0;obtain⟨x0,v0,c0,s0⟩:=(vN (N:=n) Tryz.underlying9 ce9).2.2 enc base sp held n _ y0.1 y0.2 om h0;have h1:DataW.trod enc δ w base sp held n 65 ((cs.drop 1).take (Tryz.prog.cellsOf 65))=some y1:=hf 1 _ rfl;rw[jdE] at h1;obtain⟨x1,v1,c1,s1⟩:=((jbo N)).2.2 enc base sp held n _ y1.1 y1.2 om h1;have h2:DataW.trod enc δ w base sp held n 3 ((cs.drop 7).take (Tryz.prog.cellsOf 3))=some y2:=hf 2 _ rfl;rw[ce3] at h2;obtain⟨x2,v2,c2,s2⟩:=(JC (N:=n) Tryz.underlying3 ce3).2.2 enc base sp held n _ y2.1 y2.2 om h2;have h3:DataW.trod enc δ w base sp held n 3 ((cs.drop 8).take (Tryz.prog.cellsOf 3))=some y3:=hf 3 _ rfl;rw[ce3] at h3;obtain⟨x3,v3,c3,s3⟩:=(JC (N:=n) Tryz.underlying3 ce3).2.2 enc base sp held n _ y3.1 y3.2 om h3;refine⟨⟨x0,x1,x2.1,x3.1⟩,?_,?_,?_⟩
   .rw[asE];exact qH (z:=1) v0 (qH (z:=6) v1 (qH (z:=1) v2 (qH (z:=1) v3 (Zf (by rw[hl])))))
   .rw[asE];first|rfl|(simp_all [QaN,AV.cell];done)|(simp[AV.cell];done)
   .simp only[ζ,θ,bulkD,bulkDs,szA];skip
    first|omega|(simp only[JV] at *;omega)⟩
theorem joH (N:Nat):Reads H δ w N 155 7 ruE szR:=
 ⟨joa,uB,λenc base sp held fuel cs d ps hN h=>by
  obtain⟨xs,n,rfl,hx,hl,hlen,hf⟩:=DataW.trod_struct Tryz.underlying155 h;cases hx;rw[joa] at hl
  match xs,hlen with
  |[y0,y1],_=>
   have h0:DataW.trod enc δ w base sp held n 65 ((cs.drop 0).take (Tryz.prog.cellsOf 65))=some y0:=hf 0 _ rfl;rw[jdE] at h0;obtain⟨x0,v0,c0,s0⟩:=((jbo N)).2.2 enc base sp held n _ y0.1 y0.2 om h0;have h1:DataW.trod enc δ w base sp held n 153 ((cs.drop 6).take (Tryz.prog.cellsOf 153))=some y1:=hf 1 _ rfl;rw[job] at h1;obtain⟨x1,v1,c1,s1⟩:=(Qv dc Tryz.underlying153 job (juO N) (λx=>QaS _)).2.2 enc base sp held n _ y1.1 y1.2 om h1;refine⟨⟨x0,x1⟩,?_,?_,?_⟩
   .rw[ruE];exact qH (z:=6) v0 (qH (z:=1) v1 (Zf (by rw[hl])))
   .rw[ruE];first|rfl|(simp_all [QaN,AV.cell];done)|(simp[AV.cell];done)
   .simp only[ζ,θ,bulkD,bulkDs,szR];skip
    first|omega|(simp only[JV] at *;omega)⟩
theorem joI (N:Nat):Reads H δ w N 151 4 prE szP:=
 ⟨js6,W7,λenc base sp held fuel cs d ps hN h=>by
  obtain⟨xs,n,rfl,hx,hl,hlen,hf⟩:=DataW.trod_struct Tryz.underlying151 h;cases hx;rw[js6] at hl
  match xs,hlen with
  |[y0,y1,y2,y3],_=>
   have h0:DataW.trod enc δ w base sp held n 9 ((cs.drop 0).take (Tryz.prog.cellsOf 9))=some y0:=hf 0 _ rfl;rw[ce9] at h0;obtain⟨x0,v0,c0,s0⟩:=(vN (N:=n) Tryz.underlying9 ce9).2.2 enc base sp held n _ y0.1 y0.2 om h0;have h1:DataW.trod enc δ w base sp held n 149 ((cs.drop 1).take (Tryz.prog.cellsOf 149))=some y1:=hf 1 _ rfl;rw[js7] at h1;obtain⟨x1,v1,c1,s1⟩:=(Qv dc Tryz.underlying149 js7 (joH N) (λx=>QaS _)).2.2 enc base sp held n _ y1.1 y1.2 om h1;have h2:DataW.trod enc δ w base sp held n 3 ((cs.drop 2).take (Tryz.prog.cellsOf 3))=some y2:=hf 2 _ rfl;rw[ce3] at h2;obtain⟨x2,v2,c2,s2⟩:=(JC (N:=n) Tryz.underlying3 ce3).2.2 enc base sp held n _ y2.1 y2.2 om h2;have h3:DataW.trod enc δ w base sp held n 3 ((cs.drop 3).take (Tryz.prog.cellsOf 3))=some y3:=hf 3 _ rfl;rw[ce3] at h3;obtain⟨x3,v3,c3,s3⟩:=(JC (N:=n) Tryz.underlying3 ce3).2.2 enc base sp held n _ y3.1 y3.2 om h3;refine⟨⟨x0,x1,x2.1,x3.1⟩,?_,?_,?_⟩
   .rw[ZL];exact qH (z:=1) v0 (qH (z:=1) v1 (qH (z:=1) v2 (qH (z:=1) v3 (Zf (by rw[hl])))))
   .rw[ZL];first|rfl|(simp_all [QaN,AV.cell];done)|(simp[AV.cell];done)
   .simp only[ζ,θ,bulkD,bulkDs,szP];skip
    first|omega|(simp only[JV] at *;omega)⟩
theorem rd_src (N:Nat):Reads H δ w N 26 3 srE szS:=
 ⟨jtb,ut,λenc base sp held fuel cs d ps hN h=>by
  obtain⟨xs,n,rfl,hx,hl,hlen,hf⟩:=DataW.trod_struct Tryz.underlying26 h;cases hx;rw[jtb] at hl
  match xs,hlen with
  |[y0,y1,y2],_=>
   have h0:DataW.trod enc δ w base sp held n 22 ((cs.drop 0).take (Tryz.prog.cellsOf 22))=some y0:=hf 0 _ rfl;rw[jte] at h0;obtain⟨x0,v0,c0,s0⟩:=(Qv dc Tryz.underlying22 jte (joJ N) (λx=>QaS _)).2.2 enc base sp held n _ y0.1 y0.2 om h0;have h1:DataW.trod enc δ w base sp held n 23 ((cs.drop 1).take (Tryz.prog.cellsOf 23))=some y1:=hf 1 _ rfl;rw[jtd] at h1;obtain⟨x1,v1,c1,s1⟩:=(Qv dc Tryz.underlying23 jtd (joK N) (λx=>QaS _)).2.2 enc base sp held n _ y1.1 y1.2 om h1;have h2:DataW.trod enc δ w base sp held n 24 ((cs.drop 2).take (Tryz.prog.cellsOf 24))=some y2:=hf 2 _ rfl;rw[jtc] at h2;obtain⟨x2,v2,c2,s2⟩:=(Qv dc Tryz.underlying24 jtc (joI N) (λx=>QaS _)).2.2 enc base sp held n _ y2.1 y2.2 om h2;refine⟨⟨x0,x1,x2⟩,?_,?_,?_⟩
   .rw[ZH];exact qH (z:=1) v0 (qH (z:=1) v1 (qH (z:=1) v2 (Zf (by rw[hl]))))
   .rw[ZH];first|rfl|(simp_all [QaN,AV.cell];done)|(simp[AV.cell];done)
   .simp only[ζ,θ,bulkD,bulkDs,szS];skip
    first|omega|(simp only[JV] at *;omega)⟩
end Go.Sy
end
noncomputable section
set_option maxRecDepth 100000
namespace Go.Sy
open Go.Ev Go.Proofs
def z24:XC:=(ou [Ib 4 [.nils,.nils,.nils],T4 5,Ib 6 [oB,oB,oB]] (oX [Iz 13,OG 14 65 13,oy 12 14,O8 15 12,O9 16 12,Ib 7 [.nils,.nils,.nils],Ib 8 [oB,oB,oB],o9 3 7 15,o9 3 8 16] (Id [OZ 17 8,oF 18 17,Tt 19 18] 19 (OQ [IJ (IG 20 [.nils,.nils,.nils] []),IJ (IG 21 (Tf oB oB oJ oB oB) []),Tc 22 3 8 8 71 [],T6 3 4 20 [(0,71)],T6 6 5 21 [(1,71)],T6 3 6 22 []] .ret)) (oX [o7 24 3 7,OG 25 66 24,oy 23 25,O8 26 23,O9 27 23,Ib 9 [.nils,.nils,.nils],o9 3 9 26,o9 3 8 27] (Id [OZ 28 8,oF 29 28,Tt 30 29] 30 (OQ [IJ (IG 31 [.nils,.nils,.nils] []),IJ (IG 32 (Tf oB oB oJ oB oB) []),Tc 33 3 8 8 71 [],T6 3 4 31 [(0,71)],T6 6 5 32 [(1,71)],T6 3 6 33 []] .ret)) (oX [OU 35,OG 36 67 35,oy 34 36,O8 37 34,O9 38 34,T4 10,o9 6 10 37,o9 3 8 38] (Id [OZ 39 8,oF 40 39,Tt 41 40] 41 (OQ [IJ (IG 42 [.nils,.nils,.nils] []),IJ (IG 43 (Tf oB oB oJ oB oB) []),Tc 44 3 8 8 71 [],T6 3 4 42 [(0,71)],T6 6 5 43 [(1,71)],T6 3 6 44 []] .ret)) (oX [o7 46 3 9,TJ 47 10,OL 48 68 46 47,oy 45 48,O8 49 45,O9 50 45,T4 11,o9 6 11 49,o9 3 8 50] (Id [OZ 51 8,oF 52 51,Tt 53 52] 53 (OQ [IJ (IG 54 [.nils,.nils,.nils] []),IJ (IG 55 (Tf oB oB oJ oB oB) []),Tc 56 3 8 8 71 [],T6 3 4 54 [(0,71)],T6 6 5 55 [(1,71)],T6 3 6 56 []] .ret)) (OQ [Tc 57 3 9 9 32 [],Tc 58 6 11 11 65 [],Tc 59 3 8 8 71 [],T6 3 4 57 [(0,71),(1,65)],T6 6 5 58 [(1,71)],T6 3 6 59 []] .ret))))))
def y24:XF:=⟨[0,1],z24,[(.cA 4 3),(.cA 5 6),(.cA 6 3)]⟩
theorem x24:jx δ 36=some y24:=Qa0
def z25:XC:=(Te [IV 2 0,IV 3 1,T4 4,Ib 5 [oB,oB,oB]] [o6 (.defer (oQ 91 []) [5])] (oX [o7 7 3 2,IG 8 [.nils,.nils,.nils,.nilm,oW] [((0,3),7),((4,1),Oi)],ol 9 (.box 8),oz 6 9] (.dops [To 10 6,Tc 11 6 3 3 65 [],(IB (Ig 12 99 [10,11,IR 2,.c oJ]) 0 [],some [TM 12,Ij (o7 13 3 5) 5 71 [(0,0)],Ic (o6 (.i (.mv I7))) 0,Ic (o6 (.i (.mv I7))) 0]),Tc 13 3 5 5 71 [(0,0)],T6 6 4 12 [(0,71)],T6 3 5 13 []]) .ret))
def y25:XF:=⟨[0,1],z25,[(.cA 4 6),(.cA 5 3)]⟩
theorem x25:jx δ 68=some y25:=Qa0
def jfY:XC:=(OQ [To 65 4,IJ (Ix 66 65),IT 67 0 66,Tc 68 3 67 67 32 [],Tc 69 3 3 3 71 [],T6 3 2 68 [(0,71)],T6 3 3 69 []] .ret)
def jfZ:XC:=(.seq (TN [oD 38 2 1,Ot 39 38,IP 40 39,IO 41] 4 42 41 40 42 4 5 [Ih 43 4 39 41,o7 44 4 43,Ib 10 [oJ,.nils,oB,oB],o9 4 10 44] (ou [oy 45 4,OZ 46 10,oF 47 46,oD 48 2 10,oF 49 48,TB 50 10,oF 51 50,Ig 52 94 [45,47,49,51]] (TN [Tu 53 10,Ot 54 53,IP 55 54,IO 56] 6 57 56 55 57 6 7 [Ih 58 7 54 56,o7 59 7 58,Ib 12 [oB,oB,oJ,.nils,oB,oB,.nils],o9 7 12 59] (.ops (Tz 60 4 (o7 61 7 12) (OL 62 95 60 61))) 63 56 1 56 63)) 64 41 1 41 64) jfY)
def jf0:XC:=(.seq (TN [Tu 27 1,Ot 28 27,IP 29 28,IO 30] 2 31 30 29 31 2 3 [Ih 32 7 28 30,o7 33 7 32,Ib 8 [oJ,oJ,oB,oB,.nils,oB,oB],o9 7 8 33] (.ops (Tz 34 4 (o7 35 7 8) (OL 36 93 34 35))) 37 30 1 30 37) jfZ)
def jf1:XC:=(.seq (TN [OZ 16 1,Ot 17 16,IP 18 17,IO 19] 0 20 19 18 20 0 1 [Ih 21 4 17 19,o7 22 4 21,Ib 6 [oJ,.nils,oB,oB],o9 4 6 22] (.ops (Tz 23 4 (o7 24 4 6) (OL 25 92 23 24))) 26 19 1 19 26) jf0)
def z26:XC:=(ou [IV 1 0,Ib 2 [.nils,.nils,.nils],Ib 3 [oB,oB,oB]] (Te [o6 (.defer (oQ 91 []) [3])] [ol 13 .mkMap,IG 14 [.nils,.nils,.nils,.nilm,oW] [((3,1),13)],ol 15 (.box 14),TR 15] jf1))
def y26:XF:=⟨[0],z26,[(.cA 2 3),(.cA 3 3)]⟩
theorem x26:jx δ 66=some y26:=Qa0
def z33:XC:=(ou [IV 1 0,IO 2] (Ty [oK 3 (.int .u64 1)] [OZ 6 1,Ot 7 6,IP 8 7,IO 9] 0 10 9 8 10 0 1 [Ih 11 7 7 9,o7 12 7 11,Ib 5 [oJ,oB,oJ,oB,oB,oW,oB],o9 7 5 12] (.ops [oy 13 3,oD 14 4 5,oF 15 14,ol 16 (.cvt .u64 15),TB 17 5,oF 18 17,ol 19 (.cvt .u64 18),IW 20 .sub 16 19,ON 21 .add 20 (.int .u64 1),IW 22 .mul 13 21,oz 3 22]) 23 9 1 9 23 (Tz 24 3 (ol 25 (.cvt .i64 24)) (Tl 25))))
def y33:XF:=⟨[0],z33,[(.t 2)]⟩
theorem x33:jx δ 33=some y33:=Qa0
def z60:XC:=(ou [IV 5 1,T4 8] (IZ [Iz 12,TJ 13 5,OL 14 139 12 13,oy 11 14,O8 15 11,O9 16 11,T4 9,Ib 10 [oB,oJ,oB,oB],o9 6 9 15,o9 4 10 16] (Oo [OZ 17 10,oF 18 17,oy 19 2,IW 20 .neq 18 19,oy 21 20,OV 22 21 1 10,OS 23 21 22,Oh 24 21 3,Iu 25 21 (.strb .neq 23 24),On 26 21 Oi 25] 26 [oD 27 4 5,oF 28 27,oD 29 5 5,oF 30 29,Ig 31 130 [IR 163,28,30]]) [TJ 32 9,o9 6 8 32]))
def y60:XF:=⟨[0,1,2,3],z60,[(.cA 8 6)]⟩
theorem x60:jx δ 99=some y60:=Qa0
def z61:XC:=(ou [IV 3 1] (oX [Iz 6,OZ 7 3,oF 8 7,oD 9 2 3,oF 10 9,TB 11 3,oF 12 11,Ig 13 94 [6,8,10,12]] (TN [Tu 14 3,Ot 15 14,IP 16 15,IO 17] 0 18 17 16 18 0 1 [TK 19 15 17,oF 20 19,oz 5 20] (.ops [Iz 21,oy 22 5,oD 23 2 3,oF 24 23,TB 25 3,oF 26 25,Ig 27 94 [21,22,24,26]]) 28 17 1 17 28) (.dops [TO 29,TO 30,IJ (Ix 31 30),IT 32 0 31,IT 33 1 32,Tj 34 33 33 22,IT 35 0 3,Tj 36 35 35 9,IT 37 1 3,Tj 38 37 37 141,(Ts 39 127 38 0 [(2,9),(4,22)],some [TM 39,Ic (oD 40 2 3) 0,Ij (oF 41 40) 40 3 [(1,0)],Ic (TB 42 3) 0,Ij (oF 43 42) 42 3 [(3,0)],TM 44,TM 45,TM 46,TM 47,TM 48,TM 49,Ic (o6 (.i (.mv I7))) 0]),IT 40 2 3,Oj 41 40 40 3 [(1,0)],IT 42 3 3,Oj 43 42 42 3 [(3,0)],IJ (IG 44 [oJ,.nils,oB,oB] [((0,1),36),((1,1),39),((2,1),41),((3,1),43)]),IJ (Ip 45 1 4 [oJ,.nils,oB,oB] [((0,4),44)]),Ol (OT 46 4 56 34 45) 0 [],IJ (Ix 47 29),IT 48 0 47,IT 49 1 48,T6 1 49 46 []])))
def y61:XF:=⟨[0,1],z61,[]⟩
theorem x61:jx δ 92=some y61:=Qa0
def jfW:XC:=(.seq (.cops [Tp 139,Tp 140,La 141 140,Iw (OZ 142 141),Iw (OZ 143 142),O5 144 143,Iw (o7 145 7 4),Iw (Ip 146 1 7 [oJ,oB,oJ,oB,oB,oW,oB] [((0,7),145)]),Iw (OT 147 7 72 144 146),La 148 139,Iw (OZ 149 148),Iw (OZ 150 149),Iw (TV 150 147)]) (Oo [Iz 151,Ix 152 151,OZ 153 152,o7 154 3 153,OG 155 33 154,Th 156 .gtr 155 281474976710656] 156 [oD 157 5 3,oF 158 157,oD 159 6 3,oF 160 159,Ig 161 130 [IR 165,158,160]]))
def jbZ:XC:=(.seq (TN [oD 92 4 3,Ot 93 92,IP 94 93,IO 95] 1 96 95 94 96 1 2 [Ih 97 6 93 95,TJ 98 97,T4 7,o9 6 7 98] (oX [Iz 99,TJ 100 7,Tu 101 4,oF 102 101,oD 103 2 4,oF 104 103,Ig 105 99 [99,100,102,104],T4 8,o9 6 8 105] (ou [TJ 107 8,OG 108 131 107,oy 106 108,O8 109 106,O9 110 106,T4 9,o9 6 9 109,oz 10 110] (Oo [oz 111 10] 111 [oD 112 4 9,oF 113 112,oD 114 5 9,oF 115 114,Ig 116 130 [IR 161,113,115]])) (ou [TJ 117 8,OG 118 132 117,oD 119 5 4,TV 119 Oi,oD 120 6 4,TV 120 118] (Oo [oD 121 6 4,oF 122 121,TB 123 4,oF 124 123,IW 125 .lss 122 124,oy 126 125,OV 127 126 6 4,OS 128 126 127,OV 129 126 4 4,OS 130 126 129,Iu 131 126 (.bin .gtr 128 130),On 132 126 Oi 131] 132 [oD 133 4 7,oF 134 133,oD 135 5 7,oF 136 135,Ig 137 130 [IR 164,134,136]]))) 138 95 1 95 138) jfW)
def z62:XC:=(ou [IV 3 1] (Te [Iz 11,OZ 12 3,oF 13 12,oD 14 5 3,oF 15 14,oD 16 6 3,oF 17 16,Ig 18 94 [11,13,15,17]] [OZ 19 3,oF 20 19,oD 21 2 3,oF 22 21,TB 23 3,oF 24 23,IG 25 [oJ,oB,oJ,oB,oB,oW,oB] [((0,1),20),((1,1),Tb),((3,1),22),((4,1),24)],Ib 4 [oJ,oB,oJ,oB,oB,oW,oB],o9 7 4 25] (oX [Iz 26,Ix 27 26,OZ 28 27,Tu 29 28,oF 30 29,ol 31 (.fn 129 [3]),OL 32 128 30 31,oz 5 32] (.block 0 (oM [Tu 34 3,oF 35 34,TQ 36 35 [98,111,111,108],oz 33 36] 33 (.ops [Tu 37 4,TV 37 (IR 2),TB 38 4,TV 38 OM,oD 39 4 4,TV 39 Tb]) (oM (TA 41 5 (ON 42 .geq 41 oB) 40 42) 40 (.dops [IT 43 1 3,Tj 44 43 43 9,TO 45,IJ (Ix 46 45),IT 47 0 46,IT 48 1 47,Tj 49 48 48 22,To 50 5,IJ (Ih 51 4 49 50),IT 52 1 51,Tj 53 52 52 141,IJ (IU 54 53),IJ (Ii 55 .sub 54 1),IT 56 1 4,T6 1 56 (IR 3) [(3,141),(7,22),(12,9)],IT 57 2 4,T6 1 57 44 [(5,141),(9,22)],IT 58 3 4,T6 1 58 OM [(7,141),(11,22)],IT 59 4 4,T6 1 59 55 []]) (oM [Tu 61 3,oF 62 61,IE 63 .neq 62 (.c oJ),oz 60 63] 60 (.ops [oD 64 5 3,oF 65 64,oD 66 6 3,oF 67 66,Ig 68 130 [IR 161,65,67]]) (oM [oD 70 2 3,oF 71 70,TB 72 3,oF 73 72,IW 74 .gtr 71 73,oz 69 74] 69 (.ops [oD 75 5 3,oF 76 75,oD 77 6 3,oF 78 77,Ig 79 130 [IR 164,76,78]]) (Oo [TB 81 3,oF 82 81,oD 83 2 3,oF 84 83,IW 85 .sub 82 84,Ii 86 .geq 85 1024,oz 80 86] 80 [oD 87 5 3,oF 88 87,oD 89 6 3,oF 90 89,Ig 91 130 [IR 165,88,90]])))))) jbZ)))
def y62:XF:=⟨[0,1],z62,[]⟩
theorem x62:jx δ 93=some y62:=Qa0
def z63:XC:=(.seq (Oo [Iz 8,Ix 9 8,TB 10 9,oF 11 10,OU 12,ol 13 (.look 185 11 12 false),Ti 14 .gtr 13] 14 (Tz 15 2 (oy 16 3) (Ig 17 130 [IR 162,15,16]))) (.ops [Iz 18,Ix 19 18,TB 20 19,oF 21 20,OU 22,ol 23 (.look 185 21 22 false),IQ 24 23 1,o6 (.i (.upd 185 21 22 24))]))
def y63:XF:=⟨[0,1,2,3],z63,[]⟩
theorem x63:jx δ 94=some y63:=Qa0
def jfU:XC:=(.cops [Tp 73,Tp 74,La 75 74,Iw (OZ 76 75),Iw (oD 77 2 76),O5 78 77,Iw (o7 79 7 4),Iw (Ip 80 1 7 [oB,oB,oJ,.nils,oB,oB,.nils] [((0,7),79)]),Iw (OT 81 7 96 78 80),La 82 73,Iw (OZ 83 82),Iw (oD 84 2 83),Iw (TV 84 81)])
def jfV:XC:=(.seq (TN [oD 13 6 3,Ot 14 13,IP 15 14,IO 16] 0 17 16 15 17 0 1 [oy 18 16,Ih 19 9 14 16,o7 20 9 19,Ib 6 [oJ,oB,oB,oJ,.nils,oB,oB,oB,oB],oz 5 18,o9 9 6 20] (oX [Iz 21,OZ 22 6,oF 23 22,OL 24 133 21 23,oz 7 24] (Oo (T5 25 7 (Ti 26 .lss 25)) 26 [oD 27 7 6,oF 28 27,oD 29 8 6,oF 30 29,Ig 31 130 [IR 161,28,30]]) (.seq (Oo [oD 32 6 3,oF 33 32,oy 34 5,ol 35 (.slS 9 33 none (some 34)),ol 36 (.fn 135 [6]),oE 37 true none (oQ 134 []) [35,36]] 37 [oD 38 7 6,oF 39 38,oD 40 8 6,oF 41 40,Ig 42 130 [IR 162,39,41]]) (.dops [IT 43 6 4,Tj 44 43 43 123,To 45 7,TO 46,IT 47 1 6,Tc 48 6 47 47 65 [],TO 49,IJ (Ix 50 49),IT 51 0 50,IT 52 0 51,Tj 53 52 52 29,To 54 7,IJ (Ih 55 7 53 54),IT 56 1 55,Tj 57 56 56 3,TO 58,IJ (Ix 59 58),IT 60 0 59,IT 61 0 60,Tj 62 61 61 29,To 63 7,IJ (Ih 64 7 62 63),IT 65 2 64,Tj 66 65 65 9,(IB (Ig 67 99 [46,48,57,66]) 0 [(22,123)],I6),IJ (IG 68 [oB,oB,oB,oJ,.nils,oB,oB] [((0,1),45),((1,6),67)]),IJ (Ip 69 1 7 [oB,oB,oB,oJ,.nils,oB,oB] [((0,7),68)]),Ol (OT 70 7 80 44 69) 0 [],IT 71 6 4,T6 1 71 70 []]))) 72 16 1 16 72) jfU)
def z64:XC:=(Te [IV 3 1] [Iz 8,OZ 9 3,TJ 10 9,Ig 11 99 [8,10,IR 2,.c oJ],IG 12 [oB,oB,oJ,.nils,oB,oB,.nils] [((0,6),11)],Ib 4 [oB,oB,oJ,.nils,oB,oB,.nils],o9 7 4 12] jfV)
def y64:XF:=⟨[0,1],z64,[]⟩
theorem x64:jx δ 95=some y64:=Qa0
def jfP:XC:=(.seq (Oo [oz 151 15] 151 [oD 152 4 3,oF 153 152,oD 154 5 3,oF 155 154,Ig 156 130 [IR 163,153,155]]) (.seq (ID (T5 157 14 (Th 158 .neq 157 1)) 158 [TJ 159 6,oy 160 14,IG 161 [oB,oJ,oB,oB] [((0,1),160),((3,1),Tb)],o9 6 4 159,o9 4 5 161]) (IZ [OZ 163 3,oF 164 163,oy 165 7,OL 166 177 164 165,oy 162 166,O8 167 162,O9 168 162,oz 18 167,oz 19 168] (Oo [oy 169 18,Ii 170 .lss 169 (-(99999999+1)),oy 171 170,Oh 172 171 19,Tr 173 171 .gtr 172 100000000,On 174 171 Oi 173] 174 [oD 175 4 3,oF 176 175,oD 177 5 3,oF 178 177,Ig 179 130 [IR 165,176,178]]) [TJ 180 6,oy 181 14,oy 182 18,oy 183 19,IG 184 [oB,oJ,oB,oB] [((0,1),181),((2,1),182),((3,1),183)],o9 6 4 180,o9 4 5 184])))
def jbX:XC:=(.seq (TN [oz 115 7,IP 116 115,IO 117] 3 118 117 116 118 3 4 [Ih 119 4 115 117,o7 120 4 119,Ib 17 [oB,oJ,oB,oB],o9 4 17 120] (.cops [OE 121 15,OE 122 121,Iw (Oh 123 122 13),Iw (Iu 124 122 (oH .gtr 123 oB)),Iw (Oh 125 122 124),Iw (Tv 126 125 0 17),Iw (Td 127 125 126),Iw (Os 128 125 13),Iw (Iv 129 125 (.bin .neq 127 128)),Iw (Iu 130 122 (.pick 125 129 OI)),Iw (T7 131 122 130),OE 132 131,Iw (OV 133 132 0 17),Iw (OS 134 132 133),Iw (Oh 135 132 7),Iw (Iu 136 132 (.idxS 4 135 OM)),Iw (OV 137 132 0 136),Iw (OS 138 132 137),Iw (Iu 139 132 (.bin .neq 134 138)),Iw (T7 140 132 139),OE 141 140,Iw (OV 142 141 1 17),Iw (OS 143 141 142),Iw (Oh 144 141 7),Iw (Iu 145 141 (.idxS 4 144 OM)),Iw (OV 146 141 1 145),Iw (OS 147 141 146),Iw (Iu 148 141 (.strb .neq 143 147)),Iw (T7 149 141 148),Iw (oz 15 149)]) 150 117 1 117 150) jfP)
def jfQ:XC:=(ou [Iz 85,oy 86 8,Ix 87 85,oD 88 4 87,TV 88 86] (Te [OZ 90 3,oF 91 90,OG 92 175 91,oy 89 92,O8 93 89,O9 94 89,oz 13 93,oz 14 94] [oy 95 7,IU 96 95,ON 97 .eql 96 oB,oy 98 97,Oh 99 98 7,TT 100 98 99,Tr 101 98 .gtr 100 2,T7 102 98 101,oy 103 102,OV 104 103 0 3,OS 105 103 104,O7 106 (103,false) 176 [] [105],Oh 107 103 106,Os 108 107 0,Iv 109 107 (.nilc 108),Tv 110 107 4 109,Td 111 107 110,Iv 112 107 (I8 111),Iu 113 103 (.pick 107 112 OI),T7 114 103 113,oz 15 114] jbX))
def jbY:XC:=(.seq (TN [TB 61 3,Ot 62 61,IP 63 62,IO 64] 1 65 64 63 65 1 2 [Ih 66 6 62 64,TJ 67 66,T4 10,o9 6 10 67] (Te [Iz 69,TJ 70 10,OL 71 139 69 70,oy 68 71,O8 72 68,O9 73 68,T4 11,Ib 12 [oB,oJ,oB,oB],o9 6 11 72,o9 4 12 73] [TB 74 6,oF 75 74,TJ 76 11,Ip 77 1 6 (Tf oB oB oJ oB oB) [((0,6),76)],OT 78 6 72 75 77,TB 79 6,TV 79 78] (.ops [oy 80 7,o7 81 4 12,Ip 82 1 4 [oB,oJ,oB,oB] [((0,4),81)],OT 83 4 40 80 82,oz 7 83])) 84 64 1 64 84) jfQ)
def jfR:XC:=(ou [TJ 41 3,T4 6,o9 6 6 41] (Te [TB 42 6,TV 42 (.c .nils)] [Oz 7] (Te [Iz 43,Ix 44 43,oD 45 4 44,oF 46 45,oz 8 46] [Iz 47,oy 48 8,oy 49 48,Tv 50 49 0 3,Td 51 49 50,Iv 52 49 (o8 .neq 51 17),II 53 49 52 OI,oy 54 53,Tv 55 54 0 3,Td 56 54 55,Iv 57 54 (o8 .neq 56 18),II 58 54 57 OI,Ix 59 47,oD 60 4 59,TV 60 58] jbY)))
def wh:XC:=(.seq (ou [OZ 20 3,Ot 21 20] (.block 0 (TS 23 21 1 22 23 22 (OQ [Tc 24 6 3 3 65 [],IT 25 1 3,Tj 26 25 25 2,IT 27 1 3,Tj 28 27 27 2,IJ (IG 29 [oB,oJ,oB,oB] [((0,1),Tb),((2,1),26),((3,1),28)]),T6 6 4 24 [(1,2),(3,2)],T6 4 5 29 []] .ret) (T9 31 21 2 30 31 30 [TJ 32 3,IG 33 [oB,oJ,oB,oB] [((0,1),IR 2),((3,1),Tb)],o9 6 4 32,o9 4 5 33] (ID (I4 (OP 35 21 3) 34 35) 34 [Iz 36,TJ 37 3,OL 38 174 36 37,O8 39 38,O9 40 38,o9 6 4 39,o9 4 5 40]))))) jfR)
def z97:XC:=(ou [IV 3 1,T4 4,Ib 5 [oB,oJ,oB,oB]] wh)
def y97:XF:=⟨[0,1],z97,[(.cA 4 6),(.cA 5 4)]⟩
theorem x97:jx δ 139=some y97:=Qa0
def z98:XC:=(.ops [Iz 6,OU 7,oy 8 2,IG 9 [oB,oB,oB] [((0,1),6),((1,1),7),((2,1),8)],ol 10 (.iface 71 9),o6 (.pan 10)])
def y98:XF:=⟨[0,1,2],z98,[]⟩
theorem x98:jx δ 130=some y98:=Qa0
def z99:XC:=(IZ [Oz 2] (ID [Iz 3,ow 4 (.gen .eql 141 true 3 (.c .nils))] 4 [Oz 2]) [TG 5 0 oJ [],Iz 6,OT 7 1 16 5 6,Tl 7])
def y99:XF:=⟨[0],z99,[(.t 2)]⟩
theorem x99:jx δ 127=some y99:=Qa0
def jlu:XC:=(Ty [IO 4] [Iz 6,IP 7 6,IO 8] 0 9 8 7 9 0 1 (OW 10 8 5 10) (ID [OU 11,Iz 12,oy 13 5,Ih 14 4 12 13,o7 15 4 14,oE 16 true none 11 [15]] 16 (OW 17 5 4 17)) 18 8 1 8 18 [Oq 4 (-(0+1))])
def jq8:XF:=⟨[0,1],jlu,[(.t 4)]⟩
theorem jwH:jx δ 128=some jq8:=Qa0
def jlt:XC:=(OK [IV 2 0,OA 3] [OZ 4 2,oF 5 4,Tu 6 1,oF 7 6,Tn 8 5 7,oz 3 8])
def jq7:XF:=⟨[0,1],jlt,[(.t 3)]⟩
theorem jwG:jx δ 129=some jq7:=Qa0
def jls:XC:=(Oy [IV 1 0,T4 2,OA 3] [OZ 8 1,oF 9 8,Th 10 .eql 9 4] 10 [TJ 11 1,o9 6 2 11,oK 3 Io] (Tq (TN [TB 12 1,Ot 13 12,IP 14 13,IO 15] 0 16 15 14 16 0 1 [Ih 17 6 13 15,TJ 18 17,T4 5,o9 6 5 18] (ou [TJ 20 5,OG 21 131 20,oy 19 21,O8 22 19,O9 23 19,T4 6,o9 6 6 22,oz 7 23] (ID [oz 24 7] 24 [TJ 25 6,o9 6 2 25,oK 3 Io])) 26 15 1 15 26) [TJ 27 1,o9 6 2 27,OA 3]))
def jq6:XF:=⟨[0],jls,[(.cA 2 6),(.t 3)]⟩
theorem jwF:jx δ 131=some jq6:=Qa0
def jlr:XC:=(ou [IV 1 0,IO 2] (oX [Ib 3 [oB,oB]] (TN [TB 7 1,Ot 8 7,IP 9 8,IO 10] 0 11 10 9 11 0 1 [oy 12 10,Ih 13 6 8 10,TJ 14 13,T4 5,TR 12,o9 6 5 14] (.ops [oy 15 4,TJ 16 5,OG 17 132 16,OO 18 2 1 3 15,TV 18 17]) 19 10 1 10 19) (IZ [oK 6 (.fn 167 [])] (ou [OZ 20 1,Ot 21 20] (.block 2 (TS 23 21 4 22 23 22 (.ops [oD 24 4 1,oF 25 24,oD 26 5 1,oF 27 26,Ig 28 130 [IR 161,25,27]]) (T9 30 21 5 29 30 29 [OO 31 2 1 3 OM,oF 32 31,ol 33 (.un .neg 32),Tl 33] (T9 35 21 6 34 35 34 [OO 36 2 1 3 OM,oF 37 36,IW 38 .sub Tb 37,Tl 38] (T9 40 21 14 39 40 39 [OO 41 2 1 3 OM,oF 42 41,OO 43 2 1 3 Tb,oF 44 43,IW 45 .mul 42 44,Tl 45] (T9 47 21 15 46 47 46 [OO 48 2 1 3 OM,oF 49 48,OO 50 2 1 3 Tb,oF 51 50,IW 52 .add 49 51,Tl 52] (T9 54 21 16 53 54 53 [OO 55 2 1 3 OM,oF 56 55,OO 57 2 1 3 Tb,oF 58 57,IW 59 .sub 56 58,Tl 59] (.seq (Ta (OP 61 21 17) 60 61 60 (.ops (I4 (OP 62 21 30) 60 62))) (TC 60 [oy 63 6,OO 64 2 1 3 OM,oF 65 64,OO 66 2 1 3 Tb,oF 67 66,IW 68 .eql 65 67,oS 69 none 63 [68],Tl 69] (T9 71 21 18 70 71 70 [oy 72 6,OO 73 2 1 3 OM,oF 74 73,OO 75 2 1 3 Tb,oF 76 75,IW 77 .neq 74 76,oS 78 none 72 [77],Tl 78] (T9 80 21 19 79 80 79 [oy 81 6,OO 82 2 1 3 OM,oF 83 82,OO 84 2 1 3 Tb,oF 85 84,IW 86 .lss 83 85,oS 87 none 81 [86],Tl 87] (.seq (Ta (OP 89 21 20) 88 89 88 (.ops (I4 (OP 90 21 29) 88 90))) (TC 88 [oy 91 6,OO 92 2 1 3 OM,oF 93 92,OO 94 2 1 3 Tb,oF 95 94,IW 96 .leq 93 95,oS 97 none 91 [96],Tl 97] (T9 99 21 21 98 99 98 [oy 100 6,OO 101 2 1 3 OM,oF 102 101,OO 103 2 1 3 Tb,oF 104 103,IW 105 .gtr 102 104,oS 106 none 100 [105],Tl 106] (T9 108 21 22 107 108 107 [oy 109 6,OO 110 2 1 3 OM,oF 111 110,OO 112 2 1 3 Tb,oF 113 112,IW 114 .geq 111 113,oS 115 none 109 [114],Tl 115] (T9 117 21 27 116 117 116 [OO 118 2 1 3 OM,oF 119 118,OO 120 2 1 3 Tb,oF 121 120,IW 122 .mul 119 121,Tl 122] (ID (I4 (OP 124 21 28) 123 124) 123 [OO 125 2 1 3 OM,oF 126 125,OO 127 2 1 3 Tb,oF 128 127,ol 129 (.bi .max #[2,2] [126,128]),Tl 129])))))))))))))))))) [Tu 130 1,oF 131 130,Tl 131])))
def jq5:XF:=⟨[0],jlr,[(.t 2)]⟩
theorem jwE:jx δ 132=some jq5:=Qa0
def jlq:XC:=(OK [IV 3 1,IO 4] [Iz 5,Ix 6 5,OZ 7 6,OZ 8 7,oF 9 8,ol 10 (.fn 169 [3]),OL 11 168 9 10,TR 11])
def jq4:XF:=⟨[0,1],jlq,[(.t 4)]⟩
theorem jwD:jx δ 133=some jq4:=Qa0
def jlp:XC:=(OK [Tw] [Iz 5,OU 6,OL 7 170 5 6,ON 8 .geq 7 oB,TR 8])
def jq3:XF:=⟨[0,1],jlp,[(.t 4)]⟩
theorem jwC:jx δ 134=some jq3:=Qa0
def jlo:XC:=(OK [IV 2 0,OA 3] [OZ 4 2,oF 5 4,OZ 6 1,oF 7 6,Tn 8 5 7,oz 3 8])
def jq2:XF:=⟨[0,1],jlo,[(.t 3)]⟩
theorem jwB:jx δ 135=some jq2:=Qa0
def Kh:XC:=(oX [IV 3 1,T4 4,Ib 5 [oB,oJ,oB,oB]] (ou [Iz 10,oD 11 2 3,oF 12 11,OL 13 133 10 12,oz 6 13] (Id (T5 14 6 (Ti 15 .geq 14)) 15 (oX [Iz 16,Ix 17 16,OZ 18 17,OZ 19 18,oF 20 19,oy 21 6,Ih 22 7 20 21,o7 23 7 22,Ib 7 [oJ,oB,oJ,oB,oB,oW,oB],o9 7 7 23] (.dops [To 24 6,IT 25 4 3,Tj 26 25 25 3,IT 27 5 3,Tj 28 27 27 3,IJ (IG 29 (Tf oB oB oJ oB oB) [((0,1),IR 4),((1,1),24),((4,1),26),((5,1),28)]),IT 30 1 7,Tj 31 30 30 3,IT 32 2 7,Tj 33 32 32 9,IT 34 3 7,Tj 35 34 34 2,IT 36 4 7,Tj 37 36 36 2,IJ (IG 38 [oB,oJ,oB,oB] [((0,1),31),((1,1),33),((2,1),35),((3,1),37)]),T6 6 4 29 [(1,2),(3,2),(5,9),(7,3)],T6 4 5 38 []]) .ret))) (IZ [Iz 40,oD 41 2 3,oF 42 41,OL 43 193 40 42,oy 39 43,O8 44 39,O9 45 39,oz 8 44,oz 9 45] (Oo (T5 46 9 (Ti 47 .lss 46)) 47 [oD 48 4 3,oF 49 48,oD 50 5 3,oF 51 50,Ig 52 130 [IR 161,49,51]]) [oy 53 9,oD 54 4 3,oF 55 54,oD 56 5 3,oF 57 56,IG 58 (Tf oB oB oJ oB oB) [((0,1),Tb),((1,1),53),((4,1),55),((5,1),57)],oy 59 8,oy 60 9,oy 61 9,IG 62 [oB,oJ,oB,oB] [((0,1),IR 3),((1,1),59),((2,1),60),((3,1),61)],o9 6 4 58,o9 4 5 62]))
def jf3:XF:=⟨[0,1],Kh,[(.cA 4 6),(.cA 5 4)]⟩
theorem jlC:jx δ 174=some jf3:=Qa0
def jk9:XC:=(IZ [IO 2,IO 3] (ou [TR 0] (.block 0 (.seq (Ta (OP 6 4 5) 5 6 5 (Ta (OP 7 4 14) 5 7 5 (Ta (OP 8 4 15) 5 8 5 (.ops (I4 (OP 9 4 16) 5 9))))) (TC 5 [Oq 2 1,Oq 3 1] (.seq (Ta (OP 11 4 19) 10 11 10 (Ta (OP 12 4 20) 10 12 10 (Ta (OP 13 4 21) 10 13 10 (.ops (I4 (OP 14 4 22) 10 14))))) (TC 10 [Oq 2 1,Oq 3 2] (.seq (Ta (OP 16 4 17) 15 16 15 (.ops (I4 (OP 17 4 18) 15 17))) (TC 15 [IO 2,Oq 3 2] .skip)))))))) [Oq 2 2,Oq 3 2])
def jqN:XF:=⟨[0],jk9,[(.t 2),(.t 3)]⟩
theorem jwm:jx δ 175=some jqN:=Qa0
def jk8:XC:=(OK [TU] [Iz 3,Ii 4 .geq 3 7,oy 5 4,Os 6 5 0,Iv 7 5 (o8 .leq 6 13),II 8 5 7 OI,oy 9 8,Oh 10 9 0,Tr 11 9 .geq 10 23,Oh 12 9 11,Os 13 12 0,Iv 14 12 (o8 .leq 13 26),Iu 15 9 (.pick 12 14 OI),T7 16 9 15,Tl 16])
def jqM:XF:=⟨[0],jk8,[(.t 2)]⟩
theorem jwl:jx δ 176=some jqM:=Qa0
def jk7:XC:=(Te [IO 4,IO 5] [OU 8,Ih 9 4 8 OM,o7 10 4 9,Ib 6 [oB,oJ,oB,oB],o9 4 6 10] (IZ [OU 11,OU 12,IU 13 12,Ii 14 .sub 13 1,Ih 15 4 11 14,o7 16 4 15,Ib 7 [oB,oJ,oB,oB],o9 4 7 16] (ou [oz 17 0] (.block 0 (T9 19 17 5 18 19 18 [oD 20 2 6,oF 21 20,ol 22 (.un .neg 21),TB 23 6,oF 24 23,ol 25 (.un .neg 24),TG 26 2 oB [((0,1),22),((1,1),25)],OG 27 194 26,O8 28 27,O9 29 27,TR 28,oz 5 29] (T9 31 17 15 30 31 30 [oD 32 2 6,oF 33 32,oD 34 2 7,oF 35 34,IW 36 .add 33 35,TB 37 6,oF 38 37,TB 39 7,oF 40 39,IW 41 .add 38 40,TG 42 2 oB [((0,1),36),((1,1),41)],OG 43 194 42,O8 44 43,O9 45 43,TR 44,oz 5 45] (ID (I4 (OP 47 17 16) 46 47) 46 [oD 48 2 6,oF 49 48,TB 50 7,oF 51 50,IW 52 .sub 49 51,TB 53 6,oF 54 53,oD 55 2 7,oF 56 55,IW 57 .sub 54 56,TG 58 2 oB [((0,1),52),((1,1),57)],OG 59 194 58,O8 60 59,O9 61 59,TR 60,oz 5 61]))))) [oD 62 2 6,oF 63 62,oD 64 2 7,oF 65 64,IW 66 .mul 63 65,oD 67 2 6,oF 68 67,TB 69 7,oF 70 69,IW 71 .mul 68 70,TB 72 6,oF 73 72,oD 74 2 7,oF 75 74,IW 76 .mul 73 75,TB 77 6,oF 78 77,TB 79 7,oF 80 79,IW 81 .mul 78 80,TG 82 4 oB [((0,1),66),((1,1),71),((2,1),76),((3,1),81)],OG 83 194 82,O8 84 83,O9 85 83,TR 84,oz 5 85]))
def jqL:XF:=⟨[0,1],jk7,[(.t 4),(.t 5)]⟩
theorem jwk:jx δ 177=some jqL:=Qa0
def jk6:XC:=(IZ [IO 2] (ID [oz 3 0] 3 [Oq 2 1]) [IO 2])
def jqK:XF:=⟨[0],jk6,[(.t 2)]⟩
theorem jwj:jx δ 167=some jqK:=Qa0
def jk5:XC:=(Ty [IO 4] [Iz 6,IP 7 6,IO 8] 0 9 8 7 9 0 1 (OW 10 8 5 10) (ID [OU 11,Iz 12,oy 13 5,Ih 14 7 12 13,o7 15 7 14,oE 16 true none 11 [15]] 16 (OW 17 5 4 17)) 18 8 1 8 18 [Oq 4 (-(0+1))])
def jqJ:XF:=⟨[0,1],jk5,[(.t 4)]⟩
theorem jwi:jx δ 168=some jqJ:=Qa0
def jk4:XC:=(OK [IV 2 0,OA 3] [OZ 4 2,oF 5 4,oF 6 1,Tn 7 5 6,oz 3 7])
def jqI:XF:=⟨[0,1],jk4,[(.t 3)]⟩
theorem jwh:jx δ 169=some jqI:=Qa0
def jf2:XC:=(Ty [IO 4] [Iz 6,IP 7 6,IO 8] 0 9 8 7 9 0 1 (OW 10 8 5 10) (ID [OU 11,Iz 12,oy 13 5,Ih 14 9 12 13,o7 15 9 14,oE 16 true none 11 [15]] 16 (OW 17 5 4 17)) 18 8 1 8 18 [Oq 4 (-(0+1))])
def jqH:XF:=⟨[0,1],jf2,[(.t 4)]⟩
theorem jwg:jx δ 170=some jqH:=Qa0
def jkU:XC:=(Ty [oK 4 oJ,IO 5] [Iz 9,Ix 10 9,OZ 11 10,Tu 12 11,Ot 13 12,IP 14 13,IO 15] 0 16 15 14 16 0 1 [Ih 17 4 13 15,o7 18 4 17,Ib 7 [oJ,.nils,oB,oB],o9 4 7 18] (ou [Tu 19 7,oF 20 19,OU 21,OL 22 200 20 21,oz 8 22] (ID (T5 23 8 (Ti 24 .geq 23)) 24 [OZ 25 7,oF 26 25,oy 27 8,TR 26,oz 5 27])) 28 15 1 15 28 [oK 4 oJ,Oq 5 (-(0+1))])
def jqx:XF:=⟨[0,1],jkU,[(.t 4),(.t 5)]⟩
theorem jv6:jx δ 193=some jqx:=Qa0
def jkT:XC:=(OK [IO 2,IO 3] [Iz 4,OG 5 147 4,Iz 6,OG 7 148 6,Tl 5,oz 3 7])
def jqw:XF:=⟨[0],jkT,[(.t 2),(.t 3)]⟩
theorem jv5:jx δ 194=some jqw:=Qa0
def jkP:XC:=(oX [IO 2] (Oo [Iz 5,IU 6 5,Th 7 .lss 6 1] 7 [ol 8 (.iface 9 (o4 [115,108,105,99,101,115,46,77,105,110,58,32,101,109,112,116,121,32,108,105,115,116])),o6 (.pan 8)]) (IZ [Iz 9,TK 10 9 OM,oF 11 10,oz 3 11] (IY [Oq 4 1] 0 (.seq (oM [oy 12 4,Iz 13,IU 14 13,I5 15 12 14] 15 .skip (.exit 0)) (IK 1 (.ops [oy 18 3,Iz 19,oy 20 4,TK 21 19 20,oF 22 21,ol 23 (.bi .min #[2,2] [18,22]),oz 3 23]) (TA 16 4 (IQ 17 16 1) 4 17)))) (OW 24 3 2 24)))
def jqs:XF:=⟨[0],jkP,[(.t 2)]⟩
theorem jv1:jx δ 147=some jqs:=Qa0
def jkO:XC:=(oX [IO 2] (Oo [Iz 5,IU 6 5,Th 7 .lss 6 1] 7 [ol 8 (.iface 9 (o4 [115,108,105,99,101,115,46,77,97,120,58,32,101,109,112,116,121,32,108,105,115,116])),o6 (.pan 8)]) (IZ [Iz 9,TK 10 9 OM,oF 11 10,oz 3 11] (IY [Oq 4 1] 0 (.seq (oM [oy 12 4,Iz 13,IU 14 13,I5 15 12 14] 15 .skip (.exit 0)) (IK 1 (.ops [oy 18 3,Iz 19,oy 20 4,TK 21 19 20,oF 22 21,ol 23 (.bi .max #[2,2] [18,22]),oz 3 23]) (TA 16 4 (IQ 17 16 1) 4 17)))) (OW 24 3 2 24)))
def jqr:XF:=⟨[0],jkO,[(.t 2)]⟩
theorem jv0:jx δ 148=some jqr:=Qa0
theorem jrb:gX δ 91=some GV:=Qa0
end Go.Sy
end
noncomputable section
namespace Go.Sy
open Go.Ev Go.RowKit
variable {v:AV}{h:T AO}{l r cs:List AV}{s:St}{n:Nat}{f:AV->Option (AV×Lc)}
theorem jeY (hv:pa v=true):lend h v=some v:=by
 have key:∀ v:AV,pa v=true->(fz 9 h v).map (·.1)=some v:=λv hv=>by rw[jbG (d:=7) hv];rfl
 cases v<;>first|exact key _ hv|(cases hv;done)|skip
 case fn f caps=>
  cases caps with
  |nil=>rfl
  |cons c l=>cases hv
theorem Qo :J2 h []=some []:=rfl
theorem qw {u:AV}(h1:lend h v=some u)(h2:J2 h l=some r):J2 h (v :: l)=some (u :: r):=by
 simp only[J2,h1,h2]
theorem yh (h1:pa v=true)(h2:J2 h l=some r):J2 h (v :: l)=some (v :: r):=qw (jeY h1) h2
theorem jay :∀ {l:List AV},l.all Go.Sy.pa=true->J2 h l=some l
 |[],_=>rfl
 |v :: l,hp=>by
  simp only[QaC,ψ] at hp;exact yh hp.1 (jay hp.2)
theorem Zx {d b m z:Nat}{x:Bool}(C:Cl s b cs)(hl:n * z=cs.length)(hp:cs.all pc=true):fz (d+2) s.h (.slice b 0 n m z x)=some (.lst n cs,[b]):=jdj (k:=0) C hl hp
theorem wO {b m z:Nat}{x:Bool}(C:Cl s b cs)(hl:n * z=cs.length)(hp:cs.all pc=true):lend s.h (.slice b 0 n m z x)=some (.lst n cs):=by
 show(fz 9 s.h _).map (·.1)=_;rw[Zx (d:=7) C hl hp];rfl
def Lr (s:St)(v:AV)(n:Nat)(cs:List AV):Prop:=v=.lst n cs\/(v=.nils/\n=0/\cs=[])\/∃ b m z x,v=.slice b 0 n m z x/\n * z=cs.length/\Cl s b cs
theorem Lv.lr {lo hi z:Nat}(h:Lv lo hi s v n cs z):Lr s v n cs:=by
 rcases h with ⟨rfl,rfl,rfl⟩|⟨b,rfl,h2,h3,h4,h5,h6⟩
 .exact .inr (.inl ⟨rfl,rfl,rfl⟩)
 .exact .inr (.inr ⟨b,n,z,false,rfl,h3.symm,h4⟩)
theorem Lr.fz {d:Nat}(h:Lr s v n cs)(hp:cs.all pc=true):∃ ks,fz (d+2) s.h v=some (.lst n cs,ks):=by
 rcases h with rfl|⟨rfl,rfl,rfl⟩|⟨b,m,z,x,rfl,h1,h2⟩
 .exact⟨[],rfl⟩
 .exact⟨[],rfl⟩
 .exact⟨[b],Zx h2 h1 hp⟩
theorem Lr.lend (h:Lr s v n cs)(hp:cs.all pc=true):lend s.h v=some (.lst n cs):=by
 have key:(Go.Ev.fz 9 s.h v).map (·.1)=some (.lst n cs):=by
  obtain⟨ks,e⟩:=h.fz (d:=7) hp;rw[e];rfl
 rcases h with rfl|⟨rfl,rfl,rfl⟩|⟨b,m,z,x,rfl,h1,h2⟩<;>exact key
theorem jiV (h:∃ ks,fzs (fz 8 s.h) l=some (r,ks)):lend s.h (.agg l)=some (.agg r):=by
 obtain⟨ks,e⟩:=h;show(fz 9 s.h (.agg l)).map (·.1)=_;show((fzs (fz 8 s.h) l).map λp=>(AV.agg p.1,p.2)).map (·.1)=_;rw[e];rfl
theorem jgM {u:AV}(h1:∃ ks,f v=some (u,ks))(h2:∃ ks,fzs f l=some (r,ks)):∃ ks,fzs f (v :: l)=some (u :: r,ks):=by
 obtain⟨k1,e1⟩:=h1;obtain⟨k2,e2⟩:=h2;exact⟨k1 ++ k2,by simp only[fzs,e1,e2]⟩
theorem ju4 :∃ ks,fzs f []=some ([],ks):=⟨[],rfl⟩
theorem Yt {b o:Nat}(C:Cl s b cs)(h:XN (fz 9 s.h) cs=r):lend s.h (.ptr b o)=some (.lptr r o):=by
 obtain⟨n,zl,z,ct,hrow,hn,hcs⟩:=C.rw_.len;show ZR s.h (.ptr b o)=_;unfold ZR;dsimp only;rw[hrow];dsimp only;rw[hn,h]
theorem zQ {u:AV}(h1:∃ ks,f v=some (u,ks))(hc:u.cell=true)(h2:XN f l=r):XN f (v :: l)=u :: r:=by
 obtain⟨ks,e⟩:=h1;simp only[XN,e,hc,cond_true,h2]
theorem jjk (d r:Nat)(l:List AV):XN (fz (d+1) h) (.map r :: l)=[]:=rfl
theorem Wx :XN f []=[]:=rfl
theorem u6 (d:Nat)(hv:pc v=true):∃ ks,fz (d+1) h v=some (v,ks):=⟨[],jbF hv d _⟩
section
variable {P:Program} {base:Bs}
theorem PL.xb {f:FuncId}{aZ aZ':List AV}{o:Oc}(h:PL P base f aZ o){st:St}(hf:J2 st.h aZ'=some aZ)(hb:∀ st,base.run f aZ' st=.no)(K Kp:AV->St->Prop):XB P base f aZ' st K Kp=Ys o K Kp st:=h.cx hf hb K Kp
theorem PL.pa {f:FuncId}{aZ:List AV}{o:Oc}(h:PL P base f aZ o)(hp:aZ.all Go.Sy.pa=true)(hb:∀ st,base.run f aZ st=.no)(st:St)(K Kp:AV->St->Prop):XB P base f aZ st K Kp=Ys o K Kp st:=by
 exact h.xb (jay hp) hb K Kp
theorem yb {f:FuncId}{F:XF}(hl:jx P f=some F)(hnd:F.body.nd=true)(hm:base.pur f=5){aZ:List AV}{o:Oc}(ho:o.flat=true)
  (h:xC P base F.body (jj F.ps aZ) st0 (Xo P F.res (XP G0 o)) λv _ s=>Xy G0 o v s.bare):PL P base f aZ o:=
 PL.of hm ho (Yv hl hnd h)
def jss (r:ER):ER:=match r with
 |.ok v s=>(match fz 9 s.h v with|some (v',ks)=>.ok v' (kills ks s)|none=>.no)
 |r=>r
theorem BX.ice {f:FuncId}{args:List AV}{st:St}{K Kp:AV->St->Prop}(hm:base.pur f=2)(hb:base.run f args st=.no)(h:BX P base f args st (λv s=>∃ u ks,fz 9 s.h v=some (u,ks)/\K u (kills ks s)) Kp):CX P base f args st K Kp:=by
 obtain⟨r,⟨N,D,h1⟩,h2⟩:=h;have e:∀ n,N<=n->∀ d,D+1<=d->evC P base n d f args st=jss r:=λn hn d hd=>by
  obtain⟨d',rfl⟩:∃ d',d=d'+1:=⟨d - 1,om⟩;have h3:=h1 n hn d' om;simp only[evC,hb,hm,uE,jgJ,h3];rfl
 refine⟨_,⟨N,D+1,e⟩,?_⟩;cases r with
 |no=>exact h2.elim
 |pn v s=>exact h2
 |ok v s=>
  obtain⟨u,ks,e1,e2⟩:=(h2:∃ u ks,fz 9 s.h v=some (u,ks)/\K u (kills ks s));unfold jss;dsimp only;rw[e1];exact e2
theorem vW {f:FuncId}{F:XF}(hl:jx P f=some F)(hnd:F.body.nd=true){args:List AV}{st:St}(hm:base.pur f=2)(hb:base.run f args st=.no){K Kp:AV->St->Prop}
  (h:xC P base F.body (jj F.ps args) st.bare (Xo P F.res λv s=>∃ u ks,fz 9 s.h v=some (u,ks)/\K u (back st (kills ks s))) λv _ s=>Kp v (bk st s)):XB P base f args st K Kp:=
 XB.of (BX.ice hm hb (Yv hl hnd h))
end
structure Keep (p:Nat)(s s':St):Prop where
 nx:s.nx<=s'.nx
 fr:s'.fr=s.fr
 get:∀ b,b<s.nx->b≠p->jv s'.h b=jv s.h b
section
variable {p b:Nat} {s s' t:St} {cs:List AV}
theorem Keep.refl:Keep p s s:=⟨η _,rfl,λ_ _ _=>rfl⟩
theorem Keep.trans (h:Keep p s t)(k:Keep p t s'):Keep p s s':=⟨χ h.nx k.nx,k.fr.trans h.fr,λb hb hp=>(k.get b (Qat hb h.nx) hp).trans (h.get b hb hp)⟩
theorem Keep.nw (h:Keep p s t)(ds:List AV):Keep p s (nw t ds):=⟨Qcu h.nx,h.fr,λb hb hp=>(qp (by have:=h.nx;omega)).trans (h.get b hb hp)⟩
theorem Keep.wr (h:Keep p s t){c:Nat}(hc:c=p\/s.nx<=c)(o:Nat)(vs:List AV):Keep p s (wr t c o vs):=⟨h.nx,h.fr,λb hb hp=>(qW om).trans (h.get b hb hp)⟩
theorem Keep.kl (h:Keep p s t){c:Nat}(hc:s.nx<=c):Keep p s (kl c t):=⟨h.nx,h.fr,λb hb hp=>(vX om).trans (h.get b hb hp)⟩
theorem Keep.kills (h:Keep p s t){ks:Lc}(hc:∀ c∈ks,s.nx<=c):Keep p s (kills ks t):=⟨h.nx,h.fr,λb hb hp=>by
 show jv (ks.foldr _ t.h) b=_;rw[JQ,if_neg (λhm=>by have:=hc b hm;omega)];exact h.get b hb hp⟩
theorem Keep.aps {lo hi n z:Nat}{v:AV}{ds:List AV}{u:St}(h:Keep p s t)(V:Lv lo hi u v n ds z)(hlo:s.nx<=lo)(news:List AV):Keep p s (aps v t news):=⟨by rw[jm];exact Qcu h.nx,by rw[QM];exact h.fr,λb hb hp=>(V.get t news b om (by have:=h.nx;omega)).trans (h.get b hb hp)⟩
theorem Keep.cl (h:Keep p s t)(C:Cl s b cs)(hb:b≠p):Cl t b cs:=C.keep h.nx (h.get b C.lt hb)
theorem Keep.lv {lo hi n z:Nat}{v:AV}(h:Keep p s t)(V:Lv lo hi s v n cs z)(hb:p<lo\/hi<=p):Lv lo hi t v n cs z:=V.imp id λ⟨c,h1,h2,h3,h4,h5,h6⟩=>⟨c,h1,h2,h3,h.cl h4 om,h5,h6⟩
theorem Keep.lr {v:AV}{n:Nat}(h:Keep p s t)(V:Lr s v n cs)(hb:∀ b m z x,v=.slice b 0 n m z x->b≠p):Lr t v n cs:=by
 rcases V with e|e|⟨b,m,z,x,e,h1,h2⟩
 .exact .inl e
 .exact .inr (.inl e)
 .exact .inr (.inr ⟨b,m,z,x,e,h1,h.cl h2 (hb b m z x e)⟩)
theorem Keep.back (h:Keep p s t):Keep p s (back s t):=⟨h.nx,rfl,h.get⟩
theorem Keep.bare (h:Keep p s.bare t)(u:St):Keep p s (Go.Ev.back s t):=⟨h.nx,rfl,h.get⟩
end
end Go.Sy
end
noncomputable section
set_option maxRecDepth 100000
namespace Go.Sy
open Go.Ev Go.Proofs
variable {base:Bs}
variable {K:AV->St->Prop}{p:Prop}
structure VarT where
 name:Lc
 kind:Int
 enum:Lc
 lo:Int
 hi:Int
 beg:Bool
 first:Int
def vaE (v:VarT):List AV:=[.str v.name,.int .i64 v.kind,.str v.enum,.int .i64 v.lo,.int .i64 v.hi,.bool v.beg,.int .i64 v.first]
structure SetT where
 var:Int
 to:Ex
def seE (s:SetT):List AV:=.int .i64 s.var :: eE s.to
structure MoveT where
 when:Ex
 acts:List SetT
def moE (m:MoveT):List AV:=eE m.when ++ [.lst m.acts.length (fl seE m.acts)]
structure ModT where
 vars:List VarT
 enums:List EnumT
 moves:List MoveT
def mdE (m:ModT):List AV:=[.lst m.vars.length (fl vaE m.vars),.lst m.enums.length (fl enE m.enums),.lst m.moves.length (fl moE m.moves)]
structure MtT where
 kind:Int
 enum:Lc
 lo:Int
 hi:Int
def mtE (m:MtT):List AV:=[.int .i64 m.kind,.str m.enum,.int .i64 m.lo,.int .i64 m.hi]
theorem YO (v:VarT):vaE v=[.str v.name,.int .i64 v.kind,.str v.enum,.int .i64 v.lo,.int .i64 v.hi,.bool v.beg,.int .i64 v.first]:=rfl
theorem Yb (v:VarT):(vaE v).length=7:=nr (by rw[YO];rfl)
theorem jbc (v:VarT):lall AV.cell (vaE v)=true:=nr (by rw[YO];rfl)
theorem YP (v:VarT):(vaE v).all pc=true:=nr (by rw[YO];rfl)
theorem jo:type_of% (a4 @Yb (λx=>gq (YO x)) (λx=>gd (YO x)) (aI @jbc (frE Yb))):=(a4 @Yb (λx=>gq (YO x)) (λx=>gd (YO x)) (aI @jbc (frE Yb)))
theorem Yc:type_of% (aI @Yb (aI @jbc (λx=>gq (YO x)))):=(aI @Yb (aI @jbc (λx=>gq (YO x))))
theorem wA (s:SetT):seE s=[.int .i64 s.var,.int .i64 s.to.op,.int .i64 s.to.num,.str s.to.name,.lst s.to.kids.length (fl eE s.to.kids),.int .i64 s.to.line,.int .i64 s.to.col]:=(by unfold seE;rw[qx])
theorem WZ (s:SetT):(seE s).length=7:=nr (by rw[wA];rfl)
theorem jbl (s:SetT):lall AV.cell (seE s)=true:=nr (by rw[wA];rfl)
theorem wB (s:SetT):(seE s).all pc=true:=nr (by rw[wA];rfl)
theorem jp:type_of% (a4 @WZ (λx=>gq (wA x)) (λx=>gd (wA x)) (aI @jbl (frE WZ))):=(a4 @WZ (λx=>gq (wA x)) (λx=>gd (wA x)) (aI @jbl (frE WZ)))
theorem Ye:type_of% (aI @WZ (aI @jbl (λx=>gq (wA x)))):=(aI @WZ (aI @jbl (λx=>gq (wA x))))
theorem wJ (m:MoveT):moE m=[.int .i64 m.when.op,.int .i64 m.when.num,.str m.when.name,.lst m.when.kids.length (fl eE m.when.kids),.int .i64 m.when.line,.int .i64 m.when.col,.lst m.acts.length (fl seE m.acts)]:=(by unfold moE;rw[qx];rfl)
theorem kv (m:MoveT):(moE m).length=7:=nr (by rw[wJ];rfl)
theorem jbx (m:MoveT):lall AV.cell (moE m)=true:=nr (by rw[wJ];rfl)
theorem wL (m:MoveT):(moE m).all pc=true:=nr (by rw[wJ];rfl)
theorem jr:type_of% (a4 @kv (λx=>gq (wJ x)) (λx=>gd (wJ x)) (aI @jbx (frE kv))):=(a4 @kv (λx=>gq (wJ x)) (λx=>gd (wJ x)) (aI @jbx (frE kv)))
theorem Yh:type_of% (aI @kv (aI @jbx (λx=>gq (wJ x)))):=(aI @kv (aI @jbx (λx=>gq (wJ x))))
theorem ZQ (m:ModT):mdE m=[.lst m.vars.length (fl vaE m.vars),.lst m.enums.length (fl enE m.enums),.lst m.moves.length (fl moE m.moves)]:=rfl
theorem kw (m:ModT):(mdE m).length=3:=nr (by rw[ZQ];rfl)
theorem jbz (m:ModT):lall AV.cell (mdE m)=true:=nr (by rw[ZQ];rfl)
theorem Je (m:ModT):(mdE m).all pc=true:=nr (by rw[ZQ];rfl)
theorem jnO (m:ModT):(mdE m).all eqs=true:=nr (by rw[ZQ];rfl)
theorem jt:type_of% (a4 @kw (λx=>gq (ZQ x)) (λx=>gd (ZQ x)) (aI @jbz (frE kw))):=(a4 @kw (λx=>gq (ZQ x)) (λx=>gd (ZQ x)) (aI @jbz (frE kw)))
theorem Yi:type_of% (aI @kw (aI @jbz (λx=>gq (ZQ x)))):=(aI @kw (aI @jbz (λx=>gq (ZQ x))))
theorem ZO (m:MtT):mtE m=[.int .i64 m.kind,.str m.enum,.int .i64 m.lo,.int .i64 m.hi]:=rfl
theorem Yf (m:MtT):(mtE m).length=4:=nr (by rw[ZO];rfl)
theorem jnL (m:MtT)(k:Nat):(mtE m).getD k .bad=([.int .i64 m.kind,.str m.enum,.int .i64 m.lo,.int .i64 m.hi]:List AV).getD k .bad:=nr (by rw[ZO])
theorem jbw (m:MtT):lall AV.cell (mtE m)=true:=nr (by rw[ZO];rfl)
theorem ZP (m:MtT):(mtE m).all pc=true:=nr (by rw[ZO];rfl)
theorem jnM {st:St}{xs:List MtT}{i:Nat}(h:i<xs.length):jk (QV 4 (.lptr (fl mtE xs) (i * 4)) st) K=K (.agg (mtE xs[i])) st:=jbd Yf h
theorem jq:type_of% (a4 @Yf (λx=>gq (ZO x)) (λx=>gd (ZO x)) (aI @jbw (frE Yf))):=(a4 @Yf (λx=>gq (ZO x)) (λx=>gd (ZO x)) (aI @jbw (frE Yf)))
theorem Yg:type_of% (aI @Yf (aI @jbw (λx=>gq (ZO x)))):=(aI @Yf (aI @jbw (λx=>gq (ZO x))))
theorem dzG (h:p:=by first|assumption|decide|omega|(simp only[qQ,zf,zb,ze,q8,zc,za,Yc,Ye,Yh,Yi,Yg,rzN,τ,φ];first|done|omega)|(apply J4<;>first|omega|((simp(disch:=first|assumption|omega|(simp only[qQ,zf,zb,ze,q8,zc,za,Yc,Ye,Yh,Yi,Yg,rzN,τ,φ];first|done|omega)) only[rzL,τ,φ,Qaj,γ,qQ,zf,zb,ze,q8,zc,za,Yc,Ye,Yh,Yi,Yg ])<;>first|done|omega))|(simp(disch:=first|assumption|omega|(simp only[qQ,zf,zb,ze,q8,zc,za,Yc,Ye,Yh,Yi,Yg,rzN,τ,φ];first|done|omega)) only[qQ,zf,zb,ze,q8,zc,za,Yc,Ye,Yh,Yi,Yg,rzG,κ,μ,ε,QaF,τ,φ,Qai,Qam];first|done|omega|decide)):p:=h
theorem cyG (h:p:=by apply J4<;>first|omega|((simp(disch:=first|assumption|omega|(simp only[qQ,zf,zb,ze,q8,zc,za,Yc,Ye,Yh,Yi,Yg,rzN,τ,φ];first|done|omega)) only[rzL,τ,φ,Qaj,γ,qQ,zf,zb,ze,q8,zc,za,Yc,Ye,Yh,Yi,Yg])<;>first|done|rfl|omega|(simp;done)|(simp;omega))):p:=h
theorem j9 (h:p:=by first|assumption|decide|omega|(simp only[qQ,zf,zb,ze,q8,zc,za,Yc,Ye,Yh,Yi,Yg,zz,rzN,τ,φ];first|done|omega)|(apply J4<;>first|omega|((simp(disch:=first|assumption|omega|(simp only[qQ,zf,zb,ze,q8,zc,za,Yc,Ye,Yh,Yi,Yg,zz,rzN,τ,φ];first|done|omega)) only[rzL,τ,φ,Qaj,γ,qQ,zf,zb,ze,q8,zc,za,Yc,Ye,Yh,Yi,Yg,zz ])<;>first|done|omega))|(simp(disch:=first|assumption|omega|(simp only[qQ,zf,zb,ze,q8,zc,za,Yc,Ye,Yh,Yi,Yg,zz,rzN,τ,φ];first|done|omega)) only[qQ,zf,zb,ze,q8,zc,za,Yc,Ye,Yh,Yi,Yg,zz,rzG,κ,μ,ε,QaF,τ,φ,Qai,Qam];first|done|omega|decide)):p:=h
def kf (c l k:Int):AV:=.iface 71 (.agg [.int .i64 c,.int .i64 l,.int .i64 k])
theorem r8:type_of%(a8 @jd @jh @jg @jc @jo @jp @jr (aI @jt (aI @jq @rzZ))):=a8 @jd @jh @jg @jc @jo @jp @jr (aI @jt (aI @jq @rzZ))
theorem zS (hb:NB base)(c l k:Int):Ret base 130 [.int .i64 c,.int .i64 l,.int .i64 k] (.pn (kf c l k)):=by
 refine hb.ret ?_ rfl rfl;refine jB x98 haa (hb.pur 130 1 dc) ?_;simp only[y98,jj,ζ,θ,κ,μ];rw[(by unfold z98;simp only[qq];rfl:z98=_)];repeat' first|apply jb<;>intro _|simp(disch:=try exact dzG) only[r8,γ,ε]
 exact FzD.iface (FzD.agg (.pc rfl))
theorem jom (hb:NB base)(v:VarT)(s:Lc):Tot base 169 [.agg (vaE v),.lptr [.str s] 0] (.bool (decide (v.name=s))):=by
 refine hb.tot ?_ (by first|rfl|simp[pa,pc,yd,Q7,JT,Jy,YP,wB,wL,Je,ZP]) rfl;refine jB jwh haa (hb.pur 169 1 dc) ?_;simp only[jqI,jj,ζ,θ,κ,μ];rw[(by unfold jk4;simp only[qq];rfl:jk4=_)];repeat' first|apply jb<;>intro _|simp(disch:=try exact dzG) only[qI,r8,γ,ε]
 exact G0.v rfl rfl
theorem jmz (hb:NB base)(e:EnumT)(d:DeclT):Tot base 129 [.agg (enE e),.lptr (qt d) 0] (.bool (decide (e.name=d.ty))):=by
 refine hb.tot ?_ (by first|rfl|simp[pa,pc,yd,Q7,JT,Jy,YP,wB,wL,Je,ZP]) rfl;refine jB jwG haa (hb.pur 129 1 dc) ?_;simp only[jq7,jj,ζ,θ,κ,μ];rw[(by unfold jlt;simp only[qq];rfl:jlt=_)];repeat' first|apply jb<;>intro _|simp(disch:=try exact dzG) only[qI,r8,γ,ε]
 exact G0.v rfl rfl
theorem jts (hb:NB base)(b a:AsT):Tot base 135 [.agg (asE b),.lptr (asE a) 0] (.bool (decide (b.name=a.name))):=by
 refine hb.tot ?_ (by first|rfl|simp[pa,pc,yd,Q7,JT,Jy,YP,wB,wL,Je,ZP]) rfl;refine jB jwB haa (hb.pur 135 1 dc) ?_;simp only[jq2,jj,ζ,θ,κ,μ];rw[(by unfold jlo;simp only[qq];rfl:jlo=_)];repeat' first|apply jb<;>intro _|simp(disch:=try exact dzG) only[qI,r8,γ,ε]
 exact G0.v rfl rfl
theorem jjq (hb:NB base)(xs:List VarT)(hl:xs.length<=BIG)(nm:Lc):PL δ base 168 [.lst xs.length (fl vaE xs),.fn 169 [.lptr [.str nm] 0]] (.ok (.int .i64 (fi (λx=>decide (x.name=nm)) xs))):=by
 refine yb jwi haa (hb.pur 168 5 dc) rfl ?_;simp only[jqJ,jj,ζ,θ,κ,μ];rw[(by unfold jk5;simp only[qq];rfl:jk5=_)];unfold BIG at hl;repeat' first|apply jb<;>intro _|simp(disch:=try exact dzG) only[r8,γ,ε]
 refine jU xs.length (λk L s=>(∀ j (hj:j<xs.length),j<k->(λx=>decide (x.name=nm)) xs[j]=false)/\Has L 0 (.lst xs.length (fl vaE xs))/\Has L 1 (.fn 169 [.lptr [.str nm] 0])) ?_ (λk L s hk hI hi hn=>?_) (λL s hI=>?_)
 .refine⟨λj _ hj=>absurd hj (QaI _),?_⟩;simp(disch:=decide) only[h12]
 .obtain⟨h0,i0,i1⟩:=hI;have e:=jom hb xs[k] nm;repeat' first|apply jb<;>intro _|simp(disch:=try exact dzG) only[ja i0,ja i1,ja hi,ja hn,e,r8,γ,ε]
  .rename_i h;exact G0.v (congrArg _ (Vv hk (λj hj=>h0 j om hj) (by simpa using h)).symm) rfl
  .rename_i h;refine⟨⟨λj hj hjk=>?_,?_⟩,?_⟩
   .rcases Qaq j k with h2|h2
    .have:=h0 j hj h2;simpa using this
    .have:j=k:=om
     subst this;simpa using h
   .simp(disch:=decide) only[h12,i0,i1]
   .simp(disch:=decide) only[h12,hi,hn]
 .obtain⟨h0,i0,i1⟩:=hI;repeat' first|apply jb<;>intro _|simp(disch:=try exact dzG) only[r8,γ,ε]
  exact G0.v (congrArg _ (Vu λj hj=>h0 j hj hj).symm) rfl
theorem jgS (hb:NB base)(xs:List EnumT)(hl:xs.length<=BIG)(d:DeclT):PL δ base 128 [.lst xs.length (fl enE xs),.fn 129 [.lptr (qt d) 0]] (.ok (.int .i64 (fi (λx=>decide (x.name=d.ty)) xs))):=by
 refine yb jwH haa (hb.pur 128 5 dc) rfl ?_;simp only[jq8,jj,ζ,θ,κ,μ];rw[(by unfold jlu;simp only[qq];rfl:jlu=_)];unfold BIG at hl;repeat' first|apply jb<;>intro _|simp(disch:=try exact dzG) only[r8,γ,ε]
 refine jU xs.length (λk L s=>(∀ j (hj:j<xs.length),j<k->(λx=>decide (x.name=d.ty)) xs[j]=false)/\Has L 0 (.lst xs.length (fl enE xs))/\Has L 1 (.fn 129 [.lptr (qt d) 0])) ?_ (λk L s hk hI hi hn=>?_) (λL s hI=>?_)
 .refine⟨λj _ hj=>absurd hj (QaI _),?_⟩;simp(disch:=decide) only[h12]
 .obtain⟨h0,i0,i1⟩:=hI;have e:=jmz hb xs[k] d;repeat' first|apply jb<;>intro _|simp(disch:=try exact dzG) only[ja i0,ja i1,ja hi,ja hn,e,r8,γ,ε]
  .rename_i h;exact G0.v (congrArg _ (Vv hk (λj hj=>h0 j om hj) (by simpa using h)).symm) rfl
  .rename_i h;refine⟨⟨λj hj hjk=>?_,?_⟩,?_⟩
   .rcases Qaq j k with h2|h2
    .have:=h0 j hj h2;simpa using this
    .have:j=k:=om
     subst this;simpa using h
   .simp(disch:=decide) only[h12,i0,i1]
   .simp(disch:=decide) only[h12,hi,hn]
 .obtain⟨h0,i0,i1⟩:=hI;repeat' first|apply jb<;>intro _|simp(disch:=try exact dzG) only[r8,γ,ε]
  exact G0.v (congrArg _ (Vu λj hj=>h0 j hj hj).symm) rfl
theorem jms (hb:NB base)(xs:List AsT)(hl:xs.length<=BIG)(a:AsT):PL δ base 170 [.lst xs.length (fl asE xs),.fn 135 [.lptr (asE a) 0]] (.ok (.int .i64 (fi (λx=>decide (x.name=a.name)) xs))):=by
 refine yb jwg haa (hb.pur 170 5 dc) rfl ?_;simp only[jqH,jj,ζ,θ,κ,μ];rw[(by unfold jf2;simp only[qq];rfl:jf2=_)];unfold BIG at hl;repeat' first|apply jb<;>intro _|simp(disch:=try exact dzG) only[r8,γ,ε]
 refine jU xs.length (λk L s=>(∀ j (hj:j<xs.length),j<k->(λx=>decide (x.name=a.name)) xs[j]=false)/\Has L 0 (.lst xs.length (fl asE xs))/\Has L 1 (.fn 135 [.lptr (asE a) 0])) ?_ (λk L s hk hI hi hn=>?_) (λL s hI=>?_)
 .refine⟨λj _ hj=>absurd hj (QaI _),?_⟩;simp(disch:=decide) only[h12]
 .obtain⟨h0,i0,i1⟩:=hI;have e:=jts hb xs[k] a;repeat' first|apply jb<;>intro _|simp(disch:=try exact dzG) only[ja i0,ja i1,ja hi,ja hn,e,r8,γ,ε]
  .rename_i h;exact G0.v (congrArg _ (Vv hk (λj hj=>h0 j om hj) (by simpa using h)).symm) rfl
  .rename_i h;refine⟨⟨λj hj hjk=>?_,?_⟩,?_⟩
   .rcases Qaq j k with h2|h2
    .have:=h0 j hj h2;simpa using this
    .have:j=k:=om
     subst this;simpa using h
   .simp(disch:=decide) only[h12,i0,i1]
   .simp(disch:=decide) only[h12,hi,hn]
 .obtain⟨h0,i0,i1⟩:=hI;repeat' first|apply jb<;>intro _|simp(disch:=try exact dzG) only[r8,γ,ε]
  exact G0.v (congrArg _ (Vu λj hj=>h0 j hj hj).symm) rfl
theorem jpd (hb:NB base)(xs:List AsT)(hl:xs.length<=BIG)(a:AsT):PL δ base 134 [.lst xs.length (fl asE xs),.fn 135 [.lptr (asE a) 0]] (.ok (.bool (decide (0<=fi (λx=>decide (x.name=a.name)) xs)))):=by
 refine yb jwC haa (hb.pur 134 5 dc) rfl ?_;simp only[jq3,jj,ζ,θ,κ,μ];rw[(by unfold jlp;simp only[qq];rfl:jlp=_)];have F:∀ (st:St) (K Kp:AV->St->Prop),XB δ base 170 [.lst xs.length (fl asE xs),.fn 135 [.lptr (asE a) 0]] st K Kp=_:=λst K Kp=>(jms hb xs hl a).xb (yh rfl (qw rfl rfl)) (λst=>hb.no 170 dc _ _) K Kp;repeat' first|apply jb<;>intro _|simp(disch:=try exact dzG) only[F,r8,γ,ε]
 exact G0.v rfl rfl
def yC (op:Int):Int×Int:=if op=5\/op=14\/op=15\/op=16 then(1,1) else if op=19\/op=20\/op=21\/op=22 then(1,2) else if op=17\/op=18 then(0,2) else(2,2)
def WV (op:Int):Bool:=(decide (7<=op) && decide (op<=13)) ||(decide (23<=op) && decide (op<=26))
theorem G0.tupi {s:St}{a b:Int}{u:AV}(h:u=.tup [.int .i64 a,.int .i64 b]):G0 u (.tup [.int .i64 a,.int .i64 b]) s:=by
 subst h;exact FzD.tup (.cons (.pc rfl) (.cons (.pc rfl) .nil))
theorem joj (hb:NB base)(op:Int):Tot base 175 [.int .i64 op] (.tup [.int .i64 (yC op).1,.int .i64 (yC op).2]):=by
 refine hb.tot ?_ rfl rfl;refine jB jwm haa (hb.pur 175 1 dc) ?_;simp only[jqN,jj,ζ,θ,κ,μ];rw[(by unfold jk9;simp only[qq];rfl:jk9=_)];repeat' first|apply jb<;>intro _|simp(disch:=try exact dzG) only[r8,γ,ε]
 all_goals(refine G0.tupi ?_;unfold yC;simp_all)
theorem jrE (hb:NB base)(op:Int):Tot base 176 [.int .i64 op] (.bool (WV op)):=by
 refine hb.tot ?_ rfl rfl;refine jB jwl haa (hb.pur 176 1 dc) ?_;simp only[jqM,jj,ζ,θ,κ,μ];rw[(by unfold jk8;simp only[qq];rfl:jk8=_)];repeat' first|apply jb<;>intro _|simp(disch:=try exact dzG) only[r8,γ,ε]
 all_goals(refine G0.v (congrArg AV.bool ?_) rfl;rw[Qaw];simp only[WV,QaE,ψ,decide_eq_true_eq,QaP,QbE,QaO,decide_eq_false_iff_not,true_iff,false_iff,iff_true,iff_false,not_true_eq_false,not_false_eq_true,ne_eq,eq_self]<;>omega)
def Uh:Ld->Int
 |[]=>0
 |x :: xs=>xs.foldl min x
def Ui:Ld->Int
 |[]=>0
 |x :: xs=>xs.foldl max x
theorem jsg {l:Ld}{k:Nat}(h0:0<k)(h:k<l.length):Uh (l.take (k+1))=min (Uh (l.take k)) l[k]:=by
 match l,k,h0,h with
 |x :: xs,k+1,_,h=>
  have h':k<xs.length:=by simpa using h
  show(xs.take (k+1)).foldl min x=min ((xs.take k).foldl min x) xs[k];rw[zC h',Qca];rfl
theorem jsh {l:Ld}{k:Nat}(h0:0<k)(h:k<l.length):Ui (l.take (k+1))=max (Ui (l.take k)) l[k]:=by
 match l,k,h0,h with
 |x :: xs,k+1,_,h=>
  have h':k<xs.length:=by simpa using h
  show(xs.take (k+1)).foldl max x=max ((xs.take k).foldl max x) xs[k];rw[zC h',Qca];rfl
theorem Q8 {S:Ld}{k:Nat}{st:St}(h:k<S.length):jk (XW (.lptr (S.map (AV.int .i64)) k) st) K=K (.int .i64 S[k]) st:=by
 rw[qI (by simpa using h)]
 congr 1
 simp[Qaf,h]
theorem jvk (hb:NB base)(l:Ld)(h0:0<l.length)(hl:l.length<=1000000):PX δ base 147 [.lst l.length (l.map (AV.int .i64))] (.ok (.int .i64 (Uh l))):=by
 have z:¬ ((l.length:Int)<1):=om
 have e1:Uh (l.take 1)=l[0]:=by match l,h0 with|x :: xs,_=>rfl
 refine jB jv1 haa (hb.pur 147 1 dc) ?_;simp only[jqs,jj,ζ,θ,κ,μ];rw[(by unfold jkP;simp only[qq];rfl:jkP=_)];repeat' first|apply jb<;>intro _|simp(disch:=try exact dzG) only[z,Q8,r8,γ,ε]
 refine ye (λmm L s=>∃ k:Nat,1<=k/\k<=l.length/\mm=l.length - k/\Has L 0 (.lst l.length (l.map (AV.int .i64)))/\Has L 3 (.int .i64 (Uh (l.take k)))/\Has L 4 (.int .i64 (k:Int))) ?_ (l.length - 1) ?_
 .rintro m L s ⟨k,hk1,hk,rfl,i0,i3,i4⟩;by_cases hlt:k<l.length
  .have hlt':(k:Int)<(l.length:Int):=om
   have es:=jsg hk1 hlt;have e2:(((k+1:Nat):Int))=(k:Int)+1:=om
   repeat' first|apply jb<;>intro _|simp(disch:=try exact dzG) only[ja i0,ja i3,ja i4,hlt',Q8,r8,γ,ε]
   refine⟨l.length - (k+1),om,k+1,om,om,rfl,?_⟩;rw[es];simp(disch:=decide) only[h12,i0,e2]
  .have hlt':¬ (k:Int)<(l.length:Int):=om
   have hk':k=l.length:=om
   subst hk';rw[Qak] at i3;repeat' first|apply jb<;>intro _|simp(disch:=try exact dzG) only[ja i0,ja i3,ja i4,hlt',r8,γ,ε]
   exact G0.v rfl rfl
 .refine⟨1,om,om,rfl,?_⟩;rw[e1];simp(disch:=decide) only[h12]
theorem jvl (hb:NB base)(l:Ld)(h0:0<l.length)(hl:l.length<=1000000):PX δ base 148 [.lst l.length (l.map (AV.int .i64))] (.ok (.int .i64 (Ui l))):=by
 have z:¬ ((l.length:Int)<1):=om
 have e1:Ui (l.take 1)=l[0]:=by match l,h0 with|x :: xs,_=>rfl
 refine jB jv0 haa (hb.pur 148 1 dc) ?_;simp only[jqr,jj,ζ,θ,κ,μ];rw[(by unfold jkO;simp only[qq];rfl:jkO=_)];repeat' first|apply jb<;>intro _|simp(disch:=try exact dzG) only[z,Q8,r8,γ,ε]
 refine ye (λmm L s=>∃ k:Nat,1<=k/\k<=l.length/\mm=l.length - k/\Has L 0 (.lst l.length (l.map (AV.int .i64)))/\Has L 3 (.int .i64 (Ui (l.take k)))/\Has L 4 (.int .i64 (k:Int))) ?_ (l.length - 1) ?_
 .rintro m L s ⟨k,hk1,hk,rfl,i0,i3,i4⟩;by_cases hlt:k<l.length
  .have hlt':(k:Int)<(l.length:Int):=om
   have es:=jsh hk1 hlt;have e2:(((k+1:Nat):Int))=(k:Int)+1:=om
   repeat' first|apply jb<;>intro _|simp(disch:=try exact dzG) only[ja i0,ja i3,ja i4,hlt',Q8,r8,γ,ε]
   refine⟨l.length - (k+1),om,k+1,om,om,rfl,?_⟩;rw[es];simp(disch:=decide) only[h12,i0,e2]
  .have hlt':¬ (k:Int)<(l.length:Int):=om
   have hk':k=l.length:=om
   subst hk';rw[Qak] at i3;repeat' first|apply jb<;>intro _|simp(disch:=try exact dzG) only[ja i0,ja i3,ja i4,hlt',r8,γ,ε]
   exact G0.v rfl rfl
 .refine⟨1,om,om,rfl,?_⟩;rw[e1];simp(disch:=decide) only[h12]
theorem Wv:∀ l:Ld,(l.map (AV.int .i64)).all pc=true
 |[]=>rfl
 |x :: xs=>by rw[ζ,QaC,Wv xs];rfl
theorem jtB (hb:NB base)(l:Ld)(h0:0<l.length)(hl:l.length<=1000000):PX δ base 194 [.lst l.length (l.map (AV.int .i64))] (.ok (.tup [.int .i64 (Uh l),.int .i64 (Ui l)])):=by
 have A:=hb.tot (jvk hb l h0 hl) rfl rfl;have B:=hb.tot (jvl hb l h0 hl) rfl rfl;refine jB jv5 haa (hb.pur 194 1 dc) ?_;simp only[jqw,jj,ζ,θ,κ,μ];rw[(by unfold jkT;simp only[qq];rfl:jkT=_)];repeat' first|apply jb<;>intro _|simp(disch:=try exact dzG) only[A,B,r8,γ,ε]
 exact G0.tupi rfl
theorem jim (hb:NB base)(l:Ld){cs:List AV}{n:Nat}(hc:l.map (AV.int .i64)=cs)(hn:l.length=n)(h0:0<n)(hl:n<=1000000)(st:St)(b m:Nat)(x:Bool)(D:Cl st b cs)(K Kp:AV->St->Prop) :
  XB δ base 194 [.slice b 0 n m 1 x] st K Kp=K (.tup [.int .i64 (Uh l),.int .i64 (Ui l)]) (kl b st):=by
 subst hc hn;have F:Fza st [.slice b 0 l.length m 1 x] [.lst l.length (l.map (AV.int .i64))] [b]:=Fza.sl D hac (Wv l) .nil;exact(jtB hb l h0 hl).xf F (λst=>hb.no 194 dc _ _) K Kp
def zL (op:Int)(a b:MtT):Int×Int:=
 if op=5 then(min (-a.lo) (-a.hi),max (-a.lo) (-a.hi))
 else if op=15 then(min (a.lo+b.lo) (a.hi+b.hi),max (a.lo+b.lo) (a.hi+b.hi))
 else if op=16 then(min (a.lo - b.hi) (a.hi - b.lo),max (a.lo - b.hi) (a.hi - b.lo))
 else(min (min (min (a.lo * b.lo) (a.lo * b.hi)) (a.hi * b.lo)) (a.hi * b.hi),max (max (max (a.lo * b.lo) (a.lo * b.hi)) (a.hi * b.lo)) (a.hi * b.hi))
def wu (m:MtT):Prop:=-100000000<=m.lo/\m.lo<=100000000/\-100000000<=m.hi/\m.hi<=100000000
theorem gS {a b:Int}(h1 : -100000000<=a)(h2:a<=100000000)(h3 : -100000000<=b)(h4:b<=100000000) : -10000000000000000<=a * b/\a * b<=10000000000000000:=by
 have e:a.natAbs * b.natAbs<=100000000 * 100000000:=Nat.mul_le_mul om om;have e2:(a * b).natAbs=a.natAbs * b.natAbs:=Int.natAbs_mul a b;omega
theorem jj5 (hb:NB base)(op:Int)(ms:List MtT)(h0:0<ms.length)(hl:ms.length<=2)(he:∀ m∈ms,wu m)(a b:MtT)(ha:ms[0]=a)(hb2:ms[ms.length - 1]=b) :
  PX δ base 177 [.int .i64 op,.lst ms.length (fl mtE ms)] (.ok (.tup [.int .i64 (zL op a b).1,.int .i64 (zL op a b).2])):=by
 obtain⟨a1,a2,a3,a4⟩:=ha▸he _ (Qaa h0);obtain⟨b1,b2,b3,b4⟩:=hb2▸he _ (Qaa (show ms.length - 1<ms.length by omega));have m1:=gS a1 a2 b1 b2;have m2:=gS a1 a2 b3 b4;have m3:=gS a3 a4 b1 b2;have m4:=gS a3 a4 b3 b4;have ld0:∀ (st:St) (K:AV->St->Prop),jk (QV 4 (.lptr (fl mtE ms) 0) st) K=K (.agg (mtE a)) st:=λst K=>by
  have:=jnM (st:=st) (K:=K) h0;rw[QaV,ha] at this;exact this
 have ld1:∀ (st:St) (K:AV->St->Prop),jk (QV 4 (.lptr (fl mtE ms) ((ms.length - 1) * 4)) st) K=K (.agg (mtE b)) st:=λst K=>by
  have:=jnM (st:=st) (K:=K) (show ms.length - 1<ms.length by omega);rw[hb2] at this;exact this
 have el:((ms.length:Int) - 1).toNat=ms.length - 1:=om
 have S2:=λ(p q:Int)=>jim hb [p,q] (cs:=[.int .i64 p,.int .i64 q]) (n:=2) rfl rfl dc dc;have S4:=λ(p q r t:Int)=>jim hb [p,q,r,t] (cs:=[.int .i64 p,.int .i64 q,.int .i64 r,.int .i64 t]) (n:=4) rfl rfl dc dc;have Sa:=S2 (-a.lo) (-a.hi);have Sb:=S2 (a.lo+b.lo) (a.hi+b.hi);have Sc:=S2 (a.lo - b.hi) (a.hi - b.lo);have Sd:=S4 (a.lo * b.lo) (a.lo * b.hi) (a.hi * b.lo) (a.hi * b.hi);clear S2 S4;clear he;refine jB jwk haa (hb.pur 177 1 dc) ?_;simp only[jqL,jj,ζ,θ,κ,μ];rw[(by unfold jk7;simp only[qq];rfl:jk7=_)];repeat' first|apply jb<;>intro _|simp(disch:=try exact dzG) only[el,ld0,ld1,Sa,Sb,Sc,Sd,r8,γ,ε]
 all_goals(refine G0.tupi ?_;unfold zL Uh Ui;simp_all)
inductive KR (α:Type) where
 |ok (x:α)
 |er (c l k:Int)
def qr (vars:List VarT)(s:Lc):Int:=fi (λx=>decide (x.name=s)) vars
theorem jjr (hb:NB base)(vars:List VarT)(hl:vars.length<=BIG)(s:Lc)(st:St)(b:Nat)(C:Cl st b [.str s])(K Kp:AV->St->Prop) :
  XB δ base 168 [.lst vars.length (fl vaE vars),.fn 169 [.ptr b 0]] st K Kp=K (.int .i64 (qr vars s)) st:=by
 refine(jjq hb vars hl s).xb (yh rfl (qw ?_ rfl)) (λst=>hb.no 168 dc _ _) K Kp;show(Qa st.h [.ptr b 0]).map (AV.fn 169)=_;have:ZR st.h (.ptr b 0)=some (.lptr [.str s] 0):=Yt C (zQ (u6 8 rfl) rfl Wx);simp only[Qa,this];rfl
theorem K7 (hb:NB base)(vars:List VarT)(hl:vars.length<=BIG)(s:Lc)(r:List AV):PL δ base 133 [.lptr (.lst vars.length (fl vaE vars) :: r) 0,.str s] (.ok (.int .i64 (qr vars s))):=by
 refine yb jwD haa (hb.pur 133 5 dc) rfl ?_;simp only[jq4,jj,ζ,θ,κ,μ];rw[(by unfold jlq;simp only[qq];rfl:jlq=_)];have F:=jjr hb vars hl s;repeat' first|apply jb<;>intro _|simp(disch:=try exact dzG) only[F,qI,r8,γ,ε]
 exact G0.v rfl rfl
def zw:List EnumT->Lc->Lc×Int
 |[],_=>([],-1)
 |e :: es,nm=>if 0<=fi (λv=>decide (nm=v)) e.vals then(e.name,fi (λv=>decide (nm=v)) e.vals) else zw es nm
theorem jci:∀ {es:List EnumT} {nm:Lc} {k:Nat} (h:k<es.length),(∀ j (hj:j<es.length),j<k->fi (λv=>decide (nm=v)) es[j].vals<0)->0<=fi (λv=>decide (nm=v)) es[k].vals->zw es nm=(es[k].name,fi (λv=>decide (nm=v)) es[k].vals)
 |e :: es,nm,0,h,_,h2=>by simp only[Qbv] at h2 ⊢;rw[zw,if_pos h2]
 |e :: es,nm,k+1,h,h1,h2=>by
  have h0:=h1 0 hac om;simp only[Qbv] at h0;rw[zw,if_neg om];simp only[QbN] at h2 ⊢;exact jci (by simpa using h) (λj hj hjk=>by have:=h1 (j+1) (by simpa using hj) om;simpa only[QbN] using this) h2
theorem jch:∀ {es:List EnumT} {nm:Lc},(∀ j (hj:j<es.length),fi (λv=>decide (nm=v)) es[j].vals<0)->zw es nm=([],-1)
 |[],nm,_=>rfl
 |e :: es,nm,h=>by
  have h0:=h 0 hac;simp only[Qbv] at h0;rw[zw,if_neg om];exact jch λj hj=>by have:=h (j+1) (by simpa using hj);simpa only[QbN] using this
theorem jd3 {s:St}{a:Lc}{b:Int}{u:AV}(h:u=.tup [.str a,.int .i64 b]):G0 u (.tup [.str a,.int .i64 b]) s:=by
 subst h;exact FzD.tup (.cons (.pc rfl) (.cons (.pc rfl) .nil))
theorem joo (hb:NB base)(enums:List EnumT)(hl:enums.length<=BIG)(hv:∀ e∈enums,e.vals.length<=1000000)(nm:Lc)(v:AV)(r:List AV):PL δ base 193 [.lptr (v :: .lst enums.length (fl enE enums) :: r) 0,.str nm] (.ok (.tup [.str (zw enums nm).1,.int .i64 (zw enums nm).2])):=by
 refine yb jv6 haa (hb.pur 193 5 dc) rfl ?_;simp only[jqx,jj,ζ,θ,κ,μ];rw[(by unfold jkU;simp only[qq];rfl:jkU=_)];unfold BIG at hl;repeat' first|apply jb<;>intro _|simp(disch:=try exact dzG) only[qI,r8,γ,ε]
 refine jU enums.length (λk L s=>(∀ j (hj:j<enums.length),j<k->fi (λv=>decide (nm=v)) enums[j].vals<0)/\Has L 1 (.str nm)/\Has L 13 (.lst enums.length (fl enE enums))) ?_ (λk L s hk hI hi hn=>?_) (λL s hI=>?_)
 .refine⟨λj _ hj=>absurd hj (QaI _),?_⟩;simp(disch:=decide) only[h12]
 .obtain⟨h0,i1,i13⟩:=hI;have X:=jog hb enums[k].vals (hv _ (Qaa hk)) nm;repeat' first|apply jb<;>intro _|simp(disch:=try exact dzG) only[ja i1,ja i13,ja hi,ja hn,X,r8,γ,ε]
  .rename_i h;refine jd3 ?_;rw[jci hk h0 om]
  .rename_i h;refine⟨⟨λj hj hjk=>?_,?_⟩,?_⟩
   .rcases Qaq j k with h2|h2
    .exact h0 j hj h2
    .have:j=k:=om
     subst this;omega
   .simp(disch:=decide) only[h12,i1,i13]
   .simp(disch:=decide) only[h12,hi,hn]
 .obtain⟨h0,i1,i13⟩:=hI;repeat' first|apply jb<;>intro _|simp(disch:=try exact dzG) only[r8,γ,ε]
  refine jd3 ?_;rw[jch λj hj=>h0 j hj hj];rfl
def mt0:MtT:=⟨0,[],0,0⟩
def Jl (vars:List VarT)(enums:List EnumT)(x:Ex):KR (Ex×MtT):=
 if 0<=qr vars x.name then
  (let v:=vars.getD (qr vars x.name).toNat ⟨[],0,[],0,0,false,0⟩
   .ok (.mk 4 (qr vars x.name) [] [] x.line x.col,⟨v.kind,v.enum,v.lo,v.hi⟩))
 else if(zw enums x.name).2<0 then .er 161 x.line x.col
 else .ok (.mk 1 (zw enums x.name).2 [] [] x.line x.col,⟨3,(zw enums x.name).1,(zw enums x.name).2,(zw enums x.name).2⟩)
def kO (r:KR (Ex×MtT)):Oc:=match r with
 |.ok x=>.ok (.tup [.agg (eE x.1),.agg (mtE x.2)])
 |.er c l k=>.pn (kf c l k)
theorem uN {α:Type}{q:α->Bool}:∀ {xs:List α},fi q xs<(xs.length:Int)
 |[]=>by simp[fi]
 |x :: xs=>by
  have:=uN (q:=q) (xs:=xs);have hl:((x :: xs).length:Int)=(xs.length:Int)+1:=by simp
  rw[hl];unfold fi;split
  .omega
  .split<;>omega
theorem joW (hb:NB base)(vars:List VarT)(enums:List EnumT)(hl:vars.length<=BIG)(hl2:enums.length<=BIG)(hv:∀ e∈enums,e.vals.length<=1000000)(x:Ex)(r:List AV) :
  PL δ base 174 [.lptr (.lst vars.length (fl vaE vars) :: .lst enums.length (fl enE enums) :: r) 0,.agg (eE x)] (kO (Jl vars enums x)):=by
 have V:=λst K Kp=>(K7 hb vars hl x.name (.lst enums.length (fl enE enums) :: r)).pa haa (λst=>hb.no 133 dc _ _) st K Kp;have W:=λst K Kp=>(joo hb enums hl2 hv x.name (.lst vars.length (fl vaE vars)) r).pa haa (λst=>hb.no 193 dc _ _) st K Kp;have VT:=qr vars x.name;by_cases h1:0<=qr vars x.name
 .have hlt:qr vars x.name<(vars.length:Int):=uN;have hlt2:(qr vars x.name).toNat<vars.length:=om
  obtain⟨v,hv⟩:∃ v,vars[(qr vars x.name).toNat]=v:=⟨_,rfl⟩;have hn:Jl vars enums x=.ok (.mk 4 (qr vars x.name) [] [] x.line x.col,⟨v.kind,v.enum,v.lo,v.hi⟩):=by
   unfold Jl;rw[if_pos h1];simp only[Qab,Qad hlt2,QaM,hv]
  rw[hn];refine yb jlC haa (hb.pur 174 5 dc) haa ?_;simp only[jf3,jj,ζ,θ,κ,μ];rw[(by unfold Kh;simp only[qq];rfl:Kh=_)]
  (have zz:=aI @yI @yH;repeat' first|apply jb<;>intro _|simp(disch:=try exact j9) only[V,h1,qI,hv,sm3,sm9,sm2,yI,yH,r8,γ,ε])
  exact FzD.tup (.cons Yu (.cons (.agg (.pc rfl)) .nil))
 .have h1':qr vars x.name<0:=om
  by_cases h2:(zw enums x.name).2<0
  .have hn:Jl vars enums x=.er 161 x.line x.col:=by unfold Jl;rw[if_neg h1,if_pos h2]
   rw[hn];refine yb jlC haa (hb.pur 174 5 dc) haa ?_;simp only[jf3,jj,ζ,θ,κ,μ];rw[(by unfold Kh;simp only[qq];rfl:Kh=_)];repeat' first|apply jb<;>intro _|simp(disch:=try exact dzG) only[V,W,h1,h2,zS hb,qI,kO,r8,γ,ε]
   exact FzD.iface (FzD.agg (.pc rfl))
  .have hn:Jl vars enums x=.ok (.mk 1 (zw enums x.name).2 [] [] x.line x.col,⟨3,(zw enums x.name).1,(zw enums x.name).2,(zw enums x.name).2⟩):=by unfold Jl;rw[if_neg h1,if_neg h2]
   rw[hn];refine yb jlC haa (hb.pur 174 5 dc) haa ?_;simp only[jf3,jj,ζ,θ,κ,μ];rw[(by unfold Kh;simp only[qq];rfl:Kh=_)];repeat' first|apply jb<;>intro _|simp(disch:=try exact dzG) only[V,W,h1,h2,qI,r8,γ,ε]
   exact FzD.tup (.cons Yu (.cons (.agg (.pc rfl)) .nil))
def jhp (part:Int)(ms:List MtT):Bool:=ms.any λm=>(decide (0<part) && decide (m.kind≠part)) ||decide (m.kind≠(ms.getD 0 mt0).kind) ||decide (m.enum≠(ms.getD 0 mt0).enum)
def wj (fm:Bool)(op num:Int)(name:Lc)(l c:Int)(ys:List Ex)(ms:List MtT):KR (Ex×MtT):=
 if ms.length=0\/2<ms.length\/(WV op=true/\fm=false)\/jhp (yC op).1 ms=true then .er 163 l c
 else if(yC op).2≠1 then .ok (.mk op num name ys l c,⟨(yC op).2,[],0,1⟩)
 else if(zL op (ms.getD 0 mt0) (ms.getD (ms.length - 1) mt0)).1 < -100000000\/100000000<(zL op (ms.getD 0 mt0) (ms.getD (ms.length - 1) mt0)).2 then .er 165 l c
 else .ok (.mk op num name ys l c,⟨(yC op).2,[],(zL op (ms.getD 0 mt0) (ms.getD (ms.length - 1) mt0)).1,(zL op (ms.getD 0 mt0) (ms.getD (ms.length - 1) mt0)).2⟩)
mutual
def zd (vars:List VarT)(enums:List EnumT):Bool->Ex->KR (Ex×MtT)
 |fm,.mk op num name ks l c=>
  if op=1 then .ok (.mk op num name ks l c,⟨1,[],num,num⟩)
  else if op=2 then .ok (.mk op num name ks l c,⟨2,[],0,1⟩)
  else if op=3 then Jl vars enums (.mk op num name ks l c)
  else match qE vars enums (fm && decide (op≠17) && decide (op≠18)) ks with
   |.er a b d=>.er a b d
   |.ok r=>wj fm op num name l c r.1 r.2
def qE (vars:List VarT)(enums:List EnumT):Bool->List Ex->KR (List Ex×List MtT)
 |_,[]=>.ok ([],[])
 |fm,x :: xs=>match zd vars enums fm x with
  |.er a b d=>.er a b d
  |.ok y=>match qE vars enums fm xs with
   |.er a b d=>.er a b d
   |.ok r=>.ok (y.1 :: r.1,y.2 :: r.2)
end
theorem jaC {vars:List VarT}{enums:List EnumT}{fm:Bool}:∀ {xs:List Ex} {ys:List Ex} {ms:List MtT} {x y:Ex} {m:MtT},qE vars enums fm xs=.ok (ys,ms)->zd vars enums fm x=.ok (y,m)->qE vars enums fm (xs ++ [x])=.ok (ys ++ [y],ms ++ [m])
 |[],ys,ms,x,y,m,h,h2=>by
  simp only[qE] at h;cases h;simp only[Qam,qE,h2]
 |z :: xs,ys,ms,x,y,m,h,h2=>by
  simp only[qE] at h;cases hz:zd vars enums fm z with
  |er a b d=>rw[hz] at h;cases h
  |ok w=>
   rw[hz] at h;cases hr:qE vars enums fm xs with
   |er a b d=>rw[hr] at h;cases h
   |ok r=>
    rw[hr] at h;cases h;obtain⟨r1,r2⟩:=r;simp only[Qai,qE,hz,jaC hr h2]
theorem jaD {vars:List VarT}{enums:List EnumT}{fm:Bool}:∀ {xs:List Ex} {ys:List Ex} {ms:List MtT} {x:Ex} {a b d:Int} (zs:List Ex),qE vars enums fm xs=.ok (ys,ms)->zd vars enums fm x=.er a b d->qE vars enums fm (xs ++ x :: zs)=.er a b d
 |[],ys,ms,x,a,b,d,zs,h,h2=>by simp only[Qam,qE,h2]
 |z :: xs,ys,ms,x,a,b,d,zs,h,h2=>by
  simp only[qE] at h;cases hz:zd vars enums fm z with
  |er a b d=>rw[hz] at h;cases h
  |ok w=>
   rw[hz] at h;cases hr:qE vars enums fm xs with
   |er a b d=>rw[hr] at h;cases h
   |ok r=>
    rw[hr] at h;cases h;obtain⟨r1,r2⟩:=r;simp only[Qai,qE,hz,jaD zs hr h2]
theorem QA {vars:List VarT}{enums:List EnumT}{fm:Bool}:∀ {xs:List Ex} {ys:List Ex} {ms:List MtT},qE vars enums fm xs=.ok (ys,ms)->ys.length=xs.length/\ms.length=xs.length
 |[],ys,ms,h=>by simp only[qE] at h;cases h;exact⟨rfl,rfl⟩
 |z :: xs,ys,ms,h=>by
  simp only[qE] at h;cases hz:zd vars enums fm z with
  |er a b d=>rw[hz] at h;cases h
  |ok w=>
   rw[hz] at h;cases hr:qE vars enums fm xs with
   |er a b d=>rw[hr] at h;cases h
   |ok r=>
    rw[hr] at h;cases h;obtain⟨r1,r2⟩:=r;have:=QA hr;simp[this.1,this.2]
theorem Vo (vars:List VarT)(enums:List EnumT)(fm:Bool)(x:Ex):zd vars enums fm x=if x.op=1 then .ok (x,⟨1,[],x.num,x.num⟩) else if x.op=2 then .ok (x,⟨2,[],0,1⟩) else if x.op=3 then Jl vars enums x else match qE vars enums (fm && decide (x.op≠17) && decide (x.op≠18)) x.kids with
 |.er a b d=>.er a b d
 |.ok r=>wj fm x.op x.num x.name x.line x.col r.1 r.2:=by cases x;rw[zd];rfl
structure VarsOK (vars:List VarT)(enums:List EnumT):Prop where
 len:vars.length<=1000000
 len2:enums.length<=1000000
 vals:∀ e∈enums,e.vals.length<=1000000
 ends:∀ v∈vars,-100000000<=v.lo/\v.lo<=100000000/\-100000000<=v.hi/\v.hi<=100000000
mutual
def ZN:Ex->Bool
 |.mk op num _ ks _ _=>(decide (op≠1) ||(decide (-100000000<=num) && decide (num<=100000000))) && J9 ks
def J9:List Ex->Bool
 |[]=>true
 |x :: xs=>ZN x && J9 xs
end
theorem jlG {enums:List EnumT}{nm:Lc}(h:∀ e∈enums,e.vals.length<=1000000) : -1<=(zw enums nm).2/\(zw enums nm).2<=1000000:=by
 induction enums with
 |nil=>simp[zw]
 |cons e es ih=>
  rw[zw];have h1:=h e hac;have h2:=uN (q:=λv=>decide (nm=v)) (xs:=e.vals);split
  .dsimp only;omega
  .exact ih λe he=>h e (by simp[he])
theorem jd9 {vars:List VarT}{enums:List EnumT}(V:VarsOK vars enums){x y:Ex}{m:MtT}(h:Jl vars enums x=.ok (y,m)):wu m:=by
 unfold Jl at h;split at h
 .rename_i h1;cases h;have hlt:qr vars x.name<(vars.length:Int):=uN;have hlt2:(qr vars x.name).toNat<vars.length:=om
  have:vars.getD (qr vars x.name).toNat ⟨[],0,[],0,0,false,0⟩∈vars:=by
   rw[Qab,Qad hlt2];exact Qaa hlt2
  exact V.ends _ this
 .split at h
  .cases h
  .cases h;have:=jlG (nm:=x.name) V.vals;unfold wu;dsimp only;omega
mutual
theorem jgH {vars:List VarT}{enums:List EnumT}(V:VarsOK vars enums):∀ (fm:Bool) (x y:Ex) (m:MtT),ZN x=true->zd vars enums fm x=.ok (y,m)->wu m
 |fm,.mk op num name ks l c,y,m,hn,h=>by
  rw[ZN,ψ] at hn;rw[zd] at h;split at h
  .rename_i h1;cases h;have:=hn.1;simp[h1] at this;exact⟨this.1,this.2,this.1,this.2⟩
  .split at h
   .cases h;unfold wu;dsimp only;omega
   .split at h
    .exact jd9 V h
    .split at h
     .cases h
     .rename_i r hr;unfold wj at h;split at h
      .cases h
      .split at h
       .cases h;unfold wu;dsimp only;omega
       .split at h
        .cases h
        .rename_i h5;cases h;unfold wu;dsimp only;have e:(zL op (r.2.getD 0 mt0) (r.2.getD (r.2.length - 1) mt0)).1<=(zL op (r.2.getD 0 mt0) (r.2.getD (r.2.length - 1) mt0)).2:=by
          unfold zL;split
          .dsimp only;omega
          .split
           .dsimp only;omega
           .split
            .dsimp only;omega
            .dsimp only;omega
         omega
end
theorem Kd {vars:List VarT}{enums:List EnumT}(V:VarsOK vars enums){fm:Bool}:∀ {xs ys:List Ex} {ms:List MtT},J9 xs=true->qE vars enums fm xs=.ok (ys,ms)->∀ m∈ms,wu m
 |[],ys,ms,_,h,m,hm=>by simp only[qE] at h;cases h;cases hm
 |z :: xs,ys,ms,hn,h,m,hm=>by
  rw[J9,ψ] at hn;simp only[qE] at h;cases hz:zd vars enums fm z with
  |er a b d=>rw[hz] at h;cases h
  |ok w=>
   rw[hz] at h;cases hr:qE vars enums fm xs with
   |er a b d=>rw[hr] at h;cases h
   |ok r=>
    rw[hr] at h;cases h;obtain⟨r1,r2⟩:=r;obtain⟨w1,w2⟩:=w;rcases QaT.1 hm with rfl|hm
    .exact jgH V fm z w1 _ hn.1 hz
    .exact Kd V hn.2 hr m hm
theorem jar:∀ {xs:List Ex} {k:Nat} (h:k<xs.length),J9 xs=true->ZN xs[k]=true
 |x :: xs,0,_,h=>by rw[J9,ψ] at h;exact h.1
 |x :: xs,k+1,hk,h=>by rw[J9,ψ] at h;exact jar (xs:=xs) (k:=k) (by simpa using hk) h.2
structure Ck (p:Nat)(v1 v2 v3 mm:AV)(vars:List VarT)(enums:List EnumT)(fm:Bool)(s:St):Prop where
 cl:Cl s p [v1,v2,v3,mm,.bool fm]
 l1:Lr s v1 vars.length (fl vaE vars)
 l2:Lr s v2 enums.length (fl enE enums)
 n1:∀ b m z x,v1=.slice b 0 vars.length m z x->b≠p
 n2:∀ b m z x,v2=.slice b 0 enums.length m z x->b≠p
section
variable {p:Nat} {v1 v2 v3 mm:AV} {vars:List VarT} {enums:List EnumT} {fm:Bool} {s s':St}
theorem Ck.keep (h:Ck p v1 v2 v3 mm vars enums fm s)(k:Keep p s s'){fm':Bool}(C:Cl s' p [v1,v2,v3,mm,.bool fm']):Ck p v1 v2 v3 mm vars enums fm' s':=⟨C,k.lr h.l1 h.n1,k.lr h.l2 h.n2,h.n1,h.n2⟩
theorem Ck.lend (h:Ck p v1 v2 v3 mm vars enums fm s):∃ r,lend s.h (.ptr p 0)=some (.lptr (.lst vars.length (fl vaE vars) :: .lst enums.length (fl enE enums) :: r) 0):=by
 have e1:=h.l1.fz (d:=7) (zq YP vars);have e2:=h.l2.fz (d:=7) (zq JT enums);exact⟨_,Yt h.cl (zQ e1 rfl (zQ e2 rfl rfl))⟩
end
theorem joX (hb:NB base){vars:List VarT}{enums:List EnumT}(V:VarsOK vars enums)(x:Ex){p:Nat}{v1 v2 v3 mm:AV}{fm:Bool}(st:St)(C:Ck p v1 v2 v3 mm vars enums fm st)(K Kp:AV->St->Prop) :
  XB δ base 174 [.ptr p 0,.agg (eE x)] st K Kp=Ys (kO (Jl vars enums x)) K Kp st:=by
 obtain⟨r,hr⟩:=C.lend;have h1:=V.len;have h2:=V.len2;exact(joW hb vars enums (by unfold BIG;omega) (by unfold BIG;omega) V.vals x r).xb (qw hr (yh (by first|rfl|simp[pa,pc,yd,Q7,JT,Jy,YP,wB,wL,Je,ZP]) rfl)) (λst=>hb.no 174 dc _ _) K Kp
def z6:List AV:=[.int .i64 0,.int .i64 0,.str [],.nils,.int .i64 0,.int .i64 0]
def z4:List AV:=[.int .i64 0,.str [],.int .i64 0,.int .i64 0]
def KC (p:Nat)(v1 v2 v3 mm:AV)(fm:Bool)(st:St)(r:KR (Ex×MtT))(K Kp:AV->St->Prop):Prop:=match r with
 |.ok y=>∀ s',Keep p st s'->Cl s' p [v1,v2,v3,mm,.bool fm]->K (.tup [.agg (eE y.1),.agg (mtE y.2)]) s'
 |.er c l k=>∀ s',Keep p st s'->Kp (kf c l k) s'
theorem jpq {st s:St}{b:Nat}{cs:List AV}:Cl (back st s) b cs=Cl s b cs:=propext ⟨λh=>⟨h.lt,h.row,h.len,h.cell⟩,λh=>⟨h.lt,h.row,h.len,h.cell⟩⟩
theorem Cl.kills {s:St}{b:Nat}{cs:List AV}{ks:Lc}(C:Cl s b cs)(h:b∉ks):Cl (kills ks s) b cs:=C.keep (η _) (by
 show jv (ks.foldr _ s.h) b=_;rw[JQ,if_neg h])
theorem kJ {p:Nat}{st s:St}{v u:AV}{cs:List AV}{K:AV->St->Prop}{m:Nat}(F:FzD m 9 s v u)(hm:st.nx<=m)(hp:p<st.nx)(k:Keep p st.bare s)(C:Cl s p cs)(hK:∀ s',Keep p st s'->Cl s' p cs->K u s') :
  ∃ u ks,fz 9 s.h v=some (u,ks)/\K u (back st (kills ks s)):=by
 obtain⟨ks,e,h⟩:=F;have hnx:st.bare.nx=st.nx:=rfl;refine⟨u,ks,e,hK _ (Keep.bare (k.kills λc hc=>by have:=h c hc;omega) st) ?_⟩;rw[jpq];exact C.kills λhm=>by have:=h p hm;omega
theorem YJ {p:Nat}{st s:St}(k:Keep p st.bare s):Keep p st (bk st s):=⟨k.nx,rfl,k.get⟩
def iQ (st:St)(K:AV->St->Prop):Out->Prop:=Xo δ y97.res λv s=>∃ u ks,fz 9 s.h v=some (u,ks)/\K u (back st (kills ks s))
def iP (st:St)(Kp:AV->St->Prop):AV->Sl->St->Prop:=λv _ s=>Kp v (bk st s)
structure KS (p q:Nat)(v1 v2 v3 mm:AV)(x:Ex)(fm:Bool)(st:St)(ys:List Ex)(ms:List MtT)(vk vm:AV)(L:Sl)(s:St):Prop where
 keep:Keep p st.bare s
 nx:q+4<=s.nx
 qn:q=st.nx
 hp:p<q
 cp:Cl s p [v1,v2,v3,mm,.bool fm]
 c0:Cl s q (eE x)
 c1:Cl s (q+1) z6
 c2:Cl s (q+2) z4
 c3:Cl s (q+3) [.int .i64 x.op,.int .i64 x.num,.str x.name,vk,.int .i64 x.line,.int .i64 x.col]
 lk:Lv (q+4) s.nx s vk ys.length (fl eE ys) 6
 lm:Lv (q+4) s.nx s vm ms.length (fl mtE ms) 4
 df:Df vk vm
 i0:Has L 0 (.ptr p 0)
 i3:Has L 3 (.ptr q 0)
 i4:Has L 4 (.ptr (q+1) 0)
 i5:Has L 5 (.ptr (q+2) 0)
 i6:Has L 6 (.ptr (q+3) 0)
 i7:Has L 7 vm
def KW (fm:Bool)(op:Int)(ms:List MtT):Bool:=decide (ms.length=0) ||decide (2<ms.length) ||(WV op && !fm) ||jhp (yC op).1 ms
theorem jmj {fm:Bool}{op num:Int}{name:Lc}{l c:Int}{ys:List Ex}{ms:List MtT}(h:KW fm op ms=true):wj fm op num name l c ys ms=.er 163 l c:=by
 unfold wj;unfold KW at h;simp only[QaE,decide_eq_true_eq,ψ,QaO] at h;rw[if_pos (by simpa only[or_assoc] using h)]
theorem jtp {fm:Bool}{op:Int}{ms:List MtT}(h:KW fm op ms=false):¬ (ms.length=0\/2<ms.length\/(WV op=true/\fm=false)\/jhp (yC op).1 ms=true):=by
 intro h2;have:KW fm op ms=true:=by
  unfold KW;simp only[QaE,decide_eq_true_eq,ψ,QaO];simpa only[or_assoc] using h2
 rw[this] at h;cases h
theorem Lv.klD {lo hi n z:Nat}{s:St}{v:AV}{cs:List AV}{b o m1 m2 z2:Nat}{x:Bool}(V:Lv lo hi s v n cs z)(h:Df v (.slice b o m1 m2 z2 x)):Lv lo hi (kl b s) v n cs z:=by
 rcases V with e|⟨c,rfl,h2,h3,h4,h5,h6⟩
 .exact .inl e
 .exact .inr ⟨c,rfl,h2,h3,(jT (λe=>h e.symm)).symm▸h4,h5,h6⟩
theorem jiI (hb:NB base)(op:Int)(ms:List MtT)(h0:0<ms.length)(hl:ms.length<=2)(he:∀ m∈ms,wu m)(st:St)(b m:Nat)(y:Bool)(D:Cl st b (fl mtE ms))(K Kp:AV->St->Prop) :
  XB δ base 177 [.int .i64 op,.slice b 0 ms.length m 4 y] st K Kp=K (.tup [.int .i64 (zL op (ms.getD 0 mt0) (ms.getD (ms.length - 1) mt0)).1,.int .i64 (zL op (ms.getD 0 mt0) (ms.getD (ms.length - 1) mt0)).2]) (kl b st):=by
 have e0:ms[0]=ms.getD 0 mt0:=by simp[Qaf,h0]
 have e1:ms[ms.length - 1]=ms.getD (ms.length - 1) mt0:=by simp[Qaf,show ms.length - 1<ms.length by omega]
 have F:Fza st [.int .i64 op,.slice b 0 ms.length m 4 y] [.int .i64 op,.lst ms.length (fl mtE ms)] [b]:=Fza.pa rfl (Fza.sl D (zZ Yf ms).symm (zq ZP ms) .nil);exact(jj5 hb op ms h0 hl he _ _ e0 e1).xf F (λst=>hb.no 177 dc _ _) K Kp
theorem jsH (hb:NB base){p q:Nat}{v1 v2 v3 mm:AV}{x:Ex}{fm b:Bool}{st:St}{ys:List Ex}{ms:List MtT}{vk vm:AV}{L:Sl}{s:St}(S:KS p q v1 v2 v3 mm x fm st ys ms vk vm L s)(hb2:KW fm x.op ms=b)(he:∀ m∈ms,wu m)
  (i13:Has L 13 (.int .i64 (yC x.op).1)) (i14:Has L 14 (.int .i64 (yC x.op).2)) (i15:Has L 15 (.bool b)) (K Kp:AV->St->Prop) (hK:KC p v1 v2 v3 mm fm st (wj fm x.op x.num x.name x.line x.col ys ms) K Kp) :
  xC δ base jfP L s (iQ st K) (iP st Kp):=by
 obtain⟨k,nx,qn,hp,Cp,C0,C1,C2,C3,lk,lm,df,i0,i3,i4,i5,i6,i7⟩:=S;have hnp:p<s.nx:=Cp.lt;unfold z6 z4 at *;unfold iQ iP y97;rw[(by unfold jfP;simp only[qq];rfl:jfP=_)];cases b with
 |true=>
  rw[jmj hb2] at hK
  (have zz:=C0.r;repeat' first|apply jb<;>intro _|simp(disch:=try exact j9) only[ja i0,ja i3,ja i15,zS hb,C0.q,C0.r,r8,γ,ε])
  exact hK _ (YJ k)
 |false=>
  have hnb:=jtp hb2;have hlen:0<ms.length/\ms.length<=2:=om
  unfold wj at hK;rw[if_neg hnb] at hK;have vc:∀ l,lall AV.cell (vk :: l)=lall AV.cell l:=λl=>by show cond vk.cell _ false=_;rw[lk.cell];rfl
  have qnx:q+4<=st.nx+4:=om
  by_cases ho:(yC x.op).2=1
  .rw[if_neg (by simpa using ho)] at hK;rcases lm with ⟨_,h9,_⟩|⟨d,rfl,h2,h3,C5,h5,h6⟩
   .omega
   have N:=jiI hb x.op ms hlen.1 hlen.2 he;obtain⟨r1,r2,hr⟩:∃ r1 r2,zL x.op (ms.getD 0 mt0) (ms.getD (ms.length - 1) mt0)=(r1,r2):=⟨_,_,rfl⟩;rw[hr] at hK N;dsimp only at hK N;have f1:(r1 < -(99999999+1))=(r1 < -100000000):=by rfl
   by_cases hr1:r1 < -100000000
   .rw[if_pos (.inl hr1)] at hK
    (have zz:=a4 C0.r C1.r C2.r (aI C3.r C5.r);repeat' first|apply jb<;>intro _|simp(disch:=try exact j9) only[ja i0,ja i3,ja i4,ja i5,ja i6,ja i7,ja i14,ja i15,ho,N,f1,hr1,zS hb,C0.q,C1.q,C2.q,C3.q,C5.q,C0.r,C1.r,C2.r,C3.r,C5.r,r8,γ,ε])
    exact hK _ (YJ (k.kl (by show st.nx<=_;omega)))
   .by_cases hr2:100000000<r2
    .rw[if_pos (.inr hr2)] at hK
     (have zz:=a4 C0.r C1.r C2.r (aI C3.r C5.r);repeat' first|apply jb<;>intro _|simp(disch:=try exact j9) only[ja i0,ja i3,ja i4,ja i5,ja i6,ja i7,ja i14,ja i15,ho,N,f1,hr1,hr2,zS hb,C0.q,C1.q,C2.q,C3.q,C5.q,C0.r,C1.r,C2.r,C3.r,C5.r,r8,γ,ε])
     exact hK _ (YJ (k.kl (by show st.nx<=_;omega)))
    .rw[if_neg om] at hK;have hK:∀ s',Keep p st s'->Cl s' p [v1,v2,v3,mm,.bool fm]->K (.tup [.agg (eE (.mk x.op x.num x.name ys x.line x.col)),.agg (mtE ⟨(yC x.op).2,[],r1,r2⟩)]) s':=hK;rw[qx] at hK
     (have zz:=a4 @vc C0.r C1.r (aI C2.r (aI C3.r C5.r));repeat' first|apply jb<;>intro _|simp(disch:=try exact j9) only[ja i0,ja i3,ja i4,ja i5,ja i6,ja i7,ja i14,ja i15,ho,N,f1,hr1,hr2,C0.q,C1.q,C2.q,C3.q,C5.q,vc,C0.r,C1.r,C2.r,C3.r,C5.r,r8,γ,ε])
     rw[ho] at hK;refine kJ (m:=st.nx) (cs:=[v1,v2,v3,mm,.bool fm]) (FzD.tup (.cons (FzD.agg (.cons (.pc rfl) (.cons (.pc rfl) (.cons (.pc rfl) (.cons (Lv.fz (lo:=q+4) (hi:=s.nx) (z:=6) ?_ om (zq yd _)) (.cons (.pc rfl) (.cons (.pc rfl) .nil))))))) (.cons (.agg (.pc rfl)) .nil))) (η _) om ?_ ?_ hK
     .have:=lk.klD df
      exact ckX
     .exact(((k.kl (by show st.nx<=_;omega)).wr (.inr (by show st.nx<=_;omega)) _ _).wr (.inr (by show st.nx<=_;omega)) _ _)
     .exact ckX
  .rw[if_pos ho] at hK;have hK:∀ s',Keep p st s'->Cl s' p [v1,v2,v3,mm,.bool fm]->K (.tup [.agg (eE (.mk x.op x.num x.name ys x.line x.col)),.agg (mtE ⟨(yC x.op).2,[],0,1⟩)]) s':=hK;rw[qx] at hK
   (have zz:=a4 @vc C0.r C1.r (aI C2.r C3.r);repeat' first|apply jb<;>intro _|simp(disch:=try exact j9) only[ja i0,ja i3,ja i4,ja i5,ja i6,ja i14,ja i15,ho,C0.q,C1.q,C2.q,C3.q,vc,C0.r,C1.r,C2.r,C3.r,r8,γ,ε])
   refine kJ (m:=st.nx) (cs:=[v1,v2,v3,mm,.bool fm]) (FzD.tup (.cons (FzD.agg (.cons (.pc rfl) (.cons (.pc rfl) (.cons (.pc rfl) (.cons (Lv.fz (lo:=q+4) (hi:=s.nx) (z:=6) ?_ om (zq yd _)) (.cons (.pc rfl) (.cons (.pc rfl) .nil))))))) (.cons (.agg (.pc rfl)) .nil))) (η _) om ?_ ?_ hK
   .exact ckX
   .exact((k.wr (.inr (by show st.nx<=_;omega)) _ _).wr (.inr (by show st.nx<=_;omega)) _ _)
   .exact ckX
def jhq (part:Int)(k0:Int)(e0:Lc)(m:MtT):Bool:=(decide (0<part) && decide (m.kind≠part)) ||decide (m.kind≠k0) ||decide (m.enum≠e0)
theorem Has.bool {c:Nat}{a b:Bool}{L:Sl}(h:a=b):Has ((c,.bool a) :: L) c (.bool b):=by rw[h];simp only[jn]
theorem jpv (part:Int)(ms:List MtT):jhp part ms=ms.any (jhq part (ms.getD 0 mt0).kind (ms.getD 0 mt0).enum):=rfl
section
variable {p q:Nat} {v1 v2 v3 mm:AV} {x:Ex} {fm:Bool} {st:St} {ys:List Ex} {ms:List MtT} {vk vm:AV} {L:Sl} {s:St}
theorem KS.nw (S:KS p q v1 v2 v3 mm x fm st ys ms vk vm L s)(ds:List AV):KS p q v1 v2 v3 mm x fm st ys ms vk vm L (nw s ds):=by
 obtain⟨k,nx,qn,hp,Cp,C0,C1,C2,C3,lk,lm,df,i0,i3,i4,i5,i6,i7⟩:=S;have h0:=C0.lt;have h1:=C1.lt;have h2:=C2.lt;have h3:=C3.lt;have h4:=Cp.lt;exact⟨k.nw ds,by rw[jf];omega,qn,hp,ckX,ckX,ckX,ckX,ckX,((jG (η _)).symm▸lk:Lv _ _ (Go.Sy.nw s ds) _ _ _ _).up (by rw[jf];omega),((jG (η _)).symm▸lm:Lv _ _ (Go.Sy.nw s ds) _ _ _ _).up (by rw[jf];omega),df,i0,i3,i4,i5,i6,i7⟩
theorem KS.push (S:KS p q v1 v2 v3 mm x fm st ys ms vk vm L s){c:Nat}{v:AV}(h:c≠0/\c≠3/\c≠4/\c≠5/\c≠6/\c≠7):KS p q v1 v2 v3 mm x fm st ys ms vk vm ((c,v) :: L) s:=by
 obtain⟨k,nx,qn,hp,Cp,C0,C1,C2,C3,lk,lm,df,i0,i3,i4,i5,i6,i7⟩:=S;obtain⟨h0,h3,h4,h5,h6,h7⟩:=h;exact⟨k,nx,qn,hp,Cp,C0,C1,C2,C3,lk,lm,df,by rw[je h0];exact i0,by rw[je h3];exact i3,by rw[je h4];exact i4,by rw[je h5];exact i5,by rw[je h6];exact i6,by rw[je h7];exact i7⟩
theorem KS.wr (S:KS p q v1 v2 v3 mm x fm st ys ms vk vm L s){c o:Nat}{ds:List AV}{hi:Nat}(hc:hi<=c)(lk':Lv (q+4) hi s vk ys.length (fl eE ys) 6)(lm':Lv (q+4) hi s vm ms.length (fl mtE ms) 4)(hq:q+4<=hi)(hs:hi<=s.nx):KS p q v1 v2 v3 mm x fm st ys ms vk vm L (wr s c o ds):=by
 obtain⟨k,nx,qn,hp,Cp,C0,C1,C2,C3,lk,lm,df,i0,i3,i4,i5,i6,i7⟩:=S;have h4:=Cp.lt;exact⟨k.wr (.inr (by show st.nx<=_;omega)) _ _,by rw[ji];exact nx,qn,hp,ckX,ckX,ckX,ckX,ckX,((jD (.inr hc)).symm▸lk':Lv _ _ (Go.Sy.wr s c o ds) _ _ _ _).up (by rw[ji];exact hs),((jD (.inr hc)).symm▸lm':Lv _ _ (Go.Sy.wr s c o ds) _ _ _ _).up (by rw[ji];exact hs),df,i0,i3,i4,i5,i6,i7⟩
end
theorem jsI (hb:NB base){p q:Nat}{v1 v2 v3 mm:AV}{x:Ex}{fm b:Bool}{st:St}{ys:List Ex}{ms:List MtT}{vk vm:AV}{L:Sl}{s:St}(S:KS p q v1 v2 v3 mm x fm st ys ms vk vm L s)(hb2:(decide (ms.length=0) ||decide (2<ms.length) ||(WV x.op && !fm))=b)(hml:ms.length<=1000000)(he:∀ m∈ms,wu m)
  (i13:Has L 13 (.int .i64 (yC x.op).1)) (i14:Has L 14 (.int .i64 (yC x.op).2)) (i15:Has L 15 (.bool b)) (K Kp:AV->St->Prop) (hK:KC p v1 v2 v3 mm fm st (wj fm x.op x.num x.name x.line x.col ys ms) K Kp) :
  xC δ base jbX L s (iQ st K) (iP st Kp):=by
 have vl:=S.lm.len;have i7:=S.i7;have bq:KW fm x.op ms=(b ||ms.any (jhq (yC x.op).1 (ms.getD 0 mt0).kind (ms.getD 0 mt0).enum)):=by rw[<-jpv,<-hb2];rfl
 rw[(by unfold jbX;simp only[qq];rfl:jbX=_)];repeat' first|apply jb<;>intro _|simp(disch:=try exact dzG) only[ja i7,vl,r8,γ,ε]
 refine jU ms.length (λk L s=>KS p q v1 v2 v3 mm x fm st ys ms vk vm L s/\Has L 13 (.int .i64 (yC x.op).1)/\Has L 14 (.int .i64 (yC x.op).2)/\Has L 15 (.bool (b ||(ms.take k).any (jhq (yC x.op).1 (ms.getD 0 mt0).kind (ms.getD 0 mt0).enum)))/\Has L 115 vm) ?_ (λk L s hk hI hi hn=>?_) (λL s hI=>?_) (hc:=(λk L s v h=>⟨h.1.push dc,by simp(disch:=decide) only[je];exact h.2⟩)) (hI:=(λk L s v h=>⟨h.1.push dc,by simp(disch:=decide) only[je];exact h.2⟩))
 .refine⟨((S.push dc).push dc).push dc,?_⟩;simp(disch:=decide) only[je,jn,QaG,List.any_nil,Bool.or_false];exact⟨i13,i14,i15,trivial⟩
 .obtain⟨S,j13,j14,j15,j115⟩:=hI;have S0:=S;obtain⟨k',nx,qn,hp,Cp,C0,C1,C2,C3,lk,lm,df,j0,j3,j4,j5,j6,j7⟩:=S;have qnx:q+4<=st.nx+4:=om
  rcases lm with ⟨_,h9,_⟩|⟨d,rfl,h2,h3,C5,h5,h6⟩
  .omega
  have e0:ms.getD 0 mt0=ms[0]:=by simp[Qaf,show 0<ms.length by omega]
  have g0:(fl mtE ms).getD 0 .bad=.int .i64 ms[0].kind:=(v7 Yf (i:=0) om (k:=0) dc).trans (by rw[jnL];rfl);have g1:(fl mtE ms).getD 1 .bad=.str ms[0].enum:=(v7 Yf (i:=0) om (k:=1) dc).trans (by rw[jnL];rfl);have tk:List.take (k+1) ms=List.take k ms ++ [ms[k]]:=by rw[QbX,Qad hk];rfl
  rw[e0] at j15;rw[tk,e0,List.any_append,List.any_cons,List.any_nil,Bool.or_false];have S1:∀ ba:Bool,KS p q v1 v2 v3 mm x fm st ys ms vk (.slice d 0 ms.length ms.length 4 false) ((15,.bool ba) :: (17,.ptr s.nx 0) :: L) (wr (nw s [.int .i64 0,.str [],.int .i64 0,.int .i64 0]) s.nx 0 (mtE ms[k])):=λba=>
   (((S0.push dc).push dc).nw _).wr (c:=s.nx) (hi:=s.nx) (η _) (ckX) (by have:=S0.lm;exact ckX) om (by rw[jf];omega)
  (have zz:=C5.r;repeat' first|apply jb<;>intro _|simp(disch:=try exact j9) only[ja j115,ja hi,ja hn,ja j13,ja j14,ja j15,ja j7,jgQ Yf,g0,g1,C5.q,C5.r,r8,γ,ε])
  all_goals simp(disch:=decide) only[je,jn]
  all_goals refine⟨⟨S1 _,j13,j14,?_,j115⟩,hi,hn⟩
  all_goals apply Has.bool
  all_goals clear hb2 S1 S0 hK he hml bq C5 k' Cp C0 C1 C2 C3 lk df j0 j3 j4 j5 j6 j7 g0 g1 i13 i14 i15 j13 j14 j15 vl i7 e0 tk nx
  all_goals generalize List.any _ _=A at *
  all_goals unfold jhq
  all_goals cases b<;>cases A<;>simp_all<;>omega
 .obtain⟨S,j13,j14,j15,j115⟩:=hI;rw[Qak] at j15;exact jsH hb S bq he j13 j14 j15 K Kp hK
theorem KS.setp {p q:Nat}{v1 v2 v3 mm:AV}{x:Ex}{fm:Bool}{st:St}{ys:List Ex}{ms:List MtT}{vk vm:AV}{L:Sl}{s:St}(S:KS p q v1 v2 v3 mm x fm st ys ms vk vm L s)(b:Bool):KS p q v1 v2 v3 mm x b st ys ms vk vm L (Go.Sy.wr s p 4 [.bool b]):=by
 obtain⟨k,nx,qn,hp,Cp,C0,C1,C2,C3,lk,lm,df,i0,i3,i4,i5,i6,i7⟩:=S;have h0:=C0.lt;have h1:=C1.lt;have h2:=C2.lt;have h3:=C3.lt;exact⟨k.wr (.inl rfl) _ _,by rw[ji];exact nx,qn,hp,Cp.wr 4 [.bool b],ckX,ckX,ckX,ckX,ckX,ckX,df,i0,i3,i4,i5,i6,i7⟩
theorem jsJ (hb:NB base){p q:Nat}{v1 v2 v3 mm:AV}{x:Ex}{fm fm2:Bool}{st:St}{ys:List Ex}{ms:List MtT}{vk vm:AV}{L:Sl}{s:St}(S:KS p q v1 v2 v3 mm x fm2 st ys ms vk vm L s)(hml:ms.length<=1000000)(he:∀ m∈ms,wu m)
  (i8:Has L 8 (.bool fm)) (K Kp:AV->St->Prop) (hK:KC p v1 v2 v3 mm fm st (wj fm x.op x.num x.name x.line x.col ys ms) K Kp) :
  xC δ base jfQ L s (iQ st K) (iP st Kp):=by
 have vl:=S.lm.len;have i7:=S.i7;have i0:=S.i0;have i3:=S.i3;have Cp:=S.cp;have C0:=S.c0;have hqp:q≠p:=by have:=S.hp;omega
 have S1:=S.setp fm;have C9:=S1.cp;have ee:∀ b,(decide (ms.length=0) ||decide (2<ms.length) ||(WV x.op && !fm))=b->xC δ base jbX ((15,.bool b) :: (14,.int .i64 (yC x.op).2) :: (13,.int .i64 (yC x.op).1) :: L) (wr s p 4 [.bool fm]) (iQ st K) (iP st Kp):=λb hb2=>jsI hb (((S1.push dc).push dc).push dc) hb2 hml he (by simp(disch:=decide) only[je,jn]) (by simp(disch:=decide) only[je,jn]) (by simp only[jn]) K Kp hK;rw[(by unfold jfQ;simp only[qq];rfl:jfQ=_)]
 (have zz:=aI @Cp.r C0.r;repeat' first|apply jb<;>intro _|simp(disch:=try exact j9) only[ja i0,ja i3,ja i7,ja i8,vl,joj hb,jrE hb,Cp.q,C0.q,Cp.r,C0.r,r8,γ,ε])
 all_goals refine ee _ ?_
 all_goals clear ee S1 S hK
 all_goals clear vl
 all_goals(cases fm<;>simp_all<;>first|omega|(left;omega))
theorem Lr.bare {s:St}{v:AV}{n:Nat}{cs:List AV}(h:Lr s v n cs):Lr s.bare v n cs:=by
 rcases h with e|e|⟨b,m,z,x,e,h1,h2⟩
 .exact .inl e
 .exact .inr (.inl e)
 .exact .inr (.inr ⟨b,m,z,x,e,h1,h2.bar⟩)
theorem Ck.bare {p:Nat}{v1 v2 v3 mm:AV}{vars:List VarT}{enums:List EnumT}{fm:Bool}{s:St}(h:Ck p v1 v2 v3 mm vars enums fm s):Ck p v1 v2 v3 mm vars enums fm s.bare:=⟨h.cl.bar,h.l1.bare,h.l2.bare,h.n1,h.n2⟩
section
variable {p q:Nat} {v1 v2 v3 mm:AV} {x:Ex} {fm:Bool} {st:St} {ys:List Ex} {ms:List MtT} {vk vm:AV} {L:Sl} {s t:St}
theorem KS.keep' (S:KS p q v1 v2 v3 mm x fm st ys ms vk vm L s)(k:Keep p s t){fm':Bool}(C:Cl t p [v1,v2,v3,mm,.bool fm']):KS p q v1 v2 v3 mm x fm' st ys ms vk vm L t:=by
 obtain⟨k',nx,qn,hp,Cp,C0,C1,C2,C3,lk,lm,df,i0,i3,i4,i5,i6,i7⟩:=S;exact⟨k'.trans k,by have:=k.nx;omega,qn,hp,C,k.cl C0 om,k.cl C1 om,k.cl C2 om,k.cl C3 om,(k.lv lk (.inl om)).up k.nx,(k.lv lm (.inl om)).up k.nx,df,i0,i3,i4,i5,i6,i7⟩
theorem KS.kid (S:KS p q v1 v2 v3 mm x fm st ys ms vk vm L s)(y:Ex):KS p q v1 v2 v3 mm x fm st (ys ++ [y]) ms (apv 6 vk s) vm L (Go.Sy.wr (Go.Sy.aps vk s (eE y)) (q+3) 3 [apv 6 vk s]):=by
 obtain⟨k,nx,qn,hp,Cp,C0,C1,C2,C3,lk,lm,df,i0,i3,i4,i5,i6,i7⟩:=S;have hn:(Go.Sy.wr (Go.Sy.aps vk s (eE y)) (q+3) 3 [apv 6 vk s]).nx=s.nx+1:=by rw[ji,jm]
 have h4:=Cp.lt;have cq:∀ c ds,Cl s c ds->c<q+4->c≠q+3->Cl (Go.Sy.wr (Go.Sy.aps vk s (eE y)) (q+3) 3 [apv 6 vk s]) c ds:=λc ds C h h3=>by
  rw[jA h3,lk.cl s (eE y) ds c (.inl h) om];exact C
 refine⟨(k.aps lk (by show st.nx<=_;omega) (eE y)).wr (.inr (by show st.nx<=_;omega)) _ _,by rw[hn];omega,qn,hp,cq _ _ Cp om om,cq _ _ C0 om om,cq _ _ C1 om om,cq _ _ C2 om om,?_,?_,?_,?_,i0,i3,i4,i5,i6,i7⟩
 .have:=(cast (lk.cl s (eE y) _ (q+3) (.inl om) om).symm C3:Cl (Go.Sy.aps vk s (eE y)) (q+3) _);exact this.wr 3 [apv 6 vk s]
 .rw[hn,jD (.inl om),υ,Xl,Qc];exact lk.put (Jp y) om rfl
 .rw[hn,jD (.inl om)];exact(lm.apsD df).up om
 .exact(Df.put lm (η _)).1
theorem KS.mt (S:KS p q v1 v2 v3 mm x fm st ys ms vk vm L s)(m:MtT):KS p q v1 v2 v3 mm x fm st ys (ms ++ [m]) vk (apv 4 vm s) ((7,apv 4 vm s) :: L) (Go.Sy.aps vm s (mtE m)):=by
 obtain⟨k,nx,qn,hp,Cp,C0,C1,C2,C3,lk,lm,df,i0,i3,i4,i5,i6,i7⟩:=S;have hn:(Go.Sy.aps vm s (mtE m)).nx=s.nx+1:=by rw[jm]
 have h4:=Cp.lt;have cq:∀ c ds,Cl s c ds->c<q+4->Cl (Go.Sy.aps vm s (mtE m)) c ds:=λc ds C h=>by
  rw[lm.cl s (mtE m) ds c (.inl h) om];exact C
 refine⟨k.aps lm (by show st.nx<=_;omega) (mtE m),by rw[hn];omega,qn,hp,cq _ _ Cp om,cq _ _ C0 om,cq _ _ C1 om,cq _ _ C2 om,cq _ _ C3 om,?_,?_,?_,?_,?_,?_,?_,?_,?_⟩
 .rw[hn];exact(lk.apsD (Df.symm df)).up om
 .rw[hn,υ,Xl,Qc];exact lm.put (Yf m) om rfl
 .exact(Df.put lk (η _)).2
 .rw[je dc];exact i0
 .rw[je dc];exact i3
 .rw[je dc];exact i4
 .rw[je dc];exact i5
 .rw[je dc];exact i6
 .rw[jn];trivial
end
mutual
def ww:Ex->Bool
 |.mk _ _ _ ks _ _=>decide (ks.length<=1000000) && YL ks
def YL:List Ex->Bool
 |[]=>true
 |x :: xs=>ww x && YL xs
end
theorem VV:∀ {xs:List Ex} {k:Nat} (h:k<xs.length),YL xs=true->ww xs[k]=true
 |x :: xs,0,_,h=>by rw[YL,ψ] at h;exact h.1
 |x :: xs,k+1,hk,h=>by rw[YL,ψ] at h;exact VV (xs:=xs) (k:=k) (by simpa using hk) h.2
def KE (base:Bs)(vars:List VarT)(enums:List EnumT)(x:Ex):Prop:=∀ (p:Nat) (v1 v2 v3 mm:AV) (fm:Bool) (st:St),Ck p v1 v2 v3 mm vars enums fm st->∀ K Kp,KC p v1 v2 v3 mm fm st (zd vars enums fm x) K Kp->XB δ base 139 [.ptr p 0,.agg (eE x)] st K Kp
theorem jsK (hb:NB base){vars:List VarT}{enums:List EnumT}(V:VarsOK vars enums){p q:Nat}{v1 v2 v3 mm:AV}{x:Ex}{fm fm2:Bool}{st:St}{vk vm:AV}{L:Sl}{s:St}(ih:∀ k∈x.kids,KE base vars enums k)(hn:J9 x.kids=true)(hw:x.kids.length<=1000000)(H:Ck p v1 v2 v3 mm vars enums fm st)(S:KS p q v1 v2 v3 mm x fm2 st [] [] vk vm L s)
  (i8:Has L 8 (.bool fm)) (K Kp:AV->St->Prop) (hK:KC p v1 v2 v3 mm fm st (match qE vars enums fm2 x.kids with
   |.er a b d=>.er a b d
   |.ok r=>wj fm x.op x.num x.name x.line x.col r.1 r.2) K Kp) :
  xC δ base jbY L s (iQ st K) (iP st Kp):=by
 have C0:=S.c0;have i3:=S.i3;rw[(by unfold jbY;simp only[qq];rfl:jbY=_)]
 (have zz:=C0.r;repeat' first|apply jb<;>intro _|simp(disch:=try exact j9) only[ja i3,C0.q,C0.r,r8,γ,ε])
 refine jU x.kids.length (λk L s=>∃ ys ms vk vm,KS p q v1 v2 v3 mm x fm2 st ys ms vk vm L s/\qE vars enums fm2 (x.kids.take k)=.ok (ys,ms)/\Has L 8 (.bool fm)/\Has L 62 (.lst x.kids.length (fl eE x.kids))) ?_ (λk L s hk hI hi hn=>?_) (λL s hI=>?_) (hc:=(λk L s v h=>(by obtain⟨ys,ms,vk,vm,h1,h2,h3,h4⟩:=h;exact⟨ys,ms,vk,vm,h1.push dc,h2,by simp(disch:=decide) only[je];exact h3,by simp(disch:=decide) only[je];exact h4⟩))) (hI:=(λk L s v h=>(by obtain⟨ys,ms,vk,vm,h1,h2,h3,h4⟩:=h;exact⟨ys,ms,vk,vm,h1.push dc,h2,by simp(disch:=decide) only[je];exact h3,by simp(disch:=decide) only[je];exact h4⟩)))
 .refine⟨[],[],vk,vm,((S.push dc).push dc).push dc,by rw[QaG,qE],?_,?_⟩
  .simp(disch:=decide) only[je];exact i8
  .simp(disch:=decide) only[je,jn]
 .obtain⟨ys,ms,vk,vm,S,he,j8,j62⟩:=hI;have Cp:=S.cp;have C3:=S.c3;have j0:=S.i0;have j6:=S.i6;have j7:=S.i7;repeat' first|apply jb<;>intro _|simp(disch:=try exact dzG) only[ja j0,ja j62,ja hi,ja hn,r8,γ,ε]
  have S0:KS p q v1 v2 v3 mm x fm2 st ys ms vk vm ((10,.ptr s.nx 0) :: L) (wr (nw s [.int .i64 0,.int .i64 0,.str [],.nils,.int .i64 0,.int .i64 0]) s.nx 0 (eE x.kids[k])):=
   ((S.push dc).nw _).wr (c:=s.nx) (hi:=s.nx) (η _) (by have:=S.lk;exact ckX) (by have:=S.lm;exact ckX) S.nx (by rw[jf];omega)
  refine ih x.kids[k] (Qaa hk) p v1 v2 v3 mm fm2 _ (H.bare.keep S0.keep S0.cp) _ _ ?_;cases hx:zd vars enums fm2 x.kids[k] with
  |er a b d=>
   intro s' hk';have e:qE vars enums fm2 x.kids=.er a b d:=by
    have:=jaD (x.kids.drop (k+1)) he hx;rwa [QbP,QbD] at this
   rw[e] at hK;exact hK _ (YJ (S0.keep.trans hk'))
  |ok w=>
   intro s' hk' hC;have S1:=S0.keep' hk' hC;obtain⟨y,m⟩:=w;have he':qE vars enums fm2 (x.kids.take (k+1))=.ok (ys ++ [y],ms ++ [m]):=by
    rw[QbX,Qad hk];exact jaC he hx
   generalize wr (nw s [.int .i64 0,.int .i64 0,.str [],.nils,.int .i64 0,.int .i64 0]) s.nx 0 (eE x.kids[k])=t0 at *;clear S0;have A1:=λst bv xc xx K h hv=>@Jt (q+4) s'.nx ys.length 6 st vk (fl eE ys) K 72 bv xc xx h dc (by have:=QA he;rw[Qas] at this;omega) (by have:=QA he;rw[Qas] at this;omega) hv;have vk1:=S1.lk;have vm1:=S1.lm;have hq:=S1.nx;have C3':=S1.c3;have S2:=((((S1.push (c:=11) (v:=.ptr s'.nx 0) dc).push (c:=12) (v:=.ptr (s'.nx+1) 0) dc).nw [.int .i64 0,.int .i64 0,.str [],.nils,.int .i64 0,.int .i64 0]).nw [.int .i64 0,.str [],.int .i64 0,.int .i64 0]).wr (c:=s'.nx) (o:=0) (ds:=eE y) (hi:=s'.nx) (η _) (ckX) (ckX) hq nxX;have S2:=(S2.wr (c:=s'.nx+1) (o:=0) (ds:=mtE m) (hi:=s'.nx) om (ckX) (ckX) hq nxX).nw (eE y);have S4:=(S2.kid y).nw (mtE m);have A2:=λbv xc xx K hv=>@Jt (q+4) _ ms.length 4 _ vm (fl mtE ms) K 40 bv xc xx S4.lm dc (by have:=QA he;rw[Qas] at this;omega) (by have:=QA he;rw[Qas] at this;omega) hv
   (have zz:=a8 @vk1.ln @vk1.rts @jD @jG @jJ @vk1 @vm1 (a4 @jC @jI @jM @C3'.r);repeat' first|apply jb<;>intro _|simp(disch:=try exact j9) only[ja j0,ja j6,ja j7,A1,A2,vk1.at,jC,C3'.q,vk1.ln,vk1.rts,jD,jG,jJ,vk1,vm1,jC,jI,jM,C3'.r,r8,γ,ε])
   refine⟨⟨_,_,_,_,S4.mt m,he',?_,?_⟩,?_,?_⟩;all_goals exact hsX
 .obtain⟨ys,ms,vk,vm,S,he,j8,j62⟩:=hI;rw[Qak] at he;rw[he] at hK;refine jsJ hb S ?_ ?_ j8 K Kp hK
  .have:=QA he;omega
  .exact Kd V hn he
theorem jsL (hb:NB base){vars:List VarT}{enums:List EnumT}(V:VarsOK vars enums){p q:Nat}{v1 v2 v3 mm:AV}{x:Ex}{fm:Bool}{st:St}{L:Sl}{s:St}(ih:∀ k∈x.kids,KE base vars enums k)(hn:J9 x.kids=true)(hw:x.kids.length<=1000000)(H:Ck p v1 v2 v3 mm vars enums fm st)(hop:x.op≠1/\x.op≠2/\x.op≠3)
  (k:Keep p st.bare s) (hs:s.nx=q+3) (qn:q=st.nx) (hp:p<q) (Cp:Cl s p [v1,v2,v3,mm,.bool fm]) (C0:Cl s q (eE x)) (C1:Cl s (q+1) z6) (C2:Cl s (q+2) z4) (i0:Has L 0 (.ptr p 0)) (i3:Has L 3 (.ptr q 0)) (i4:Has L 4 (.ptr (q+1) 0)) (i5:Has L 5 (.ptr (q+2) 0)) (K Kp:AV->St->Prop) (hK:KC p v1 v2 v3 mm fm st (zd vars enums fm x) K Kp) :
  xC δ base jfR L s (iQ st K) (iP st Kp):=by
 rw[Vo,if_neg hop.1,if_neg hop.2.1,if_neg hop.2.2] at hK;have hqp:q+3≠p:=om
 have hq3:q≠p:=om
 have hpq:p≠q+3:=om
 have S0:KS p q v1 v2 v3 mm x fm st [] [] .nils .nils ((8,.bool fm) :: (7,.nils) :: (6,.ptr (q+3) 0) :: L) (wr (wr (nw s [.int .i64 0,.int .i64 0,.str [],.nils,.int .i64 0,.int .i64 0]) (q+3) 0 [.int .i64 x.op,.int .i64 x.num,.str x.name,.lst x.kids.length (fl eE x.kids),.int .i64 x.line,.int .i64 x.col]) (q+3) 3 [.nils]):=by
  refine⟨((k.nw _).wr (.inr (by show st.nx<=_;omega)) _ _).wr (.inr (by show st.nx<=_;omega)) _ _,nxX,qn,hp,ckX,ckX,ckX,ckX,?_,Lv.nil,Lv.nil,trivial,?_,?_,?_,?_,?_,?_⟩
  .have:=((hs▸Cl.new s [.int .i64 0,.int .i64 0,.str [],.nils,.int .i64 0,.int .i64 0]:Cl (nw s [.int .i64 0,.int .i64 0,.str [],.nils,.int .i64 0,.int .i64 0]) (q+3) _).wr 0 [.int .i64 x.op,.int .i64 x.num,.str x.name,.lst x.kids.length (fl eE x.kids),.int .i64 x.line,.int .i64 x.col]).wr 3 [.nils];exact this
  all_goals(simp(disch:=decide) only[je,jn];try assumption)
 have ee:∀ b,(fm && decide (x.op≠17) && decide (x.op≠18))=b->xC δ base jbY ((8,.bool fm) :: (7,.nils) :: (6,.ptr (q+3) 0) :: L) (wr (wr (wr (nw s [.int .i64 0,.int .i64 0,.str [],.nils,.int .i64 0,.int .i64 0]) (q+3) 0 [.int .i64 x.op,.int .i64 x.num,.str x.name,.lst x.kids.length (fl eE x.kids),.int .i64 x.line,.int .i64 x.col]) (q+3) 3 [.nils]) p 4 [.bool b]) (iQ st K) (iP st Kp):=λb e=>by
  rw[e] at hK;exact jsK hb V ih hn hw H (S0.setp b) (by simp only[jn]) K Kp hK
 rw[(by unfold jfR;simp only[qq];rfl:jfR=_)]
 (have zz:=aI @hs (aI @Cp.r C0.r);repeat' first|apply jb<;>intro _|simp(disch:=try exact j9) only[ja i0,ja i3,hs,Cp.q,C0.q,hs,Cp.r,C0.r,r8,γ,ε])
 all_goals refine ee _ ?_
 all_goals clear ee S0 hK
 all_goals(cases fm<;>simp_all)
theorem jsM (hb:NB base){vars:List VarT}{enums:List EnumT}(V:VarsOK vars enums){p q:Nat}{v1 v2 v3 mm:AV}{x:Ex}{fm:Bool}{st:St}{L:Sl}{s:St}(ih:∀ k∈x.kids,KE base vars enums k)(hn:J9 x.kids=true)(hw:x.kids.length<=1000000)(H:Ck p v1 v2 v3 mm vars enums fm st)
  (k:Keep p st.bare s) (hs:s.nx=q+3) (qn:q=st.nx) (hp:p<q) (Cp:Cl s p [v1,v2,v3,mm,.bool fm]) (C0:Cl s q (eE x)) (C1:Cl s (q+1) z6) (C2:Cl s (q+2) z4) (i0:Has L 0 (.ptr p 0)) (i3:Has L 3 (.ptr q 0)) (i4:Has L 4 (.ptr (q+1) 0)) (i5:Has L 5 (.ptr (q+2) 0)) (K Kp:AV->St->Prop) (hK:KC p v1 v2 v3 mm fm st (zd vars enums fm x) K Kp) :
  xC δ base wh L s (iQ st K) (iP st Kp):=by
 have nk:=λK Kp=>joX hb V x s (H.bare.keep k Cp) K Kp;have fin:∀ (y:Ex) (m:MtT) (s':St),Keep p st.bare s'->Cl s' p [v1,v2,v3,mm,.bool fm]->zd vars enums fm x=.ok (y,m)->∃ u ks,fz 9 s'.h (.tup [.agg (eE y),.agg (mtE m)])=some (u,ks)/\K u (back st (kills ks s')):=λy m s' k' C h=>by
  rw[h] at hK;exact kJ (m:=st.nx) (cs:=[v1,v2,v3,mm,.bool fm]) (FzD.tup (.cons (FzD.agg (.pc (yd y))) (.cons (.agg (.pc (ZP m))) .nil))) (η _) om k' C hK
 by_cases h1:x.op=1
 .have e:=Vo vars enums fm x;rw[if_pos h1] at e;unfold iQ iP y97;rw[(by unfold wh;simp only[qq];rfl:wh=_)];unfold z6 z4 at *;have f:=fin x ⟨1,[],x.num,x.num⟩ (wr (wr s (q+1) 0 (eE x)) (q+2) 0 (mtE ⟨1,[],x.num,x.num⟩)) ((k.wr (.inr (by show st.nx<=_;omega)) _ _).wr (.inr (by show st.nx<=_;omega)) _ _) (ckX) e;rw[qx,h1] at f
  (have zz:=a4 @Cp.r C0.r C1.r C2.r;repeat' first|apply jb<;>intro _|simp(disch:=try exact j9) only[ja i0,ja i3,ja i4,ja i5,h1,QT,sm2,Cp.q,C0.q,C1.q,C2.q,Cp.r,C0.r,C1.r,C2.r,r8,γ,ε])
  refine⟨?_,f⟩;have a1:rat s.h q 1=.int .i64 x.num:=(C0.cell 1 (by rw[Jp];decide)).trans (by rw[jsV];rfl);exact⟨(sm2 (by rw[C0.len,Jp];decide) a1 rfl).mpr trivial,(sm2 (by rw[Xg,C0.len,Jp];decide) (by rw[wb om];exact a1) rfl).mpr trivial⟩
 .by_cases h2:x.op=2
  .have e:=Vo vars enums fm x;rw[if_neg h1,if_pos h2] at e;unfold iQ iP y97;rw[(by unfold wh;simp only[qq];rfl:wh=_)];unfold z6 z4 at *;have f:=fin x ⟨2,[],0,1⟩ (wr (wr s (q+1) 0 (eE x)) (q+2) 0 (mtE ⟨2,[],0,1⟩)) ((k.wr (.inr (by show st.nx<=_;omega)) _ _).wr (.inr (by show st.nx<=_;omega)) _ _) (ckX) e;rw[qx,h2] at f
   (have zz:=a4 @Cp.r C0.r C1.r C2.r;repeat' first|apply jb<;>intro _|simp(disch:=try exact j9) only[ja i0,ja i3,ja i4,ja i5,h2,Cp.q,C0.q,C1.q,C2.q,Cp.r,C0.r,C1.r,C2.r,r8,γ,ε])
   exact f
  .by_cases h3:x.op=3
   .have e:=Vo vars enums fm x;rw[if_neg h1,if_neg h2,if_pos h3] at e;rw[qx,h3] at nk;unfold z6 z4 at *;cases hr:Jl vars enums x with
    |er a b d=>
     rw[e,hr] at hK;rw[hr] at nk;rw[(by unfold wh;simp only[qq];rfl:wh=_)]
     (have zz:=a4 @Cp.r C0.r C1.r C2.r;repeat' first|apply jb<;>intro _|simp(disch:=try exact j9) only[ja i0,ja i3,ja i4,ja i5,h3,nk,kO,jgv,Cp.q,C0.q,C1.q,C2.q,Cp.r,C0.r,C1.r,C2.r,r8,γ,ε])
     exact hK _ (YJ k)
    |ok y=>
     obtain⟨y,m⟩:=y;have f:=fin y m (wr (wr s (q+1) 0 (eE y)) (q+2) 0 (mtE m)) ((k.wr (.inr (by show st.nx<=_;omega)) _ _).wr (.inr (by show st.nx<=_;omega)) _ _) (ckX) (e.trans hr);rw[hr] at nk;unfold iQ iP y97;rw[(by unfold wh;simp only[qq];rfl:wh=_)]
     (have zz:=a4 @Cp.r C0.r C1.r C2.r;repeat' first|apply jb<;>intro _|simp(disch:=try exact j9) only[ja i0,ja i3,ja i4,ja i5,h3,nk,kO,wG,Cp.q,C0.q,C1.q,C2.q,Cp.r,C0.r,C1.r,C2.r,r8,γ,ε])
     exact f
   .have ee:=λL (j0:Has L 0 (.ptr p 0)) (j3:Has L 3 (.ptr q 0)) (j4:Has L 4 (.ptr (q+1) 0)) (j5:Has L 5 (.ptr (q+2) 0))=>jsL hb V ih hn hw H ⟨h1,h2,h3⟩ k hs qn hp Cp C0 C1 C2 j0 j3 j4 j5 K Kp hK;rw[(by unfold wh;simp only[qq];rfl:wh=_)]
    (have zz:=C0.r;repeat' first|apply jb<;>intro _|simp(disch:=try exact j9) only[ja i0,ja i3,h1,h2,h3,C0.q,C0.r,r8,γ,ε])
    refine ee _ ?_ ?_ ?_ ?_;all_goals exact hsX
theorem jsG (hb:NB base){vars:List VarT}{enums:List EnumT}(V:VarsOK vars enums):∀ x:Ex,ZN x=true->ww x=true->KE base vars enums x:=by
 refine Ex.indk λx ih hn hw p v1 v2 v3 mm fm st H K Kp hK=>?_;have hn':J9 x.kids=true:=by cases x;rw[ZN,ψ] at hn;exact hn.2
 have hw':x.kids.length<=1000000/\YL x.kids=true:=by cases x;rw[ww,ψ,decide_eq_true_eq] at hw;exact hw
 have ih':∀ k∈x.kids,KE base vars enums k:=λk hk=>by
  obtain⟨i,hi,rfl⟩:=Qbm.1 hk;exact ih _ hk (jar hi hn') (VV hi hw'.2)
 refine vW x97 haa (hb.pur 139 2 dc) (hb.no 139 dc _ _) ?_;simp only[y97,jj,ζ,θ,κ,μ];have Cp:=H.cl.bar;have h0:p<st.nx:=H.cl.lt;have hB:st.bare.nx=st.nx:=rfl;rw[(by unfold z97;simp only[qq];rfl:z97=_)]
 (have zz:=@Cp.r;repeat' first|apply jb<;>intro _|simp(disch:=try exact j9) only[Cp.q,Cp.r,r8,γ,ε])
 have Hc:=H.cl;have n0:Cl (nw st.bare (eE x)) st.nx (eE x):=Cl.new st.bare (eE x);have n1:Cl (nw (nw st.bare (eE x)) z6) (st.nx+1) z6:=Cl.new _ _;have n2:Cl (nw (nw (nw st.bare (eE x)) z6) z4) (st.nx+2) z4:=Cl.new _ _;refine jsM (L:=[(5,.ptr (st.nx+1+1) 0),(4,.ptr (st.nx+1) 0),(3,.ptr st.nx 0),(0,.ptr p 0),(1,.agg (eE x))]) (s:=nw (nw (nw st.bare (eE x)) z6) z4) (st:=st) hb V ih' hn' hw'.1 H ((((Keep.refl (s:=st.bare)).nw _).nw _).nw _) rfl rfl h0 (ckX) (ckX) (ckX) n2 ?_ ?_ ?_ ?_ K Kp hK;all_goals exact⟨rfl,rfl⟩
variable {base:Bs}
def yK (vars:List VarT)(enums:List EnumT)(fm:Bool)(x:Ex)(w:Int)(en:Lc):KR Ex:=match zd vars enums fm x with
 |.er a b c=>.er a b c
 |.ok r=>if r.2.kind≠w\/r.2.enum≠en then .er 163 x.line x.col else .ok r.1
def KT (p:Nat)(v1 v2 v3 mm:AV)(fm:Bool)(st:St)(r:KR Ex)(K Kp:AV->St->Prop):Prop:=match r with
 |.ok y=>∀ s',Keep p st s'->Cl s' p [v1,v2,v3,mm,.bool fm]->K (.agg (eE y)) s'
 |.er c l k=>∀ s',Keep p st s'->Kp (kf c l k) s'
theorem UX (hb:NB base){vars:List VarT}{enums:List EnumT}(V:VarsOK vars enums)(x:Ex)(hn:ZN x=true)(hw:ww x=true)(w:Int)(en:Lc){p:Nat}{v1 v2 v3 mm:AV}{fm:Bool}{st:St}(H:Ck p v1 v2 v3 mm vars enums fm st)(K Kp:AV->St->Prop)(hK:KT p v1 v2 v3 mm fm st (yK vars enums fm x w en) K Kp):XB δ base 99 [.ptr p 0,.agg (eE x),.int .i64 w,.str en] st K Kp:=by
 refine vW x60 haa (hb.pur 99 2 dc) (hb.no 99 dc _ _) ?_;simp only[y60,jj,ζ,θ,κ,μ];have Hc:=H.cl;have Cp:=H.cl.bar;have h0:p<st.nx:=H.cl.lt;have hB:st.bare.nx=st.nx:=rfl;have k1:Keep p st.bare (nw (nw st.bare (eE x)) [.int .i64 0,.int .i64 0,.str [],.nils,.int .i64 0,.int .i64 0]):=(Keep.refl.nw _).nw _;have C1:Cl (nw (nw st.bare (eE x)) [.int .i64 0,.int .i64 0,.str [],.nils,.int .i64 0,.int .i64 0]) p [v1,v2,v3,mm,.bool fm]:=ckX
 have n0:Cl (nw st.bare (eE x)) st.nx (eE x):=Cl.new st.bare (eE x);have n0:Cl (nw (nw st.bare (eE x)) [.int .i64 0,.int .i64 0,.str [],.nils,.int .i64 0,.int .i64 0]) st.nx (eE x):=ckX
 have n1:Cl (nw (nw st.bare (eE x)) [.int .i64 0,.int .i64 0,.str [],.nils,.int .i64 0,.int .i64 0]) (st.nx+1) [.int .i64 0,.int .i64 0,.str [],.nils,.int .i64 0,.int .i64 0]:=Cl.new _ _;rw[(by unfold z60;simp only[qq];rfl:z60=_)];repeat' first|apply jb<;>intro _|simp(disch:=try exact dzG) only[r8,γ,ε]
 refine jsG hb V x hn hw p v1 v2 v3 mm fm _ (H.bare.keep k1 C1) _ _ ?_;unfold yK at hK;cases hr:zd vars enums fm x with
 |er a b c=>
  rw[hr] at hK;intro s' k2;exact hK _ (YJ (k1.trans k2))
 |ok y=>
  rw[hr] at hK;obtain⟨y,m⟩:=y;intro s' k2 C2;have k3:=k1.trans k2;have m0:=k2.cl n0 om;have m1:=k2.cl n1 om;have hnx:=k2.nx;have hnx:st.nx+2<=s'.nx:=hnx;have hK:KT p v1 v2 v3 mm fm st (if m.kind≠w\/m.enum≠en then .er 163 x.line x.col else .ok y) K Kp:=hK;generalize nw (nw st.bare (eE x)) [.int .i64 0,.int .i64 0,.str [],.nils,.int .i64 0,.int .i64 0]=t0 at *
  (have zz:=aI @m0.r @m1.r;repeat' first|apply jb<;>intro _|simp(disch:=try exact j9) only[zS hb,m0.q,m1.q,m0.r,m1.r,r8,γ,ε])
  .rw[if_pos (.inl (by assumption))] at hK;exact hK _ (YJ ((((k3.nw _).nw _).wr (.inr (by show st.nx<=_;omega)) _ _).wr (.inr (by show st.nx<=_;omega)) _ _))
  .rw[if_pos (.inr (by assumption))] at hK;exact hK _ (YJ ((((k3.nw _).nw _).wr (.inr (by show st.nx<=_;omega)) _ _).wr (.inr (by show st.nx<=_;omega)) _ _))
  .rename_i h1 h2;rw[if_neg (by rintro (h|h)<;>contradiction)] at hK;refine kJ (m:=st.nx) (cs:=[v1,v2,v3,mm,.bool fm]) (FzD.agg (.pc (yd y))) (η _) h0 (((((k3.nw _).nw _).wr (.inr (by show st.nx<=_;omega)) _ _).wr (.inr (by show st.nx<=_;omega)) _ _).wr (.inr (by show st.nx<=_;omega)) _ _) (ckX) hK
section
variable {P:Program} {e:En} {st s:St} {K:AV->St->Prop}
def jgB (st:St):ER:=st.alloc (.map []) λb st=>.ok (.map b) st
def jgC (P:Program)(t:TypeId)(ok:Bool)(m k:AV)(st:St):ER:=(JM P t (O m) (O k) ok).run E0 st
def jlI (P:Program)(t:TypeId)(m k v:AV)(st:St):ER:=(zn P t (O m) (O k) (O v)).run E0 st
theorem juY:wK P base (.i .mkMap) e st K=jk (jgB st) K:=k_0 (V:=jgB) rfl (λ_=>rfl) K
theorem ji7 (t:TypeId)(m k:A)(ok:Bool):wK P base (.i (.look t m k ok)) e st K=on1 e m λv=>on1 e k λu=>jk (jgC P t ok v u st) K:=k_2 rfl (λ_=>rfl) K
theorem jnS (t:TypeId)(m k x:A):wK P base (.i (.upd t m k x)) e st K=on1 e m λv=>on1 e k λu=>on1 e x λw=>jk (jlI P t v u w st) K:=k_3 rfl (λ_=>rfl) K
def mpl (ts:Lb):List (AV×AV):=ts.map λt=>(.str t,.int .i64 1)
def mp (s:St)(b:Nat)(es:List (AV×AV)):St:=⟨s.nx,(j2 (jK b)).run (.map es) s.h,min s.dirty b,s.fr⟩
def nmp (s:St):St:=⟨s.nx+1,(j2 (jK s.nx)).run (.map []) s.h,s.dirty,s.fr⟩
theorem jgw (s:St)(b:Nat)(es:List (AV×AV)):(mp s b es).nx=s.nx:=nr rfl
theorem juU (s:St):(nmp s).nx=s.nx+1:=nr rfl
theorem Gk (s:St)(b c:Nat)(es:List (AV×AV)):jv (mp s b es).h c=if c=b then some (.map es) else jv s.h c:=by unfold mp;rw[jW]
theorem jjh (s:St)(c:Nat):jv (nmp s).h c=if c=s.nx then some (.map []) else jv s.h c:=by unfold nmp;rw[jW]
structure Mp (s:St)(b:Nat)(ts:Lb):Prop where
 lt:b<s.nx
 get:jv s.h b=some (.map (mpl ts))
theorem Mp.new (s:St):Mp (nmp s) s.nx []:=⟨by rw[juU];omega,by rw[jjh,if_pos rfl];rfl⟩
theorem Mp.keep {b:Nat}{ts:Lb}{t:St}(h:Mp s b ts)(h1:s.nx<=t.nx)(h2:jv t.h b=jv s.h b):Mp t b ts:=⟨Qat h.lt h1,h2.trans h.get⟩
theorem Mp.put {b:Nat}{ts us:Lb}(h:Mp s b ts):Mp (mp s b (mpl us)) b us:=⟨by rw[jgw];exact h.lt,by rw[Gk,if_pos rfl]⟩
theorem jud:jk (jgB st) K=K (.map st.nx) (nmp st):=by
 unfold jgB;rw[St.alloc_eq];rfl
end
theorem jnB:Tryz.prog.underlying 185=some (.map 9 3):=Qa0
theorem jrz:Tryz.prog.underlying 9=some .string:=Qa0
theorem ze3:UP δ 3=some (.int .i64 0):=Qa0
theorem kf9 (s:Lc):(Zv δ 9).run (.str s)=true:=by unfold Zv;rw[jrz]
theorem eq9 (s t:Lc):(eqF δ 20 9).run (.str s) (.str t)=some (decide (s=t)):=by
 show(eqF δ (19+1) 9).run (.str s) (.str t)=_;unfold eqF;rw[jrz,<-JW]
theorem jfd (nm:Lc):∀ ts:Lb,ZU (eqF δ 20 9) (.str nm) (mpl ts)=some (if nm∈ts then some (.int .i64 1) else none)
 |[]=>rfl
 |t :: ts=>by
  show(match (eqF δ 20 9).run (.str nm) (.str t) with|some b=>cond b (some (some (AV.int .i64 1))) (ZU (eqF δ 20 9) (.str nm) (mpl ts))|none=>none)=_;rw[eq9,jfd nm ts];by_cases h:nm=t
  .simp[h]
  .simp[h]
theorem jh8 (nm:Lc):∀ ts:Lb,nm∉ts->vI (eqF δ 20 9) (.str nm) (.int .i64 1) (mpl ts)=some (mpl (ts ++ [nm]))
 |[],_=>rfl
 |t :: ts,h=>by
  have h1:nm≠t:=λe=>h (by simp[e]);have h2:=jh8 nm ts λe=>h (by simp[e]);show(match (eqF δ 20 9).run (.str nm) (.str t) with
   |some b=>cond b (cond (Vy (.str nm) (.str t)) (some (Qal (AV.str nm,AV.int .i64 1) (mpl ts))) none) (match vI (eqF δ 20 9) (.str nm) (.int .i64 1) (mpl ts) with|some l=>some (Qal (AV.str t,AV.int .i64 1) l)|none=>none)
   |none=>none)=_
  rw[eq9,h2];simp[h1,mpl]
section
variable {st:St} {K:AV->St->Prop}
theorem jrq {b:Nat}{ts:Lb}(h:Mp st b ts)(nm:Lc):jk (jgC δ 185 false (.map b) (.str nm) st) K=K (.int .i64 (if nm∈ts then 1 else 0)) st:=by
 unfold jgC JM;rw[jnB];simp only[ze3];show jk (cond ((Zv δ 9).run (.str nm)) (Xz (jv st.h b) λes=>jN (ZU (eqF δ 20 9) (.str nm) es) λo=>_) .no) K=_;rw[kf9,h.get];show jk (jN (ZU (eqF δ 20 9) (.str nm) (mpl ts)) λo=>_) K=_;rw[jfd];by_cases h:nm∈ts
 .simp only[if_pos h];rfl
 .simp only[if_neg h];rfl
theorem jt7 {b:Nat}{ts:Lb}(h:Mp st b ts){nm:Lc}(hn:nm∉ts):jk (jlI δ 185 (.map b) (.str nm) (.int .i64 1) st) K=K qe (mp st b (mpl (ts ++ [nm]))):=by
 unfold jlI zn;rw[jnB];show jk (cond ((Zv δ 9).run (.str nm)) (Xz (jv st.h b) λes=>jN (vI (eqF δ 20 9) (.str nm) (.int .i64 1) es) λes=>st.put b (.map es) λst=>.ok qe st) .no) K=_;rw[kf9,h.get];show jk (jN (vI (eqF δ 20 9) (.str nm) (.int .i64 1) (mpl ts)) λes=>st.put b (.map es) λst=>.ok qe st) K=_;rw[jh8 nm ts hn];show jk (st.put b (.map (mpl (ts ++ [nm]))) λst=>.ok qe st) K=_;rw[St.put_eq];rfl
end
theorem gj (hb:NB base){p mb:Nat}{v1 v2 v3:AV}{fm:Bool}{ts:Lb}{st:St}(C:Cl st p [v1,v2,v3,.map mb,.bool fm])(M:Mp st mb ts)(nm:Lc)(l c:Int)(K Kp:AV->St->Prop)
  (hK:if nm∈ts then Kp (kf 162 l c) st else K (.tup []) (mp st mb (mpl (ts ++ [nm])))):XB δ base 94 [.ptr p 0,.str nm,.int .i64 l,.int .i64 c] st K Kp:=by
 refine qu x63 haa (hb.at0 94 dc dc _ _) ?_;simp only[y63,jj,ζ,θ,κ,μ];rw[(by unfold z63;simp only[qq];rfl:z63=_)];have M:Mp st.bare mb ts:=⟨M.lt,M.get⟩;have hK:if nm∈ts then Kp (kf 162 l c) (bk st st.bare) else K (.tup []) (bk st (mp st.bare mb (mpl (ts ++ [nm])))):=hK
 have C:=C.bar;have hbk:bk st st.bare=st:=rfl;have hbc:back st st.bare=st:=rfl;have hbb:st.bare.bare=st.bare:=rfl;generalize st.bare=s0 at *;have L1:=λK nm=>jrq (st:=s0) (K:=K) M nm;by_cases h:nm∈ts
 .rw[if_pos h] at hK
  (have zz:=C.r;repeat' first|apply jb<;>intro _|simp(disch:=try exact j9) only[ji7,jnS,L1,h,if_true,zS hb,C.q,C.r,r8,γ,ε])
  exact hK
 .rw[if_neg h] at hK;have U1:=λK=>jt7 (st:=s0) (K:=K) M h
  (have zz:=C.r;repeat' first|apply jb<;>intro _|simp(disch:=try exact j9) only[ji7,jnS,L1,U1,h,if_false,show((0:Int)+1)=1 from rfl,zS hb,C.q,C.r,r8,γ,ε])
  exact hK
variable {base:Bs}
structure Kq (p mb lo:Nat)(s s':St):Prop where
 nx:s.nx<=s'.nx
 fr:s'.fr=s.fr
 get:∀ b,b<lo->b≠p->b≠mb->jv s'.h b=jv s.h b
section
variable {p mb lo:Nat} {s t u:St}
theorem Kq.refl:Kq p mb lo s s:=⟨η _,rfl,λ_ _ _ _=>rfl⟩
theorem Kq.trans (h:Kq p mb lo s t)(k:Kq p mb lo t u):Kq p mb lo s u:=⟨χ h.nx k.nx,k.fr.trans h.fr,λb h1 h2 h3=>(k.get b h1 h2 h3).trans (h.get b h1 h2 h3)⟩
theorem Kq.nw (h:Kq p mb lo s t)(hl:lo<=t.nx)(ds:List AV):Kq p mb lo s (Go.Sy.nw t ds):=⟨Qcu h.nx,h.fr,λb h1 h2 h3=>(qp om).trans (h.get b h1 h2 h3)⟩
theorem Kq.wr (h:Kq p mb lo s t){c:Nat}(hc:c=p\/lo<=c)(o:Nat)(vs:List AV):Kq p mb lo s (Go.Sy.wr t c o vs):=⟨h.nx,h.fr,λb h1 h2 h3=>(qW om).trans (h.get b h1 h2 h3)⟩
theorem Kq.kl (h:Kq p mb lo s t){c:Nat}(hc:lo<=c):Kq p mb lo s (Go.Sy.kl c t):=⟨h.nx,h.fr,λb h1 h2 h3=>(vX om).trans (h.get b h1 h2 h3)⟩
theorem Kq.mp (h:Kq p mb lo s t)(es:List (AV×AV)):Kq p mb lo s (Go.Sy.mp t mb es):=⟨h.nx,h.fr,λb h1 h2 h3=>by rw[Gk,if_neg h3];exact h.get b h1 h2 h3⟩
theorem Kq.aps (h:Kq p mb lo s t){hi n z:Nat}{v:AV}{ds:List AV}{u:St}(V:Lv lo hi u v n ds z)(hl:lo<=t.nx)(news:List AV):Kq p mb lo s (Go.Sy.aps v t news):=⟨by rw[jm];exact Qcu h.nx,by rw[QM];exact h.fr,λb h1 h2 h3=>(V.get t news b (.inl h1) om).trans (h.get b h1 h2 h3)⟩
theorem Kq.keep (h:Kq p mb lo s t)(k:Keep p t u)(hl:lo<=t.nx):Kq p mb lo s u:=⟨χ h.nx k.nx,k.fr.trans h.fr,λb h1 h2 h3=>(k.get b om h2).trans (h.get b h1 h2 h3)⟩
theorem Kq.cl (h:Kq p mb lo s t){b:Nat}{cs:List AV}(C:Cl s b cs)(h1:b<lo)(h2:b≠p)(h3:b≠mb):Cl t b cs:=C.keep h.nx (h.get b h1 h2 h3)
theorem Kq.bk (h:Kq p mb lo s.bare t):Kq p mb lo s (bk s t):=⟨h.nx,rfl,h.get⟩
end
theorem Mp.nw {s:St}{b:Nat}{ts:Lb}(h:Mp s b ts)(ds:List AV):Mp (Go.Sy.nw s ds) b ts:=h.keep (Qbd _) (qp (by have:=h.lt;omega))
theorem Mp.wr {s:St}{b:Nat}{ts:Lb}(h:Mp s b ts){c:Nat}(hc:b≠c)(o:Nat)(ds:List AV):Mp (Go.Sy.wr s c o ds) b ts:=h.keep (η _) (qW hc)
theorem VD {s:St}{b c:Nat}{es:List (AV×AV)}{cs:List AV}(h:c≠b):Cl (mp s b es) c cs=Cl s c cs:=propext ⟨λC=>C.keep (QaY (jgw s b es)) (by rw[Gk,if_neg h]),λC=>C.keep (η _) (by rw[Gk,if_neg h])⟩
structure MS (p mb lo hi:Nat)(m:ModT)(ts:Lb)(v1 v2 v3:AV)(s:St):Prop where
 cp:Cl s p [v1,v2,v3,.map mb,.bool false]
 mp:Mp s mb ts
 l1:Lv lo hi s v1 m.vars.length (fl vaE m.vars) 7
 l2:Lv lo hi s v2 m.enums.length (fl enE m.enums) 4
 l3:Lv lo hi s v3 m.moves.length (fl moE m.moves) 7
 d12:Df v1 v2
 d13:Df v1 v3
 d23:Df v2 v3
 hp:p<lo
 hm:mb<lo
 pm:p≠mb
 lo:lo<=hi
 hi:hi<=s.nx
def MX (p mb lo:Nat)(m:ModT)(ts:Lb)(s:St):Prop:=∃ v1 v2 v3,MS p mb lo s.nx m ts v1 v2 v3 s
section
variable {p mb lo hi:Nat} {m:ModT} {ts us:Lb} {v1 v2 v3:AV} {s t:St}
theorem Lv.mp {n z:Nat}{v:AV}{cs:List AV}{es:List (AV×AV)}(h:Lv lo hi s v n cs z)(hm:mb<lo):Lv lo hi (Go.Sy.mp s mb es) v n cs z:=h.imp id λ⟨c,h1,h2,h3,h4,h5,h6⟩=>⟨c,h1,h2,h3,by rw[VD om];exact h4,h5,h6⟩
theorem MS.nw (S:MS p mb lo hi m ts v1 v2 v3 s)(ds:List AV):MS p mb lo hi m ts v1 v2 v3 (Go.Sy.nw s ds):=by
 obtain⟨C,M,l1,l2,l3,d12,d13,d23,hp,hm,pm,h1,h2⟩:=S;exact⟨ckX,M.nw ds,ckX,ckX,ckX,d12,d13,d23,hp,hm,pm,h1,by rw[jf];omega⟩
theorem MS.wr (S:MS p mb lo hi m ts v1 v2 v3 s){c:Nat}(hc:hi<=c)(o:Nat)(ds:List AV):MS p mb lo hi m ts v1 v2 v3 (Go.Sy.wr s c o ds):=by
 obtain⟨C,M,l1,l2,l3,d12,d13,d23,hp,hm,pm,h1,h2⟩:=S;exact⟨ckX,M.wr om o ds,ckX,ckX,ckX,d12,d13,d23,hp,hm,pm,h1,by rw[ji];omega⟩
theorem MS.take (S:MS p mb lo hi m ts v1 v2 v3 s)(us:Lb):MS p mb lo hi m us v1 v2 v3 (Go.Sy.mp s mb (mpl us)):=by
 obtain⟨C,M,l1,l2,l3,d12,d13,d23,hp,hm,pm,h1,h2⟩:=S;exact⟨by rw[VD pm];exact C,M.put,l1.mp hm,l2.mp hm,l3.mp hm,d12,d13,d23,hp,hm,pm,h1,h2⟩
theorem MS.keep (S:MS p mb lo hi m ts v1 v2 v3 s)(k:Keep p s t)(C':Cl t p [v1,v2,v3,.map mb,.bool false]):MS p mb lo hi m ts v1 v2 v3 t:=by
 obtain⟨C,M,l1,l2,l3,d12,d13,d23,hp,hm,pm,h1,h2⟩:=S;exact⟨C',M.keep k.nx (k.get mb M.lt om),k.lv l1 (.inl hp),k.lv l2 (.inl hp),k.lv l3 (.inl hp),d12,d13,d23,hp,hm,pm,h1,χ h2 k.nx⟩
theorem MS.up (S:MS p mb lo hi m ts v1 v2 v3 s){hi':Nat}(h:hi<=hi')(h2:hi'<=s.nx):MS p mb lo hi' m ts v1 v2 v3 s:=by
 obtain⟨C,M,l1,l2,l3,d12,d13,d23,hp,hm,pm,h1,h3⟩:=S;exact⟨C,M,l1.up h,l2.up h,l3.up h,d12,d13,d23,hp,hm,pm,χ h1 h,h2⟩
theorem MS.bare (S:MS p mb lo hi m ts v1 v2 v3 s):MS p mb lo hi m ts v1 v2 v3 s.bare:=by
 obtain⟨C,M,l1,l2,l3,d12,d13,d23,hp,hm,pm,h1,h2⟩:=S;exact⟨C.bar,⟨M.lt,M.get⟩,by rw[jH];exact l1,by rw[jH];exact l2,by rw[jH];exact l3,d12,d13,d23,hp,hm,pm,h1,h2⟩
theorem MS.ofbk {u:St}(S:MS p mb lo hi m ts v1 v2 v3 s):MS p mb lo hi m ts v1 v2 v3 (bk u s):=by
 obtain⟨C,M,l1,l2,l3,d12,d13,d23,hp,hm,pm,h1,h2⟩:=S;have e:∀ b cs,Cl s b cs->Cl (bk u s) b cs:=λb cs h=>⟨h.lt,h.row,h.len,h.cell⟩;have el:∀ v n cs z,Lv lo hi s v n cs z->Lv lo hi (bk u s) v n cs z:=λv n cs z h=>h.imp id λ⟨c,h1,h2,h3,h4,h5,h6⟩=>⟨c,h1,h2,h3,e _ _ h4,h5,h6⟩;exact⟨e _ _ C,⟨M.lt,M.get⟩,el _ _ _ _ l1,el _ _ _ _ l2,el _ _ _ _ l3,d12,d13,d23,hp,hm,pm,h1,h2⟩
theorem MS.enum (S:MS p mb lo hi m ts v1 v2 v3 s)(e:EnumT):MS p mb lo (s.nx+1) { m with enums:=m.enums ++ [e] } ts v1 (apv 4 v2 s) v3 (Go.Sy.wr (Go.Sy.aps v2 s (enE e)) p 1 [apv 4 v2 s]):=by
 obtain⟨C,M,l1,l2,l3,d12,d13,d23,hp,hm,pm,h1,h2⟩:=S;have h4:=C.lt;have hn:(Go.Sy.wr (Go.Sy.aps v2 s (enE e)) p 1 [apv 4 v2 s]).nx=s.nx+1:=by rw[ji,jm]
 refine⟨?_,?_,?_,?_,?_,(Df.put l1 h2).2,d13,(Df.put l3 h2).1,hp,hm,pm,om,by rw[hn];exact η _⟩
 .exact(cast (l2.cl s (enE e) _ p (.inl hp) h4).symm C:Cl (Go.Sy.aps v2 s (enE e)) p _).wr 1 [apv 4 v2 s]
 .exact M.keep (by rw[hn];omega) (by rw[qW (λh=>pm h.symm)];exact l2.get s (enE e) mb (.inl hm) M.lt)
 .rw[jD (.inl hp)];exact(l1.apsD (Df.symm d12)).up om
 .rw[jD (.inl hp),υ,Xl,Qc];exact l2.put (QE e) om rfl
 .rw[jD (.inl hp)];exact(l3.apsD d23).up om
end
def KM (p mb lo:Nat)(st:St)(r:KR (ModT×Lb))(K Kp:AV->St->Prop):Prop:=match r with
 |.ok y=>∀ s',Kq p mb lo st s'->MX p mb lo y.1 y.2 s'->K (.tup []) s'
 |.er c l k=>∀ s',Kq p mb lo st s'->Kp (kf c l k) s'
def Xu (ts:Lb)(nm:Lc)(l c:Int):KR Lb:=if nm∈ts then .er 162 l c else .ok (ts ++ [nm])
def zi (l c:Int):Lb->Lb->KR Lb
 |ts,[]=>.ok ts
 |ts,n :: ns=>match Xu ts n l c with
  |.er a b d=>.er a b d
  |.ok ts=>zi l c ts ns
def uO (m:ModT)(ts:Lb)(e:EnumT):KR (ModT×Lb):=match zi e.line e.col ts (e.name :: e.vals) with
 |.er a b d=>.er a b d
 |.ok ts=>.ok ({ m with enums:=m.enums ++ [e] },ts)
theorem WX {l c:Int}:∀ {xs ys:Lb} {ts:Lb},zi l c ts (xs ++ ys)=match zi l c ts xs with | .er a b d=>.er a b d | .ok us=>zi l c us ys
 |[],ys,ts=>rfl
 |x :: xs,ys,ts=>by
  simp only[Qai,zi];cases Xu ts x l c with
  |er a b d=>rfl
  |ok us=>exact WX
theorem jsS (hb:NB base)(hcl:∀ vs:Lb,0<vs.length->vs.length<=1000000->Tot base 127 [.lst vs.length (vs.map .str)] (.lst vs.length (vs.map .str))){p mb lo:Nat}{m:ModT}{ts:Lb}{st:St}(e:EnumT)(hv:0<e.vals.length)(hv2:e.vals.length<=1000000)(hE:m.enums.length<=1000000)(H:MX p mb lo m ts st)(K Kp:AV->St->Prop)(hK:KM p mb lo st (uO m ts e) K Kp):XB δ base 92 [.ptr p 0,.agg (enE e)] st K Kp:=by
 obtain⟨v1,v2,v3,S⟩:=H;obtain⟨C,M,l1,l2,l3,d12,d13,d23,hp,hm,pm,lo0,hi0⟩:=id S;refine qu x61 haa (hb.at0 92 dc dc _ _) ?_;simp only[y61,jj,ζ,θ,κ,μ];rw[(by unfold z61;simp only[qq];rfl:z61=_)];have q0:Kq p mb lo st.bare st.bare:=Kq.refl;have hnx:st.bare.nx=st.nx:=rfl;have S0:=S.bare.nw (enE e);have q1:=q0.nw lo0 (enE e);have Cb:Cl (nw st.bare (enE e)) st.nx (enE e):=Cl.new st.bare (enE e);unfold uO at hK;repeat' first|apply jb<;>intro _|simp(disch:=try exact dzG) only[r8,γ,ε]
 refine gj hb S0.cp S0.mp _ _ _ _ _ ?_;by_cases h:e.name∈ts
 .rw[if_pos h];have e1:zi e.line e.col ts (e.name :: e.vals)=.er 162 e.line e.col:=by simp only[zi,Xu,if_pos h]
  rw[e1] at hK;exact hK _ q1.bk
 .rw[if_neg h];have e1:zi e.line e.col ts (e.name :: e.vals)=zi e.line e.col (ts ++ [e.name]) e.vals:=by simp only[zi,Xu,if_neg h]
  rw[e1] at hK
  replace S0:=S0.take (ts ++ [e.name])
  replace q1:=q1.mp (mpl (ts ++ [e.name]))
  have Cb:Cl (Go.Sy.mp (nw st.bare (enE e)) mb (mpl (ts ++ [e.name]))) st.nx (enE e):=by rw[VD om];exact Cb
  have hn1:(Go.Sy.mp (nw st.bare (enE e)) mb (mpl (ts ++ [e.name]))).nx=st.nx+1:=rfl;generalize Go.Sy.mp (nw st.bare (enE e)) mb (mpl (ts ++ [e.name]))=s1 at *
  (have zz:=@Cb.r;repeat' first|apply jb<;>intro _|simp(disch:=try exact j9) only[Cb.q,Cb.r,r8,γ,ε])
  refine jU e.vals.length (λk L s=>∃ us,zi e.line e.col (ts ++ [e.name]) (e.vals.take k)=.ok us/\MS p mb lo st.nx m us v1 v2 v3 s/\Kq p mb lo st.bare s/\st.nx+1<=s.nx/\Cl s st.nx (enE e)/\Has L 0 (.ptr p 0)/\Has L 3 (.ptr st.nx 0)/\Has L 15 (.lst e.vals.length (e.vals.map .str))) ?_ (λk L s hk hI hi hn=>?_) (λL s hI=>?_)
  .refine⟨_,by rw[QaG,zi],S0,q1,om,Cb,?_,?_,?_⟩<;>exact hsX
  .obtain⟨us,h1,S1,q1,hnn,Cb,i0,i3,i15⟩:=hI;have tk:e.vals.take (k+1)=e.vals.take k ++ [e.vals[k]]:=zC hk
   (have zz:=@Cb.r;repeat' first|apply jb<;>intro _|simp(disch:=try exact j9) only[ja i0,ja i3,ja i15,ja hi,ja hn,jhO hk,Cb.q,Cb.r,r8,γ,ε])
   refine gj hb S1.cp S1.mp _ _ _ _ _ ?_;by_cases h:e.vals[k]∈us
   .rw[if_pos h];have e2:zi e.line e.col (ts ++ [e.name]) e.vals=.er 162 e.line e.col:=by
     have e3:e.vals=e.vals.take k ++ (e.vals[k] :: e.vals.drop (k+1)):=by rw[QbP,QbD]
     rw[e3,WX,h1];simp only[zi,Xu,if_pos h]
    rw[e2] at hK;exact hK _ q1.bk
   .rw[if_neg h];have e2:zi e.line e.col (ts ++ [e.name]) (e.vals.take (k+1))=.ok (us ++ [e.vals[k]]):=by
     rw[tk,WX,h1];simp only[zi,Xu,if_neg h]
    repeat' first|apply jb<;>intro _|simp(disch:=try exact dzG) only[r8,γ,ε]
    refine⟨⟨_,e2,S1.take _,q1.mp _,by rw[jgw];exact hnn,by rw[VD om];exact Cb,?_,?_,?_⟩,?_,?_⟩<;>exact hsX
  .obtain⟨us,h1,S1,q1,hnn,Cb,i0,i3,i15⟩:=hI;rw[Qak] at h1;rw[h1] at hK;have T:=λ(h:0<e.vals.length)=>hcl e.vals h hv2;have Cp:=S1.cp;have V2:=S1.l2;have ve2:=V2.eqs;have Ap:=λst' bv xc xx K h hv=>@Jt lo st.nx m.enums.length 4 st' v2 (fl enE m.enums) K 56 bv xc xx h dc om om hv;have hqp:st.nx≠p:=om
   have S2:=(S1.nw (enE e)).enum e;have S2:=(S2.up nxX (η _)).ofbk (u:=st);have q2:=(((q1.nw om (enE e)).aps V2 nxX (enE e)).wr (.inl rfl) 1 [apv 4 v2 (nw s (enE e))]).bk;have g0:rat s.h st.nx 0=.str e.name:=(Cb.cell 0 (by rw[QE];decide)).trans (by rw[jg9];rfl);have g2:rat s.h st.nx 2=.int .i64 e.line:=(Cb.cell 2 (by rw[QE];decide)).trans (by rw[jg9];rfl);have g3:rat s.h st.nx 3=.int .i64 e.col:=(Cb.cell 3 (by rw[QE];decide)).trans (by rw[jg9];rfl);have gp:rat s.h p 1=v2:=Cp.cell 1 (by simp only[τ,φ];omega);have ln:jV s.h st.nx=4:=by rw[Cb.len,QE]
   (have zz:=a8 V2.ln V2.rts @jD @jG @jJ @V2 @jC (a4 @jI @jM @Cb.r @Cp.r);repeat' first|apply jb<;>intro _|simp(disch:=try exact j9) only[ja i0,ja i3,T hv,Ap,Hi,sm9,Hh,sm3,ve2,V2.at,jC,Cb.q,Cp.q,V2.ln,V2.rts,jD,jG,jJ,V2,jC,jI,jM,Cb.r,Cp.r,r8,γ,ε])
   have a9:=(sm9 om g0 rfl).mpr trivial;have a2:=(sm3 om g2 rfl).mpr trivial;have a3:=(sm3 om g3 rfl).mpr trivial;have a23:=(Hi (by rw[Cp.len];simp only[τ,φ];omega) gp ve2).mpr trivial;repeat' apply aI
   all_goals first|exact a9|exact a23|exact a2|exact a3|exact hK _ q2 ⟨_,_,_,S2⟩
mutual
def JS:Ex->Option Ex
 |.mk op num name ks l c=>if op=4 then some (.mk op num name ks l c) else zR ks
def zR:List Ex->Option Ex
 |[]=>none
 |x :: xs=>match JS x with
  |some y=>some y
  |none=>zR xs
end
theorem uM (x:Ex):JS x=if x.op=4 then some x else zR x.kids:=by cases x;rw[JS];rfl
theorem u7:∀ {xs ys:List Ex},zR (xs ++ ys)=match zR xs with|some y=>some y|none=>zR ys
 |[],ys=>rfl
 |x :: xs,ys=>by
  simp only[Qai,zR];cases JS x with
  |some y=>rfl
  |none=>exact u7
def Jm (x:Ex):Ex×Bool:=match JS x with
 |some y=>(y,true)
 |none=>(x,false)
theorem G0.exb {s:St}{a:List AV}{b:Bool}{u:AV}(h:u=.tup [.agg a,.bool b])(ha:a.all pc=true):G0 u (.tup [.agg a,.bool b]) s:=by
 subst h;exact FzD.tup (.cons (.agg (.pc ha)) (.cons (.pc rfl) .nil))
theorem jpf (hb:NB base):∀ x:Ex,ww x=true->Tot base 131 [.agg (eE x)] (.tup [.agg (eE (Jm x).1),.bool (Jm x).2]):=by
 refine Ex.indk λx ih hw=>?_;have hw':x.kids.length<=1000000/\YL x.kids=true:=by cases x;rw[ww,ψ,decide_eq_true_eq] at hw;exact hw
 refine hb.tot ?_ (by first|rfl|simp[pa,pc,yd,Q7,JT,Jy,YP,wB,wL,Je,ZP]) rfl;refine jB jwF haa (hb.pur 131 1 dc) ?_;simp only[jq6,jj,ζ,θ,κ,μ];rw[(by unfold jls;simp only[qq];rfl:jls=_)];repeat' first|apply jb<;>intro _|simp(disch:=try exact dzG) only[r8,γ,ε]
 .rename_i h;have e:Jm x=(x,true):=by unfold Jm;rw[uM,if_pos h]
  rw[e];exact G0.exb rfl (yd x)
 rename_i h;have e0:JS x=zR x.kids:=by rw[uM,if_neg h]
 refine jU x.kids.length (λk L s=>zR (x.kids.take k)=none/\2<=s.nx/\Cl s 0 (eE x)/\Cl s 1 z6/\Has L 1 (.ptr 0 0)/\Has L 2 (.ptr 1 0)/\Has L 13 (.lst x.kids.length (fl eE x.kids))) ?_ (λk L s hk hI hi hn=>?_) (λL s hI=>?_)
 .refine⟨by rw[QaG,zR],nxX,?_,Cl.new _ _,?_,?_,?_⟩
  .have n0:=Cl.new st0 (eE x);exact n0.nw _
  all_goals simp(disch:=decide) only[je,jn]
 .obtain⟨h1,h2,C0,C1,i1,i2,i13⟩:=hI;have E:=ih x.kids[k] (Qaa hk) (VV hk hw'.2);have tk:x.kids.take (k+1)=x.kids.take k ++ [x.kids[k]]:=zC hk;cases hf:JS x.kids[k] with
  |some y=>
   have e:Jm x=(y,true):=by
    unfold Jm;have e3:x.kids=x.kids.take k ++ (x.kids[k] :: x.kids.drop (k+1)):=by rw[QbP,QbD]
    rw[e0,e3,u7,h1];simp only[zR,hf]
   have e2:Jm x.kids[k]=(y,true):=by unfold Jm;rw[hf]
   rw[e2] at E;unfold z6 at C1
   (have zz:=aI C0.r C1.r;repeat' first|apply jb<;>intro _|simp(disch:=try exact j9) only[ja i1,ja i2,ja i13,ja hi,ja hn,E,C0.q,C1.q,C0.r,C1.r,r8,γ,ε])
   rw[e];exact G0.exb rfl (yd y)
  |none=>
   have e2:Jm x.kids[k]=(x.kids[k],false):=by unfold Jm;rw[hf]
   rw[e2] at E
   (have zz:=aI C0.r C1.r;repeat' first|apply jb<;>intro _|simp(disch:=try exact j9) only[ja i1,ja i2,ja i13,ja hi,ja hn,E,C0.q,C1.q,C0.r,C1.r,r8,γ,ε])
   refine⟨⟨?_,nxX,ckX,ckX,?_,?_,?_⟩,?_,?_⟩
   .rw[tk,u7,h1];simp only[zR,hf]
   all_goals exact hsX
 .obtain⟨h1,h2,C0,C1,i1,i2,i13⟩:=hI;rw[Qak] at h1;have e:Jm x=(x,false):=by unfold Jm;rw[e0,h1]
  unfold z6 at C1
  (have zz:=aI C0.r C1.r;repeat' first|apply jb<;>intro _|simp(disch:=try exact j9) only[ja i1,ja i2,C0.q,C1.q,C0.r,C1.r,r8,γ,ε])
  rw[e,<-qx];exact G0.exb rfl (yd x)
end Go.Sy
end
