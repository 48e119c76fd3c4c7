/-
  Contracts: the code lowered, what it does told by rules, and the contracts of the functions that the law reaches.
-/
import Derived.Test.YtndomfbgcaiijaaGreatDoorBrSyC
import Derived.Test.YtndomfbgcaiijaaGreatDoorProg
import Derived.KernelRfl
import Derived.ChangeArms
set_option linter.unusedVariables false
set_option linter.unusedSimpArgs false
open Go.Proofs.Tryz renaming prog → γ
open Nat renaming reduceAdd → δ, reduceSub → ε, le_refl → μ, le_trans → ψ, zero_le → Qaa, zero_add → Qag, le_max_left → Qao, le_max_right → Qap, lt_or_ge → Qar, lt_of_lt_of_le → Qat, mul_le_mul_right → Qax, mul_one → QaB, add_mul → QaD, sub_zero → QaG, not_lt_zero → QaJ, succ_pos → QaN, zero_mul → QaP, succ_mul → QaR, le_of_eq → QaS, lt_succ_self → Qbb, ne_of_lt → Qbe, add_zero → Qbf, le_succ → Qbg, add_assoc → Qbi, lt_irrefl → Qbk, mod_eq_of_lt → Qbm, add_comm → Qbo, pow_le_pow_right → Qbq, succ_lt_succ → Qbv, min_eq_left → Qby, le_of_lt → QbE, add_sub_cancel → QbY, lt_trichotomy → Qca, le_succ_of_le → Qcf, beq → Qci, succ → Qcj, ble → Qck, add → Qcl, mul → Qcm, sub → Qcn
open List renaming map_cons → ζ, map_nil → η, getD_cons_zero → θ, getD_cons_succ → κ, length_cons → ν, length_append → υ, length_nil → φ, getD → ω, range → Qab, range' → Qac, cons_append → Qad, all_eq_true → Qae, getElem_mem → Qaf, take_length → Qah, getElem?_eq_getElem → Qai, nil_append → Qaj, cons → Qal, length_take → Qam, getD_eq_getElem?_getD → Qan, length_map → Qaq, length_drop → Qau, all_cons → Qaz, take_zero → QaC, append_assoc → QaE, mem_map → QaL, all_append → QaM, append_nil → QaO, mem_append → QaQ, mem_cons → QaU, take_of_length_le → QaV, map_map → QaW, map_congr_left → QaX, eq_nil_of_length_eq_zero → QaY, drop_zero → Qba, range'_succ → Qbc, map_append → Qbd, ext_getElem → Qbh, getElem?_map → Qbj, drop_drop → Qbl, mem_range → Qbp, getElem_cons_zero → Qbs, take_append_drop → Qbt, take_succ_eq_append_getElem → Qbw, getElem?_take → Qbx, mem_iff_getElem → Qbz, getElem?_append_left → QbB, map_toArray → QbC, mem_singleton → QbF, getElem_cons_succ → QbG, getElem_cons_drop → QbH, getElem?_drop → QbI, mem_of_mem_take → QbJ, take_take → QbK, foldr_cons → QbM, take_add_one → QbO, getElem?_append_right → QbP, foldl_append → QbR, getElem?_range → QbS, mem_cons_of_mem → QbT, length_pos_iff → QbU, drop_length → QbV, flatMap_cons → QbX, countP_singleton → Qcc, take_succ_cons → Qcd
open Int renaming zero_add → ξ, natCast_zero → τ, ofNat → Qas, eq_ofNat_of_zero_le → Qbr, natCast_nonneg → QbL
open Bool renaming and_eq_true → χ, eq_iff_iff → Qay, or_eq_true → QaA, not_eq_true' → QaI, false_eq_true → QaK, true_eq_false → Qbu, or_eq_false_iff → QbN, eq_false_iff → Qce
open Array renaming length_toList → Qak, getElem?_eq_some_iff → Qav, replicate → QaF, toList_map → Qbn, getElem?_toList → QbD, getD_eq_getD_getElem? → QbQ, toList_append → QbZ, mem_toList_iff → Qcb, getElem?_eq_getElem → Qcg, getElem?_setIfInBounds_ne → Qch
open Option renaming map_some → Qaw, getD_some → QaH, bind_some → QaT, map_none → QaZ, map_eq_some_iff → QbA
open Function renaming comp_def → QbW
noncomputable section
set_option maxRecDepth 100000
namespace Go.Sy
open Go.Ev Go.Proofs
variable {base:Bs}
structure AsT where
 name:List Nat
 to:Ex
 line:Int
 col:Int
def asE (a:AsT):List AV:=.str a.name :: (eE a.to ++ [.int .i64 (a.line:Int),.int .i64 (a.col:Int)])
theorem ww (a:AsT):(asE a).length=9:=nr (by simp[asE,Jd])
theorem QJ (a:AsT):(asE a).all pc=true:=nr (by simp[asE,q9,pc])
theorem ga (a:AsT):lall AV.cell (asE a)=true:=nr (by unfold asE;rw[qt];rfl)
structure RuleT where
 when:Ex
 acts:List AsT
def ruE (r:RuleT):List AV:=eE r.when ++ [.lst r.acts.length (fl asE r.acts)]
def XP (ts:List Tk):Nat->Nat->List AsT->SR (List AsT)
 |0,i,_=>.er (tk ts i)
 |n+1,i,vs=>if(tk ts i).kind=1 then
   (if 32<=vs.length then .er (tk ts i)
    else if isM (tk ts (i+1)) [[58,61]]=true then(match yT ts (i+2) with
     |.er t=>.er t
     |.ok x j=>
      if isM (tk ts j) [[44]]=true then XP ts n (j+1) (vs ++ [⟨(tk ts i).text,x,(tk ts i).line,(tk ts i).col⟩])
      else if isM (tk ts j) [[59]]=true then .ok (vs ++ [⟨(tk ts i).text,x,(tk ts i).line,(tk ts i).col⟩]) (j+1)
      else .er (tk ts j))
    else .er (tk ts (i+1)))
  else .er (tk ts i)
def Zd (ts:List Tk)(i:Nat):SR RuleT:=
 match yT ts i with
 |.er t=>.er t
 |.ok x j=>if isM (tk ts j) [[100,111]]=true then(match XP ts ts.length (j+1) [] with
   |.ok vs k=>.ok ⟨x,vs⟩ k
   |.er t=>.er t)
  else .er (tk ts j)
theorem joU:Go.Ev.isAgg γ 153=some false:=by kernel_rfl
theorem joT:Go.Ev.sizeOf γ 153=some 1:=by kernel_rfl
theorem HE {b o:Nat}{v:AV}{h:T AO}(ho:o<qh h b)(hv:rat h b o=v)(hc:eqs v=true):(jY γ 153 (.ptr b o) v h=true)=True:=eq_true (Qq joU joT ho hv hc)
theorem sm3 {b o:Nat}{v:AV}{h:T AO}(ho:o<qh h b)(hv:rat h b o=v)(hc:eqs v=true):(jY γ 3 (.ptr b o) v h=true)=True:=eq_true (Qq joS joR ho hv hc)
set_option maxHeartbeats 4000000 in
theorem jpd (hb:NB base){ts:List Tk}(W:Wds ts){i:Nat}(hi:i<ts.length):AnS base 166 (pC ts i 0) [] ts 0 (λe=>.agg (ruE e)) (Zd ts i):=by
 have wl:=W.len;have A:=VM hb W hi;unfold Zd;cases hw:yT ts i with
 |er t=>
  rw[hw] at A;obtain⟨i',d',A⟩:=A;have E:∀ st p,Cl st p (pC ts i 0)->∀ K Kp,XB γ base 96 [.ptr p 0] st K Kp=_:=λst p C K Kp=>A.xb C rfl (λst=>hb.no 96 dc _ _) K Kp;refine⟨i',d',?_⟩;unfold pC at *;refine j2 jjt (by rfl) (hb.pur 166 3 dc) rfl ?_;simp only[jee,jh,ζ,η,θ,κ];rw[(by unfold UL;simp only[qq];rfl:UL=_)];repeat'(first|apply jb<;>intro _|simp(disch:=first|exact dzD|fail) only[E,r6,δ,ε])
  (refine G1.done ?_ (by rfl) (by rfl) ?_;(· (first|exact cyD|fail));(· first|exact vyD|skip))
 |ok x j=>
  rw[hw] at A;have A:PM _ _ _ _ _ _ _:=A;rw[qt] at A;have hj:j<ts.length:=(yH W hi hw).2.1;have E:∀ st p,Cl st p (pC ts i 0)->∀ K Kp,XB γ base 96 [.ptr p 0] st K Kp=_:=λst p C K Kp=>A.xb C rfl (λst=>hb.no 96 dc _ _) K Kp;have M:=λst p=>@Qt base hb ts j 0 hj om [100,111] st p;dsimp only;by_cases c1:isM (tk ts j) [[100,111]]=true
  ·rw[if_pos c1];have hj1:=W.isM hj c1;suffices h:∀ r:SR RuleT,(match XP ts ts.length (j+1) [] with | .ok vs k=>SR.ok ⟨x,vs⟩ k | .er t=>.er t)=r->AnS base 166 (pC ts i 0) [] ts 0 (λe=>.agg (ruE e)) r from h _ rfl
   intro r hr;refine vB jjt (by rfl) (hb.pur 166 3 dc) ?_;simp only[jee,jh,ζ,η,θ,κ];rw[(by unfold UL;simp only[qq];rfl:UL=_)];unfold pC at *;repeat'(first|apply jb<;>intro _|simp(disch:=first|exact dzD|fail) only[E,M,c1,r6,δ,ε])
   refine ut λu hu=>?_;have n0:u.nx=3:=by rw[hu];rfl
   have C0:Cl u 0 (pC ts (j+1) 0):=by
    rw[hu];unfold pC
    (first|exact cyD|fail)
   have C1:Cl u 1 [.int .i64 0,.int .i64 0,.str [],.nils,.int .i64 0,.int .i64 0,.nils]:=by
    rw[hu]
    (first|exact cyD|fail)
   have C2:Cl u 2 [.int .i64 x.op,.int .i64 x.num,.str x.name,.lst x.kids.length (fl eE x.kids),.int .i64 x.line,.int .i64 x.col,.nils]:=by
    rw[hu]
    (first|exact cyD|fail)
   clear hu E M A;refine yz (λmm L s=>∃ (m i':Nat) (vs:List AsT) (v:AV),mm=m/\ts.length<=i'+m/\i'<ts.length/\(match XP ts m i' vs with | .ok vs k=>SR.ok ⟨x,vs⟩ k | .er t=>.er t:SR RuleT)=r/\3<=s.nx/\Cl s 0 (pC ts i' 0)/\Cl s 1 [.int .i64 0,.int .i64 0,.str [],.nils,.int .i64 0,.int .i64 0,.nils]/\Cl s 2 [.int .i64 x.op,.int .i64 x.num,.str x.name,.lst x.kids.length (fl eE x.kids),.int .i64 x.line,.int .i64 x.col,v]/\Lv 3 s.nx s v vs.length (fl asE vs) 9/\Has L 0 (.ptr 0 0)/\Has L 2 (.ptr 1 0)/\Has L 3 (.ptr 2 0)) ?_ ts.length ?_
   ·rintro m L s ⟨_,i',vs,v,rfl,hm,hi',hl,n0,C0,C1,C2,V,i0,i2,i3⟩;clear hr;cases m with
    |zero=>omega
    |succ m=>
    unfold XP at hl;obtain⟨q0,hq0⟩:∃ q,q=s.nx:=⟨_,rfl⟩;rw[<-hq0] at V;have hq':q0<=s.nx:=QaS hq0;have hN:=λst p=>@Yx base hb ts i' 0 hi' st p;have hM:=λst p=>@uG base hb ts i' 0 hi' om st p;have L0:=C0.lt;have L1:=C1.lt;have L2:=C2.lt;have ve:=V.eqs;have g3:rat s.h 2 6=v:=C2.cell 6 (by simp);have vl:=V.len;by_cases k1:(tk ts i').kind=1
    ·rw[if_pos k1] at hl;have k1':((tk ts i').kind:Int)=1:=om
     have hi1:i'+1<ts.length:=W.next i' hi' om
     by_cases h32:32<=vs.length
     ·rw[if_pos h32] at hl;have hl:SR.er (tk ts i')=r:=hl;subst hl;have R:=wD hb h32 (tk ts i');unfold pC at *
      (have zz:=a4 @g3 C0.r C1.r C2.r;(repeat'(first|apply jb<;>intro _|simp(disch:=first|exact qO|fail) only[ja i0,ja i2,ja i3,hN,k1',vl,R,HE,ve,zo,C0.q,C1.q,C2.q,g3,C0.r,C1.r,C2.r,r6,δ,ε])))
      refine⟨i',0,?_⟩;unfold pC
      (refine G1.done ?_ (by rfl) (by rfl) ?_;(· (have zz:=a4 C0.q C1.q C2.q (aI C0.r (aI C1.r C2.r));first|exact qf|fail));(· first|exact vyD|skip))
     ·rw[if_neg h32] at hl;have R:=wC hb (show vs.length<32 by omega) (tk ts i');have M1:=λst p=>@Qt base hb ts (i'+1) 0 hi1 om [58,61] st p;by_cases c2:isM (tk ts (i'+1)) [[58,61]]=true
      ·rw[if_pos c2] at hl;have hi2:=W.isM hi1 c2;have A:=VM hb W hi2;cases hw2:yT ts (i'+2) with
       |er t=>
        rw[hw2] at hl A;have hl:SR.er t=r:=hl;subst hl;obtain⟨i2',d2,A⟩:=A;have E:∀ st p,Cl st p (pC ts (i'+2) 0)->∀ K Kp,XB γ base 96 [.ptr p 0] st K Kp=_:=λst p C K Kp=>A.xb C rfl (λst=>hb.no 96 dc _ _) K Kp;unfold pC at *
        (have zz:=a4 @g3 @yG @yF (aI C0.r (aI C1.r C2.r));(repeat'(first|apply jb<;>intro _|simp(disch:=first|exact qO|fail) only[ja i0,ja i2,ja i3,hN,hM,k1,k1',vl,R,M1,c2,E,HE,sm9,sm3,ve,zo,XY,WT,WS (base:=base),C0.q,C1.q,C2.q,g3,yG,yF,C0.r,C1.r,C2.r,r6,δ,ε])))
        refine⟨i2',d2,?_⟩;unfold pC
        (refine G1.done ?_ (by rfl) (by rfl) ?_;(· (have zz:=a4 C0.q C1.q C2.q (aI C0.r (aI C1.r C2.r));first|exact qf|fail));(· first|exact vyD|skip))
       |ok y q=>
        rw[hw2] at hl A;dsimp only at hl;have A:PM _ _ _ _ _ _ _:=A;rw[qt] at A;have hq:q<ts.length:=(yH W hi2 hw2).2.1;have hq2:i'+3<=q:=(yH W hi2 hw2).1;have E:∀ st p,Cl st p (pC ts (i'+2) 0)->∀ K Kp,XB γ base 96 [.ptr p 0] st K Kp=_:=λst p C K Kp=>A.xb C rfl (λst=>hb.no 96 dc _ _) K Kp;have T:=Yp hb hq (d:=0) om [[44]] (cs:=[.str [44]]) (n:=1) rfl rfl dc;have M:=λst p=>@Qt base hb ts q 0 hq om [59] st p;have Ap:=λst bv xc xx K h hv=>@JR 3 q0 vs.length 9 st v (fl asE vs) K 104 bv xc xx h dc om om hv;obtain⟨a,hav⟩:∃ a:AsT,a=⟨(tk ts i').text,y,(tk ts i').line,(tk ts i').col⟩:=⟨_,rfl⟩;rw[<-hav] at hl;have ea:asE a=[.str (tk ts i').text,.int .i64 y.op,.int .i64 y.num,.str y.name,.lst y.kids.length (fl eE y.kids),.int .i64 y.line,.int .i64 y.col,.int .i64 ((tk ts i').line:Int),.int .i64 ((tk ts i').col:Int)]:=by rw[hav];unfold asE;rw[qt];rfl
        have V2:∀ st m',Lv 3 q0 st v vs.length (fl asE vs) 9->3<=st.nx->m'=st.nx+1->Lv 3 m' (aps v st [.str (tk ts i').text,.int .i64 y.op,.int .i64 y.num,.str y.name,.lst y.kids.length (fl eE y.kids),.int .i64 y.line,.int .i64 y.col,.int .i64 ((tk ts i').line:Int),.int .i64 ((tk ts i').col:Int)]) (apv 9 v st) (vs ++ [a]).length (fl asE (vs ++ [a])) 9:=λst m' h h2 h3=>by
         rw[υ,QY,JX,ea];exact h.put rfl h2 h3
        unfold pC at *
        (have zz:=a8 @g3 @yG @yF V.ln V.rts @jC @jG (a8 @jJ @V @jB @jI @jM C0.r C1.r C2.r);(repeat'(first|apply jb<;>intro _|simp(disch:=first|exact qO|fail) only[ja i0,ja i2,ja i3,hN,hM,k1,k1',vl,R,M1,c2,E,HE,sm9,sm3,ve,Ap,V.at,jB,C0.q,C1.q,C2.q,g3,yG,yF,V.ln,V.rts,jC,jG,jJ,V,jB,jI,jM,C0.r,C1.r,C2.r,r6,δ,ε])))
        rw[T _ 0 (s.nx+1+1+1) 1 true (by(have zz:=a8 C0.q C1.q C2.q @g3 V.ln V.rts @jB (a4 @jI @jM C0.r (aI C1.r C2.r));first|exact qf|fail)) (by(have zz:=a8 C0.q C1.q C2.q @g3 V.ln V.rts @jB (a4 @jI @jM C0.r (aI C1.r C2.r));first|exact qf|fail)) om]
        (have zz:=a8 @g3 V.ln V.rts @jB @jI @jM C0.r (aI C1.r C2.r);(repeat'(first|apply jb<;>intro _|simp(disch:=first|exact qO|fail) only[ja i0,ja i2,ja i3,M,V.at,jB,C0.q,C1.q,C2.q,g3,V.ln,V.rts,jB,jI,jM,C0.r,C1.r,C2.r,r6,δ,ε])))
        ·rename_i c;rw[if_pos c] at hl;have hi2':=W.isM hq c;refine⟨m,om,m,q+1,vs ++ [a],?v,rfl,om,hi2',hl,om,?c0,?c1,?c2,?lv,?has⟩;case lv=>
          refine Lv.up (hi:=s.nx+3) ?_ om;simp(disch:=first|omega|(simp only[je,jg,jk,jo];omega)) only[jC,jG,jJ];refine V2 _ _ ?_ ?_ ?_;all_goals first|(simp only[je,jg];done)|(simp only[je,jg];omega)|(simp(disch:=first|omega|(simp only[je,jg];omega)) only[jC,jG];exact V)
         case c0=>(have zz:=a8 C0.q C1.q C2.q @g3 V.ln V.rts @jB (a4 @jI @jM C0.r (aI C1.r C2.r));first|exact qf|fail)
         case c1=>(have zz:=a8 C0.q C1.q C2.q @g3 V.ln V.rts @jB (a4 @jI @jM C0.r (aI C1.r C2.r));first|exact qf|fail)
         case c2=>(have zz:=a8 C0.q C1.q C2.q @g3 V.ln V.rts @jB (a4 @jI @jM C0.r (aI C1.r C2.r));first|exact qf|fail)
         case has=>simp(disch:=decide) only[h12,i0,i2,i3]
        ·rename_i c c4;rw[if_neg c,if_pos c4] at hl;have hl:SR.ok (⟨x,vs ++ [a]⟩:RuleT) (q+1)=r:=hl;subst hl;show G1 3 (pC ts (q+1) 0) (.agg (ruE ⟨x,vs ++ [a]⟩)) _ _;rw[show ruE ⟨x,vs ++ [a]⟩=[.int .i64 x.op,.int .i64 x.num,.str x.name,.lst x.kids.length (fl eE x.kids),.int .i64 x.line,.int .i64 x.col,.lst (vs ++ [a]).length (fl asE (vs ++ [a]))] by unfold ruE;rw[qt];rfl];refine G1.done ?_ (by rfl) (by rfl) (FzD.agg (.cons (.pc rfl) (.cons (.pc rfl) (.cons (.pc rfl) (.cons (.pc rfl) (.cons (.pc rfl) (.cons (.pc rfl) (.cons (Lv.fz (lo:=3) (hi:=s.nx+3) (z:=9) ?_ dc (zN QJ _)) .nil))))))))
         ·unfold pC
          (have zz:=a8 C0.q C1.q C2.q @g3 V.ln V.rts @jB (a4 @jI @jM C0.r (aI C1.r C2.r));first|exact qf|fail)
         ·simp(disch:=first|omega|(simp only[je,jg,jk,jo];omega)) only[jH,jC,jG,jJ];refine V2 _ _ ?_ ?_ ?_;all_goals first|(simp only[je,jg];done)|(simp only[je,jg];omega)|(simp(disch:=first|omega|(simp only[je,jg];omega)) only[jC,jG];exact V)
        ·rename_i c c4;rw[if_neg c,if_neg c4] at hl;have hl:SR.er (tk ts q)=r:=hl;subst hl;refine⟨q,0,?_⟩;unfold pC
         (refine G1.done ?_ (by rfl) (by rfl) ?_;(· (have zz:=a8 C0.q C1.q C2.q @g3 V.ln V.rts @jB (a4 @jI @jM C0.r (aI C1.r C2.r));first|exact qf|fail));(· first|exact vyD|skip))
      ·rw[if_neg c2] at hl;have hl:SR.er (tk ts (i'+1))=r:=hl;subst hl;unfold pC at *
       (have zz:=a4 @g3 C0.r C1.r C2.r;(repeat'(first|apply jb<;>intro _|simp(disch:=first|exact qO|fail) only[ja i0,ja i2,ja i3,hN,hM,k1,k1',vl,R,M1,c2,HE,ve,zo,C0.q,C1.q,C2.q,g3,C0.r,C1.r,C2.r,r6,δ,ε])))
       refine⟨i'+1,0,?_⟩;unfold pC
       (refine G1.done ?_ (by rfl) (by rfl) ?_;(· (have zz:=a4 C0.q C1.q C2.q (aI C0.r (aI C1.r C2.r));first|exact qf|fail));(· first|exact vyD|skip))
    ·rw[if_neg k1] at hl;have k1':¬ ((tk ts i').kind:Int)=1:=om
     have hl:SR.er (tk ts i')=r:=hl;subst hl;unfold pC at *
     (have zz:=a4 @g3 C0.r C1.r C2.r;(repeat'(first|apply jb<;>intro _|simp(disch:=first|exact qO|fail) only[ja i0,ja i2,ja i3,hN,hM,k1,k1',zo,C0.q,C1.q,C2.q,g3,C0.r,C1.r,C2.r,r6,δ,ε])))
     refine⟨i',0,?_⟩;unfold pC
     (refine G1.done ?_ (by rfl) (by rfl) ?_;(· (have zz:=a4 C0.q C1.q C2.q (aI C0.r (aI C1.r C2.r));first|exact qf|fail));(· first|exact vyD|skip))
   ·refine⟨ts.length,j+1,[],.nils,rfl,om,hj1,hr,om,C0,C1,C2,Lv.nil,?_⟩;simp(disch:=decide) only[h12]
  ·rw[if_neg c1];refine⟨j,0,?_⟩;unfold pC at *;refine j2 jjt (by rfl) (hb.pur 166 3 dc) rfl ?_;simp only[jee,jh,ζ,η,θ,κ];rw[(by unfold UL;simp only[qq];rfl:UL=_)];repeat'(first|apply jb<;>intro _|simp(disch:=first|exact dzD|fail) only[E,M,c1,r6,δ,ε])
   (refine G1.done ?_ (by rfl) (by rfl) ?_;(· (first|exact cyD|fail));(· first|exact vyD|skip))
theorem W4 (r:RuleT):ruE r=[.int .i64 r.when.op,.int .i64 r.when.num,.str r.when.name,.lst r.when.kids.length (fl eE r.when.kids),.int .i64 r.when.line,.int .i64 r.when.col,.lst r.acts.length (fl asE r.acts)]:=by unfold ruE;rw[qt];rfl
theorem vK (r:RuleT):(ruE r).length=7:=nr (by rw[W4];rfl)
theorem Wc (r:RuleT):(ruE r).all pc=true:=nr (by rw[W4];rfl)
theorem jdJ {ts:List Tk}(W:Wds ts):∀ n i vs ws j,i<ts.length->XP ts n i vs=.ok ws j->i<=j/\j<ts.length
 |0,i,vs,ws,j,_,h=>by simp[XP] at h
 |n+1,i,vs,ws,j,hi,h=>by
  unfold XP at h;split at h
  ·rename_i k1;have hi1:i+1<ts.length:=W.next i hi om
   split at h
   ·cases h
   ·split at h
    ·rename_i c;have hi2:=W.isM hi1 c;cases hw:yT ts (i+2) with
     |er t=>rw[hw] at h;cases h
     |ok x q=>
      rw[hw] at h;dsimp only at h;have g:=yH W hi2 hw;split at h
      ·rename_i c2;have:=jdJ W n (q+1) _ ws j (W.isM g.2.1 c2) h;have:=g.1;exact⟨om,om⟩
      ·split at h
       ·rename_i c3;cases h;have:=W.isM g.2.1 c3;have:=g.1;exact⟨om,om⟩
       ·cases h
    ·cases h
  ·cases h
theorem gF {ts:List Tk}(W:Wds ts){i j:Nat}{r:RuleT}(hi:i<ts.length)(h:Zd ts i=.ok r j):i<j/\j<ts.length:=by
 unfold Zd at h;cases hw:yT ts i with
 |er t=>rw[hw] at h;cases h
 |ok x q=>
  rw[hw] at h;dsimp only at h;have g:=yH W hi hw;split at h
  ·rename_i c;have hq1:=W.isM g.2.1 c;cases ha:XP ts ts.length (q+1) [] with
   |er t=>rw[ha] at h;cases h
   |ok vs k=>
    rw[ha] at h;cases h;have:=jdJ W _ _ _ _ _ hq1 ha;have:=g.1;exact⟨om,om⟩
  ·cases h
structure ProcT where
 name:List Nat
 rules:List RuleT
 line:Int
 col:Int
def prE (p:ProcT):List AV:=[.str p.name,.lst p.rules.length (fl ruE p.rules),.int .i64 (p.line:Int),.int .i64 (p.col:Int)]
def QM (ts:List Tk):Nat->Nat->List RuleT->SR (List RuleT)
 |0,i,_=>.er (tk ts i)
 |n+1,i,vs=>if isM (tk ts i) [[119,104,101,110]]=true then
   (if 32<=vs.length then .er (tk ts i) else match Zd ts (i+1) with
    |.er t=>.er t
    |.ok r j=>QM ts n j (vs ++ [r]))
  else if isM (tk ts i) [[125]]=true then .ok vs (i+1) else .er (tk ts i)
def Z2 (ts:List Tk)(i:Nat):SR ProcT:=
 if(tk ts i).kind=1 then
  (if isM (tk ts (i+1)) [[123]]=true then(match QM ts ts.length (i+2) [] with
    |.ok vs j=>.ok ⟨(tk ts i).text,vs,(tk ts i).line,(tk ts i).col⟩ j
    |.er t=>.er t)
   else .er (tk ts (i+1)))
 else .er (tk ts i)
theorem jrr:Go.Ev.isAgg γ 149=some false:=by kernel_rfl
theorem jrq:Go.Ev.sizeOf γ 149=some 1:=by kernel_rfl
theorem jo4 {b o:Nat}{v:AV}{h:T AO}(ho:o<qh h b)(hv:rat h b o=v)(hc:eqs v=true):(jY γ 149 (.ptr b o) v h=true)=True:=eq_true (Qq jrr jrq ho hv hc)
set_option maxHeartbeats 4000000 in
theorem jpp (hb:NB base){ts:List Tk}(W:Wds ts){i:Nat}(hi:i<ts.length):AnS base 126 (pC ts i 0) [] ts 0 (λe=>.agg (prE e)) (Z2 ts i):=by
 have wl:=W.len;have N:=λst p=>@uG base hb ts i 0 hi om st p;unfold Z2;by_cases k1:(tk ts i).kind=1
 ·rw[if_pos k1];have hi1:i+1<ts.length:=W.next i hi om
  have M:=λst p=>@Qt base hb ts (i+1) 0 hi1 om [123] st p;by_cases c1:isM (tk ts (i+1)) [[123]]=true
  ·rw[if_pos c1];have hi2:=W.isM hi1 c1;suffices h:∀ r:SR ProcT,(match QM ts ts.length (i+2) [] with
    |.ok vs j=>SR.ok ⟨(tk ts i).text,vs,(tk ts i).line,(tk ts i).col⟩ j
    |.er t=>.er t:SR ProcT)=r->AnS base 126 (pC ts i 0) [] ts 0 (λe=>.agg (prE e)) r from h _ rfl
   intro r hr;refine vB x80 (by rfl) (hb.pur 126 3 dc) ?_;simp only[y80,jh,ζ,η,θ,κ];rw[(by unfold z80;simp only[qq];rfl:z80=_)];unfold pC at *;repeat'(first|apply jb<;>intro _|simp(disch:=first|exact dzD|fail) only[N,k1,M,c1,r6,δ,ε])
   refine ut λu hu=>?_;have n0:u.nx=4:=by rw[hu];rfl
   have C0:Cl u 0 (pC ts (i+2) 0):=by
    rw[hu];unfold pC
    (first|exact cyD|fail)
   have C1:Cl u 1 [.str [],.nils,.int .i64 0,.int .i64 0]:=by
    rw[hu]
    (first|exact cyD|fail)
   have C3:Cl u 3 [.str (tk ts i).text,.nils,.int .i64 ((tk ts i).line:Int),.int .i64 ((tk ts i).col:Int)]:=by
    rw[hu]
    (first|exact cyD|fail)
   clear hu N M;generalize (tk ts i).text=nm at *;generalize (tk ts i).line=ln at *;generalize (tk ts i).col=co at *;refine yz (λmm L s=>∃ (m i':Nat) (vs:List RuleT) (v:AV),mm=m/\ts.length<=i'+m/\i'<ts.length/\(match QM ts m i' vs with | .ok vs j=>SR.ok ⟨nm,vs,ln,co⟩ j | .er t=>.er t:SR ProcT)=r/\4<=s.nx/\Cl s 0 (pC ts i' 0)/\Cl s 1 [.str [],.nils,.int .i64 0,.int .i64 0]/\Cl s 3 [.str nm,v,.int .i64 (ln:Int),.int .i64 (co:Int)]/\Lv 4 s.nx s v vs.length (fl ruE vs) 7/\Has L 0 (.ptr 0 0)/\Has L 2 (.ptr 1 0)/\Has L 4 (.ptr 3 0)) ?_ ts.length ?_
   ·rintro m L s ⟨_,i',vs,v,rfl,hm,hi',hl,n0,C0,C1,C3,V,i0,i2,i4⟩;clear hr;cases m with
    |zero=>omega
    |succ m=>
    unfold QM at hl;obtain⟨q,hq⟩:∃ q,q=s.nx:=⟨_,rfl⟩;rw[<-hq] at V;have hq':q<=s.nx:=QaS hq;have T:=Yp hb hi' (d:=0) om [[119,104,101,110]] (cs:=[.str [119,104,101,110]]) (n:=1) rfl rfl dc;have L0:=C0.lt;have L1:=C1.lt;have L3:=C3.lt;have ve:=V.eqs;have g3:rat s.h 3 1=v:=C3.cell 1 (Qbv (QaN 2));have vl:=V.len;have vc:∀ l,lall AV.cell (v :: l)=lall AV.cell l:=λl=>by show cond v.cell _ false=_;rw[V.cell];rfl
    by_cases c2:isM (tk ts i') [[119,104,101,110]]=true
    ·rw[if_pos c2] at hl;have hi1:=W.isM hi' c2;by_cases h32:32<=vs.length
     ·rw[if_pos h32] at hl;have hl:SR.er (tk ts i')=r:=hl;subst hl;have R:=wD hb h32 (tk ts i');unfold pC at *
      (have zz:=a4 @g3 C0.r C1.r C3.r;(repeat'(first|apply jb<;>intro _|simp(disch:=first|exact qO|fail) only[ja i0,ja i2,ja i4,T,c2,vl,R,g3,zo,C0.q,C1.q,C3.q,g3,C0.r,C1.r,C3.r,r6,δ,ε])))
      refine⟨i'+1,0,?_⟩;unfold pC
      (refine G1.done ?_ (by rfl) (by rfl) ?_;(· (have zz:=a4 C0.q C1.q C3.q (aI C0.r (aI C1.r C3.r));first|exact qf|fail));(· first|exact vyD|skip))
     ·rw[if_neg h32] at hl;have R:=wC hb (show vs.length<32 by omega) (tk ts i');have A:=jpd hb W hi1;cases hw:Zd ts (i'+1) with
      |er t=>
       rw[hw] at hl A;have hl:SR.er t=r:=hl;subst hl;obtain⟨i2',d2,A⟩:=A;have E:∀ st p,Cl st p (pC ts (i'+1) 0)->∀ K Kp,XB γ base 166 [.ptr p 0] st K Kp=_:=λst p C K Kp=>A.xb C rfl (λst=>hb.no 166 dc _ _) K Kp;unfold pC at *
       (have zz:=a4 @g3 C0.r C1.r C3.r;(repeat'(first|apply jb<;>intro _|simp(disch:=first|exact qO|fail) only[ja i0,ja i2,ja i4,T,c2,vl,R,g3,E,jo4,ve,zo,C0.q,C1.q,C3.q,g3,C0.r,C1.r,C3.r,r6,δ,ε])))
       refine⟨i2',d2,?_⟩;unfold pC
       (refine G1.done ?_ (by rfl) (by rfl) ?_;(· (have zz:=a4 C0.q C1.q C3.q (aI C0.r (aI C1.r C3.r));first|exact qf|fail));(· first|exact vyD|skip))
      |ok a j=>
       rw[hw] at hl A;dsimp only at hl;have A:PM _ _ _ _ _ _ _:=A;have A:PM γ base 166 (pC ts (i'+1) 0) [] (.ok (.agg [.int .i64 a.when.op,.int .i64 a.when.num,.str a.when.name,.lst a.when.kids.length (fl eE a.when.kids),.int .i64 a.when.line,.int .i64 a.when.col,.lst a.acts.length (fl asE a.acts)])) (pC ts j 0):=by rw[<-W4];exact A
       have hj:=gF W hi1 hw;have E:∀ st p,Cl st p (pC ts (i'+1) 0)->∀ K Kp,XB γ base 166 [.ptr p 0] st K Kp=_:=λst p C K Kp=>A.xb C rfl (λst=>hb.no 166 dc _ _) K Kp;have Ap:=λst bv xc xx K h hv=>@JR 4 q vs.length 7 st v (fl ruE vs) K 96 bv xc xx h dc om om hv;have V2:∀ st m',Lv 4 q st v vs.length (fl ruE vs) 7->4<=st.nx->m'=st.nx+1->Lv 4 m' (aps v st [.int .i64 a.when.op,.int .i64 a.when.num,.str a.when.name,.lst a.when.kids.length (fl eE a.when.kids),.int .i64 a.when.line,.int .i64 a.when.col,.lst a.acts.length (fl asE a.acts)]) (apv 7 v st) (vs ++ [a]).length (fl ruE (vs ++ [a])) 7:=λst m' h h2 h3=>by
        rw[υ,QY,JX,W4 a];exact h.put rfl h2 h3
       unfold pC at *
       (have zz:=a8 @g3 V.ln V.rts @jC @jG @jJ @V (a4 @jB @jI @jM (aI C0.r (aI C1.r C3.r)));(repeat'(first|apply jb<;>intro _|simp(disch:=first|exact qO|fail) only[ja i0,ja i2,ja i4,T,c2,vl,R,g3,E,jo4,ve,Ap,V.at,jB,C0.q,C1.q,C3.q,g3,V.ln,V.rts,jC,jG,jJ,V,jB,jI,jM,C0.r,C1.r,C3.r,r6,δ,ε])))
       refine⟨m,om,m,j,vs ++ [a],?v,rfl,om,hj.2,hl,om,?c0,?c1,?c3,?lv,?has⟩;case lv=>
        refine Lv.up (hi:=s.nx+4) ?_ om;refine V2 _ _ ?_ ?_ ?_;all_goals first|(simp only[je,jg,jo];done)|(simp only[je,jg,jo];omega)|(simp(disch:=first|omega|(simp only[je,jg,jo];omega)) only[jC,jG,jJ];exact V)
       case c0=>(have zz:=a8 C0.q C1.q C3.q @g3 V.ln V.rts @jB (a4 @jI @jM C0.r (aI C1.r C3.r));first|exact qf|fail)
       case c1=>(have zz:=a8 C0.q C1.q C3.q @g3 V.ln V.rts @jB (a4 @jI @jM C0.r (aI C1.r C3.r));first|exact qf|fail)
       case c3=>(have zz:=a8 C0.q C1.q C3.q @g3 V.ln V.rts @jB (a4 @jI @jM C0.r (aI C1.r C3.r));first|exact qf|fail)
       case has=>simp(disch:=decide) only[h12,i0,i2,i4]
    ·rw[if_neg c2] at hl;have M:=λst p=>@Qt base hb ts i' 0 hi' om [125] st p;unfold pC at *
     (have zz:=a4 @g3 @vc C0.r (aI C1.r C3.r);(repeat'(first|apply jb<;>intro _|simp(disch:=first|exact qO|fail) only[ja i0,ja i2,ja i4,T,c2,M,g3,C0.q,C1.q,C3.q,g3,vc,C0.r,C1.r,C3.r,r6,δ,ε])))
     ·rename_i c4;rw[if_pos c4] at hl;have hl:SR.ok (⟨nm,vs,ln,co⟩:ProcT) (i'+1)=r:=hl;subst hl;show G1 3 (pC ts (i'+1) 0) (.agg (prE ⟨nm,vs,ln,co⟩)) _ _;refine G1.done ?_ (by rfl) (by rfl) (FzD.agg (.cons (.pc rfl) (.cons (Lv.fz (lo:=4) (hi:=q) (z:=7) ?_ dc (zN Wc _)) (.cons (.pc rfl) (.cons (.pc rfl) .nil)))))
      ·unfold pC
       (have zz:=a8 C0.q C1.q C3.q @g3 V.ln V.rts @jB (a4 @jI @jM C0.r (aI C1.r C3.r));first|exact qf|fail)
      ·simp(disch:=first|omega|(simp only[je,jg,jo];omega)) only[jH,jC,jG,jJ];exact V
     ·rename_i c4;rw[if_neg c4] at hl;have hl:SR.er (tk ts i')=r:=hl;subst hl;refine⟨i',0,?_⟩;unfold pC
      (refine G1.done ?_ (by rfl) (by rfl) ?_;(· (have zz:=a8 C0.q C1.q C3.q @g3 V.ln V.rts @jB (a4 @jI @jM C0.r (aI C1.r C3.r));first|exact qf|fail));(· first|exact vyD|skip))
   ·refine⟨ts.length,i+2,[],.nils,rfl,om,hi2,hr,om,C0,C1,C3,Lv.nil,?_⟩;simp(disch:=decide) only[h12]
  ·rw[if_neg c1];refine⟨i+1,0,?_⟩;unfold pC at *;refine j2 x80 (by rfl) (hb.pur 126 3 dc) rfl ?_;simp only[y80,jh,ζ,η,θ,κ];rw[(by unfold z80;simp only[qq];rfl:z80=_)];repeat'(first|apply jb<;>intro _|simp(disch:=first|exact dzD|fail) only[N,k1,M,c1,r6,δ,ε])
   (refine G1.done ?_ (by rfl) (by rfl) ?_;(· (first|exact cyD|fail));(· first|exact vyD|skip))
 ·rw[if_neg k1];refine⟨i,0,?_⟩;unfold pC at *;refine j2 x80 (by rfl) (hb.pur 126 3 dc) rfl ?_;simp only[y80,jh,ζ,η,θ,κ];rw[(by unfold z80;simp only[qq];rfl:z80=_)];repeat'(first|apply jb<;>intro _|simp(disch:=first|exact dzD|fail) only[N,k1,r6,δ,ε])
  (refine G1.done ?_ (by rfl) (by rfl) ?_;(· (first|exact cyD|fail));(· first|exact vyD|skip))
def Df:AV->AV->Prop
 |.slice b _ _ _ _ _,.slice c _ _ _ _ _=>c≠b
 |_,_=>True
theorem Lv.apsD {lo hi n z:Nat}{s:St}{v w:AV}{cs news:List AV}(V:Lv lo hi s w n cs z)(h:Df v w):Lv lo hi (Go.Sy.aps v s news) w n cs z:=by
 rcases V with ⟨rfl,h2,h3⟩|⟨b,rfl,h2,h3,h4,h5,h6⟩
 ·exact .inl ⟨rfl,h2,h3⟩
 ·refine .inr ⟨b,rfl,h2,h3,?_,h5,h6⟩;unfold Go.Sy.aps;split
  ·exact h4.apO h
  ·exact h4.nw news
theorem Df.put {lo hi n z z':Nat}{s t:St}{v w:AV}{cs:List AV}(V:Lv lo hi s w n cs z)(h:hi<=t.nx):Df (apv z' v t) w/\Df w (apv z' v t):=by
 rcases V with ⟨rfl,h2,h3⟩|⟨b,rfl,h2,h3,h4,h5,h6⟩
 ·unfold apv;split<;>exact⟨trivial,trivial⟩
 ·unfold apv;split<;>exact⟨by show b≠t.nx;omega,by show t.nx≠b;omega⟩
structure SrcT where
 enums:List EnumT
 vars:List DeclT
 procs:List ProcT
def srE (m:SrcT):List AV:=[.lst m.enums.length (fl enE m.enums),.lst m.vars.length (fl qo m.vars),.lst m.procs.length (fl prE m.procs)]
def YT (ts:List Tk):Nat->Nat->SrcT->SR SrcT
 |0,i,_=>.er (tk ts i)
 |n+1,i,m=>if isM (tk ts i) [[101,110,117,109],[118,97,114],[112,114,111,99,101,115,115]]=true then
   (if(tk ts i).text=[101,110,117,109] then
    (if 32<=m.enums.length then .er (tk ts i) else match wi ts (i+1) with
     |.er t=>.er t
     |.ok e j=>YT ts n j { m with enums:=m.enums ++ [e] })
   else if(tk ts i).text=[118,97,114] then
    (if 32<=m.vars.length then .er (tk ts i) else match wm ts (i+1) with
     |.er t=>.er t
     |.ok e j=>YT ts n j { m with vars:=m.vars ++ [e] })
   else(if 32<=m.procs.length then .er (tk ts i) else match Z2 ts (i+1) with
     |.er t=>.er t
     |.ok e j=>YT ts n j { m with procs:=m.procs ++ [e] }))
  else if(tk ts i).kind=5 then .ok m i else .er (tk ts i)
theorem jcG {ts:List Tk}(W:Wds ts):∀ n i vs ws j,i<ts.length->Yj ts n i vs=.ok ws j->i<=j/\j<ts.length
 |0,i,vs,ws,j,_,h=>by simp[Yj] at h
 |n+1,i,vs,ws,j,hi,h=>by
  unfold Yj at h;split at h
  ·rename_i k1;have hi1:i+1<ts.length:=W.next i hi om
   split at h
   ·cases h
   ·split at h
    ·rename_i c;have hi2:=W.isM hi1 c;have:=jcG W n (i+2) _ ws j hi2 h;exact⟨om,om⟩
    ·split at h
     ·rename_i c;cases h;have:=W.isM hi1 c;exact⟨om,this⟩
     ·cases h
  ·cases h
theorem jdv {ts:List Tk}(W:Wds ts){i j:Nat}{e:EnumT}(hi:i<ts.length)(h:wi ts i=.ok e j):i<j/\j<ts.length:=by
 unfold wi at h;split at h
 ·rename_i k1;have hi1:i+1<ts.length:=W.next i hi om
  split at h
  ·rename_i c;have hi2:=W.isM hi1 c;cases hv:Yj ts ts.length (i+2) [] with
   |er t=>rw[hv] at h;cases h
   |ok vs k=>
    rw[hv] at h;cases h;have:=jcG W _ _ _ _ _ hi2 hv;exact⟨om,om⟩
  ·cases h
 ·cases h
theorem jaP {ts:List Tk}(W:Wds ts):∀ n i vs ws j,i<ts.length->QM ts n i vs=.ok ws j->i<=j/\j<ts.length
 |0,i,vs,ws,j,_,h=>by simp[QM] at h
 |n+1,i,vs,ws,j,hi,h=>by
  unfold QM at h;split at h
  ·rename_i c;have hi1:=W.isM hi c;split at h
   ·cases h
   ·cases hr:Zd ts (i+1) with
    |er t=>rw[hr] at h;cases h
    |ok r k=>
     rw[hr] at h;dsimp only at h;have g:=gF W hi1 hr;have:=jaP W n k _ ws j g.2 h;exact⟨om,om⟩
  ·split at h
   ·rename_i c;cases h;exact⟨om,W.isM hi c⟩
   ·cases h
theorem jc5 {ts:List Tk}(W:Wds ts){i j:Nat}{e:ProcT}(hi:i<ts.length)(h:Z2 ts i=.ok e j):i<j/\j<ts.length:=by
 unfold Z2 at h;split at h
 ·rename_i k1;have hi1:i+1<ts.length:=W.next i hi om
  split at h
  ·rename_i c;have hi2:=W.isM hi1 c;cases hv:QM ts ts.length (i+2) [] with
   |er t=>rw[hv] at h;cases h
   |ok vs k=>
    rw[hv] at h;cases h;have:=jaP W _ _ _ _ _ hi2 hv;exact⟨om,om⟩
  ·cases h
 ·cases h
theorem jgT {ts:List Tk}(W:Wds ts){i j:Nat}{n:Int}(h:Yw ts i=.ok n j):i<j:=by
 unfold Yw at h;split at h
 ·split at h
  ·cases h;omega
  ·cases h
 ·split at h
  ·cases h;omega
  ·cases h
theorem jgo {ts:List Tk}(W:Wds ts){i j:Nat}{y:List Nat×Int×Int}(hi:i<ts.length)(h:u0 ts i=.ok y j):i<j/\j<ts.length:=by
 unfold u0 at h;split at h
 ·rename_i c;cases h;exact⟨om,W.isM hi c⟩
 ·split at h
  ·rename_i k1;cases h;exact⟨om,W.next i hi om⟩
  ·cases hn:Yw ts i with
   |er t=>rw[hn] at h;cases h
   |ok lo k=>
    rw[hn] at h;dsimp only at h;have g:=Kd W hi hn;have g1:=jgT W hn;split at h
    ·rename_i c;have hk1:=W.isM g c;cases hn2:Yw ts (k+1) with
     |er t=>rw[hn2] at h;cases h
     |ok h2 q=>
      rw[hn2] at h;cases h;have:=Kd W hk1 hn2;have:=jgT W hn2;exact⟨om,om⟩
    ·cases h
theorem jqy {ts:List Tk}(W:Wds ts){i j:Nat}{bs:List Ex}(hi:i<ts.length)(h:um ts i=.ok bs j):i<j/\j<ts.length:=by
 unfold um at h;split at h
 ·rename_i c;have hi1:=W.isM hi c;cases hw:yT ts (i+1) with
  |er t=>rw[hw] at h;cases h
  |ok x k=>
   rw[hw] at h;dsimp only at h;have g:=yH W hi1 hw;split at h
   ·rename_i c2;cases h;have:=W.isM g.2.1 c2;have:=g.1;exact⟨om,om⟩
   ·cases h
 ·split at h
  ·rename_i c;cases h;exact⟨om,W.isM hi c⟩
  ·cases h
theorem jdz {ts:List Tk}(W:Wds ts){i j:Nat}{e:DeclT}(hi:i<ts.length)(h:wm ts i=.ok e j):i<j/\j<ts.length:=by
 unfold wm at h;split at h
 ·rename_i k1;have hi1:i+1<ts.length:=W.next i hi om
  split at h
  ·rename_i c;have hi2:=W.isM hi1 c;cases ht:u0 ts (i+2) with
   |er t=>rw[ht] at h;cases h
   |ok y k=>
    rw[ht] at h;dsimp only at h;have g:=jgo W hi2 ht;cases hv:um ts k with
    |er t=>rw[hv] at h;cases h
    |ok bs q=>
     rw[hv] at h;cases h;have:=jqy W g.2 hv;exact⟨om,om⟩
  ·cases h
 ·cases h
theorem JE (e:EnumT):(enE e).all pc=true:=by
 have:∀ l:List (List Nat),(l.map AV.str).all pc=true:=uz;show([AV.str e.name,.lst e.vals.length (e.vals.map .str),.int .i64 (e.line:Int),.int .i64 (e.col:Int)]).all pc=true;simp[pc]
theorem Jj (e:DeclT):(qo e).all pc=true:=by
 show([AV.str e.name,.str e.ty,.int .i64 e.lo,.int .i64 e.hi,.lst e.begins.length (fl eE e.begins),.int .i64 (e.line:Int),.int .i64 (e.col:Int)]).all pc=true;simp[pc]
theorem HO (e:ProcT):(prE e).all pc=true:=by
 show([AV.str e.name,.lst e.rules.length (fl ruE e.rules),.int .i64 (e.line:Int),.int .i64 (e.col:Int)]).all pc=true;simp[pc]
theorem Df.symm {v w:AV}(h:Df v w):Df w v:=by
 unfold Df at *;split at h<;>first|exact λe=>h e.symm|(cases v<;>cases w<;>first|trivial|(rename_i h2;exact absurd rfl (h2 _ _ _ _ _ _ _ _ _ _ _ _ rfl)))
theorem jrJ:Go.Ev.isAgg γ 22=some false:=by kernel_rfl
theorem jrI:Go.Ev.sizeOf γ 22=some 1:=by kernel_rfl
theorem gC {b o:Nat}{v:AV}{h:T AO}(ho:o<qh h b)(hv:rat h b o=v)(hc:eqs v=true):(jY γ 22 (.ptr b o) v h=true)=True:=eq_true (Qq jrJ jrI ho hv hc)
theorem jrH:Go.Ev.isAgg γ 23=some false:=by kernel_rfl
theorem jrG:Go.Ev.sizeOf γ 23=some 1:=by kernel_rfl
theorem jo7 {b o:Nat}{v:AV}{h:T AO}(ho:o<qh h b)(hv:rat h b o=v)(hc:eqs v=true):(jY γ 23 (.ptr b o) v h=true)=True:=eq_true (Qq jrH jrG ho hv hc)
theorem jrF:Go.Ev.isAgg γ 24=some false:=by kernel_rfl
theorem jrE:Go.Ev.sizeOf γ 24=some 1:=by kernel_rfl
theorem jo6 {b o:Nat}{v:AV}{h:T AO}(ho:o<qh h b)(hv:rat h b o=v)(hc:eqs v=true):(jY γ 24 (.ptr b o) v h=true)=True:=eq_true (Qq jrF jrE ho hv hc)
set_option maxHeartbeats 8000000 in
theorem jjG (hb:NB base){ts:List Tk}(W:Wds ts)(NN:Nbs ts){i:Nat}(hi:i<ts.length):AnS base 90 (pC ts i 0) [] ts 0 (λe=>.agg (srE e)) (YT ts ts.length i ⟨[],[],[]⟩):=by
 have wl:=W.len;suffices h:∀ r:SR SrcT,YT ts ts.length i ⟨[],[],[]⟩=r->AnS base 90 (pC ts i 0) [] ts 0 (λe=>.agg (srE e)) r from h _ rfl
 intro r hr;refine vB x37 (by rfl) (hb.pur 90 3 dc) ?_;simp only[y37,jh,ζ,η,θ,κ];rw[(by unfold z37;simp only[qq];rfl:z37=_)];unfold pC at *;repeat'(first|apply jb<;>intro _|simp(disch:=first|exact dzD|fail) only[r6,δ,ε])
 refine ut λu hu=>?_;have n0:u.nx=3:=by rw[hu];rfl
 have C0:Cl u 0 (pC ts i 0):=by
  rw[hu];unfold pC
  (first|exact cyD|fail)
 have C1:Cl u 1 [.nils,.nils,.nils]:=by
  rw[hu]
  (first|exact cyD|fail)
 have C2:Cl u 2 [.nils,.nils,.nils]:=by
  rw[hu]
  (first|exact cyD|fail)
 clear hu;refine yz (λmm L s=>∃ (m i':Nat) (x:SrcT) (v1 v2 v3:AV),mm=m/\ts.length<=i'+m/\i'<ts.length/\YT ts m i' x=r/\3<=s.nx/\Cl s 0 (pC ts i' 0)/\Cl s 1 [.nils,.nils,.nils]/\Cl s 2 [v1,v2,v3]/\Lv 3 s.nx s v1 x.enums.length (fl enE x.enums) 4/\Lv 3 s.nx s v2 x.vars.length (fl qo x.vars) 7/\Lv 3 s.nx s v3 x.procs.length (fl prE x.procs) 4/\Df v1 v2/\Df v1 v3/\Df v2 v3/\Has L 0 (.ptr 0 0)/\Has L 2 (.ptr 1 0)/\Has L 3 (.ptr 2 0)) ?_ ts.length ?_
 ·rintro m L s ⟨_,i',x,v1,v2,v3,rfl,hm,hi',hl,n0,C0,C1,C2,V1,V2,V3,D12,D13,D23,i0,i2,i3⟩;clear hr;cases m with
  |zero=>omega
  |succ m=>
  unfold YT at hl;obtain⟨q,hq⟩:∃ q,q=s.nx:=⟨_,rfl⟩;rw[<-hq] at V1 V2 V3;have hq':q<=s.nx:=QaS hq;have T:=Yp hb hi' (d:=0) om [[101,110,117,109],[118,97,114],[112,114,111,99,101,115,115]] (cs:=[.str [101,110,117,109],.str [118,97,114],.str [112,114,111,99,101,115,115]]) (n:=3) rfl rfl dc;have L0:=C0.lt;have L1:=C1.lt;have L2:=C2.lt;have ve1:=V1.eqs;have ve2:=V2.eqs;have ve3:=V3.eqs;have g1:rat s.h 2 0=v1:=C2.cell 0 (QaN 2);have g2:rat s.h 2 1=v2:=C2.cell 1 (Qbv (QaN 1));have g3:rat s.h 2 2=v3:=C2.cell 2 (Qbv (Qbv (QaN 0)));have vl1:=V1.len;have vl2:=V2.len;have vl3:=V3.len;have vc1:∀ l,lall AV.cell (v1 :: l)=lall AV.cell l:=λl=>by show cond v1.cell _ false=_;rw[V1.cell];rfl
  have vc2:∀ l,lall AV.cell (v2 :: l)=lall AV.cell l:=λl=>by show cond v2.cell _ false=_;rw[V2.cell];rfl
  have vc3:∀ l,lall AV.cell (v3 :: l)=lall AV.cell l:=λl=>by show cond v3.cell _ false=_;rw[V3.cell];rfl
  by_cases c2:isM (tk ts i') [[101,110,117,109],[118,97,114],[112,114,111,99,101,115,115]]=true
  ·rw[if_pos c2] at hl;have hi1:=W.isM hi' c2;by_cases t1:(tk ts i').text=[101,110,117,109]
   ·rw[if_pos t1] at hl;by_cases h32:32<=x.enums.length
    ·rw[if_pos h32] at hl;have hl:SR.er (tk ts i')=r:=hl;subst hl;have R:=wD hb h32 (tk ts i');unfold pC at *
     (have zz:=a4 @g1 C0.r C1.r C2.r;(repeat'(first|apply jb<;>intro _|simp(disch:=first|exact qO|fail) only[ja i0,ja i2,ja i3,T,c2,t1,vl1,R,g1,zo,C0.q,C1.q,C2.q,g1,C0.r,C1.r,C2.r,r6,δ,ε])))
     refine⟨i'+1,0,?_⟩;unfold pC
     (refine G1.done ?_ (by rfl) (by rfl) ?_;(· (have zz:=a4 C0.q C1.q C2.q (aI C0.r (aI C1.r C2.r));first|exact qf|fail));(· first|exact vyD|skip))
    ·rw[if_neg h32] at hl;have R:=wC hb (show x.enums.length<32 by omega) (tk ts i');have A:=jp6 hb W (d:=0) hi1;cases hw:wi ts (i'+1) with
     |er t=>
      rw[hw] at hl A;have hl:SR.er t=r:=hl;subst hl;obtain⟨i2',d2,A⟩:=A;have E:∀ st p,Cl st p (pC ts (i'+1) 0)->∀ K Kp,XB γ base 124 [.ptr p 0] st K Kp=_:=λst p C K Kp=>A.xb C rfl (λst=>hb.no 124 dc _ _) K Kp;unfold pC at *
      (have zz:=a4 @g1 C0.r C1.r C2.r;(repeat'(first|apply jb<;>intro _|simp(disch:=first|exact qO|fail) only[ja i0,ja i2,ja i3,T,c2,t1,vl1,R,g1,E,gC,ve1,zo,C0.q,C1.q,C2.q,g1,C0.r,C1.r,C2.r,r6,δ,ε])))
      refine⟨i2',d2,?_⟩;unfold pC
      (refine G1.done ?_ (by rfl) (by rfl) ?_;(· (have zz:=a4 C0.q C1.q C2.q (aI C0.r (aI C1.r C2.r));first|exact qf|fail));(· first|exact vyD|skip))
     |ok a j=>
      rw[hw] at hl A;dsimp only at hl;have A:PM γ base 124 (pC ts (i'+1) 0) [] (.ok (.agg [.str a.name,.lst a.vals.length (a.vals.map .str),.int .i64 (a.line:Int),.int .i64 (a.col:Int)])) (pC ts j 0):=A;have hj:=jdv W hi1 hw;have E:∀ st p,Cl st p (pC ts (i'+1) 0)->∀ K Kp,XB γ base 124 [.ptr p 0] st K Kp=_:=λst p C K Kp=>A.xb C rfl (λst=>hb.no 124 dc _ _) K Kp;have Ap:=λst bv xc xx K h hv=>@JR 3 q x.enums.length 4 st v1 (fl enE x.enums) K 56 bv xc xx h dc om om hv;have VP:∀ st m',Lv 3 q st v1 x.enums.length (fl enE x.enums) 4->3<=st.nx->m'=st.nx+1->Lv 3 m' (aps v1 st [.str a.name,.lst a.vals.length (a.vals.map .str),.int .i64 (a.line:Int),.int .i64 (a.col:Int)]) (apv 4 v1 st) (x.enums ++ [a]).length (fl enE (x.enums ++ [a])) 4:=λst m' h h2 h3=>by
       rw[υ,QY,JX];exact h.put rfl h2 h3
      unfold pC at *
      (have zz:=a8 @g1 V1.ln V1.rts @jC @jG @jJ @V1 (a4 @jB @jI @jM (aI C0.r (aI C1.r C2.r)));(repeat'(first|apply jb<;>intro _|simp(disch:=first|exact qO|fail) only[ja i0,ja i2,ja i3,T,c2,t1,vl1,R,g1,E,gC,ve1,Ap,V1.at,jB,C0.q,C1.q,C2.q,g1,V1.ln,V1.rts,jC,jG,jJ,V1,jB,jI,jM,C0.r,C1.r,C2.r,r6,δ,ε])))
      refine⟨m,om,m,j,{ x with enums:=x.enums ++ [a] },?v1,v2,v3,rfl,om,hj.2,hl,om,?c0,?c1,?c2,?lv1,?lv2,?lv3,?d12,?d13,?d23,?has⟩;case lv1=>
       refine Lv.up (hi:=s.nx+4) ?_ om;refine VP _ _ ?_ ?_ ?_;all_goals first|(simp only[je,jg,jo];done)|(simp only[je,jg,jo];omega)|(simp(disch:=first|omega|(simp only[je,jg,jo];omega)) only[jC,jG,jJ];exact V1)
      case lv2=>
       refine Lv.up (hi:=q) ?_ om;simp(disch:=first|omega|(simp only[je,jg,jo];omega)) only[jC,jG,jJ];refine Lv.apsD ?_ D12;simp(disch:=first|omega|(simp only[je,jg,jo];omega)) only[jC,jG,jJ];exact V2
      case d12=>exact(Df.put V2 (by simp only[je,jg,jo];omega)).1
      case lv3=>
       refine Lv.up (hi:=q) ?_ om;simp(disch:=first|omega|(simp only[je,jg,jo];omega)) only[jC,jG,jJ];refine Lv.apsD ?_ D13;simp(disch:=first|omega|(simp only[je,jg,jo];omega)) only[jC,jG,jJ];exact V3
      case d13=>exact(Df.put V3 (by simp only[je,jg,jo];omega)).1
      case d23=>exact D23
      case c0=>(have zz:=a8 C0.q C1.q C2.q @g1 @g2 @g3 V1.ln (a4 V1.rts @jB @jI (a4 @jM C0.r C1.r C2.r));first|exact qf|fail)
      case c1=>(have zz:=a8 C0.q C1.q C2.q @g1 @g2 @g3 V1.ln (a4 V1.rts @jB @jI (a4 @jM C0.r C1.r C2.r));first|exact qf|fail)
      case c2=>(have zz:=a8 C0.q C1.q C2.q @g1 @g2 @g3 V1.ln (a4 V1.rts @jB @jI (a4 @jM C0.r C1.r C2.r));first|exact qf|fail)
      case has=>simp(disch:=decide) only[h12,i0,i2,i3]
   ·rw[if_neg t1] at hl;by_cases t2:(tk ts i').text=[118,97,114]
    ·rw[if_pos t2] at hl;by_cases h32:32<=x.vars.length
     ·rw[if_pos h32] at hl;have hl:SR.er (tk ts i')=r:=hl;subst hl;have R:=wD hb h32 (tk ts i');unfold pC at *
      (have zz:=a4 @g2 C0.r C1.r C2.r;(repeat'(first|apply jb<;>intro _|simp(disch:=first|exact qO|fail) only[ja i0,ja i2,ja i3,T,c2,t1,t2,vl2,R,g2,zo,C0.q,C1.q,C2.q,g2,C0.r,C1.r,C2.r,r6,δ,ε])))
      refine⟨i'+1,0,?_⟩;unfold pC
      (refine G1.done ?_ (by rfl) (by rfl) ?_;(· (have zz:=a4 C0.q C1.q C2.q (aI C0.r (aI C1.r C2.r));first|exact qf|fail));(· first|exact vyD|skip))
     ·rw[if_neg h32] at hl;have R:=wC hb (show x.vars.length<32 by omega) (tk ts i');have A:=jqd hb W NN hi1;cases hw:wm ts (i'+1) with
      |er t=>
       rw[hw] at hl A;have hl:SR.er t=r:=hl;subst hl;obtain⟨i2',d2,A⟩:=A;have E:∀ st p,Cl st p (pC ts (i'+1) 0)->∀ K Kp,XB γ base 125 [.ptr p 0] st K Kp=_:=λst p C K Kp=>A.xb C rfl (λst=>hb.no 125 dc _ _) K Kp;unfold pC at *
       (have zz:=a4 @g2 C0.r C1.r C2.r;(repeat'(first|apply jb<;>intro _|simp(disch:=first|exact qO|fail) only[ja i0,ja i2,ja i3,T,c2,t1,t2,vl2,R,g2,E,jo7,ve2,zo,C0.q,C1.q,C2.q,g2,C0.r,C1.r,C2.r,r6,δ,ε])))
       refine⟨i2',d2,?_⟩;unfold pC
       (refine G1.done ?_ (by rfl) (by rfl) ?_;(· (have zz:=a4 C0.q C1.q C2.q (aI C0.r (aI C1.r C2.r));first|exact qf|fail));(· first|exact vyD|skip))
      |ok a j=>
       rw[hw] at hl A;dsimp only at hl;have A:PM γ base 125 (pC ts (i'+1) 0) [] (.ok (.agg [.str a.name,.str a.ty,.int .i64 a.lo,.int .i64 a.hi,.lst a.begins.length (fl eE a.begins),.int .i64 (a.line:Int),.int .i64 (a.col:Int)])) (pC ts j 0):=A;have hj:=jdz W hi1 hw;have E:∀ st p,Cl st p (pC ts (i'+1) 0)->∀ K Kp,XB γ base 125 [.ptr p 0] st K Kp=_:=λst p C K Kp=>A.xb C rfl (λst=>hb.no 125 dc _ _) K Kp;have Ap:=λst bv xc xx K h hv=>@JR 3 q x.vars.length 7 st v2 (fl qo x.vars) K 88 bv xc xx h dc om om hv;have VP:∀ st m',Lv 3 q st v2 x.vars.length (fl qo x.vars) 7->3<=st.nx->m'=st.nx+1->Lv 3 m' (aps v2 st [.str a.name,.str a.ty,.int .i64 a.lo,.int .i64 a.hi,.lst a.begins.length (fl eE a.begins),.int .i64 (a.line:Int),.int .i64 (a.col:Int)]) (apv 7 v2 st) (x.vars ++ [a]).length (fl qo (x.vars ++ [a])) 7:=λst m' h h2 h3=>by
        rw[υ,QY,JX];exact h.put rfl h2 h3
       unfold pC at *
       (have zz:=a8 @g2 V2.ln V2.rts @jC @jG @jJ @V2 (a4 @jB @jI @jM (aI C0.r (aI C1.r C2.r)));(repeat'(first|apply jb<;>intro _|simp(disch:=first|exact qO|fail) only[ja i0,ja i2,ja i3,T,c2,t1,t2,vl2,R,g2,E,jo7,ve2,Ap,V2.at,jB,C0.q,C1.q,C2.q,g2,V2.ln,V2.rts,jC,jG,jJ,V2,jB,jI,jM,C0.r,C1.r,C2.r,r6,δ,ε])))
       refine⟨m,om,m,j,{ x with vars:=x.vars ++ [a] },v1,?v2,v3,rfl,om,hj.2,hl,om,?c0,?c1,?c2,?lv1,?lv2,?lv3,?d12,?d13,?d23,?has⟩;case lv2=>
        refine Lv.up (hi:=s.nx+4) ?_ om;refine VP _ _ ?_ ?_ ?_;all_goals first|(simp only[je,jg,jo];done)|(simp only[je,jg,jo];omega)|(simp(disch:=first|omega|(simp only[je,jg,jo];omega)) only[jC,jG,jJ];exact V2)
       case lv1=>
        refine Lv.up (hi:=q) ?_ om;simp(disch:=first|omega|(simp only[je,jg,jo];omega)) only[jC,jG,jJ];refine Lv.apsD ?_ D12.symm;simp(disch:=first|omega|(simp only[je,jg,jo];omega)) only[jC,jG,jJ];exact V1
       case d12=>exact(Df.put V1 (by simp only[je,jg,jo];omega)).2
       case lv3=>
        refine Lv.up (hi:=q) ?_ om;simp(disch:=first|omega|(simp only[je,jg,jo];omega)) only[jC,jG,jJ];refine Lv.apsD ?_ D23;simp(disch:=first|omega|(simp only[je,jg,jo];omega)) only[jC,jG,jJ];exact V3
       case d23=>exact(Df.put V3 (by simp only[je,jg,jo];omega)).1
       case d13=>exact D13
       case c0=>(have zz:=a8 C0.q C1.q C2.q @g1 @g2 @g3 V2.ln (a4 V2.rts @jB @jI (a4 @jM C0.r C1.r C2.r));first|exact qf|fail)
       case c1=>(have zz:=a8 C0.q C1.q C2.q @g1 @g2 @g3 V2.ln (a4 V2.rts @jB @jI (a4 @jM C0.r C1.r C2.r));first|exact qf|fail)
       case c2=>(have zz:=a8 C0.q C1.q C2.q @g1 @g2 @g3 V2.ln (a4 V2.rts @jB @jI (a4 @jM C0.r C1.r C2.r));first|exact qf|fail)
       case has=>simp(disch:=decide) only[h12,i0,i2,i3]
    ·rw[if_neg t2] at hl;by_cases h32:32<=x.procs.length
     ·rw[if_pos h32] at hl;have hl:SR.er (tk ts i')=r:=hl;subst hl;have R:=wD hb h32 (tk ts i');unfold pC at *
      (have zz:=a4 @g3 C0.r C1.r C2.r;(repeat'(first|apply jb<;>intro _|simp(disch:=first|exact qO|fail) only[ja i0,ja i2,ja i3,T,c2,t1,t2,vl3,R,g3,zo,C0.q,C1.q,C2.q,g3,C0.r,C1.r,C2.r,r6,δ,ε])))
      refine⟨i'+1,0,?_⟩;unfold pC
      (refine G1.done ?_ (by rfl) (by rfl) ?_;(· (have zz:=a4 C0.q C1.q C2.q (aI C0.r (aI C1.r C2.r));first|exact qf|fail));(· first|exact vyD|skip))
     ·rw[if_neg h32] at hl;have R:=wC hb (show x.procs.length<32 by omega) (tk ts i');have A:=jpp hb W hi1;cases hw:Z2 ts (i'+1) with
      |er t=>
       rw[hw] at hl A;have hl:SR.er t=r:=hl;subst hl;obtain⟨i2',d2,A⟩:=A;have E:∀ st p,Cl st p (pC ts (i'+1) 0)->∀ K Kp,XB γ base 126 [.ptr p 0] st K Kp=_:=λst p C K Kp=>A.xb C rfl (λst=>hb.no 126 dc _ _) K Kp;unfold pC at *
       (have zz:=a4 @g3 C0.r C1.r C2.r;(repeat'(first|apply jb<;>intro _|simp(disch:=first|exact qO|fail) only[ja i0,ja i2,ja i3,T,c2,t1,t2,vl3,R,g3,E,jo6,ve3,zo,C0.q,C1.q,C2.q,g3,C0.r,C1.r,C2.r,r6,δ,ε])))
       refine⟨i2',d2,?_⟩;unfold pC
       (refine G1.done ?_ (by rfl) (by rfl) ?_;(· (have zz:=a4 C0.q C1.q C2.q (aI C0.r (aI C1.r C2.r));first|exact qf|fail));(· first|exact vyD|skip))
      |ok a j=>
       rw[hw] at hl A;dsimp only at hl;have A:PM γ base 126 (pC ts (i'+1) 0) [] (.ok (.agg [.str a.name,.lst a.rules.length (fl ruE a.rules),.int .i64 (a.line:Int),.int .i64 (a.col:Int)])) (pC ts j 0):=A;have hj:=jc5 W hi1 hw;have E:∀ st p,Cl st p (pC ts (i'+1) 0)->∀ K Kp,XB γ base 126 [.ptr p 0] st K Kp=_:=λst p C K Kp=>A.xb C rfl (λst=>hb.no 126 dc _ _) K Kp;have Ap:=λst bv xc xx K h hv=>@JR 3 q x.procs.length 4 st v3 (fl prE x.procs) K 56 bv xc xx h dc om om hv;have VP:∀ st m',Lv 3 q st v3 x.procs.length (fl prE x.procs) 4->3<=st.nx->m'=st.nx+1->Lv 3 m' (aps v3 st [.str a.name,.lst a.rules.length (fl ruE a.rules),.int .i64 (a.line:Int),.int .i64 (a.col:Int)]) (apv 4 v3 st) (x.procs ++ [a]).length (fl prE (x.procs ++ [a])) 4:=λst m' h h2 h3=>by
        rw[υ,QY,JX];exact h.put rfl h2 h3
       unfold pC at *
       (have zz:=a8 @g3 V3.ln V3.rts @jC @jG @jJ @V3 (a4 @jB @jI @jM (aI C0.r (aI C1.r C2.r)));(repeat'(first|apply jb<;>intro _|simp(disch:=first|exact qO|fail) only[ja i0,ja i2,ja i3,T,c2,t1,t2,vl3,R,g3,E,jo6,ve3,Ap,V3.at,jB,C0.q,C1.q,C2.q,g3,V3.ln,V3.rts,jC,jG,jJ,V3,jB,jI,jM,C0.r,C1.r,C2.r,r6,δ,ε])))
       refine⟨m,om,m,j,{ x with procs:=x.procs ++ [a] },v1,v2,?v3,rfl,om,hj.2,hl,om,?c0,?c1,?c2,?lv1,?lv2,?lv3,?d12,?d13,?d23,?has⟩;case lv3=>
        refine Lv.up (hi:=s.nx+4) ?_ om;refine VP _ _ ?_ ?_ ?_;all_goals first|(simp only[je,jg,jo];done)|(simp only[je,jg,jo];omega)|(simp(disch:=first|omega|(simp only[je,jg,jo];omega)) only[jC,jG,jJ];exact V3)
       case lv1=>
        refine Lv.up (hi:=q) ?_ om;simp(disch:=first|omega|(simp only[je,jg,jo];omega)) only[jC,jG,jJ];refine Lv.apsD ?_ D13.symm;simp(disch:=first|omega|(simp only[je,jg,jo];omega)) only[jC,jG,jJ];exact V1
       case d13=>exact(Df.put V1 (by simp only[je,jg,jo];omega)).2
       case lv2=>
        refine Lv.up (hi:=q) ?_ om;simp(disch:=first|omega|(simp only[je,jg,jo];omega)) only[jC,jG,jJ];refine Lv.apsD ?_ D23.symm;simp(disch:=first|omega|(simp only[je,jg,jo];omega)) only[jC,jG,jJ];exact V2
       case d23=>exact(Df.put V2 (by simp only[je,jg,jo];omega)).2
       case d12=>exact D12
       case c0=>(have zz:=a8 C0.q C1.q C2.q @g1 @g2 @g3 V3.ln (a4 V3.rts @jB @jI (a4 @jM C0.r C1.r C2.r));first|exact qf|fail)
       case c1=>(have zz:=a8 C0.q C1.q C2.q @g1 @g2 @g3 V3.ln (a4 V3.rts @jB @jI (a4 @jM C0.r C1.r C2.r));first|exact qf|fail)
       case c2=>(have zz:=a8 C0.q C1.q C2.q @g1 @g2 @g3 V3.ln (a4 V3.rts @jB @jI (a4 @jM C0.r C1.r C2.r));first|exact qf|fail)
       case has=>simp(disch:=decide) only[h12,i0,i2,i3]
  ·rw[if_neg c2] at hl;by_cases k5:(tk ts i').kind=5
   ·rw[if_pos k5] at hl;have hl:SR.ok x i'=r:=hl;subst hl;have k5':((tk ts i').kind:Int)=5:=om
    unfold pC at *
    (have zz:=a8 @g1 @g2 @g3 @vc1 @vc2 @vc3 C0.r (aI C1.r C2.r);(repeat'(first|apply jb<;>intro _|simp(disch:=first|exact qO|fail) only[ja i0,ja i2,ja i3,T,c2,k5',g1,g2,g3,HH,C0.q,C1.q,C2.q,g1,g2,g3,vc1,vc2,vc3,C0.r,C1.r,C2.r,r6,δ,ε])))
    show G1 3 (pC ts i' 0) (.agg (srE x)) _ _;refine G1.done ?_ (by rfl) (by rfl) (FzD.agg (.cons (Lv.fz (lo:=3) (hi:=q) (z:=4) ?_ dc (zN JE _)) (.cons (Lv.fz (lo:=3) (hi:=q) (z:=7) ?_ dc (zN Jj _)) (.cons (Lv.fz (lo:=3) (hi:=q) (z:=4) ?_ dc (zN HO _)) .nil))))
    ·unfold pC
     (have zz:=a8 C0.q C1.q C2.q @g1 @g2 @g3 C0.r (aI C1.r C2.r);first|exact qf|fail)
    all_goals simp(disch:=first|omega|(simp only[je,jg,jo];omega)) only[jH,jC,jG,jJ]
    ·exact V1
    ·exact V2
    ·exact V3
   ·rw[if_neg k5] at hl;have hl:SR.er (tk ts i')=r:=hl;subst hl;have k5':¬ ((tk ts i').kind:Int)=5:=om
    unfold pC at *
    (have zz:=a4 @g1 C0.r C1.r C2.r;(repeat'(first|apply jb<;>intro _|simp(disch:=first|exact qO|fail) only[ja i0,ja i2,ja i3,T,c2,k5',g1,JZ hb,zo,C0.q,C1.q,C2.q,g1,C0.r,C1.r,C2.r,r6,δ,ε])))
    refine⟨i',0,?_⟩;unfold pC
    (refine G1.done ?_ (by rfl) (by rfl) ?_;(· (have zz:=a4 C0.q C1.q C2.q (aI C0.r (aI C1.r C2.r));first|exact qf|fail));(· first|exact vyD|skip))
 ·refine⟨ts.length,i,⟨[],[],[]⟩,.nils,.nils,.nils,rfl,om,hi,hr,om,C0,C1,C2,Lv.nil,Lv.nil,Lv.nil,trivial,trivial,trivial,?_⟩;simp(disch:=decide) only[h12]
theorem jrD:Go.Ev.isAgg γ 26=some true:=by kernel_rfl
theorem jrC:Go.Ev.sizeOf γ 26=some 3:=by kernel_rfl
theorem jer {b:Nat}{h:T AO}(ho:0+3<=qh h b)(hv:rats h b 0 3=[.nils,.nils,.nils]):(jY γ 26 (.ptr b 0) (.agg [.nils,.nils,.nils]) h=true)=True:=eq_true (Yt jrD jrC dc ho hv rfl)
def WZ:SrcT:=⟨[],[],[]⟩
def zO (l:List Nat):SrcT×(Nat×Nat×Nat):=
 if(qi l).2.1≠0 then(WZ,(qi l).2) else match YT (qi l).1 (qi l).1.length 0 WZ with
  |.er t=>(WZ,(151,t.line,t.col))
  |.ok m j=>(m,(0,0,0))
theorem kM (m:SrcT):(srE m).all pc=true:=by
 show([AV.lst m.enums.length (fl enE m.enums),.lst m.vars.length (fl qo m.vars),.lst m.procs.length (fl prE m.procs)]).all pc=true;simp[pc]
theorem jcR {s:St}{q:Nat×Nat×Nat}{ds:List AV}(h2:ds=zu q):G0 (.tup [.agg (srE WZ),.agg (zu q)]) (.tup [.agg [.nils,.nils,.nils],.agg ds]) s:=by
 subst h2;exact FzD.tup (.cons (.agg (.cons FzD.nils (.cons FzD.nils (.cons FzD.nils .nil)))) (.cons (.agg (.pc (by rfl))) .nil))
theorem jml {s:St}{m:SrcT}{q:Nat×Nat×Nat}{cs ds:List AV}(h:cs=srE m)(h2:ds=zu q):G0 (.tup [.agg (srE m),.agg (zu q)]) (.tup [.agg cs,.agg ds]) s:=by
 subst h h2;exact FzD.tup (.cons (.agg (.pc (kM m))) (.cons (.agg (.pc (by rfl))) .nil))
set_option maxHeartbeats 4000000 in
theorem jkE (hb:NB base)(hP:PI base)(l:List Nat)(hl:l.length<=9223372036854775807)(hW:(qi l).2.1=0->Wds (qi l).1/\(qi l).1≠[]/\(qi l).2=(0,0,0))(hN:(qi l).2.1=0->Nbs (qi l).1) :
  Tot base 65 [.str l] (.tup [.agg (srE (zO l).1),.agg (zu (zO l).2)]):=by
 refine hb.tot ?_ rfl rfl;refine Wd x9 (hb.pur 65 1 dc) ?_;simp only[y9,jh,ζ,η,θ,κ];rw[(by unfold z9;simp only[qq];rfl:z9=_)];have hC:=jl5 hb hP l hl;have f0:(zu (qi l).2)=[.int .i64 ((qi l).2.1:Int),.int .i64 ((qi l).2.2.1:Int),.int .i64 ((qi l).2.2.2:Int)]:=rfl;by_cases he:(qi l).2.1=0
 ·obtain⟨W,hne,hz⟩:=hW he;have NN:=hN he;have hi:0<(qi l).1.length:=QbU.2 hne;have A:=jjG hb W NN hi;unfold zO;rw[if_neg (by simp[he])];rw[hz] at hC;have s0:WZ=⟨[],[],[]⟩:=rfl;rw[<-s0] at A;generalize (qi l).1=ts at *;have fz:zu (0,0,0)=[.int .i64 0,.int .i64 0,.int .i64 0]:=rfl;rw[fz] at hC;cases hr:YT ts ts.length 0 WZ with
  |er t=>
   rw[hr] at A;obtain⟨i',d',A⟩:=A;have E:∀ st p,Cl st p [.lst ts.length (fl Tk.cells ts),.int .i64 0,.int .i64 0]->∀ K Kp,XB γ base 90 [.ptr p 0] st K Kp=_:=λst p C K Kp=>A.xb C rfl (λst=>hb.no 90 dc _ _) K Kp;unfold pC at *;repeat'(first|apply jb<;>intro _|simp(disch:=first|exact dzD|fail) only[hC,E,Yh,Jh (f:=89) (vs:=[.ptr 1 0]),zd (f:=89) (vs:=[.ptr 1 0]),Qa,vv,Wh,Yr,jer,XY,WT,WS (base:=base),r6,δ,ε])
   exact jcR rfl
  |ok m j=>
   rw[hr] at A;have A:PM γ base 90 (pC ts 0 0) [] (.ok (.agg [.lst m.enums.length (fl enE m.enums),.lst m.vars.length (fl qo m.vars),.lst m.procs.length (fl prE m.procs)])) (pC ts j 0):=A;have E:∀ st p,Cl st p [.lst ts.length (fl Tk.cells ts),.int .i64 0,.int .i64 0]->∀ K Kp,XB γ base 90 [.ptr p 0] st K Kp=_:=λst p C K Kp=>A.xb C rfl (λst=>hb.no 90 dc _ _) K Kp;dsimp only;unfold pC at *;repeat'(first|apply jb<;>intro _|simp(disch:=first|exact dzD|fail) only[hC,E,Yh,Jh (f:=89) (vs:=[.ptr 1 0]),zd (f:=89) (vs:=[.ptr 1 0]),Qa,vv,Wh,Yr,jer,XY,WT,WS (base:=base),r6,δ,ε])
   exact jml rfl rfl
 ·have he':¬ ((qi l).2.1:Int)=0:=om
  unfold zO;rw[if_pos he];rw[f0] at hC;generalize (qi l).1=ts at *;repeat'(first|apply jb<;>intro _|simp(disch:=first|exact dzD|fail) only[hC,he',Yh,Jh (f:=89) (vs:=[.ptr 1 0]),zd (f:=89) (vs:=[.ptr 1 0]),Qa,vv,Wh,Yr,jer,r6,δ,ε])
  exact jcR rfl
theorem jeH {r:List Nat}{p:Nat×Nat}{n:Nat}{t:Tk}(h:yN r p=(0,t,n)):t.text.length<=r.length/\t.num<=1000000:=by
 cases r with
 |nil=>simp[yN] at h;obtain⟨h1,h2⟩:=h;subst h1;simp
 |cons x r'=>
  unfold yN at h;simp only at h;split at h
  ·split at h
   ·simp at h
   ·simp only[Prod.mk.injEq] at h;obtain⟨_,h1,h2⟩:=h;subst h1;exact⟨by simp only[Qam];omega,by simp⟩
  ·split at h
   ·split at h
    ·simp at h
    ·rename_i hh;simp only[Prod.mk.injEq] at h;obtain⟨_,h1,h2⟩:=h;subst h1;exact⟨by simp only[Qam];omega,by dsimp only;omega⟩
   ·split at h
    ·simp at h
    ·simp only[Prod.mk.injEq] at h;obtain⟨_,h1,h2⟩:=h;subst h1;exact⟨by simp only[Qam];omega,by simp⟩
structure Goods (n:Nat)(ts:List Tk):Prop where
 ne:ts≠[]
 len:ts.length<=n+1
 tok:∀ t∈ts,t.text.length<=n/\t.num<=1000000
 fin:∀ i,i<ts.length->((tk ts i).kind=5↔i+1=ts.length)
theorem jhO (k:Nat):∀ (r:List Nat) (p:Nat×Nat),r.length<=k->(Jo r p).2.1=0->(Jo r p).2=(0,0,0)/\Goods r.length (Jo r p).1:=by
 induction k with
 |zero=>
  intro r p hr;have:r=[]:=QaY om;subst this;have hx:yN (([]:List Nat).drop (j9 [])) (qa p (([]:List Nat).take (j9 [])))=(0,⟨5,[],0,(qa p (([]:List Nat).take (j9 []))).1,(qa p (([]:List Nat).take (j9 []))).2⟩,0):=by simp only[List.drop_nil];rfl
  rw[wP _ p hx,if_neg (by simp),if_pos rfl];intro _;refine⟨rfl,by simp,by simp,by simp,λi hi=>?_⟩;have:i=0:=by simp at hi;omega
  subst this;simp[tk]
 |succ k ih=>
  intro r p hr;have hg:=Un r;generalize hx:yN (r.drop (j9 r)) (qa p (r.take (j9 r)))=x;obtain⟨e,t,n⟩:=x;rw[wP r p hx];by_cases he:e=0
  ·subst he;rw[if_neg (by simp)];have hk:=Kf hx;have hgd:=jeH hx;have hle:=UX hx;simp only[Qau] at hgd hle;by_cases hn:n=0
   ·rw[if_pos hn];intro _;refine⟨rfl,by simp,by simp,?_,λi hi=>?_⟩
    ·intro t' ht';have:t'=t:=by simpa using ht'
     subst this;exact⟨om,hgd.2⟩
    ·have:i=0:=by simp at hi;omega
     subst this;have:=hk.1.2 hn;simpa[tk] using this
   ·rw[if_neg hn];have hl:((r.drop (j9 r)).drop n).length<=k:=by simp only[Qau];omega
    have hI:=ih ((r.drop (j9 r)).drop n) (qa (qa p (r.take (j9 r))) ((r.drop (j9 r)).take n)) hl;generalize hq:Jo ((r.drop (j9 r)).drop n) (qa (qa p (r.take (j9 r))) ((r.drop (j9 r)).take n))=q at hI ⊢;by_cases hf:q.2.1=0
    ·rw[if_neg (by simp[hf])];intro _;obtain⟨h1,h2⟩:=hI hf;have hl2:((r.drop (j9 r)).drop n).length+1<=r.length:=by simp only[Qau];omega
     generalize ((r.drop (j9 r)).drop n).length=m at *;have h3:=h2.len;refine⟨h1,by simp,by simp only[ν];omega,?_,λi hi=>?_⟩
     ·intro t' ht';rcases QaU.1 ht' with rfl|ht'
      ·exact⟨om,hgd.2⟩
      ·have:=h2.tok t' ht';exact⟨om,this.2⟩
     ·cases i with
      |zero=>
       have hk5:t.kind≠5:=λh=>hn (hk.1.1 h);have:=QbU.2 h2.ne;show t.kind=5↔0+1=q.1.length+1;constructor
       ·intro h;exact absurd h hk5
       ·intro h;omega
      |succ i=>
       show(tk q.1 i).kind=5↔i+1+1=q.1.length+1;have:=h2.fin i (by simpa using hi);constructor
       ·intro h;have:=this.1 h;omega
       ·intro h;exact this.2 om
    ·rw[if_pos hf];intro h;exact absurd h hf
  ·rw[if_pos he];intro h;exact absurd h he
theorem Hf {l:List Nat}(h:(qi l).2.1=0):l.length<=65536/\(qi l).2=(0,0,0)/\Goods l.length (qi l).1:=by
 unfold qi at *;by_cases hl:65536<l.length
 ·rw[if_pos hl] at h;cases h
 ·rw[if_neg hl] at h ⊢;obtain⟨h1,h2⟩:=jhO l.length l (1,1) (μ _) h;exact⟨om,h1,h2⟩
theorem jln {ts:List Tk}{i:Nat}(h:ts.length<=i):tk ts i=⟨0,[],0,0,0⟩:=by simp[tk,ω,h]
theorem jgr {ts:List Tk}{i:Nat}(h:i<ts.length):tk ts i∈ts:=by rw[<-jlo h];exact Qaf h
theorem Goods.wds {n:Nat}{ts:List Tk}(h:Goods n ts)(hn:n<=65536):Wds ts where
 len:=by have:=h.len;omega
 next:=λi hi hk=>by
  have:=h.fin i hi;rcases Qar (i+1) ts.length with h2|h2
  ·exact h2
  ·exact absurd (this.2 om) hk
 txt:=λi=>by
  rcases Qar i ts.length with h2|h2
  ·have:=(h.tok _ (jgr h2)).1;omega
  ·rw[jln h2];simp
theorem Goods.nbs {n:Nat}{ts:List Tk}(h:Goods n ts):Nbs ts:=λi=>by
 rcases Qar i ts.length with h2|h2
 ·exact(h.tok _ (jgr h2)).2
 ·rw[jln h2];simp
theorem K1 {l:List Nat}(h:(qi l).2.1=0):Wds (qi l).1/\(qi l).1≠[]/\(qi l).2=(0,0,0):=
 let ⟨h1,h2,h3⟩:=Hf h
 ⟨h3.wds h1,h3.ne,h2⟩
theorem jhN {l:List Nat}(h:(qi l).2.1=0):Nbs (qi l).1:=(Hf h).2.2.nbs
def ji5:XC:=(Tq [Os 4] [oz 7 1,IQ 8 7,IJ 9] 0 10 9 8 10 0 1 [TJ 11 7 9,oF 12 11,oz 6 12] (ID [oy 13 6,Ix 14,ow 15 (.strb .eql 13 14)] 15 [oK 4 Ik]) 16 9 1 9 16 [Os 4])
def jof:XF:=⟨[0,1],ji5,[(.t 4)]⟩
theorem jti:jv γ 142=some jof:=by kernel_rfl
def z84:XC:=(Oq [Tv] [Ix 3,TI 4 19 oH [Og 0 [101,110,117,109],Og 1 [118,97,114],Og 2 [98,111,111,108],Og 3 [112,114,111,99,101,115,115],Og 4 [119,104,101,110],Og 5 [100,111],Og 6 [116,114,117,101],Og 7 [102,97,108,115,101],OK 8 88,OK 9 70,OK 10 71,OK 11 85,OK 12 82,OK 13 89,OK 14 90,OK 15 79,OK 16 72,OK 17 83,OK 18 84],OE 5 142 3 4,O4 5])
def y84:XF:=⟨[0],z84,[(.t 2)]⟩
theorem x84:jv γ 105=some y84:=by kernel_rfl
def z83:XC:=(Oq [Tv] [Ix 3,OG 4 .geq 3 (Th 97),Tc 5,I5 6 5 0,Iq 7 5 (oG .leq 6 (Th 122)),Ts 8 5 7,oy 9 8,Ok 10 9 0,Ip 11 9 (oG .geq 10 (Th 65)),Ok 12 9 11,I5 13 12 0,Iq 14 12 (oG .leq 13 (Th 90)),Ip 15 9 (.pick 12 14 Oj),Iy 16 9 I7 15,O4 16])
def y83:XF:=⟨[0],z83,[(.t 2)]⟩
theorem x83:jv γ 103=some y83:=by kernel_rfl
def z85:XC:=(Oq [Tv] [Ix 3,OG 4 .geq 3 (Th 48),Tc 5,I5 6 5 0,Iq 7 5 (oG .leq 6 (Th 57)),Ts 8 5 7,O4 8])
def y85:XF:=⟨[0],z85,[(.t 2)]⟩
theorem x85:jv γ 104=some y85:=by kernel_rfl
def z56:XC:=(IX [Tv] (IV [IJ 3] 0 (.seq (oL [oy 4 3,Ix 5,ol 6 (.lenS 5),I3 7 4 6] 7 .skip (.exit 0)) (II 1 (ID [Ix 10,oy 11 3,ol 12 (.ixStr 10 11),Ou 13 103 12,ol 14 (I0 13),oy 15 14,I5 16 15 3,Iq 17 15 (oG .eql 16 oB),I5 18 15 17,Ok 19 18 0,Ok 20 18 3,Ip 21 18 (.ixStr 19 20),OS 22 (18,false) 104 [] [21],Ip 23 18 (I0 22),Ok 24 18 23,I5 25 24 0,I5 26 24 3,Iq 27 24 (.ixStr 25 26),Iq 28 24 (oG .neq 27 (Th 95)),Ip 29 18 (.pick 24 28 Oj),Iq 30 15 (.pick 18 I7 29),On 31 15 30 Oj] 31 [Tv]) [oy 8 3,IP 9 8 1,oz 3 9]))) [Ix 32,ol 33 (.lenS 32),OG 34 .gtr 33 oB,oy 35 34,I5 36 35 0,Iq 37 35 (.lenS 36),Iq 38 35 (o8 .leq 37 32),Ts 39 35 38,oy 40 39,I5 41 40 0,OS 42 (40,true) 105 [] [41],Iq 43 40 (I0 42),Ts 44 40 43,O4 44])
def y56:XF:=⟨[0],z56,[(.t 2)]⟩
theorem x56:jv γ 71=some y56:=by kernel_rfl
def z16:XC:=(oX [IS 1 0,oK 2 oH] (Ic [Tf 3 1,oF 4 3,IR 5 4,O6 6 .eql 5 2] 6 (OB [IK 7 3 1,O5 8 7 7 63,IH (Ig 9 6 8 Ov),OV 10 6 9 9 65 [],(O8 11 140 10 0 [],some [Tj 11,Tj 12,Ib (ON 13 1) 0,If (oF 14 13) 13 3 [(2,0)],Tj 15,Tj 16,Tj 17,Ib (Tf 18 1) 0,If (oF 19 18) 18 63 [(3,0),(7,0)],Ib (Ig 20 6 19 OT) 0,If (Ti 21 20) 20 65 [(5,0),(9,0)],Tj 22,Tj 23,Ib (oK 2 Iz) 0]),IH (OJ 12 11 (oY [32])),IK 13 0 1,I4 14 13 13 3 [(2,0)],(O8 15 141 14 0 [],some [Tj 15,Tj 16,Tj 17,Ib (Tf 18 1) 0,If (oF 19 18) 18 63 [(3,0),(7,0)],Ib (Ig 20 6 19 OT) 0,If (Ti 21 20) 20 65 [(5,0),(9,0)],Tj 22,Tj 23,Ib (oK 2 Iz) 0]),IH (OJ 16 12 15),IH (OJ 17 16 (oY [32])),IK 18 3 1,I4 19 18 18 63 [(3,0),(7,0)],IH (Ig 20 6 19 OT),OV 21 6 20 20 65 [(5,0),(9,0)],(O8 22 140 21 0 [],I6),IH (OJ 23 17 22),IH (O4 23)] .ret)) (.seq (Ic [Tf 24 1,oF 25 24,IR 26 25,O6 27 .eql 26 1] 27 (.seq (Ic [ON 28 1,oF 29 28,O6 30 .gtr 29 6] 30 (OB [IK 31 0 1,O5 32 31 31 3,(O8 33 141 32 0 [],some [Tj 33,Tj 34,Ib (Tf 35 1) 0,If (oF 36 35) 35 63 [(2,0)],Ib (Ig 37 6 36 Ov) 0,If (Ti 38 37) 37 65 [(4,0)],Tj 39,Tj 40,Ib (oK 2 Iz) 0]),IH (OJ 34 33 (oY [32])),IK 35 3 1,I4 36 35 35 63 [(2,0)],IH (Ig 37 6 36 Ov),OV 38 6 37 37 65 [(4,0)],(O8 39 140 38 0 [],I6),IH (OJ 40 34 39),IH (O4 40)] .ret)) (OB [IK 41 0 1,O5 42 41 41 3,(O8 43 141 42 0 [],some [Tj 43,Ib (Tf 44 1) 0,If (oF 45 44) 44 63 [(1,0)],Ib (Ig 46 6 45 Ov) 0,If (Ti 47 46) 46 65 [(3,0)],Tj 48,Tj 49,Ib (oK 2 Iz) 0]),IK 44 3 1,I4 45 44 44 63 [(1,0)],IH (Ig 46 6 45 Ov),OV 47 6 46 46 65 [(3,0)],(O8 48 140 47 0 [],I6),IH (OJ 49 43 48),IH (O4 49)] .ret))) (.seq (ID [ON 50 1,oF 51 50,O6 52 .eql 51 1] 52 [Ta 53 1,oF 54 53,Ou 55 101 54,O4 55]) (TG (Ic [ON 56 1,oF 57 56,O6 58 .eql 57 2] 58 (TG (ID [Ta 59 1,oF 60 59,O6 61 .eql 60 1] 61 [oK 2 (.str [116,114,117,101])]) [oK 2 (.str [102,97,108,115,101])])) [oD 62 2 1,oF 63 62,O4 63]))))
def y16:XF:=⟨[0],z16,[(.t 2)]⟩
theorem x16:jv γ 102=some y16:=by kernel_rfl
def z51:XC:=(IX [IS 1 0,oK 2 oH] (ID [Tf 3 1,oF 4 3,IR 5 4,Tb 6 .eql 5] 6 [Ti 7 1,Ou 8 102 7,O4 8]) [Ti 9 1,Ou 10 102 9,OJ 11 (oY [40]) 10,OJ 12 11 (oY [41]),O4 12])
def y51:XF:=⟨[0],z51,[(.t 2)]⟩
theorem x51:jv γ 140=some y51:=by kernel_rfl
def z53:XC:=(Oz [oK 2 oH] [Ix 3,Tb 4 .lss 3] 4 [Ix 5,ol 6 (.un .neg 5),Ou 7 101 6,OJ 8 (oY [45]) 7,O4 8] (.seq (ID [Ix 9,O6 10 .lss 9 10] 10 [Ix 11,Ix 12,IP 13 12 1,ol 14 (.slStr (oY [48,49,50,51,52,53,54,55,56,57]) (some 11) (some 13)),O4 14]) (.seq (.cops [O9 15,Is (Ij 16 .quo 15 10),(Ou 17 101 16,some [Tj 17,Ib (Ix 18) 0,Ib (Ij 19 .rem 18 10) 0,Ib (Ix 20) 0,Ib (Ij 21 .rem 20 10) 0,Ib (IP 22 21 1) 0,Ib (ol 23 (.slStr (oY [48,49,50,51,52,53,54,55,56,57]) (some 19) (some 22))) 0,Tj 24,Ib (oK 2 Iz) 0]),O9 18,Is (Ij 19 .rem 18 10),O9 20,Is (Ij 21 .rem 20 10),Is (IP 22 21 1),Is (ol 23 (.slStr (oY [48,49,50,51,52,53,54,55,56,57]) (some 19) (some 22))),Is (OJ 24 17 23),Is (O4 24)]) .ret)))
def y53:XF:=⟨[0],z53,[(.t 2)]⟩
theorem x53:jv γ 101=some y53:=by kernel_rfl
def z18:XC:=(ou [IS 1 0,oK 2 oH,IJ 3] (Oz [oK 4 oH] [ON 19 1,oF 20 19,IR 21 20,Ij 22 .gtr 21 32,oy 23 22,OL 24 23 1 1,OI 25 23 24,Ip 26 23 (.len 25),Td 27 23 .gtr 26 32,Iy 28 23 I7 27,oy 29 28,OL 30 29 2 1,OI 31 29 30,Ip 32 29 (.len 31),Td 33 29 .gtr 32 32,On 34 29 I7 33] 34 [oK 2 oH,Ol 3 141] (.seq (Tr [ON 35 1,Ot 36 35,IQ 37 36,IJ 38] 0 39 38 37 39 0 1 [Ig 40 4 36 38,o6 41 4 40,o9 6 [oH,.nils,oB,oB],o7 4 6 41] (Oz [o6 43 4 6,Ou 44 69 43,oy 42 44,O0 45 42,O1 46 42,oz 7 45,oz 8 46] [oy 47 8,Tn 48 47] 48 [oK 2 oH,Ol 3 141] (.ops [Tc 49,oy 50 7,OJ 51 49 50,Tw 51])) 52 38 1 38 52) (.seq (Tr [Ta 53 1,Ot 54 53,IQ 55 54,IJ 56] 2 57 56 55 57 2 3 [Ig 58 7 54 56,o6 59 7 58,o9 10 [oH,oH,oB,oB,.nils,oB,oB],o7 7 10 59] (Oz [o6 61 7 10,Ou 62 70 61,oy 60 62,O0 63 60,O1 64 60,oz 11 63,oz 12 64] [oy 65 12,Tn 66 65] 66 [oK 2 oH,Ol 3 141] (.ops [Tc 67,oy 68 11,OJ 69 67 68,Tw 69])) 70 56 1 56 70) (TG (Oh [oD 71 2 1,Ot 72 71,IQ 73 72,IJ 74] 4 (Tp 75 74 73) 75 4 5 (Oz [Ig 76 4 72 74,o6 77 4 76,o9 14 [oH,.nils,oB,oB],o7 4 14 77] [ON 78 14,oF 79 78,Ou 80 71 79,ol 81 (I0 80),oy 82 81,OL 83 82 1 14,OI 84 82 83,Ip 85 82 (.len 84),Td 86 82 .gtr 85 32,On 87 82 I7 86] 87 [oK 2 oH,Ol 3 141] (oX [Tc 88,ON 89 14,oF 90 89,OJ 91 (oY [112,114,111,99,101,115,115,32]) 90,OJ 92 91 (oY [32,123,10]),OJ 93 88 92,Tw 93] (Tr [Ta 94 14,Ot 95 94,IQ 96 95,IJ 97] 6 98 97 96 98 6 7 [Ig 99 7 95 97,o6 100 7 99,o9 16 [oB,oB,oH,.nils,oB,oB,.nils],o7 7 16 100] (Oz [o6 102 7 16,Ou 103 72 102,oy 101 103,O0 104 101,O1 105 101,oz 17 104,oz 18 105] [oy 106 18,Tn 107 106] 107 [oK 2 oH,Ol 3 141] (.ops [Tc 108,oy 109 17,OJ 110 108 109,Tw 110])) 111 97 1 97 111) (.ops [Tc 112,OJ 113 112 (oY [125,10]),Tw 113]))) 114 74 1 74 114) [Tc 115,O4 115,IJ 3])))))
def y18:XF:=⟨[0],z18,[(.t 2),(.t 3)]⟩
theorem x18:jv γ 37=some y18:=by kernel_rfl
def z54:XC:=(Oz [IS 1 0,oK 2 oH,Os 3] [ON 7 1,oF 8 7,Ou 9 71 8,ol 10 (I0 9),oy 11 10,OL 12 11 1 1,OI 13 11 12,Ip 14 11 (.len 13),Td 15 11 .lss 14 1,Iy 16 11 I7 15,oy 17 16,OL 18 17 1 1,OI 19 17 18,Ip 20 17 (.len 19),Td 21 17 .gtr 20 32,On 22 17 I7 21] 22 [oK 2 oH,Os 3] (IX [ON 23 1,oF 24 23,OJ 25 (oY [101,110,117,109,32]) 24,OJ 26 25 (oY [32,123,32]),Tw 26] (Oh [Ta 27 1,Ot 28 27,IQ 29 28,IJ 30] 0 (Tp 31 30 29) 31 0 1 (Oz [oy 32 30,TJ 33 28 30,oF 34 33,oz 5 32,oz 6 34] [oy 35 6,Ou 36 71 35,Tn 37 36] 37 [oK 2 oH,Os 3] (.seq (Or [oy 38 5,Tb 39 .gtr 38] 39 [Tc 40,OJ 41 40 (oY [44,32]),Tw 41]) (.ops [Tc 42,oy 43 6,OJ 44 42 43,Tw 44]))) 45 30 1 30 45) [Tc 46,OJ 47 46 (oY [32,125,10]),O4 47,oK 3 Ik]))
def y54:XF:=⟨[0],z54,[(.t 2),(.t 3)]⟩
theorem x54:jv γ 69=some y54:=by kernel_rfl
def jd7:XC:=(.seq (ID [oD 57 4 1,oF 58 57,IR 59 58,Ij 60 .gtr 59 1,oy 61 60,OL 62 61 0 1,OI 63 61 62,OS 64 (61,false) 71 [] [63],Ip 65 61 (I0 64),On 66 61 I7 65] 66 [oK 2 oH,Os 3]) (TG (Oh [oD 67 4 1,Ot 68 67,IQ 69 68,IJ 70] 0 (Tp 71 70 69) 71 0 1 (Oz [Ig 72 6 68 70,Ti 73 72,TB 6,o7 6 6 73] [Ti 74 6,Ou 75 24 74,Tn 76 75] 76 [oK 2 oH,Os 3] (.ops [Tc 77,Ti 78 6,Ou 79 102 78,OJ 80 (oY [32,61,32]) 79,OJ 81 77 80,Tw 81])) 82 70 1 70 82) [Tc 83,OJ 84 83 (oY [59,10]),O4 84,oK 3 Ik]))
def z55:XC:=(ou [IS 1 0,oK 2 oH,Os 3] (oX [ON 7 1,oF 8 7,OJ 9 (oY [118,97,114,32]) 8,OJ 10 9 (oY [32,58,32]),Tw 10] (oL [Ta 11 1,oF 12 11,ow 13 (.strb .eql 12 (.c oH))] 13 (.seq (ID [oD 14 2 1,oF 15 14,Ou 16 100 15,ol 17 (I0 16),oy 18 17,OL 19 18 3 1,OI 20 18 19,OS 21 (18,false) 100 [] [20],Ip 22 18 (I0 21),On 23 18 I7 22] 23 [oK 2 oH,Os 3]) (.dops [IH (Tc 24),IK 25 2 1,O5 26 25 25 2,(O8 27 101 26 0 [],some [Tj 27,Tj 28,Ib (Tf 29 1) 0,If (oF 30 29) 29 2 [(2,0)],Tj 31,Tj 32,Tj 33,Ib (oK 4 Iz) 0]),IH (OJ 28 27 (oY [46,46])),IK 29 3 1,I4 30 29 29 2 [(2,0)],(O8 31 101 30 0 [],I6),IH (OJ 32 28 31),IH (OJ 33 24 32),IH (Tw 33)])) (.seq (ID [oD 34 2 1,oF 35 34,OG 36 .neq 35 oB,oy 37 36,OL 38 37 3 1,OI 39 37 38,Ip 40 37 (oG .neq 39 oB),Iy 41 37 I7 40,oy 42 41,OL 43 42 1 1,OI 44 42 43,Ip 45 42 (.strb .neq 44 (oY [98,111,111,108])),Ok 46 42 45,Te 47 46 1 1,O2 48 46 47,OS 49 (46,true) 71 [] [48],Iq 50 46 (I0 49),Ip 51 42 (.pick 46 50 Oj),On 52 42 I7 51] 52 [oK 2 oH,Os 3]) (.ops [Tc 53,Ta 54 1,oF 55 54,OJ 56 53 55,Tw 56]))) jd7))
def y55:XF:=⟨[0],z55,[(.t 2),(.t 3)]⟩
theorem x55:jv γ 70=some y55:=by kernel_rfl
def z57:XC:=(Oz [IS 1 0,oK 2 oH,Os 3] [ON 7 1,Ti 8 7,Ou 9 24 8,ol 10 (I0 9),oy 11 10,OL 12 11 6 1,OI 13 11 12,Ip 14 11 (.len 13),Td 15 11 .lss 14 1,Iy 16 11 I7 15,oy 17 16,OL 18 17 6 1,OI 19 17 18,Ip 20 17 (.len 19),Td 21 17 .gtr 20 32,On 22 17 I7 21] 22 [oK 2 oH,Os 3] (IX [ON 23 1,Ti 24 23,Ou 25 102 24,OJ 26 (oY [32,32,119,104,101,110,32]) 25,OJ 27 26 (oY [32,100,111,32]),Tw 27] (Oh [oD 28 6 1,Ot 29 28,IQ 30 29,IJ 31] 0 (Tp 32 31 30) 32 0 1 (Oz [oy 33 31,Ig 34 9 29 31,o6 35 9 34,o9 6 [oH,oB,oB,oH,.nils,oB,oB,oB,oB],oz 5 33,o7 9 6 35] [ON 36 6,oF 37 36,Ou 38 71 37,ol 39 (I0 38),oy 40 39,OL 41 40 1 6,Ip 42 40 (.ldA 6 41),OS 43 (40,false) 24 [] [42],Ip 44 40 (I0 43),On 45 40 I7 44] 45 [oK 2 oH,Os 3] (.seq (Or [oy 46 5,Tb 47 .gtr 46] 47 [Tc 48,OJ 49 48 (oY [44,32]),Tw 49]) (.dops [IH (Tc 50),IK 51 0 6,O5 52 51 51 9,IH (OJ 53 52 (oY [32,58,61,32])),IK 54 1 6,OV 55 6 54 54 65 [],(O8 56 102 55 0 [(3,9)],I6),IH (OJ 57 53 56),IH (OJ 58 50 57),IH (Tw 58)]))) 59 31 1 31 59) [Tc 60,OJ 61 60 (oY [59,10]),O4 61,oK 3 Ik]))
def y57:XF:=⟨[0],z57,[(.t 2),(.t 3)]⟩
theorem x57:jv γ 72=some y57:=by kernel_rfl
theorem jia (hb:NB base)(c:Nat):Tot base 103 [.int .u8 (c:Int)] (.bool (zF c)):=by
 refine hb.tot ?_ rfl rfl;refine jF x83 (by rfl) (hb.pur 103 1 dc) ?_;simp only[y83,jh,ζ,η,θ,κ];rw[(by unfold z83;simp only[qq];rfl:z83=_)];repeat'(first|apply jb<;>intro _|simp(disch:=first|exact dzA|fail) only[rzZ,δ,ε])
 all_goals(refine G0.v (congrArg AV.bool ?_) rfl;rw[Qay];simp only[zF,QaA,χ,decide_eq_true_eq,QaK,Qbu,QaI,decide_eq_false_iff_not,true_iff,false_iff,iff_true,iff_false,not_true_eq_false,not_false_eq_true,ne_eq,eq_self]<;>omega)
theorem jkK (hb:NB base)(c:Nat):Tot base 104 [.int .u8 (c:Int)] (.bool (qc c)):=by
 refine hb.tot ?_ rfl rfl;refine jF x85 (by rfl) (hb.pur 104 1 dc) ?_;simp only[y85,jh,ζ,η,θ,κ];rw[(by unfold z85;simp only[qq];rfl:z85=_)];repeat'(first|apply jb<;>intro _|simp(disch:=first|exact dzA|fail) only[rzZ,δ,ε])
 all_goals(refine G0.v (congrArg AV.bool ?_) rfl;rw[Qay];simp only[qc,QaA,χ,decide_eq_true_eq,QaK,Qbu,QaI,decide_eq_false_iff_not,true_iff,false_iff,iff_true,iff_false,not_true_eq_false,not_false_eq_true,ne_eq,eq_self]<;>omega)
theorem jsk (hb:NB base)(l:List Nat)(S:List (List Nat))(hS:S.length<=1000000):PX γ base 142 [.str l,.lst S.length (S.map .str)] (.ok (.bool (decide (l∈S)))):=by
 have st1:∀ {k:Nat} (h:k<S.length) (st:St) (K:AV->St->Prop),ji (XV (.lptr (S.map AV.str) k) st) K=K (.str S[k]) st:=λ{k} h st K=>by
  rw[qU (by simpa using h)];congr 1;exact WY h
 refine jF jti (by rfl) (hb.pur 142 1 dc) ?_;simp only[jof,jh,ζ,η,θ,κ];rw[(by unfold ji5;simp only[qq];rfl:ji5=_)];repeat'(first|apply jb<;>intro _|simp(disch:=first|exact dzA|fail) only[rzZ,δ,ε])
 refine jZ S.length (λk L s=>(∀ j (h:j<S.length),j<k->S[j]≠l)/\Has L 0 (.str l)/\Has L 7 (.lst S.length (S.map AV.str))) ?_ (λk L s hk hI hi hn=>?_) (λL s hI=>?_)
 ·refine⟨λj h hj=>absurd hj (QaJ _),?_⟩;simp(disch:=decide) only[h12]
 ·obtain⟨h0,i0,i7⟩:=hI;repeat'(first|apply jb<;>intro _|simp(disch:=first|exact dzA|fail) only[ja i0,ja i7,ja hi,ja hn,st1,rzZ,δ,ε])
  ·rename_i he;have he:S[k]=l:=by simpa using he
   exact G0.v (by rw[decide_eq_true (he▸Qaf hk)]) rfl
  ·rename_i he;have he:¬ S[k]=l:=by simpa using he
   refine⟨⟨λj h hj=>?_,?_⟩,?_⟩
   ·rcases Qar j k with h2|h2
    ·exact h0 j h h2
    ·have:j=k:=om
     subst this;exact he
   ·simp(disch:=decide) only[h12,i0,i7]
   ·simp(disch:=decide) only[h12,hi,hn]
 ·obtain⟨h0,i0,i7⟩:=hI;repeat'(first|apply jb<;>intro _|simp(disch:=first|exact dzA|fail) only[ja i0,ja i7,rzZ,δ,ε])
  refine G0.v (congrArg AV.bool ?_) rfl
  symm
  rw[decide_eq_false_iff_not];intro hm;obtain⟨j,hj,e⟩:=Qbz.1 hm;exact h0 j hj hj e
theorem jni (hb:NB base)(l:List Nat):Tot base 105 [.str l] (.bool (gP l)):=by
 refine hb.tot ?_ rfl rfl;have O:=λst b m x D K Kp=>(jsk hb l Ug dc).xf (st:=st) (aZ':=[.str l,.slice b 0 19 m 1 x]) (ks:=[b]) (Fza.pa rfl (Fza.sl (n:=19) (D:Cl st b (Ug.map AV.str)) dc (uz Ug) .nil)) (λst=>hb.no 142 dc _ _) K Kp;unfold Ug at O;simp only[ζ,η] at O;refine jF x84 (by rfl) (hb.pur 105 1 dc) ?_;simp only[y84,jh,ζ,η,θ,κ];rw[(by unfold z84;simp only[qq];rfl:z84=_)];repeat'(first|apply jb<;>intro _|simp(disch:=first|exact dzA|fail) only[O,rzZ,δ,ε])
 exact G0.v rfl rfl
def UW (l:List Nat)(i:Nat):Bool:=zF (l.getD i 0) ||decide (i≠0) && (qc (l.getD i 0) ||decide (l.getD i 0=95))
theorem jbn {p:Nat->Bool}:∀ {l:List Nat},qX p l=l.length->∀ j,j<l.length->p (l.getD j 0)=true
 |[],_,j,h=>by simp at h
 |c :: l,h,j,hj=>by
  simp only[qX] at h;by_cases hc:p c=true
  ·rw[if_pos hc] at h;cases j with
   |zero=>exact hc
   |succ j=>exact jbn (l:=l) (by simpa using h) j (by simpa using hj)
  ·rw[if_neg hc] at h;simp at h
theorem jps {l:List Nat}{i:Nat}(hi:i<l.length)(h:UW l i=false):nm l=false:=by
 rw[Qce];intro hn;unfold nm at hn;simp only[χ,decide_eq_true_eq] at hn;obtain⟨⟨⟨_,h2⟩,_⟩,h3⟩:=hn;have:=jbn h3 i hi;unfold UW at h;unfold zT at this;by_cases h0:i=0
 ·subst h0;rw[h2] at h;cases h
 ·rw[decide_eq_true h0] at h;cases h1:zF (l.getD i 0)<;>cases h4:qc (l.getD i 0)<;>cases h5:decide (l.getD i 0=95)<;>simp only[h1,h4,h5] at h this<;>first|(cases h;done)|(cases this;done)
theorem jmy {l:List Nat}(h:∀ i,i<l.length->UW l i=true):nm l=(decide (0<l.length) && decide (l.length<=32) && !gP l):=by
 have e:qX zT l=l.length:=Uf (μ _) (λj hj=>by
  have:=h j hj;unfold UW at this;unfold zT;cases h1:zF (l.getD j 0)<;>cases h4:qc (l.getD j 0)<;>cases h5:decide (l.getD j 0=95)<;>rw[h1,h4,h5] at this<;>first|rfl|(simp at this;done)) (.inl rfl)
 unfold nm;cases l with
 |nil=>rfl
 |cons c l=>
  have h0:=h 0 (by simp);unfold UW at h0;have:zF ((c :: l).getD 0 0)=true:=by simpa using h0
  rw[e,this];simp
set_option maxHeartbeats 1000000 in
theorem Y7 (hb:NB base)(l:List Nat)(hl:l.length<=4611686018427387904):Tot base 71 [.str l] (.bool (nm l)):=by
 refine hb.tot ?_ rfl rfl;refine jF x56 (by rfl) (hb.pur 71 1 dc) ?_;simp only[y56,jh,ζ,η,θ,κ];rw[(by unfold z56;simp only[qq];rfl:z56=_)];repeat'(first|apply jb<;>intro _|simp(disch:=first|exact dzA|fail) only[rzZ,δ,ε])
 refine yz (λmm L s=>∃ k:Nat,k<=l.length/\mm=l.length - k/\(∀ j,j<k->UW l j=true)/\Has L 0 (.str l)/\Has L 3 (.int .i64 (k:Int))) ?_ l.length ?_
 ·rintro m L s ⟨k,hk,rfl,h0,i0,i3⟩;by_cases hlt:k<l.length
  ·have hlt':(k:Int)<(l.length:Int):=om
   have LT:=jia hb (l.getD k 0);have DT:=jkK hb (l.getD k 0);have z:((k:Int)=0)=(k=0):=by rw[eq_iff_iff];omega
   have z9:((l.getD k 0:Int)=95)=(l.getD k 0=95):=by rw[eq_iff_iff];omega
   have e1:(((k+1:Nat):Int))=(k:Int)+1:=om
   have hn:UW l k=(zF (l.getD k 0) ||decide (k≠0) && (qc (l.getD k 0) ||decide (l.getD k 0=95))):=rfl;repeat'(first|apply jb<;>intro _|simp(disch:=first|exact dzA|fail) only[ja i0,ja i3,hlt',LT,DT,z,z9,rzZ,δ,ε])
   all_goals first
    |(refine G0.v (congrArg AV.bool (jps hlt ?_)).symm rfl;rw[hn];simp_all;done)
    |(
     refine⟨l.length - (k+1),om,k+1,om,rfl,λj hj=>?_,?_⟩
     ·rcases Qar j k with h2|h2
      ·exact h0 j h2
      ·have:j=k:=om
       subst this;rw[hn];simp_all
     ·simp(disch:=decide) only[h12,i0,e1])
  ·have hlt':¬ (k:Int)<(l.length:Int):=om
   have hk':k=l.length:=om
   subst hk';have g:=jmy h0;repeat'(first|apply jb<;>intro _|simp(disch:=first|exact dzA|fail) only[ja i0,ja i3,hlt',jni hb l,rzZ,δ,ε])
   all_goals(refine G0.v (congrArg AV.bool ?_) rfl;rw[g];simp_all<;>omega)
 ·refine⟨0,Qaa _,rfl,λj hj=>absurd hj (QaJ _),?_⟩;simp(disch:=decide) only[h12]
theorem jjH {b o:Nat}{v:AV}{h:T AO}(ho:o<qh h b)(hv:rat h b o=v)(hc:eqs v=true):(jY γ 63 (.ptr b o) v h=true)=True:=eq_true (Qq jll jlk ho hv hc)
theorem wN (n:Nat)(cs:List AV):eqs (.lst n cs)=true:=nr rfl
def wa (op num:Int)(name:List Nat):Bool:=
 if op=1 then decide (0<=num) && decide (num<=1000000)
 else if op=2 then decide (num=0) ||decide (num=1)
 else if op=3 then decide (num=0) && nm name
 else if op=4 then true
 else decide (num=0)
mutual
def Jz:Ex->Bool
 |.mk op num name ks _ _=>decide (Zn op=(ks.length:Int)) && zR ks && (decide (op=3) ||decide (name=[])) && wa op num name
def zR:List Ex->Bool
 |[]=>true
 |x :: xs=>Jz x && zR xs
end
theorem W1 (x:Ex):Jz x=(decide (Zn x.op=(x.kids.length:Int)) && zR x.kids && (decide (x.op=3) ||decide (x.name=[])) && wa x.op x.num x.name):=by cases x;rfl
theorem Zc:∀ xs ys,zR (xs ++ ys)=(zR xs && zR ys)
 |[],ys=>by simp[zR]
 |x :: xs,ys=>by rw[Qad,zR,zR,Zc,Bool.and_assoc]
theorem ckX {p:Prop} (h:p:=by(first|assumption|(simp(disch:=first|assumption|decide|(first|omega|(simp only[je,jg,jo,jk,jj];first|done|omega))) only[jA,jD,jz,jS,jC,jG,jH,jJ];assumption))):p:=h
set_option maxHeartbeats 1000000 in
theorem jne (hb:NB base):∀ x:Ex,szE x<=BIG->Tot base 83 [.agg (eE x)] (.bool (Jz x)):=by
 refine Ex.indk λx ih hx=>?_;refine hb.tot ?_ (by first|rfl|simp[pa,pc,q9]) rfl;have hd:=W1 x;have hz:=Zu x;generalize hks:x.kids=ks at *;have hlen:=wW ks;have NM:=Y7 hb x.name (by unfold BIG at *;omega);have KT:=jqN hb x.op;unfold BIG at *;unfold wa at hd;refine jF x92 (by rfl) (hb.pur 83 1 dc) ?_;simp only[y92,jh,ζ,η,θ,κ];rw[(by unfold z92;simp only[qq];rfl:z92=_)]
 (have zz:=aI @yG (aI @wN @hks);(repeat'(first|apply jb<;>intro _|simp(disch:=first|exact jbO|fail) only[hks,KT,sm3,jjH,yG,wN,hks,r7,δ,ε])))
 ·rename_i h;exact G0.v (by rw[hd,decide_eq_false h];rfl) rfl
 refine jZ ks.length (λk L s=>zR (ks.take k)=true/\Has L 13 (.lst ks.length (fl eE ks))/\Has L 1 (.ptr 0 0)/\1<=s.nx/\Cl s 0 (eE x)) ?_ (λk L s hk hI hi hn=>?_) (λL s hI=>?_)
 ·refine⟨rfl,?_⟩;simp(disch:=decide) only[h12];exact⟨by show 1<=_;simp only[je,yd];omega,Cl.new _ _⟩
 ·obtain⟨h0,i13,i1,n0,C0⟩:=hI;have hk2:=wA hk;have e:=ih ks[k] (Qaf hk) om;repeat'(first|apply jb<;>intro _|simp(disch:=first|exact dzB|fail) only[ja i13,ja i1,ja hi,ja hn,e,r7,δ,ε])
  ·rename_i hf;have e3:=Zc (ks.take (k+1)) (ks.drop (k+1));rw[Qbt,zr hk,Zc] at e3;simp only[zR,hf,Bool.and_false,Bool.false_and,Bool.true_and] at e3;exact G0.v (by rw[hd,e3];simp) rfl
  ·rename_i hf;refine⟨⟨?_,?_⟩,?_⟩
   ·rw[zr hk,Zc,h0];simp_all [zR]
   ·simp(disch:=decide) only[h12,i13,i1];exact⟨by(first|omega|(simp only[je,jg,jo,jk,jj];first|done|omega)),ckX⟩
   ·simp(disch:=decide) only[h12,hi,hn]
 ·obtain⟨h0,i13,i1,n0,C0⟩:=hI;rw[Qah] at h0;rw[h0] at hd
  (have zz:=C0.r;(repeat'(first|apply jb<;>intro _|simp(disch:=first|exact jbO|fail) only[ja i13,ja i1,NM,hks,C0.q,C0.r,r7,δ,ε])))
  all_goals(refine G0.v (congrArg AV.bool ?_) rfl;rw[hd];simp_all<;>omega)
theorem jeO (x:Ex):Ws x=((decide (x.op=3) ||decide (x.name=[])) && wa x.op x.num x.name):=by
 unfold Ws wa;by_cases h1:x.op=1
 ·simp[h1,Bool.and_comm]
 ·by_cases h2:x.op=2
  ·simp[h2,Bool.and_comm]
  ·by_cases h3:x.op=3
   ·simp[h3]
   ·by_cases h4:x.op=4
    ·simp[h4]
    ·simp[h1,h2,h3,h4,Bool.and_comm]
theorem ud:∀ xs,zR xs=xs.all Jz
 |[]=>rfl
 |x :: xs=>by rw[zR,ud xs];rfl
theorem KY {n:Nat}:∀ xs:List Ex,yj xs<=n↔∀ x∈xs,wk x<=n
 |[]=>by simp[yj]
 |x :: xs=>by simp[yj,Nat.max_le,KY xs]
theorem Xq:∀ (d:Nat) (x:Ex),zt d x=(decide (wk x<=d) && Jz x)
 |0,x=>by
  have:wk x=yj x.kids+1:=U7 x;rw[zt,decide_eq_false om];rfl
 |d+1,x=>by
  rw[UR,W1,U7,jeO,ud];have ih:x.kids.all (zt d)=(decide (yj x.kids<=d) && x.kids.all Jz):=by
   rw[Qay];simp only[Qae,χ,decide_eq_true_eq,KY];constructor
   ·intro h;exact⟨λk hk=>by have:=h k hk;rw[Xq d k] at this;simp at this;exact this.1,λk hk=>by have:=h k hk;rw[Xq d k] at this;simp at this;exact this.2⟩
   ·rintro ⟨h1,h2⟩ k hk;rw[Xq d k];simp[h1 k hk,h2 k hk]
  rw[ih];have e1:decide (yj x.kids+1<=d+1)=decide (yj x.kids<=d):=by simp
  rw[e1];have e2:(decide (1<=x.op) && decide (x.op<31) && decide ((x.kids.length:Int)=if 5<=x.op/\x.op<=13 then 1 else if 14<=x.op/\x.op<31 then 2 else 0))=decide (Zn x.op=(x.kids.length:Int)):=by
   rw[Qay];simp only[χ,decide_eq_true_eq];unfold Zn;have:(0:Int)<=(x.kids.length:Int):=om
   generalize (x.kids.length:Int)=n at *;generalize x.op=op at *;constructor
   ·rintro ⟨⟨h1,h2⟩,h3⟩;split at h3
    ·rw[if_neg om,if_pos om,h3]
    ·split at h3
     ·rw[if_neg om,if_neg om,if_pos om,h3]
     ·rw[if_pos om,h3]
   ·intro h;split at h
    ·exact⟨⟨om,om⟩,by rw[if_neg om,if_neg om];omega⟩
    ·split at h
     ·exact⟨⟨om,om⟩,by rw[if_pos om];omega⟩
     ·split at h
      ·exact⟨⟨om,om⟩,by rw[if_neg om,if_pos om];omega⟩
      ·omega
  rw[e2];cases decide (Zn x.op=(x.kids.length:Int))<;>cases decide (yj x.kids<=d)<;>cases x.kids.all Jz<;>cases (decide (x.op=3) ||decide (x.name=[]))<;>cases wa x.op x.num x.name<;>rfl
theorem jkF (hb:NB base)(x:Ex)(hx:szE x<=BIG):Tot base 54 [.agg (eE x)] (.bool (zt 60 x)):=by
 refine hb.tot ?_ (by first|rfl|simp[pa,pc,q9]) rfl;have e:=Xq 60 x;have D:=jqX hb x hx;have S:=jne hb x hx;refine jF x46 (by rfl) (hb.pur 54 1 dc) ?_;simp only[y46,jh,ζ,η,θ,κ];rw[(by unfold z46;simp only[qq];rfl:z46=_)];repeat'(first|apply jb<;>intro _|simp(disch:=first|exact dzB|fail) only[D,S,r7,δ,ε])
 all_goals(refine G0.v (congrArg AV.bool ?_) rfl;rw[e];simp_all<;>omega)
def zQ (x:Ex):Bool:=zt 60 x && !jeU 4 x
theorem WO (hb:NB base)(x:Ex)(hx:szE x<=BIG):Tot base 24 [.agg (eE x)] (.bool (zQ x)):=by
 refine hb.tot ?_ (by first|rfl|simp[pa,pc,q9]) rfl;have D:=jkF hb x hx;have S:=jsp hb 4 x hx;refine jF x12 (by rfl) (hb.pur 24 1 dc) ?_;simp only[y12,jh,ζ,η,θ,κ];rw[(by unfold z12;simp only[qq];rfl:z12=_)];repeat'(first|apply jb<;>intro _|simp(disch:=first|exact dzB|fail) only[D,S,r7,δ,ε])
 all_goals(refine G0.v (congrArg AV.bool ?_) rfl;unfold zQ;simp_all)
theorem jnd (hb:NB base)(op:Int):Tot base 141 [.int .i64 op] (.str (sgn op)):=by
 refine hb.tot ?_ rfl rfl;refine jF x52 (by rfl) (hb.pur 141 1 dc) ?_;simp only[y52,jh,ζ,η,θ,κ];rw[(by unfold z52;simp only[qq];rfl:z52=_)];repeat'(first|apply jb<;>intro _|simp(disch:=first|exact dzB|fail) only[r7,δ,ε])
 ·exact G0.v (by rw[sgn,if_neg om]) rfl
 ·exact G0.v (by rw[sgn,if_neg om]) rfl
 ·have h26:(op - 5).toNat<wB.length:=by show(op - 5).toNat<26;omega
  show G0 _ ((wB.map AV.str).getD _ _) _;rw[WY h26];exact G0.v (by rw[sgn,if_pos om,Qan,Qai h26];rfl) rfl
theorem YD (e:EnumT):enE e=[.str e.name,.lst e.vals.length (e.vals.map .str),.int .i64 e.line,.int .i64 e.col]:=rfl
theorem Qn (e:EnumT):(enE e).length=4:=nr (by rw[YD];rfl)
theorem jfi (e:EnumT)(k:Nat):(enE e).getD k .bad=([.str e.name,.lst e.vals.length (e.vals.map .str),.int .i64 e.line,.int .i64 e.col]:List AV).getD k .bad:=nr (by rw[YD])
theorem jae (e:EnumT):lall AV.cell (enE e)=true:=nr (by rw[YD];rfl)
theorem jl:type_of% (a4 @Qn (λx=>gq (YD x)) (λx=>gd (YD x)) (aI @jae (frE Qn))):=(a4 @Qn (λx=>gq (YD x)) (λx=>gd (YD x)) (aI @jae (frE Qn)))
theorem za:type_of% (aI @Qn (aI @jae (λx=>gq (YD x)))):=(aI @Qn (aI @jae (λx=>gq (YD x))))
theorem J0 (d:DeclT):qo d=[.str d.name,.str d.ty,.int .i64 d.lo,.int .i64 d.hi,.lst d.begins.length (fl eE d.begins),.int .i64 d.line,.int .i64 d.col]:=rfl
theorem Xi (d:DeclT):(qo d).length=7:=nr (by rw[J0];rfl)
theorem jmY (d:DeclT)(k:Nat):(qo d).getD k .bad=([.str d.name,.str d.ty,.int .i64 d.lo,.int .i64 d.hi,.lst d.begins.length (fl eE d.begins),.int .i64 d.line,.int .i64 d.col]:List AV).getD k .bad:=nr (by rw[J0])
theorem Ut (d:DeclT):lall AV.cell (qo d)=true:=nr (by rw[J0];rfl)
theorem jc:type_of% (a4 @Xi (λx=>gq (J0 x)) (λx=>gd (J0 x)) (aI @Ut (frE Xi))):=(a4 @Xi (λx=>gq (J0 x)) (λx=>gd (J0 x)) (aI @Ut (frE Xi)))
theorem qZ:type_of% (aI @Xi (aI @Ut (λx=>gq (J0 x)))):=(aI @Xi (aI @Ut (λx=>gq (J0 x))))
theorem Uw (a:AsT):asE a=[.str a.name,.int .i64 a.to.op,.int .i64 a.to.num,.str a.to.name,.lst a.to.kids.length (fl eE a.to.kids),.int .i64 a.to.line,.int .i64 a.to.col,.int .i64 a.line,.int .i64 a.col]:=(by unfold asE;rw[qt];rfl)
theorem jm:type_of% (a4 @ww (λx=>gq (Uw x)) (λx=>gd (Uw x)) (aI @ga (frE ww))):=(a4 @ww (λx=>gq (Uw x)) (λx=>gd (Uw x)) (aI @ga (frE ww)))
theorem zb:type_of% (aI @ww (aI @ga (λx=>gq (Uw x)))):=(aI @ww (aI @ga (λx=>gq (Uw x))))
theorem Wb (r:RuleT):ruE r=[.int .i64 r.when.op,.int .i64 r.when.num,.str r.when.name,.lst r.when.kids.length (fl eE r.when.kids),.int .i64 r.when.line,.int .i64 r.when.col,.lst r.acts.length (fl asE r.acts)]:=W4 r
theorem HJ (r:RuleT):lall AV.cell (ruE r)=true:=nr (by rw[Wb];rfl)
theorem jW:type_of% (a4 @vK (λx=>gq (Wb x)) (λx=>gd (Wb x)) (aI @HJ (frE vK))):=(a4 @vK (λx=>gq (Wb x)) (λx=>gd (Wb x)) (aI @HJ (frE vK)))
theorem yZ:type_of% (aI @vK (aI @HJ (λx=>gq (Wb x)))):=(aI @vK (aI @HJ (λx=>gq (Wb x))))
theorem Zf (p:ProcT):prE p=[.str p.name,.lst p.rules.length (fl ruE p.rules),.int .i64 p.line,.int .i64 p.col]:=rfl
theorem Wf (p:ProcT):(prE p).length=4:=nr (by rw[Zf];rfl)
theorem HP (p:ProcT):lall AV.cell (prE p)=true:=nr (by rw[Zf];rfl)
theorem qK:type_of% (a4 @Wf (λx=>gq (Zf x)) (λx=>gd (Zf x)) (aI @HP (frE Wf))):=(a4 @Wf (λx=>gq (Zf x)) (λx=>gd (Zf x)) (aI @HP (frE Wf)))
theorem y7:type_of% (aI @Wf (aI @HP (λx=>gq (Zf x)))):=(aI @Wf (aI @HP (λx=>gq (Zf x))))
theorem Zb (m:SrcT):srE m=[.lst m.enums.length (fl enE m.enums),.lst m.vars.length (fl qo m.vars),.lst m.procs.length (fl prE m.procs)]:=rfl
theorem vF (m:SrcT):(srE m).length=3:=nr (by rw[Zb];rfl)
theorem HD (m:SrcT):lall AV.cell (srE m)=true:=nr (by rw[Zb];rfl)
theorem qJ:type_of% (a4 @vF (λx=>gq (Zb x)) (λx=>gd (Zb x)) (aI @HD (frE vF))):=(a4 @vF (λx=>gq (Zb x)) (λx=>gd (Zb x)) (aI @HD (frE vF)))
theorem yY:type_of% (aI @vF (aI @HD (λx=>gq (Zb x)))):=(aI @vF (aI @HD (λx=>gq (Zb x))))
theorem dzE {p:Prop}(h:p:=by first|assumption|decide|omega|(simp only[qN,zb,yZ,za,qZ,y7,yY,rzN,ν,φ];first|done|omega)|(apply JQ<;>first|omega|((simp(disch:=first|assumption|omega|(simp only[qN,zb,yZ,za,qZ,y7,yY,rzN,ν,φ];first|done|omega)) only[rzL,ν,φ,Qag,δ,qN,zb,yZ,za,qZ,y7,yY ])<;>first|done|omega))|(simp(disch:=first|assumption|omega|(simp only[qN,zb,yZ,za,qZ,y7,yY,rzN,ν,φ];first|done|omega)) only[qN,zb,yZ,za,qZ,y7,yY,rzG,θ,κ,ε,QaG,ν,φ,Qad,Qaj];first|done|omega|decide)):p:=h
theorem cyE {p:Prop}(h:p:=by apply JQ<;>first|omega|((simp(disch:=first|assumption|omega|(simp only[qN,zb,yZ,za,qZ,y7,yY,rzN,ν,φ];first|done|omega)) only[rzL,ν,φ,Qag,δ,qN,zb,yZ,za,qZ,y7,yY])<;>first|done|rfl|omega|(simp;done)|(simp;omega))):p:=h
theorem zk {p:Prop}(h:p:=by first|assumption|decide|omega|(simp only[qN,zb,yZ,za,qZ,y7,yY,zz,rzN,ν,φ];first|done|omega)|(apply JQ<;>first|omega|((simp(disch:=first|assumption|omega|(simp only[qN,zb,yZ,za,qZ,y7,yY,zz,rzN,ν,φ];first|done|omega)) only[rzL,ν,φ,Qag,δ,qN,zb,yZ,za,qZ,y7,yY,zz ])<;>first|done|omega))|(simp(disch:=first|assumption|omega|(simp only[qN,zb,yZ,za,qZ,y7,yY,zz,rzN,ν,φ];first|done|omega)) only[qN,zb,yZ,za,qZ,y7,yY,zz,rzG,θ,κ,ε,QaG,ν,φ,Qad,Qaj];first|done|omega|decide)):p:=h
theorem jfX {S:List (List Nat)}{k:Nat}{st:St}{K:AV->St->Prop}(h:k<S.length):ji (XV (.lptr (S.map AV.str) k) st) K=K (.str S[k]) st:=by
 rw[qU (by simpa using h)];congr 1;exact WY h
theorem jmd {a:Nat}{st:St}{K:AV->St->Prop}(h:a<=9223372036854775807):ji (yJ .quo (.int .i64 (a:Int)) (.int .i64 10) st) K=K (.int .i64 ((a / 10:Nat):Int)) st:=by
 have e:qY .i64 ((a / 10:Nat):Int)=((a / 10:Nat):Int):=vf om om;show K (.int .i64 (qY .i64 ((a / 10:Nat):Int))) st=_;rw[e]
theorem jmc {a:Nat}{st:St}{K:AV->St->Prop}:ji (yJ .rem (.int .i64 (a:Int)) (.int .i64 10) st) K=K (.int .i64 ((a % 10:Nat):Int)) st:=rfl
def uk (n:Nat):List Nat:=if n<10 then [48+n] else uk (n / 10) ++ [48+n % 10]
termination_by n
decreasing_by omega
def ZO (n:Int):List Nat:=if n<0 then 45 :: uk (-n).toNat else uk n.toNat
theorem jqb:∀ n,n<10->(([48,49,50,51,52,53,54,55,56,57]:List Nat).drop n).take 1=[48+n]:=dc
theorem vq:∀ (k n:Nat),n<10 ^ (k+1)->(uk n).length<=k+1
 |0,n,h=>by rw[uk,if_pos om];simp
 |k+1,n,h=>by
  rw[uk];by_cases h2:n<10
  ·rw[if_pos h2];simp
  ·rw[if_neg h2,υ];have:=vq k (n / 10) (by rw[Nat.pow_succ] at h;omega);simp;omega
theorem jie (hb:NB base)(n:Nat)(h:n<=1000000000000000):Tot base 101 [.int .i64 (n:Int)] (.str (uk n)):=by
 induction n using Nat.strongRecOn with
 |_ n ih=>
 refine hb.tot ?_ rfl rfl;have hd:uk n=if n<10 then [48+n] else uk (n / 10) ++ [48+n % 10]:=by rw[uk]
 by_cases h2:n<10
 ·have g:=jqb n h2;have e1:((n:Int)+1 - (n:Int)).toNat=1:=om
  have e2:(n:Int)<10:=om
  refine jF x53 (by rfl) (hb.pur 101 1 dc) ?_;simp only[y53,jh,ζ,η,θ,κ];rw[(by unfold z53;simp only[qq];rfl:z53=_)];repeat'(first|apply jb<;>intro _|simp(disch:=first|exact dzB|fail) only[e1,e2,g,r7,δ,ε])
  exact G0.v (by rw[hd,if_pos h2]) rfl
 ·have i:=ih (n / 10) om om;have g:=jqb (n % 10) om;have e1:(((n % 10:Nat):Int)+1 - ((n % 10:Nat):Int)).toNat=1:=om
  have e2:¬ (n:Int)<10:=om
  have e0:¬ (n:Int)<0:=om
  have e3:(n % 10:Nat)+1<=10:=om
  have hl:=vq 14 (n / 10) (by
   have:(10:Nat) ^ (14+1)=1000000000000000:=dc
   omega)
  refine jF x53 (by rfl) (hb.pur 101 1 dc) ?_;simp only[y53,jh,ζ,η,θ,κ];rw[(by unfold z53;simp only[qq];rfl:z53=_)];repeat'(first|apply jb<;>intro _|simp(disch:=first|exact dzB|fail) only[e1,e2,e0,g,jmd,jmc,i,r7,δ,ε])
  exact G0.v (by rw[hd,if_neg h2]) rfl
theorem jfI (hb:NB base)(n:Int)(h1 : -1000000000000000<=n)(h2:n<=1000000000000000):Tot base 101 [.int .i64 n] (.str (ZO n)):=by
 by_cases h0:n<0
 ·obtain⟨m,hm⟩:∃ m:Nat,-n=(m:Int):=⟨(-n).toNat,om⟩;have D:=jie hb m om;have hl:=vq 15 m (by
   have:(10:Nat) ^ (15+1)=10000000000000000:=dc
   omega)
  refine hb.tot ?_ rfl rfl;refine jF x53 (by rfl) (hb.pur 101 1 dc) ?_;simp only[y53,jh,ζ,η,θ,κ];rw[(by unfold z53;simp only[qq];rfl:z53=_)];repeat'(first|apply jb<;>intro _|simp(disch:=first|exact dzB|fail) only[h0,hm,D,r7,δ,ε])
  exact G0.v (by rw[ZO,if_pos h0,hm];rfl) rfl
 ·obtain⟨m,hm⟩:∃ m:Nat,n=(m:Int):=⟨n.toNat,om⟩;subst hm;rw[ZO,if_neg h0];exact jie hb m om
theorem vr {n:Int}(h1 : -1000000<=n)(h2:n<=1000000):(ZO n).length<=8:=by
 have e:(10:Nat) ^ (6+1)=10000000:=dc
 unfold ZO;split
 ·have:=vq 6 (-n).toNat om;simp;omega
 ·have:=vq 6 n.toNat om;omega
def ze:Ex->List Nat
 |.mk op num name ks _ _=>match ks with
  |[x,y]=>(if x.kids.length=0 then ze x else 40 :: (ze x ++ [41])) ++ [32] ++ sgn op ++ [32] ++ (if y.kids.length=0 then ze y else 40 :: (ze y ++ [41]))
  |[x]=>sgn op ++ (if 6<op then [32] else []) ++ (if x.kids.length=0 then ze x else 40 :: (ze x ++ [41]))
  |_=>if op=1 then ZO num else if op=2 then(if num=1 then [116,114,117,101] else [102,97,108,115,101]) else name
termination_by x=>SizeOf.sizeOf x
def ZM (x:Ex):List Nat:=if x.kids.length=0 then ze x else 40 :: (ze x ++ [41])
theorem jcO (op num:Int)(name:List Nat)(x y:Ex)(l c:Int):ze (.mk op num name [x,y] l c)=ZM x ++ [32] ++ sgn op ++ [32] ++ ZM y:=by rw[ze];rfl
theorem jcP (op num:Int)(name:List Nat)(x:Ex)(l c:Int):ze (.mk op num name [x] l c)=sgn op ++ (if 6<op then [32] else []) ++ ZM x:=by rw[ze];rfl
theorem jcQ (op num:Int)(name:List Nat)(l c:Int):ze (.mk op num name [] l c)=if op=1 then ZO num else if op=2 then(if num=1 then [116,114,117,101] else [102,97,108,115,101]) else name:=by rw[ze]<;>intros<;>simp_all
theorem gD (op:Int):(sgn op).length<=3:=by
 unfold sgn;split
 ·rename_i h;have:∀ n,n<26->(wB.getD n []).length<=3:=dc
  exact this _ om
 ·simp
theorem kQ {x:Ex}(h:Jz x=true):Zn x.op=(x.kids.length:Int)/\(∀ k∈x.kids,Jz k=true)/\wa x.op x.num x.name=true/\(x.op=3\/x.name=[]):=by
 rw[W1,ud] at h;simp only[χ,decide_eq_true_eq,Qae,QaA] at h;exact⟨h.1.1.1,h.1.1.2,h.2,h.1.2⟩
theorem jbv (op:Int):Zn op<=2:=by unfold Zn;split<;>(try split)<;>(try split)<;>omega
theorem Jg:∀ x:Ex,Jz x=true->(ze x).length<=16 * szE x:=by
 refine Ex.indk λx ih h=>?_;obtain⟨h1,h2,h3,h4⟩:=kQ h;have h5:=jbv x.op;cases x with
 |mk op num name ks l c=>
 simp only[Ex.op,Ex.num,Ex.name,Ex.kids] at *;have sz:szE (.mk op num name ks l c)=zg ks+name.length+1:=rfl;rw[sz];have inn:∀ k∈ks,(ZM k).length<=16 * szE k+2:=λk hk=>by
  have:=ih k hk (h2 k hk);unfold ZM;split
  ·omega
  ·simp;omega
 match ks,h1,inn with
 |[],_,_=>
  rw[jcQ];unfold wa at h3;split
  ·rename_i h6;rw[if_pos h6] at h3;simp at h3;have:=vr (n:=num) om om;omega
  ·split
   ·split<;>simp<;>omega
   ·omega
 |[x],_,inn=>
  rw[jcP];have:=inn x (by simp);have:=gD op;simp only[υ,zg];split<;>simp<;>omega
 |[x,y],_,inn=>
  rw[jcO];have:=inn x (by simp);have:=inn y (by simp);have:=gD op;simp only[υ,zg,ν,φ];omega
 |x :: y :: z :: r,h1,_=>
  simp only[ν] at h1;omega
theorem jke {x:Ex}(h:Jz x=true):(ZM x).length<=16 * szE x+2:=by
 have:=Jg x h;unfold ZM;split
 ·omega
 ·simp;omega
theorem jpH (x:Ex)(xs:List Ex){st:St}{K:AV->St->Prop}:ji (Qz 6 (.lptr (fl eE (x :: xs)) 0) st) K=K (.agg (eE x)) st:=by
 have:=jkq (st:=st) (K:=K) (xs:=x :: xs) (i:=0) (by simp);rw[QaP] at this;exact this
theorem jtJ (x y:Ex)(xs:List Ex){st:St}{K:AV->St->Prop}:ji (Qz 6 (.lptr (fl eE (x :: y :: xs)) 6) st) K=K (.agg (eE y)) st:=jkq (st:=st) (K:=K) (xs:=x :: y :: xs) (i:=1) (by simp)
theorem jkI (hb:NB base){x:Ex}(h:Jz x=true)(hx:szE x<=BIG)(T:Tot base 102 [.agg (eE x)] (.str (ze x))):Tot base 140 [.agg (eE x)] (.str (ZM x)):=by
 refine hb.tot ?_ (by first|rfl|simp[pa,pc,q9]) rfl;have hl:=Jg x h;have z:((x.kids.length:Int)=0)=(x.kids.length=0):=by rw[eq_iff_iff];omega
 unfold BIG at hx;refine jF x51 (by rfl) (hb.pur 140 1 dc) ?_;simp only[y51,jh,ζ,η,θ,κ];rw[(by unfold z51;simp only[qq];rfl:z51=_)]
 (have zz:=@υ.{0};(repeat'(first|apply jb<;>intro _|simp(disch:=first|exact jbO|fail) only[T,z,υ,r7,δ,ε])))
 ·exact G0.v (by rw[ZM,if_pos (by assumption)]) rfl
 ·exact G0.v (by rw[ZM,if_neg (by assumption)]<;>rfl) rfl
set_option maxHeartbeats 1000000 in
theorem jck (hb:NB base):∀ x:Ex,szE x<=BIG->Jz x=true->Tot base 102 [.agg (eE x)] (.str (ze x)):=by
 refine Ex.indk λx ih hx h=>?_;refine hb.tot ?_ (by first|rfl|simp[pa,pc,q9]) rfl;obtain⟨h1,h2,h3,h4⟩:=kQ h;have h5:=jbv x.op;have sz:=Zu x;have hl:=Jg x h;have SG:=jnd hb x.op;have sl:=gD x.op;have inn:∀ k∈x.kids,Tot base 140 [.agg (eE k)] (.str (ZM k))/\(ZM k).length<=16 * szE k+2:=λk hk=>by
  have:szE k<=zg x.kids:=by
   obtain⟨i,hi,rfl⟩:=Qbz.1 hk;exact wA hi
  have hk2:szE k<=BIG:=om
  exact⟨jkI hb (h2 k hk) hk2 (ih k hk hk2 (h2 k hk)),jke (h2 k hk)⟩
 clear ih hl;unfold BIG at *;cases x with
 |mk op num name ks l c=>
 simp only[Ex.op,Ex.num,Ex.name,Ex.kids] at *
 match ks,h1,sz,inn with
 |[],_,sz,_=>
  rw[jcQ];have D:op=1->Tot base 101 [.int .i64 num] (.str (ZO num)):=λe=>by
   subst e;unfold wa at h3;simp at h3;exact jfI hb num om om
  have ek:(Ex.mk op num name [] l c).kids=[]:=rfl;have eo:(Ex.mk op num name [] l c).op=op:=rfl;have en:(Ex.mk op num name [] l c).num=num:=rfl;have ea:(Ex.mk op num name [] l c).name=name:=rfl;refine jF x16 (by rfl) (hb.pur 102 1 dc) ?_;simp only[y16,jh,ζ,η,θ,κ];rw[(by unfold z16;simp only[qq];rfl:z16=_)];repeat'(first|apply jb<;>intro _|simp(disch:=first|exact dzB|fail) only[D,ek,eo,en,ea,r7,δ,ε])
  all_goals(refine G0.v (congrArg AV.str ?_) rfl;split<;>(try split)<;>first|rfl|omega|(exfalso;omega)|contradiction)
 |[x],_,sz,inn=>
  obtain⟨I,il⟩:=inn x (by simp);simp only[zg] at sz;rw[jcP];have ek:(Ex.mk op num name [x] l c).kids=[x]:=rfl;have eo:(Ex.mk op num name [x] l c).op=op:=rfl;refine jF x16 (by rfl) (hb.pur 102 1 dc) ?_;simp only[y16,jh,ζ,η,θ,κ];rw[(by unfold z16;simp only[qq];rfl:z16=_)]
  (have zz:=aI @yG (aI @wN (aI @υ.{0} (aI @ek @eo)));(repeat'(first|apply jb<;>intro _|simp(disch:=first|exact jbO|fail) only[ek,eo,I,SG,jpH,sm3,jjH,Qy,yG,wN,υ,ek,eo,r7,δ,ε])))
  all_goals(refine G0.v (congrArg AV.str ?_) rfl;split<;>first|rfl|(exfalso;omega)|(simp;done))
 |[x,y],_,sz,inn=>
  obtain⟨I,il⟩:=inn x (by simp);obtain⟨I2,il2⟩:=inn y (by simp);simp only[zg] at sz;rw[jcO];have ek:(Ex.mk op num name [x,y] l c).kids=[x,y]:=rfl;have eo:(Ex.mk op num name [x,y] l c).op=op:=rfl;refine jF x16 (by rfl) (hb.pur 102 1 dc) ?_;simp only[y16,jh,ζ,η,θ,κ];rw[(by unfold z16;simp only[qq];rfl:z16=_)]
  (have zz:=aI @yG (aI @wN (aI @υ.{0} (aI @ek @eo)));(repeat'(first|apply jb<;>intro _|simp(disch:=first|exact jbO|fail) only[ek,eo,I,I2,SG,jpH,jtJ,sm3,jjH,Qy,yG,wN,υ,ek,eo,r7,δ,ε])))
  exact G0.v rfl rfl
 |x :: y :: z :: r,h1,_,_=>
  simp only[ν] at h1;omega
def JC:List (List Nat)->List Nat
 |[]=>[]
 |x :: xs=>x ++ xs.flatMap λy=>44 :: 32 :: y
theorem Kx (xs:List (List Nat))(y:List Nat):JC (xs ++ [y])=JC xs ++ (if xs.length=0 then [] else [44,32]) ++ y:=by
 cases xs with
 |nil=>simp[JC]
 |cons x xs=>simp[JC]
theorem X9 {n:Nat}:∀ {xs:List (List Nat)},(∀ x∈xs,x.length<=n)->(JC xs).length<=xs.length * (n+2)
 |[],_=>by simp[JC]
 |x :: xs,h=>by
  have h1:=h x (by simp);have:(xs.flatMap λy=>44 :: 32 :: y).length<=xs.length * (n+2):=by
   clear h1;induction xs with
   |nil=>simp
   |cons y ys ih=>
    have h2:=h y (by simp);have:=ih λz hz=>h z (by simp at hz ⊢;rcases hz with rfl|hz<;>simp[*]);rw[QbX,υ,show(y :: ys).length=ys.length+1 from rfl,QaR];simp only[ν];omega
  rw[JC,υ,show(x :: xs).length=xs.length+1 from rfl,QaR];omega
theorem Qs {l:List Nat}(h:nm l=true):l.length<=32:=by
 unfold nm at h;simp only[χ,decide_eq_true_eq] at h;exact h.1.1.1.2
def Ql (e:EnumT):Option (List Nat):=if nm e.name=true/\1<=e.vals.length/\e.vals.length<=32/\e.vals.all nm=true then some ([101,110,117,109,32] ++ e.name ++ [32,123,32] ++ JC e.vals ++ [32,125,10]) else none
def gv (o:Option (List Nat)):AV:=.tup [.str (o.getD []),.bool o.isSome]
theorem jgq (l:List Nat):gv (some l)=.tup [.str l,.bool true]:=rfl
theorem G0.tup2 {s:St}{a:List Nat}{b:Bool}{u:AV}(h:u=.tup [.str a,.bool b]):G0 u (.tup [.str a,.bool b]) s:=by
 subst h;exact FzD.tup (.cons (.pc rfl) (.cons (.pc rfl) .nil))
theorem jcf {α:Type}{p:α->Bool}{xs:List α}{k:Nat}(h:k<xs.length)(h2:p xs[k]=false):xs.all p=false:=by
 rw[Qce];intro h3;rw[Qae] at h3;have:=h3 _ (Qaf h);rw[h2] at this;cases this
theorem jfD {α:Type}{p:α->Bool}{xs:List α}{k:Nat}(h:k<xs.length):(xs.take (k+1)).all p=((xs.take k).all p && p xs[k]):=by
 rw[zr h,QaM];simp
theorem r9:type_of%(a4 @jd @jm @jW (aI @jl (aI @jc @rzZ))):=a4 @jd @jm @jW (aI @jl (aI @jc @rzZ))
set_option maxHeartbeats 1000000 in
theorem jnl (hb:NB base)(e:EnumT)(h1:e.name.length<=BIG)(h2:e.vals.length<=BIG)(h3:∀ v∈e.vals,v.length<=BIG):Tot base 69 [.agg (enE e)] (gv (Ql e)):=by
 refine hb.tot ?_ (by first|rfl|simp[pa,pc,q9,QJ,Wc,JE,Jj]) rfl;have NM:=Y7 hb e.name (by unfold BIG at *;omega);unfold BIG at *;have c1:((e.vals.length:Int)<1)=(e.vals.length<1):=by rw[eq_iff_iff];omega
 have c2:((32:Int)<(e.vals.length:Int))=(32<e.vals.length):=by rw[eq_iff_iff];omega
 refine jF x54 (by rfl) (hb.pur 69 1 dc) ?_;simp only[y54,jh,ζ,η,θ,κ];rw[(by unfold z54;simp only[qq];rfl:z54=_)]
 (have zz:=@υ.{0};(repeat'(first|apply jb<;>intro _|simp(disch:=first|exact zk|fail) only[NM,c1,c2,υ,r9,δ,ε])))
 ·rename_i h;exact G0.tup2 (by rw[Ql,if_neg (by rintro ⟨h6,_⟩;rw[h] at h6;cases h6)];rfl)
 ·exact G0.tup2 (by rw[Ql,if_neg om];rfl)
 ·exact G0.tup2 (by rw[Ql,if_neg om];rfl)
 have hn:nm e.name=true:=by simp_all
 have hnl:=Qs hn;have l1:1<=e.vals.length:=om
 have l2:e.vals.length<=32:=om
 refine jZ e.vals.length (λk L s=>(e.vals.take k).all nm=true/\Has L 4 (.str ([101,110,117,109,32] ++ e.name ++ [32,123,32] ++ JC (e.vals.take k)))/\Has L 28 (.lst e.vals.length (e.vals.map AV.str))) ?_ (λk L s hk hI hi hn=>?_) (λL s hI=>?_)
 ·refine⟨rfl,?_⟩;rw[QaC,JC,QaO];simp(disch:=decide) only[h12,QaE,Qad,Qaj]
 ·obtain⟨h0,i4,i28⟩:=hI;have N2:=Y7 hb e.vals[k] (by have:=h3 _ (Qaf hk);omega);have hs:=Kx (e.vals.take k) e.vals[k];rw[<-zr hk] at hs;have hjl:(JC (e.vals.take k)).length<=32 * 34:=by
   have:=X9 (n:=32) (xs:=e.vals.take k) λx hx=>Qs (Qae.1 h0 x hx);have h7:(e.vals.take k).length<=32:=by rw[Qam];omega
   have:=Qax 34 h7;omega
  have hvl:=h3 _ (Qaf hk);have tl:(e.vals.take k).length=k:=by rw[Qam];omega
  rw[tl] at hs;have c3:((0:Int)<(k:Int))=(0<k):=by rw[eq_iff_iff];omega
  (have zz:=@υ.{0};(repeat'(first|apply jb<;>intro _|simp(disch:=first|exact zk|fail) only[ja i4,ja i28,ja hi,ja hn,jfX,N2,c3,υ,r9,δ,ε])))
  ·rename_i h;exact G0.tup2 (by rw[Ql,if_neg (by rintro ⟨_,_,_,h6⟩;rw[jcf hk h] at h6;cases h6)];rfl)
  ·rename_i h h8;refine⟨⟨by rw[jfD hk,h0];simp_all,?_⟩,?_⟩
   ·rw[hs,if_neg om];simp(disch:=decide) only[h12,i28,QaE,Qad,Qaj]
   ·simp(disch:=decide) only[h12,hi,hn]
  ·rename_i h h8;refine⟨⟨by rw[jfD hk,h0];simp_all,?_⟩,?_⟩
   ·rw[hs,if_pos om];simp(disch:=decide) only[h12,i28,QaE,Qad,Qaj]
   ·simp(disch:=decide) only[h12,hi,hn]
 ·obtain⟨h0,i4,i28⟩:=hI;rw[Qah] at h0 i4;have hjl:(JC e.vals).length<=32 * 34:=by
   have:=X9 (n:=32) (xs:=e.vals) λx hx=>Qs (Qae.1 h0 x hx);have:=Qax 34 l2;omega
  (have zz:=@υ.{0};(repeat'(first|apply jb<;>intro _|simp(disch:=first|exact zk|fail) only[ja i4,ja i28,υ,r9,δ,ε])))
  exact G0.tup2 (by rw[Ql,if_pos ⟨hn,l1,l2,h0⟩];rfl)
def Zv (n:Int):Bool:=decide (-1000000<=n) && decide (n<=1000000)
def Qb (d:DeclT):Option (List Nat):=
 if d.ty=[] then(if Zv d.lo=true/\Zv d.hi=true then some (ZO d.lo ++ [46,46] ++ ZO d.hi) else none)
 else if d.lo=0/\d.hi=0/\(d.ty=[98,111,111,108]\/nm d.ty=true) then some d.ty else none
def Y6 (xs:List Ex):List Nat:=xs.flatMap λx=>[32,61,32] ++ ze x
def JP (d:DeclT):Option (List Nat):=match Qb d with
 |none=>none
 |some t=>if d.begins.length<=1/\nm d.name=true/\d.begins.all zQ=true then some ([118,97,114,32] ++ d.name ++ [32,58,32] ++ t ++ Y6 d.begins ++ [59,10]) else none
theorem Gd {d:DeclT}(h:Qb d=none):JP d=none:=by unfold JP;rw[h]
theorem jdA {d:DeclT}{t:List Nat}(h:Qb d=some t):JP d=if d.begins.length<=1/\nm d.name=true/\d.begins.all zQ=true then some ([118,97,114,32] ++ d.name ++ [32,58,32] ++ t ++ Y6 d.begins ++ [59,10]) else none:=by unfold JP;rw[h]
theorem zL {x:Ex}(h:zQ x=true):Jz x=true:=by
 unfold zQ at h;rw[Xq] at h;simp only[χ] at h;exact h.1.2
theorem jpG {xs:List Ex}(h:0<xs.length){st:St}{K:AV->St->Prop}:ji (Qz 6 (.lptr (fl eE xs) 0) st) K=K (.agg (eE xs[0])) st:=by
 have:=jkq (st:=st) (K:=K) h;rw[QaP] at this;exact this
set_option maxHeartbeats 1000000 in
theorem He (hb:NB base)(d:DeclT)(t:List Nat)(hw:Qb d=some t)(ht:t.length<=BIG)(h1:d.name.length<=BIG)(h2:∀ x∈d.begins,szE x<=BIG){L:Sl}{s:St}(i1:Has L 1 (.ptr 0 0))(i4:Has L 4 (.str ([118,97,114,32] ++ d.name ++ [32,58,32] ++ t)))(n0:1<=s.nx)(C0:Cl s 0 (qo d)) :
  xC γ base jd7 L s (QZ γ y55.res (Qm G0 (.ok (gv (JP d))))) λv _ s=>Qg G0 (.ok (gv (JP d))) v s.bare:=by
 have NM:=Y7 hb d.name (by unfold BIG at *;omega);have c2:((1:Int)<(d.begins.length:Int))=(1<d.begins.length):=by rw[eq_iff_iff];omega
 have hd:=jdA hw;unfold BIG at *;unfold y55;rw[(by unfold jd7;simp only[qq];rfl:jd7=_)]
 (have zz:=C0.r;(repeat'(first|apply jb<;>intro _|simp(disch:=first|exact zk|fail) only[ja i1,ja i4,NM,c2,C0.q,C0.r,r9,δ,ε])))
 ·exact G0.tup2 (by rw[hd,if_neg om];rfl)
 ·rename_i h8 h;exact G0.tup2 (by rw[hd,if_neg (by rintro ⟨_,h6,_⟩;rw[h] at h6;cases h6)];rfl)
 have hn:nm d.name=true:=by simp_all
 have l1:d.begins.length<=1:=om
 have hnl:=Qs hn;refine jZ d.begins.length (λk L s=>(d.begins.take k).all zQ=true/\Has L 1 (.ptr 0 0)/\Has L 4 (.str ([118,97,114,32] ++ d.name ++ [32,58,32] ++ t ++ Y6 (d.begins.take k)))/\Has L 68 (.lst d.begins.length (fl eE d.begins))/\1<=s.nx) ?_ (λk L s hk hI hi hn=>?_) (λL s hI=>?_)
 ·refine⟨rfl,?_⟩;rw[QaC,show Y6 []=[] from rfl,QaO];simp(disch:=decide) only[h12,i1,i4];exact n0
 ·obtain⟨h0,i1,i4,i68,n0⟩:=hI;have hk0:k=0:=om
  subst hk0;have hi:Has L 70 (.int .i64 0):=hi;have hx:=h2 _ (Qaf hk);have WR:=WO hb d.begins[0] hx;have TX:=λ(h:zQ d.begins[0]=true)=>jck hb d.begins[0] hx (zL h);have TL:=λ(h:zQ d.begins[0]=true)=>Jg d.begins[0] (zL h);have hs:d.begins.take (0+1)=[d.begins[0]]:=zr hk;rw[QaC,show Y6 []=[] from rfl,QaO] at i4;by_cases hwr:zQ d.begins[0]=true
  ·have TX:=TX hwr;have TL:=TL hwr;rw[hwr] at WR
   (have zz:=@υ.{0};(repeat'(first|apply jb<;>intro _|simp(disch:=first|exact zk|fail) only[ja i1,ja i4,ja i68,ja hi,ja hn,jpG hk,WR,TX,υ,r9,δ,ε])))
   refine⟨⟨by rw[hs];simp[hwr],?_⟩,?_⟩
   ·rw[hs,show Y6 [d.begins[0]]=[32,61,32] ++ ze d.begins[0] from by simp[Y6]];simp(disch:=decide) only[h12,i1,i68,QaE,Qad,Qaj]
    (first|omega|(simp only[je,jg,jo,jk,jj];first|done|omega))
   ·simp(disch:=decide) only[h12,hi,hn]
  ·have hf:zQ d.begins[0]=false:=by simpa using hwr
   rw[hf] at WR
   (have zz:=@υ.{0};(repeat'(first|apply jb<;>intro _|simp(disch:=first|exact zk|fail) only[ja i1,ja i4,ja i68,ja hi,ja hn,jpG hk,WR,υ,r9,δ,ε])))
   exact G0.tup2 (by rw[hd,if_neg (by rintro ⟨_,_,h6⟩;rw[jcf hk hf] at h6;cases h6)];rfl)
 ·obtain⟨h0,i1,i4,i68,n0⟩:=hI;rw[Qah] at h0 i4;have bl:(Y6 d.begins).length<=16 * 1099511627776+3:=by
   match hx:d.begins with
   |[]=>simp[Y6]
   |[x]=>
    rw[hx] at h0 h2;have:=Jg x (zL (by simpa using h0));have:=h2 x (by simp);simp[Y6];omega
   |x :: y :: r=>rw[hx] at l1;simp at l1
  (have zz:=@υ.{0};(repeat'(first|apply jb<;>intro _|simp(disch:=first|exact zk|fail) only[ja i1,ja i4,υ,r9,δ,ε])))
  exact G0.tup2 (by rw[hd,if_pos ⟨l1,hn,h0⟩];simp only[jgq,QaE,Qad,Qaj])
set_option maxHeartbeats 1000000 in
theorem jnm (hb:NB base)(d:DeclT)(h1:d.name.length<=BIG)(h3:d.ty.length<=BIG)(h2:∀ x∈d.begins,szE x<=BIG):Tot base 70 [.agg (qo d)] (gv (JP d)):=by
 refine hb.tot ?_ (by first|rfl|simp[pa,pc,q9,QJ,Wc,JE,Jj]) rfl;have NT:=Y7 hb d.ty (by unfold BIG at *;omega);have S1:Tot base 100 [.int .i64 d.lo] (.bool (Zv d.lo)):=jcT hb d.lo;have S2:Tot base 100 [.int .i64 d.hi] (.bool (Zv d.hi)):=jcT hb d.hi;unfold BIG at *;by_cases ht:d.ty=[]
 ·by_cases hs:Zv d.lo=true/\Zv d.hi=true
  ·have e1:=hs.1;have e2:=hs.2;unfold Zv at e1 e2;simp only[χ,decide_eq_true_eq] at e1 e2;have D1:=jfI hb d.lo om om;have D2:=jfI hb d.hi om om;have l1:=vr e1.1 e1.2;have l2:=vr e2.1 e2.2;have hw:Qb d=some (ZO d.lo ++ [46,46] ++ ZO d.hi):=by rw[Qb,if_pos ht,if_pos hs]
   rw[hs.1] at S1;rw[hs.2] at S2;refine jF x55 (by rfl) (hb.pur 70 1 dc) ?_;simp only[y55,jh,ζ,η,θ,κ];rw[(by unfold z55;simp only[qq];rfl:z55=_)]
   (have zz:=aI @υ.{0} @yG;(repeat'(first|apply jb<;>intro _|simp(disch:=first|exact zk|fail) only[ht,S1,S2,D1,D2,sm2,υ,yG,r9,δ,ε])))
   refine He hb d _ hw (by simp[BIG];omega) (by unfold BIG;omega) (by unfold BIG;exact h2) ?_ ?_ ?_ ?_
   ·simp(disch:=decide) only[h12]
   ·simp(disch:=decide) only[h12,QaE,Qad,Qaj]
   ·(first|omega|(simp only[je,jg,jo,jk,jj];first|done|omega))
   ·first|exact Cl.new _ _|(first|exact cyE|fail)
  ·have hw:Qb d=none:=by rw[Qb,if_pos ht,if_neg hs]
   refine jF x55 (by rfl) (hb.pur 70 1 dc) ?_;simp only[y55,jh,ζ,η,θ,κ];rw[(by unfold z55;simp only[qq];rfl:z55=_)]
   (have zz:=@υ.{0};(repeat'(first|apply jb<;>intro _|simp(disch:=first|exact zk|fail) only[ht,S1,S2,υ,r9,δ,ε])))
   all_goals first|(exact G0.tup2 (by rw[Gd hw];rfl))|(exfalso;simp_all;done)
 ·by_cases hs:d.lo=0/\d.hi=0/\(d.ty=[98,111,111,108]\/nm d.ty=true)
  ·have hw:Qb d=some d.ty:=by rw[Qb,if_neg ht,if_pos hs]
   obtain⟨e1,e2,e3⟩:=hs;refine jF x55 (by rfl) (hb.pur 70 1 dc) ?_;simp only[y55,jh,ζ,η,θ,κ];rw[(by unfold z55;simp only[qq];rfl:z55=_)]
   (have zz:=@υ.{0};(repeat'(first|apply jb<;>intro _|simp(disch:=first|exact zk|fail) only[ht,e1,e2,NT,υ,r9,δ,ε])))
   all_goals first
    |(exfalso;simp_all;done)
    |(
     refine He hb d _ hw (by unfold BIG;omega) (by unfold BIG;omega) (by unfold BIG;exact h2) ?_ ?_ ?_ ?_
     ·simp(disch:=decide) only[h12]
     ·simp(disch:=decide) only[h12,QaE,Qad,Qaj]
     ·(first|omega|(simp only[je,jg,jo,jk,jj];first|done|omega))
     ·first|exact Cl.new _ _|(first|exact cyE|fail))
  ·have hw:Qb d=none:=by rw[Qb,if_neg ht,if_neg hs]
   refine jF x55 (by rfl) (hb.pur 70 1 dc) ?_;simp only[y55,jh,ζ,η,θ,κ];rw[(by unfold z55;simp only[qq];rfl:z55=_)]
   (have zz:=@υ.{0};(repeat'(first|apply jb<;>intro _|simp(disch:=first|exact zk|fail) only[ht,NT,υ,r9,δ,ε])))
   all_goals first|(exact G0.tup2 (by rw[Gd hw];rfl))|(exfalso;simp_all;done)
theorem jlp {b o:Nat}{cs:List AV}{h:T AO}(ho:o+6<=qh h b)(hv:rats h b o 6=cs)(hc:cs.all eqs=true):(jY γ 65 (.ptr b o) (.agg cs) h=true)=True:=eq_true (Yt HB Hz dc ho hv hc)
theorem jaX {s:St}{cs:List AV}{b o k:Nat}(hb:b=s.nx)(h:o+k<=cs.length):rats (nw s cs).h b o k=(cs.drop o).take k:=by
 subst hb;exact(Cl.new s cs).ratsP k o h
theorem zY {s:St}{vs:List AV}{b o o' k:Nat}(h1:o'<=o)(h:o+k<=o'+vs.length):rats (wr s b o' vs).h b o k=(vs.drop (o - o')).take k:=by
 refine Y0 (by simp;omega) λi hi=>?_;rw[Uv om om,Qan,Qan,Qbx,if_pos hi,QbI,show o - o'+i=o+i - o' by omega]
def Q5 (a:AsT):List Nat:=a.name ++ [32,58,61,32] ++ ze a.to
def VH (a:AsT):Bool:=nm a.name && zQ a.to
def JM (r:RuleT):Option (List Nat):=if zQ r.when=true/\1<=r.acts.length/\r.acts.length<=32/\r.acts.all VH=true then some ([32,32,119,104,101,110,32] ++ ze r.when ++ [32,100,111,32] ++ JC (r.acts.map Q5) ++ [59,10]) else none
def WL:Nat:=17592186044516
theorem ku {a:AsT}(h:VH a=true)(h2:szE a.to<=BIG):(Q5 a).length<=WL:=by
 unfold VH at h;simp only[χ] at h;have:=Qs h.1;have:=Jg a.to (zL h.2);unfold BIG at h2;unfold WL Q5;simp only[υ,ν,φ];omega
theorem Vo:∀ (a b:Int) (nm:List Nat) (n:Nat) (cs:List AV) (l c:Int),([.int .i64 a,.int .i64 b,.str nm,.lst n cs,.int .i64 l,.int .i64 c]:List AV).all eqs=true:=λ_ _ _ _ _ _ _=>nr rfl
set_option maxHeartbeats 2000000 in
theorem jnf (hb:NB base)(r:RuleT)(h1:szE r.when<=BIG)(h2:r.acts.length<=BIG)(h3:∀ a∈r.acts,szE a.to<=BIG/\a.name.length<=BIG):Tot base 72 [.agg (ruE r)] (gv (JM r)):=by
 refine hb.tot ?_ (by first|rfl|simp[pa,pc,q9,QJ,Wc,JE,Jj]) rfl;have c1:((r.acts.length:Int)<1)=(r.acts.length<1):=by rw[eq_iff_iff];omega
 have c2:((32:Int)<(r.acts.length:Int))=(32<r.acts.length):=by rw[eq_iff_iff];omega
 have WR:=WO hb r.when h1;by_cases hw:zQ r.when=true
 ·have TX:=jck hb r.when h1 (zL hw);have TL:=Jg r.when (zL hw);rw[qt] at WR TX;rw[hw] at WR;unfold BIG at h1 h2;refine jF x57 (by rfl) (hb.pur 72 1 dc) ?_;simp only[y57,jh,ζ,η,θ,κ];rw[(by unfold z57;simp only[qq];rfl:z57=_)]
  (have zz:=@υ.{0};(repeat'(first|apply jb<;>intro _|simp(disch:=first|exact zk|fail) only[WR,TX,c1,c2,jaX,υ,r9,δ,ε])))
  ·exact G0.tup2 (by rw[JM,if_neg om];rfl)
  ·exact G0.tup2 (by rw[JM,if_neg om];rfl)
  have l1:1<=r.acts.length:=om
  have l2:r.acts.length<=32:=om
  refine jZ r.acts.length (λk L s=>(r.acts.take k).all VH=true/\Has L 4 (.str ([32,32,119,104,101,110,32] ++ ze r.when ++ [32,100,111,32] ++ JC ((r.acts.take k).map Q5)))/\Has L 29 (.lst r.acts.length (fl asE r.acts))/\1<=s.nx) ?_ (λk L s hk hI hi hn=>?_) (λL s hI=>?_)
  ·refine⟨rfl,?_⟩;rw[QaC,η,JC,QaO];simp(disch:=decide) only[h12,QaE,Qad,Qaj]
   (first|omega|(simp only[je,jg,jo,jk,jj];first|done|omega))
  ·obtain⟨h0,i4,i29,n0⟩:=hI;have hx:=h3 _ (Qaf hk);have hin:r.acts[k]∈r.acts:=Qaf hk;have hact:∀ a∈r.acts.take k,(Q5 a).length<=WL:=λa ha=>ku (Qae.1 h0 a ha) (h3 a (QbJ ha)).1;have hbad:VH r.acts[k]=false->JM r=none:=λh=>by rw[JM,if_neg (by rintro ⟨_,_,_,h6⟩;rw[jcf hk h] at h6;cases h6)]
   have hgood:VH r.acts[k]=true->(r.acts.take (k+1)).all VH=true:=λh=>by rw[jfD hk,h0,h];rfl
   have hs:=Kx ((r.acts.take k).map Q5) (Q5 r.acts[k]);have e9:(r.acts.take k).map Q5 ++ [Q5 r.acts[k]]=(r.acts.take (k+1)).map Q5:=by rw[zr hk,Qbd];rfl
   rw[e9] at hs;have tl:((r.acts.take k).map Q5).length=k:=by rw[Qaq,Qam];omega
   rw[tl] at hs;have hjl:(JC ((r.acts.take k).map Q5)).length<=32 * (WL+2):=by
    have:=X9 (n:=WL) (xs:=(r.acts.take k).map Q5) λx hx=>by
     obtain⟨a,ha,rfl⟩:=QaL.1 hx;exact hact a ha
    rw[tl] at this;have:=Qax (WL+2) (show k<=32 by omega);omega
   clear hact e9 tl;have N2:=Y7 hb r.acts[k].name (by have:=hx.2;unfold BIG at this;omega);have W2:=WO hb r.acts[k].to hx.1;have T2:=λ(h:zQ r.acts[k].to=true)=>jck hb r.acts[k].to hx.1 (zL h);have T3:=λ(h:zQ r.acts[k].to=true)=>Jg r.acts[k].to (zL h);have hdef:VH r.acts[k]=(nm r.acts[k].name && zQ r.acts[k].to):=rfl;have hdw:Q5 r.acts[k]=r.acts[k].name ++ [32,58,61,32] ++ ze r.acts[k].to:=rfl;have c3:((0:Int)<(k:Int))=(0<k):=by rw[eq_iff_iff];omega
   obtain⟨hx1,hx2⟩:=hx;unfold BIG WL at *;obtain⟨a,ha⟩:∃ a,a=r.acts[k]:=⟨_,rfl⟩;rw[<-ha] at hx1 hx2 hbad hgood hs N2 W2 T2 T3 hdef hdw;by_cases hnm:nm a.name=true
   ·have hnl:=Qs hnm;rw[hnm] at N2;by_cases hwb:zQ a.to=true
    ·have T2:=T2 hwb;have T3:=T3 hwb;rw[qt] at W2 T2;rw[hwb] at W2;have hg:=hgood (by rw[hdef,hnm,hwb];rfl);rw[hdw] at hs;by_cases hk0:k=0
     ·rw[if_pos hk0] at hs;have hk1:¬ 0<k:=om
      (have zz:=aI @zY (aI @υ.{0} (aI @yF @Vo));(repeat'(first|apply jb<;>intro _|simp(disch:=first|exact zk|fail) only[ja i4,ja i29,ja hi,ja hn,N2,W2,T2,c3,hk1,<-ha,zY,sm9,jlp,zY,υ,yF,Vo,r9,δ,ε])))
      refine⟨⟨hg,?_⟩,?_⟩
      ·rw[hs];simp(disch:=decide) only[h12,i29,QaE,Qad,Qaj]
       (first|omega|(simp only[je,jg,jo,jk,jj];first|done|omega))
      ·simp(disch:=decide) only[h12,hi,hn]
     ·rw[if_neg hk0] at hs;have hk1:0<k:=om
      (have zz:=aI @zY (aI @υ.{0} (aI @yF @Vo));(repeat'(first|apply jb<;>intro _|simp(disch:=first|exact zk|fail) only[ja i4,ja i29,ja hi,ja hn,N2,W2,T2,c3,hk1,<-ha,zY,sm9,jlp,zY,υ,yF,Vo,r9,δ,ε])))
      refine⟨⟨hg,?_⟩,?_⟩
      ·rw[hs];simp(disch:=decide) only[h12,i29,QaE,Qad,Qaj]
       (first|omega|(simp only[je,jg,jo,jk,jj];first|done|omega))
      ·simp(disch:=decide) only[h12,hi,hn]
    ·have hwf:zQ a.to=false:=by simpa using hwb
     rw[qt] at W2;rw[hwf] at W2;have hb9:=hbad (by rw[hdef,hwf];simp)
     (have zz:=aI @zY (aI @υ.{0} (aI @yF @Vo));(repeat'(first|apply jb<;>intro _|simp(disch:=first|exact zk|fail) only[ja i4,ja i29,ja hi,ja hn,N2,W2,<-ha,zY,zY,υ,yF,Vo,r9,δ,ε])))
     exact G0.tup2 (by rw[hb9];rfl)
   ·have hnf:nm a.name=false:=by simpa using hnm
    rw[hnf] at N2;have hb9:=hbad (by rw[hdef,hnf];rfl)
    (have zz:=aI @zY (aI @υ.{0} (aI @yF @Vo));(repeat'(first|apply jb<;>intro _|simp(disch:=first|exact zk|fail) only[ja i4,ja i29,ja hi,ja hn,N2,<-ha,zY,zY,υ,yF,Vo,r9,δ,ε])))
    exact G0.tup2 (by rw[hb9];rfl)
  ·obtain⟨h0,i4,i29,n0⟩:=hI;rw[Qah] at h0 i4;have hjl:(JC (r.acts.map Q5)).length<=32 * (WL+2):=by
    have:=X9 (n:=WL) (xs:=r.acts.map Q5) λx hx=>by
     obtain⟨a,ha,rfl⟩:=QaL.1 hx;exact ku (Qae.1 h0 a ha) (h3 a ha).1
    rw[Qaq] at this;have:=Qax (WL+2) l2;omega
   unfold WL at hjl
   (have zz:=@υ.{0};(repeat'(first|apply jb<;>intro _|simp(disch:=first|exact zk|fail) only[ja i4,ja i29,υ,r9,δ,ε])))
   exact G0.tup2 (by rw[JM,if_pos ⟨hw,l1,l2,h0⟩];simp only[jgq,QaE,Qad,Qaj])
 ·have hf:zQ r.when=false:=by simpa using hw
  rw[hf] at WR;rw[qt] at WR;refine jF x57 (by rfl) (hb.pur 72 1 dc) ?_;simp only[y57,jh,ζ,η,θ,κ];rw[(by unfold z57;simp only[qq];rfl:z57=_)]
  (have zz:=@υ.{0};(repeat'(first|apply jb<;>intro _|simp(disch:=first|exact zk|fail) only[WR,jaX,υ,r9,δ,ε])))
  exact G0.tup2 (by rw[JM,if_neg (by rintro ⟨h6,_⟩;exact hw h6)];rfl)
def yx:List (Option (List Nat))->Option (List Nat)
 |[]=>some []
 |none :: _=>none
 |some a :: r=>(yx r).map (a ++ ·)
theorem jhQ:∀ {xs:List (Option (List Nat))} {a b:List Nat},yx xs=some a->yx (xs ++ [some b])=some (a ++ b)
 |[],a,b,h=>by simp[yx] at h;subst h;simp[yx]
 |none :: r,a,b,h=>by simp[yx] at h
 |some c :: r,a,b,h=>by
  rw[yx] at h;cases hr:yx r with
  |none=>rw[hr] at h;simp at h
  |some d=>
   rw[hr] at h;simp at h;subst h;rw[Qad,yx,jhQ hr];simp
theorem jhR:∀ {xs:List (Option (List Nat))},none∈xs->yx xs=none
 |[],h=>by simp at h
 |none :: r,_=>rfl
 |some c :: r,h=>by
  rw[yx,jhR (by simpa using h)];rfl
theorem Qp {n:Nat}:∀ {xs:List (Option (List Nat))} {a:List Nat},(∀ l,some l∈xs->l.length<=n)->yx xs=some a->a.length<=xs.length * n
 |[],a,_,h=>by simp[yx] at h;subst h;simp
 |none :: r,a,_,h=>by simp[yx] at h
 |some c :: r,a,hl,h=>by
  rw[yx] at h;cases hr:yx r with
  |none=>rw[hr] at h;simp at h
  |some d=>
   rw[hr] at h;simp at h;subst h;have:=Qp (xs:=r) (λl h=>hl l (by simp[h])) hr;have:=hl c (by simp);rw[υ,show(some c :: r).length=r.length+1 from rfl,QaR];omega
theorem v7 {α:Type}{f:α->Option (List Nat)}{xs:List α}{k:Nat}(h:k<xs.length){a b:List Nat}(h1:yx ((xs.take k).map f)=some a)(h2:f xs[k]=some b):yx ((xs.take (k+1)).map f)=some (a ++ b):=by
 rw[zr h,Qbd,ζ,η,h2];exact jhQ h1
theorem WI {α:Type}{f:α->Option (List Nat)}{xs:List α}{k:Nat}(h:k<xs.length)(h2:f xs[k]=none):yx (xs.map f)=none:=jhR (by rw[<-h2];exact List.mem_map_of_mem (Qaf h))
theorem Vt {e:EnumT}{l:List Nat}(h:Ql e=some l):l.length<=2000:=by
 unfold Ql at h;split at h
 ·rename_i hh;simp only[Option.some.injEq] at h;subst h;have:=Qs hh.1;have:=X9 (n:=32) (xs:=e.vals) λx hx=>Qs (Qae.1 hh.2.2.2 x hx);have:=Qax 34 hh.2.2.1;simp only[υ,ν,φ];omega
 ·cases h
theorem jgn {d:DeclT}{t:List Nat}(h:Qb d=some t):t.length<=32:=by
 unfold Qb at h;split at h
 ·split at h
  ·rename_i hh;simp only[Option.some.injEq] at h;subst h;obtain⟨e1,e2⟩:=hh;unfold Zv at e1 e2;simp only[χ,decide_eq_true_eq] at e1 e2;have l1:=vr e1.1 e1.2;have l2:=vr e2.1 e2.2;simp only[υ,ν,φ];omega
  ·cases h
 ·split at h
  ·rename_i hh;simp only[Option.some.injEq] at h;subst h;rcases hh.2.2 with h|h
   ·rw[h];decide
   ·exact Qs h
  ·cases h
theorem Vx {d:DeclT}{l:List Nat}(h:JP d=some l)(h2:∀ x∈d.begins,szE x<=BIG):l.length<=WL:=by
 cases ht:Qb d with
 |none=>rw[Gd ht] at h;cases h
 |some t=>
  rw[jdA ht] at h;have tl:=jgn ht;split at h
  ·rename_i hh;simp only[Option.some.injEq] at h;subst h;have:=Qs hh.2.1;have bl:(Y6 d.begins).length<=16 * BIG+3:=by
    match hx:d.begins with
    |[]=>simp[Y6]
    |[x]=>
     rw[hx] at hh h2;have:=Jg x (zL (by simpa using hh.2.2));have:=h2 x (by simp);simp[Y6];omega
    |x :: y :: r=>rw[hx] at hh;simp at hh
   unfold BIG at bl;unfold WL;simp only[υ,ν,φ];omega
  ·cases h
structure WrR (r:RuleT):Prop where
 when:szE r.when<=BIG
 acts:r.acts.length<=BIG
 to:∀ a∈r.acts,szE a.to<=BIG/\a.name.length<=BIG
structure WrS (m:SrcT):Prop where
 enums:m.enums.length<=BIG
 en:∀ e∈m.enums,e.name.length<=BIG/\e.vals.length<=BIG/\∀ v∈e.vals,v.length<=BIG
 vars:m.vars.length<=BIG
 de:∀ d∈m.vars,d.name.length<=BIG/\d.ty.length<=BIG/\d.begins.length<=BIG/\∀ x∈d.begins,szE x<=BIG
 procs:m.procs.length<=BIG
 pr:∀ p∈m.procs,p.name.length<=BIG/\p.rules.length<=BIG/\∀ r∈p.rules,WrR r
def RL:Nat:=33 * (WL+2)
theorem vJ {r:RuleT}{l:List Nat}(h:JM r=some l)(w:WrR r):l.length<=RL:=by
 unfold JM at h;split at h
 ·rename_i hh;simp only[Option.some.injEq] at h;subst h;have h1:=Jg r.when (zL hh.1);have h2:=w.when;have:=X9 (n:=WL) (xs:=r.acts.map Q5) λx hx=>by
   obtain⟨a,ha,rfl⟩:=QaL.1 hx;exact ku (Qae.1 hh.2.2.2 a ha) (w.to a ha).1
  rw[Qaq] at this;have:=Qax (WL+2) hh.2.2.1;unfold RL;unfold BIG at h2;unfold WL at *;simp only[υ,ν,φ];omega
 ·cases h
def QC (p:ProcT):Option (List Nat):=if nm p.name=true/\p.rules.length<=32 then(match yx (p.rules.map JM) with|some t=>some ([112,114,111,99,101,115,115,32] ++ p.name ++ [32,123,10] ++ t ++ [125,10])|none=>none) else none
def PRL:Nat:=33 * RL
theorem jgO {p:ProcT}{l:List Nat}(h:QC p=some l)(w:∀ r∈p.rules,WrR r):l.length<=PRL:=by
 unfold QC at h;split at h
 ·rename_i hh;cases hc:yx (p.rules.map JM) with
  |none=>rw[hc] at h;cases h
  |some t=>
   rw[hc] at h;simp only[Option.some.injEq] at h;subst h;have:=Qs hh.1;have h3:=Qp (n:=RL) (λl hl=>by
    obtain⟨r,hr,he⟩:=QaL.1 hl;exact vJ he (w r hr)) hc
   rw[Qaq] at h3;have:=Qax RL hh.2;unfold PRL;have:1000<=RL:=by unfold RL WL;omega
   simp only[υ,ν,φ];omega
 ·cases h
def Qd (m:SrcT):Option (List Nat):=
 if m.enums.length<=32/\m.vars.length<=32/\m.procs.length<=32 then(match yx (m.enums.map Ql),yx (m.vars.map JP),yx (m.procs.map QC) with
  |some a,some b,some c=>some (a ++ b ++ c)
  |_,_,_=>none) else none
theorem jo3 {m:SrcT}(h:yx (m.enums.map Ql)=none):Qd m=none:=by unfold Qd;rw[h];split<;>rfl
theorem jo0 {m:SrcT}(h:yx (m.vars.map JP)=none):Qd m=none:=by unfold Qd;rw[h];split<;>(try split)<;>first|rfl|(rename_i h2 _ _ _;simp at *)
theorem jo1 {m:SrcT}(h:yx (m.procs.map QC)=none):Qd m=none:=by unfold Qd;rw[h];split<;>(try split)<;>first|rfl|(simp at *)
theorem jo2 {m:SrcT}{a b c:List Nat}(h0:m.enums.length<=32/\m.vars.length<=32/\m.procs.length<=32)(h1:yx (m.enums.map Ql)=some a)(h2:yx (m.vars.map JP)=some b)(h3:yx (m.procs.map QC)=some c):Qd m=some (a ++ b ++ c):=by
 unfold Qd;rw[if_pos h0,h1,h2,h3]
def jep (o:Option (List Nat)):AV:=.tup [.str (o.getD []),.int .i64 (if o.isSome=true then 0 else 141)]
theorem G0.tupw {s:St}{a:List Nat}{n:Int}{u:AV}(h:u=.tup [.str a,.int .i64 n]):G0 u (.tup [.str a,.int .i64 n]) s:=by
 subst h;exact FzD.tup (.cons (.pc rfl) (.cons (.pc rfl) .nil))
theorem r10:type_of%(a8 @jd @jm @jW @jl @jc @qK @qJ @rzZ):=a8 @jd @jm @jW @jl @jc @qK @qJ @rzZ
set_option maxHeartbeats 4000000 in
theorem jh6 (hb:NB base)(m:SrcT)(w:WrS m):Tot base 37 [.agg (srE m)] (jep (Qd m)):=by
 refine hb.tot ?_ (by first|rfl|simp[pa,pc,q9,QJ,Wc,JE,Jj,HO,kM]) rfl;have we:=w.enums;have wv:=w.vars;have wp:=w.procs;have c1:((32:Int)<(m.enums.length:Int))=(32<m.enums.length):=by rw[eq_iff_iff];omega
 have c2:((32:Int)<(m.vars.length:Int))=(32<m.vars.length):=by rw[eq_iff_iff];omega
 have c3:((32:Int)<(m.procs.length:Int))=(32<m.procs.length):=by rw[eq_iff_iff];omega
 unfold BIG at we wv wp;have hbad:∀ s:St,Qd m=none->G0 (jep (Qd m)) (.tup [.str [],.int .i64 141]) s:=λs h=>G0.tupw (by rw[h];rfl);refine jF x18 (by rfl) (hb.pur 37 1 dc) ?_;simp only[y18,jh,ζ,η,θ,κ];rw[(by unfold z18;simp only[qq];rfl:z18=_)];repeat'(first|apply jb<;>intro _|simp(disch:=first|exact dzE|fail) only[c1,c2,c3,r10,δ,ε])
 ·exact hbad _ (by rw[Qd,if_neg om])
 ·exact hbad _ (by rw[Qd,if_neg om])
 ·exact hbad _ (by rw[Qd,if_neg om])
 have l1:m.enums.length<=32:=om
 have l2:m.vars.length<=32:=om
 have l3:m.procs.length<=32:=om
 clear c1 c2 c3;refine jZ m.enums.length (λk L s=>∃ a,yx ((m.enums.take k).map Ql)=some a/\Has L 1 (.ptr 0 0)/\Has L 4 (.str a)/\Has L 36 (.lst m.enums.length (fl enE m.enums))/\1<=s.nx/\Cl s 0 (srE m)) ?_ (λk L s hk hI hi hn=>?_) (λL s hI=>?_)
 ·refine⟨[],rfl,?_⟩;simp(disch:=decide) only[h12];exact⟨by(first|omega|(simp only[je,jg,jo,jk,jj];first|done|omega)),by first|exact Cl.new _ _|(first|exact cyE|fail)⟩
 ·obtain⟨a,ha,i1,i4,iL,n0,C0⟩:=hI;obtain⟨w1,w2,w3⟩:=w.en _ (Qaf hk);have E:=jnl hb m.enums[k] w1 w2 w3;have al:a.length<=32 * 2000:=by
   have:=Qp (n:=2000) (λl hl=>by
    obtain⟨e,_,he⟩:=QaL.1 hl;exact Vt he) ha
   rw[Qaq,Qam] at this;have:=Qax 2000 (show min k m.enums.length<=32 by omega);omega
  have good:=λb=>@v7 _ Ql m.enums k hk a b ha;have bad:=@WI _ Ql m.enums k hk;have el:=@Vt m.enums[k];cases ho:Ql m.enums[k] with
  |none=>
   rw[ho] at E;have E:Tot base 69 [.agg (enE m.enums[k])] (.tup [.str [],.bool false]):=E
   (have zz:=aI @υ.{0} C0.r;(repeat'(first|apply jb<;>intro _|simp(disch:=first|exact zk|fail) only[ja i1,ja i4,ja iL,ja hi,ja hn,E,C0.q,υ,C0.r,r10,δ,ε])))
   exact hbad _ (jo3 (bad ho))
  |some b=>
   rw[ho] at E;have E:Tot base 69 [.agg (enE m.enums[k])] (.tup [.str b,.bool true]):=E;have bl:=el ho
   (have zz:=aI @υ.{0} C0.r;(repeat'(first|apply jb<;>intro _|simp(disch:=first|exact zk|fail) only[ja i1,ja i4,ja iL,ja hi,ja hn,E,C0.q,υ,C0.r,r10,δ,ε])))
   refine⟨⟨a ++ b,good b ho,?_⟩,?_⟩
   ·simp(disch:=decide) only[h12,i1,iL];exact⟨by(first|omega|(simp only[je,jg,jo,jk,jj];first|done|omega)),ckX⟩
   ·simp(disch:=decide) only[h12,hi,hn]
 ·obtain⟨a,ha,i1,i4,iL,n0,C0⟩:=hI;rw[Qah] at ha;have al:a.length<=32 * 2000:=by
   have:=Qp (n:=2000) (λl hl=>by
    obtain⟨e,_,he⟩:=QaL.1 hl;exact Vt he) ha
   rw[Qaq] at this;have:=Qax 2000 l1;omega
  (have zz:=C0.r;(repeat'(first|apply jb<;>intro _|simp(disch:=first|exact zk|fail) only[ja i1,ja i4,ja iL,C0.q,C0.r,r10,δ,ε])))
  refine jZ m.vars.length (λk L s=>∃ b,yx ((m.vars.take k).map JP)=some b/\Has L 1 (.ptr 0 0)/\Has L 4 (.str (a ++ b))/\Has L 54 (.lst m.vars.length (fl qo m.vars))/\1<=s.nx/\Cl s 0 (srE m)) ?_ (λk L s hk hI hi hn=>?_) (λL s hI=>?_)
  ·refine⟨[],rfl,?_⟩;simp(disch:=decide) only[h12,i1,i4,QaO];exact⟨n0,C0⟩
  ·clear i1 i4 iL n0 C0;obtain⟨b,hb2,i1,i4,iL,n0,C0⟩:=hI;obtain⟨w1,w2,_,w3⟩:=w.de _ (Qaf hk);have E:=jnm hb m.vars[k] w1 w2 w3;have bl:b.length<=32 * WL:=by
    have:=Qp (n:=WL) (λl hl=>by
     obtain⟨e,he1,he⟩:=QaL.1 hl;exact Vx he (w.de e (QbJ he1)).2.2.2) hb2
    rw[Qaq,Qam] at this;have:=Qax WL (show min k m.vars.length<=32 by omega);omega
   have good:=λc=>@v7 _ JP m.vars k hk b c hb2;have bad:=@WI _ JP m.vars k hk;have el:=λl (h:JP m.vars[k]=some l)=>Vx h w3;unfold WL at *;cases ho:JP m.vars[k] with
   |none=>
    rw[ho] at E;have E:Tot base 70 [.agg (qo m.vars[k])] (.tup [.str [],.bool false]):=E
    (have zz:=aI @υ.{0} C0.r;(repeat'(first|apply jb<;>intro _|simp(disch:=first|exact zk|fail) only[ja i1,ja i4,ja iL,ja hi,ja hn,E,C0.q,υ,C0.r,r10,δ,ε])))
    exact hbad _ (jo0 (bad ho))
   |some c=>
    rw[ho] at E;have E:Tot base 70 [.agg (qo m.vars[k])] (.tup [.str c,.bool true]):=E;have cl:=el _ ho
    (have zz:=aI @υ.{0} C0.r;(repeat'(first|apply jb<;>intro _|simp(disch:=first|exact zk|fail) only[ja i1,ja i4,ja iL,ja hi,ja hn,E,C0.q,υ,C0.r,r10,δ,ε])))
    refine⟨⟨b ++ c,good c ho,?_⟩,?_⟩
    ·simp(disch:=decide) only[h12,i1,iL,QaE];exact⟨by(first|omega|(simp only[je,jg,jo,jk,jj];first|done|omega)),ckX⟩
    ·simp(disch:=decide) only[h12,hi,hn]
  ·clear i1 i4 iL n0 C0;obtain⟨b,hb2,i1,i4,iL,n0,C0⟩:=hI;rw[Qah] at hb2;have bl:b.length<=32 * WL:=by
    have:=Qp (n:=WL) (λl hl=>by
     obtain⟨e,he1,he⟩:=QaL.1 hl;exact Vx he (w.de e he1).2.2.2) hb2
    rw[Qaq] at this;have:=Qax WL l2;omega
   (have zz:=C0.r;(repeat'(first|apply jb<;>intro _|simp(disch:=first|exact zk|fail) only[ja i1,ja i4,ja iL,C0.q,C0.r,r10,δ,ε])))
   refine jZ m.procs.length (λk L s=>∃ c,yx ((m.procs.take k).map QC)=some c/\Has L 1 (.ptr 0 0)/\Has L 4 (.str (a ++ b ++ c))/\Has L 72 (.lst m.procs.length (fl prE m.procs))/\1<=s.nx) ?_ (λko Lo so hko hIo hio hno=>?_) (λLo so hIo=>?_)
   ·refine⟨[],rfl,?_⟩;simp(disch:=decide) only[h12,i1,i4,QaO];exact n0
   ·clear i1 i4 iL n0 C0;obtain⟨c,hc,i1,i4,iL,n0⟩:=hIo;obtain⟨w1,w2,w3⟩:=w.pr _ (Qaf hko);have NM:=Y7 hb m.procs[ko].name (by unfold BIG at *;omega);have cl:c.length<=32 * PRL:=by
     have:=Qp (n:=PRL) (λl hl=>by
      obtain⟨e,he1,he⟩:=QaL.1 hl;exact jgO he (w.pr e (QbJ he1)).2.2) hc
     rw[Qaq,Qam] at this;have:=Qax PRL (show min ko m.procs.length<=32 by omega);omega
    have good:=λd=>@v7 _ QC m.procs ko hko c d hc;have bad:=λh=>jo1 (@WI _ QC m.procs ko hko h);obtain⟨x,hx⟩:∃ x,x=m.procs[ko]:=⟨_,rfl⟩;rw[<-hx] at good bad w1 w2 w3 NM;have pb:QC x=none->∀ s:St,G0 (jep (Qd m)) (.tup [.str [],.int .i64 141]) s:=λh s=>hbad s (bad h);have c4:((32:Int)<(x.rules.length:Int))=(32<x.rules.length):=by rw[eq_iff_iff];omega
    have WLv:WL=17592186044516:=rfl;have RLv:RL=33 * (WL+2):=rfl;have PLv:PRL=33 * RL:=rfl;unfold BIG at w1 w2;by_cases hnm:nm x.name=true
    ·have hnl:=Qs hnm;rw[hnm] at NM
     (have zz:=@υ.{0};(repeat'(first|apply jb<;>intro _|simp(disch:=first|exact zk|fail) only[ja i1,ja i4,ja iL,ja hio,ja hno,NM,c4,<-hx,υ,r10,δ,ε])))
     ·exact pb (by rw[QC,if_neg om]) _
     have l5:x.rules.length<=32:=om
     refine jZ x.rules.length (λj L s=>∃ t,yx ((x.rules.take j).map JM)=some t/\Has L 1 (.ptr 0 0)/\Has L 4 (.str (a ++ b ++ c ++ ([112,114,111,99,101,115,115,32] ++ x.name ++ [32,123,10] ++ t)))/\Has L 72 (.lst m.procs.length (fl prE m.procs))/\Has L 73 (.int .i64 (m.procs.length:Int))/\Has L 74 (.int .i64 (ko:Int))/\Has L 95 (.lst x.rules.length (fl ruE x.rules))/\1<=s.nx) ?_ (λk L s hk hI hi hn=>?_) (λL s hI=>?_)
     ·refine⟨[],rfl,?_⟩;simp(disch:=decide) only[h12,i1,i4,iL,hno,hio,QaO,QaE,Qad,Qaj]
      (first|omega|(simp only[je,jg,jo,jk,jj];first|done|omega))
     ·clear i1 i4 iL n0 hio hno;obtain⟨t,ht,i1,i4,iL,hno,hio,i95,n0⟩:=hI;have wr:=w3 _ (Qaf hk);have E:=jnf hb x.rules[k] wr.when wr.acts wr.to;have tl:t.length<=32 * RL:=by
       have:=Qp (n:=RL) (λl hl=>by
        obtain⟨e,he1,he⟩:=QaL.1 hl;exact vJ he (w3 e (QbJ he1))) ht
       rw[Qaq,Qam] at this;have:=Qax RL (show min k x.rules.length<=32 by omega);omega
      have good2:=λd=>@v7 _ JM x.rules k hk t d ht;have bad2:=@WI _ JM x.rules k hk;have el:=λl (h:JM x.rules[k]=some l)=>vJ h wr;cases ho:JM x.rules[k] with
      |none=>
       rw[ho] at E;have E:Tot base 72 [.agg (ruE x.rules[k])] (.tup [.str [],.bool false]):=E
       (have zz:=@υ.{0};(repeat'(first|apply jb<;>intro _|simp(disch:=first|exact zk|fail) only[ja i1,ja i4,ja iL,ja i95,ja hi,ja hn,E,υ,r10,δ,ε])))
       exact pb (by rw[QC,if_pos ⟨hnm,l5⟩,bad2 ho]) _
      |some d=>
       rw[ho] at E;have E:Tot base 72 [.agg (ruE x.rules[k])] (.tup [.str d,.bool true]):=E;have dl:=el _ ho
       (have zz:=@υ.{0};(repeat'(first|apply jb<;>intro _|simp(disch:=first|exact zk|fail) only[ja i1,ja i4,ja iL,ja i95,ja hi,ja hn,E,υ,r10,δ,ε])))
       refine⟨⟨t ++ d,good2 d ho,?_⟩,?_⟩
       ·simp(disch:=decide) only[h12,i1,iL,hno,hio,i95,QaE,Qad,Qaj]
        (first|omega|(simp only[je,jg,jo,jk,jj];first|done|omega))
       ·simp(disch:=decide) only[h12,hi,hn]
     ·clear i1 i4 iL n0 hio hno;obtain⟨t,ht,i1,i4,iL,hno,hio,i95,n0⟩:=hI;rw[Qah] at ht;have tl:t.length<=32 * RL:=by
       have:=Qp (n:=RL) (λl hl=>by
        obtain⟨e,he1,he⟩:=QaL.1 hl;exact vJ he (w3 e he1)) ht
       rw[Qaq] at this;have:=Qax RL l5;omega
      have hpw:QC x=some ([112,114,111,99,101,115,115,32] ++ x.name ++ [32,123,10] ++ t ++ [125,10]):=by rw[QC,if_pos ⟨hnm,l5⟩,ht]
      (have zz:=@υ.{0};(repeat'(first|apply jb<;>intro _|simp(disch:=first|exact zk|fail) only[ja i1,ja i4,ja iL,υ,r10,δ,ε])))
      refine⟨⟨_,good _ hpw,?_⟩,?_⟩
      ·simp(disch:=decide) only[h12,i1,iL,QaE,Qad,Qaj]
       (first|omega|(simp only[je,jg,jo,jk,jj];first|done|omega))
      ·simp(disch:=decide) only[h12,hio,hno]
    ·have hnf:nm x.name=false:=by simpa using hnm
     rw[hnf] at NM
     (have zz:=@υ.{0};(repeat'(first|apply jb<;>intro _|simp(disch:=first|exact zk|fail) only[ja i1,ja i4,ja iL,ja hio,ja hno,NM,<-hx,υ,r10,δ,ε])))
     exact pb (by rw[QC,if_neg (by rintro ⟨h6,_⟩;exact hnm h6)]) _
   ·clear i1 i4 iL n0 C0;obtain⟨c,hc,i1,i4,iL,n0⟩:=hIo;rw[Qah] at hc;repeat'(first|apply jb<;>intro _|simp(disch:=first|exact dzE|fail) only[ja i1,ja i4,r10,δ,ε])
    exact G0.tupw (by rw[jo2 ⟨l1,l2,l3⟩ ha hb2 hc];rfl)
end Go.Sy
end
noncomputable section
namespace Go.Sy
open Go.Ev Go.RowKit
def frW (w:World):Inj:=⟨λ_=>.unborn,λB=>match w.heap[B]? with|some (.cells c _ _)=>some c.toList|_=>none⟩
theorem jr8 {w:World}{B:Nat}{vs:List Value}(h:(frW w).g B=some vs):∃ c e f,w.heap[B]? = some (.cells c e f)/\c.toList=vs:=by
 unfold frW at h;dsimp only at h;split at h
 ·rename_i c e f hc;exact⟨c,e,f,hc,by simpa using h⟩
 ·cases h
theorem jpS {w:World}{B:Nat}{c:Array Value}{e:TypeId}{f:Nat×Nat}(h:w.heap[B]? = some (.cells c e f)):(frW w).g B=some c.toList:=by
 unfold frW;dsimp only;rw[h]
theorem jmm {w:World}(hg:∃ te pe,w.cell? ⟨1,0,none⟩=some (.iface te pe)):Sim (frW w) st0.h st0.nx w:=
 ⟨λb B S e=>(by cases e),λb e=>(by cases e),λb b' B S S' e=>(by cases e),λb e=>absurd rfl e,⟨hg,λb S e=>by cases e⟩,λB vs h=>by
  obtain⟨c,e,f,h1,h2⟩:=jr8 h;exact⟨⟨c,e,f.1,f.2,h1,h2,trivial⟩,λb S e=>by cases e⟩⟩
section
variable {H:Type} {enc:TypeId×Value->H} {P:Program} {w:World} {base:Nat} {sp:Nat->Bool} {held:Bool}
mutual
def bulkD:DataW H->Nat
 |.lit (.string bytes)=>bytes.length+1
 |.lit _=>1
 |.nil=>1
 |.ptr d=>bulkD d+1
 |.slice elems spare=>bulkDs elems+bulkDs spare+1
 |.agg parts=>bulkDs parts+1
 |.iface _ d=>bulkD d+1
 |.map entries=>1
 |.held _=>1
def bulkDs:List (DataW H)->Nat
 |[]=>0
 |d :: r=>bulkD d+bulkDs r
end
def Reads (H:Type)(P:Program)(w:World)(N:Nat)(t:TypeId){α:Type}(z:Nat)(en:α->List AV)(sz:α->Nat):Prop:=
 P.cellsOf t=z/\(∀ x,(en x).length=z)/\∀ (enc:TypeId×Value->H) (base:Nat) (sp:Nat->Bool) (held:Bool) (fuel:Nat) (cs:List Value) (d:DataW H) (ps:List MemPlace),fuel<=N->DataW.trod enc P w base sp held fuel t cs=some (d,ps)->∃ x:α,VRs (frW w) (en x) cs/\(en x).all AV.cell=true/\sz x<=bulkD d
def jbw (k:IntKind)(n:{n:Int // (Lit.int k n).wf=true}):List AV:=[.int k n.1]
theorem Jm {N:Nat}{t:TypeId}{k:IntKind}(hu:P.underlying t=some (.int k))(hc:P.cellsOf t=1):Reads H P w N t 1 (jbw k) (λ_=>1):=
 ⟨hc,λ_=>rfl,λenc base sp held fuel cs d ps hN h=>by
  obtain⟨n,rfl,hx,hw⟩:=DataW.trod_int hu h;cases hx;exact⟨⟨n,hw⟩,⟨_,_,rfl,rfl,rfl⟩,rfl,μ _⟩⟩
theorem wY {N:Nat}{t:TypeId}(hu:P.underlying t=some .string)(hc:P.cellsOf t=1):Reads H P w N t 1 (λs:List Nat=>[.str s]) (λs=>s.length+1):=
 ⟨hc,λ_=>rfl,λenc base sp held fuel cs d ps hN h=>by
  obtain⟨s,rfl,hx,hm⟩:=DataW.trod_string hu h;cases hx;refine⟨s.data.toList.map UInt8.toNat,⟨_,_,rfl,⟨s,rfl,rfl⟩,rfl⟩,rfl,?_⟩;show(s.data.toList.map UInt8.toNat).length+1<=_;rw[bulkD,Qaq];exact μ _⟩
theorem jdC {w:World}{a:Addr}{v:Value}(h:w.cell? a=some v):a.spot=none/\∃ c e f,w.heap[a.block]? = some (.cells c e f)/\c[a.off]? = some v:=by
 unfold World.cell? at h;split at h
 ·rename_i c e f hc;split at h
  ·cases h
  ·rename_i hs;exact⟨by simpa using hs,c,e,f,hc,h⟩
 ·cases h
theorem jbV {w:World}{base:Nat}{a:Addr}{n:Nat}{cs:List Value}(h:w.cells? base a n=some cs):cs.length=n/\∀ i,i<n->w.cell? (a.add i)=some (cs.getD i undef):=by
 unfold World.cells? at h;split at h
 ·refine⟨by simpa using mapM_some_length h,λi hi=>?_⟩;have:=mapM_some_get h i i (by simp[hi]);rw[this];have hl:cs.length=n:=by simpa using mapM_some_length h
  simp[ω,show i<cs.length by omega]
 ·cases h
theorem jcg (b o n:Nat):(Addr.add ⟨b,o,none⟩ n)=⟨b,o+n,none⟩:=by
 unfold Addr.add;split
 ·rename_i h;subst h;rfl
 ·rfl
theorem Qe {N:Nat}{α:Type}{t e:TypeId}{z:Nat}{en:α->List AV}{sz:α->Nat}(hz0:0<z)(hu:P.underlying t=some (.slice e))(hc:P.cellsOf t=1)(R:Reads H P w N e z en sz)(hpos:∀ x,1<=sz x) :
  Reads H P w (N+1) t 1 (λxs:List α=>[.lst xs.length (fl en xs)]) (λxs=>(xs.map sz).sum+1):=
 ⟨hc,λ_=>rfl,λenc base sp held fuel cs d ps hN h=>by
  obtain⟨hz,hl,hr⟩:=R;rcases DataW.trod_slice hu h with ⟨rfl,hx⟩|⟨a,len,cap,elems,rest,n,rfl,rfl,hx,hb,hle,hm,hel,h1,_,_⟩
  ·cases hx;exact⟨[],⟨_,_,rfl,⟨none,0,rfl,μ _,rfl,λh=>absurd h (Qbk 0)⟩,rfl⟩,rfl,by simp[bulkD]⟩
  ·rw[hz] at h1;have each:∀ i,i<len->∃ ci d q,w.cells? base (a.add (i * z)) z=some ci/\DataW.trod enc P w base sp held n e ci=some (d,q)/\elems[i]? = some (d,q):=λi hi=>by
    have:=h1 i hi;rw[Qai om] at this;obtain⟨ci,e1,e2⟩:=Option.bind_eq_some_iff.1 this;exact⟨ci,elems[i].1,elems[i].2,e1,e2,Qai om⟩
   have all:∀ m,m<=len->∃ xs:List α,xs.length=m/\(xs.map sz).sum<=bulkDs ((elems.take m).map (·.1))/\∀ i (hi:i<xs.length),∃ ci,w.cells? base (a.add (i * z)) z=some ci/\VRs (frW w) (en xs[i]) ci/\(en xs[i]).all AV.cell=true:=by
    intro m;induction m with
    |zero=>exact λ_=>⟨[],rfl,by simp[bulkDs],λi hi=>by simp at hi⟩
    |succ m ih=>
     intro hm;obtain⟨xs,e1,e2,e3⟩:=ih om;obtain⟨ci,d,q,f1,f2,f3⟩:=each m om;obtain⟨x,g1,g2,g3⟩:=hr enc base sp held n ci d q om f2;have app:∀ (l r:List (DataW H)),bulkDs (l ++ r)=bulkDs l+bulkDs r:=λl r=>by
      induction l with
      |nil=>simp[bulkDs]
      |cons y l ih=>rw[Qad,bulkDs,bulkDs,ih,Qbi]
     refine⟨xs ++ [x],by simp[e1],?_,λi hi=>?_⟩
     ·rw[QbO,f3];simp only[Option.toList,Qbd,ζ,η,List.sum_append,List.sum_cons,List.sum_nil,app,bulkDs];omega
     ·by_cases hlt:i<xs.length
      ·rw[List.getElem_append_left hlt];exact e3 i hlt
      ·have:i=m:=by simp at hi;omega
       subst this;rw[List.getElem_append_right om];simp only[e1,Nat.sub_self,Qbs];exact⟨ci,f1,g1,g2⟩
   obtain⟨xs,e1,e2,e3⟩:=all len (μ _);have hcell:(fl en xs).all AV.cell=true:=by
    rw[Qae];intro v hv;obtain⟨y,hy,hv⟩:=List.mem_flatMap.1 hv;obtain⟨i,hi,rfl⟩:=Qbz.1 hy;obtain⟨_,_,_,h5⟩:=e3 i hi;exact Qae.1 h5 v hv
   refine⟨xs,⟨_,_,rfl,?_,rfl⟩,rfl,?_⟩
   ·refine⟨some a,cap,by rw[e1],om,hcell,λhpos=>?_⟩;obtain⟨c0,f0,_,_⟩:=e3 0 hpos;have f1:=(jbV f0).2 0 hz0;rw[QaP] at f1;have z0:(a.add 0).add 0=a:=rfl;rw[z0] at f1;obtain⟨hs,c,ty,fr,hB,_⟩:=jdC f1;obtain⟨B,o,s⟩:=a;dsimp only at hs hB;subst hs;have cell:∀ i (hi:i<xs.length) j,j<z->∃ v,c[o+(i * z+j)]? = some v/\VR (frW w) ((en xs[i]).getD j .bad) v:=λi hi j hj=>by
     obtain⟨ci,g0,g1,g2⟩:=e3 i hi;have g3:=(jbV g0).2 j hj;rw[jcg,jcg] at g3;obtain⟨_,c',ty',fr',hB',g4⟩:=jdC g3;dsimp only at hB' g4;rw[hB] at hB';cases hB';refine⟨_,by rw[<-Qbi];exact g4,?_⟩;exact g1.get j (by rw[hl];exact hj)
    have bound:o+xs.length * z<=c.size:=by
     have hl1:0<xs.length:=hpos;obtain⟨v,g,_⟩:=cell (xs.length - 1) om (z - 1) om;have:=(Qav.1 g).1;have e:(xs.length - 1) * z+(z - 1)+1=xs.length * z:=by
      have:(xs.length - 1+1) * z=(xs.length - 1) * z+z:=QaR _ _;rw[show xs.length - 1+1=xs.length by omega] at this;omega
     omega
    have hfl:=Jn hl xs;have hcs:c.toList.length=c.size:=Qak;refine⟨B,o,c.toList,rfl,jpS hB,by rw[hfl,hcs];exact bound,?_⟩;show VRs (frW w) _ _;refine VRs.of_get (by rw[hfl,Qam,Qau,hcs];omega) λi hi=>?_;rw[hfl] at hi;have hj:i % z<z:=Nat.mod_lt _ hz0;have hq:i / z<xs.length:=Nat.div_lt_of_lt_mul (by rw[Nat.mul_comm];exact hi);have hiz:i / z * z+i % z=i:=by rw[Nat.mul_comm];exact Nat.div_add_mod i z
    obtain⟨v,g1,g2⟩:=cell (i / z) hq (i % z) hj;rw[hiz] at g1;have g3:=vi hl hq hj;rw[hiz] at g3;rw[g3];have g4:((c.toList.drop o).take (fl en xs).length).getD i undef=v:=by
     rw[hfl];simp only[ω,Qbx,hi,if_true,QbI,QbD,g1,QaH]
    rw[g4];exact g2
   ·cases hx;rw[bulkD];have:elems.take len=elems:=by rw[<-hel];exact Qah
    rw[this] at e2;show(xs.map sz).sum+1<=bulkDs (elems.map (·.1))+bulkDs (rest.map (·.1))+1;omega⟩
theorem Reads.mono {N M:Nat}{α:Type}{t:TypeId}{z:Nat}{en:α->List AV}{sz:α->Nat}(R:Reads H P w N t z en sz)(h:M<=N):Reads H P w M t z en sz:=
 ⟨R.1,R.2.1,λenc base sp held fuel cs d ps hN=>R.2.2 enc base sp held fuel cs d ps om⟩
theorem qG {ι:Inj}{a b:List AV}{cs:List Value}{o z:Nat}(h1:VRs ι a ((cs.drop o).take z))(h2:VRs ι b (cs.drop (o+z))):VRs ι (a ++ b) (cs.drop o):=by
 have:=VRs.append h1 h2;rwa [<-Qbl,Qbt] at this
theorem YP {ι:Inj}{cs:List Value}{o:Nat}(h:cs.length=o):VRs ι [] (cs.drop o):=by
 rw[List.drop_eq_nil_of_le om];rfl
end
end Go.Sy
end
noncomputable section
set_option maxRecDepth 100000
namespace Go.Sy
open Go.Ev Go.RowKit Go.Proofs
variable {H:Type} {w:World}
theorem ce2:Tryz.prog.cellsOf 2=1:=by kernel_rfl
theorem ce3:Tryz.prog.cellsOf 3=1:=by kernel_rfl
theorem ce9:Tryz.prog.cellsOf 9=1:=by kernel_rfl
theorem jqp:Tryz.prog.cellsOf 22=1:=by kernel_rfl
theorem jqo:Tryz.prog.cellsOf 23=1:=by kernel_rfl
theorem jqn:Tryz.prog.cellsOf 24=1:=by kernel_rfl
theorem jqm:Tryz.prog.cellsOf 26=3:=by kernel_rfl
theorem jfr:Tryz.prog.cellsOf 63=1:=by kernel_rfl
theorem jbX:Tryz.prog.cellsOf 65=6:=by kernel_rfl
theorem jql:Tryz.prog.cellsOf 147=7:=by kernel_rfl
theorem jqk:Tryz.prog.cellsOf 141=1:=by kernel_rfl
theorem jqj:Tryz.prog.cellsOf 143=4:=by kernel_rfl
theorem jqi:Tryz.prog.cellsOf 149=1:=by kernel_rfl
theorem jqh:Tryz.prog.cellsOf 151=4:=by kernel_rfl
theorem jlZ:Tryz.prog.cellsOf 153=1:=by kernel_rfl
theorem jlY:Tryz.prog.cellsOf 155=7:=by kernel_rfl
theorem jlX:Tryz.prog.cellsOf 203=9:=by kernel_rfl
theorem gA (x:Ex):1<=szE x:=by rw[Zu];omega
theorem JG:∀ xs:List Ex,(xs.map szE).sum=zg xs
 |[]=>rfl
 |x :: xs=>by rw[ζ,List.sum_cons,JG xs];rfl
def szA (a:AsT):Nat:=a.name.length+szE a.to+1
def szR (r:RuleT):Nat:=szE r.when+(r.acts.map szA).sum+1
def szP (p:ProcT):Nat:=p.name.length+(p.rules.map szR).sum+1
def szV (v:List Nat):Nat:=v.length+1
def szN (e:EnumT):Nat:=e.name.length+(e.vals.map szV).sum+1
def szD (d:DeclT):Nat:=d.name.length+d.ty.length+zg d.begins+1
def szS (m:SrcT):Nat:=(m.enums.map szN).sum+(m.vars.map szD).sum+(m.procs.map szP).sum+1
theorem HL:∀ N:Nat,Reads H γ w N 65 6 eE szE
 |0=>⟨jbX,Jd,λenc base sp held fuel cs d ps hN h=>by
  have:fuel=0:=om
  subst this;simp[DataW.trod] at h⟩
 |N+1=>⟨jbX,Jd,λenc base sp held fuel cs d ps hN h=>by
  obtain⟨xs,n,rfl,hx,hl,hlen,hf⟩:=DataW.trod_struct Tryz.underlying65 h;cases hx;rw[jbX] at hl
  match xs,hlen with
  |[y0,y1,y2,y3,y4,y5],_=>
   have h0:DataW.trod enc γ w base sp held n 3 ((cs.drop 0).take (Tryz.prog.cellsOf 3))=some y0:=hf 0 _ rfl;rw[ce3] at h0;obtain⟨x0,v0,c0,s0⟩:=(Jm (N:=n) Tryz.underlying3 ce3).2.2 enc base sp held n _ y0.1 y0.2 om h0;have h1:DataW.trod enc γ w base sp held n 2 ((cs.drop 1).take (Tryz.prog.cellsOf 2))=some y1:=hf 1 _ rfl;rw[ce2] at h1;obtain⟨x1,v1,c1,s1⟩:=(Jm (N:=n) Tryz.underlying2 ce2).2.2 enc base sp held n _ y1.1 y1.2 om h1;have h2:DataW.trod enc γ w base sp held n 9 ((cs.drop 2).take (Tryz.prog.cellsOf 9))=some y2:=hf 2 _ rfl;rw[ce9] at h2;obtain⟨x2,v2,c2,s2⟩:=(wY (N:=n) Tryz.underlying9 ce9).2.2 enc base sp held n _ y2.1 y2.2 om h2;have h3:DataW.trod enc γ w base sp held n 63 ((cs.drop 3).take (Tryz.prog.cellsOf 63))=some y3:=hf 3 _ rfl;rw[jfr] at h3;obtain⟨x3,v3,c3,s3⟩:=(Qe dc Tryz.underlying63 jfr ((HL N).mono (M:=N) (μ _)) gA).2.2 enc base sp held n _ y3.1 y3.2 om h3;have h4:DataW.trod enc γ w base sp held n 3 ((cs.drop 4).take (Tryz.prog.cellsOf 3))=some y4:=hf 4 _ rfl;rw[ce3] at h4;obtain⟨x4,v4,c4,s4⟩:=(Jm (N:=n) Tryz.underlying3 ce3).2.2 enc base sp held n _ y4.1 y4.2 om h4;have h5:DataW.trod enc γ w base sp held n 3 ((cs.drop 5).take (Tryz.prog.cellsOf 3))=some y5:=hf 5 _ rfl;rw[ce3] at h5;obtain⟨x5,v5,c5,s5⟩:=(Jm (N:=n) Tryz.underlying3 ce3).2.2 enc base sp held n _ y5.1 y5.2 om h5;refine⟨.mk x0.1 x1.1 x2 x3 x4.1 x5.1,?_,?_,?_⟩
   ·rw[qt];exact qG (z:=1) v0 (qG (z:=1) v1 (qG (z:=1) v2 (qG (z:=1) v3 (qG (z:=1) v4 (qG (z:=1) v5 (YP (by rw[hl])))))))
   ·rw[qt];first|rfl|(simp_all [QaM,AV.cell];done)|(simp[AV.cell];done)
   ·simp only[ζ,η,bulkD,bulkDs,Zu,Ex.kids,Ex.name];skip
    first|omega|(simp only[JG] at *;omega)⟩
theorem jhw:∀ xs:List (List Nat),fl (λs=>[AV.str s]) xs=xs.map AV.str
 |[]=>rfl
 |x :: xs=>by rw[JY,jhw xs];rfl
theorem jmp (N:Nat):Reads H γ w (N+1) 141 1 (λxs:List (List Nat)=>[.lst xs.length (xs.map AV.str)]) (λxs=>(xs.map szV).sum+1):=by
 have h:Reads H γ w (N+1) 141 1 (λxs:List (List Nat)=>[.lst xs.length (fl (λs=>[AV.str s]) xs)]) (λxs=>(xs.map szV).sum+1):=Qe dc Tryz.underlying141 jqk (wY (N:=N) Tryz.underlying9 ce9) (λx=>QaN _);simpa only[jhw] using h
theorem jms (N:Nat):Reads H γ w N 143 4 enE szN:=
 ⟨jqj,Qn,λenc base sp held fuel cs d ps hN h=>by
  obtain⟨xs,n,rfl,hx,hl,hlen,hf⟩:=DataW.trod_struct Tryz.underlying143 h;cases hx;rw[jqj] at hl
  match xs,hlen with
  |[y0,y1,y2,y3],_=>
   have h0:DataW.trod enc γ w base sp held n 9 ((cs.drop 0).take (Tryz.prog.cellsOf 9))=some y0:=hf 0 _ rfl;rw[ce9] at h0;obtain⟨x0,v0,c0,s0⟩:=(wY (N:=n) Tryz.underlying9 ce9).2.2 enc base sp held n _ y0.1 y0.2 om h0;have h1:DataW.trod enc γ w base sp held n 141 ((cs.drop 1).take (Tryz.prog.cellsOf 141))=some y1:=hf 1 _ rfl;rw[jqk] at h1;obtain⟨x1,v1,c1,s1⟩:=(jmp N).2.2 enc base sp held n _ y1.1 y1.2 om h1;have h2:DataW.trod enc γ w base sp held n 3 ((cs.drop 2).take (Tryz.prog.cellsOf 3))=some y2:=hf 2 _ rfl;rw[ce3] at h2;obtain⟨x2,v2,c2,s2⟩:=(Jm (N:=n) Tryz.underlying3 ce3).2.2 enc base sp held n _ y2.1 y2.2 om h2;have h3:DataW.trod enc γ w base sp held n 3 ((cs.drop 3).take (Tryz.prog.cellsOf 3))=some y3:=hf 3 _ rfl;rw[ce3] at h3;obtain⟨x3,v3,c3,s3⟩:=(Jm (N:=n) Tryz.underlying3 ce3).2.2 enc base sp held n _ y3.1 y3.2 om h3;refine⟨⟨x0,x1,x2.1,x3.1⟩,?_,?_,?_⟩
   ·rw[YD];exact qG (z:=1) v0 (qG (z:=1) v1 (qG (z:=1) v2 (qG (z:=1) v3 (YP (by rw[hl])))))
   ·rw[YD];first|rfl|(simp_all [QaM,AV.cell];done)|(simp[AV.cell];done)
   ·simp only[ζ,η,bulkD,bulkDs,szN];skip
    first|omega|(simp only[JG] at *;omega)⟩
theorem jmt (N:Nat):Reads H γ w N 147 7 qo szD:=
 ⟨jql,Xi,λenc base sp held fuel cs d ps hN h=>by
  obtain⟨xs,n,rfl,hx,hl,hlen,hf⟩:=DataW.trod_struct Tryz.underlying147 h;cases hx;rw[jql] at hl
  match xs,hlen with
  |[y0,y1,y2,y3,y4,y5,y6],_=>
   have h0:DataW.trod enc γ w base sp held n 9 ((cs.drop 0).take (Tryz.prog.cellsOf 9))=some y0:=hf 0 _ rfl;rw[ce9] at h0;obtain⟨x0,v0,c0,s0⟩:=(wY (N:=n) Tryz.underlying9 ce9).2.2 enc base sp held n _ y0.1 y0.2 om h0;have h1:DataW.trod enc γ w base sp held n 9 ((cs.drop 1).take (Tryz.prog.cellsOf 9))=some y1:=hf 1 _ rfl;rw[ce9] at h1;obtain⟨x1,v1,c1,s1⟩:=(wY (N:=n) Tryz.underlying9 ce9).2.2 enc base sp held n _ y1.1 y1.2 om h1;have h2:DataW.trod enc γ w base sp held n 2 ((cs.drop 2).take (Tryz.prog.cellsOf 2))=some y2:=hf 2 _ rfl;rw[ce2] at h2;obtain⟨x2,v2,c2,s2⟩:=(Jm (N:=n) Tryz.underlying2 ce2).2.2 enc base sp held n _ y2.1 y2.2 om h2;have h3:DataW.trod enc γ w base sp held n 2 ((cs.drop 3).take (Tryz.prog.cellsOf 2))=some y3:=hf 3 _ rfl;rw[ce2] at h3;obtain⟨x3,v3,c3,s3⟩:=(Jm (N:=n) Tryz.underlying2 ce2).2.2 enc base sp held n _ y3.1 y3.2 om h3;have h4:DataW.trod enc γ w base sp held n 63 ((cs.drop 4).take (Tryz.prog.cellsOf 63))=some y4:=hf 4 _ rfl;rw[jfr] at h4;obtain⟨x4,v4,c4,s4⟩:=(Qe dc Tryz.underlying63 jfr (HL N) gA).2.2 enc base sp held n _ y4.1 y4.2 om h4;have h5:DataW.trod enc γ w base sp held n 3 ((cs.drop 5).take (Tryz.prog.cellsOf 3))=some y5:=hf 5 _ rfl;rw[ce3] at h5;obtain⟨x5,v5,c5,s5⟩:=(Jm (N:=n) Tryz.underlying3 ce3).2.2 enc base sp held n _ y5.1 y5.2 om h5;have h6:DataW.trod enc γ w base sp held n 3 ((cs.drop 6).take (Tryz.prog.cellsOf 3))=some y6:=hf 6 _ rfl;rw[ce3] at h6;obtain⟨x6,v6,c6,s6⟩:=(Jm (N:=n) Tryz.underlying3 ce3).2.2 enc base sp held n _ y6.1 y6.2 om h6;refine⟨⟨x0,x1,x2.1,x3.1,x4,x5.1,x6.1⟩,?_,?_,?_⟩
   ·rw[J0];exact qG (z:=1) v0 (qG (z:=1) v1 (qG (z:=1) v2 (qG (z:=1) v3 (qG (z:=1) v4 (qG (z:=1) v5 (qG (z:=1) v6 (YP (by rw[hl]))))))))
   ·rw[J0];first|rfl|(simp_all [QaM,AV.cell];done)|(simp[AV.cell];done)
   ·simp only[ζ,η,bulkD,bulkDs,szD];skip
    first|omega|(simp only[JG] at *;omega)⟩
theorem jrR (N:Nat):Reads H γ w N 203 9 asE szA:=
 ⟨jlX,ww,λenc base sp held fuel cs d ps hN h=>by
  obtain⟨xs,n,rfl,hx,hl,hlen,hf⟩:=DataW.trod_struct Tryz.underlying203 h;cases hx;rw[jlX] at hl
  match xs,hlen with
  |[y0,y1,y2,y3],_=>
   have h0:DataW.trod enc γ w base sp held n 9 ((cs.drop 0).take (Tryz.prog.cellsOf 9))=some y0:=hf 0 _ rfl;rw[ce9] at h0;obtain⟨x0,v0,c0,s0⟩:=(wY (N:=n) Tryz.underlying9 ce9).2.2 enc base sp held n _ y0.1 y0.2 om h0;have h1:DataW.trod enc γ w base sp held n 65 ((cs.drop 1).take (Tryz.prog.cellsOf 65))=some y1:=hf 1 _ rfl;rw[jbX] at h1;obtain⟨x1,v1,c1,s1⟩:=((HL N)).2.2 enc base sp held n _ y1.1 y1.2 om h1;have h2:DataW.trod enc γ w base sp held n 3 ((cs.drop 7).take (Tryz.prog.cellsOf 3))=some y2:=hf 2 _ rfl;rw[ce3] at h2;obtain⟨x2,v2,c2,s2⟩:=(Jm (N:=n) Tryz.underlying3 ce3).2.2 enc base sp held n _ y2.1 y2.2 om h2;have h3:DataW.trod enc γ w base sp held n 3 ((cs.drop 8).take (Tryz.prog.cellsOf 3))=some y3:=hf 3 _ rfl;rw[ce3] at h3;obtain⟨x3,v3,c3,s3⟩:=(Jm (N:=n) Tryz.underlying3 ce3).2.2 enc base sp held n _ y3.1 y3.2 om h3;refine⟨⟨x0,x1,x2.1,x3.1⟩,?_,?_,?_⟩
   ·rw[asE];exact qG (z:=1) v0 (qG (z:=6) v1 (qG (z:=1) v2 (qG (z:=1) v3 (YP (by rw[hl])))))
   ·rw[asE];first|rfl|(simp_all [QaM,AV.cell];done)|(simp[AV.cell];done)
   ·simp only[ζ,η,bulkD,bulkDs,szA];skip
    first|omega|(simp only[JG] at *;omega)⟩
theorem jmq (N:Nat):Reads H γ w N 155 7 ruE szR:=
 ⟨jlY,vK,λenc base sp held fuel cs d ps hN h=>by
  obtain⟨xs,n,rfl,hx,hl,hlen,hf⟩:=DataW.trod_struct Tryz.underlying155 h;cases hx;rw[jlY] at hl
  match xs,hlen with
  |[y0,y1],_=>
   have h0:DataW.trod enc γ w base sp held n 65 ((cs.drop 0).take (Tryz.prog.cellsOf 65))=some y0:=hf 0 _ rfl;rw[jbX] at h0;obtain⟨x0,v0,c0,s0⟩:=((HL N)).2.2 enc base sp held n _ y0.1 y0.2 om h0;have h1:DataW.trod enc γ w base sp held n 153 ((cs.drop 6).take (Tryz.prog.cellsOf 153))=some y1:=hf 1 _ rfl;rw[jlZ] at h1;obtain⟨x1,v1,c1,s1⟩:=(Qe dc Tryz.underlying153 jlZ (jrR N) (λx=>QaN _)).2.2 enc base sp held n _ y1.1 y1.2 om h1;refine⟨⟨x0,x1⟩,?_,?_,?_⟩
   ·rw[ruE];exact qG (z:=6) v0 (qG (z:=1) v1 (YP (by rw[hl])))
   ·rw[ruE];first|rfl|(simp_all [QaM,AV.cell];done)|(simp[AV.cell];done)
   ·simp only[ζ,η,bulkD,bulkDs,szR];skip
    first|omega|(simp only[JG] at *;omega)⟩
theorem jmr (N:Nat):Reads H γ w N 151 4 prE szP:=
 ⟨jqh,Wf,λenc base sp held fuel cs d ps hN h=>by
  obtain⟨xs,n,rfl,hx,hl,hlen,hf⟩:=DataW.trod_struct Tryz.underlying151 h;cases hx;rw[jqh] at hl
  match xs,hlen with
  |[y0,y1,y2,y3],_=>
   have h0:DataW.trod enc γ w base sp held n 9 ((cs.drop 0).take (Tryz.prog.cellsOf 9))=some y0:=hf 0 _ rfl;rw[ce9] at h0;obtain⟨x0,v0,c0,s0⟩:=(wY (N:=n) Tryz.underlying9 ce9).2.2 enc base sp held n _ y0.1 y0.2 om h0;have h1:DataW.trod enc γ w base sp held n 149 ((cs.drop 1).take (Tryz.prog.cellsOf 149))=some y1:=hf 1 _ rfl;rw[jqi] at h1;obtain⟨x1,v1,c1,s1⟩:=(Qe dc Tryz.underlying149 jqi (jmq N) (λx=>QaN _)).2.2 enc base sp held n _ y1.1 y1.2 om h1;have h2:DataW.trod enc γ w base sp held n 3 ((cs.drop 2).take (Tryz.prog.cellsOf 3))=some y2:=hf 2 _ rfl;rw[ce3] at h2;obtain⟨x2,v2,c2,s2⟩:=(Jm (N:=n) Tryz.underlying3 ce3).2.2 enc base sp held n _ y2.1 y2.2 om h2;have h3:DataW.trod enc γ w base sp held n 3 ((cs.drop 3).take (Tryz.prog.cellsOf 3))=some y3:=hf 3 _ rfl;rw[ce3] at h3;obtain⟨x3,v3,c3,s3⟩:=(Jm (N:=n) Tryz.underlying3 ce3).2.2 enc base sp held n _ y3.1 y3.2 om h3;refine⟨⟨x0,x1,x2.1,x3.1⟩,?_,?_,?_⟩
   ·rw[Zf];exact qG (z:=1) v0 (qG (z:=1) v1 (qG (z:=1) v2 (qG (z:=1) v3 (YP (by rw[hl])))))
   ·rw[Zf];first|rfl|(simp_all [QaM,AV.cell];done)|(simp[AV.cell];done)
   ·simp only[ζ,η,bulkD,bulkDs,szP];skip
    first|omega|(simp only[JG] at *;omega)⟩
theorem rd_src (N:Nat):Reads H γ w N 26 3 srE szS:=
 ⟨jqm,vF,λenc base sp held fuel cs d ps hN h=>by
  obtain⟨xs,n,rfl,hx,hl,hlen,hf⟩:=DataW.trod_struct Tryz.underlying26 h;cases hx;rw[jqm] at hl
  match xs,hlen with
  |[y0,y1,y2],_=>
   have h0:DataW.trod enc γ w base sp held n 22 ((cs.drop 0).take (Tryz.prog.cellsOf 22))=some y0:=hf 0 _ rfl;rw[jqp] at h0;obtain⟨x0,v0,c0,s0⟩:=(Qe dc Tryz.underlying22 jqp (jms N) (λx=>QaN _)).2.2 enc base sp held n _ y0.1 y0.2 om h0;have h1:DataW.trod enc γ w base sp held n 23 ((cs.drop 1).take (Tryz.prog.cellsOf 23))=some y1:=hf 1 _ rfl;rw[jqo] at h1;obtain⟨x1,v1,c1,s1⟩:=(Qe dc Tryz.underlying23 jqo (jmt N) (λx=>QaN _)).2.2 enc base sp held n _ y1.1 y1.2 om h1;have h2:DataW.trod enc γ w base sp held n 24 ((cs.drop 2).take (Tryz.prog.cellsOf 24))=some y2:=hf 2 _ rfl;rw[jqn] at h2;obtain⟨x2,v2,c2,s2⟩:=(Qe dc Tryz.underlying24 jqn (jmr N) (λx=>QaN _)).2.2 enc base sp held n _ y2.1 y2.2 om h2;refine⟨⟨x0,x1,x2⟩,?_,?_,?_⟩
   ·rw[Zb];exact qG (z:=1) v0 (qG (z:=1) v1 (qG (z:=1) v2 (YP (by rw[hl]))))
   ·rw[Zb];first|rfl|(simp_all [QaM,AV.cell];done)|(simp[AV.cell];done)
   ·simp only[ζ,η,bulkD,bulkDs,szS];skip
    first|omega|(simp only[JG] at *;omega)⟩
end Go.Sy
end
noncomputable section
set_option maxRecDepth 100000
namespace Go.Sy
open Go.Ev Go.Proofs
def z24:XC:=(ou [o9 4 [.nils,.nils,.nils],TB 5,o9 6 [oB,oB,oB]] (oX [Ix 13,Ou 14 65 13,oy 12 14,O0 15 12,O1 16 12,o9 7 [.nils,.nils,.nils],o9 8 [oB,oB,oB],o7 3 7 15,o7 3 8 16] (Ic [ON 17 8,oF 18 17,Tg 19 18] 19 (OB [IH (IA 20 [.nils,.nils,.nils] []),IH (IA 21 (OY oB oB oH oB oB) []),OV 22 3 8 8 71 [],TC 3 4 20 [(0,71)],TC 6 5 21 [(1,71)],TC 3 6 22 []] .ret)) (oX [o6 24 3 7,Ou 25 66 24,oy 23 25,O0 26 23,O1 27 23,o9 9 [.nils,.nils,.nils],o7 3 9 26,o7 3 8 27] (Ic [ON 28 8,oF 29 28,Tg 30 29] 30 (OB [IH (IA 31 [.nils,.nils,.nils] []),IH (IA 32 (OY oB oB oH oB oB) []),OV 33 3 8 8 71 [],TC 3 4 31 [(0,71)],TC 6 5 32 [(1,71)],TC 3 6 33 []] .ret)) (oX [OP 35,Ou 36 67 35,oy 34 36,O0 37 34,O1 38 34,TB 10,o7 6 10 37,o7 3 8 38] (Ic [ON 39 8,oF 40 39,Tg 41 40] 41 (OB [IH (IA 42 [.nils,.nils,.nils] []),IH (IA 43 (OY oB oB oH oB oB) []),OV 44 3 8 8 71 [],TC 3 4 42 [(0,71)],TC 6 5 43 [(1,71)],TC 3 6 44 []] .ret)) (oX [o6 46 3 9,Ti 47 10,OE 48 68 46 47,oy 45 48,O0 49 45,O1 50 45,TB 11,o7 6 11 49,o7 3 8 50] (Ic [ON 51 8,oF 52 51,Tg 53 52] 53 (OB [IH (IA 54 [.nils,.nils,.nils] []),IH (IA 55 (OY oB oB oH oB oB) []),OV 56 3 8 8 71 [],TC 3 4 54 [(0,71)],TC 6 5 55 [(1,71)],TC 3 6 56 []] .ret)) (OB [OV 57 3 9 9 32 [],OV 58 6 11 11 65 [],OV 59 3 8 8 71 [],TC 3 4 57 [(0,71),(1,65)],TC 6 5 58 [(1,71)],TC 3 6 59 []] .ret))))))
def y24:XF:=⟨[0,1],z24,[(.cA 4 3),(.cA 5 6),(.cA 6 3)]⟩
theorem x24:jv γ 36=some y24:=by kernel_rfl
def z25:XC:=(O7 [IS 2 0,IS 3 1,TB 4,o9 5 [oB,oB,oB]] [o5 (.defer (oQ 91 []) [5])] (oX [o6 7 3 2,IA 8 [.nils,.nils,.nils,.nilm,oV] [((0,3),7),((4,1),I7)],ol 9 (.box 8),oz 6 9] (.dops [Tu 10 6,OV 11 6 3 3 65 [],(Iw (Ie 12 99 [10,11,IM 2,.c oH]) 0 [],some [Tj 12,If (o6 13 3 5) 5 71 [(0,0)],Ib (o5 (.i (.mv IW))) 0,Ib (o5 (.i (.mv IW))) 0]),OV 13 3 5 5 71 [(0,0)],TC 6 4 12 [(0,71)],TC 3 5 13 []]) .ret))
def y25:XF:=⟨[0,1],z25,[(.cA 4 6),(.cA 5 3)]⟩
theorem x25:jv γ 68=some y25:=by kernel_rfl
def jd8:XC:=(OB [IH (Tc 65),IH (Iu 66 65),IK 67 0 66,OV 68 3 67 67 32 [],OV 69 3 3 3 71 [],TC 3 2 68 [(0,71)],TC 3 3 69 []] .ret)
def jd9:XC:=(.seq (Tr [oD 38 2 1,Ot 39 38,IQ 40 39,IJ 41] 4 42 41 40 42 4 5 [Ig 43 4 39 41,o6 44 4 43,o9 10 [oH,.nils,oB,oB],o7 4 10 44] (ou [Tc 45,ON 46 10,oF 47 46,oD 48 2 10,oF 49 48,Tf 50 10,oF 51 50,Ie 52 94 [45,47,49,51]] (Tr [Ta 53 10,Ot 54 53,IQ 55 54,IJ 56] 6 57 56 55 57 6 7 [Ig 58 7 54 56,o6 59 7 58,o9 12 [oB,oB,oH,.nils,oB,oB,.nils],o7 7 12 59] (.ops [Tc 60,o6 61 7 12,OE 62 95 60 61]) 63 56 1 56 63)) 64 41 1 41 64) jd8)
def jea:XC:=(.seq (Tr [Ta 27 1,Ot 28 27,IQ 29 28,IJ 30] 2 31 30 29 31 2 3 [Ig 32 7 28 30,o6 33 7 32,o9 8 [oH,oH,oB,oB,.nils,oB,oB],o7 7 8 33] (.ops [Tc 34,o6 35 7 8,OE 36 93 34 35]) 37 30 1 30 37) jd9)
def jeb:XC:=(.seq (Tr [ON 16 1,Ot 17 16,IQ 18 17,IJ 19] 0 20 19 18 20 0 1 [Ig 21 4 17 19,o6 22 4 21,o9 6 [oH,.nils,oB,oB],o7 4 6 22] (.ops [Tc 23,o6 24 4 6,OE 25 92 23 24]) 26 19 1 19 26) jea)
def z26:XC:=(ou [IS 1 0,o9 2 [.nils,.nils,.nils],o9 3 [oB,oB,oB]] (O7 [o5 (.defer (oQ 91 []) [3])] [ol 13 .mkMap,IA 14 [.nils,.nils,.nils,.nilm,oV] [((3,1),13)],ol 15 (.box 14),Tw 15] jeb))
def y26:XF:=⟨[0],z26,[(.cA 2 3),(.cA 3 3)]⟩
theorem x26:jv γ 66=some y26:=by kernel_rfl
def z33:XC:=(ou [IS 1 0,IJ 2] (Tq [oK 3 (.int .u64 1)] [ON 6 1,Ot 7 6,IQ 8 7,IJ 9] 0 10 9 8 10 0 1 [Ig 11 7 7 9,o6 12 7 11,o9 5 [oH,oB,oH,oB,oB,oV,oB],o7 7 5 12] (.ops [oy 13 3,oD 14 4 5,oF 15 14,ol 16 (.cvt .u64 15),Tf 17 5,oF 18 17,ol 19 (.cvt .u64 18),IU 20 .sub 16 19,OG 21 .add 20 (.int .u64 1),IU 22 .mul 13 21,oz 3 22]) 23 9 1 9 23 [oy 24 3,ol 25 (.cvt .i64 24),O4 25]))
def y33:XF:=⟨[0],z33,[(.t 2)]⟩
theorem x33:jv γ 33=some y33:=by kernel_rfl
def z60:XC:=(ou [IS 5 1,TB 8] (IX [Ix 12,Ti 13 5,OE 14 139 12 13,oy 11 14,O0 15 11,O1 16 11,TB 9,o9 10 [oB,oH,oB,oB],o7 6 9 15,o7 4 10 16] (Or [ON 17 10,oF 18 17,oy 19 2,IU 20 .neq 18 19,oy 21 20,OL 22 21 1 10,OI 23 21 22,Ok 24 21 3,Ip 25 21 (.strb .neq 23 24),On 26 21 I7 25] 26 [oD 27 4 5,oF 28 27,oD 29 5 5,oF 30 29,Ie 31 130 [IM 163,28,30]]) [Ti 32 9,o7 6 8 32]))
def y60:XF:=⟨[0,1,2,3],z60,[(.cA 8 6)]⟩
theorem x60:jv γ 99=some y60:=by kernel_rfl
def z61:XC:=(ou [IS 3 1] (oX [Ix 6,ON 7 3,oF 8 7,oD 9 2 3,oF 10 9,Tf 11 3,oF 12 11,Ie 13 94 [6,8,10,12]] (Tr [Ta 14 3,Ot 15 14,IQ 16 15,IJ 17] 0 18 17 16 18 0 1 [TJ 19 15 17,oF 20 19,oz 5 20] (.ops [Ix 21,oy 22 5,oD 23 2 3,oF 24 23,Tf 25 3,oF 26 25,Ie 27 94 [21,22,24,26]]) 28 17 1 17 28) (.dops [TF 29,TF 30,IH (Iu 31 30),IK 32 0 31,IK 33 1 32,O5 34 33 33 22,IK 35 0 3,O5 36 35 35 9,IK 37 1 3,O5 38 37 37 141,(O8 39 127 38 0 [(2,9),(4,22)],some [Tj 39,Ib (oD 40 2 3) 0,If (oF 41 40) 40 3 [(1,0)],Ib (Tf 42 3) 0,If (oF 43 42) 42 3 [(3,0)],Tj 44,Tj 45,Tj 46,Tj 47,Tj 48,Tj 49,Ib (o5 (.i (.mv IW))) 0]),IK 40 2 3,I4 41 40 40 3 [(1,0)],IK 42 3 3,I4 43 42 42 3 [(3,0)],IH (IA 44 [oH,.nils,oB,oB] [((0,1),36),((1,1),39),((2,1),41),((3,1),43)]),IH (Im 45 1 4 [oH,.nils,oB,oB] [((0,4),44)]),IZ (OW 46 4 56 34 45) 0 [],IH (Iu 47 29),IK 48 0 47,IK 49 1 48,TC 1 49 46 []])))
def y61:XF:=⟨[0,1],z61,[]⟩
theorem x61:jv γ 92=some y61:=by kernel_rfl
def jd6:XC:=(.seq (.cops [O9 139,O9 140,Is (Iu 141 140),Is (ON 142 141),Is (ON 143 142),OM 144 143,Is (o6 145 7 4),Is (Im 146 1 7 [oH,oB,oH,oB,oB,oV,oB] [((0,7),145)]),Is (OW 147 7 72 144 146),Is (Iu 148 139),Is (ON 149 148),Is (ON 150 149),Is (TK 150 147)]) (Or [Ix 151,Iu 152 151,ON 153 152,o6 154 3 153,Ou 155 33 154,O6 156 .gtr 155 281474976710656] 156 [oD 157 5 3,oF 158 157,oD 159 6 3,oF 160 159,Ie 161 130 [IM 165,158,160]]))
def jam:XC:=(.seq (Tr [oD 92 4 3,Ot 93 92,IQ 94 93,IJ 95] 1 96 95 94 96 1 2 [Ig 97 6 93 95,Ti 98 97,TB 7,o7 6 7 98] (oX [Ix 99,Ti 100 7,Ta 101 4,oF 102 101,oD 103 2 4,oF 104 103,Ie 105 99 [99,100,102,104],TB 8,o7 6 8 105] (ou [Ti 107 8,Ou 108 131 107,oy 106 108,O0 109 106,O1 110 106,TB 9,o7 6 9 109,oz 10 110] (Or [oz 111 10] 111 [oD 112 4 9,oF 113 112,oD 114 5 9,oF 115 114,Ie 116 130 [IM 161,113,115]])) (ou [Ti 117 8,Ou 118 132 117,oD 119 5 4,TK 119 I7,oD 120 6 4,TK 120 118] (Or [oD 121 6 4,oF 122 121,Tf 123 4,oF 124 123,IU 125 .lss 122 124,oy 126 125,OL 127 126 6 4,OI 128 126 127,OL 129 126 4 4,OI 130 126 129,Ip 131 126 (.bin .gtr 128 130),On 132 126 I7 131] 132 [oD 133 4 7,oF 134 133,oD 135 5 7,oF 136 135,Ie 137 130 [IM 164,134,136]]))) 138 95 1 95 138) jd6)
def z62:XC:=(ou [IS 3 1] (O7 [Ix 11,ON 12 3,oF 13 12,oD 14 5 3,oF 15 14,oD 16 6 3,oF 17 16,Ie 18 94 [11,13,15,17]] [ON 19 3,oF 20 19,oD 21 2 3,oF 22 21,Tf 23 3,oF 24 23,IA 25 [oH,oB,oH,oB,oB,oV,oB] [((0,1),20),((1,1),OT),((3,1),22),((4,1),24)],o9 4 [oH,oB,oH,oB,oB,oV,oB],o7 7 4 25] (oX [Ix 26,Iu 27 26,ON 28 27,Ta 29 28,oF 30 29,ol 31 (.fn 129 [3]),OE 32 128 30 31,oz 5 32] (.block 0 (oL [Ta 34 3,oF 35 34,To 36 35 [98,111,111,108],oz 33 36] 33 (.ops [Ta 37 4,TK 37 (IM 2),Tf 38 4,TK 38 Ov,oD 39 4 4,TK 39 OT]) (oL [oy 41 5,OG 42 .geq 41 oB,oz 40 42] 40 (.dops [IK 43 1 3,O5 44 43 43 9,TF 45,IH (Iu 46 45),IK 47 0 46,IK 48 1 47,O5 49 48 48 22,Tu 50 5,IH (Ig 51 4 49 50),IK 52 1 51,O5 53 52 52 141,IH (IR 54 53),IH (Ij 55 .sub 54 1),IK 56 1 4,TC 1 56 (IM 3) [(3,141),(7,22),(12,9)],IK 57 2 4,TC 1 57 44 [(5,141),(9,22)],IK 58 3 4,TC 1 58 Ov [(7,141),(11,22)],IK 59 4 4,TC 1 59 55 []]) (oL [Ta 61 3,oF 62 61,Iv 63 .neq 62 (.c oH),oz 60 63] 60 (.ops [oD 64 5 3,oF 65 64,oD 66 6 3,oF 67 66,Ie 68 130 [IM 161,65,67]]) (oL [oD 70 2 3,oF 71 70,Tf 72 3,oF 73 72,IU 74 .gtr 71 73,oz 69 74] 69 (.ops [oD 75 5 3,oF 76 75,oD 77 6 3,oF 78 77,Ie 79 130 [IM 164,76,78]]) (Or [Tf 81 3,oF 82 81,oD 83 2 3,oF 84 83,IU 85 .sub 82 84,Ij 86 .geq 85 1024,oz 80 86] 80 [oD 87 5 3,oF 88 87,oD 89 6 3,oF 90 89,Ie 91 130 [IM 165,88,90]])))))) jam)))
def y62:XF:=⟨[0,1],z62,[]⟩
theorem x62:jv γ 93=some y62:=by kernel_rfl
def z63:XC:=(.seq (Or [Ix 8,Iu 9 8,Tf 10 9,oF 11 10,OP 12,ol 13 (.look 185 11 12 false),Tb 14 .gtr 13] 14 [oy 15 2,oy 16 3,Ie 17 130 [IM 162,15,16]]) (.ops [Ix 18,Iu 19 18,Tf 20 19,oF 21 20,OP 22,ol 23 (.look 185 21 22 false),IP 24 23 1,o5 (.i (.upd 185 21 22 24))]))
def y63:XF:=⟨[0,1,2,3],z63,[]⟩
theorem x63:jv γ 94=some y63:=by kernel_rfl
def jd4:XC:=(.cops [O9 73,O9 74,Is (Iu 75 74),Is (ON 76 75),Is (oD 77 2 76),OM 78 77,Is (o6 79 7 4),Is (Im 80 1 7 [oB,oB,oH,.nils,oB,oB,.nils] [((0,7),79)]),Is (OW 81 7 96 78 80),Is (Iu 82 73),Is (ON 83 82),Is (oD 84 2 83),Is (TK 84 81)])
def jd5:XC:=(.seq (Tr [oD 13 6 3,Ot 14 13,IQ 15 14,IJ 16] 0 17 16 15 17 0 1 [oy 18 16,Ig 19 9 14 16,o6 20 9 19,o9 6 [oH,oB,oB,oH,.nils,oB,oB,oB,oB],oz 5 18,o7 9 6 20] (oX [Ix 21,ON 22 6,oF 23 22,OE 24 133 21 23,oz 7 24] (Or [oy 25 7,Tb 26 .lss 25] 26 [oD 27 7 6,oF 28 27,oD 29 8 6,oF 30 29,Ie 31 130 [IM 161,28,30]]) (.seq (Or [oD 32 6 3,oF 33 32,oy 34 5,ol 35 (.slS 9 33 none (some 34)),ol 36 (.fn 135 [6]),oE 37 true none (oQ 134 []) [35,36]] 37 [oD 38 7 6,oF 39 38,oD 40 8 6,oF 41 40,Ie 42 130 [IM 162,39,41]]) (.dops [IK 43 6 4,O5 44 43 43 123,Tu 45 7,TF 46,IK 47 1 6,OV 48 6 47 47 65 [],TF 49,IH (Iu 50 49),IK 51 0 50,IK 52 0 51,O5 53 52 52 29,Tu 54 7,IH (Ig 55 7 53 54),IK 56 1 55,O5 57 56 56 3,TF 58,IH (Iu 59 58),IK 60 0 59,IK 61 0 60,O5 62 61 61 29,Tu 63 7,IH (Ig 64 7 62 63),IK 65 2 64,O5 66 65 65 9,(Iw (Ie 67 99 [46,48,57,66]) 0 [(22,123)],I6),IH (IA 68 [oB,oB,oB,oH,.nils,oB,oB] [((0,1),45),((1,6),67)]),IH (Im 69 1 7 [oB,oB,oB,oH,.nils,oB,oB] [((0,7),68)]),IZ (OW 70 7 80 44 69) 0 [],IK 71 6 4,TC 1 71 70 []]))) 72 16 1 16 72) jd4)
def z64:XC:=(O7 [IS 3 1] [Ix 8,ON 9 3,Ti 10 9,Ie 11 99 [8,10,IM 2,.c oH],IA 12 [oB,oB,oH,.nils,oB,oB,.nils] [((0,6),11)],o9 4 [oB,oB,oH,.nils,oB,oB,.nils],o7 7 4 12] jd5)
def y64:XF:=⟨[0,1],z64,[]⟩
theorem x64:jv γ 95=some y64:=by kernel_rfl
def jdZ:XC:=(.seq (Or [oz 151 15] 151 [oD 152 4 3,oF 153 152,oD 154 5 3,oF 155 154,Ie 156 130 [IM 163,153,155]]) (.seq (ID [oy 157 14,O6 158 .neq 157 1] 158 [Ti 159 6,oy 160 14,IA 161 [oB,oH,oB,oB] [((0,1),160),((3,1),OT)],o7 6 4 159,o7 4 5 161]) (IX [ON 163 3,oF 164 163,oy 165 7,OE 166 177 164 165,oy 162 166,O0 167 162,O1 168 162,oz 18 167,oz 19 168] (Or [oy 169 18,Ij 170 .lss 169 (-(99999999+1)),oy 171 170,Ok 172 171 19,Td 173 171 .gtr 172 100000000,On 174 171 I7 173] 174 [oD 175 4 3,oF 176 175,oD 177 5 3,oF 178 177,Ie 179 130 [IM 165,176,178]]) [Ti 180 6,oy 181 14,oy 182 18,oy 183 19,IA 184 [oB,oH,oB,oB] [((0,1),181),((2,1),182),((3,1),183)],o7 6 4 180,o7 4 5 184])))
def jak:XC:=(.seq (Tr [oz 115 7,IQ 116 115,IJ 117] 3 118 117 116 118 3 4 [Ig 119 4 115 117,o6 120 4 119,o9 17 [oB,oH,oB,oB],o7 4 17 120] (.cops [Om 121 15,Om 122 121,Is (Ok 123 122 13),Is (Ip 124 122 (oG .gtr 123 oB)),Is (Ok 125 122 124),Is (Te 126 125 0 17),Is (O2 127 125 126),Is (I5 128 125 13),Is (Iq 129 125 (.bin .neq 127 128)),Is (Ip 130 122 (.pick 125 129 Oj)),Is (Iy 131 122 I7 130),Om 132 131,Is (OL 133 132 0 17),Is (OI 134 132 133),Is (Ok 135 132 7),Is (Ip 136 132 (.idxS 4 135 Ov)),Is (OL 137 132 0 136),Is (OI 138 132 137),Is (Ip 139 132 (.bin .neq 134 138)),Is (Iy 140 132 I7 139),Om 141 140,Is (OL 142 141 1 17),Is (OI 143 141 142),Is (Ok 144 141 7),Is (Ip 145 141 (.idxS 4 144 Ov)),Is (OL 146 141 1 145),Is (OI 147 141 146),Is (Ip 148 141 (.strb .neq 143 147)),Is (Iy 149 141 I7 148),Is (oz 15 149)]) 150 117 1 117 150) jdZ)
def jd0:XC:=(ou [Ix 85,oy 86 8,Iu 87 85,oD 88 4 87,TK 88 86] (O7 [ON 90 3,oF 91 90,Ou 92 175 91,oy 89 92,O0 93 89,O1 94 89,oz 13 93,oz 14 94] [oy 95 7,IR 96 95,OG 97 .eql 96 oB,oy 98 97,Ok 99 98 7,Ip 100 98 (.len 99),Td 101 98 .gtr 100 2,Iy 102 98 I7 101,oy 103 102,OL 104 103 0 3,OI 105 103 104,OS 106 (103,false) 176 [] [105],Ok 107 103 106,I5 108 107 0,Iq 109 107 (.nilc 108),Te 110 107 4 109,O2 111 107 110,Iq 112 107 (I0 111),Ip 113 103 (.pick 107 112 Oj),Iy 114 103 I7 113,oz 15 114] jak))
def jal:XC:=(.seq (Tr [Tf 61 3,Ot 62 61,IQ 63 62,IJ 64] 1 65 64 63 65 1 2 [Ig 66 6 62 64,Ti 67 66,TB 10,o7 6 10 67] (O7 [Ix 69,Ti 70 10,OE 71 139 69 70,oy 68 71,O0 72 68,O1 73 68,TB 11,o9 12 [oB,oH,oB,oB],o7 6 11 72,o7 4 12 73] [Tf 74 6,oF 75 74,Ti 76 11,Im 77 1 6 (OY oB oB oH oB oB) [((0,6),76)],OW 78 6 72 75 77,Tf 79 6,TK 79 78] (.ops [oy 80 7,o6 81 4 12,Im 82 1 4 [oB,oH,oB,oB] [((0,4),81)],OW 83 4 40 80 82,oz 7 83])) 84 64 1 64 84) jd0)
def jd1:XC:=(ou [Ti 41 3,TB 6,o7 6 6 41] (O7 [Tf 42 6,TK 42 (.c .nils)] [OH 7] (O7 [Ix 43,Iu 44 43,oD 45 4 44,oF 46 45,oz 8 46] [Ix 47,oy 48 8,oy 49 48,Te 50 49 0 3,O2 51 49 50,Iq 52 49 (o8 .neq 51 17),Ts 53 49 52,oy 54 53,Te 55 54 0 3,O2 56 54 55,Iq 57 54 (o8 .neq 56 18),Ts 58 54 57,Iu 59 47,oD 60 4 59,TK 60 58] jal)))
def ZH:XC:=(.seq (ou [ON 20 3,Ot 21 20] (.block 0 (Tt 23 21 1 22 23 22 (OB [OV 24 6 3 3 65 [],IK 25 1 3,O5 26 25 25 2,IK 27 1 3,O5 28 27 27 2,IH (IA 29 [oB,oH,oB,oB] [((0,1),OT),((2,1),26),((3,1),28)]),TC 6 4 24 [(1,2),(3,2)],TC 4 5 29 []] .ret) (TM 31 21 2 30 31 30 [Ti 32 3,IA 33 [oB,oH,oB,oB] [((0,1),IM 2),((3,1),OT)],o7 6 4 32,o7 4 5 33] (ID (IY (OA 35 21 3) 34 35) 34 [Ix 36,Ti 37 3,OE 38 174 36 37,O0 39 38,O1 40 38,o7 6 4 39,o7 4 5 40]))))) jd1)
def z97:XC:=(ou [IS 3 1,TB 4,o9 5 [oB,oH,oB,oB]] ZH)
def y97:XF:=⟨[0,1],z97,[(.cA 4 6),(.cA 5 4)]⟩
theorem x97:jv γ 139=some y97:=by kernel_rfl
def z98:XC:=(.ops [Ix 6,OP 7,oy 8 2,IA 9 [oB,oB,oB] [((0,1),6),((1,1),7),((2,1),8)],ol 10 (.iface 71 9),o5 (.pan 10)])
def y98:XF:=⟨[0,1,2],z98,[]⟩
theorem x98:jv γ 130=some y98:=by kernel_rfl
def z99:XC:=(IX [OH 2] (ID [Ix 3,ow 4 (.gen .eql 141 true 3 (.c .nils))] 4 [OH 2]) [TI 5 0 oH [],Ix 6,OW 7 1 16 5 6,O4 7])
def y99:XF:=⟨[0],z99,[(.t 2)]⟩
theorem x99:jv γ 127=some y99:=by kernel_rfl
def jjn:XC:=(Tq [IJ 4] [Ix 6,IQ 7 6,IJ 8] 0 9 8 7 9 0 1 (OU 10 8 5 10) (ID [OP 11,Ix 12,oy 13 5,Ig 14 4 12 13,o6 15 4 14,oE 16 true none 11 [15]] 16 (OU 17 5 4 17)) 18 8 1 8 18 [Ol 4 (-(0+1))])
def jox:XF:=⟨[0,1],jjn,[(.t 4)]⟩
theorem jtA:jv γ 128=some jox:=by kernel_rfl
def jjm:XC:=(Oq [IS 2 0,Os 3] [ON 4 2,oF 5 4,Ta 6 1,oF 7 6,O3 8 5 7,oz 3 8])
def jow:XF:=⟨[0,1],jjm,[(.t 3)]⟩
theorem jtz:jv γ 129=some jow:=by kernel_rfl
def jjl:XC:=(Oz [IS 1 0,TB 2,Os 3] [ON 8 1,oF 9 8,O6 10 .eql 9 4] 10 [Ti 11 1,o7 6 2 11,oK 3 Ik] (TG (Tr [Tf 12 1,Ot 13 12,IQ 14 13,IJ 15] 0 16 15 14 16 0 1 [Ig 17 6 13 15,Ti 18 17,TB 5,o7 6 5 18] (ou [Ti 20 5,Ou 21 131 20,oy 19 21,O0 22 19,O1 23 19,TB 6,o7 6 6 22,oz 7 23] (ID [oz 24 7] 24 [Ti 25 6,o7 6 2 25,oK 3 Ik])) 26 15 1 15 26) [Ti 27 1,o7 6 2 27,Os 3]))
def jov:XF:=⟨[0],jjl,[(.cA 2 6),(.t 3)]⟩
theorem jty:jv γ 131=some jov:=by kernel_rfl
def jjk:XC:=(ou [IS 1 0,IJ 2] (oX [o9 3 [oB,oB]] (Tr [Tf 7 1,Ot 8 7,IQ 9 8,IJ 10] 0 11 10 9 11 0 1 [oy 12 10,Ig 13 6 8 10,Ti 14 13,TB 5,Tw 12,o7 6 5 14] (.ops [Tc 15,Ti 16 5,Ou 17 132 16,Ow 18 2 1 3 15,TK 18 17]) 19 10 1 10 19) (IX [oK 6 (.fn 167 [])] (ou [ON 20 1,Ot 21 20] (.block 2 (Tt 23 21 4 22 23 22 (.ops [oD 24 4 1,oF 25 24,oD 26 5 1,oF 27 26,Ie 28 130 [IM 161,25,27]]) (TM 30 21 5 29 30 29 [Ow 31 2 1 3 Ov,oF 32 31,ol 33 (.un .neg 32),O4 33] (TM 35 21 6 34 35 34 [Ow 36 2 1 3 Ov,oF 37 36,IU 38 .sub OT 37,O4 38] (TM 40 21 14 39 40 39 [Ow 41 2 1 3 Ov,oF 42 41,Ow 43 2 1 3 OT,oF 44 43,IU 45 .mul 42 44,O4 45] (TM 47 21 15 46 47 46 [Ow 48 2 1 3 Ov,oF 49 48,Ow 50 2 1 3 OT,oF 51 50,IU 52 .add 49 51,O4 52] (TM 54 21 16 53 54 53 [Ow 55 2 1 3 Ov,oF 56 55,Ow 57 2 1 3 OT,oF 58 57,IU 59 .sub 56 58,O4 59] (.seq (OQ (OA 61 21 17) 60 61 60 (.ops (IY (OA 62 21 30) 60 62))) (Tl 60 [oy 63 6,Ow 64 2 1 3 Ov,oF 65 64,Ow 66 2 1 3 OT,oF 67 66,IU 68 .eql 65 67,oR 69 none 63 [68],O4 69] (TM 71 21 18 70 71 70 [oy 72 6,Ow 73 2 1 3 Ov,oF 74 73,Ow 75 2 1 3 OT,oF 76 75,IU 77 .neq 74 76,oR 78 none 72 [77],O4 78] (TM 80 21 19 79 80 79 [oy 81 6,Ow 82 2 1 3 Ov,oF 83 82,Ow 84 2 1 3 OT,oF 85 84,IU 86 .lss 83 85,oR 87 none 81 [86],O4 87] (.seq (OQ (OA 89 21 20) 88 89 88 (.ops (IY (OA 90 21 29) 88 90))) (Tl 88 [oy 91 6,Ow 92 2 1 3 Ov,oF 93 92,Ow 94 2 1 3 OT,oF 95 94,IU 96 .leq 93 95,oR 97 none 91 [96],O4 97] (TM 99 21 21 98 99 98 [oy 100 6,Ow 101 2 1 3 Ov,oF 102 101,Ow 103 2 1 3 OT,oF 104 103,IU 105 .gtr 102 104,oR 106 none 100 [105],O4 106] (TM 108 21 22 107 108 107 [oy 109 6,Ow 110 2 1 3 Ov,oF 111 110,Ow 112 2 1 3 OT,oF 113 112,IU 114 .geq 111 113,oR 115 none 109 [114],O4 115] (TM 117 21 27 116 117 116 [Ow 118 2 1 3 Ov,oF 119 118,Ow 120 2 1 3 OT,oF 121 120,IU 122 .mul 119 121,O4 122] (ID (IY (OA 124 21 28) 123 124) 123 [Ow 125 2 1 3 Ov,oF 126 125,Ow 127 2 1 3 OT,oF 128 127,ol 129 (.bi .max #[2,2] [126,128]),O4 129])))))))))))))))))) [Ta 130 1,oF 131 130,O4 131])))
def jou:XF:=⟨[0],jjk,[(.t 2)]⟩
theorem jtx:jv γ 132=some jou:=by kernel_rfl
def jjj:XC:=(Oq [IS 3 1,IJ 4] [Ix 5,Iu 6 5,ON 7 6,ON 8 7,oF 9 8,ol 10 (.fn 169 [3]),OE 11 168 9 10,Tw 11])
def jot:XF:=⟨[0,1],jjj,[(.t 4)]⟩
theorem jtw:jv γ 133=some jot:=by kernel_rfl
def jji:XC:=(Oq [Os 4] [Ix 5,OP 6,OE 7 170 5 6,OG 8 .geq 7 oB,Tw 8])
def jos:XF:=⟨[0,1],jji,[(.t 4)]⟩
theorem jtv:jv γ 134=some jos:=by kernel_rfl
def jjh:XC:=(Oq [IS 2 0,Os 3] [ON 4 2,oF 5 4,ON 6 1,oF 7 6,O3 8 5 7,oz 3 8])
def jor:XF:=⟨[0,1],jjh,[(.t 3)]⟩
theorem jtu:jv γ 135=some jor:=by kernel_rfl
def UK:XC:=(oX [IS 3 1,TB 4,o9 5 [oB,oH,oB,oB]] (ou [Ix 10,oD 11 2 3,oF 12 11,OE 13 133 10 12,oz 6 13] (Ic [oy 14 6,Tb 15 .geq 14] 15 (oX [Ix 16,Iu 17 16,ON 18 17,ON 19 18,oF 20 19,oy 21 6,Ig 22 7 20 21,o6 23 7 22,o9 7 [oH,oB,oH,oB,oB,oV,oB],o7 7 7 23] (.dops [Tu 24 6,IK 25 4 3,O5 26 25 25 3,IK 27 5 3,O5 28 27 27 3,IH (IA 29 (OY oB oB oH oB oB) [((0,1),IM 4),((1,1),24),((4,1),26),((5,1),28)]),IK 30 1 7,O5 31 30 30 3,IK 32 2 7,O5 33 32 32 9,IK 34 3 7,O5 35 34 34 2,IK 36 4 7,O5 37 36 36 2,IH (IA 38 [oB,oH,oB,oB] [((0,1),31),((1,1),33),((2,1),35),((3,1),37)]),TC 6 4 29 [(1,2),(3,2),(5,9),(7,3)],TC 4 5 38 []]) .ret))) (IX [Ix 40,oD 41 2 3,oF 42 41,OE 43 193 40 42,oy 39 43,O0 44 39,O1 45 39,oz 8 44,oz 9 45] (Or [oy 46 9,Tb 47 .lss 46] 47 [oD 48 4 3,oF 49 48,oD 50 5 3,oF 51 50,Ie 52 130 [IM 161,49,51]]) [oy 53 9,oD 54 4 3,oF 55 54,oD 56 5 3,oF 57 56,IA 58 (OY oB oB oH oB oB) [((0,1),OT),((1,1),53),((4,1),55),((5,1),57)],oy 59 8,oy 60 9,oy 61 9,IA 62 [oB,oH,oB,oB] [((0,1),IM 3),((1,1),59),((2,1),60),((3,1),61)],o7 6 4 58,o7 4 5 62]))
def jed:XF:=⟨[0,1],UK,[(.cA 4 6),(.cA 5 4)]⟩
theorem jjs:jv γ 174=some jed:=by kernel_rfl
def ji2:XC:=(IX [IJ 2,IJ 3] (ou [Tw 0] (.block 0 (.seq (OQ (OA 6 4 5) 5 6 5 (OQ (OA 7 4 14) 5 7 5 (OQ (OA 8 4 15) 5 8 5 (.ops (IY (OA 9 4 16) 5 9))))) (Tl 5 [Ol 2 1,Ol 3 1] (.seq (OQ (OA 11 4 19) 10 11 10 (OQ (OA 12 4 20) 10 12 10 (OQ (OA 13 4 21) 10 13 10 (.ops (IY (OA 14 4 22) 10 14))))) (Tl 10 [Ol 2 1,Ol 3 2] (.seq (OQ (OA 16 4 17) 15 16 15 (.ops (IY (OA 17 4 18) 15 17))) (Tl 15 [IJ 2,Ol 3 2] .skip)))))))) [Ol 2 2,Ol 3 2])
def joc:XF:=⟨[0],ji2,[(.t 2),(.t 3)]⟩
theorem jtf:jv γ 175=some joc:=by kernel_rfl
def ji1:XC:=(Oq [Tv] [Ix 3,Ij 4 .geq 3 7,Tc 5,I5 6 5 0,Iq 7 5 (o8 .leq 6 13),Ts 8 5 7,oy 9 8,Ok 10 9 0,Td 11 9 .geq 10 23,Ok 12 9 11,I5 13 12 0,Iq 14 12 (o8 .leq 13 26),Ip 15 9 (.pick 12 14 Oj),Iy 16 9 I7 15,O4 16])
def job:XF:=⟨[0],ji1,[(.t 2)]⟩
theorem jte:jv γ 176=some job:=by kernel_rfl
def ji0:XC:=(O7 [IJ 4,IJ 5] [OP 8,Ig 9 4 8 Ov,o6 10 4 9,o9 6 [oB,oH,oB,oB],o7 4 6 10] (IX [OP 11,OP 12,IR 13 12,Ij 14 .sub 13 1,Ig 15 4 11 14,o6 16 4 15,o9 7 [oB,oH,oB,oB],o7 4 7 16] (ou [oz 17 0] (.block 0 (TM 19 17 5 18 19 18 [oD 20 2 6,oF 21 20,ol 22 (.un .neg 21),Tf 23 6,oF 24 23,ol 25 (.un .neg 24),TI 26 2 oB [((0,1),22),((1,1),25)],Ou 27 194 26,O0 28 27,O1 29 27,Tw 28,oz 5 29] (TM 31 17 15 30 31 30 [oD 32 2 6,oF 33 32,oD 34 2 7,oF 35 34,IU 36 .add 33 35,Tf 37 6,oF 38 37,Tf 39 7,oF 40 39,IU 41 .add 38 40,TI 42 2 oB [((0,1),36),((1,1),41)],Ou 43 194 42,O0 44 43,O1 45 43,Tw 44,oz 5 45] (ID (IY (OA 47 17 16) 46 47) 46 [oD 48 2 6,oF 49 48,Tf 50 7,oF 51 50,IU 52 .sub 49 51,Tf 53 6,oF 54 53,oD 55 2 7,oF 56 55,IU 57 .sub 54 56,TI 58 2 oB [((0,1),52),((1,1),57)],Ou 59 194 58,O0 60 59,O1 61 59,Tw 60,oz 5 61]))))) [oD 62 2 6,oF 63 62,oD 64 2 7,oF 65 64,IU 66 .mul 63 65,oD 67 2 6,oF 68 67,Tf 69 7,oF 70 69,IU 71 .mul 68 70,Tf 72 6,oF 73 72,oD 74 2 7,oF 75 74,IU 76 .mul 73 75,Tf 77 6,oF 78 77,Tf 79 7,oF 80 79,IU 81 .mul 78 80,TI 82 4 oB [((0,1),66),((1,1),71),((2,1),76),((3,1),81)],Ou 83 194 82,O0 84 83,O1 85 83,Tw 84,oz 5 85]))
def joa:XF:=⟨[0,1],ji0,[(.t 4),(.t 5)]⟩
theorem jtd:jv γ 177=some joa:=by kernel_rfl
def jiZ:XC:=(IX [IJ 2] (ID [oz 3 0] 3 [Ol 2 1]) [IJ 2])
def jn9:XF:=⟨[0],jiZ,[(.t 2)]⟩
theorem jtc:jv γ 167=some jn9:=by kernel_rfl
def jiY:XC:=(Tq [IJ 4] [Ix 6,IQ 7 6,IJ 8] 0 9 8 7 9 0 1 (OU 10 8 5 10) (ID [OP 11,Ix 12,oy 13 5,Ig 14 7 12 13,o6 15 7 14,oE 16 true none 11 [15]] 16 (OU 17 5 4 17)) 18 8 1 8 18 [Ol 4 (-(0+1))])
def jn8:XF:=⟨[0,1],jiY,[(.t 4)]⟩
theorem jtb:jv γ 168=some jn8:=by kernel_rfl
def jiX:XC:=(Oq [IS 2 0,Os 3] [ON 4 2,oF 5 4,oF 6 1,O3 7 5 6,oz 3 7])
def jn7:XF:=⟨[0,1],jiX,[(.t 3)]⟩
theorem jta:jv γ 169=some jn7:=by kernel_rfl
def jec:XC:=(Tq [IJ 4] [Ix 6,IQ 7 6,IJ 8] 0 9 8 7 9 0 1 (OU 10 8 5 10) (ID [OP 11,Ix 12,oy 13 5,Ig 14 9 12 13,o6 15 9 14,oE 16 true none 11 [15]] 16 (OU 17 5 4 17)) 18 8 1 8 18 [Ol 4 (-(0+1))])
def jn6:XF:=⟨[0,1],jec,[(.t 4)]⟩
theorem js9:jv γ 170=some jn6:=by kernel_rfl
def jiN:XC:=(Tq [oK 4 oH,IJ 5] [Ix 9,Iu 10 9,ON 11 10,Ta 12 11,Ot 13 12,IQ 14 13,IJ 15] 0 16 15 14 16 0 1 [Ig 17 4 13 15,o6 18 4 17,o9 7 [oH,.nils,oB,oB],o7 4 7 18] (ou [Ta 19 7,oF 20 19,OP 21,OE 22 200 20 21,oz 8 22] (ID [oy 23 8,Tb 24 .geq 23] 24 [ON 25 7,oF 26 25,oy 27 8,Tw 26,oz 5 27])) 28 15 1 15 28 [oK 4 oH,Ol 5 (-(0+1))])
def jnW:XF:=⟨[0,1],jiN,[(.t 4),(.t 5)]⟩
theorem jsZ:jv γ 193=some jnW:=by kernel_rfl
def jiM:XC:=(Oq [IJ 2,IJ 3] [Ix 4,Ou 5 147 4,Ix 6,Ou 7 148 6,O4 5,oz 3 7])
def jnV:XF:=⟨[0],jiM,[(.t 2),(.t 3)]⟩
theorem jsY:jv γ 194=some jnV:=by kernel_rfl
def jiI:XC:=(oX [IJ 2] (Or [Ix 5,IR 6 5,O6 7 .lss 6 1] 7 [ol 8 (.iface 9 (oY [115,108,105,99,101,115,46,77,105,110,58,32,101,109,112,116,121,32,108,105,115,116])),o5 (.pan 8)]) (IX [Ix 9,TJ 10 9 Ov,oF 11 10,oz 3 11] (IV [Ol 4 1] 0 (.seq (oL [Tc 12,Ix 13,IR 14 13,I3 15 12 14] 15 .skip (.exit 0)) (II 1 (.ops [oy 18 3,Ix 19,Tc 20,TJ 21 19 20,oF 22 21,ol 23 (.bi .min #[2,2] [18,22]),oz 3 23]) [Tc 16,IP 17 16 1,Tw 17]))) (OU 24 3 2 24)))
def jnR:XF:=⟨[0],jiI,[(.t 2)]⟩
theorem jsU:jv γ 147=some jnR:=by kernel_rfl
def jiH:XC:=(oX [IJ 2] (Or [Ix 5,IR 6 5,O6 7 .lss 6 1] 7 [ol 8 (.iface 9 (oY [115,108,105,99,101,115,46,77,97,120,58,32,101,109,112,116,121,32,108,105,115,116])),o5 (.pan 8)]) (IX [Ix 9,TJ 10 9 Ov,oF 11 10,oz 3 11] (IV [Ol 4 1] 0 (.seq (oL [Tc 12,Ix 13,IR 14 13,I3 15 12 14] 15 .skip (.exit 0)) (II 1 (.ops [oy 18 3,Ix 19,Tc 20,TJ 21 19 20,oF 22 21,ol 23 (.bi .max #[2,2] [18,22]),oz 3 23]) [Tc 16,IP 17 16 1,Tw 17]))) (OU 24 3 2 24)))
def jnQ:XF:=⟨[0],jiH,[(.t 2)]⟩
theorem jsT:jv γ 148=some jnQ:=by kernel_rfl
theorem joy:Kl γ 91=some gh:=by kernel_rfl
end Go.Sy
end
noncomputable section
namespace Go.Sy
open Go.Ev Go.RowKit
theorem jmM {v:AV}{h:T AO}(hv:pa v=true):lend h v=some v:=by
 have key:∀ v:AV,pa v=true->(fz 9 h v).map (·.1)=some v:=λv hv=>by rw[jaa (d:=7) hv];rfl
 cases v<;>first|exact key _ hv|(cases hv;done)|skip
 case fn f caps=>
  cases caps with
  |nil=>rfl
  |cons c l=>cases hv
theorem JB {h:T AO}:JO h []=some []:=rfl
theorem qr {h:T AO}{v u:AV}{l r:List AV}(h1:lend h v=some u)(h2:JO h l=some r):JO h (v :: l)=some (u :: r):=by
 simp only[JO,h1,h2]
theorem yb {h:T AO}{v:AV}{l r:List AV}(h1:pa v=true)(h2:JO h l=some r):JO h (v :: l)=some (v :: r):=qr (jmM h1) h2
theorem GR {h:T AO}:∀ {l:List AV},l.all Go.Sy.pa=true->JO h l=some l
 |[],_=>rfl
 |v :: l,hp=>by
  simp only[Qaz,χ] at hp;exact yb hp.1 (GR hp.2)
theorem Up {s:St}{d b n m z:Nat}{x:Bool}{cs:List AV}(C:Cl s b cs)(hl:n * z=cs.length)(hp:cs.all pc=true):fz (d+2) s.h (.slice b 0 n m z x)=some (.lst n cs,[b]):=jbB (k:=0) C hl hp
theorem Z9 {s:St}{b n m z:Nat}{x:Bool}{cs:List AV}(C:Cl s b cs)(hl:n * z=cs.length)(hp:cs.all pc=true):lend s.h (.slice b 0 n m z x)=some (.lst n cs):=by
 show(fz 9 s.h _).map (·.1)=_;rw[Up (d:=7) C hl hp];rfl
def Lr (s:St)(v:AV)(n:Nat)(cs:List AV):Prop:=v=.lst n cs\/(v=.nils/\n=0/\cs=[])\/∃ b m z x,v=.slice b 0 n m z x/\n * z=cs.length/\Cl s b cs
theorem Lv.lr {lo hi n z:Nat}{s:St}{v:AV}{cs:List AV}(h:Lv lo hi s v n cs z):Lr s v n cs:=by
 rcases h with ⟨rfl,rfl,rfl⟩|⟨b,rfl,h2,h3,h4,h5,h6⟩
 ·exact .inr (.inl ⟨rfl,rfl,rfl⟩)
 ·exact .inr (.inr ⟨b,n,z,false,rfl,h3.symm,h4⟩)
theorem Lr.fz {s:St}{v:AV}{n:Nat}{cs:List AV}{d:Nat}(h:Lr s v n cs)(hp:cs.all pc=true):∃ ks,fz (d+2) s.h v=some (.lst n cs,ks):=by
 rcases h with rfl|⟨rfl,rfl,rfl⟩|⟨b,m,z,x,rfl,h1,h2⟩
 ·exact⟨[],rfl⟩
 ·exact⟨[],rfl⟩
 ·exact⟨[b],Up h2 h1 hp⟩
theorem Lr.lend {s:St}{v:AV}{n:Nat}{cs:List AV}(h:Lr s v n cs)(hp:cs.all pc=true):lend s.h v=some (.lst n cs):=by
 have key:(Go.Ev.fz 9 s.h v).map (·.1)=some (.lst n cs):=by
  obtain⟨ks,e⟩:=h.fz (d:=7) hp;rw[e];rfl
 rcases h with rfl|⟨rfl,rfl,rfl⟩|⟨b,m,z,x,rfl,h1,h2⟩<;>exact key
theorem jg4 {s:St}{l r:List AV}(h:∃ ks,fzs (fz 8 s.h) l=some (r,ks)):lend s.h (.agg l)=some (.agg r):=by
 obtain⟨ks,e⟩:=h;show(fz 9 s.h (.agg l)).map (·.1)=_;show((fzs (fz 8 s.h) l).map λp=>(AV.agg p.1,p.2)).map (·.1)=_;rw[e];rfl
theorem jeV {f:AV->Option (AV×List Nat)}{v u:AV}{l r:List AV}(h1:∃ ks,f v=some (u,ks))(h2:∃ ks,fzs f l=some (r,ks)):∃ ks,fzs f (v :: l)=some (u :: r,ks):=by
 obtain⟨k1,e1⟩:=h1;obtain⟨k2,e2⟩:=h2;exact⟨k1 ++ k2,by simp only[fzs,e1,e2]⟩
theorem jr7 {f:AV->Option (AV×List Nat)}:∃ ks,fzs f []=some ([],ks):=⟨[],rfl⟩
theorem QR {s:St}{b o:Nat}{cs r:List AV}(C:Cl s b cs)(h:Xg (fz 9 s.h) cs=r):lend s.h (.ptr b o)=some (.lptr r o):=by
 obtain⟨n,zl,z,ct,hrow,hn,hcs⟩:=C.rw_.len;show Zm s.h (.ptr b o)=_;unfold Zm;dsimp only;rw[hrow];dsimp only;rw[hn,h]
theorem yw {f:AV->Option (AV×List Nat)}{v u:AV}{l r:List AV}(h1:∃ ks,f v=some (u,ks))(hc:u.cell=true)(h2:Xg f l=r):Xg f (v :: l)=u :: r:=by
 obtain⟨ks,e⟩:=h1;simp only[Xg,e,hc,cond_true,h2]
theorem jhr {h:T AO}(d r:Nat)(l:List AV):Xg (fz (d+1) h) (.map r :: l)=[]:=rfl
theorem wM {f:AV->Option (AV×List Nat)}:Xg f []=[]:=rfl
theorem Yz {h:T AO}{v:AV}(d:Nat)(hv:pc v=true):∃ ks,fz (d+1) h v=some (v,ks):=⟨[],H9 hv d _⟩
section
variable {P:Program} {base:Bs}
theorem PL.xb {f:FuncId}{aZ aZ':List AV}{o:Oc}(h:PL P base f aZ o){st:St}(hf:JO st.h aZ'=some aZ)(hb:∀ st,base.run f aZ' st=.no)(K Kp:AV->St->Prop):XB P base f aZ' st K Kp=XT o K Kp st:=h.cx hf hb K Kp
theorem PL.pa {f:FuncId}{aZ:List AV}{o:Oc}(h:PL P base f aZ o)(hp:aZ.all Go.Sy.pa=true)(hb:∀ st,base.run f aZ st=.no)(st:St)(K Kp:AV->St->Prop):XB P base f aZ st K Kp=XT o K Kp st:=by
 exact h.xb (GR hp) hb K Kp
theorem qB {f:FuncId}{F:XF}(hl:jv P f=some F)(hnd:F.body.nd=true)(hm:base.pur f=5){aZ:List AV}{o:Oc}(ho:o.flat=true)
  (h:xC P base F.body (jh F.ps aZ) st0 (QZ P F.res (Qm G0 o)) λv _ s=>Qg G0 o v s.bare):PL P base f aZ o:=
 PL.of hm ho (XW hl hnd h)
def jpJ (r:ER):ER:=match r with
 |.ok v s=>(match fz 9 s.h v with|some (v',ks)=>.ok v' (kills ks s)|none=>.no)
 |r=>r
theorem BX.ice {f:FuncId}{args:List AV}{st:St}{K Kp:AV->St->Prop}(hm:base.pur f=2)(hb:base.run f args st=.no)(h:BX P base f args st (λv s=>∃ u ks,fz 9 s.h v=some (u,ks)/\K u (kills ks s)) Kp):CX P base f args st K Kp:=by
 obtain⟨r,⟨N,D,h1⟩,h2⟩:=h;have e:∀ n,N<=n->∀ d,D+1<=d->evC P base n d f args st=jpJ r:=λn hn d hd=>by
  obtain⟨d',rfl⟩:∃ d',d=d'+1:=⟨d - 1,om⟩;have h3:=h1 n hn d' om;simp only[evC,hb,hm,vN,jeS,h3];rfl
 refine⟨_,⟨N,D+1,e⟩,?_⟩;cases r with
 |no=>exact h2.elim
 |pn v s=>exact h2
 |ok v s=>
  obtain⟨u,ks,e1,e2⟩:=(h2:∃ u ks,fz 9 s.h v=some (u,ks)/\K u (kills ks s));unfold jpJ;dsimp only;rw[e1];exact e2
theorem UZ {f:FuncId}{F:XF}(hl:jv P f=some F)(hnd:F.body.nd=true){args:List AV}{st:St}(hm:base.pur f=2)(hb:base.run f args st=.no){K Kp:AV->St->Prop}
  (h:xC P base F.body (jh F.ps args) st.bare (QZ P F.res λv s=>∃ u ks,fz 9 s.h v=some (u,ks)/\K u (back st (kills ks s))) λv _ s=>Kp v (bk st s)):XB P base f args st K Kp:=
 XB.of (BX.ice hm hb (XW hl hnd h))
end
structure Keep (p:Nat)(s s':St):Prop where
 nx:s.nx<=s'.nx
 fr:s'.fr=s.fr
 get:∀ b,b<s.nx->b≠p->jx s'.h b=jx s.h b
section
variable {p b:Nat} {s s' t:St} {cs:List AV}
theorem Keep.refl:Keep p s s:=⟨μ _,rfl,λ_ _ _=>rfl⟩
theorem Keep.trans (h:Keep p s t)(k:Keep p t s'):Keep p s s':=⟨ψ h.nx k.nx,k.fr.trans h.fr,λb hb hp=>(k.get b (Qat hb h.nx) hp).trans (h.get b hb hp)⟩
theorem Keep.nw (h:Keep p s t)(ds:List AV):Keep p s (nw t ds):=⟨Qcf h.nx,h.fr,λb hb hp=>(yn (by have:=h.nx;omega)).trans (h.get b hb hp)⟩
theorem Keep.wr (h:Keep p s t){c:Nat}(hc:c=p\/s.nx<=c)(o:Nat)(vs:List AV):Keep p s (wr t c o vs):=⟨h.nx,h.fr,λb hb hp=>(zI om).trans (h.get b hb hp)⟩
theorem Keep.kl (h:Keep p s t){c:Nat}(hc:s.nx<=c):Keep p s (kl c t):=⟨h.nx,h.fr,λb hb hp=>(vg om).trans (h.get b hb hp)⟩
theorem Keep.kills (h:Keep p s t){ks:List Nat}(hc:∀ c∈ks,s.nx<=c):Keep p s (kills ks t):=⟨h.nx,h.fr,λb hb hp=>by
 show jx (ks.foldr _ t.h) b=_;rw[QU,if_neg (λhm=>by have:=hc b hm;omega)];exact h.get b hb hp⟩
theorem Keep.aps {lo hi n z:Nat}{v:AV}{ds:List AV}{u:St}(h:Keep p s t)(V:Lv lo hi u v n ds z)(hlo:s.nx<=lo)(news:List AV):Keep p s (aps v t news):=⟨by rw[jk];exact Qcf h.nx,by rw[YA];exact h.fr,λb hb hp=>(V.get t news b om (by have:=h.nx;omega)).trans (h.get b hb hp)⟩
theorem Keep.cl (h:Keep p s t)(C:Cl s b cs)(hb:b≠p):Cl t b cs:=C.keep h.nx (h.get b C.lt hb)
theorem Keep.lv {lo hi n z:Nat}{v:AV}(h:Keep p s t)(V:Lv lo hi s v n cs z)(hb:p<lo\/hi<=p):Lv lo hi t v n cs z:=V.imp id λ⟨c,h1,h2,h3,h4,h5,h6⟩=>⟨c,h1,h2,h3,h.cl h4 om,h5,h6⟩
theorem Keep.lr {v:AV}{n:Nat}(h:Keep p s t)(V:Lr s v n cs)(hb:∀ b m z x,v=.slice b 0 n m z x->b≠p):Lr t v n cs:=by
 rcases V with e|e|⟨b,m,z,x,e,h1,h2⟩
 ·exact .inl e
 ·exact .inr (.inl e)
 ·exact .inr (.inr ⟨b,m,z,x,e,h1,h.cl h2 (hb b m z x e)⟩)
theorem Keep.back (h:Keep p s t):Keep p s (back s t):=⟨h.nx,rfl,h.get⟩
theorem Keep.bare (h:Keep p s.bare t)(u:St):Keep p s (Go.Ev.back s t):=⟨h.nx,rfl,h.get⟩
end
end Go.Sy
end
noncomputable section
set_option maxRecDepth 100000
namespace Go.Sy
open Go.Ev Go.Proofs
variable {base:Bs}
structure VarT where
 name:List Nat
 kind:Int
 enum:List Nat
 lo:Int
 hi:Int
 beg:Bool
 first:Int
def vaE (v:VarT):List AV:=[.str v.name,.int .i64 v.kind,.str v.enum,.int .i64 v.lo,.int .i64 v.hi,.bool v.beg,.int .i64 v.first]
structure SetT where
 var:Int
 to:Ex
def seE (s:SetT):List AV:=.int .i64 s.var :: eE s.to
structure MoveT where
 when:Ex
 acts:List SetT
def moE (m:MoveT):List AV:=eE m.when ++ [.lst m.acts.length (fl seE m.acts)]
structure ModT where
 vars:List VarT
 enums:List EnumT
 moves:List MoveT
def mdE (m:ModT):List AV:=[.lst m.vars.length (fl vaE m.vars),.lst m.enums.length (fl enE m.enums),.lst m.moves.length (fl moE m.moves)]
structure MtT where
 kind:Int
 enum:List Nat
 lo:Int
 hi:Int
def mtE (m:MtT):List AV:=[.int .i64 m.kind,.str m.enum,.int .i64 m.lo,.int .i64 m.hi]
theorem Yk (v:VarT):vaE v=[.str v.name,.int .i64 v.kind,.str v.enum,.int .i64 v.lo,.int .i64 v.hi,.bool v.beg,.int .i64 v.first]:=rfl
theorem Xx (v:VarT):(vaE v).length=7:=nr (by rw[Yk];rfl)
theorem Hy (v:VarT):lall AV.cell (vaE v)=true:=nr (by rw[Yk];rfl)
theorem Yl (v:VarT):(vaE v).all pc=true:=nr (by rw[Yk];rfl)
theorem jp:type_of% (a4 @Xx (λx=>gq (Yk x)) (λx=>gd (Yk x)) (aI @Hy (frE Xx))):=(a4 @Xx (λx=>gq (Yk x)) (λx=>gd (Yk x)) (aI @Hy (frE Xx)))
theorem Xy:type_of% (aI @Xx (aI @Hy (λx=>gq (Yk x)))):=(aI @Xx (aI @Hy (λx=>gq (Yk x))))
theorem ZX (s:SetT):seE s=[.int .i64 s.var,.int .i64 s.to.op,.int .i64 s.to.num,.str s.to.name,.lst s.to.kids.length (fl eE s.to.kids),.int .i64 s.to.line,.int .i64 s.to.col]:=(by unfold seE;rw[qt])
theorem Wa (s:SetT):(seE s).length=7:=nr (by rw[ZX];rfl)
theorem HI (s:SetT):lall AV.cell (seE s)=true:=nr (by rw[ZX];rfl)
theorem ZY (s:SetT):(seE s).all pc=true:=nr (by rw[ZX];rfl)
theorem jq:type_of% (a4 @Wa (λx=>gq (ZX x)) (λx=>gd (ZX x)) (aI @HI (frE Wa))):=(a4 @Wa (λx=>gq (ZX x)) (λx=>gd (ZX x)) (aI @HI (frE Wa)))
theorem XA:type_of% (aI @Wa (aI @HI (λx=>gq (ZX x)))):=(aI @Wa (aI @HI (λx=>gq (ZX x))))
theorem Z5 (m:MoveT):moE m=[.int .i64 m.when.op,.int .i64 m.when.num,.str m.when.name,.lst m.when.kids.length (fl eE m.when.kids),.int .i64 m.when.line,.int .i64 m.when.col,.lst m.acts.length (fl seE m.acts)]:=(by unfold moE;rw[qt];rfl)
theorem V9 (m:MoveT):(moE m).length=7:=nr (by rw[Z5];rfl)
theorem HV (m:MoveT):lall AV.cell (moE m)=true:=nr (by rw[Z5];rfl)
theorem Z6 (m:MoveT):(moE m).all pc=true:=nr (by rw[Z5];rfl)
theorem jt:type_of% (a4 @V9 (λx=>gq (Z5 x)) (λx=>gd (Z5 x)) (aI @HV (frE V9))):=(a4 @V9 (λx=>gq (Z5 x)) (λx=>gd (Z5 x)) (aI @HV (frE V9)))
theorem XI:type_of% (aI @V9 (aI @HV (λx=>gq (Z5 x)))):=(aI @V9 (aI @HV (λx=>gq (Z5 x))))
theorem Zl (m:ModT):mdE m=[.lst m.vars.length (fl vaE m.vars),.lst m.enums.length (fl enE m.enums),.lst m.moves.length (fl moE m.moves)]:=rfl
theorem Ua (m:ModT):(mdE m).length=3:=nr (by rw[Zl];rfl)
theorem HX (m:ModT):lall AV.cell (mdE m)=true:=nr (by rw[Zl];rfl)
theorem QD (m:ModT):(mdE m).all pc=true:=nr (by rw[Zl];rfl)
theorem jlE (m:ModT):(mdE m).all eqs=true:=nr (by rw[Zl];rfl)
theorem ju:type_of% (a4 @Ua (λx=>gq (Zl x)) (λx=>gd (Zl x)) (aI @HX (frE Ua))):=(a4 @Ua (λx=>gq (Zl x)) (λx=>gd (Zl x)) (aI @HX (frE Ua)))
theorem XJ:type_of% (aI @Ua (aI @HX (λx=>gq (Zl x)))):=(aI @Ua (aI @HX (λx=>gq (Zl x))))
theorem Zj (m:MtT):mtE m=[.int .i64 m.kind,.str m.enum,.int .i64 m.lo,.int .i64 m.hi]:=rfl
theorem XE (m:MtT):(mtE m).length=4:=nr (by rw[Zj];rfl)
theorem jlB (m:MtT)(k:Nat):(mtE m).getD k .bad=([.int .i64 m.kind,.str m.enum,.int .i64 m.lo,.int .i64 m.hi]:List AV).getD k .bad:=nr (by rw[Zj])
theorem HU (m:MtT):lall AV.cell (mtE m)=true:=nr (by rw[Zj];rfl)
theorem Zk (m:MtT):(mtE m).all pc=true:=nr (by rw[Zj];rfl)
theorem jlC {st:St}{K:AV->St->Prop}{xs:List MtT}{i:Nat}(h:i<xs.length):ji (Qz 4 (.lptr (fl mtE xs) (i * 4)) st) K=K (.agg (mtE xs[i])) st:=jen XE h
theorem jr:type_of% (a4 @XE (λx=>gq (Zj x)) (λx=>gd (Zj x)) (aI @HU (frE XE))):=(a4 @XE (λx=>gq (Zj x)) (λx=>gd (Zj x)) (aI @HU (frE XE)))
theorem XG:type_of% (aI @XE (aI @HU (λx=>gq (Zj x)))):=(aI @XE (aI @HU (λx=>gq (Zj x))))
theorem dzG {p:Prop}(h:p:=by first|assumption|decide|omega|(simp only[qN,zb,yZ,za,qZ,y7,yY,Xy,XA,XI,XJ,XG,rzN,ν,φ];first|done|omega)|(apply JQ<;>first|omega|((simp(disch:=first|assumption|omega|(simp only[qN,zb,yZ,za,qZ,y7,yY,Xy,XA,XI,XJ,XG,rzN,ν,φ];first|done|omega)) only[rzL,ν,φ,Qag,δ,qN,zb,yZ,za,qZ,y7,yY,Xy,XA,XI,XJ,XG ])<;>first|done|omega))|(simp(disch:=first|assumption|omega|(simp only[qN,zb,yZ,za,qZ,y7,yY,Xy,XA,XI,XJ,XG,rzN,ν,φ];first|done|omega)) only[qN,zb,yZ,za,qZ,y7,yY,Xy,XA,XI,XJ,XG,rzG,θ,κ,ε,QaG,ν,φ,Qad,Qaj];first|done|omega|decide)):p:=h
theorem cyG {p:Prop}(h:p:=by apply JQ<;>first|omega|((simp(disch:=first|assumption|omega|(simp only[qN,zb,yZ,za,qZ,y7,yY,Xy,XA,XI,XJ,XG,rzN,ν,φ];first|done|omega)) only[rzL,ν,φ,Qag,δ,qN,zb,yZ,za,qZ,y7,yY,Xy,XA,XI,XJ,XG])<;>first|done|rfl|omega|(simp;done)|(simp;omega))):p:=h
theorem qk {p:Prop}(h:p:=by first|assumption|decide|omega|(simp only[qN,zb,yZ,za,qZ,y7,yY,Xy,XA,XI,XJ,XG,zz,rzN,ν,φ];first|done|omega)|(apply JQ<;>first|omega|((simp(disch:=first|assumption|omega|(simp only[qN,zb,yZ,za,qZ,y7,yY,Xy,XA,XI,XJ,XG,zz,rzN,ν,φ];first|done|omega)) only[rzL,ν,φ,Qag,δ,qN,zb,yZ,za,qZ,y7,yY,Xy,XA,XI,XJ,XG,zz ])<;>first|done|omega))|(simp(disch:=first|assumption|omega|(simp only[qN,zb,yZ,za,qZ,y7,yY,Xy,XA,XI,XJ,XG,zz,rzN,ν,φ];first|done|omega)) only[qN,zb,yZ,za,qZ,y7,yY,Xy,XA,XI,XJ,XG,zz,rzG,θ,κ,ε,QaG,ν,φ,Qad,Qaj];first|done|omega|decide)):p:=h
def kf (c l k:Int):AV:=.iface 71 (.agg [.int .i64 c,.int .i64 l,.int .i64 k])
theorem r8:type_of%(a8 @jd @jm @jl @jc @jp @jq @jt (aI @ju (aI @jr @rzZ))):=a8 @jd @jm @jl @jc @jp @jq @jt (aI @ju (aI @jr @rzZ))
theorem zK (hb:NB base)(c l k:Int):Ret base 130 [.int .i64 c,.int .i64 l,.int .i64 k] (.pn (kf c l k)):=by
 refine hb.ret ?_ rfl rfl;refine jF x98 (by rfl) (hb.pur 130 1 dc) ?_;simp only[y98,jh,ζ,η,θ,κ];rw[(by unfold z98;simp only[qq];rfl:z98=_)];repeat'(first|apply jb<;>intro _|simp(disch:=first|exact dzG|fail) only[r8,δ,ε])
 exact FzD.iface (FzD.agg (.pc rfl))
theorem jl8 (hb:NB base)(v:VarT)(s:List Nat):Tot base 169 [.agg (vaE v),.lptr [.str s] 0] (.bool (decide (v.name=s))):=by
 refine hb.tot ?_ (by first|rfl|simp[pa,pc,q9,QJ,JE,Jj,Yl,ZY,Z6,QD,Zk]) rfl;refine jF jta (by rfl) (hb.pur 169 1 dc) ?_;simp only[jn7,jh,ζ,η,θ,κ];rw[(by unfold jiX;simp only[qq];rfl:jiX=_)];repeat'(first|apply jb<;>intro _|simp(disch:=first|exact dzG|fail) only[qU,r8,δ,ε])
 exact G0.v rfl rfl
theorem jkp (hb:NB base)(e:EnumT)(d:DeclT):Tot base 129 [.agg (enE e),.lptr (qo d) 0] (.bool (decide (e.name=d.ty))):=by
 refine hb.tot ?_ (by first|rfl|simp[pa,pc,q9,QJ,JE,Jj,Yl,ZY,Z6,QD,Zk]) rfl;refine jF jtz (by rfl) (hb.pur 129 1 dc) ?_;simp only[jow,jh,ζ,η,θ,κ];rw[(by unfold jjm;simp only[qq];rfl:jjm=_)];repeat'(first|apply jb<;>intro _|simp(disch:=first|exact dzG|fail) only[qU,r8,δ,ε])
 exact G0.v rfl rfl
theorem jqB (hb:NB base)(b a:AsT):Tot base 135 [.agg (asE b),.lptr (asE a) 0] (.bool (decide (b.name=a.name))):=by
 refine hb.tot ?_ (by first|rfl|simp[pa,pc,q9,QJ,JE,Jj,Yl,ZY,Z6,QD,Zk]) rfl;refine jF jtu (by rfl) (hb.pur 135 1 dc) ?_;simp only[jor,jh,ζ,η,θ,κ];rw[(by unfold jjh;simp only[qq];rfl:jjh=_)];repeat'(first|apply jb<;>intro _|simp(disch:=first|exact dzG|fail) only[qU,r8,δ,ε])
 exact G0.v rfl rfl
theorem jhx (hb:NB base)(xs:List VarT)(hl:xs.length<=BIG)(nm:List Nat):PL γ base 168 [.lst xs.length (fl vaE xs),.fn 169 [.lptr [.str nm] 0]] (.ok (.int .i64 (fi (λx=>decide (x.name=nm)) xs))):=by
 refine qB jtb (by rfl) (hb.pur 168 5 dc) rfl ?_;simp only[jn8,jh,ζ,η,θ,κ];rw[(by unfold jiY;simp only[qq];rfl:jiY=_)];unfold BIG at hl;repeat'(first|apply jb<;>intro _|simp(disch:=first|exact dzG|fail) only[r8,δ,ε])
 refine jZ xs.length (λk L s=>(∀ j (hj:j<xs.length),j<k->(λx=>decide (x.name=nm)) xs[j]=false)/\Has L 0 (.lst xs.length (fl vaE xs))/\Has L 1 (.fn 169 [.lptr [.str nm] 0])) ?_ (λk L s hk hI hi hn=>?_) (λL s hI=>?_)
 ·refine⟨λj _ hj=>absurd hj (QaJ _),?_⟩;simp(disch:=decide) only[h12]
 ·obtain⟨h0,i0,i1⟩:=hI;have e:=jl8 hb xs[k] nm;repeat'(first|apply jb<;>intro _|simp(disch:=first|exact dzG|fail) only[ja i0,ja i1,ja hi,ja hn,e,r8,δ,ε])
  ·rename_i h;exact G0.v (congrArg _ (WB hk (λj hj=>h0 j om hj) (by simpa using h)).symm) rfl
  ·rename_i h;refine⟨⟨λj hj hjk=>?_,?_⟩,?_⟩
   ·rcases Qar j k with h2|h2
    ·have:=h0 j hj h2;simpa using this
    ·have:j=k:=om
     subst this;simpa using h
   ·simp(disch:=decide) only[h12,i0,i1]
   ·simp(disch:=decide) only[h12,hi,hn]
 ·obtain⟨h0,i0,i1⟩:=hI;repeat'(first|apply jb<;>intro _|simp(disch:=first|exact dzG|fail) only[r8,δ,ε])
  exact G0.v (congrArg _ (Wz λj hj=>h0 j hj hj).symm) rfl
theorem je1 (hb:NB base)(xs:List EnumT)(hl:xs.length<=BIG)(d:DeclT):PL γ base 128 [.lst xs.length (fl enE xs),.fn 129 [.lptr (qo d) 0]] (.ok (.int .i64 (fi (λx=>decide (x.name=d.ty)) xs))):=by
 refine qB jtA (by rfl) (hb.pur 128 5 dc) rfl ?_;simp only[jox,jh,ζ,η,θ,κ];rw[(by unfold jjn;simp only[qq];rfl:jjn=_)];unfold BIG at hl;repeat'(first|apply jb<;>intro _|simp(disch:=first|exact dzG|fail) only[r8,δ,ε])
 refine jZ xs.length (λk L s=>(∀ j (hj:j<xs.length),j<k->(λx=>decide (x.name=d.ty)) xs[j]=false)/\Has L 0 (.lst xs.length (fl enE xs))/\Has L 1 (.fn 129 [.lptr (qo d) 0])) ?_ (λk L s hk hI hi hn=>?_) (λL s hI=>?_)
 ·refine⟨λj _ hj=>absurd hj (QaJ _),?_⟩;simp(disch:=decide) only[h12]
 ·obtain⟨h0,i0,i1⟩:=hI;have e:=jkp hb xs[k] d;repeat'(first|apply jb<;>intro _|simp(disch:=first|exact dzG|fail) only[ja i0,ja i1,ja hi,ja hn,e,r8,δ,ε])
  ·rename_i h;exact G0.v (congrArg _ (WB hk (λj hj=>h0 j om hj) (by simpa using h)).symm) rfl
  ·rename_i h;refine⟨⟨λj hj hjk=>?_,?_⟩,?_⟩
   ·rcases Qar j k with h2|h2
    ·have:=h0 j hj h2;simpa using this
    ·have:j=k:=om
     subst this;simpa using h
   ·simp(disch:=decide) only[h12,i0,i1]
   ·simp(disch:=decide) only[h12,hi,hn]
 ·obtain⟨h0,i0,i1⟩:=hI;repeat'(first|apply jb<;>intro _|simp(disch:=first|exact dzG|fail) only[r8,δ,ε])
  exact G0.v (congrArg _ (Wz λj hj=>h0 j hj hj).symm) rfl
theorem jki (hb:NB base)(xs:List AsT)(hl:xs.length<=BIG)(a:AsT):PL γ base 170 [.lst xs.length (fl asE xs),.fn 135 [.lptr (asE a) 0]] (.ok (.int .i64 (fi (λx=>decide (x.name=a.name)) xs))):=by
 refine qB js9 (by rfl) (hb.pur 170 5 dc) rfl ?_;simp only[jn6,jh,ζ,η,θ,κ];rw[(by unfold jec;simp only[qq];rfl:jec=_)];unfold BIG at hl;repeat'(first|apply jb<;>intro _|simp(disch:=first|exact dzG|fail) only[r8,δ,ε])
 refine jZ xs.length (λk L s=>(∀ j (hj:j<xs.length),j<k->(λx=>decide (x.name=a.name)) xs[j]=false)/\Has L 0 (.lst xs.length (fl asE xs))/\Has L 1 (.fn 135 [.lptr (asE a) 0])) ?_ (λk L s hk hI hi hn=>?_) (λL s hI=>?_)
 ·refine⟨λj _ hj=>absurd hj (QaJ _),?_⟩;simp(disch:=decide) only[h12]
 ·obtain⟨h0,i0,i1⟩:=hI;have e:=jqB hb xs[k] a;repeat'(first|apply jb<;>intro _|simp(disch:=first|exact dzG|fail) only[ja i0,ja i1,ja hi,ja hn,e,r8,δ,ε])
  ·rename_i h;exact G0.v (congrArg _ (WB hk (λj hj=>h0 j om hj) (by simpa using h)).symm) rfl
  ·rename_i h;refine⟨⟨λj hj hjk=>?_,?_⟩,?_⟩
   ·rcases Qar j k with h2|h2
    ·have:=h0 j hj h2;simpa using this
    ·have:j=k:=om
     subst this;simpa using h
   ·simp(disch:=decide) only[h12,i0,i1]
   ·simp(disch:=decide) only[h12,hi,hn]
 ·obtain⟨h0,i0,i1⟩:=hI;repeat'(first|apply jb<;>intro _|simp(disch:=first|exact dzG|fail) only[r8,δ,ε])
  exact G0.v (congrArg _ (Wz λj hj=>h0 j hj hj).symm) rfl
theorem jmS (hb:NB base)(xs:List AsT)(hl:xs.length<=BIG)(a:AsT):PL γ base 134 [.lst xs.length (fl asE xs),.fn 135 [.lptr (asE a) 0]] (.ok (.bool (decide (0<=fi (λx=>decide (x.name=a.name)) xs)))):=by
 refine qB jtv (by rfl) (hb.pur 134 5 dc) rfl ?_;simp only[jos,jh,ζ,η,θ,κ];rw[(by unfold jji;simp only[qq];rfl:jji=_)];have F:∀ (st:St) (K Kp:AV->St->Prop),XB γ base 170 [.lst xs.length (fl asE xs),.fn 135 [.lptr (asE a) 0]] st K Kp=_:=λst K Kp=>(jki hb xs hl a).xb (yb rfl (qr rfl rfl)) (λst=>hb.no 170 dc _ _) K Kp;repeat'(first|apply jb<;>intro _|simp(disch:=first|exact dzG|fail) only[F,r8,δ,ε])
 exact G0.v rfl rfl
def yy (op:Int):Int×Int:=if op=5\/op=14\/op=15\/op=16 then(1,1) else if op=19\/op=20\/op=21\/op=22 then(1,2) else if op=17\/op=18 then(0,2) else(2,2)
def u2 (op:Int):Bool:=(decide (7<=op) && decide (op<=13)) ||(decide (23<=op) && decide (op<=26))
theorem G0.tupi {s:St}{a b:Int}{u:AV}(h:u=.tup [.int .i64 a,.int .i64 b]):G0 u (.tup [.int .i64 a,.int .i64 b]) s:=by
 subst h;exact FzD.tup (.cons (.pc rfl) (.cons (.pc rfl) .nil))
theorem jl6 (hb:NB base)(op:Int):Tot base 175 [.int .i64 op] (.tup [.int .i64 (yy op).1,.int .i64 (yy op).2]):=by
 refine hb.tot ?_ rfl rfl;refine jF jtf (by rfl) (hb.pur 175 1 dc) ?_;simp only[joc,jh,ζ,η,θ,κ];rw[(by unfold ji2;simp only[qq];rfl:ji2=_)];repeat'(first|apply jb<;>intro _|simp(disch:=first|exact dzG|fail) only[r8,δ,ε])
 all_goals(refine G0.tupi ?_;unfold yy;simp_all)
theorem joV (hb:NB base)(op:Int):Tot base 176 [.int .i64 op] (.bool (u2 op)):=by
 refine hb.tot ?_ rfl rfl;refine jF jte (by rfl) (hb.pur 176 1 dc) ?_;simp only[job,jh,ζ,η,θ,κ];rw[(by unfold ji1;simp only[qq];rfl:ji1=_)];repeat'(first|apply jb<;>intro _|simp(disch:=first|exact dzG|fail) only[r8,δ,ε])
 all_goals(refine G0.v (congrArg AV.bool ?_) rfl;rw[Qay];simp only[u2,QaA,χ,decide_eq_true_eq,QaK,Qbu,QaI,decide_eq_false_iff_not,true_iff,false_iff,iff_true,iff_false,not_true_eq_false,not_false_eq_true,ne_eq,eq_self]<;>omega)
def Vc:List Int->Int
 |[]=>0
 |x :: xs=>xs.foldl min x
def Vd:List Int->Int
 |[]=>0
 |x :: xs=>xs.foldl max x
theorem jpy {l:List Int}{k:Nat}(h0:0<k)(h:k<l.length):Vc (l.take (k+1))=min (Vc (l.take k)) l[k]:=by
 match l,k,h0,h with
 |x :: xs,k+1,_,h=>
  have h':k<xs.length:=by simpa using h
  show(xs.take (k+1)).foldl min x=min ((xs.take k).foldl min x) xs[k];rw[zr h',QbR];rfl
theorem jpz {l:List Int}{k:Nat}(h0:0<k)(h:k<l.length):Vd (l.take (k+1))=max (Vd (l.take k)) l[k]:=by
 match l,k,h0,h with
 |x :: xs,k+1,_,h=>
  have h':k<xs.length:=by simpa using h
  show(xs.take (k+1)).foldl max x=max ((xs.take k).foldl max x) xs[k];rw[zr h',QbR];rfl
theorem Zt {S:List Int}{k:Nat}{st:St}{K:AV->St->Prop}(h:k<S.length):ji (XV (.lptr (S.map (AV.int .i64)) k) st) K=K (.int .i64 S[k]) st:=by
 rw[qU (by simpa using h)]
 congr 1
 simp[ω,h]
theorem jsm (hb:NB base)(l:List Int)(h0:0<l.length)(hl:l.length<=1000000):PX γ base 147 [.lst l.length (l.map (AV.int .i64))] (.ok (.int .i64 (Vc l))):=by
 have z:¬ ((l.length:Int)<1):=om
 have e1:Vc (l.take 1)=l[0]:=by match l,h0 with|x :: xs,_=>rfl
 refine jF jsU (by rfl) (hb.pur 147 1 dc) ?_;simp only[jnR,jh,ζ,η,θ,κ];rw[(by unfold jiI;simp only[qq];rfl:jiI=_)];repeat'(first|apply jb<;>intro _|simp(disch:=first|exact dzG|fail) only[z,Zt,r8,δ,ε])
 refine yz (λmm L s=>∃ k:Nat,1<=k/\k<=l.length/\mm=l.length - k/\Has L 0 (.lst l.length (l.map (AV.int .i64)))/\Has L 3 (.int .i64 (Vc (l.take k)))/\Has L 4 (.int .i64 (k:Int))) ?_ (l.length - 1) ?_
 ·rintro m L s ⟨k,hk1,hk,rfl,i0,i3,i4⟩;by_cases hlt:k<l.length
  ·have hlt':(k:Int)<(l.length:Int):=om
   have es:=jpy hk1 hlt;have e2:(((k+1:Nat):Int))=(k:Int)+1:=om
   repeat'(first|apply jb<;>intro _|simp(disch:=first|exact dzG|fail) only[ja i0,ja i3,ja i4,hlt',Zt,r8,δ,ε])
   refine⟨l.length - (k+1),om,k+1,om,om,rfl,?_⟩;rw[es];simp(disch:=decide) only[h12,i0,e2]
  ·have hlt':¬ (k:Int)<(l.length:Int):=om
   have hk':k=l.length:=om
   subst hk';rw[Qah] at i3;repeat'(first|apply jb<;>intro _|simp(disch:=first|exact dzG|fail) only[ja i0,ja i3,ja i4,hlt',r8,δ,ε])
   exact G0.v rfl rfl
 ·refine⟨1,om,om,rfl,?_⟩;rw[e1];simp(disch:=decide) only[h12]
theorem jsn (hb:NB base)(l:List Int)(h0:0<l.length)(hl:l.length<=1000000):PX γ base 148 [.lst l.length (l.map (AV.int .i64))] (.ok (.int .i64 (Vd l))):=by
 have z:¬ ((l.length:Int)<1):=om
 have e1:Vd (l.take 1)=l[0]:=by match l,h0 with|x :: xs,_=>rfl
 refine jF jsT (by rfl) (hb.pur 148 1 dc) ?_;simp only[jnQ,jh,ζ,η,θ,κ];rw[(by unfold jiH;simp only[qq];rfl:jiH=_)];repeat'(first|apply jb<;>intro _|simp(disch:=first|exact dzG|fail) only[z,Zt,r8,δ,ε])
 refine yz (λmm L s=>∃ k:Nat,1<=k/\k<=l.length/\mm=l.length - k/\Has L 0 (.lst l.length (l.map (AV.int .i64)))/\Has L 3 (.int .i64 (Vd (l.take k)))/\Has L 4 (.int .i64 (k:Int))) ?_ (l.length - 1) ?_
 ·rintro m L s ⟨k,hk1,hk,rfl,i0,i3,i4⟩;by_cases hlt:k<l.length
  ·have hlt':(k:Int)<(l.length:Int):=om
   have es:=jpz hk1 hlt;have e2:(((k+1:Nat):Int))=(k:Int)+1:=om
   repeat'(first|apply jb<;>intro _|simp(disch:=first|exact dzG|fail) only[ja i0,ja i3,ja i4,hlt',Zt,r8,δ,ε])
   refine⟨l.length - (k+1),om,k+1,om,om,rfl,?_⟩;rw[es];simp(disch:=decide) only[h12,i0,e2]
  ·have hlt':¬ (k:Int)<(l.length:Int):=om
   have hk':k=l.length:=om
   subst hk';rw[Qah] at i3;repeat'(first|apply jb<;>intro _|simp(disch:=first|exact dzG|fail) only[ja i0,ja i3,ja i4,hlt',r8,δ,ε])
   exact G0.v rfl rfl
 ·refine⟨1,om,om,rfl,?_⟩;rw[e1];simp(disch:=decide) only[h12]
theorem Uh:∀ l:List Int,(l.map (AV.int .i64)).all pc=true
 |[]=>rfl
 |x :: xs=>by rw[ζ,Qaz,Uh xs];rfl
theorem jqI (hb:NB base)(l:List Int)(h0:0<l.length)(hl:l.length<=1000000):PX γ base 194 [.lst l.length (l.map (AV.int .i64))] (.ok (.tup [.int .i64 (Vc l),.int .i64 (Vd l)])):=by
 have A:=hb.tot (jsm hb l h0 hl) rfl rfl;have B:=hb.tot (jsn hb l h0 hl) rfl rfl;refine jF jsY (by rfl) (hb.pur 194 1 dc) ?_;simp only[jnV,jh,ζ,η,θ,κ];rw[(by unfold jiM;simp only[qq];rfl:jiM=_)];repeat'(first|apply jb<;>intro _|simp(disch:=first|exact dzG|fail) only[A,B,r8,δ,ε])
 exact G0.tupi rfl
theorem jgw (hb:NB base)(l:List Int){cs:List AV}{n:Nat}(hc:l.map (AV.int .i64)=cs)(hn:l.length=n)(h0:0<n)(hl:n<=1000000)(st:St)(b m:Nat)(x:Bool)(D:Cl st b cs)(K Kp:AV->St->Prop) :
  XB γ base 194 [.slice b 0 n m 1 x] st K Kp=K (.tup [.int .i64 (Vc l),.int .i64 (Vd l)]) (kl b st):=by
 subst hc hn;have F:Fza st [.slice b 0 l.length m 1 x] [.lst l.length (l.map (AV.int .i64))] [b]:=Fza.sl D (by simp) (Uh l) .nil;exact(jqI hb l h0 hl).xf F (λst=>hb.no 194 dc _ _) K Kp
def zA (op:Int)(a b:MtT):Int×Int:=
 if op=5 then(min (-a.lo) (-a.hi),max (-a.lo) (-a.hi))
 else if op=15 then(min (a.lo+b.lo) (a.hi+b.hi),max (a.lo+b.lo) (a.hi+b.hi))
 else if op=16 then(min (a.lo - b.hi) (a.hi - b.lo),max (a.lo - b.hi) (a.hi - b.lo))
 else(min (min (min (a.lo * b.lo) (a.lo * b.hi)) (a.hi * b.lo)) (a.hi * b.hi),max (max (max (a.lo * b.lo) (a.lo * b.hi)) (a.hi * b.lo)) (a.hi * b.hi))
def ZS (m:MtT):Prop:=-100000000<=m.lo/\m.lo<=100000000/\-100000000<=m.hi/\m.hi<=100000000
theorem Kg {a b:Int}(h1 : -100000000<=a)(h2:a<=100000000)(h3 : -100000000<=b)(h4:b<=100000000) : -10000000000000000<=a * b/\a * b<=10000000000000000:=by
 have e:a.natAbs * b.natAbs<=100000000 * 100000000:=Nat.mul_le_mul om om;have e2:(a * b).natAbs=a.natAbs * b.natAbs:=Int.natAbs_mul a b;omega
set_option maxHeartbeats 1000000 in
theorem jh9 (hb:NB base)(op:Int)(ms:List MtT)(h0:0<ms.length)(hl:ms.length<=2)(he:∀ m∈ms,ZS m)(a b:MtT)(ha:ms[0]=a)(hb2:ms[ms.length - 1]=b) :
  PX γ base 177 [.int .i64 op,.lst ms.length (fl mtE ms)] (.ok (.tup [.int .i64 (zA op a b).1,.int .i64 (zA op a b).2])):=by
 obtain⟨a1,a2,a3,a4⟩:=ha▸he _ (Qaf h0);obtain⟨b1,b2,b3,b4⟩:=hb2▸he _ (Qaf (show ms.length - 1<ms.length by omega));have m1:=Kg a1 a2 b1 b2;have m2:=Kg a1 a2 b3 b4;have m3:=Kg a3 a4 b1 b2;have m4:=Kg a3 a4 b3 b4;have ld0:∀ (st:St) (K:AV->St->Prop),ji (Qz 4 (.lptr (fl mtE ms) 0) st) K=K (.agg (mtE a)) st:=λst K=>by
  have:=jlC (st:=st) (K:=K) h0;rw[QaP,ha] at this;exact this
 have ld1:∀ (st:St) (K:AV->St->Prop),ji (Qz 4 (.lptr (fl mtE ms) ((ms.length - 1) * 4)) st) K=K (.agg (mtE b)) st:=λst K=>by
  have:=jlC (st:=st) (K:=K) (show ms.length - 1<ms.length by omega);rw[hb2] at this;exact this
 have el:((ms.length:Int) - 1).toNat=ms.length - 1:=om
 have S2:=λ(p q:Int)=>jgw hb [p,q] (cs:=[.int .i64 p,.int .i64 q]) (n:=2) rfl rfl dc dc;have S4:=λ(p q r t:Int)=>jgw hb [p,q,r,t] (cs:=[.int .i64 p,.int .i64 q,.int .i64 r,.int .i64 t]) (n:=4) rfl rfl dc dc;have Sa:=S2 (-a.lo) (-a.hi);have Sb:=S2 (a.lo+b.lo) (a.hi+b.hi);have Sc:=S2 (a.lo - b.hi) (a.hi - b.lo);have Sd:=S4 (a.lo * b.lo) (a.lo * b.hi) (a.hi * b.lo) (a.hi * b.hi);clear S2 S4;clear he;refine jF jtd (by rfl) (hb.pur 177 1 dc) ?_;simp only[joa,jh,ζ,η,θ,κ];rw[(by unfold ji0;simp only[qq];rfl:ji0=_)];repeat'(first|apply jb<;>intro _|simp(disch:=first|exact dzG|fail) only[el,ld0,ld1,Sa,Sb,Sc,Sd,r8,δ,ε])
 all_goals(refine G0.tupi ?_;unfold zA Vc Vd;simp_all)
inductive KR (α:Type) where
 |ok (x:α)
 |er (c l k:Int)
def qm (vars:List VarT)(s:List Nat):Int:=fi (λx=>decide (x.name=s)) vars
theorem jhy (hb:NB base)(vars:List VarT)(hl:vars.length<=BIG)(s:List Nat)(st:St)(b:Nat)(C:Cl st b [.str s])(K Kp:AV->St->Prop) :
  XB γ base 168 [.lst vars.length (fl vaE vars),.fn 169 [.ptr b 0]] st K Kp=K (.int .i64 (qm vars s)) st:=by
 refine(jhx hb vars hl s).xb (yb rfl (qr ?_ rfl)) (λst=>hb.no 168 dc _ _) K Kp;show(JV st.h [.ptr b 0]).map (AV.fn 169)=_;have:Zm st.h (.ptr b 0)=some (.lptr [.str s] 0):=QR C (yw (Yz 8 rfl) rfl wM);simp only[JV,this];rfl
theorem kF (hb:NB base)(vars:List VarT)(hl:vars.length<=BIG)(s:List Nat)(r:List AV):PL γ base 133 [.lptr (.lst vars.length (fl vaE vars) :: r) 0,.str s] (.ok (.int .i64 (qm vars s))):=by
 refine qB jtw (by rfl) (hb.pur 133 5 dc) rfl ?_;simp only[jot,jh,ζ,η,θ,κ];rw[(by unfold jjj;simp only[qq];rfl:jjj=_)];have F:=jhy hb vars hl s;repeat'(first|apply jb<;>intro _|simp(disch:=first|exact dzG|fail) only[F,qU,r8,δ,ε])
 exact G0.v rfl rfl
def zn:List EnumT->List Nat->List Nat×Int
 |[],_=>([],-1)
 |e :: es,nm=>if 0<=fi (λv=>decide (nm=v)) e.vals then(e.name,fi (λv=>decide (nm=v)) e.vals) else zn es nm
theorem jaD:∀ {es:List EnumT} {nm:List Nat} {k:Nat} (h:k<es.length),(∀ j (hj:j<es.length),j<k->fi (λv=>decide (nm=v)) es[j].vals<0)->0<=fi (λv=>decide (nm=v)) es[k].vals->zn es nm=(es[k].name,fi (λv=>decide (nm=v)) es[k].vals)
 |e :: es,nm,0,h,_,h2=>by simp only[Qbs] at h2 ⊢;rw[zn,if_pos h2]
 |e :: es,nm,k+1,h,h1,h2=>by
  have h0:=h1 0 (by simp) om;simp only[Qbs] at h0;rw[zn,if_neg om];simp only[QbG] at h2 ⊢;exact jaD (by simpa using h) (λj hj hjk=>by have:=h1 (j+1) (by simpa using hj) om;simpa only[QbG] using this) h2
theorem jaC:∀ {es:List EnumT} {nm:List Nat},(∀ j (hj:j<es.length),fi (λv=>decide (nm=v)) es[j].vals<0)->zn es nm=([],-1)
 |[],nm,_=>rfl
 |e :: es,nm,h=>by
  have h0:=h 0 (by simp);simp only[Qbs] at h0;rw[zn,if_neg om];exact jaC λj hj=>by have:=h (j+1) (by simpa using hj);simpa only[QbG] using this
theorem jcm {s:St}{a:List Nat}{b:Int}{u:AV}(h:u=.tup [.str a,.int .i64 b]):G0 u (.tup [.str a,.int .i64 b]) s:=by
 subst h;exact FzD.tup (.cons (.pc rfl) (.cons (.pc rfl) .nil))
theorem jma (hb:NB base)(enums:List EnumT)(hl:enums.length<=BIG)(hv:∀ e∈enums,e.vals.length<=1000000)(nm:List Nat)(v:AV)(r:List AV):PL γ base 193 [.lptr (v :: .lst enums.length (fl enE enums) :: r) 0,.str nm] (.ok (.tup [.str (zn enums nm).1,.int .i64 (zn enums nm).2])):=by
 refine qB jsZ (by rfl) (hb.pur 193 5 dc) rfl ?_;simp only[jnW,jh,ζ,η,θ,κ];rw[(by unfold jiN;simp only[qq];rfl:jiN=_)];unfold BIG at hl;repeat'(first|apply jb<;>intro _|simp(disch:=first|exact dzG|fail) only[qU,r8,δ,ε])
 refine jZ enums.length (λk L s=>(∀ j (hj:j<enums.length),j<k->fi (λv=>decide (nm=v)) enums[j].vals<0)/\Has L 1 (.str nm)/\Has L 13 (.lst enums.length (fl enE enums))) ?_ (λk L s hk hI hi hn=>?_) (λL s hI=>?_)
 ·refine⟨λj _ hj=>absurd hj (QaJ _),?_⟩;simp(disch:=decide) only[h12]
 ·obtain⟨h0,i1,i13⟩:=hI;have X:=jl3 hb enums[k].vals (hv _ (Qaf hk)) nm;repeat'(first|apply jb<;>intro _|simp(disch:=first|exact dzG|fail) only[ja i1,ja i13,ja hi,ja hn,X,r8,δ,ε])
  ·rename_i h;refine jcm ?_;rw[jaD hk h0 om]
  ·rename_i h;refine⟨⟨λj hj hjk=>?_,?_⟩,?_⟩
   ·rcases Qar j k with h2|h2
    ·exact h0 j hj h2
    ·have:j=k:=om
     subst this;omega
   ·simp(disch:=decide) only[h12,i1,i13]
   ·simp(disch:=decide) only[h12,hi,hn]
 ·obtain⟨h0,i1,i13⟩:=hI;repeat'(first|apply jb<;>intro _|simp(disch:=first|exact dzG|fail) only[r8,δ,ε])
  refine jcm ?_;rw[jaC λj hj=>h0 j hj hj];rfl
def mt0:MtT:=⟨0,[],0,0⟩
def zZ (vars:List VarT)(enums:List EnumT)(x:Ex):KR (Ex×MtT):=
 if 0<=qm vars x.name then
  (let v:=vars.getD (qm vars x.name).toNat ⟨[],0,[],0,0,false,0⟩
   .ok (.mk 4 (qm vars x.name) [] [] x.line x.col,⟨v.kind,v.enum,v.lo,v.hi⟩))
 else if(zn enums x.name).2<0 then .er 161 x.line x.col
 else .ok (.mk 1 (zn enums x.name).2 [] [] x.line x.col,⟨3,(zn enums x.name).1,(zn enums x.name).2,(zn enums x.name).2⟩)
def kO (r:KR (Ex×MtT)):Oc:=match r with
 |.ok x=>.ok (.tup [.agg (eE x.1),.agg (mtE x.2)])
 |.er c l k=>.pn (kf c l k)
theorem WA {α:Type}{q:α->Bool}:∀ {xs:List α},fi q xs<(xs.length:Int)
 |[]=>by simp[fi]
 |x :: xs=>by
  have:=WA (q:=q) (xs:=xs);have hl:((x :: xs).length:Int)=(xs.length:Int)+1:=by simp
  rw[hl];unfold fi;split
  ·omega
  ·split<;>omega
set_option maxHeartbeats 1000000 in
theorem jmA (hb:NB base)(vars:List VarT)(enums:List EnumT)(hl:vars.length<=BIG)(hl2:enums.length<=BIG)(hv:∀ e∈enums,e.vals.length<=1000000)(x:Ex)(r:List AV) :
  PL γ base 174 [.lptr (.lst vars.length (fl vaE vars) :: .lst enums.length (fl enE enums) :: r) 0,.agg (eE x)] (kO (zZ vars enums x)):=by
 have V:=λst K Kp=>(kF hb vars hl x.name (.lst enums.length (fl enE enums) :: r)).pa (by rfl) (λst=>hb.no 133 dc _ _) st K Kp;have W:=λst K Kp=>(jma hb enums hl2 hv x.name (.lst vars.length (fl vaE vars)) r).pa (by rfl) (λst=>hb.no 193 dc _ _) st K Kp;have VT:=qm vars x.name;by_cases h1:0<=qm vars x.name
 ·have hlt:qm vars x.name<(vars.length:Int):=WA;have hlt2:(qm vars x.name).toNat<vars.length:=om
  obtain⟨v,hv⟩:∃ v,vars[(qm vars x.name).toNat]=v:=⟨_,rfl⟩;have hn:zZ vars enums x=.ok (.mk 4 (qm vars x.name) [] [] x.line x.col,⟨v.kind,v.enum,v.lo,v.hi⟩):=by
   unfold zZ;rw[if_pos h1];simp only[Qan,Qai hlt2,QaH,hv]
  rw[hn];refine qB jjs (by rfl) (hb.pur 174 5 dc) (by rfl) ?_;simp only[jed,jh,ζ,η,θ,κ];rw[(by unfold UK;simp only[qq];rfl:UK=_)]
  (have zz:=aI @yG @yF;(repeat'(first|apply jb<;>intro _|simp(disch:=first|exact qk|fail) only[V,h1,qU,hv,sm3,sm9,sm2,yG,yF,r8,δ,ε])))
  exact FzD.tup (.cons XU (.cons (.agg (.pc rfl)) .nil))
 ·have h1':qm vars x.name<0:=om
  by_cases h2:(zn enums x.name).2<0
  ·have hn:zZ vars enums x=.er 161 x.line x.col:=by unfold zZ;rw[if_neg h1,if_pos h2]
   rw[hn];refine qB jjs (by rfl) (hb.pur 174 5 dc) (by rfl) ?_;simp only[jed,jh,ζ,η,θ,κ];rw[(by unfold UK;simp only[qq];rfl:UK=_)];repeat'(first|apply jb<;>intro _|simp(disch:=first|exact dzG|fail) only[V,W,h1,h2,zK hb,qU,kO,r8,δ,ε])
   exact FzD.iface (FzD.agg (.pc rfl))
  ·have hn:zZ vars enums x=.ok (.mk 1 (zn enums x.name).2 [] [] x.line x.col,⟨3,(zn enums x.name).1,(zn enums x.name).2,(zn enums x.name).2⟩):=by unfold zZ;rw[if_neg h1,if_neg h2]
   rw[hn];refine qB jjs (by rfl) (hb.pur 174 5 dc) (by rfl) ?_;simp only[jed,jh,ζ,η,θ,κ];rw[(by unfold UK;simp only[qq];rfl:UK=_)];repeat'(first|apply jb<;>intro _|simp(disch:=first|exact dzG|fail) only[V,W,h1,h2,qU,r8,δ,ε])
   exact FzD.tup (.cons XU (.cons (.agg (.pc rfl)) .nil))
def jfz (part:Int)(ms:List MtT):Bool:=ms.any λm=>(decide (0<part) && decide (m.kind≠part)) ||decide (m.kind≠(ms.getD 0 mt0).kind) ||decide (m.enum≠(ms.getD 0 mt0).enum)
def ZJ (fm:Bool)(op num:Int)(name:List Nat)(l c:Int)(ys:List Ex)(ms:List MtT):KR (Ex×MtT):=
 if ms.length=0\/2<ms.length\/(u2 op=true/\fm=false)\/jfz (yy op).1 ms=true then .er 163 l c
 else if(yy op).2≠1 then .ok (.mk op num name ys l c,⟨(yy op).2,[],0,1⟩)
 else if(zA op (ms.getD 0 mt0) (ms.getD (ms.length - 1) mt0)).1 < -100000000\/100000000<(zA op (ms.getD 0 mt0) (ms.getD (ms.length - 1) mt0)).2 then .er 165 l c
 else .ok (.mk op num name ys l c,⟨(yy op).2,[],(zA op (ms.getD 0 mt0) (ms.getD (ms.length - 1) mt0)).1,(zA op (ms.getD 0 mt0) (ms.getD (ms.length - 1) mt0)).2⟩)
mutual
def y8 (vars:List VarT)(enums:List EnumT):Bool->Ex->KR (Ex×MtT)
 |fm,.mk op num name ks l c=>
  if op=1 then .ok (.mk op num name ks l c,⟨1,[],num,num⟩)
  else if op=2 then .ok (.mk op num name ks l c,⟨2,[],0,1⟩)
  else if op=3 then zZ vars enums (.mk op num name ks l c)
  else match qC vars enums (fm && decide (op≠17) && decide (op≠18)) ks with
   |.er a b d=>.er a b d
   |.ok r=>ZJ fm op num name l c r.1 r.2
def qC (vars:List VarT)(enums:List EnumT):Bool->List Ex->KR (List Ex×List MtT)
 |_,[]=>.ok ([],[])
 |fm,x :: xs=>match y8 vars enums fm x with
  |.er a b d=>.er a b d
  |.ok y=>match qC vars enums fm xs with
   |.er a b d=>.er a b d
   |.ok r=>.ok (y.1 :: r.1,y.2 :: r.2)
end
theorem GV {vars:List VarT}{enums:List EnumT}{fm:Bool}:∀ {xs:List Ex} {ys:List Ex} {ms:List MtT} {x y:Ex} {m:MtT},qC vars enums fm xs=.ok (ys,ms)->y8 vars enums fm x=.ok (y,m)->qC vars enums fm (xs ++ [x])=.ok (ys ++ [y],ms ++ [m])
 |[],ys,ms,x,y,m,h,h2=>by
  simp only[qC] at h;cases h;simp only[Qaj,qC,h2]
 |z :: xs,ys,ms,x,y,m,h,h2=>by
  simp only[qC] at h;cases hz:y8 vars enums fm z with
  |er a b d=>rw[hz] at h;cases h
  |ok w=>
   rw[hz] at h;cases hr:qC vars enums fm xs with
   |er a b d=>rw[hr] at h;cases h
   |ok r=>
    rw[hr] at h;cases h;obtain⟨r1,r2⟩:=r;simp only[Qad,qC,hz,GV hr h2]
theorem GW {vars:List VarT}{enums:List EnumT}{fm:Bool}:∀ {xs:List Ex} {ys:List Ex} {ms:List MtT} {x:Ex} {a b d:Int} (zs:List Ex),qC vars enums fm xs=.ok (ys,ms)->y8 vars enums fm x=.er a b d->qC vars enums fm (xs ++ x :: zs)=.er a b d
 |[],ys,ms,x,a,b,d,zs,h,h2=>by simp only[Qaj,qC,h2]
 |z :: xs,ys,ms,x,a,b,d,zs,h,h2=>by
  simp only[qC] at h;cases hz:y8 vars enums fm z with
  |er a b d=>rw[hz] at h;cases h
  |ok w=>
   rw[hz] at h;cases hr:qC vars enums fm xs with
   |er a b d=>rw[hr] at h;cases h
   |ok r=>
    rw[hr] at h;cases h;obtain⟨r1,r2⟩:=r;simp only[Qad,qC,hz,GW zs hr h2]
theorem Qj {vars:List VarT}{enums:List EnumT}{fm:Bool}:∀ {xs:List Ex} {ys:List Ex} {ms:List MtT},qC vars enums fm xs=.ok (ys,ms)->ys.length=xs.length/\ms.length=xs.length
 |[],ys,ms,h=>by simp only[qC] at h;cases h;exact⟨rfl,rfl⟩
 |z :: xs,ys,ms,h=>by
  simp only[qC] at h;cases hz:y8 vars enums fm z with
  |er a b d=>rw[hz] at h;cases h
  |ok w=>
   rw[hz] at h;cases hr:qC vars enums fm xs with
   |er a b d=>rw[hr] at h;cases h
   |ok r=>
    rw[hr] at h;cases h;obtain⟨r1,r2⟩:=r;have:=Qj hr;simp[this.1,this.2]
theorem Wu (vars:List VarT)(enums:List EnumT)(fm:Bool)(x:Ex):y8 vars enums fm x=if x.op=1 then .ok (x,⟨1,[],x.num,x.num⟩) else if x.op=2 then .ok (x,⟨2,[],0,1⟩) else if x.op=3 then zZ vars enums x else match qC vars enums (fm && decide (x.op≠17) && decide (x.op≠18)) x.kids with
 |.er a b d=>.er a b d
 |.ok r=>ZJ fm x.op x.num x.name x.line x.col r.1 r.2:=by cases x;rw[y8];rfl
structure VarsOK (vars:List VarT)(enums:List EnumT):Prop where
 len:vars.length<=1000000
 len2:enums.length<=1000000
 vals:∀ e∈enums,e.vals.length<=1000000
 ends:∀ v∈vars,-100000000<=v.lo/\v.lo<=100000000/\-100000000<=v.hi/\v.hi<=100000000
mutual
def Zi:Ex->Bool
 |.mk op num _ ks _ _=>(decide (op≠1) ||(decide (-100000000<=num) && decide (num<=100000000))) && JU ks
def JU:List Ex->Bool
 |[]=>true
 |x :: xs=>Zi x && JU xs
end
theorem jjy {enums:List EnumT}{nm:List Nat}(h:∀ e∈enums,e.vals.length<=1000000) : -1<=(zn enums nm).2/\(zn enums nm).2<=1000000:=by
 induction enums with
 |nil=>simp[zn]
 |cons e es ih=>
  rw[zn];have h1:=h e (by simp);have h2:=WA (q:=λv=>decide (nm=v)) (xs:=e.vals);split
  ·dsimp only;omega
  ·exact ih λe he=>h e (by simp[he])
theorem jcs {vars:List VarT}{enums:List EnumT}(V:VarsOK vars enums){x y:Ex}{m:MtT}(h:zZ vars enums x=.ok (y,m)):ZS m:=by
 unfold zZ at h;split at h
 ·rename_i h1;cases h;have hlt:qm vars x.name<(vars.length:Int):=WA;have hlt2:(qm vars x.name).toNat<vars.length:=om
  have:vars.getD (qm vars x.name).toNat ⟨[],0,[],0,0,false,0⟩∈vars:=by
   rw[Qan,Qai hlt2];exact Qaf hlt2
  exact V.ends _ this
 ·split at h
  ·cases h
  ·cases h;have:=jjy (nm:=x.name) V.vals;unfold ZS;dsimp only;omega
mutual
theorem jeQ {vars:List VarT}{enums:List EnumT}(V:VarsOK vars enums):∀ (fm:Bool) (x y:Ex) (m:MtT),Zi x=true->y8 vars enums fm x=.ok (y,m)->ZS m
 |fm,.mk op num name ks l c,y,m,hn,h=>by
  rw[Zi,χ] at hn;rw[y8] at h;split at h
  ·rename_i h1;cases h;have:=hn.1;simp[h1] at this;exact⟨this.1,this.2,this.1,this.2⟩
  ·split at h
   ·cases h;unfold ZS;dsimp only;omega
   ·split at h
    ·exact jcs V h
    ·split at h
     ·cases h
     ·rename_i r hr;unfold ZJ at h;split at h
      ·cases h
      ·split at h
       ·cases h;unfold ZS;dsimp only;omega
       ·split at h
        ·cases h
        ·rename_i h5;cases h;unfold ZS;dsimp only;have e:(zA op (r.2.getD 0 mt0) (r.2.getD (r.2.length - 1) mt0)).1<=(zA op (r.2.getD 0 mt0) (r.2.getD (r.2.length - 1) mt0)).2:=by
          unfold zA;split
          ·dsimp only;omega
          ·split
           ·dsimp only;omega
           ·split
            ·dsimp only;omega
            ·dsimp only;omega
         omega
end
theorem UG {vars:List VarT}{enums:List EnumT}(V:VarsOK vars enums){fm:Bool}:∀ {xs ys:List Ex} {ms:List MtT},JU xs=true->qC vars enums fm xs=.ok (ys,ms)->∀ m∈ms,ZS m
 |[],ys,ms,_,h,m,hm=>by simp only[qC] at h;cases h;cases hm
 |z :: xs,ys,ms,hn,h,m,hm=>by
  rw[JU,χ] at hn;simp only[qC] at h;cases hz:y8 vars enums fm z with
  |er a b d=>rw[hz] at h;cases h
  |ok w=>
   rw[hz] at h;cases hr:qC vars enums fm xs with
   |er a b d=>rw[hr] at h;cases h
   |ok r=>
    rw[hr] at h;cases h;obtain⟨r1,r2⟩:=r;obtain⟨w1,w2⟩:=w;rcases QaU.1 hm with rfl|hm
    ·exact jeQ V fm z w1 _ hn.1 hz
    ·exact UG V hn.2 hr m hm
theorem GJ:∀ {xs:List Ex} {k:Nat} (h:k<xs.length),JU xs=true->Zi xs[k]=true
 |x :: xs,0,_,h=>by rw[JU,χ] at h;exact h.1
 |x :: xs,k+1,hk,h=>by rw[JU,χ] at h;exact GJ (xs:=xs) (k:=k) (by simpa using hk) h.2
structure Ck (p:Nat)(v1 v2 v3 mm:AV)(vars:List VarT)(enums:List EnumT)(fm:Bool)(s:St):Prop where
 cl:Cl s p [v1,v2,v3,mm,.bool fm]
 l1:Lr s v1 vars.length (fl vaE vars)
 l2:Lr s v2 enums.length (fl enE enums)
 n1:∀ b m z x,v1=.slice b 0 vars.length m z x->b≠p
 n2:∀ b m z x,v2=.slice b 0 enums.length m z x->b≠p
section
variable {p:Nat} {v1 v2 v3 mm:AV} {vars:List VarT} {enums:List EnumT} {fm:Bool} {s s':St}
theorem Ck.keep (h:Ck p v1 v2 v3 mm vars enums fm s)(k:Keep p s s'){fm':Bool}(C:Cl s' p [v1,v2,v3,mm,.bool fm']):Ck p v1 v2 v3 mm vars enums fm' s':=⟨C,k.lr h.l1 h.n1,k.lr h.l2 h.n2,h.n1,h.n2⟩
theorem Ck.lend (h:Ck p v1 v2 v3 mm vars enums fm s):∃ r,lend s.h (.ptr p 0)=some (.lptr (.lst vars.length (fl vaE vars) :: .lst enums.length (fl enE enums) :: r) 0):=by
 have e1:=h.l1.fz (d:=7) (zN Yl vars);have e2:=h.l2.fz (d:=7) (zN JE enums);exact⟨_,QR h.cl (yw e1 rfl (yw e2 rfl rfl))⟩
end
set_option maxHeartbeats 4000000 in
theorem jmB (hb:NB base){vars:List VarT}{enums:List EnumT}(V:VarsOK vars enums)(x:Ex){p:Nat}{v1 v2 v3 mm:AV}{fm:Bool}(st:St)(C:Ck p v1 v2 v3 mm vars enums fm st)(K Kp:AV->St->Prop) :
  XB γ base 174 [.ptr p 0,.agg (eE x)] st K Kp=XT (kO (zZ vars enums x)) K Kp st:=by
 obtain⟨r,hr⟩:=C.lend;have h1:=V.len;have h2:=V.len2;exact(jmA hb vars enums (by unfold BIG;omega) (by unfold BIG;omega) V.vals x r).xb (qr hr (yb (by first|rfl|simp[pa,pc,q9,QJ,JE,Jj,Yl,ZY,Z6,QD,Zk]) rfl)) (λst=>hb.no 174 dc _ _) K Kp
def z6:List AV:=[.int .i64 0,.int .i64 0,.str [],.nils,.int .i64 0,.int .i64 0]
def z4:List AV:=[.int .i64 0,.str [],.int .i64 0,.int .i64 0]
def KC (p:Nat)(v1 v2 v3 mm:AV)(fm:Bool)(st:St)(r:KR (Ex×MtT))(K Kp:AV->St->Prop):Prop:=match r with
 |.ok y=>∀ s',Keep p st s'->Cl s' p [v1,v2,v3,mm,.bool fm]->K (.tup [.agg (eE y.1),.agg (mtE y.2)]) s'
 |.er c l k=>∀ s',Keep p st s'->Kp (kf c l k) s'
theorem jm2 {st s:St}{b:Nat}{cs:List AV}:Cl (back st s) b cs=Cl s b cs:=propext ⟨λh=>⟨h.lt,h.row,h.len,h.cell⟩,λh=>⟨h.lt,h.row,h.len,h.cell⟩⟩
theorem Cl.kills {s:St}{b:Nat}{cs:List AV}{ks:List Nat}(C:Cl s b cs)(h:b∉ks):Cl (kills ks s) b cs:=C.keep (μ _) (by
 show jx (ks.foldr _ s.h) b=_;rw[QU,if_neg h])
theorem Ul {p:Nat}{st s:St}{v u:AV}{cs:List AV}{K:AV->St->Prop}{m:Nat}(F:FzD m 9 s v u)(hm:st.nx<=m)(hp:p<st.nx)(k:Keep p st.bare s)(C:Cl s p cs)(hK:∀ s',Keep p st s'->Cl s' p cs->K u s') :
  ∃ u ks,fz 9 s.h v=some (u,ks)/\K u (back st (kills ks s)):=by
 obtain⟨ks,e,h⟩:=F;have hnx:st.bare.nx=st.nx:=rfl;refine⟨u,ks,e,hK _ (Keep.bare (k.kills λc hc=>by have:=h c hc;omega) st) ?_⟩;rw[jm2];exact C.kills λhm=>by have:=h p hm;omega
theorem Yf {p:Nat}{st s:St}(k:Keep p st.bare s):Keep p st (bk st s):=⟨k.nx,rfl,k.get⟩
def iQ (st:St)(K:AV->St->Prop):Out->Prop:=QZ γ y97.res λv s=>∃ u ks,fz 9 s.h v=some (u,ks)/\K u (back st (kills ks s))
def iP (st:St)(Kp:AV->St->Prop):AV->Sl->St->Prop:=λv _ s=>Kp v (bk st s)
structure KS (p q:Nat)(v1 v2 v3 mm:AV)(x:Ex)(fm:Bool)(st:St)(ys:List Ex)(ms:List MtT)(vk vm:AV)(L:Sl)(s:St):Prop where
 keep:Keep p st.bare s
 nx:q+4<=s.nx
 qn:q=st.nx
 hp:p<q
 cp:Cl s p [v1,v2,v3,mm,.bool fm]
 c0:Cl s q (eE x)
 c1:Cl s (q+1) z6
 c2:Cl s (q+2) z4
 c3:Cl s (q+3) [.int .i64 x.op,.int .i64 x.num,.str x.name,vk,.int .i64 x.line,.int .i64 x.col]
 lk:Lv (q+4) s.nx s vk ys.length (fl eE ys) 6
 lm:Lv (q+4) s.nx s vm ms.length (fl mtE ms) 4
 df:Df vk vm
 i0:Has L 0 (.ptr p 0)
 i3:Has L 3 (.ptr q 0)
 i4:Has L 4 (.ptr (q+1) 0)
 i5:Has L 5 (.ptr (q+2) 0)
 i6:Has L 6 (.ptr (q+3) 0)
 i7:Has L 7 vm
def kn (fm:Bool)(op:Int)(ms:List MtT):Bool:=decide (ms.length=0) ||decide (2<ms.length) ||(u2 op && !fm) ||jfz (yy op).1 ms
theorem jka {fm:Bool}{op num:Int}{name:List Nat}{l c:Int}{ys:List Ex}{ms:List MtT}(h:kn fm op ms=true):ZJ fm op num name l c ys ms=.er 163 l c:=by
 unfold ZJ;unfold kn at h;simp only[QaA,decide_eq_true_eq,χ,QaI] at h;rw[if_pos (by simpa only[or_assoc] using h)]
theorem jqz {fm:Bool}{op:Int}{ms:List MtT}(h:kn fm op ms=false):¬ (ms.length=0\/2<ms.length\/(u2 op=true/\fm=false)\/jfz (yy op).1 ms=true):=by
 intro h2;have:kn fm op ms=true:=by
  unfold kn;simp only[QaA,decide_eq_true_eq,χ,QaI];simpa only[or_assoc] using h2
 rw[this] at h;cases h
theorem Lv.klD {lo hi n z:Nat}{s:St}{v:AV}{cs:List AV}{b o m1 m2 z2:Nat}{x:Bool}(V:Lv lo hi s v n cs z)(h:Df v (.slice b o m1 m2 z2 x)):Lv lo hi (kl b s) v n cs z:=by
 rcases V with e|⟨c,rfl,h2,h3,h4,h5,h6⟩
 ·exact .inl e
 ·exact .inr ⟨c,rfl,h2,h3,(jS (λe=>h e.symm)).symm▸h4,h5,h6⟩
theorem jgS (hb:NB base)(op:Int)(ms:List MtT)(h0:0<ms.length)(hl:ms.length<=2)(he:∀ m∈ms,ZS m)(st:St)(b m:Nat)(y:Bool)(D:Cl st b (fl mtE ms))(K Kp:AV->St->Prop) :
  XB γ base 177 [.int .i64 op,.slice b 0 ms.length m 4 y] st K Kp=K (.tup [.int .i64 (zA op (ms.getD 0 mt0) (ms.getD (ms.length - 1) mt0)).1,.int .i64 (zA op (ms.getD 0 mt0) (ms.getD (ms.length - 1) mt0)).2]) (kl b st):=by
 have e0:ms[0]=ms.getD 0 mt0:=by simp[ω,h0]
 have e1:ms[ms.length - 1]=ms.getD (ms.length - 1) mt0:=by simp[ω,show ms.length - 1<ms.length by omega]
 have F:Fza st [.int .i64 op,.slice b 0 ms.length m 4 y] [.int .i64 op,.lst ms.length (fl mtE ms)] [b]:=Fza.pa rfl (Fza.sl D (Jn XE ms).symm (zN Zk ms) .nil);exact(jh9 hb op ms h0 hl he _ _ e0 e1).xf F (λst=>hb.no 177 dc _ _) K Kp
set_option maxHeartbeats 4000000 in
theorem jpW (hb:NB base){p q:Nat}{v1 v2 v3 mm:AV}{x:Ex}{fm b:Bool}{st:St}{ys:List Ex}{ms:List MtT}{vk vm:AV}{L:Sl}{s:St}(S:KS p q v1 v2 v3 mm x fm st ys ms vk vm L s)(hb2:kn fm x.op ms=b)(he:∀ m∈ms,ZS m)
  (i13:Has L 13 (.int .i64 (yy x.op).1)) (i14:Has L 14 (.int .i64 (yy x.op).2)) (i15:Has L 15 (.bool b)) (K Kp:AV->St->Prop) (hK:KC p v1 v2 v3 mm fm st (ZJ fm x.op x.num x.name x.line x.col ys ms) K Kp) :
  xC γ base jdZ L s (iQ st K) (iP st Kp):=by
 obtain⟨k,nx,qn,hp,Cp,C0,C1,C2,C3,lk,lm,df,i0,i3,i4,i5,i6,i7⟩:=S;have hnp:p<s.nx:=Cp.lt;unfold z6 z4 at *;unfold iQ iP y97;rw[(by unfold jdZ;simp only[qq];rfl:jdZ=_)];cases b with
 |true=>
  rw[jka hb2] at hK
  (have zz:=C0.r;(repeat'(first|apply jb<;>intro _|simp(disch:=first|exact qk|fail) only[ja i0,ja i3,ja i15,zK hb,C0.q,C0.r,r8,δ,ε])))
  exact hK _ (Yf k)
 |false=>
  have hnb:=jqz hb2;have hlen:0<ms.length/\ms.length<=2:=om
  unfold ZJ at hK;rw[if_neg hnb] at hK;have vc:∀ l,lall AV.cell (vk :: l)=lall AV.cell l:=λl=>by show cond vk.cell _ false=_;rw[lk.cell];rfl
  have qnx:q+4<=st.nx+4:=om
  by_cases ho:(yy x.op).2=1
  ·rw[if_neg (by simpa using ho)] at hK;rcases lm with ⟨_,h9,_⟩|⟨d,rfl,h2,h3,C5,h5,h6⟩
   ·omega
   have N:=jgS hb x.op ms hlen.1 hlen.2 he;obtain⟨r1,r2,hr⟩:∃ r1 r2,zA x.op (ms.getD 0 mt0) (ms.getD (ms.length - 1) mt0)=(r1,r2):=⟨_,_,rfl⟩;rw[hr] at hK N;dsimp only at hK N;have f1:(r1 < -(99999999+1))=(r1 < -100000000):=by rfl
   by_cases hr1:r1 < -100000000
   ·rw[if_pos (.inl hr1)] at hK
    (have zz:=a4 C0.r C1.r C2.r (aI C3.r C5.r);(repeat'(first|apply jb<;>intro _|simp(disch:=first|exact qk|fail) only[ja i0,ja i3,ja i4,ja i5,ja i6,ja i7,ja i14,ja i15,ho,N,f1,hr1,zK hb,C0.q,C1.q,C2.q,C3.q,C5.q,C0.r,C1.r,C2.r,C3.r,C5.r,r8,δ,ε])))
    exact hK _ (Yf (k.kl (by show st.nx<=_;omega)))
   ·by_cases hr2:100000000<r2
    ·rw[if_pos (.inr hr2)] at hK
     (have zz:=a4 C0.r C1.r C2.r (aI C3.r C5.r);(repeat'(first|apply jb<;>intro _|simp(disch:=first|exact qk|fail) only[ja i0,ja i3,ja i4,ja i5,ja i6,ja i7,ja i14,ja i15,ho,N,f1,hr1,hr2,zK hb,C0.q,C1.q,C2.q,C3.q,C5.q,C0.r,C1.r,C2.r,C3.r,C5.r,r8,δ,ε])))
     exact hK _ (Yf (k.kl (by show st.nx<=_;omega)))
    ·rw[if_neg om] at hK;have hK:∀ s',Keep p st s'->Cl s' p [v1,v2,v3,mm,.bool fm]->K (.tup [.agg (eE (.mk x.op x.num x.name ys x.line x.col)),.agg (mtE ⟨(yy x.op).2,[],r1,r2⟩)]) s':=hK;rw[qt] at hK
     (have zz:=a4 @vc C0.r C1.r (aI C2.r (aI C3.r C5.r));(repeat'(first|apply jb<;>intro _|simp(disch:=first|exact qk|fail) only[ja i0,ja i3,ja i4,ja i5,ja i6,ja i7,ja i14,ja i15,ho,N,f1,hr1,hr2,C0.q,C1.q,C2.q,C3.q,C5.q,vc,C0.r,C1.r,C2.r,C3.r,C5.r,r8,δ,ε])))
     rw[ho] at hK;refine Ul (m:=st.nx) (cs:=[v1,v2,v3,mm,.bool fm]) (FzD.tup (.cons (FzD.agg (.cons (.pc rfl) (.cons (.pc rfl) (.cons (.pc rfl) (.cons (Lv.fz (lo:=q+4) (hi:=s.nx) (z:=6) ?_ om (zN q9 _)) (.cons (.pc rfl) (.cons (.pc rfl) .nil))))))) (.cons (.agg (.pc rfl)) .nil))) (μ _) om ?_ ?_ hK
     ·have:=lk.klD df
      exact ckX
     ·exact(((k.kl (by show st.nx<=_;omega)).wr (.inr (by show st.nx<=_;omega)) _ _).wr (.inr (by show st.nx<=_;omega)) _ _)
     ·exact ckX
  ·rw[if_pos ho] at hK;have hK:∀ s',Keep p st s'->Cl s' p [v1,v2,v3,mm,.bool fm]->K (.tup [.agg (eE (.mk x.op x.num x.name ys x.line x.col)),.agg (mtE ⟨(yy x.op).2,[],0,1⟩)]) s':=hK;rw[qt] at hK
   (have zz:=a4 @vc C0.r C1.r (aI C2.r C3.r);(repeat'(first|apply jb<;>intro _|simp(disch:=first|exact qk|fail) only[ja i0,ja i3,ja i4,ja i5,ja i6,ja i14,ja i15,ho,C0.q,C1.q,C2.q,C3.q,vc,C0.r,C1.r,C2.r,C3.r,r8,δ,ε])))
   refine Ul (m:=st.nx) (cs:=[v1,v2,v3,mm,.bool fm]) (FzD.tup (.cons (FzD.agg (.cons (.pc rfl) (.cons (.pc rfl) (.cons (.pc rfl) (.cons (Lv.fz (lo:=q+4) (hi:=s.nx) (z:=6) ?_ om (zN q9 _)) (.cons (.pc rfl) (.cons (.pc rfl) .nil))))))) (.cons (.agg (.pc rfl)) .nil))) (μ _) om ?_ ?_ hK
   ·exact ckX
   ·exact((k.wr (.inr (by show st.nx<=_;omega)) _ _).wr (.inr (by show st.nx<=_;omega)) _ _)
   ·exact ckX
def jfA (part:Int)(k0:Int)(e0:List Nat)(m:MtT):Bool:=(decide (0<part) && decide (m.kind≠part)) ||decide (m.kind≠k0) ||decide (m.enum≠e0)
theorem Has.bool {c:Nat}{a b:Bool}{L:Sl}(h:a=b):Has ((c,.bool a) :: L) c (.bool b):=by rw[h];simp only[jn]
theorem jm8 (part:Int)(ms:List MtT):jfz part ms=ms.any (jfA part (ms.getD 0 mt0).kind (ms.getD 0 mt0).enum):=rfl
section
variable {p q:Nat} {v1 v2 v3 mm:AV} {x:Ex} {fm:Bool} {st:St} {ys:List Ex} {ms:List MtT} {vk vm:AV} {L:Sl} {s:St}
theorem KS.nw (S:KS p q v1 v2 v3 mm x fm st ys ms vk vm L s)(ds:List AV):KS p q v1 v2 v3 mm x fm st ys ms vk vm L (nw s ds):=by
 obtain⟨k,nx,qn,hp,Cp,C0,C1,C2,C3,lk,lm,df,i0,i3,i4,i5,i6,i7⟩:=S;have h0:=C0.lt;have h1:=C1.lt;have h2:=C2.lt;have h3:=C3.lt;have h4:=Cp.lt;exact⟨k.nw ds,by rw[je];omega,qn,hp,ckX,ckX,ckX,ckX,ckX,((jG (μ _)).symm▸lk:Lv _ _ (Go.Sy.nw s ds) _ _ _ _).up (by rw[je];omega),((jG (μ _)).symm▸lm:Lv _ _ (Go.Sy.nw s ds) _ _ _ _).up (by rw[je];omega),df,i0,i3,i4,i5,i6,i7⟩
theorem KS.push (S:KS p q v1 v2 v3 mm x fm st ys ms vk vm L s){c:Nat}{v:AV}(h:c≠0/\c≠3/\c≠4/\c≠5/\c≠6/\c≠7):KS p q v1 v2 v3 mm x fm st ys ms vk vm ((c,v) :: L) s:=by
 obtain⟨k,nx,qn,hp,Cp,C0,C1,C2,C3,lk,lm,df,i0,i3,i4,i5,i6,i7⟩:=S;obtain⟨h0,h3,h4,h5,h6,h7⟩:=h;exact⟨k,nx,qn,hp,Cp,C0,C1,C2,C3,lk,lm,df,by rw[jf h0];exact i0,by rw[jf h3];exact i3,by rw[jf h4];exact i4,by rw[jf h5];exact i5,by rw[jf h6];exact i6,by rw[jf h7];exact i7⟩
theorem KS.wr (S:KS p q v1 v2 v3 mm x fm st ys ms vk vm L s){c o:Nat}{ds:List AV}{hi:Nat}(hc:hi<=c)(lk':Lv (q+4) hi s vk ys.length (fl eE ys) 6)(lm':Lv (q+4) hi s vm ms.length (fl mtE ms) 4)(hq:q+4<=hi)(hs:hi<=s.nx):KS p q v1 v2 v3 mm x fm st ys ms vk vm L (wr s c o ds):=by
 obtain⟨k,nx,qn,hp,Cp,C0,C1,C2,C3,lk,lm,df,i0,i3,i4,i5,i6,i7⟩:=S;have h4:=Cp.lt;exact⟨k.wr (.inr (by show st.nx<=_;omega)) _ _,by rw[jg];exact nx,qn,hp,ckX,ckX,ckX,ckX,ckX,((jC (.inr hc)).symm▸lk':Lv _ _ (Go.Sy.wr s c o ds) _ _ _ _).up (by rw[jg];exact hs),((jC (.inr hc)).symm▸lm':Lv _ _ (Go.Sy.wr s c o ds) _ _ _ _).up (by rw[jg];exact hs),df,i0,i3,i4,i5,i6,i7⟩
end
set_option maxHeartbeats 4000000 in
theorem jpX (hb:NB base){p q:Nat}{v1 v2 v3 mm:AV}{x:Ex}{fm b:Bool}{st:St}{ys:List Ex}{ms:List MtT}{vk vm:AV}{L:Sl}{s:St}(S:KS p q v1 v2 v3 mm x fm st ys ms vk vm L s)(hb2:(decide (ms.length=0) ||decide (2<ms.length) ||(u2 x.op && !fm))=b)(hml:ms.length<=1000000)(he:∀ m∈ms,ZS m)
  (i13:Has L 13 (.int .i64 (yy x.op).1)) (i14:Has L 14 (.int .i64 (yy x.op).2)) (i15:Has L 15 (.bool b)) (K Kp:AV->St->Prop) (hK:KC p v1 v2 v3 mm fm st (ZJ fm x.op x.num x.name x.line x.col ys ms) K Kp) :
  xC γ base jak L s (iQ st K) (iP st Kp):=by
 have vl:=S.lm.len;have i7:=S.i7;have bq:kn fm x.op ms=(b ||ms.any (jfA (yy x.op).1 (ms.getD 0 mt0).kind (ms.getD 0 mt0).enum)):=by rw[<-jm8,<-hb2];rfl
 rw[(by unfold jak;simp only[qq];rfl:jak=_)];repeat'(first|apply jb<;>intro _|simp(disch:=first|exact dzG|fail) only[ja i7,vl,r8,δ,ε])
 refine jZ ms.length (λk L s=>KS p q v1 v2 v3 mm x fm st ys ms vk vm L s/\Has L 13 (.int .i64 (yy x.op).1)/\Has L 14 (.int .i64 (yy x.op).2)/\Has L 15 (.bool (b ||(ms.take k).any (jfA (yy x.op).1 (ms.getD 0 mt0).kind (ms.getD 0 mt0).enum)))/\Has L 115 vm) ?_ (λk L s hk hI hi hn=>?_) (λL s hI=>?_) (hc:=(λk L s v h=>⟨h.1.push dc,by simp(disch:=decide) only[jf];exact h.2⟩)) (hI:=(λk L s v h=>⟨h.1.push dc,by simp(disch:=decide) only[jf];exact h.2⟩))
 ·refine⟨((S.push dc).push dc).push dc,?_⟩;simp(disch:=decide) only[jf,jn,QaC,List.any_nil,Bool.or_false];exact⟨i13,i14,i15,trivial⟩
 ·obtain⟨S,j13,j14,j15,j115⟩:=hI;have S0:=S;obtain⟨k',nx,qn,hp,Cp,C0,C1,C2,C3,lk,lm,df,j0,j3,j4,j5,j6,j7⟩:=S;have qnx:q+4<=st.nx+4:=om
  rcases lm with ⟨_,h9,_⟩|⟨d,rfl,h2,h3,C5,h5,h6⟩
  ·omega
  have e0:ms.getD 0 mt0=ms[0]:=by simp[ω,show 0<ms.length by omega]
  have g0:(fl mtE ms).getD 0 .bad=.int .i64 ms[0].kind:=(vi XE (i:=0) om (k:=0) dc).trans (by rw[jlB];rfl);have g1:(fl mtE ms).getD 1 .bad=.str ms[0].enum:=(vi XE (i:=0) om (k:=1) dc).trans (by rw[jlB];rfl);have tk:List.take (k+1) ms=List.take k ms ++ [ms[k]]:=by rw[QbO,Qai hk];rfl
  rw[e0] at j15;rw[tk,e0,List.any_append,List.any_cons,List.any_nil,Bool.or_false];have S1:∀ ba:Bool,KS p q v1 v2 v3 mm x fm st ys ms vk (.slice d 0 ms.length ms.length 4 false) ((15,.bool ba) :: (17,.ptr s.nx 0) :: L) (Go.Sy.wr (Go.Sy.nw s [.int .i64 0,.str [],.int .i64 0,.int .i64 0]) s.nx 0 (mtE ms[k])):=λba=>
   (((S0.push dc).push dc).nw _).wr (c:=s.nx) (hi:=s.nx) (μ _) (ckX) (by have:=S0.lm;exact ckX) om (by rw[je];omega)
  (have zz:=C5.r;(repeat'(first|apply jb<;>intro _|simp(disch:=first|exact qk|fail) only[ja j115,ja hi,ja hn,ja j13,ja j14,ja j15,ja j7,jeZ XE,g0,g1,C5.q,C5.r,r8,δ,ε])))
  all_goals simp(disch:=decide) only[jf,jn]
  all_goals refine⟨⟨S1 _,j13,j14,?_,j115⟩,hi,hn⟩
  all_goals apply Has.bool
  all_goals clear hb2 S1 S0 hK he hml bq C5 k' Cp C0 C1 C2 C3 lk df j0 j3 j4 j5 j6 j7 g0 g1 i13 i14 i15 j13 j14 j15 vl i7 e0 tk nx
  all_goals generalize List.any _ _=A at *
  all_goals unfold jfA
  all_goals cases b<;>cases A<;>simp_all<;>omega
 ·obtain⟨S,j13,j14,j15,j115⟩:=hI;rw[Qah] at j15;exact jpW hb S bq he j13 j14 j15 K Kp hK
theorem KS.setp {p q:Nat}{v1 v2 v3 mm:AV}{x:Ex}{fm:Bool}{st:St}{ys:List Ex}{ms:List MtT}{vk vm:AV}{L:Sl}{s:St}(S:KS p q v1 v2 v3 mm x fm st ys ms vk vm L s)(b:Bool):KS p q v1 v2 v3 mm x b st ys ms vk vm L (Go.Sy.wr s p 4 [.bool b]):=by
 obtain⟨k,nx,qn,hp,Cp,C0,C1,C2,C3,lk,lm,df,i0,i3,i4,i5,i6,i7⟩:=S;have h0:=C0.lt;have h1:=C1.lt;have h2:=C2.lt;have h3:=C3.lt;exact⟨k.wr (.inl rfl) _ _,by rw[jg];exact nx,qn,hp,Cp.wr 4 [.bool b],ckX,ckX,ckX,ckX,ckX,ckX,df,i0,i3,i4,i5,i6,i7⟩
set_option maxHeartbeats 4000000 in
theorem jpY (hb:NB base){p q:Nat}{v1 v2 v3 mm:AV}{x:Ex}{fm fm2:Bool}{st:St}{ys:List Ex}{ms:List MtT}{vk vm:AV}{L:Sl}{s:St}(S:KS p q v1 v2 v3 mm x fm2 st ys ms vk vm L s)(hml:ms.length<=1000000)(he:∀ m∈ms,ZS m)
  (i8:Has L 8 (.bool fm)) (K Kp:AV->St->Prop) (hK:KC p v1 v2 v3 mm fm st (ZJ fm x.op x.num x.name x.line x.col ys ms) K Kp) :
  xC γ base jd0 L s (iQ st K) (iP st Kp):=by
 have vl:=S.lm.len;have i7:=S.i7;have i0:=S.i0;have i3:=S.i3;have Cp:=S.cp;have C0:=S.c0;have hqp:q≠p:=by have:=S.hp;omega
 have S1:=S.setp fm;have C9:=S1.cp;have ee:∀ b,(decide (ms.length=0) ||decide (2<ms.length) ||(u2 x.op && !fm))=b->xC γ base jak ((15,.bool b) :: (14,.int .i64 (yy x.op).2) :: (13,.int .i64 (yy x.op).1) :: L) (wr s p 4 [.bool fm]) (iQ st K) (iP st Kp):=λb hb2=>jpX hb (((S1.push dc).push dc).push dc) hb2 hml he (by simp(disch:=decide) only[jf,jn]) (by simp(disch:=decide) only[jf,jn]) (by simp only[jn]) K Kp hK;rw[(by unfold jd0;simp only[qq];rfl:jd0=_)]
 (have zz:=aI @Cp.r C0.r;(repeat'(first|apply jb<;>intro _|simp(disch:=first|exact qk|fail) only[ja i0,ja i3,ja i7,ja i8,vl,jl6 hb,joV hb,Cp.q,C0.q,Cp.r,C0.r,r8,δ,ε])))
 all_goals refine ee _ ?_
 all_goals clear ee S1 S hK
 all_goals clear vl
 all_goals(cases fm<;>simp_all<;>first|omega|(left;omega))
theorem Lr.bare {s:St}{v:AV}{n:Nat}{cs:List AV}(h:Lr s v n cs):Lr s.bare v n cs:=by
 rcases h with e|e|⟨b,m,z,x,e,h1,h2⟩
 ·exact .inl e
 ·exact .inr (.inl e)
 ·exact .inr (.inr ⟨b,m,z,x,e,h1,h2.bar⟩)
theorem Ck.bare {p:Nat}{v1 v2 v3 mm:AV}{vars:List VarT}{enums:List EnumT}{fm:Bool}{s:St}(h:Ck p v1 v2 v3 mm vars enums fm s):Ck p v1 v2 v3 mm vars enums fm s.bare:=⟨h.cl.bar,h.l1.bare,h.l2.bare,h.n1,h.n2⟩
section
variable {p q:Nat} {v1 v2 v3 mm:AV} {x:Ex} {fm:Bool} {st:St} {ys:List Ex} {ms:List MtT} {vk vm:AV} {L:Sl} {s t:St}
theorem KS.keep' (S:KS p q v1 v2 v3 mm x fm st ys ms vk vm L s)(k:Keep p s t){fm':Bool}(C:Cl t p [v1,v2,v3,mm,.bool fm']):KS p q v1 v2 v3 mm x fm' st ys ms vk vm L t:=by
 obtain⟨k',nx,qn,hp,Cp,C0,C1,C2,C3,lk,lm,df,i0,i3,i4,i5,i6,i7⟩:=S;exact⟨k'.trans k,by have:=k.nx;omega,qn,hp,C,k.cl C0 om,k.cl C1 om,k.cl C2 om,k.cl C3 om,(k.lv lk (.inl om)).up k.nx,(k.lv lm (.inl om)).up k.nx,df,i0,i3,i4,i5,i6,i7⟩
theorem KS.kid (S:KS p q v1 v2 v3 mm x fm st ys ms vk vm L s)(y:Ex):KS p q v1 v2 v3 mm x fm st (ys ++ [y]) ms (apv 6 vk s) vm L (Go.Sy.wr (Go.Sy.aps vk s (eE y)) (q+3) 3 [apv 6 vk s]):=by
 obtain⟨k,nx,qn,hp,Cp,C0,C1,C2,C3,lk,lm,df,i0,i3,i4,i5,i6,i7⟩:=S;have hn:(Go.Sy.wr (Go.Sy.aps vk s (eE y)) (q+3) 3 [apv 6 vk s]).nx=s.nx+1:=by rw[jg,jk]
 have h4:=Cp.lt;have cq:∀ c ds,Cl s c ds->c<q+4->c≠q+3->Cl (Go.Sy.wr (Go.Sy.aps vk s (eE y)) (q+3) 3 [apv 6 vk s]) c ds:=λc ds C h h3=>by
  rw[jA h3,lk.cl s (eE y) ds c (.inl h) om];exact C
 refine⟨(k.aps lk (by show st.nx<=_;omega) (eE y)).wr (.inr (by show st.nx<=_;omega)) _ _,by rw[hn];omega,qn,hp,cq _ _ Cp om om,cq _ _ C0 om om,cq _ _ C1 om om,cq _ _ C2 om om,?_,?_,?_,?_,i0,i3,i4,i5,i6,i7⟩
 ·have:=(cast (lk.cl s (eE y) _ (q+3) (.inl om) om).symm C3:Cl (Go.Sy.aps vk s (eE y)) (q+3) _);exact this.wr 3 [apv 6 vk s]
 ·rw[hn,jC (.inl om),υ,QY,JX];exact lk.put (Jd y) om rfl
 ·rw[hn,jC (.inl om)];exact(lm.apsD df).up om
 ·exact(Df.put lm (μ _)).1
theorem KS.mt (S:KS p q v1 v2 v3 mm x fm st ys ms vk vm L s)(m:MtT):KS p q v1 v2 v3 mm x fm st ys (ms ++ [m]) vk (apv 4 vm s) ((7,apv 4 vm s) :: L) (Go.Sy.aps vm s (mtE m)):=by
 obtain⟨k,nx,qn,hp,Cp,C0,C1,C2,C3,lk,lm,df,i0,i3,i4,i5,i6,i7⟩:=S;have hn:(Go.Sy.aps vm s (mtE m)).nx=s.nx+1:=by rw[jk]
 have h4:=Cp.lt;have cq:∀ c ds,Cl s c ds->c<q+4->Cl (Go.Sy.aps vm s (mtE m)) c ds:=λc ds C h=>by
  rw[lm.cl s (mtE m) ds c (.inl h) om];exact C
 refine⟨k.aps lm (by show st.nx<=_;omega) (mtE m),by rw[hn];omega,qn,hp,cq _ _ Cp om,cq _ _ C0 om,cq _ _ C1 om,cq _ _ C2 om,cq _ _ C3 om,?_,?_,?_,?_,?_,?_,?_,?_,?_⟩
 ·rw[hn];exact(lk.apsD (Df.symm df)).up om
 ·rw[hn,υ,QY,JX];exact lm.put (XE m) om rfl
 ·exact(Df.put lk (μ _)).2
 ·rw[jf dc];exact i0
 ·rw[jf dc];exact i3
 ·rw[jf dc];exact i4
 ·rw[jf dc];exact i5
 ·rw[jf dc];exact i6
 ·rw[jn];trivial
end
mutual
def ZT:Ex->Bool
 |.mk _ _ _ ks _ _=>decide (ks.length<=1000000) && Yi ks
def Yi:List Ex->Bool
 |[]=>true
 |x :: xs=>ZT x && Yi xs
end
theorem WU:∀ {xs:List Ex} {k:Nat} (h:k<xs.length),Yi xs=true->ZT xs[k]=true
 |x :: xs,0,_,h=>by rw[Yi,χ] at h;exact h.1
 |x :: xs,k+1,hk,h=>by rw[Yi,χ] at h;exact WU (xs:=xs) (k:=k) (by simpa using hk) h.2
def KE (base:Bs)(vars:List VarT)(enums:List EnumT)(x:Ex):Prop:=∀ (p:Nat) (v1 v2 v3 mm:AV) (fm:Bool) (st:St),Ck p v1 v2 v3 mm vars enums fm st->∀ K Kp,KC p v1 v2 v3 mm fm st (y8 vars enums fm x) K Kp->XB γ base 139 [.ptr p 0,.agg (eE x)] st K Kp
set_option maxHeartbeats 4000000 in
theorem jpZ (hb:NB base){vars:List VarT}{enums:List EnumT}(V:VarsOK vars enums){p q:Nat}{v1 v2 v3 mm:AV}{x:Ex}{fm fm2:Bool}{st:St}{vk vm:AV}{L:Sl}{s:St}(ih:∀ k∈x.kids,KE base vars enums k)(hn:JU x.kids=true)(hw:x.kids.length<=1000000)(H:Ck p v1 v2 v3 mm vars enums fm st)(S:KS p q v1 v2 v3 mm x fm2 st [] [] vk vm L s)
  (i8:Has L 8 (.bool fm)) (K Kp:AV->St->Prop) (hK:KC p v1 v2 v3 mm fm st (match qC vars enums fm2 x.kids with
   |.er a b d=>.er a b d
   |.ok r=>ZJ fm x.op x.num x.name x.line x.col r.1 r.2) K Kp) :
  xC γ base jal L s (iQ st K) (iP st Kp):=by
 have C0:=S.c0;have i3:=S.i3;rw[(by unfold jal;simp only[qq];rfl:jal=_)]
 (have zz:=C0.r;(repeat'(first|apply jb<;>intro _|simp(disch:=first|exact qk|fail) only[ja i3,C0.q,C0.r,r8,δ,ε])))
 refine jZ x.kids.length (λk L s=>∃ ys ms vk vm,KS p q v1 v2 v3 mm x fm2 st ys ms vk vm L s/\qC vars enums fm2 (x.kids.take k)=.ok (ys,ms)/\Has L 8 (.bool fm)/\Has L 62 (.lst x.kids.length (fl eE x.kids))) ?_ (λk L s hk hI hi hn=>?_) (λL s hI=>?_) (hc:=(λk L s v h=>(by obtain⟨ys,ms,vk,vm,h1,h2,h3,h4⟩:=h;exact⟨ys,ms,vk,vm,h1.push dc,h2,by simp(disch:=decide) only[jf];exact h3,by simp(disch:=decide) only[jf];exact h4⟩))) (hI:=(λk L s v h=>(by obtain⟨ys,ms,vk,vm,h1,h2,h3,h4⟩:=h;exact⟨ys,ms,vk,vm,h1.push dc,h2,by simp(disch:=decide) only[jf];exact h3,by simp(disch:=decide) only[jf];exact h4⟩)))
 ·refine⟨[],[],vk,vm,((S.push dc).push dc).push dc,by rw[QaC,qC],?_,?_⟩
  ·simp(disch:=decide) only[jf];exact i8
  ·simp(disch:=decide) only[jf,jn]
 ·obtain⟨ys,ms,vk,vm,S,he,j8,j62⟩:=hI;have Cp:=S.cp;have C3:=S.c3;have j0:=S.i0;have j6:=S.i6;have j7:=S.i7;repeat'(first|apply jb<;>intro _|simp(disch:=first|exact dzG|fail) only[ja j0,ja j62,ja hi,ja hn,r8,δ,ε])
  have S0:KS p q v1 v2 v3 mm x fm2 st ys ms vk vm ((10,.ptr s.nx 0) :: L) (Go.Sy.wr (Go.Sy.nw s [.int .i64 0,.int .i64 0,.str [],.nils,.int .i64 0,.int .i64 0]) s.nx 0 (eE x.kids[k])):=
   ((S.push dc).nw _).wr (c:=s.nx) (hi:=s.nx) (μ _) (by have:=S.lk;exact ckX) (by have:=S.lm;exact ckX) S.nx (by rw[je];omega)
  refine ih x.kids[k] (Qaf hk) p v1 v2 v3 mm fm2 _ (H.bare.keep S0.keep S0.cp) _ _ ?_;cases hx:y8 vars enums fm2 x.kids[k] with
  |er a b d=>
   intro s' hk';have e:qC vars enums fm2 x.kids=.er a b d:=by
    have:=GW (x.kids.drop (k+1)) he hx;rwa [QbH,Qbt] at this
   rw[e] at hK;exact hK _ (Yf (S0.keep.trans hk'))
  |ok w=>
   intro s' hk' hC;have S1:=S0.keep' hk' hC;obtain⟨y,m⟩:=w;have he':qC vars enums fm2 (x.kids.take (k+1))=.ok (ys ++ [y],ms ++ [m]):=by
    rw[QbO,Qai hk];exact GV he hx
   generalize Go.Sy.wr (Go.Sy.nw s [.int .i64 0,.int .i64 0,.str [],.nils,.int .i64 0,.int .i64 0]) s.nx 0 (eE x.kids[k])=t0 at *;clear S0;have A1:=λst bv xc xx K h hv=>@JR (q+4) s'.nx ys.length 6 st vk (fl eE ys) K 72 bv xc xx h dc (by have:=Qj he;rw[Qam] at this;omega) (by have:=Qj he;rw[Qam] at this;omega) hv;have vk1:=S1.lk;have vm1:=S1.lm;have hq:=S1.nx;have C3':=S1.c3;have S2:=((((S1.push (c:=11) (v:=.ptr s'.nx 0) dc).push (c:=12) (v:=.ptr (s'.nx+1) 0) dc).nw [.int .i64 0,.int .i64 0,.str [],.nils,.int .i64 0,.int .i64 0]).nw [.int .i64 0,.str [],.int .i64 0,.int .i64 0]).wr (c:=s'.nx) (o:=0) (ds:=eE y) (hi:=s'.nx) (μ _) (ckX) (ckX) hq (by(first|omega|(simp only[je,jg,jo,jk,jj];first|done|omega)));have S2:=(S2.wr (c:=s'.nx+1) (o:=0) (ds:=mtE m) (hi:=s'.nx) om (ckX) (ckX) hq (by(first|omega|(simp only[je,jg,jo,jk,jj];first|done|omega)))).nw (eE y);have S4:=(S2.kid y).nw (mtE m);have A2:=λbv xc xx K hv=>@JR (q+4) _ ms.length 4 _ vm (fl mtE ms) K 40 bv xc xx S4.lm dc (by have:=Qj he;rw[Qam] at this;omega) (by have:=Qj he;rw[Qam] at this;omega) hv
   (have zz:=a8 @vk1.ln @vk1.rts @jC @jG @jJ @vk1 @vm1 (a4 @jB @jI @jM @C3'.r);(repeat'(first|apply jb<;>intro _|simp(disch:=first|exact qk|fail) only[ja j0,ja j6,ja j7,A1,A2,vk1.at,jB,C3'.q,vk1.ln,vk1.rts,jC,jG,jJ,vk1,vm1,jB,jI,jM,C3'.r,r8,δ,ε])))
   refine⟨⟨_,_,_,_,S4.mt m,he',?_,?_⟩,?_,?_⟩;all_goals exact hsX
 ·obtain⟨ys,ms,vk,vm,S,he,j8,j62⟩:=hI;rw[Qah] at he;rw[he] at hK;refine jpY hb S ?_ ?_ j8 K Kp hK
  ·have:=Qj he;omega
  ·exact UG V hn he
set_option maxHeartbeats 4000000 in
theorem jp0 (hb:NB base){vars:List VarT}{enums:List EnumT}(V:VarsOK vars enums){p q:Nat}{v1 v2 v3 mm:AV}{x:Ex}{fm:Bool}{st:St}{L:Sl}{s:St}(ih:∀ k∈x.kids,KE base vars enums k)(hn:JU x.kids=true)(hw:x.kids.length<=1000000)(H:Ck p v1 v2 v3 mm vars enums fm st)(hop:x.op≠1/\x.op≠2/\x.op≠3)
  (k:Keep p st.bare s) (hs:s.nx=q+3) (qn:q=st.nx) (hp:p<q) (Cp:Cl s p [v1,v2,v3,mm,.bool fm]) (C0:Cl s q (eE x)) (C1:Cl s (q+1) z6) (C2:Cl s (q+2) z4) (i0:Has L 0 (.ptr p 0)) (i3:Has L 3 (.ptr q 0)) (i4:Has L 4 (.ptr (q+1) 0)) (i5:Has L 5 (.ptr (q+2) 0)) (K Kp:AV->St->Prop) (hK:KC p v1 v2 v3 mm fm st (y8 vars enums fm x) K Kp) :
  xC γ base jd1 L s (iQ st K) (iP st Kp):=by
 rw[Wu,if_neg hop.1,if_neg hop.2.1,if_neg hop.2.2] at hK;have hqp:q+3≠p:=om
 have hq3:q≠p:=om
 have hpq:p≠q+3:=om
 have S0:KS p q v1 v2 v3 mm x fm st [] [] .nils .nils ((8,.bool fm) :: (7,.nils) :: (6,.ptr (q+3) 0) :: L) (Go.Sy.wr (Go.Sy.wr (Go.Sy.nw s [.int .i64 0,.int .i64 0,.str [],.nils,.int .i64 0,.int .i64 0]) (q+3) 0 [.int .i64 x.op,.int .i64 x.num,.str x.name,.lst x.kids.length (fl eE x.kids),.int .i64 x.line,.int .i64 x.col]) (q+3) 3 [.nils]):=by
  refine⟨((k.nw _).wr (.inr (by show st.nx<=_;omega)) _ _).wr (.inr (by show st.nx<=_;omega)) _ _,by(first|omega|(simp only[je,jg,jo,jk,jj];first|done|omega)),qn,hp,ckX,ckX,ckX,ckX,?_,Lv.nil,Lv.nil,trivial,?_,?_,?_,?_,?_,?_⟩
  ·have:=((hs▸Cl.new s [.int .i64 0,.int .i64 0,.str [],.nils,.int .i64 0,.int .i64 0]:Cl (Go.Sy.nw s [.int .i64 0,.int .i64 0,.str [],.nils,.int .i64 0,.int .i64 0]) (q+3) _).wr 0 [.int .i64 x.op,.int .i64 x.num,.str x.name,.lst x.kids.length (fl eE x.kids),.int .i64 x.line,.int .i64 x.col]).wr 3 [.nils];exact this
  all_goals(simp(disch:=decide) only[jf,jn];try assumption)
 have ee:∀ b,(fm && decide (x.op≠17) && decide (x.op≠18))=b->xC γ base jal ((8,.bool fm) :: (7,.nils) :: (6,.ptr (q+3) 0) :: L) (Go.Sy.wr (Go.Sy.wr (Go.Sy.wr (Go.Sy.nw s [.int .i64 0,.int .i64 0,.str [],.nils,.int .i64 0,.int .i64 0]) (q+3) 0 [.int .i64 x.op,.int .i64 x.num,.str x.name,.lst x.kids.length (fl eE x.kids),.int .i64 x.line,.int .i64 x.col]) (q+3) 3 [.nils]) p 4 [.bool b]) (iQ st K) (iP st Kp):=λb e=>by
  rw[e] at hK;exact jpZ hb V ih hn hw H (S0.setp b) (by simp only[jn]) K Kp hK
 rw[(by unfold jd1;simp only[qq];rfl:jd1=_)]
 (have zz:=aI @hs (aI @Cp.r C0.r);(repeat'(first|apply jb<;>intro _|simp(disch:=first|exact qk|fail) only[ja i0,ja i3,hs,Cp.q,C0.q,hs,Cp.r,C0.r,r8,δ,ε])))
 all_goals refine ee _ ?_
 all_goals clear ee S0 hK
 all_goals(cases fm<;>simp_all)
theorem jp1 (hb:NB base){vars:List VarT}{enums:List EnumT}(V:VarsOK vars enums){p q:Nat}{v1 v2 v3 mm:AV}{x:Ex}{fm:Bool}{st:St}{L:Sl}{s:St}(ih:∀ k∈x.kids,KE base vars enums k)(hn:JU x.kids=true)(hw:x.kids.length<=1000000)(H:Ck p v1 v2 v3 mm vars enums fm st)
  (k:Keep p st.bare s) (hs:s.nx=q+3) (qn:q=st.nx) (hp:p<q) (Cp:Cl s p [v1,v2,v3,mm,.bool fm]) (C0:Cl s q (eE x)) (C1:Cl s (q+1) z6) (C2:Cl s (q+2) z4) (i0:Has L 0 (.ptr p 0)) (i3:Has L 3 (.ptr q 0)) (i4:Has L 4 (.ptr (q+1) 0)) (i5:Has L 5 (.ptr (q+2) 0)) (K Kp:AV->St->Prop) (hK:KC p v1 v2 v3 mm fm st (y8 vars enums fm x) K Kp) :
  xC γ base ZH L s (iQ st K) (iP st Kp):=by
 have nk:=λK Kp=>jmB hb V x s (H.bare.keep k Cp) K Kp;have fin:∀ (y:Ex) (m:MtT) (s':St),Keep p st.bare s'->Cl s' p [v1,v2,v3,mm,.bool fm]->y8 vars enums fm x=.ok (y,m)->∃ u ks,fz 9 s'.h (.tup [.agg (eE y),.agg (mtE m)])=some (u,ks)/\K u (back st (kills ks s')):=λy m s' k' C h=>by
  rw[h] at hK;exact Ul (m:=st.nx) (cs:=[v1,v2,v3,mm,.bool fm]) (FzD.tup (.cons (FzD.agg (.pc (q9 y))) (.cons (.agg (.pc (Zk m))) .nil))) (μ _) om k' C hK
 by_cases h1:x.op=1
 ·have e:=Wu vars enums fm x;rw[if_pos h1] at e;unfold iQ iP y97;rw[(by unfold ZH;simp only[qq];rfl:ZH=_)];unfold z6 z4 at *;have f:=fin x ⟨1,[],x.num,x.num⟩ (Go.Sy.wr (Go.Sy.wr s (q+1) 0 (eE x)) (q+2) 0 (mtE ⟨1,[],x.num,x.num⟩)) ((k.wr (.inr (by show st.nx<=_;omega)) _ _).wr (.inr (by show st.nx<=_;omega)) _ _) (ckX) e;rw[qt,h1] at f
  (have zz:=a4 @Cp.r C0.r C1.r C2.r;(repeat'(first|apply jb<;>intro _|simp(disch:=first|exact qk|fail) only[ja i0,ja i3,ja i4,ja i5,h1,Qy,sm2,Cp.q,C0.q,C1.q,C2.q,Cp.r,C0.r,C1.r,C2.r,r8,δ,ε])))
  refine⟨?_,f⟩;have a1:rat s.h q 1=.int .i64 x.num:=(C0.cell 1 (by rw[Jd];decide)).trans (by rw[jp9];rfl);exact⟨(sm2 (by rw[C0.len,Jd];decide) a1 rfl).mpr trivial,(sm2 (by rw[QT,C0.len,Jd];decide) (by rw[ZF om];exact a1) rfl).mpr trivial⟩
 ·by_cases h2:x.op=2
  ·have e:=Wu vars enums fm x;rw[if_neg h1,if_pos h2] at e;unfold iQ iP y97;rw[(by unfold ZH;simp only[qq];rfl:ZH=_)];unfold z6 z4 at *;have f:=fin x ⟨2,[],0,1⟩ (Go.Sy.wr (Go.Sy.wr s (q+1) 0 (eE x)) (q+2) 0 (mtE ⟨2,[],0,1⟩)) ((k.wr (.inr (by show st.nx<=_;omega)) _ _).wr (.inr (by show st.nx<=_;omega)) _ _) (ckX) e;rw[qt,h2] at f
   (have zz:=a4 @Cp.r C0.r C1.r C2.r;(repeat'(first|apply jb<;>intro _|simp(disch:=first|exact qk|fail) only[ja i0,ja i3,ja i4,ja i5,h2,Cp.q,C0.q,C1.q,C2.q,Cp.r,C0.r,C1.r,C2.r,r8,δ,ε])))
   exact f
  ·by_cases h3:x.op=3
   ·have e:=Wu vars enums fm x;rw[if_neg h1,if_neg h2,if_pos h3] at e;rw[qt,h3] at nk;unfold z6 z4 at *;cases hr:zZ vars enums x with
    |er a b d=>
     rw[e,hr] at hK;rw[hr] at nk;rw[(by unfold ZH;simp only[qq];rfl:ZH=_)]
     (have zz:=a4 @Cp.r C0.r C1.r C2.r;(repeat'(first|apply jb<;>intro _|simp(disch:=first|exact qk|fail) only[ja i0,ja i3,ja i4,ja i5,h3,nk,kO,jeE,Cp.q,C0.q,C1.q,C2.q,Cp.r,C0.r,C1.r,C2.r,r8,δ,ε])))
     exact hK _ (Yf k)
    |ok y=>
     obtain⟨y,m⟩:=y;have f:=fin y m (Go.Sy.wr (Go.Sy.wr s (q+1) 0 (eE y)) (q+2) 0 (mtE m)) ((k.wr (.inr (by show st.nx<=_;omega)) _ _).wr (.inr (by show st.nx<=_;omega)) _ _) (ckX) (e.trans hr);rw[hr] at nk;unfold iQ iP y97;rw[(by unfold ZH;simp only[qq];rfl:ZH=_)]
     (have zz:=a4 @Cp.r C0.r C1.r C2.r;(repeat'(first|apply jb<;>intro _|simp(disch:=first|exact qk|fail) only[ja i0,ja i3,ja i4,ja i5,h3,nk,kO,Wm,Cp.q,C0.q,C1.q,C2.q,Cp.r,C0.r,C1.r,C2.r,r8,δ,ε])))
     exact f
   ·have ee:=λL (j0:Has L 0 (.ptr p 0)) (j3:Has L 3 (.ptr q 0)) (j4:Has L 4 (.ptr (q+1) 0)) (j5:Has L 5 (.ptr (q+2) 0))=>jp0 hb V ih hn hw H ⟨h1,h2,h3⟩ k hs qn hp Cp C0 C1 C2 j0 j3 j4 j5 K Kp hK;rw[(by unfold ZH;simp only[qq];rfl:ZH=_)]
    (have zz:=C0.r;(repeat'(first|apply jb<;>intro _|simp(disch:=first|exact qk|fail) only[ja i0,ja i3,h1,h2,h3,C0.q,C0.r,r8,δ,ε])))
    refine ee _ ?_ ?_ ?_ ?_;all_goals exact hsX
theorem jpV (hb:NB base){vars:List VarT}{enums:List EnumT}(V:VarsOK vars enums):∀ x:Ex,Zi x=true->ZT x=true->KE base vars enums x:=by
 refine Ex.indk λx ih hn hw p v1 v2 v3 mm fm st H K Kp hK=>?_;have hn':JU x.kids=true:=by cases x;rw[Zi,χ] at hn;exact hn.2
 have hw':x.kids.length<=1000000/\Yi x.kids=true:=by cases x;rw[ZT,χ,decide_eq_true_eq] at hw;exact hw
 have ih':∀ k∈x.kids,KE base vars enums k:=λk hk=>by
  obtain⟨i,hi,rfl⟩:=Qbz.1 hk;exact ih _ hk (GJ hi hn') (WU hi hw'.2)
 refine UZ x97 (by rfl) (hb.pur 139 2 dc) (hb.no 139 dc _ _) ?_;simp only[y97,jh,ζ,η,θ,κ];have Cp:=H.cl.bar;have h0:p<st.nx:=H.cl.lt;have hB:st.bare.nx=st.nx:=rfl;rw[(by unfold z97;simp only[qq];rfl:z97=_)]
 (have zz:=@Cp.r;(repeat'(first|apply jb<;>intro _|simp(disch:=first|exact qk|fail) only[Cp.q,Cp.r,r8,δ,ε])))
 have Hc:=H.cl;have n0:Cl (Go.Sy.nw st.bare (eE x)) st.nx (eE x):=Cl.new st.bare (eE x);have n1:Cl (Go.Sy.nw (Go.Sy.nw st.bare (eE x)) z6) (st.nx+1) z6:=Cl.new _ _;have n2:Cl (Go.Sy.nw (Go.Sy.nw (Go.Sy.nw st.bare (eE x)) z6) z4) (st.nx+2) z4:=Cl.new _ _;refine jp1 (L:=[(5,.ptr (st.nx+1+1) 0),(4,.ptr (st.nx+1) 0),(3,.ptr st.nx 0),(0,.ptr p 0),(1,.agg (eE x))]) (s:=Go.Sy.nw (Go.Sy.nw (Go.Sy.nw st.bare (eE x)) z6) z4) (st:=st) hb V ih' hn' hw'.1 H ((((Keep.refl (s:=st.bare)).nw _).nw _).nw _) rfl rfl h0 (ckX) (ckX) (ckX) n2 ?_ ?_ ?_ ?_ K Kp hK;all_goals exact⟨rfl,rfl⟩
end Go.Sy
end
noncomputable section
set_option maxRecDepth 100000
namespace Go.Sy
open Go.Ev Go.Proofs
variable {base:Bs}
def yU (vars:List VarT)(enums:List EnumT)(fm:Bool)(x:Ex)(w:Int)(en:List Nat):KR Ex:=match y8 vars enums fm x with
 |.er a b c=>.er a b c
 |.ok r=>if r.2.kind≠w\/r.2.enum≠en then .er 163 x.line x.col else .ok r.1
def KT (p:Nat)(v1 v2 v3 mm:AV)(fm:Bool)(st:St)(r:KR Ex)(K Kp:AV->St->Prop):Prop:=match r with
 |.ok y=>∀ s',Keep p st s'->Cl s' p [v1,v2,v3,mm,.bool fm]->K (.agg (eE y)) s'
 |.er c l k=>∀ s',Keep p st s'->Kp (kf c l k) s'
set_option maxHeartbeats 4000000 in
theorem VO (hb:NB base){vars:List VarT}{enums:List EnumT}(V:VarsOK vars enums)(x:Ex)(hn:Zi x=true)(hw:ZT x=true)(w:Int)(en:List Nat){p:Nat}{v1 v2 v3 mm:AV}{fm:Bool}{st:St}(H:Ck p v1 v2 v3 mm vars enums fm st)(K Kp:AV->St->Prop)(hK:KT p v1 v2 v3 mm fm st (yU vars enums fm x w en) K Kp):XB γ base 99 [.ptr p 0,.agg (eE x),.int .i64 w,.str en] st K Kp:=by
 refine UZ x60 (by rfl) (hb.pur 99 2 dc) (hb.no 99 dc _ _) ?_;simp only[y60,jh,ζ,η,θ,κ];have Hc:=H.cl;have Cp:=H.cl.bar;have h0:p<st.nx:=H.cl.lt;have hB:st.bare.nx=st.nx:=rfl;have k1:Keep p st.bare (Go.Sy.nw (Go.Sy.nw st.bare (eE x)) [.int .i64 0,.int .i64 0,.str [],.nils,.int .i64 0,.int .i64 0]):=(Keep.refl.nw _).nw _;have C1:Cl (Go.Sy.nw (Go.Sy.nw st.bare (eE x)) [.int .i64 0,.int .i64 0,.str [],.nils,.int .i64 0,.int .i64 0]) p [v1,v2,v3,mm,.bool fm]:=ckX
 have n0:Cl (Go.Sy.nw st.bare (eE x)) st.nx (eE x):=Cl.new st.bare (eE x);have n0:Cl (Go.Sy.nw (Go.Sy.nw st.bare (eE x)) [.int .i64 0,.int .i64 0,.str [],.nils,.int .i64 0,.int .i64 0]) st.nx (eE x):=ckX
 have n1:Cl (Go.Sy.nw (Go.Sy.nw st.bare (eE x)) [.int .i64 0,.int .i64 0,.str [],.nils,.int .i64 0,.int .i64 0]) (st.nx+1) [.int .i64 0,.int .i64 0,.str [],.nils,.int .i64 0,.int .i64 0]:=Cl.new _ _;rw[(by unfold z60;simp only[qq];rfl:z60=_)];repeat'(first|apply jb<;>intro _|simp(disch:=first|exact dzG|fail) only[r8,δ,ε])
 refine jpV hb V x hn hw p v1 v2 v3 mm fm _ (H.bare.keep k1 C1) _ _ ?_;unfold yU at hK;cases hr:y8 vars enums fm x with
 |er a b c=>
  rw[hr] at hK;intro s' k2;exact hK _ (Yf (k1.trans k2))
 |ok y=>
  rw[hr] at hK;obtain⟨y,m⟩:=y;intro s' k2 C2;have k3:=k1.trans k2;have m0:=k2.cl n0 om;have m1:=k2.cl n1 om;have hnx:=k2.nx;have hnx:st.nx+2<=s'.nx:=hnx;have hK:KT p v1 v2 v3 mm fm st (if m.kind≠w\/m.enum≠en then .er 163 x.line x.col else .ok y) K Kp:=hK;generalize Go.Sy.nw (Go.Sy.nw st.bare (eE x)) [.int .i64 0,.int .i64 0,.str [],.nils,.int .i64 0,.int .i64 0]=t0 at *
  (have zz:=aI @m0.r @m1.r;(repeat'(first|apply jb<;>intro _|simp(disch:=first|exact qk|fail) only[zK hb,m0.q,m1.q,m0.r,m1.r,r8,δ,ε])))
  ·rw[if_pos (.inl (by assumption))] at hK;exact hK _ (Yf ((((k3.nw _).nw _).wr (.inr (by show st.nx<=_;omega)) _ _).wr (.inr (by show st.nx<=_;omega)) _ _))
  ·rw[if_pos (.inr (by assumption))] at hK;exact hK _ (Yf ((((k3.nw _).nw _).wr (.inr (by show st.nx<=_;omega)) _ _).wr (.inr (by show st.nx<=_;omega)) _ _))
  ·rename_i h1 h2;rw[if_neg (by rintro (h|h)<;>contradiction)] at hK;refine Ul (m:=st.nx) (cs:=[v1,v2,v3,mm,.bool fm]) (FzD.agg (.pc (q9 y))) (μ _) h0 (((((k3.nw _).nw _).wr (.inr (by show st.nx<=_;omega)) _ _).wr (.inr (by show st.nx<=_;omega)) _ _).wr (.inr (by show st.nx<=_;omega)) _ _) (ckX) hK
section
variable {P:Program} {e:En} {st s:St} {K:AV->St->Prop}
def jeK (st:St):ER:=st.alloc (.map []) λb st=>.ok (.map b) st
def jeL (P:Program)(t:TypeId)(ok:Bool)(m k:AV)(st:St):ER:=(Q9 P t (O m) (O k) ok).run E0 st
def jjz (P:Program)(t:TypeId)(m k v:AV)(st:St):ER:=(Jb P t (O m) (O k) (O v)).run E0 st
theorem jr0:wK P base (.i .mkMap) e st K=ji (jeK st) K:=k_0 (V:=jeK) rfl (λ_=>rfl) K
theorem jhe (t:TypeId)(m k:A)(ok:Bool):wK P base (.i (.look t m k ok)) e st K=on1 e m λv=>on1 e k λu=>ji (jeL P t ok v u st) K:=k_2 rfl (λ_=>rfl) K
theorem jlG (t:TypeId)(m k x:A):wK P base (.i (.upd t m k x)) e st K=on1 e m λv=>on1 e k λu=>on1 e x λw=>ji (jjz P t v u w st) K:=k_3 rfl (λ_=>rfl) K
def mpl (ts:List (List Nat)):List (AV×AV):=ts.map λt=>(.str t,.int .i64 1)
def mp (s:St)(b:Nat)(es:List (AV×AV)):St:=⟨s.nx,(j1 (jK b)).run (.map es) s.h,min s.dirty b,s.fr⟩
def nmp (s:St):St:=⟨s.nx+1,(j1 (jK s.nx)).run (.map []) s.h,s.dirty,s.fr⟩
theorem jeF (s:St)(b:Nat)(es:List (AV×AV)):(mp s b es).nx=s.nx:=nr rfl
theorem jrV (s:St):(nmp s).nx=s.nx+1:=nr rfl
theorem KD (s:St)(b c:Nat)(es:List (AV×AV)):jx (mp s b es).h c=if c=b then some (.map es) else jx s.h c:=by unfold mp;rw[jX]
theorem jho (s:St)(c:Nat):jx (nmp s).h c=if c=s.nx then some (.map []) else jx s.h c:=by unfold nmp;rw[jX]
structure Mp (s:St)(b:Nat)(ts:List (List Nat)):Prop where
 lt:b<s.nx
 get:jx s.h b=some (.map (mpl ts))
theorem Mp.new (s:St):Mp (nmp s) s.nx []:=⟨by rw[jrV];omega,by rw[jho,if_pos rfl];rfl⟩
theorem Mp.keep {b:Nat}{ts:List (List Nat)}{t:St}(h:Mp s b ts)(h1:s.nx<=t.nx)(h2:jx t.h b=jx s.h b):Mp t b ts:=⟨Qat h.lt h1,h2.trans h.get⟩
theorem Mp.put {b:Nat}{ts us:List (List Nat)}(h:Mp s b ts):Mp (mp s b (mpl us)) b us:=⟨by rw[jeF];exact h.lt,by rw[KD,if_pos rfl]⟩
theorem jro:ji (jeK st) K=K (.map st.nx) (nmp st):=by
 unfold jeK;rw[St.alloc_eq];rfl
end
theorem jlm:Tryz.prog.underlying 185=some (.map 9 3):=by kernel_rfl
theorem joQ:Tryz.prog.underlying 9=some .string:=by kernel_rfl
theorem ze3:kv γ 3=some (.int .i64 0):=by kernel_rfl
theorem kf9 (s:List Nat):(ZK γ 9).run (.str s)=true:=by unfold ZK;rw[joQ]
theorem eq9 (s t:List Nat):(eqF γ 20 9).run (.str s) (.str t)=some (decide (s=t)):=by
 show(eqF γ (19+1) 9).run (.str s) (.str t)=_;unfold eqF;rw[joQ,<-JH]
theorem jdr (nm:List Nat):∀ ts:List (List Nat),Wy (eqF γ 20 9) (.str nm) (mpl ts)=some (if nm∈ts then some (.int .i64 1) else none)
 |[]=>rfl
 |t :: ts=>by
  show(match (eqF γ 20 9).run (.str nm) (.str t) with|some b=>cond b (some (some (AV.int .i64 1))) (Wy (eqF γ 20 9) (.str nm) (mpl ts))|none=>none)=_;rw[eq9,jdr nm ts];by_cases h:nm=t
  ·simp[h]
  ·simp[h]
theorem jgk (nm:List Nat):∀ ts:List (List Nat),nm∉ts->WW (eqF γ 20 9) (.str nm) (.int .i64 1) (mpl ts)=some (mpl (ts ++ [nm]))
 |[],_=>rfl
 |t :: ts,h=>by
  have h1:nm≠t:=λe=>h (by simp[e]);have h2:=jgk nm ts λe=>h (by simp[e]);show(match (eqF γ 20 9).run (.str nm) (.str t) with
   |some b=>cond b (cond (Ur (.str nm) (.str t)) (some (Qal (AV.str nm,AV.int .i64 1) (mpl ts))) none) (match WW (eqF γ 20 9) (.str nm) (.int .i64 1) (mpl ts) with|some l=>some (Qal (AV.str t,AV.int .i64 1) l)|none=>none)
   |none=>none)=_
  rw[eq9,h2];simp[h1,mpl]
section
variable {st:St} {K:AV->St->Prop}
theorem joK {b:Nat}{ts:List (List Nat)}(h:Mp st b ts)(nm:List Nat):ji (jeL γ 185 false (.map b) (.str nm) st) K=K (.int .i64 (if nm∈ts then 1 else 0)) st:=by
 unfold jeL Q9;rw[jlm];simp only[ze3];show ji (cond ((ZK γ 9).run (.str nm)) (Zh (jx st.h b) λes=>jR (Wy (eqF γ 20 9) (.str nm) es) λo=>_) .no) K=_;rw[kf9,h.get];show ji (jR (Wy (eqF γ 20 9) (.str nm) (mpl ts)) λo=>_) K=_;rw[jdr];by_cases h:nm∈ts
 ·simp only[if_pos h];rfl
 ·simp only[if_neg h];rfl
theorem jri {b:Nat}{ts:List (List Nat)}(h:Mp st b ts){nm:List Nat}(hn:nm∉ts):ji (jjz γ 185 (.map b) (.str nm) (.int .i64 1) st) K=K qd (mp st b (mpl (ts ++ [nm]))):=by
 unfold jjz Jb;rw[jlm];show ji (cond ((ZK γ 9).run (.str nm)) (Zh (jx st.h b) λes=>jR (WW (eqF γ 20 9) (.str nm) (.int .i64 1) es) λes=>st.put b (.map es) λst=>.ok qd st) .no) K=_;rw[kf9,h.get];show ji (jR (WW (eqF γ 20 9) (.str nm) (.int .i64 1) (mpl ts)) λes=>st.put b (.map es) λst=>.ok qd st) K=_;rw[jgk nm ts hn];show ji (st.put b (.map (mpl (ts ++ [nm]))) λst=>.ok qd st) K=_;rw[St.put_eq];rfl
end
set_option maxHeartbeats 4000000 in
theorem kL (hb:NB base){p mb:Nat}{v1 v2 v3:AV}{fm:Bool}{ts:List (List Nat)}{st:St}(C:Cl st p [v1,v2,v3,.map mb,.bool fm])(M:Mp st mb ts)(nm:List Nat)(l c:Int)(K Kp:AV->St->Prop)
  (hK:if nm∈ts then Kp (kf 162 l c) st else K (.tup []) (mp st mb (mpl (ts ++ [nm])))):XB γ base 94 [.ptr p 0,.str nm,.int .i64 l,.int .i64 c] st K Kp:=by
 refine yr x63 (by rfl) (hb.at0 94 dc dc _ _) ?_;simp only[y63,jh,ζ,η,θ,κ];rw[(by unfold z63;simp only[qq];rfl:z63=_)];have M:Mp st.bare mb ts:=⟨M.lt,M.get⟩;have hK:if nm∈ts then Kp (kf 162 l c) (bk st st.bare) else K (.tup []) (bk st (mp st.bare mb (mpl (ts ++ [nm])))):=hK
 have C:=C.bar;have hbk:bk st st.bare=st:=rfl;have hbc:back st st.bare=st:=rfl;have hbb:st.bare.bare=st.bare:=rfl;generalize st.bare=s0 at *;have L1:=λK nm=>joK (st:=s0) (K:=K) M nm;by_cases h:nm∈ts
 ·rw[if_pos h] at hK
  (have zz:=C.r;(repeat'(first|apply jb<;>intro _|simp(disch:=first|exact qk|fail) only[jhe,jlG,L1,h,if_true,zK hb,C.q,C.r,r8,δ,ε])))
  exact hK
 ·rw[if_neg h] at hK;have U1:=λK=>jri (st:=s0) (K:=K) M h
  (have zz:=C.r;(repeat'(first|apply jb<;>intro _|simp(disch:=first|exact qk|fail) only[jhe,jlG,L1,U1,h,if_false,show((0:Int)+1)=1 from rfl,zK hb,C.q,C.r,r8,δ,ε])))
  exact hK
end Go.Sy
end
noncomputable section
set_option maxRecDepth 100000
namespace Go.Sy
open Go.Ev Go.Proofs
variable {base:Bs}
structure Kq (p mb lo:Nat)(s s':St):Prop where
 nx:s.nx<=s'.nx
 fr:s'.fr=s.fr
 get:∀ b,b<lo->b≠p->b≠mb->jx s'.h b=jx s.h b
section
variable {p mb lo:Nat} {s t u:St}
theorem Kq.refl:Kq p mb lo s s:=⟨μ _,rfl,λ_ _ _ _=>rfl⟩
theorem Kq.trans (h:Kq p mb lo s t)(k:Kq p mb lo t u):Kq p mb lo s u:=⟨ψ h.nx k.nx,k.fr.trans h.fr,λb h1 h2 h3=>(k.get b h1 h2 h3).trans (h.get b h1 h2 h3)⟩
theorem Kq.nw (h:Kq p mb lo s t)(hl:lo<=t.nx)(ds:List AV):Kq p mb lo s (Go.Sy.nw t ds):=⟨Qcf h.nx,h.fr,λb h1 h2 h3=>(yn om).trans (h.get b h1 h2 h3)⟩
theorem Kq.wr (h:Kq p mb lo s t){c:Nat}(hc:c=p\/lo<=c)(o:Nat)(vs:List AV):Kq p mb lo s (Go.Sy.wr t c o vs):=⟨h.nx,h.fr,λb h1 h2 h3=>(zI om).trans (h.get b h1 h2 h3)⟩
theorem Kq.kl (h:Kq p mb lo s t){c:Nat}(hc:lo<=c):Kq p mb lo s (Go.Sy.kl c t):=⟨h.nx,h.fr,λb h1 h2 h3=>(vg om).trans (h.get b h1 h2 h3)⟩
theorem Kq.mp (h:Kq p mb lo s t)(es:List (AV×AV)):Kq p mb lo s (Go.Sy.mp t mb es):=⟨h.nx,h.fr,λb h1 h2 h3=>by rw[KD,if_neg h3];exact h.get b h1 h2 h3⟩
theorem Kq.aps (h:Kq p mb lo s t){hi n z:Nat}{v:AV}{ds:List AV}{u:St}(V:Lv lo hi u v n ds z)(hl:lo<=t.nx)(news:List AV):Kq p mb lo s (Go.Sy.aps v t news):=⟨by rw[jk];exact Qcf h.nx,by rw[YA];exact h.fr,λb h1 h2 h3=>(V.get t news b (.inl h1) om).trans (h.get b h1 h2 h3)⟩
theorem Kq.keep (h:Kq p mb lo s t)(k:Keep p t u)(hl:lo<=t.nx):Kq p mb lo s u:=⟨ψ h.nx k.nx,k.fr.trans h.fr,λb h1 h2 h3=>(k.get b om h2).trans (h.get b h1 h2 h3)⟩
theorem Kq.cl (h:Kq p mb lo s t){b:Nat}{cs:List AV}(C:Cl s b cs)(h1:b<lo)(h2:b≠p)(h3:b≠mb):Cl t b cs:=C.keep h.nx (h.get b h1 h2 h3)
theorem Kq.bk (h:Kq p mb lo s.bare t):Kq p mb lo s (bk s t):=⟨h.nx,rfl,h.get⟩
end
theorem Mp.nw {s:St}{b:Nat}{ts:List (List Nat)}(h:Mp s b ts)(ds:List AV):Mp (Go.Sy.nw s ds) b ts:=h.keep (Qbg _) (yn (by have:=h.lt;omega))
theorem Mp.wr {s:St}{b:Nat}{ts:List (List Nat)}(h:Mp s b ts){c:Nat}(hc:b≠c)(o:Nat)(ds:List AV):Mp (Go.Sy.wr s c o ds) b ts:=h.keep (μ _) (zI hc)
theorem WG {s:St}{b c:Nat}{es:List (AV×AV)}{cs:List AV}(h:c≠b):Cl (mp s b es) c cs=Cl s c cs:=propext ⟨λC=>C.keep (QaS (jeF s b es)) (by rw[KD,if_neg h]),λC=>C.keep (μ _) (by rw[KD,if_neg h])⟩
structure MS (p mb lo hi:Nat)(m:ModT)(ts:List (List Nat))(v1 v2 v3:AV)(s:St):Prop where
 cp:Cl s p [v1,v2,v3,.map mb,.bool false]
 mp:Mp s mb ts
 l1:Lv lo hi s v1 m.vars.length (fl vaE m.vars) 7
 l2:Lv lo hi s v2 m.enums.length (fl enE m.enums) 4
 l3:Lv lo hi s v3 m.moves.length (fl moE m.moves) 7
 d12:Df v1 v2
 d13:Df v1 v3
 d23:Df v2 v3
 hp:p<lo
 hm:mb<lo
 pm:p≠mb
 lo:lo<=hi
 hi:hi<=s.nx
def MX (p mb lo:Nat)(m:ModT)(ts:List (List Nat))(s:St):Prop:=∃ v1 v2 v3,MS p mb lo s.nx m ts v1 v2 v3 s
section
variable {p mb lo hi:Nat} {m:ModT} {ts us:List (List Nat)} {v1 v2 v3:AV} {s t:St}
theorem Lv.mp {n z:Nat}{v:AV}{cs:List AV}{es:List (AV×AV)}(h:Lv lo hi s v n cs z)(hm:mb<lo):Lv lo hi (Go.Sy.mp s mb es) v n cs z:=h.imp id λ⟨c,h1,h2,h3,h4,h5,h6⟩=>⟨c,h1,h2,h3,by rw[WG om];exact h4,h5,h6⟩
theorem MS.nw (S:MS p mb lo hi m ts v1 v2 v3 s)(ds:List AV):MS p mb lo hi m ts v1 v2 v3 (Go.Sy.nw s ds):=by
 obtain⟨C,M,l1,l2,l3,d12,d13,d23,hp,hm,pm,h1,h2⟩:=S;exact⟨ckX,M.nw ds,ckX,ckX,ckX,d12,d13,d23,hp,hm,pm,h1,by rw[je];omega⟩
theorem MS.wr (S:MS p mb lo hi m ts v1 v2 v3 s){c:Nat}(hc:hi<=c)(o:Nat)(ds:List AV):MS p mb lo hi m ts v1 v2 v3 (Go.Sy.wr s c o ds):=by
 obtain⟨C,M,l1,l2,l3,d12,d13,d23,hp,hm,pm,h1,h2⟩:=S;exact⟨ckX,M.wr om o ds,ckX,ckX,ckX,d12,d13,d23,hp,hm,pm,h1,by rw[jg];omega⟩
theorem MS.take (S:MS p mb lo hi m ts v1 v2 v3 s)(us:List (List Nat)):MS p mb lo hi m us v1 v2 v3 (Go.Sy.mp s mb (mpl us)):=by
 obtain⟨C,M,l1,l2,l3,d12,d13,d23,hp,hm,pm,h1,h2⟩:=S;exact⟨by rw[WG pm];exact C,M.put,l1.mp hm,l2.mp hm,l3.mp hm,d12,d13,d23,hp,hm,pm,h1,h2⟩
theorem MS.keep (S:MS p mb lo hi m ts v1 v2 v3 s)(k:Keep p s t)(C':Cl t p [v1,v2,v3,.map mb,.bool false]):MS p mb lo hi m ts v1 v2 v3 t:=by
 obtain⟨C,M,l1,l2,l3,d12,d13,d23,hp,hm,pm,h1,h2⟩:=S;exact⟨C',M.keep k.nx (k.get mb M.lt om),k.lv l1 (.inl hp),k.lv l2 (.inl hp),k.lv l3 (.inl hp),d12,d13,d23,hp,hm,pm,h1,ψ h2 k.nx⟩
theorem MS.up (S:MS p mb lo hi m ts v1 v2 v3 s){hi':Nat}(h:hi<=hi')(h2:hi'<=s.nx):MS p mb lo hi' m ts v1 v2 v3 s:=by
 obtain⟨C,M,l1,l2,l3,d12,d13,d23,hp,hm,pm,h1,h3⟩:=S;exact⟨C,M,l1.up h,l2.up h,l3.up h,d12,d13,d23,hp,hm,pm,ψ h1 h,h2⟩
theorem MS.bare (S:MS p mb lo hi m ts v1 v2 v3 s):MS p mb lo hi m ts v1 v2 v3 s.bare:=by
 obtain⟨C,M,l1,l2,l3,d12,d13,d23,hp,hm,pm,h1,h2⟩:=S;exact⟨C.bar,⟨M.lt,M.get⟩,by rw[jH];exact l1,by rw[jH];exact l2,by rw[jH];exact l3,d12,d13,d23,hp,hm,pm,h1,h2⟩
theorem MS.ofbk {u:St}(S:MS p mb lo hi m ts v1 v2 v3 s):MS p mb lo hi m ts v1 v2 v3 (bk u s):=by
 obtain⟨C,M,l1,l2,l3,d12,d13,d23,hp,hm,pm,h1,h2⟩:=S;have e:∀ b cs,Cl s b cs->Cl (bk u s) b cs:=λb cs h=>⟨h.lt,h.row,h.len,h.cell⟩;have el:∀ v n cs z,Lv lo hi s v n cs z->Lv lo hi (bk u s) v n cs z:=λv n cs z h=>h.imp id λ⟨c,h1,h2,h3,h4,h5,h6⟩=>⟨c,h1,h2,h3,e _ _ h4,h5,h6⟩;exact⟨e _ _ C,⟨M.lt,M.get⟩,el _ _ _ _ l1,el _ _ _ _ l2,el _ _ _ _ l3,d12,d13,d23,hp,hm,pm,h1,h2⟩
theorem MS.enum (S:MS p mb lo hi m ts v1 v2 v3 s)(e:EnumT):MS p mb lo (s.nx+1) { m with enums:=m.enums ++ [e] } ts v1 (apv 4 v2 s) v3 (Go.Sy.wr (Go.Sy.aps v2 s (enE e)) p 1 [apv 4 v2 s]):=by
 obtain⟨C,M,l1,l2,l3,d12,d13,d23,hp,hm,pm,h1,h2⟩:=S;have h4:=C.lt;have hn:(Go.Sy.wr (Go.Sy.aps v2 s (enE e)) p 1 [apv 4 v2 s]).nx=s.nx+1:=by rw[jg,jk]
 refine⟨?_,?_,?_,?_,?_,(Df.put l1 h2).2,d13,(Df.put l3 h2).1,hp,hm,pm,om,by rw[hn];exact μ _⟩
 ·exact(cast (l2.cl s (enE e) _ p (.inl hp) h4).symm C:Cl (Go.Sy.aps v2 s (enE e)) p _).wr 1 [apv 4 v2 s]
 ·exact M.keep (by rw[hn];omega) (by rw[zI (λh=>pm h.symm)];exact l2.get s (enE e) mb (.inl hm) M.lt)
 ·rw[jC (.inl hp)];exact(l1.apsD (Df.symm d12)).up om
 ·rw[jC (.inl hp),υ,QY,JX];exact l2.put (Qn e) om rfl
 ·rw[jC (.inl hp)];exact(l3.apsD d23).up om
end
def KM (p mb lo:Nat)(st:St)(r:KR (ModT×List (List Nat)))(K Kp:AV->St->Prop):Prop:=match r with
 |.ok y=>∀ s',Kq p mb lo st s'->MX p mb lo y.1 y.2 s'->K (.tup []) s'
 |.er c l k=>∀ s',Kq p mb lo st s'->Kp (kf c l k) s'
def Q6 (ts:List (List Nat))(nm:List Nat)(l c:Int):KR (List (List Nat)):=if nm∈ts then .er 162 l c else .ok (ts ++ [nm])
def zf (l c:Int):List (List Nat)->List (List Nat)->KR (List (List Nat))
 |ts,[]=>.ok ts
 |ts,n :: ns=>match Q6 ts n l c with
  |.er a b d=>.er a b d
  |.ok ts=>zf l c ts ns
def vT (m:ModT)(ts:List (List Nat))(e:EnumT):KR (ModT×List (List Nat)):=match zf e.line e.col ts (e.name :: e.vals) with
 |.er a b d=>.er a b d
 |.ok ts=>.ok ({ m with enums:=m.enums ++ [e] },ts)
theorem u6 {l c:Int}:∀ {xs ys:List (List Nat)} {ts:List (List Nat)},zf l c ts (xs ++ ys)=match zf l c ts xs with | .er a b d=>.er a b d | .ok us=>zf l c us ys
 |[],ys,ts=>rfl
 |x :: xs,ys,ts=>by
  simp only[Qad,zf];cases Q6 ts x l c with
  |er a b d=>rfl
  |ok us=>exact u6
set_option maxHeartbeats 4000000 in
theorem jp7 (hb:NB base)(hcl:∀ vs:List (List Nat),0<vs.length->vs.length<=1000000->Tot base 127 [.lst vs.length (vs.map .str)] (.lst vs.length (vs.map .str))){p mb lo:Nat}{m:ModT}{ts:List (List Nat)}{st:St}(e:EnumT)(hv:0<e.vals.length)(hv2:e.vals.length<=1000000)(hE:m.enums.length<=1000000)(H:MX p mb lo m ts st)(K Kp:AV->St->Prop)(hK:KM p mb lo st (vT m ts e) K Kp):XB γ base 92 [.ptr p 0,.agg (enE e)] st K Kp:=by
 obtain⟨v1,v2,v3,S⟩:=H;obtain⟨C,M,l1,l2,l3,d12,d13,d23,hp,hm,pm,lo0,hi0⟩:=id S;refine yr x61 (by rfl) (hb.at0 92 dc dc _ _) ?_;simp only[y61,jh,ζ,η,θ,κ];rw[(by unfold z61;simp only[qq];rfl:z61=_)];have q0:Kq p mb lo st.bare st.bare:=Kq.refl;have hnx:st.bare.nx=st.nx:=rfl;have S0:=S.bare.nw (enE e);have q1:=q0.nw lo0 (enE e);have Cb:Cl (Go.Sy.nw st.bare (enE e)) st.nx (enE e):=Cl.new st.bare (enE e);unfold vT at hK;repeat'(first|apply jb<;>intro _|simp(disch:=first|exact dzG|fail) only[r8,δ,ε])
 refine kL hb S0.cp S0.mp _ _ _ _ _ ?_;by_cases h:e.name∈ts
 ·rw[if_pos h];have e1:zf e.line e.col ts (e.name :: e.vals)=.er 162 e.line e.col:=by simp only[zf,Q6,if_pos h]
  rw[e1] at hK;exact hK _ q1.bk
 ·rw[if_neg h];have e1:zf e.line e.col ts (e.name :: e.vals)=zf e.line e.col (ts ++ [e.name]) e.vals:=by simp only[zf,Q6,if_neg h]
  rw[e1] at hK
  replace S0:=S0.take (ts ++ [e.name])
  replace q1:=q1.mp (mpl (ts ++ [e.name]))
  have Cb:Cl (Go.Sy.mp (Go.Sy.nw st.bare (enE e)) mb (mpl (ts ++ [e.name]))) st.nx (enE e):=by rw[WG om];exact Cb
  have hn1:(Go.Sy.mp (Go.Sy.nw st.bare (enE e)) mb (mpl (ts ++ [e.name]))).nx=st.nx+1:=rfl;generalize Go.Sy.mp (Go.Sy.nw st.bare (enE e)) mb (mpl (ts ++ [e.name]))=s1 at *
  (have zz:=@Cb.r;(repeat'(first|apply jb<;>intro _|simp(disch:=first|exact qk|fail) only[Cb.q,Cb.r,r8,δ,ε])))
  refine jZ e.vals.length (λk L s=>∃ us,zf e.line e.col (ts ++ [e.name]) (e.vals.take k)=.ok us/\MS p mb lo st.nx m us v1 v2 v3 s/\Kq p mb lo st.bare s/\st.nx+1<=s.nx/\Cl s st.nx (enE e)/\Has L 0 (.ptr p 0)/\Has L 3 (.ptr st.nx 0)/\Has L 15 (.lst e.vals.length (e.vals.map .str))) ?_ (λk L s hk hI hi hn=>?_) (λL s hI=>?_)
  ·refine⟨_,by rw[QaC,zf],S0,q1,om,Cb,?_,?_,?_⟩<;>exact hsX
  ·obtain⟨us,h1,S1,q1,hnn,Cb,i0,i3,i15⟩:=hI;have tk:e.vals.take (k+1)=e.vals.take k ++ [e.vals[k]]:=zr hk
   (have zz:=@Cb.r;(repeat'(first|apply jb<;>intro _|simp(disch:=first|exact qk|fail) only[ja i0,ja i3,ja i15,ja hi,ja hn,jfX hk,Cb.q,Cb.r,r8,δ,ε])))
   refine kL hb S1.cp S1.mp _ _ _ _ _ ?_;by_cases h:e.vals[k]∈us
   ·rw[if_pos h];have e2:zf e.line e.col (ts ++ [e.name]) e.vals=.er 162 e.line e.col:=by
     have e3:e.vals=e.vals.take k ++ (e.vals[k] :: e.vals.drop (k+1)):=by rw[QbH,Qbt]
     rw[e3,u6,h1];simp only[zf,Q6,if_pos h]
    rw[e2] at hK;exact hK _ q1.bk
   ·rw[if_neg h];have e2:zf e.line e.col (ts ++ [e.name]) (e.vals.take (k+1))=.ok (us ++ [e.vals[k]]):=by
     rw[tk,u6,h1];simp only[zf,Q6,if_neg h]
    repeat'(first|apply jb<;>intro _|simp(disch:=first|exact dzG|fail) only[r8,δ,ε])
    refine⟨⟨_,e2,S1.take _,q1.mp _,by rw[jeF];exact hnn,by rw[WG om];exact Cb,?_,?_,?_⟩,?_,?_⟩<;>exact hsX
  ·obtain⟨us,h1,S1,q1,hnn,Cb,i0,i3,i15⟩:=hI;rw[Qah] at h1;rw[h1] at hK;have T:=λ(h:0<e.vals.length)=>hcl e.vals h hv2;have Cp:=S1.cp;have V2:=S1.l2;have ve2:=V2.eqs;have Ap:=λst' bv xc xx K h hv=>@JR lo st.nx m.enums.length 4 st' v2 (fl enE m.enums) K 56 bv xc xx h dc om om hv;have hqp:st.nx≠p:=om
   have S2:=(S1.nw (enE e)).enum e;have S2:=(S2.up (by(first|omega|(simp only[je,jg,jo,jk,jj];first|done|omega))) (μ _)).ofbk (u:=st);have q2:=(((q1.nw om (enE e)).aps V2 (by(first|omega|(simp only[je,jg,jo,jk,jj];first|done|omega))) (enE e)).wr (.inl rfl) 1 [apv 4 v2 (Go.Sy.nw s (enE e))]).bk;have g0:rat s.h st.nx 0=.str e.name:=(Cb.cell 0 (by rw[Qn];decide)).trans (by rw[jfi];rfl);have g2:rat s.h st.nx 2=.int .i64 e.line:=(Cb.cell 2 (by rw[Qn];decide)).trans (by rw[jfi];rfl);have g3:rat s.h st.nx 3=.int .i64 e.col:=(Cb.cell 3 (by rw[Qn];decide)).trans (by rw[jfi];rfl);have gp:rat s.h p 1=v2:=Cp.cell 1 (by simp only[ν,φ];omega);have ln:qh s.h st.nx=4:=by rw[Cb.len,Qn]
   (have zz:=a8 V2.ln V2.rts @jC @jG @jJ @V2 @jB (a4 @jI @jM @Cb.r @Cp.r);(repeat'(first|apply jb<;>intro _|simp(disch:=first|exact qk|fail) only[ja i0,ja i3,T hv,Ap,gC,sm9,gB,sm3,ve2,V2.at,jB,Cb.q,Cp.q,V2.ln,V2.rts,jC,jG,jJ,V2,jB,jI,jM,Cb.r,Cp.r,r8,δ,ε])))
   have a9:=(sm9 om g0 rfl).mpr trivial;have a2:=(sm3 om g2 rfl).mpr trivial;have a3:=(sm3 om g3 rfl).mpr trivial;have a23:=(gC (by rw[Cp.len];simp only[ν,φ];omega) gp ve2).mpr trivial;repeat' apply aI
   all_goals first|exact a9|exact a23|exact a2|exact a3|exact hK _ q2 ⟨_,_,_,S2⟩
mutual
def JD:Ex->Option Ex
 |.mk op num name ks l c=>if op=4 then some (.mk op num name ks l c) else zJ ks
def zJ:List Ex->Option Ex
 |[]=>none
 |x :: xs=>match JD x with
  |some y=>some y
  |none=>zJ xs
end
theorem vS (x:Ex):JD x=if x.op=4 then some x else zJ x.kids:=by cases x;rw[JD];rfl
theorem uh:∀ {xs ys:List Ex},zJ (xs ++ ys)=match zJ xs with|some y=>some y|none=>zJ ys
 |[],ys=>rfl
 |x :: xs,ys=>by
  simp only[Qad,zJ];cases JD x with
  |some y=>rfl
  |none=>exact uh
def z8 (x:Ex):Ex×Bool:=match JD x with
 |some y=>(y,true)
 |none=>(x,false)
theorem G0.exb {s:St}{a:List AV}{b:Bool}{u:AV}(h:u=.tup [.agg a,.bool b])(ha:a.all pc=true):G0 u (.tup [.agg a,.bool b]) s:=by
 subst h;exact FzD.tup (.cons (.agg (.pc ha)) (.cons (.pc rfl) .nil))
set_option maxHeartbeats 4000000 in
theorem jmU (hb:NB base):∀ x:Ex,ZT x=true->Tot base 131 [.agg (eE x)] (.tup [.agg (eE (z8 x).1),.bool (z8 x).2]):=by
 refine Ex.indk λx ih hw=>?_;have hw':x.kids.length<=1000000/\Yi x.kids=true:=by cases x;rw[ZT,χ,decide_eq_true_eq] at hw;exact hw
 refine hb.tot ?_ (by first|rfl|simp[pa,pc,q9,QJ,JE,Jj,Yl,ZY,Z6,QD,Zk]) rfl;refine jF jty (by rfl) (hb.pur 131 1 dc) ?_;simp only[jov,jh,ζ,η,θ,κ];rw[(by unfold jjl;simp only[qq];rfl:jjl=_)];repeat'(first|apply jb<;>intro _|simp(disch:=first|exact dzG|fail) only[r8,δ,ε])
 ·rename_i h;have e:z8 x=(x,true):=by unfold z8;rw[vS,if_pos h]
  rw[e];exact G0.exb rfl (q9 x)
 rename_i h;have e0:JD x=zJ x.kids:=by rw[vS,if_neg h]
 refine jZ x.kids.length (λk L s=>zJ (x.kids.take k)=none/\2<=s.nx/\Cl s 0 (eE x)/\Cl s 1 z6/\Has L 1 (.ptr 0 0)/\Has L 2 (.ptr 1 0)/\Has L 13 (.lst x.kids.length (fl eE x.kids))) ?_ (λk L s hk hI hi hn=>?_) (λL s hI=>?_)
 ·refine⟨by rw[QaC,zJ],by(first|omega|(simp only[je,jg,jo,jk,jj];first|done|omega)),?_,Cl.new _ _,?_,?_,?_⟩
  ·have n0:=Cl.new st0 (eE x);exact n0.nw _
  all_goals simp(disch:=decide) only[jf,jn]
 ·obtain⟨h1,h2,C0,C1,i1,i2,i13⟩:=hI;have E:=ih x.kids[k] (Qaf hk) (WU hk hw'.2);have tk:x.kids.take (k+1)=x.kids.take k ++ [x.kids[k]]:=zr hk;cases hf:JD x.kids[k] with
  |some y=>
   have e:z8 x=(y,true):=by
    unfold z8;have e3:x.kids=x.kids.take k ++ (x.kids[k] :: x.kids.drop (k+1)):=by rw[QbH,Qbt]
    rw[e0,e3,uh,h1];simp only[zJ,hf]
   have e2:z8 x.kids[k]=(y,true):=by unfold z8;rw[hf]
   rw[e2] at E;unfold z6 at C1
   (have zz:=aI C0.r C1.r;(repeat'(first|apply jb<;>intro _|simp(disch:=first|exact qk|fail) only[ja i1,ja i2,ja i13,ja hi,ja hn,E,C0.q,C1.q,C0.r,C1.r,r8,δ,ε])))
   rw[e];exact G0.exb rfl (q9 y)
  |none=>
   have e2:z8 x.kids[k]=(x.kids[k],false):=by unfold z8;rw[hf]
   rw[e2] at E
   (have zz:=aI C0.r C1.r;(repeat'(first|apply jb<;>intro _|simp(disch:=first|exact qk|fail) only[ja i1,ja i2,ja i13,ja hi,ja hn,E,C0.q,C1.q,C0.r,C1.r,r8,δ,ε])))
   refine⟨⟨?_,by(first|omega|(simp only[je,jg,jo,jk,jj];first|done|omega)),ckX,ckX,?_,?_,?_⟩,?_,?_⟩
   ·rw[tk,uh,h1];simp only[zJ,hf]
   all_goals exact hsX
 ·obtain⟨h1,h2,C0,C1,i1,i2,i13⟩:=hI;rw[Qah] at h1;have e:z8 x=(x,false):=by unfold z8;rw[e0,h1]
  unfold z6 at C1
  (have zz:=aI C0.r C1.r;(repeat'(first|apply jb<;>intro _|simp(disch:=first|exact qk|fail) only[ja i1,ja i2,C0.q,C1.q,C0.r,C1.r,r8,δ,ε])))
  rw[e,<-qt];exact G0.exb rfl (q9 x)
end Go.Sy
end
