/-
  Contracts: the code lowered, what it does told by rules, and the contracts of the functions that the law reaches.
-/
import Derived.Test.YtbpohnnpklbmeaaGreatDoorPsSyC
import Derived.Test.YtbpohnnpklbmeaaGreatDoorProg
import Derived.KernelRfl
import Derived.ChangeArms
set_option linter.unusedVariables false
set_option linter.unusedSimpArgs false
open Nat renaming reduceAdd → γ, reduceSub → δ, reduceMul → ε, reduceBEq → η, le_refl → φ, le_trans → ω, zero_add → Qab, zero_le → Qaf, le_max_left → Qak, le_max_right → Qal, lt_or_ge → Qar, lt_of_lt_of_le → Qas, le_of_eq → QaA, add_mul → QaC, sub_zero → QaH, not_lt_zero → QaM, succ_pos → QaR, mul_le_mul_right → QaT, add_zero → QaV, zero_mul → Qba, succ_mul → Qbb, succ_lt_succ → Qbc, min_eq_left → Qbd, one_mul → Qbe, mod_eq_of_lt → Qbh, le_of_lt → Qbl, lt_succ_self → Qbm, ne_of_lt → Qbp, add_assoc → Qbt, lt_irrefl → Qbx, lt_trichotomy → QbQ, pow_le_pow_right → QbX, beq → Qcb, succ → Qcc, ble → Qcd, add → Qce, mul → Qcf, sub → Qcg
open Int renaming reduceToNat → ζ, natCast_zero → κ, zero_add → μ, ofNat → Qaq, eq_ofNat_of_zero_le → Qbq, natCast_nonneg → QbA, toNat_natCast → QbL
open Go.Proofs.Tryz renaming prog → θ
open List renaming map_cons → ν, map_nil → ξ, getD_cons_zero → τ, getD_cons_succ → υ, length_cons → χ, length_nil → ψ, range' → Qaa, getD → Qac, range → Qae, length_append → Qag, all_eq_true → Qah, getElem?_eq_getElem → Qaj, getElem_mem → Qam, length_drop → Qan, cons → Qao, getD_eq_getElem?_getD → Qap, length_take → Qav, take_length → Qaw, cons_append → Qay, all_cons → Qaz, mem_cons → QaF, nil_append → QaG, length_map → QaN, drop_zero → QaO, map_map → QaP, eq_nil_of_length_eq_zero → QaQ, mem_append → QaU, map_congr_left → QaW, drop_drop → QaX, range'_succ → QaY, take_zero → Qbf, append_nil → Qbj, mem_range → Qbk, mem_cons_of_mem → Qbn, mem_singleton → Qbo, ext_getElem → Qbr, take_take → Qbs, getElem?_map → Qbv, map_toArray → Qbw, drop_take → Qbz, foldr_cons → QbB, all_append → QbD, take_succ_cons → QbG, getElem_cons_succ → QbH, length_pos_iff → QbI, getElem?_take → QbJ, getElem?_drop → QbK, getElem?_append_left → QbN, getElem?_append_right → QbO, foldl_append → QbR, mem_append_left → QbT, countP_singleton → QbU, drop_eq_getElem_cons → QbV, getElem_cons_zero → QbW, mem_cons_self → QbY
open Bool renaming and_eq_true → Qad, eq_iff_iff → Qax, eq_false_iff → QaB, or_eq_true → QaE, false_eq_true → QaI, not_eq_true' → QaL, true_and → QaZ, false_and → Qbg, true_eq_false → Qby, or_eq_false_iff → QbC
open Array renaming length_toList → Qai, getElem?_eq_some_iff → Qau, replicate → QaD, toList_map → Qbi, getD_eq_getD_getElem? → QbE, getElem?_toList → QbF, toList_append → QbP, mem_toList_iff → QbS, getElem?_eq_getElem → QbZ, getElem?_setIfInBounds_ne → Qca
open Option renaming map_some → Qat, getD_some → QaJ, bind_some → QaK, map_none → QaS, map_eq_some_iff → Qbu
open Function renaming comp_def → QbM
noncomputable section
set_option maxRecDepth 100000
namespace Go.Sy
open Go.Ev Go.Proofs
variable {base:Bs}
structure AsT where
 name:List Nat
 to:Ex
 line:Int
 col:Int
def asE (a:AsT):List AV:=.str a.name :: (eE a.to ++ [.int .i64 (a.line:Int),.int .i64 (a.col:Int)])
theorem YM (a:AsT):(asE a).length=9:=nr (by simp[asE,Jr])
theorem V4 (a:AsT):(asE a).all pc=true:=nr (by simp[asE,Jc,pc])
theorem KY (a:AsT):lall AV.cell (asE a)=true:=nr (by unfold asE;rw[qO];rfl)
structure RuleT where
 when:Ex
 acts:List AsT
def ruE (r:RuleT):List AV:=eE r.when ++ [.lst r.acts.length (fl asE r.acts)]
def zf (ts:List Tk):Nat->Nat->List AsT->SR (List AsT)
 |0,i,_=>.er (tk ts i)
 |n+1,i,vs=>if(tk ts i).kind=1 then
   (if 32<=vs.length then .er (tk ts i)
    else if isM (tk ts (i+1)) [[58,61]]=true then(match qM ts (i+2) with
     |.er t=>.er t
     |.ok x j=>
      if isM (tk ts j) [[44]]=true then zf ts n (j+1) (vs ++ [⟨(tk ts i).text,x,(tk ts i).line,(tk ts i).col⟩])
      else if isM (tk ts j) [[59]]=true then .ok (vs ++ [⟨(tk ts i).text,x,(tk ts i).line,(tk ts i).col⟩]) (j+1)
      else .er (tk ts j))
    else .er (tk ts (i+1)))
  else .er (tk ts i)
def JB (ts:List Tk)(i:Nat):SR RuleT:=
 match qM ts i with
 |.er t=>.er t
 |.ok x j=>if isM (tk ts j) [[100,111]]=true then(match zf ts ts.length (j+1) [] with
   |.ok vs k=>.ok ⟨x,vs⟩ k
   |.er t=>.er t)
  else .er (tk ts j)
theorem jiS:Go.Ev.isAgg θ 101=some false:=by kernel_rfl
theorem jiR:Go.Ev.sizeOf θ 101=some 1:=by kernel_rfl
theorem XZ {b o:Nat}{v:AV}{h:T AO}(ho:o<qz h b)(hv:rat h b o=v)(hc:eqs v=true):(jW θ 101 (.ptr b o) v h=true)=True:=eq_true (J2 jiS jiR ho hv hc)
theorem sm3 {b o:Nat}{v:AV}{h:T AO}(ho:o<qz h b)(hv:rat h b o=v)(hc:eqs v=true):(jW θ 3 (.ptr b o) v h=true)=True:=eq_true (J2 jiQ jiP ho hv hc)
set_option maxHeartbeats 4000000 in
theorem ji0 (hb:NB base){ts:List Tk}(W:Wds ts){i:Nat}(hi:i<ts.length):AnS base 129 (pC ts i 0) [] ts 0 (λe=>.agg (ruE e)) (JB ts i):=by
 have wl:=W.len;have A:=Uj hb W hi;unfold JB;cases hw:qM ts i with
 |er t=>
  rw[hw] at A;obtain⟨i',d',A⟩:=A;have E:∀ st p,Cl st p (pC ts i 0)->∀ K Kp,XB θ base 48 [.ptr p 0] st K Kp=_:=λst p C K Kp=>A.xb C rfl (λst=>hb.no 48 dc _ _) K Kp;refine⟨i',d',?_⟩;unfold pC at *;refine jC jeG (by rfl) (hb.pur 129 3 dc) rfl ?_;simp only[jaF,jn,ν,ξ,τ,υ];rw[(by unfold Wm;simp only[qq];rfl:Wm=_)];repeat'(first|apply jd<;>intro _|simp(disch:=first|exact dzD|fail) only[E,r6,γ,δ,ε,ζ,η])
  (refine G1.done ?_ (by rfl) (by rfl) ?_;(· (first|exact cyD|fail));(· first|exact vyD|skip))
 |ok x j=>
  rw[hw] at A;have A:PM _ _ _ _ _ _ _:=A;rw[qO] at A;have hj:j<ts.length:=(yU W hi hw).2.1;have E:∀ st p,Cl st p (pC ts i 0)->∀ K Kp,XB θ base 48 [.ptr p 0] st K Kp=_:=λst p C K Kp=>A.xb C rfl (λst=>hb.no 48 dc _ _) K Kp;have M:=λst p=>@JL base hb ts j 0 hj om [100,111] st p;dsimp only;by_cases c1:isM (tk ts j) [[100,111]]=true
  ·rw[if_pos c1];have hj1:=W.isM hj c1;suffices h:∀ r:SR RuleT,(match zf ts ts.length (j+1) [] with | .ok vs k=>SR.ok ⟨x,vs⟩ k | .er t=>.er t)=r->AnS base 129 (pC ts i 0) [] ts 0 (λe=>.agg (ruE e)) r from h _ rfl
   intro r hr;refine Zr jeG (by rfl) (hb.pur 129 3 dc) ?_;simp only[jaF,jn,ν,ξ,τ,υ];rw[(by unfold Wm;simp only[qq];rfl:Wm=_)];unfold pC at *;repeat'(first|apply jd<;>intro _|simp(disch:=first|exact dzD|fail) only[E,M,c1,r6,γ,δ,ε,ζ,η])
   refine yF λu hu=>?_;have n0:u.nx=3:=by rw[hu];rfl
   have C0:Cl u 0 (pC ts (j+1) 0):=by
    rw[hu];unfold pC
    (first|exact cyD|fail)
   have C1:Cl u 1 [.int .i64 0,.int .i64 0,.str [],.nils,.int .i64 0,.int .i64 0,.nils]:=by
    rw[hu]
    (first|exact cyD|fail)
   have C2:Cl u 2 [.int .i64 x.op,.int .i64 x.num,.str x.name,.lst x.kids.length (fl eE x.kids),.int .i64 x.line,.int .i64 x.col,.nils]:=by
    rw[hu]
    (first|exact cyD|fail)
   clear hu E M A;refine qB (λmm L s=>∃ (m i':Nat) (vs:List AsT) (v:AV),mm=m/\ts.length<=i'+m/\i'<ts.length/\(match zf ts m i' vs with | .ok vs k=>SR.ok ⟨x,vs⟩ k | .er t=>.er t:SR RuleT)=r/\3<=s.nx/\Cl s 0 (pC ts i' 0)/\Cl s 1 [.int .i64 0,.int .i64 0,.str [],.nils,.int .i64 0,.int .i64 0,.nils]/\Cl s 2 [.int .i64 x.op,.int .i64 x.num,.str x.name,.lst x.kids.length (fl eE x.kids),.int .i64 x.line,.int .i64 x.col,v]/\Lv 3 s.nx s v vs.length (fl asE vs) 9/\Has L 0 (.ptr 0 0)/\Has L 2 (.ptr 1 0)/\Has L 3 (.ptr 2 0)) ?_ ts.length ?_
   ·rintro m L s ⟨_,i',vs,v,rfl,hm,hi',hl,n0,C0,C1,C2,V,i0,i2,i3⟩;clear hr;cases m with
    |zero=>omega
    |succ m=>
    unfold zf at hl;obtain⟨q0,hq0⟩:∃ q,q=s.nx:=⟨_,rfl⟩;rw[<-hq0] at V;have hq':q0<=s.nx:=QaA hq0;have hN:=λst p=>@X4 base hb ts i' 0 hi' st p;have hM:=λst p=>@wi base hb ts i' 0 hi' om st p;have L0:=C0.lt;have L1:=C1.lt;have L2:=C2.lt;have ve:=V.eqs;have g3:rat s.h 2 6=v:=C2.cell 6 (by simp);have vl:=V.len;by_cases k1:(tk ts i').kind=1
    ·rw[if_pos k1] at hl;have k1':((tk ts i').kind:Int)=1:=om
     have hi1:i'+1<ts.length:=W.next i' hi' om
     by_cases h32:32<=vs.length
     ·rw[if_pos h32] at hl;have hl:SR.er (tk ts i')=r:=hl;subst hl;have R:=YQ hb h32 (tk ts i');unfold pC at *
      (have zz:=aI @g3 (aI C0.r (aI C1.r C2.r));(repeat'(first|apply jd<;>intro _|simp(disch:=first|exact jK|fail) only[ja i0,ja i2,ja i3,hN,k1',vl,R,XZ,ve,zb,C0.q,C1.q,C2.q,g3,C0.r,C1.r,C2.r,r6,γ,δ,ε,ζ,η]));all_goals clear zz)
      refine⟨i',0,?_⟩;unfold pC
      (refine G1.done ?_ (by rfl) (by rfl) ?_;(· (have zz:=aI C0.q (aI C1.q (aI C2.q (aI C0.r (aI C1.r C2.r))));first|exact ju|fail));(· first|exact vyD|skip))
     ·rw[if_neg h32] at hl;have R:=YP hb (show vs.length<32 by omega) (tk ts i');have M1:=λst p=>@JL base hb ts (i'+1) 0 hi1 om [58,61] st p;by_cases c2:isM (tk ts (i'+1)) [[58,61]]=true
      ·rw[if_pos c2] at hl;have hi2:=W.isM hi1 c2;have A:=Uj hb W hi2;cases hw2:qM ts (i'+2) with
       |er t=>
        rw[hw2] at hl A;have hl:SR.er t=r:=hl;subst hl;obtain⟨i2',d2,A⟩:=A;have E:∀ st p,Cl st p (pC ts (i'+2) 0)->∀ K Kp,XB θ base 48 [.ptr p 0] st K Kp=_:=λst p C K Kp=>A.xb C rfl (λst=>hb.no 48 dc _ _) K Kp;unfold pC at *
        (have zz:=aI @g3 (aI @zx (aI @zY (aI C0.r (aI C1.r C2.r))));(repeat'(first|apply jd<;>intro _|simp(disch:=first|exact jK|fail) only[ja i0,ja i2,ja i3,hN,hM,k1,k1',vl,R,M1,c2,E,XZ,sm9,sm3,ve,zb,Uf,jeF,jeE (base:=base),C0.q,C1.q,C2.q,g3,zx,zY,C0.r,C1.r,C2.r,r6,γ,δ,ε,ζ,η]));all_goals clear zz)
        refine⟨i2',d2,?_⟩;unfold pC
        (refine G1.done ?_ (by rfl) (by rfl) ?_;(· (have zz:=aI C0.q (aI C1.q (aI C2.q (aI C0.r (aI C1.r C2.r))));first|exact ju|fail));(· first|exact vyD|skip))
       |ok y q=>
        rw[hw2] at hl A;dsimp only at hl;have A:PM _ _ _ _ _ _ _:=A;rw[qO] at A;have hq:q<ts.length:=(yU W hi2 hw2).2.1;have hq2:i'+3<=q:=(yU W hi2 hw2).1;have E:∀ st p,Cl st p (pC ts (i'+2) 0)->∀ K Kp,XB θ base 48 [.ptr p 0] st K Kp=_:=λst p C K Kp=>A.xb C rfl (λst=>hb.no 48 dc _ _) K Kp;have T:=Q8 hb hq (d:=0) om [[44]] (cs:=[.str [44]]) (n:=1) rfl rfl dc;have M:=λst p=>@JL base hb ts q 0 hq om [59] st p;have Ap:=λst bv xc xx K h hv=>@Qr 3 q0 vs.length 9 st v (fl asE vs) K 104 bv xc xx h dc om om hv;obtain⟨a,hav⟩:∃ a:AsT,a=⟨(tk ts i').text,y,(tk ts i').line,(tk ts i').col⟩:=⟨_,rfl⟩;rw[<-hav] at hl;have ea:asE a=[.str (tk ts i').text,.int .i64 y.op,.int .i64 y.num,.str y.name,.lst y.kids.length (fl eE y.kids),.int .i64 y.line,.int .i64 y.col,.int .i64 ((tk ts i').line:Int),.int .i64 ((tk ts i').col:Int)]:=by rw[hav];unfold asE;rw[qO];rfl
        have V2:∀ st m',Lv 3 q0 st v vs.length (fl asE vs) 9->3<=st.nx->m'=st.nx+1->Lv 3 m' (aps v st [.str (tk ts i').text,.int .i64 y.op,.int .i64 y.num,.str y.name,.lst y.kids.length (fl eE y.kids),.int .i64 y.line,.int .i64 y.col,.int .i64 ((tk ts i').line:Int),.int .i64 ((tk ts i').col:Int)]) (apv 9 v st) (vs ++ [a]).length (fl asE (vs ++ [a])) 9:=λst m' h h2 h3=>by
         rw[Qag,Jp,zu,ea];exact h.put rfl h2 h3
        unfold pC at *
        (have zz:=aI @g3 (aI @zx (aI @zY (aI V.ln (aI V.rts (aI @jp (aI @jt (aI @jx (aI @V (aI @jk (aI @jm (aI @jq (aI C0.r (aI C1.r C2.r)))))))))))));(repeat'(first|apply jd<;>intro _|simp(disch:=first|exact jK|fail) only[ja i0,ja i2,ja i3,hN,hM,k1,k1',vl,R,M1,c2,E,XZ,sm9,sm3,ve,Ap,V.at,jk,C0.q,C1.q,C2.q,g3,zx,zY,V.ln,V.rts,jp,jt,jx,V,jk,jm,jq,C0.r,C1.r,C2.r,r6,γ,δ,ε,ζ,η]));all_goals clear zz)
        rw[T _ 0 (s.nx+1+1+1) 1 true (by(have zz:=aI C0.q (aI C1.q (aI C2.q (aI @g3 (aI V.ln (aI V.rts (aI @jk (aI @jm (aI @jq (aI C0.r (aI C1.r C2.r))))))))));first|exact ju|fail)) (by(have zz:=aI C0.q (aI C1.q (aI C2.q (aI @g3 (aI V.ln (aI V.rts (aI @jk (aI @jm (aI @jq (aI C0.r (aI C1.r C2.r))))))))));first|exact ju|fail)) om]
        (have zz:=aI @g3 (aI V.ln (aI V.rts (aI @jk (aI @jm (aI @jq (aI C0.r (aI C1.r C2.r)))))));(repeat'(first|apply jd<;>intro _|simp(disch:=first|exact jK|fail) only[ja i0,ja i2,ja i3,M,V.at,jk,C0.q,C1.q,C2.q,g3,V.ln,V.rts,jk,jm,jq,C0.r,C1.r,C2.r,r6,γ,δ,ε,ζ,η]));all_goals clear zz)
        ·rename_i c;rw[if_pos c] at hl;have hi2':=W.isM hq c;refine⟨m,om,m,q+1,vs ++ [a],?v,rfl,om,hi2',hl,om,?c0,?c1,?c2,?lv,?has⟩;case lv=>
          refine Lv.up (hi:=s.nx+3) ?_ om;simp(disch:=first|omega|(simp only[jf,je,jh,jg];omega)) only[jp,jt,jx];refine V2 _ _ ?_ ?_ ?_;all_goals first|(simp only[jf,je];done)|(simp only[jf,je];omega)|(simp(disch:=first|omega|(simp only[jf,je];omega)) only[jp,jt];exact V)
         case c0=>(have zz:=aI C0.q (aI C1.q (aI C2.q (aI @g3 (aI V.ln (aI V.rts (aI @jk (aI @jm (aI @jq (aI C0.r (aI C1.r C2.r))))))))));first|exact ju|fail)
         case c1=>(have zz:=aI C0.q (aI C1.q (aI C2.q (aI @g3 (aI V.ln (aI V.rts (aI @jk (aI @jm (aI @jq (aI C0.r (aI C1.r C2.r))))))))));first|exact ju|fail)
         case c2=>(have zz:=aI C0.q (aI C1.q (aI C2.q (aI @g3 (aI V.ln (aI V.rts (aI @jk (aI @jm (aI @jq (aI C0.r (aI C1.r C2.r))))))))));first|exact ju|fail)
         case has=>simp(disch:=decide) only[h12,i0,i2,i3]
        ·rename_i c c4;rw[if_neg c,if_pos c4] at hl;have hl:SR.ok (⟨x,vs ++ [a]⟩:RuleT) (q+1)=r:=hl;subst hl;show G1 3 (pC ts (q+1) 0) (.agg (ruE ⟨x,vs ++ [a]⟩)) _ _;rw[show ruE ⟨x,vs ++ [a]⟩=[.int .i64 x.op,.int .i64 x.num,.str x.name,.lst x.kids.length (fl eE x.kids),.int .i64 x.line,.int .i64 x.col,.lst (vs ++ [a]).length (fl asE (vs ++ [a]))] by unfold ruE;rw[qO];rfl];refine G1.done ?_ (by rfl) (by rfl) (FzD.agg (.cons (.pc rfl) (.cons (.pc rfl) (.cons (.pc rfl) (.cons (.pc rfl) (.cons (.pc rfl) (.cons (.pc rfl) (.cons (Lv.fz (lo:=3) (hi:=s.nx+3) (z:=9) ?_ dc (JH V4 _)) .nil))))))))
         ·unfold pC
          (have zz:=aI C0.q (aI C1.q (aI C2.q (aI @g3 (aI V.ln (aI V.rts (aI @jk (aI @jm (aI @jq (aI C0.r (aI C1.r C2.r))))))))));first|exact ju|fail)
         ·simp(disch:=first|omega|(simp only[jf,je,jh,jg];omega)) only[jE,jp,jt,jx];refine V2 _ _ ?_ ?_ ?_;all_goals first|(simp only[jf,je];done)|(simp only[jf,je];omega)|(simp(disch:=first|omega|(simp only[jf,je];omega)) only[jp,jt];exact V)
        ·rename_i c c4;rw[if_neg c,if_neg c4] at hl;have hl:SR.er (tk ts q)=r:=hl;subst hl;refine⟨q,0,?_⟩;unfold pC
         (refine G1.done ?_ (by rfl) (by rfl) ?_;(· (have zz:=aI C0.q (aI C1.q (aI C2.q (aI @g3 (aI V.ln (aI V.rts (aI @jk (aI @jm (aI @jq (aI C0.r (aI C1.r C2.r))))))))));first|exact ju|fail));(· first|exact vyD|skip))
      ·rw[if_neg c2] at hl;have hl:SR.er (tk ts (i'+1))=r:=hl;subst hl;unfold pC at *
       (have zz:=aI @g3 (aI C0.r (aI C1.r C2.r));(repeat'(first|apply jd<;>intro _|simp(disch:=first|exact jK|fail) only[ja i0,ja i2,ja i3,hN,hM,k1,k1',vl,R,M1,c2,XZ,ve,zb,C0.q,C1.q,C2.q,g3,C0.r,C1.r,C2.r,r6,γ,δ,ε,ζ,η]));all_goals clear zz)
       refine⟨i'+1,0,?_⟩;unfold pC
       (refine G1.done ?_ (by rfl) (by rfl) ?_;(· (have zz:=aI C0.q (aI C1.q (aI C2.q (aI C0.r (aI C1.r C2.r))));first|exact ju|fail));(· first|exact vyD|skip))
    ·rw[if_neg k1] at hl;have k1':¬ ((tk ts i').kind:Int)=1:=om
     have hl:SR.er (tk ts i')=r:=hl;subst hl;unfold pC at *
     (have zz:=aI @g3 (aI C0.r (aI C1.r C2.r));(repeat'(first|apply jd<;>intro _|simp(disch:=first|exact jK|fail) only[ja i0,ja i2,ja i3,hN,hM,k1,k1',zb,C0.q,C1.q,C2.q,g3,C0.r,C1.r,C2.r,r6,γ,δ,ε,ζ,η]));all_goals clear zz)
     refine⟨i',0,?_⟩;unfold pC
     (refine G1.done ?_ (by rfl) (by rfl) ?_;(· (have zz:=aI C0.q (aI C1.q (aI C2.q (aI C0.r (aI C1.r C2.r))));first|exact ju|fail));(· first|exact vyD|skip))
   ·refine⟨ts.length,j+1,[],.nils,rfl,om,hj1,hr,om,C0,C1,C2,Lv.nil,?_⟩;simp(disch:=decide) only[h12]
  ·rw[if_neg c1];refine⟨j,0,?_⟩;unfold pC at *;refine jC jeG (by rfl) (hb.pur 129 3 dc) rfl ?_;simp only[jaF,jn,ν,ξ,τ,υ];rw[(by unfold Wm;simp only[qq];rfl:Wm=_)];repeat'(first|apply jd<;>intro _|simp(disch:=first|exact dzD|fail) only[E,M,c1,r6,γ,δ,ε,ζ,η])
   (refine G1.done ?_ (by rfl) (by rfl) ?_;(· (first|exact cyD|fail));(· first|exact vyD|skip))
theorem Yc (r:RuleT):ruE r=[.int .i64 r.when.op,.int .i64 r.when.num,.str r.when.name,.lst r.when.kids.length (fl eE r.when.kids),.int .i64 r.when.line,.int .i64 r.when.col,.lst r.acts.length (fl asE r.acts)]:=by unfold ruE;rw[qO];rfl
theorem Zx (r:RuleT):(ruE r).length=7:=nr (by rw[Yc];rfl)
theorem Vb (r:RuleT):(ruE r).all pc=true:=nr (by rw[Yc];rfl)
theorem jav {ts:List Tk}(W:Wds ts):∀ n i vs ws j,i<ts.length->zf ts n i vs=.ok ws j->i<=j/\j<ts.length
 |0,i,vs,ws,j,_,h=>by simp[zf] at h
 |n+1,i,vs,ws,j,hi,h=>by
  unfold zf at h;split at h
  ·rename_i k1;have hi1:i+1<ts.length:=W.next i hi om
   split at h
   ·cases h
   ·split at h
    ·rename_i c;have hi2:=W.isM hi1 c;cases hw:qM ts (i+2) with
     |er t=>rw[hw] at h;cases h
     |ok x q=>
      rw[hw] at h;dsimp only at h;have g:=yU W hi2 hw;split at h
      ·rename_i c2;have:=jav W n (q+1) _ ws j (W.isM g.2.1 c2) h;have:=g.1;exact⟨om,om⟩
      ·split at h
       ·rename_i c3;cases h;have:=W.isM g.2.1 c3;have:=g.1;exact⟨om,om⟩
       ·cases h
    ·cases h
  ·cases h
theorem uA {ts:List Tk}(W:Wds ts){i j:Nat}{r:RuleT}(hi:i<ts.length)(h:JB ts i=.ok r j):i<j/\j<ts.length:=by
 unfold JB at h;cases hw:qM ts i with
 |er t=>rw[hw] at h;cases h
 |ok x q=>
  rw[hw] at h;dsimp only at h;have g:=yU W hi hw;split at h
  ·rename_i c;have hq1:=W.isM g.2.1 c;cases ha:zf ts ts.length (q+1) [] with
   |er t=>rw[ha] at h;cases h
   |ok vs k=>
    rw[ha] at h;cases h;have:=jav W _ _ _ _ _ hq1 ha;have:=g.1;exact⟨om,om⟩
  ·cases h
structure ProcT where
 name:List Nat
 rules:List RuleT
 line:Int
 col:Int
def prE (p:ProcT):List AV:=[.str p.name,.lst p.rules.length (fl ruE p.rules),.int .i64 (p.line:Int),.int .i64 (p.col:Int)]
def zO (ts:List Tk):Nat->Nat->List RuleT->SR (List RuleT)
 |0,i,_=>.er (tk ts i)
 |n+1,i,vs=>if isM (tk ts i) [[119,104,101,110]]=true then
   (if 32<=vs.length then .er (tk ts i) else match JB ts (i+1) with
    |.er t=>.er t
    |.ok r j=>zO ts n j (vs ++ [r]))
  else if isM (tk ts i) [[125]]=true then .ok vs (i+1) else .er (tk ts i)
def JC (ts:List Tk)(i:Nat):SR ProcT:=
 if(tk ts i).kind=1 then
  (if isM (tk ts (i+1)) [[123]]=true then(match zO ts ts.length (i+2) [] with
    |.ok vs j=>.ok ⟨(tk ts i).text,vs,(tk ts i).line,(tk ts i).col⟩ j
    |.er t=>.er t)
   else .er (tk ts (i+1)))
 else .er (tk ts i)
theorem jkh:Go.Ev.isAgg θ 96=some false:=by kernel_rfl
theorem jkg:Go.Ev.sizeOf θ 96=some 1:=by kernel_rfl
theorem Up {b o:Nat}{v:AV}{h:T AO}(ho:o<qz h b)(hv:rat h b o=v)(hc:eqs v=true):(jW θ 96 (.ptr b o) v h=true)=True:=eq_true (J2 jkh jkg ho hv hc)
set_option maxHeartbeats 4000000 in
theorem jja (hb:NB base){ts:List Tk}(W:Wds ts){i:Nat}(hi:i<ts.length):AnS base 80 (pC ts i 0) [] ts 0 (λe=>.agg (prE e)) (JC ts i):=by
 have wl:=W.len;have N:=λst p=>@wi base hb ts i 0 hi om st p;unfold JC;by_cases k1:(tk ts i).kind=1
 ·rw[if_pos k1];have hi1:i+1<ts.length:=W.next i hi om
  have M:=λst p=>@JL base hb ts (i+1) 0 hi1 om [123] st p;by_cases c1:isM (tk ts (i+1)) [[123]]=true
  ·rw[if_pos c1];have hi2:=W.isM hi1 c1;suffices h:∀ r:SR ProcT,(match zO ts ts.length (i+2) [] with
    |.ok vs j=>SR.ok ⟨(tk ts i).text,vs,(tk ts i).line,(tk ts i).col⟩ j
    |.er t=>.er t:SR ProcT)=r->AnS base 80 (pC ts i 0) [] ts 0 (λe=>.agg (prE e)) r from h _ rfl
   intro r hr;refine Zr x80 (by rfl) (hb.pur 80 3 dc) ?_;simp only[y80,jn,ν,ξ,τ,υ];rw[(by unfold z80;simp only[qq];rfl:z80=_)];unfold pC at *;repeat'(first|apply jd<;>intro _|simp(disch:=first|exact dzD|fail) only[N,k1,M,c1,r6,γ,δ,ε,ζ,η])
   refine yF λu hu=>?_;have n0:u.nx=4:=by rw[hu];rfl
   have C0:Cl u 0 (pC ts (i+2) 0):=by
    rw[hu];unfold pC
    (first|exact cyD|fail)
   have C1:Cl u 1 [.str [],.nils,.int .i64 0,.int .i64 0]:=by
    rw[hu]
    (first|exact cyD|fail)
   have C3:Cl u 3 [.str (tk ts i).text,.nils,.int .i64 ((tk ts i).line:Int),.int .i64 ((tk ts i).col:Int)]:=by
    rw[hu]
    (first|exact cyD|fail)
   clear hu N M;generalize (tk ts i).text=nm at *;generalize (tk ts i).line=ln at *;generalize (tk ts i).col=co at *;refine qB (λmm L s=>∃ (m i':Nat) (vs:List RuleT) (v:AV),mm=m/\ts.length<=i'+m/\i'<ts.length/\(match zO ts m i' vs with | .ok vs j=>SR.ok ⟨nm,vs,ln,co⟩ j | .er t=>.er t:SR ProcT)=r/\4<=s.nx/\Cl s 0 (pC ts i' 0)/\Cl s 1 [.str [],.nils,.int .i64 0,.int .i64 0]/\Cl s 3 [.str nm,v,.int .i64 (ln:Int),.int .i64 (co:Int)]/\Lv 4 s.nx s v vs.length (fl ruE vs) 7/\Has L 0 (.ptr 0 0)/\Has L 2 (.ptr 1 0)/\Has L 4 (.ptr 3 0)) ?_ ts.length ?_
   ·rintro m L s ⟨_,i',vs,v,rfl,hm,hi',hl,n0,C0,C1,C3,V,i0,i2,i4⟩;clear hr;cases m with
    |zero=>omega
    |succ m=>
    unfold zO at hl;obtain⟨q,hq⟩:∃ q,q=s.nx:=⟨_,rfl⟩;rw[<-hq] at V;have hq':q<=s.nx:=QaA hq;have T:=Q8 hb hi' (d:=0) om [[119,104,101,110]] (cs:=[.str [119,104,101,110]]) (n:=1) rfl rfl dc;have L0:=C0.lt;have L1:=C1.lt;have L3:=C3.lt;have ve:=V.eqs;have g3:rat s.h 3 1=v:=C3.cell 1 (Qbc (QaR 2));have vl:=V.len;have vc:∀ l,lall AV.cell (v :: l)=lall AV.cell l:=λl=>by show cond v.cell _ false=_;rw[V.cell];rfl
    by_cases c2:isM (tk ts i') [[119,104,101,110]]=true
    ·rw[if_pos c2] at hl;have hi1:=W.isM hi' c2;by_cases h32:32<=vs.length
     ·rw[if_pos h32] at hl;have hl:SR.er (tk ts i')=r:=hl;subst hl;have R:=YQ hb h32 (tk ts i');unfold pC at *
      (have zz:=aI @g3 (aI C0.r (aI C1.r C3.r));(repeat'(first|apply jd<;>intro _|simp(disch:=first|exact jK|fail) only[ja i0,ja i2,ja i4,T,c2,vl,R,g3,zb,C0.q,C1.q,C3.q,g3,C0.r,C1.r,C3.r,r6,γ,δ,ε,ζ,η]));all_goals clear zz)
      refine⟨i'+1,0,?_⟩;unfold pC
      (refine G1.done ?_ (by rfl) (by rfl) ?_;(· (have zz:=aI C0.q (aI C1.q (aI C3.q (aI C0.r (aI C1.r C3.r))));first|exact ju|fail));(· first|exact vyD|skip))
     ·rw[if_neg h32] at hl;have R:=YP hb (show vs.length<32 by omega) (tk ts i');have A:=ji0 hb W hi1;cases hw:JB ts (i'+1) with
      |er t=>
       rw[hw] at hl A;have hl:SR.er t=r:=hl;subst hl;obtain⟨i2',d2,A⟩:=A;have E:∀ st p,Cl st p (pC ts (i'+1) 0)->∀ K Kp,XB θ base 129 [.ptr p 0] st K Kp=_:=λst p C K Kp=>A.xb C rfl (λst=>hb.no 129 dc _ _) K Kp;unfold pC at *
       (have zz:=aI @g3 (aI C0.r (aI C1.r C3.r));(repeat'(first|apply jd<;>intro _|simp(disch:=first|exact jK|fail) only[ja i0,ja i2,ja i4,T,c2,vl,R,g3,E,Up,ve,zb,C0.q,C1.q,C3.q,g3,C0.r,C1.r,C3.r,r6,γ,δ,ε,ζ,η]));all_goals clear zz)
       refine⟨i2',d2,?_⟩;unfold pC
       (refine G1.done ?_ (by rfl) (by rfl) ?_;(· (have zz:=aI C0.q (aI C1.q (aI C3.q (aI C0.r (aI C1.r C3.r))));first|exact ju|fail));(· first|exact vyD|skip))
      |ok a j=>
       rw[hw] at hl A;dsimp only at hl;have A:PM _ _ _ _ _ _ _:=A;have A:PM θ base 129 (pC ts (i'+1) 0) [] (.ok (.agg [.int .i64 a.when.op,.int .i64 a.when.num,.str a.when.name,.lst a.when.kids.length (fl eE a.when.kids),.int .i64 a.when.line,.int .i64 a.when.col,.lst a.acts.length (fl asE a.acts)])) (pC ts j 0):=by rw[<-Yc];exact A
       have hj:=uA W hi1 hw;have E:∀ st p,Cl st p (pC ts (i'+1) 0)->∀ K Kp,XB θ base 129 [.ptr p 0] st K Kp=_:=λst p C K Kp=>A.xb C rfl (λst=>hb.no 129 dc _ _) K Kp;have Ap:=λst bv xc xx K h hv=>@Qr 4 q vs.length 7 st v (fl ruE vs) K 96 bv xc xx h dc om om hv;have V2:∀ st m',Lv 4 q st v vs.length (fl ruE vs) 7->4<=st.nx->m'=st.nx+1->Lv 4 m' (aps v st [.int .i64 a.when.op,.int .i64 a.when.num,.str a.when.name,.lst a.when.kids.length (fl eE a.when.kids),.int .i64 a.when.line,.int .i64 a.when.col,.lst a.acts.length (fl asE a.acts)]) (apv 7 v st) (vs ++ [a]).length (fl ruE (vs ++ [a])) 7:=λst m' h h2 h3=>by
        rw[Qag,Jp,zu,Yc a];exact h.put rfl h2 h3
       unfold pC at *
       (have zz:=aI @g3 (aI V.ln (aI V.rts (aI @jp (aI @jt (aI @jx (aI @V (aI @jk (aI @jm (aI @jq (aI C0.r (aI C1.r C3.r)))))))))));(repeat'(first|apply jd<;>intro _|simp(disch:=first|exact jK|fail) only[ja i0,ja i2,ja i4,T,c2,vl,R,g3,E,Up,ve,Ap,V.at,jk,C0.q,C1.q,C3.q,g3,V.ln,V.rts,jp,jt,jx,V,jk,jm,jq,C0.r,C1.r,C3.r,r6,γ,δ,ε,ζ,η]));all_goals clear zz)
       refine⟨m,om,m,j,vs ++ [a],?v,rfl,om,hj.2,hl,om,?c0,?c1,?c3,?lv,?has⟩;case lv=>
        refine Lv.up (hi:=s.nx+4) ?_ om;refine V2 _ _ ?_ ?_ ?_;all_goals first|(simp only[jf,je,jg];done)|(simp only[jf,je,jg];omega)|(simp(disch:=first|omega|(simp only[jf,je,jg];omega)) only[jp,jt,jx];exact V)
       case c0=>(have zz:=aI C0.q (aI C1.q (aI C3.q (aI @g3 (aI V.ln (aI V.rts (aI @jk (aI @jm (aI @jq (aI C0.r (aI C1.r C3.r))))))))));first|exact ju|fail)
       case c1=>(have zz:=aI C0.q (aI C1.q (aI C3.q (aI @g3 (aI V.ln (aI V.rts (aI @jk (aI @jm (aI @jq (aI C0.r (aI C1.r C3.r))))))))));first|exact ju|fail)
       case c3=>(have zz:=aI C0.q (aI C1.q (aI C3.q (aI @g3 (aI V.ln (aI V.rts (aI @jk (aI @jm (aI @jq (aI C0.r (aI C1.r C3.r))))))))));first|exact ju|fail)
       case has=>simp(disch:=decide) only[h12,i0,i2,i4]
    ·rw[if_neg c2] at hl;have M:=λst p=>@JL base hb ts i' 0 hi' om [125] st p;unfold pC at *
     (have zz:=aI @g3 (aI @vc (aI C0.r (aI C1.r C3.r)));(repeat'(first|apply jd<;>intro _|simp(disch:=first|exact jK|fail) only[ja i0,ja i2,ja i4,T,c2,M,g3,C0.q,C1.q,C3.q,g3,vc,C0.r,C1.r,C3.r,r6,γ,δ,ε,ζ,η]));all_goals clear zz)
     ·rename_i c4;rw[if_pos c4] at hl;have hl:SR.ok (⟨nm,vs,ln,co⟩:ProcT) (i'+1)=r:=hl;subst hl;show G1 3 (pC ts (i'+1) 0) (.agg (prE ⟨nm,vs,ln,co⟩)) _ _;refine G1.done ?_ (by rfl) (by rfl) (FzD.agg (.cons (.pc rfl) (.cons (Lv.fz (lo:=4) (hi:=q) (z:=7) ?_ dc (JH Vb _)) (.cons (.pc rfl) (.cons (.pc rfl) .nil)))))
      ·unfold pC
       (have zz:=aI C0.q (aI C1.q (aI C3.q (aI @g3 (aI V.ln (aI V.rts (aI @jk (aI @jm (aI @jq (aI C0.r (aI C1.r C3.r))))))))));first|exact ju|fail)
      ·simp(disch:=first|omega|(simp only[jf,je,jg];omega)) only[jE,jp,jt,jx];exact V
     ·rename_i c4;rw[if_neg c4] at hl;have hl:SR.er (tk ts i')=r:=hl;subst hl;refine⟨i',0,?_⟩;unfold pC
      (refine G1.done ?_ (by rfl) (by rfl) ?_;(· (have zz:=aI C0.q (aI C1.q (aI C3.q (aI @g3 (aI V.ln (aI V.rts (aI @jk (aI @jm (aI @jq (aI C0.r (aI C1.r C3.r))))))))));first|exact ju|fail));(· first|exact vyD|skip))
   ·refine⟨ts.length,i+2,[],.nils,rfl,om,hi2,hr,om,C0,C1,C3,Lv.nil,?_⟩;simp(disch:=decide) only[h12]
  ·rw[if_neg c1];refine⟨i+1,0,?_⟩;unfold pC at *;refine jC x80 (by rfl) (hb.pur 80 3 dc) rfl ?_;simp only[y80,jn,ν,ξ,τ,υ];rw[(by unfold z80;simp only[qq];rfl:z80=_)];repeat'(first|apply jd<;>intro _|simp(disch:=first|exact dzD|fail) only[N,k1,M,c1,r6,γ,δ,ε,ζ,η])
   (refine G1.done ?_ (by rfl) (by rfl) ?_;(· (first|exact cyD|fail));(· first|exact vyD|skip))
 ·rw[if_neg k1];refine⟨i,0,?_⟩;unfold pC at *;refine jC x80 (by rfl) (hb.pur 80 3 dc) rfl ?_;simp only[y80,jn,ν,ξ,τ,υ];rw[(by unfold z80;simp only[qq];rfl:z80=_)];repeat'(first|apply jd<;>intro _|simp(disch:=first|exact dzD|fail) only[N,k1,r6,γ,δ,ε,ζ,η])
  (refine G1.done ?_ (by rfl) (by rfl) ?_;(· (first|exact cyD|fail));(· first|exact vyD|skip))
def Df:AV->AV->Prop
 |.slice b _ _ _ _ _,.slice c _ _ _ _ _=>c≠b
 |_,_=>True
theorem Lv.apsD {lo hi n z:Nat}{s:St}{v w:AV}{cs news:List AV}(V:Lv lo hi s w n cs z)(h:Df v w):Lv lo hi (Go.Sy.aps v s news) w n cs z:=by
 rcases V with ⟨rfl,h2,h3⟩|⟨b,rfl,h2,h3,h4,h5,h6⟩
 ·exact .inl ⟨rfl,h2,h3⟩
 ·refine .inr ⟨b,rfl,h2,h3,?_,h5,h6⟩;unfold Go.Sy.aps;split
  ·exact h4.apO h
  ·exact h4.nw news
theorem Df.put {lo hi n z z':Nat}{s t:St}{v w:AV}{cs:List AV}(V:Lv lo hi s w n cs z)(h:hi<=t.nx):Df (apv z' v t) w/\Df w (apv z' v t):=by
 rcases V with ⟨rfl,h2,h3⟩|⟨b,rfl,h2,h3,h4,h5,h6⟩
 ·unfold apv;split<;>exact⟨trivial,trivial⟩
 ·unfold apv;split<;>exact⟨by show b≠t.nx;omega,by show t.nx≠b;omega⟩
structure SrcT where
 enums:List EnumT
 vars:List DeclT
 procs:List ProcT
def srE (m:SrcT):List AV:=[.lst m.enums.length (fl enE m.enums),.lst m.vars.length (fl qk m.vars),.lst m.procs.length (fl prE m.procs)]
def zX (ts:List Tk):Nat->Nat->SrcT->SR SrcT
 |0,i,_=>.er (tk ts i)
 |n+1,i,m=>if isM (tk ts i) [[101,110,117,109],[118,97,114],[112,114,111,99,101,115,115]]=true then
   (if(tk ts i).text=[101,110,117,109] then
    (if 32<=m.enums.length then .er (tk ts i) else match JI ts (i+1) with
     |.er t=>.er t
     |.ok e j=>zX ts n j { m with enums:=m.enums ++ [e] })
   else if(tk ts i).text=[118,97,114] then
    (if 32<=m.vars.length then .er (tk ts i) else match JJ ts (i+1) with
     |.er t=>.er t
     |.ok e j=>zX ts n j { m with vars:=m.vars ++ [e] })
   else(if 32<=m.procs.length then .er (tk ts i) else match JC ts (i+1) with
     |.er t=>.er t
     |.ok e j=>zX ts n j { m with procs:=m.procs ++ [e] }))
  else if(tk ts i).kind=5 then .ok m i else .er (tk ts i)
theorem HA {ts:List Tk}(W:Wds ts):∀ n i vs ws j,i<ts.length->JV ts n i vs=.ok ws j->i<=j/\j<ts.length
 |0,i,vs,ws,j,_,h=>by simp[JV] at h
 |n+1,i,vs,ws,j,hi,h=>by
  unfold JV at h;split at h
  ·rename_i k1;have hi1:i+1<ts.length:=W.next i hi om
   split at h
   ·cases h
   ·split at h
    ·rename_i c;have hi2:=W.isM hi1 c;have:=HA W n (i+2) _ ws j hi2 h;exact⟨om,om⟩
    ·split at h
     ·rename_i c;cases h;have:=W.isM hi1 c;exact⟨om,this⟩
     ·cases h
  ·cases h
theorem UL {ts:List Tk}(W:Wds ts){i j:Nat}{e:EnumT}(hi:i<ts.length)(h:JI ts i=.ok e j):i<j/\j<ts.length:=by
 unfold JI at h;split at h
 ·rename_i k1;have hi1:i+1<ts.length:=W.next i hi om
  split at h
  ·rename_i c;have hi2:=W.isM hi1 c;cases hv:JV ts ts.length (i+2) [] with
   |er t=>rw[hv] at h;cases h
   |ok vs k=>
    rw[hv] at h;cases h;have:=HA W _ _ _ _ _ hi2 hv;exact⟨om,om⟩
  ·cases h
 ·cases h
theorem gH {ts:List Tk}(W:Wds ts):∀ n i vs ws j,i<ts.length->zO ts n i vs=.ok ws j->i<=j/\j<ts.length
 |0,i,vs,ws,j,_,h=>by simp[zO] at h
 |n+1,i,vs,ws,j,hi,h=>by
  unfold zO at h;split at h
  ·rename_i c;have hi1:=W.isM hi c;split at h
   ·cases h
   ·cases hr:JB ts (i+1) with
    |er t=>rw[hr] at h;cases h
    |ok r k=>
     rw[hr] at h;dsimp only at h;have g:=uA W hi1 hr;have:=gH W n k _ ws j g.2 h;exact⟨om,om⟩
  ·split at h
   ·rename_i c;cases h;exact⟨om,W.isM hi c⟩
   ·cases h
theorem Uu {ts:List Tk}(W:Wds ts){i j:Nat}{e:ProcT}(hi:i<ts.length)(h:JC ts i=.ok e j):i<j/\j<ts.length:=by
 unfold JC at h;split at h
 ·rename_i k1;have hi1:i+1<ts.length:=W.next i hi om
  split at h
  ·rename_i c;have hi2:=W.isM hi1 c;cases hv:zO ts ts.length (i+2) [] with
   |er t=>rw[hv] at h;cases h
   |ok vs k=>
    rw[hv] at h;cases h;have:=gH W _ _ _ _ _ hi2 hv;exact⟨om,om⟩
  ·cases h
 ·cases h
theorem jc2 {ts:List Tk}(W:Wds ts){i j:Nat}{n:Int}(h:QR ts i=.ok n j):i<j:=by
 unfold QR at h;split at h
 ·split at h
  ·cases h;omega
  ·cases h
 ·split at h
  ·cases h;omega
  ·cases h
theorem jcw {ts:List Tk}(W:Wds ts){i j:Nat}{y:List Nat×Int×Int}(hi:i<ts.length)(h:wD ts i=.ok y j):i<j/\j<ts.length:=by
 unfold wD at h;split at h
 ·rename_i c;cases h;exact⟨om,W.isM hi c⟩
 ·split at h
  ·rename_i k1;cases h;exact⟨om,W.next i hi om⟩
  ·cases hn:QR ts i with
   |er t=>rw[hn] at h;cases h
   |ok lo k=>
    rw[hn] at h;dsimp only at h;have g:=wh W hi hn;have g1:=jc2 W hn;split at h
    ·rename_i c;have hk1:=W.isM g c;cases hn2:QR ts (k+1) with
     |er t=>rw[hn2] at h;cases h
     |ok h2 q=>
      rw[hn2] at h;cases h;have:=wh W hk1 hn2;have:=jc2 W hn2;exact⟨om,om⟩
    ·cases h
theorem jjS {ts:List Tk}(W:Wds ts){i j:Nat}{bs:List Ex}(hi:i<ts.length)(h:Xl ts i=.ok bs j):i<j/\j<ts.length:=by
 unfold Xl at h;split at h
 ·rename_i c;have hi1:=W.isM hi c;cases hw:qM ts (i+1) with
  |er t=>rw[hw] at h;cases h
  |ok x k=>
   rw[hw] at h;dsimp only at h;have g:=yU W hi1 hw;split at h
   ·rename_i c2;cases h;have:=W.isM g.2.1 c2;have:=g.1;exact⟨om,om⟩
   ·cases h
 ·split at h
  ·rename_i c;cases h;exact⟨om,W.isM hi c⟩
  ·cases h
theorem UP {ts:List Tk}(W:Wds ts){i j:Nat}{e:DeclT}(hi:i<ts.length)(h:JJ ts i=.ok e j):i<j/\j<ts.length:=by
 unfold JJ at h;split at h
 ·rename_i k1;have hi1:i+1<ts.length:=W.next i hi om
  split at h
  ·rename_i c;have hi2:=W.isM hi1 c;cases ht:wD ts (i+2) with
   |er t=>rw[ht] at h;cases h
   |ok y k=>
    rw[ht] at h;dsimp only at h;have g:=jcw W hi2 ht;cases hv:Xl ts k with
    |er t=>rw[hv] at h;cases h
    |ok bs q=>
     rw[hv] at h;cases h;have:=jjS W g.2 hv;exact⟨om,om⟩
  ·cases h
 ·cases h
theorem VL (e:EnumT):(enE e).all pc=true:=by
 have:∀ l:List (List Nat),(l.map AV.str).all pc=true:=QU;show([AV.str e.name,.lst e.vals.length (e.vals.map .str),.int .i64 (e.line:Int),.int .i64 (e.col:Int)]).all pc=true;simp[pc]
theorem wu (e:DeclT):(qk e).all pc=true:=by
 show([AV.str e.name,.str e.ty,.int .i64 e.lo,.int .i64 e.hi,.lst e.begins.length (fl eE e.begins),.int .i64 (e.line:Int),.int .i64 (e.col:Int)]).all pc=true;simp[pc]
theorem Vi (e:ProcT):(prE e).all pc=true:=by
 show([AV.str e.name,.lst e.rules.length (fl ruE e.rules),.int .i64 (e.line:Int),.int .i64 (e.col:Int)]).all pc=true;simp[pc]
theorem Df.symm {v w:AV}(h:Df v w):Df w v:=by
 unfold Df at *;split at h<;>first|exact λe=>h e.symm|(cases v<;>cases w<;>first|trivial|(rename_i h2;exact absurd rfl (h2 _ _ _ _ _ _ _ _ _ _ _ _ rfl)))
theorem jkt:Go.Ev.isAgg θ 23=some false:=by kernel_rfl
theorem jks:Go.Ev.sizeOf θ 23=some 1:=by kernel_rfl
theorem jeO {b o:Nat}{v:AV}{h:T AO}(ho:o<qz h b)(hv:rat h b o=v)(hc:eqs v=true):(jW θ 23 (.ptr b o) v h=true)=True:=eq_true (J2 jkt jks ho hv hc)
theorem jkr:Go.Ev.isAgg θ 24=some false:=by kernel_rfl
theorem jkq:Go.Ev.sizeOf θ 24=some 1:=by kernel_rfl
theorem jeN {b o:Nat}{v:AV}{h:T AO}(ho:o<qz h b)(hv:rat h b o=v)(hc:eqs v=true):(jW θ 24 (.ptr b o) v h=true)=True:=eq_true (J2 jkr jkq ho hv hc)
theorem jkp:Go.Ev.isAgg θ 25=some false:=by kernel_rfl
theorem jko:Go.Ev.sizeOf θ 25=some 1:=by kernel_rfl
theorem jeM {b o:Nat}{v:AV}{h:T AO}(ho:o<qz h b)(hv:rat h b o=v)(hc:eqs v=true):(jW θ 25 (.ptr b o) v h=true)=True:=eq_true (J2 jkp jko ho hv hc)
set_option maxHeartbeats 8000000 in
theorem jeL (hb:NB base){ts:List Tk}(W:Wds ts)(NN:Nbs ts){i:Nat}(hi:i<ts.length):AnS base 37 (pC ts i 0) [] ts 0 (λe=>.agg (srE e)) (zX ts ts.length i ⟨[],[],[]⟩):=by
 have wl:=W.len;suffices h:∀ r:SR SrcT,zX ts ts.length i ⟨[],[],[]⟩=r->AnS base 37 (pC ts i 0) [] ts 0 (λe=>.agg (srE e)) r from h _ rfl
 intro r hr;refine Zr x37 (by rfl) (hb.pur 37 3 dc) ?_;simp only[y37,jn,ν,ξ,τ,υ];rw[(by unfold z37;simp only[qq];rfl:z37=_)];unfold pC at *;repeat'(first|apply jd<;>intro _|simp(disch:=first|exact dzD|fail) only[r6,γ,δ,ε,ζ,η])
 refine yF λu hu=>?_;have n0:u.nx=3:=by rw[hu];rfl
 have C0:Cl u 0 (pC ts i 0):=by
  rw[hu];unfold pC
  (first|exact cyD|fail)
 have C1:Cl u 1 [.nils,.nils,.nils]:=by
  rw[hu]
  (first|exact cyD|fail)
 have C2:Cl u 2 [.nils,.nils,.nils]:=by
  rw[hu]
  (first|exact cyD|fail)
 clear hu;refine qB (λmm L s=>∃ (m i':Nat) (x:SrcT) (v1 v2 v3:AV),mm=m/\ts.length<=i'+m/\i'<ts.length/\zX ts m i' x=r/\3<=s.nx/\Cl s 0 (pC ts i' 0)/\Cl s 1 [.nils,.nils,.nils]/\Cl s 2 [v1,v2,v3]/\Lv 3 s.nx s v1 x.enums.length (fl enE x.enums) 4/\Lv 3 s.nx s v2 x.vars.length (fl qk x.vars) 7/\Lv 3 s.nx s v3 x.procs.length (fl prE x.procs) 4/\Df v1 v2/\Df v1 v3/\Df v2 v3/\Has L 0 (.ptr 0 0)/\Has L 2 (.ptr 1 0)/\Has L 3 (.ptr 2 0)) ?_ ts.length ?_
 ·rintro m L s ⟨_,i',x,v1,v2,v3,rfl,hm,hi',hl,n0,C0,C1,C2,V1,V2,V3,D12,D13,D23,i0,i2,i3⟩;clear hr;cases m with
  |zero=>omega
  |succ m=>
  unfold zX at hl;obtain⟨q,hq⟩:∃ q,q=s.nx:=⟨_,rfl⟩;rw[<-hq] at V1 V2 V3;have hq':q<=s.nx:=QaA hq;have T:=Q8 hb hi' (d:=0) om [[101,110,117,109],[118,97,114],[112,114,111,99,101,115,115]] (cs:=[.str [101,110,117,109],.str [118,97,114],.str [112,114,111,99,101,115,115]]) (n:=3) rfl rfl dc;have L0:=C0.lt;have L1:=C1.lt;have L2:=C2.lt;have ve1:=V1.eqs;have ve2:=V2.eqs;have ve3:=V3.eqs;have g1:rat s.h 2 0=v1:=C2.cell 0 (QaR 2);have g2:rat s.h 2 1=v2:=C2.cell 1 (Qbc (QaR 1));have g3:rat s.h 2 2=v3:=C2.cell 2 (Qbc (Qbc (QaR 0)));have vl1:=V1.len;have vl2:=V2.len;have vl3:=V3.len;have vc1:∀ l,lall AV.cell (v1 :: l)=lall AV.cell l:=λl=>by show cond v1.cell _ false=_;rw[V1.cell];rfl
  have vc2:∀ l,lall AV.cell (v2 :: l)=lall AV.cell l:=λl=>by show cond v2.cell _ false=_;rw[V2.cell];rfl
  have vc3:∀ l,lall AV.cell (v3 :: l)=lall AV.cell l:=λl=>by show cond v3.cell _ false=_;rw[V3.cell];rfl
  by_cases c2:isM (tk ts i') [[101,110,117,109],[118,97,114],[112,114,111,99,101,115,115]]=true
  ·rw[if_pos c2] at hl;have hi1:=W.isM hi' c2;by_cases t1:(tk ts i').text=[101,110,117,109]
   ·rw[if_pos t1] at hl;by_cases h32:32<=x.enums.length
    ·rw[if_pos h32] at hl;have hl:SR.er (tk ts i')=r:=hl;subst hl;have R:=YQ hb h32 (tk ts i');unfold pC at *
     (have zz:=aI @g1 (aI C0.r (aI C1.r C2.r));(repeat'(first|apply jd<;>intro _|simp(disch:=first|exact jK|fail) only[ja i0,ja i2,ja i3,T,c2,t1,vl1,R,g1,zb,C0.q,C1.q,C2.q,g1,C0.r,C1.r,C2.r,r6,γ,δ,ε,ζ,η]));all_goals clear zz)
     refine⟨i'+1,0,?_⟩;unfold pC
     (refine G1.done ?_ (by rfl) (by rfl) ?_;(· (have zz:=aI C0.q (aI C1.q (aI C2.q (aI C0.r (aI C1.r C2.r))));first|exact ju|fail));(· first|exact vyD|skip))
    ·rw[if_neg h32] at hl;have R:=YP hb (show x.enums.length<32 by omega) (tk ts i');have A:=jjF hb W (d:=0) hi1;cases hw:JI ts (i'+1) with
     |er t=>
      rw[hw] at hl A;have hl:SR.er t=r:=hl;subst hl;obtain⟨i2',d2,A⟩:=A;have E:∀ st p,Cl st p (pC ts (i'+1) 0)->∀ K Kp,XB θ base 78 [.ptr p 0] st K Kp=_:=λst p C K Kp=>A.xb C rfl (λst=>hb.no 78 dc _ _) K Kp;unfold pC at *
      (have zz:=aI @g1 (aI C0.r (aI C1.r C2.r));(repeat'(first|apply jd<;>intro _|simp(disch:=first|exact jK|fail) only[ja i0,ja i2,ja i3,T,c2,t1,vl1,R,g1,E,jeO,ve1,zb,C0.q,C1.q,C2.q,g1,C0.r,C1.r,C2.r,r6,γ,δ,ε,ζ,η]));all_goals clear zz)
      refine⟨i2',d2,?_⟩;unfold pC
      (refine G1.done ?_ (by rfl) (by rfl) ?_;(· (have zz:=aI C0.q (aI C1.q (aI C2.q (aI C0.r (aI C1.r C2.r))));first|exact ju|fail));(· first|exact vyD|skip))
     |ok a j=>
      rw[hw] at hl A;dsimp only at hl;have A:PM θ base 78 (pC ts (i'+1) 0) [] (.ok (.agg [.str a.name,.lst a.vals.length (a.vals.map .str),.int .i64 (a.line:Int),.int .i64 (a.col:Int)])) (pC ts j 0):=A;have hj:=UL W hi1 hw;have E:∀ st p,Cl st p (pC ts (i'+1) 0)->∀ K Kp,XB θ base 78 [.ptr p 0] st K Kp=_:=λst p C K Kp=>A.xb C rfl (λst=>hb.no 78 dc _ _) K Kp;have Ap:=λst bv xc xx K h hv=>@Qr 3 q x.enums.length 4 st v1 (fl enE x.enums) K 56 bv xc xx h dc om om hv;have VP:∀ st m',Lv 3 q st v1 x.enums.length (fl enE x.enums) 4->3<=st.nx->m'=st.nx+1->Lv 3 m' (aps v1 st [.str a.name,.lst a.vals.length (a.vals.map .str),.int .i64 (a.line:Int),.int .i64 (a.col:Int)]) (apv 4 v1 st) (x.enums ++ [a]).length (fl enE (x.enums ++ [a])) 4:=λst m' h h2 h3=>by
       rw[Qag,Jp,zu];exact h.put rfl h2 h3
      unfold pC at *
      (have zz:=aI @g1 (aI V1.ln (aI V1.rts (aI @jp (aI @jt (aI @jx (aI @V1 (aI @jk (aI @jm (aI @jq (aI C0.r (aI C1.r C2.r)))))))))));(repeat'(first|apply jd<;>intro _|simp(disch:=first|exact jK|fail) only[ja i0,ja i2,ja i3,T,c2,t1,vl1,R,g1,E,jeO,ve1,Ap,V1.at,jk,C0.q,C1.q,C2.q,g1,V1.ln,V1.rts,jp,jt,jx,V1,jk,jm,jq,C0.r,C1.r,C2.r,r6,γ,δ,ε,ζ,η]));all_goals clear zz)
      refine⟨m,om,m,j,{ x with enums:=x.enums ++ [a] },?v1,v2,v3,rfl,om,hj.2,hl,om,?c0,?c1,?c2,?lv1,?lv2,?lv3,?d12,?d13,?d23,?has⟩;case lv1=>
       refine Lv.up (hi:=s.nx+4) ?_ om;refine VP _ _ ?_ ?_ ?_;all_goals first|(simp only[jf,je,jg];done)|(simp only[jf,je,jg];omega)|(simp(disch:=first|omega|(simp only[jf,je,jg];omega)) only[jp,jt,jx];exact V1)
      case lv2=>
       refine Lv.up (hi:=q) ?_ om;simp(disch:=first|omega|(simp only[jf,je,jg];omega)) only[jp,jt,jx];refine Lv.apsD ?_ D12;simp(disch:=first|omega|(simp only[jf,je,jg];omega)) only[jp,jt,jx];exact V2
      case d12=>exact(Df.put V2 (by simp only[jf,je,jg];omega)).1
      case lv3=>
       refine Lv.up (hi:=q) ?_ om;simp(disch:=first|omega|(simp only[jf,je,jg];omega)) only[jp,jt,jx];refine Lv.apsD ?_ D13;simp(disch:=first|omega|(simp only[jf,je,jg];omega)) only[jp,jt,jx];exact V3
      case d13=>exact(Df.put V3 (by simp only[jf,je,jg];omega)).1
      case d23=>exact D23
      case c0=>(have zz:=aI C0.q (aI C1.q (aI C2.q (aI @g1 (aI @g2 (aI @g3 (aI V1.ln (aI V1.rts (aI @jk (aI @jm (aI @jq (aI C0.r (aI C1.r C2.r))))))))))));first|exact ju|fail)
      case c1=>(have zz:=aI C0.q (aI C1.q (aI C2.q (aI @g1 (aI @g2 (aI @g3 (aI V1.ln (aI V1.rts (aI @jk (aI @jm (aI @jq (aI C0.r (aI C1.r C2.r))))))))))));first|exact ju|fail)
      case c2=>(have zz:=aI C0.q (aI C1.q (aI C2.q (aI @g1 (aI @g2 (aI @g3 (aI V1.ln (aI V1.rts (aI @jk (aI @jm (aI @jq (aI C0.r (aI C1.r C2.r))))))))))));first|exact ju|fail)
      case has=>simp(disch:=decide) only[h12,i0,i2,i3]
   ·rw[if_neg t1] at hl;by_cases t2:(tk ts i').text=[118,97,114]
    ·rw[if_pos t2] at hl;by_cases h32:32<=x.vars.length
     ·rw[if_pos h32] at hl;have hl:SR.er (tk ts i')=r:=hl;subst hl;have R:=YQ hb h32 (tk ts i');unfold pC at *
      (have zz:=aI @g2 (aI C0.r (aI C1.r C2.r));(repeat'(first|apply jd<;>intro _|simp(disch:=first|exact jK|fail) only[ja i0,ja i2,ja i3,T,c2,t1,t2,vl2,R,g2,zb,C0.q,C1.q,C2.q,g2,C0.r,C1.r,C2.r,r6,γ,δ,ε,ζ,η]));all_goals clear zz)
      refine⟨i'+1,0,?_⟩;unfold pC
      (refine G1.done ?_ (by rfl) (by rfl) ?_;(· (have zz:=aI C0.q (aI C1.q (aI C2.q (aI C0.r (aI C1.r C2.r))));first|exact ju|fail));(· first|exact vyD|skip))
     ·rw[if_neg h32] at hl;have R:=YP hb (show x.vars.length<32 by omega) (tk ts i');have A:=jjK hb W NN hi1;cases hw:JJ ts (i'+1) with
      |er t=>
       rw[hw] at hl A;have hl:SR.er t=r:=hl;subst hl;obtain⟨i2',d2,A⟩:=A;have E:∀ st p,Cl st p (pC ts (i'+1) 0)->∀ K Kp,XB θ base 79 [.ptr p 0] st K Kp=_:=λst p C K Kp=>A.xb C rfl (λst=>hb.no 79 dc _ _) K Kp;unfold pC at *
       (have zz:=aI @g2 (aI C0.r (aI C1.r C2.r));(repeat'(first|apply jd<;>intro _|simp(disch:=first|exact jK|fail) only[ja i0,ja i2,ja i3,T,c2,t1,t2,vl2,R,g2,E,jeN,ve2,zb,C0.q,C1.q,C2.q,g2,C0.r,C1.r,C2.r,r6,γ,δ,ε,ζ,η]));all_goals clear zz)
       refine⟨i2',d2,?_⟩;unfold pC
       (refine G1.done ?_ (by rfl) (by rfl) ?_;(· (have zz:=aI C0.q (aI C1.q (aI C2.q (aI C0.r (aI C1.r C2.r))));first|exact ju|fail));(· first|exact vyD|skip))
      |ok a j=>
       rw[hw] at hl A;dsimp only at hl;have A:PM θ base 79 (pC ts (i'+1) 0) [] (.ok (.agg [.str a.name,.str a.ty,.int .i64 a.lo,.int .i64 a.hi,.lst a.begins.length (fl eE a.begins),.int .i64 (a.line:Int),.int .i64 (a.col:Int)])) (pC ts j 0):=A;have hj:=UP W hi1 hw;have E:∀ st p,Cl st p (pC ts (i'+1) 0)->∀ K Kp,XB θ base 79 [.ptr p 0] st K Kp=_:=λst p C K Kp=>A.xb C rfl (λst=>hb.no 79 dc _ _) K Kp;have Ap:=λst bv xc xx K h hv=>@Qr 3 q x.vars.length 7 st v2 (fl qk x.vars) K 88 bv xc xx h dc om om hv;have VP:∀ st m',Lv 3 q st v2 x.vars.length (fl qk x.vars) 7->3<=st.nx->m'=st.nx+1->Lv 3 m' (aps v2 st [.str a.name,.str a.ty,.int .i64 a.lo,.int .i64 a.hi,.lst a.begins.length (fl eE a.begins),.int .i64 (a.line:Int),.int .i64 (a.col:Int)]) (apv 7 v2 st) (x.vars ++ [a]).length (fl qk (x.vars ++ [a])) 7:=λst m' h h2 h3=>by
        rw[Qag,Jp,zu];exact h.put rfl h2 h3
       unfold pC at *
       (have zz:=aI @g2 (aI V2.ln (aI V2.rts (aI @jp (aI @jt (aI @jx (aI @V2 (aI @jk (aI @jm (aI @jq (aI C0.r (aI C1.r C2.r)))))))))));(repeat'(first|apply jd<;>intro _|simp(disch:=first|exact jK|fail) only[ja i0,ja i2,ja i3,T,c2,t1,t2,vl2,R,g2,E,jeN,ve2,Ap,V2.at,jk,C0.q,C1.q,C2.q,g2,V2.ln,V2.rts,jp,jt,jx,V2,jk,jm,jq,C0.r,C1.r,C2.r,r6,γ,δ,ε,ζ,η]));all_goals clear zz)
       refine⟨m,om,m,j,{ x with vars:=x.vars ++ [a] },v1,?v2,v3,rfl,om,hj.2,hl,om,?c0,?c1,?c2,?lv1,?lv2,?lv3,?d12,?d13,?d23,?has⟩;case lv2=>
        refine Lv.up (hi:=s.nx+4) ?_ om;refine VP _ _ ?_ ?_ ?_;all_goals first|(simp only[jf,je,jg];done)|(simp only[jf,je,jg];omega)|(simp(disch:=first|omega|(simp only[jf,je,jg];omega)) only[jp,jt,jx];exact V2)
       case lv1=>
        refine Lv.up (hi:=q) ?_ om;simp(disch:=first|omega|(simp only[jf,je,jg];omega)) only[jp,jt,jx];refine Lv.apsD ?_ D12.symm;simp(disch:=first|omega|(simp only[jf,je,jg];omega)) only[jp,jt,jx];exact V1
       case d12=>exact(Df.put V1 (by simp only[jf,je,jg];omega)).2
       case lv3=>
        refine Lv.up (hi:=q) ?_ om;simp(disch:=first|omega|(simp only[jf,je,jg];omega)) only[jp,jt,jx];refine Lv.apsD ?_ D23;simp(disch:=first|omega|(simp only[jf,je,jg];omega)) only[jp,jt,jx];exact V3
       case d23=>exact(Df.put V3 (by simp only[jf,je,jg];omega)).1
       case d13=>exact D13
       case c0=>(have zz:=aI C0.q (aI C1.q (aI C2.q (aI @g1 (aI @g2 (aI @g3 (aI V2.ln (aI V2.rts (aI @jk (aI @jm (aI @jq (aI C0.r (aI C1.r C2.r))))))))))));first|exact ju|fail)
       case c1=>(have zz:=aI C0.q (aI C1.q (aI C2.q (aI @g1 (aI @g2 (aI @g3 (aI V2.ln (aI V2.rts (aI @jk (aI @jm (aI @jq (aI C0.r (aI C1.r C2.r))))))))))));first|exact ju|fail)
       case c2=>(have zz:=aI C0.q (aI C1.q (aI C2.q (aI @g1 (aI @g2 (aI @g3 (aI V2.ln (aI V2.rts (aI @jk (aI @jm (aI @jq (aI C0.r (aI C1.r C2.r))))))))))));first|exact ju|fail)
       case has=>simp(disch:=decide) only[h12,i0,i2,i3]
    ·rw[if_neg t2] at hl;by_cases h32:32<=x.procs.length
     ·rw[if_pos h32] at hl;have hl:SR.er (tk ts i')=r:=hl;subst hl;have R:=YQ hb h32 (tk ts i');unfold pC at *
      (have zz:=aI @g3 (aI C0.r (aI C1.r C2.r));(repeat'(first|apply jd<;>intro _|simp(disch:=first|exact jK|fail) only[ja i0,ja i2,ja i3,T,c2,t1,t2,vl3,R,g3,zb,C0.q,C1.q,C2.q,g3,C0.r,C1.r,C2.r,r6,γ,δ,ε,ζ,η]));all_goals clear zz)
      refine⟨i'+1,0,?_⟩;unfold pC
      (refine G1.done ?_ (by rfl) (by rfl) ?_;(· (have zz:=aI C0.q (aI C1.q (aI C2.q (aI C0.r (aI C1.r C2.r))));first|exact ju|fail));(· first|exact vyD|skip))
     ·rw[if_neg h32] at hl;have R:=YP hb (show x.procs.length<32 by omega) (tk ts i');have A:=jja hb W hi1;cases hw:JC ts (i'+1) with
      |er t=>
       rw[hw] at hl A;have hl:SR.er t=r:=hl;subst hl;obtain⟨i2',d2,A⟩:=A;have E:∀ st p,Cl st p (pC ts (i'+1) 0)->∀ K Kp,XB θ base 80 [.ptr p 0] st K Kp=_:=λst p C K Kp=>A.xb C rfl (λst=>hb.no 80 dc _ _) K Kp;unfold pC at *
       (have zz:=aI @g3 (aI C0.r (aI C1.r C2.r));(repeat'(first|apply jd<;>intro _|simp(disch:=first|exact jK|fail) only[ja i0,ja i2,ja i3,T,c2,t1,t2,vl3,R,g3,E,jeM,ve3,zb,C0.q,C1.q,C2.q,g3,C0.r,C1.r,C2.r,r6,γ,δ,ε,ζ,η]));all_goals clear zz)
       refine⟨i2',d2,?_⟩;unfold pC
       (refine G1.done ?_ (by rfl) (by rfl) ?_;(· (have zz:=aI C0.q (aI C1.q (aI C2.q (aI C0.r (aI C1.r C2.r))));first|exact ju|fail));(· first|exact vyD|skip))
      |ok a j=>
       rw[hw] at hl A;dsimp only at hl;have A:PM θ base 80 (pC ts (i'+1) 0) [] (.ok (.agg [.str a.name,.lst a.rules.length (fl ruE a.rules),.int .i64 (a.line:Int),.int .i64 (a.col:Int)])) (pC ts j 0):=A;have hj:=Uu W hi1 hw;have E:∀ st p,Cl st p (pC ts (i'+1) 0)->∀ K Kp,XB θ base 80 [.ptr p 0] st K Kp=_:=λst p C K Kp=>A.xb C rfl (λst=>hb.no 80 dc _ _) K Kp;have Ap:=λst bv xc xx K h hv=>@Qr 3 q x.procs.length 4 st v3 (fl prE x.procs) K 56 bv xc xx h dc om om hv;have VP:∀ st m',Lv 3 q st v3 x.procs.length (fl prE x.procs) 4->3<=st.nx->m'=st.nx+1->Lv 3 m' (aps v3 st [.str a.name,.lst a.rules.length (fl ruE a.rules),.int .i64 (a.line:Int),.int .i64 (a.col:Int)]) (apv 4 v3 st) (x.procs ++ [a]).length (fl prE (x.procs ++ [a])) 4:=λst m' h h2 h3=>by
        rw[Qag,Jp,zu];exact h.put rfl h2 h3
       unfold pC at *
       (have zz:=aI @g3 (aI V3.ln (aI V3.rts (aI @jp (aI @jt (aI @jx (aI @V3 (aI @jk (aI @jm (aI @jq (aI C0.r (aI C1.r C2.r)))))))))));(repeat'(first|apply jd<;>intro _|simp(disch:=first|exact jK|fail) only[ja i0,ja i2,ja i3,T,c2,t1,t2,vl3,R,g3,E,jeM,ve3,Ap,V3.at,jk,C0.q,C1.q,C2.q,g3,V3.ln,V3.rts,jp,jt,jx,V3,jk,jm,jq,C0.r,C1.r,C2.r,r6,γ,δ,ε,ζ,η]));all_goals clear zz)
       refine⟨m,om,m,j,{ x with procs:=x.procs ++ [a] },v1,v2,?v3,rfl,om,hj.2,hl,om,?c0,?c1,?c2,?lv1,?lv2,?lv3,?d12,?d13,?d23,?has⟩;case lv3=>
        refine Lv.up (hi:=s.nx+4) ?_ om;refine VP _ _ ?_ ?_ ?_;all_goals first|(simp only[jf,je,jg];done)|(simp only[jf,je,jg];omega)|(simp(disch:=first|omega|(simp only[jf,je,jg];omega)) only[jp,jt,jx];exact V3)
       case lv1=>
        refine Lv.up (hi:=q) ?_ om;simp(disch:=first|omega|(simp only[jf,je,jg];omega)) only[jp,jt,jx];refine Lv.apsD ?_ D13.symm;simp(disch:=first|omega|(simp only[jf,je,jg];omega)) only[jp,jt,jx];exact V1
       case d13=>exact(Df.put V1 (by simp only[jf,je,jg];omega)).2
       case lv2=>
        refine Lv.up (hi:=q) ?_ om;simp(disch:=first|omega|(simp only[jf,je,jg];omega)) only[jp,jt,jx];refine Lv.apsD ?_ D23.symm;simp(disch:=first|omega|(simp only[jf,je,jg];omega)) only[jp,jt,jx];exact V2
       case d23=>exact(Df.put V2 (by simp only[jf,je,jg];omega)).2
       case d12=>exact D12
       case c0=>(have zz:=aI C0.q (aI C1.q (aI C2.q (aI @g1 (aI @g2 (aI @g3 (aI V3.ln (aI V3.rts (aI @jk (aI @jm (aI @jq (aI C0.r (aI C1.r C2.r))))))))))));first|exact ju|fail)
       case c1=>(have zz:=aI C0.q (aI C1.q (aI C2.q (aI @g1 (aI @g2 (aI @g3 (aI V3.ln (aI V3.rts (aI @jk (aI @jm (aI @jq (aI C0.r (aI C1.r C2.r))))))))))));first|exact ju|fail)
       case c2=>(have zz:=aI C0.q (aI C1.q (aI C2.q (aI @g1 (aI @g2 (aI @g3 (aI V3.ln (aI V3.rts (aI @jk (aI @jm (aI @jq (aI C0.r (aI C1.r C2.r))))))))))));first|exact ju|fail)
       case has=>simp(disch:=decide) only[h12,i0,i2,i3]
  ·rw[if_neg c2] at hl;by_cases k5:(tk ts i').kind=5
   ·rw[if_pos k5] at hl;have hl:SR.ok x i'=r:=hl;subst hl;have k5':((tk ts i').kind:Int)=5:=om
    unfold pC at *
    (have zz:=aI @g1 (aI @g2 (aI @g3 (aI @vc1 (aI @vc2 (aI @vc3 (aI C0.r (aI C1.r C2.r)))))));(repeat'(first|apply jd<;>intro _|simp(disch:=first|exact jK|fail) only[ja i0,ja i2,ja i3,T,c2,k5',g1,g2,g3,Kn,C0.q,C1.q,C2.q,g1,g2,g3,vc1,vc2,vc3,C0.r,C1.r,C2.r,r6,γ,δ,ε,ζ,η]));all_goals clear zz)
    show G1 3 (pC ts i' 0) (.agg (srE x)) _ _;refine G1.done ?_ (by rfl) (by rfl) (FzD.agg (.cons (Lv.fz (lo:=3) (hi:=q) (z:=4) ?_ dc (JH VL _)) (.cons (Lv.fz (lo:=3) (hi:=q) (z:=7) ?_ dc (JH wu _)) (.cons (Lv.fz (lo:=3) (hi:=q) (z:=4) ?_ dc (JH Vi _)) .nil))))
    ·unfold pC
     (have zz:=aI C0.q (aI C1.q (aI C2.q (aI @g1 (aI @g2 (aI @g3 (aI C0.r (aI C1.r C2.r)))))));first|exact ju|fail)
    all_goals simp(disch:=first|omega|(simp only[jf,je,jg];omega)) only[jE,jp,jt,jx]
    ·exact V1
    ·exact V2
    ·exact V3
   ·rw[if_neg k5] at hl;have hl:SR.er (tk ts i')=r:=hl;subst hl;have k5':¬ ((tk ts i').kind:Int)=5:=om
    unfold pC at *
    (have zz:=aI @g1 (aI C0.r (aI C1.r C2.r));(repeat'(first|apply jd<;>intro _|simp(disch:=first|exact jK|fail) only[ja i0,ja i2,ja i3,T,c2,k5',g1,JN hb,zb,C0.q,C1.q,C2.q,g1,C0.r,C1.r,C2.r,r6,γ,δ,ε,ζ,η]));all_goals clear zz)
    refine⟨i',0,?_⟩;unfold pC
    (refine G1.done ?_ (by rfl) (by rfl) ?_;(· (have zz:=aI C0.q (aI C1.q (aI C2.q (aI C0.r (aI C1.r C2.r))));first|exact ju|fail));(· first|exact vyD|skip))
 ·refine⟨ts.length,i,⟨[],[],[]⟩,.nils,.nils,.nils,rfl,om,hi,hr,om,C0,C1,C2,Lv.nil,Lv.nil,Lv.nil,trivial,trivial,trivial,?_⟩;simp(disch:=decide) only[h12]
theorem jkn:Go.Ev.isAgg θ 27=some true:=by kernel_rfl
theorem jkm:Go.Ev.sizeOf θ 27=some 3:=by kernel_rfl
theorem jaR {b:Nat}{h:T AO}(ho:0+3<=qz h b)(hv:rats h b 0 3=[.nils,.nils,.nils]):(jW θ 27 (.ptr b 0) (.agg [.nils,.nils,.nils]) h=true)=True:=eq_true (wa jkn jkm dc ho hv rfl)
def QN:SrcT:=⟨[],[],[]⟩
def zJ (l:List Nat):SrcT×(Nat×Nat×Nat):=
 if(qc l).2.1≠0 then(QN,(qc l).2) else match zX (qc l).1 (qc l).1.length 0 QN with
  |.er t=>(QN,(151,t.line,t.col))
  |.ok m j=>(m,(0,0,0))
theorem Kj (m:SrcT):(srE m).all pc=true:=by
 show([AV.lst m.enums.length (fl enE m.enums),.lst m.vars.length (fl qk m.vars),.lst m.procs.length (fl prE m.procs)]).all pc=true;simp[pc]
theorem Uo {s:St}{q:Nat×Nat×Nat}{ds:List AV}(h2:ds=zg q):G0 (.tup [.agg (srE QN),.agg (zg q)]) (.tup [.agg [.nils,.nils,.nils],.agg ds]) s:=by
 subst h2;exact FzD.tup (.cons (.agg (.cons FzD.nils (.cons FzD.nils (.cons FzD.nils .nil)))) (.cons (.agg (.pc (by rfl))) .nil))
theorem jhe {s:St}{m:SrcT}{q:Nat×Nat×Nat}{cs ds:List AV}(h:cs=srE m)(h2:ds=zg q):G0 (.tup [.agg (srE m),.agg (zg q)]) (.tup [.agg cs,.agg ds]) s:=by
 subst h h2;exact FzD.tup (.cons (.agg (.pc (Kj m))) (.cons (.agg (.pc (by rfl))) .nil))
set_option maxHeartbeats 4000000 in
theorem jfK (hb:NB base)(hP:PI base)(l:List Nat)(hl:l.length<=9223372036854775807)(hW:(qc l).2.1=0->Wds (qc l).1/\(qc l).1≠[]/\(qc l).2=(0,0,0))(hN:(qc l).2.1=0->Nbs (qc l).1) :
  Tot base 9 [.str l] (.tup [.agg (srE (zJ l).1),.agg (zg (zJ l).2)]):=by
 refine hb.tot ?_ rfl rfl;refine jeY x9 (hb.pur 9 1 dc) ?_;simp only[y9,jn,ν,ξ,τ,υ];rw[(by unfold z9;simp only[qq];rfl:z9=_)];have hC:=jkP hb hP l hl;have f0:(zg (qc l).2)=[.int .i64 ((qc l).2.1:Int),.int .i64 ((qc l).2.2.1:Int),.int .i64 ((qc l).2.2.2:Int)]:=rfl;by_cases he:(qc l).2.1=0
 ·obtain⟨W,hne,hz⟩:=hW he;have NN:=hN he;have hi:0<(qc l).1.length:=QbI.2 hne;have A:=jeL hb W NN hi;unfold zJ;rw[if_neg (by simp[he])];rw[hz] at hC;have s0:QN=⟨[],[],[]⟩:=rfl;rw[<-s0] at A;generalize (qc l).1=ts at *;have fz:zg (0,0,0)=[.int .i64 0,.int .i64 0,.int .i64 0]:=rfl;rw[fz] at hC;cases hr:zX ts ts.length 0 QN with
  |er t=>
   rw[hr] at A;obtain⟨i',d',A⟩:=A;have E:∀ st p,Cl st p [.lst ts.length (fl Tk.cells ts),.int .i64 0,.int .i64 0]->∀ K Kp,XB θ base 37 [.ptr p 0] st K Kp=_:=λst p C K Kp=>A.xb C rfl (λst=>hb.no 37 dc _ _) K Kp;unfold pC at *;repeat'(first|apply jd<;>intro _|simp(disch:=first|exact dzD|fail) only[hC,E,jaH,Ug (f:=36) (vs:=[.ptr 1 0]),Wn (f:=36) (vs:=[.ptr 1 0]),Wo,GR,ja8,jaQ,jaR,Uf,jeF,jeE (base:=base),r6,γ,δ,ε,ζ,η])
   exact Uo rfl
  |ok m j=>
   rw[hr] at A;have A:PM θ base 37 (pC ts 0 0) [] (.ok (.agg [.lst m.enums.length (fl enE m.enums),.lst m.vars.length (fl qk m.vars),.lst m.procs.length (fl prE m.procs)])) (pC ts j 0):=A;have E:∀ st p,Cl st p [.lst ts.length (fl Tk.cells ts),.int .i64 0,.int .i64 0]->∀ K Kp,XB θ base 37 [.ptr p 0] st K Kp=_:=λst p C K Kp=>A.xb C rfl (λst=>hb.no 37 dc _ _) K Kp;dsimp only;unfold pC at *;repeat'(first|apply jd<;>intro _|simp(disch:=first|exact dzD|fail) only[hC,E,jaH,Ug (f:=36) (vs:=[.ptr 1 0]),Wn (f:=36) (vs:=[.ptr 1 0]),Wo,GR,ja8,jaQ,jaR,Uf,jeF,jeE (base:=base),r6,γ,δ,ε,ζ,η])
   exact jhe rfl rfl
 ·have he':¬ ((qc l).2.1:Int)=0:=om
  unfold zJ;rw[if_pos he];rw[f0] at hC;generalize (qc l).1=ts at *;repeat'(first|apply jd<;>intro _|simp(disch:=first|exact dzD|fail) only[hC,he',jaH,Ug (f:=36) (vs:=[.ptr 1 0]),Wn (f:=36) (vs:=[.ptr 1 0]),Wo,GR,ja8,jaQ,jaR,r6,γ,δ,ε,ζ,η])
  exact Uo rfl
theorem jbb {r:List Nat}{p:Nat×Nat}{n:Nat}{t:Tk}(h:qu r p=(0,t,n)):t.text.length<=r.length/\t.num<=1000000:=by
 cases r with
 |nil=>simp[qu] at h;obtain⟨h1,h2⟩:=h;subst h1;simp
 |cons x r'=>
  unfold qu at h;simp only at h;split at h
  ·split at h
   ·simp at h
   ·simp only[Prod.mk.injEq] at h;obtain⟨_,h1,h2⟩:=h;subst h1;exact⟨by simp only[Qav];omega,by simp⟩
  ·split at h
   ·split at h
    ·simp at h
    ·rename_i hh;simp only[Prod.mk.injEq] at h;obtain⟨_,h1,h2⟩:=h;subst h1;exact⟨by simp only[Qav];omega,by dsimp only;omega⟩
   ·split at h
    ·simp at h
    ·simp only[Prod.mk.injEq] at h;obtain⟨_,h1,h2⟩:=h;subst h1;exact⟨by simp only[Qav];omega,by simp⟩
structure Goods (n:Nat)(ts:List Tk):Prop where
 ne:ts≠[]
 len:ts.length<=n+1
 tok:∀ t∈ts,t.text.length<=n/\t.num<=1000000
 fin:∀ i,i<ts.length->((tk ts i).kind=5↔i+1=ts.length)
theorem jdO (k:Nat):∀ (r:List Nat) (p:Nat×Nat),r.length<=k->(qG r p).2.1=0->(qG r p).2=(0,0,0)/\Goods r.length (qG r p).1:=by
 induction k with
 |zero=>
  intro r p hr;have:r=[]:=QaQ om;subst this;have hx:qu (([]:List Nat).drop (jH [])) (jD p (([]:List Nat).take (jH [])))=(0,⟨5,[],0,(jD p (([]:List Nat).take (jH []))).1,(jD p (([]:List Nat).take (jH []))).2⟩,0):=by simp only[List.drop_nil];rfl
  rw[XQ _ p hx,if_neg (by simp),if_pos rfl];intro _;refine⟨rfl,by simp,by simp,by simp,λi hi=>?_⟩;have:i=0:=by simp at hi;omega
  subst this;simp[tk]
 |succ k ih=>
  intro r p hr;have hg:=YY r;generalize hx:qu (r.drop (jH r)) (jD p (r.take (jH r)))=x;obtain⟨e,t,n⟩:=x;rw[XQ r p hx];by_cases he:e=0
  ·subst he;rw[if_neg (by simp)];have hk:=wT hx;have hgd:=jbb hx;have hle:=Zd hx;simp only[Qan] at hgd hle;by_cases hn:n=0
   ·rw[if_pos hn];intro _;refine⟨rfl,by simp,by simp,?_,λi hi=>?_⟩
    ·intro t' ht';have:t'=t:=by simpa using ht'
     subst this;exact⟨om,hgd.2⟩
    ·have:i=0:=by simp at hi;omega
     subst this;have:=hk.1.2 hn;simpa[tk] using this
   ·rw[if_neg hn];have hl:((r.drop (jH r)).drop n).length<=k:=by simp only[Qan];omega
    have hI:=ih ((r.drop (jH r)).drop n) (jD (jD p (r.take (jH r))) ((r.drop (jH r)).take n)) hl;generalize hq:qG ((r.drop (jH r)).drop n) (jD (jD p (r.take (jH r))) ((r.drop (jH r)).take n))=q at hI ⊢;by_cases hf:q.2.1=0
    ·rw[if_neg (by simp[hf])];intro _;obtain⟨h1,h2⟩:=hI hf;have hl2:((r.drop (jH r)).drop n).length+1<=r.length:=by simp only[Qan];omega
     generalize ((r.drop (jH r)).drop n).length=m at *;have h3:=h2.len;refine⟨h1,by simp,by simp only[χ];omega,?_,λi hi=>?_⟩
     ·intro t' ht';rcases QaF.1 ht' with rfl|ht'
      ·exact⟨om,hgd.2⟩
      ·have:=h2.tok t' ht';exact⟨om,this.2⟩
     ·cases i with
      |zero=>
       have hk5:t.kind≠5:=λh=>hn (hk.1.1 h);have:=QbI.2 h2.ne;show t.kind=5↔0+1=q.1.length+1;constructor
       ·intro h;exact absurd h hk5
       ·intro h;omega
      |succ i=>
       show(tk q.1 i).kind=5↔i+1+1=q.1.length+1;have:=h2.fin i (by simpa using hi);constructor
       ·intro h;have:=this.1 h;omega
       ·intro h;exact this.2 om
    ·rw[if_pos hf];intro h;exact absurd h hf
  ·rw[if_pos he];intro h;exact absurd h he
theorem ZF {l:List Nat}(h:(qc l).2.1=0):l.length<=65536/\(qc l).2=(0,0,0)/\Goods l.length (qc l).1:=by
 unfold qc at *;by_cases hl:65536<l.length
 ·rw[if_pos hl] at h;cases h
 ·rw[if_neg hl] at h ⊢;obtain⟨h1,h2⟩:=jdO l.length l (1,1) (φ _) h;exact⟨om,h1,h2⟩
theorem jgd {ts:List Tk}{i:Nat}(h:ts.length<=i):tk ts i=⟨0,[],0,0,0⟩:=by simp[tk,Qac,h]
theorem WY {ts:List Tk}{i:Nat}(h:i<ts.length):tk ts i∈ts:=by rw[<-jaP h];exact Qam h
theorem Goods.wds {n:Nat}{ts:List Tk}(h:Goods n ts)(hn:n<=65536):Wds ts where
 len:=by have:=h.len;omega
 next:=λi hi hk=>by
  have:=h.fin i hi;rcases Qar (i+1) ts.length with h2|h2
  ·exact h2
  ·exact absurd (this.2 om) hk
 txt:=λi=>by
  rcases Qar i ts.length with h2|h2
  ·have:=(h.tok _ (WY h2)).1;omega
  ·rw[jgd h2];simp
theorem Goods.nbs {n:Nat}{ts:List Tk}(h:Goods n ts):Nbs ts:=λi=>by
 rcases Qar i ts.length with h2|h2
 ·exact(h.tok _ (WY h2)).2
 ·rw[jgd h2];simp
theorem GO {l:List Nat}(h:(qc l).2.1=0):Wds (qc l).1/\(qc l).1≠[]/\(qc l).2=(0,0,0):=
 let ⟨h1,h2,h3⟩:=ZF h
 ⟨h3.wds h1,h3.ne,h2⟩
theorem jdN {l:List Nat}(h:(qc l).2.1=0):Nbs (qc l).1:=(ZF h).2.2.nbs
def jel:XC:=(Py [LG] (Lt [oL 7 1,TS 8 7,T9 9] 0 [Lg 10 9 8] 10 0 1 (oF [Tj 11 1 7 9,o5 12 11,oL 6 12] (Tw [oK 13 6,Tb 14,oI 15 (Pq 13 14)] 15 [oL 4 O5])) 16 9 1 9 16) [LG])
def jij:XF:=⟨[0,1],jel,[(.t 4)]⟩
theorem jk7:jF θ 130=some jij:=by kernel_rfl
def z84:XC:=(T4 [Pa] (Pr 3 (Tp 4 19 1 [oW] [TG 0 [101,110,117,109],TG 1 [118,97,114],TG 2 [98,111,111,108],TG 3 [112,114,111,99,101,115,115],TG 4 [119,104,101,110],TG 5 [100,111],TG 6 [116,114,117,101],TG 7 [102,97,108,115,101],T6 8 88,T6 9 70,T6 10 71,T6 11 85,T6 12 82,T6 13 89,T6 14 90,T6 15 79,T6 16 72,T6 17 83,T6 18 84]) (Ls 5 130 3 4) (L8 5)))
def y84:XF:=⟨[0],z84,[(.t 2)]⟩
theorem x84:jF θ 84=some y84:=by kernel_rfl
def z83:XC:=(T4 [Pa] [Tb 3,oD 4 (Pp .geq 3 97),Pe 5,TM 6 5 0,TA 7 5 (Pp .leq 6 122),Tl 8 5 7 IZ,oK 9 8,TO 10 9 0,Ok 11 9 (Pp .geq 10 65),TO 12 9 11,TM 13 12 0,TA 14 12 (Pp .leq 13 90),Ok 15 9 (.pick 12 14 IZ),Pl 16 9 15,L8 16])
def y83:XF:=⟨[0],z83,[(.t 2)]⟩
theorem x83:jF θ 83=some y83:=by kernel_rfl
def z85:XC:=(T4 [Pa] [Tb 3,oD 4 (Pp .geq 3 48),Pe 5,TM 6 5 0,TA 7 5 (Pp .leq 6 57),Tl 8 5 7 IZ,L8 8])
def y85:XF:=⟨[0],z85,[(.t 2)]⟩
theorem x85:jF θ 85=some y85:=by kernel_rfl
def z56:XC:=(Py [Pa] (TT [T9 3] 0 (Pi [oK 4 3,Tb 5,Pc 6 5,Lg 7 4 6] 7 0 (TJ 1 (Tw [Tb 10,oK 11 3,oD 12 (.ixStr 10 11),TN 13 83 12,oD 14 (Tx 13),oK 15 14,TM 16 15 3,TA 17 15 (oZ .eql 16 oR),TM 18 15 17,TO 19 18 0,TO 20 18 3,Ok 21 18 (.ixStr 19 20),Ph 22 (Og 18) 85 [21],Ok 23 18 (Tx 22),TO 24 18 23,TM 25 24 0,TM 26 24 3,TA 27 24 (.ixStr 25 26),TA 28 24 (Pp .neq 27 95),Ok 29 18 (.pick 24 28 IZ),TA 30 15 (.pick 18 O5 29),Tu 31 15 30 IZ] 31 [Pa]) [oK 8 3,Tv 9 8 1,oL 3 9]))) [Tb 32,Pc 33 32,oD 34 (oZ .gtr 33 oR),oK 35 34,TM 36 35 0,TA 37 35 (.lenS 36),TA 38 35 (I0 .leq 37 32),Tl 39 35 38 IZ,oK 40 39,TM 41 40 0,Pn 42 40 84 [41],TA 43 40 (Tx 42),Tl 44 40 43 IZ,L8 44])
def y56:XF:=⟨[0],z56,[(.t 2)]⟩
theorem x56:jF θ 56=some y56:=by kernel_rfl
def z51:XC:=(Py [TR 1 0,Oo 2 oW] (Tw [oU 3 3 1,o5 4 3,Lu 5 4,oI 6 (oZ .eql 5 oR)] 6 [LJ 7 1,TN 8 16 7,L8 8]) [LJ 9 1,TN 10 16 9,Lh 11 (If [40]) 10,Lh 12 11 (If [41]),L8 12])
def z53:XC:=(LM [Oo 2 oW] (Tw [Tb 3,oI 4 (oZ .lss 3 oR)] 4 [Tb 5,oD 6 (.un .neg 5),TN 7 53 6,Lh 8 (If [45]) 7,L8 8]) (Tw [Tb 9,Lk 10 .lss 9 10] 10 [Tb 11,Tb 12,Tv 13 12 1,oD 14 (Pd (If [48,49,50,51,52,53,54,55,56,57]) (some 11) 13),L8 14]) (.seq (.cops [Tr (Tb 15),Tr (OW 16 .quo 15 10),(TN 17 53 16,some [L5 17 0,OO (Tb 18) 0,OO (OW 19 .rem 18 10) 0,OO (Tb 20) 0,OO (OW 21 .rem 20 10) 0,OO (Tv 22 21 1) 0,OO (oD 23 (Pd (If [48,49,50,51,52,53,54,55,56,57]) (some 19) 22)) 0,L5 24 0,OO (Oo 2 Ty) 0]),Tr (Tb 18),Tr (OW 19 .rem 18 10),Tr (Tb 20),Tr (OW 21 .rem 20 10),Tr (Tv 22 21 1),Tr (oD 23 (Pd (If [48,49,50,51,52,53,54,55,56,57]) (some 19) 22)),Tr (Lh 24 17 23),Tr (L8 24)]) .ret))
def z20:XC:=(LM [TR 2 0,TR 3 1,LG] (Tw [LA 17 2,o5 18 17,Lu 19 18,LA 20 3,o5 21 20,Lu 22 21,oD 23 (Li 19 22),oK 24 23,Tm 25 24 1 2,Tq 26 24 25,Lz 27 24 26,Tm 28 24 1 3,Tq 29 24 28,Lz 30 24 29,Ok 31 24 (Li 27 30),Pl 32 24 31,oK 33 32,Tm 34 33 2 2,Tq 35 33 34,Lz 36 33 35,Tm 37 33 2 3,Tq 38 33 37,Lz 39 33 38,Ok 40 33 (Li 36 39),Tu 41 33 O5 40] 41 [LG]) (Lt [LA 42 2,Ll 43 42,TS 44 43,T9 45] 0 [Lg 46 45 44] 46 0 1 (T0 [oK 47 45,Tj 48 4 43 45,IX 49 4 48,IY 6 [oW,.nils,oR,oR],oL 5 47,IU 4 6 49] [LA 50 3,o5 51 50,oK 52 5,Tj 53 4 51 52,IX 54 4 53,IY 7 [oW,.nils,oR,oR],IU 4 7 54] (Tw [LA 55 6,o5 56 55,LA 57 7,o5 58 57,O8 59 .neq 56 58,oK 60 59,Tm 61 60 1 6,Tq 62 60 61,Lz 63 60 62,Tm 64 60 1 7,Tq 65 60 64,Lz 66 60 65,Ok 67 60 (Li 63 66),Tu 68 60 O5 67] 68 [LG]) (Lt [La 69 6,o5 70 69,TS 71 70,T9 72] 2 [Lg 73 72 71] 73 2 3 (Ob (Pg 74 72 8 74) (.cops [Tr (La 75 6),LC 76 75,Pz 77 8,Tr (Tj 78 1 76 77),LC 79 78,Tr (La 80 7),LC 81 80,Pz 82 8,Tr (Tj 83 1 81 82),LC 84 83,Tr (oI 85 (.strb .neq 79 84))]) (Pb 85 [LG] .skip)) 86 72 1 72 86)) 87 45 1 45 87) (.seq (Lt [La 88 2,Ll 89 88,TS 90 89,T9 91] 4 [Lg 92 91 90] 92 4 5 (T0 [oK 93 91,Tj 94 7 89 91,IX 95 7 94,IY 10 [oW,oW,oR,oR,.nils,oR,oR],oL 9 93,IU 7 10 95] [La 96 3,o5 97 96,oK 98 9,Tj 99 7 97 98,IX 100 7 99,IY 11 [oW,oW,oR,oR,.nils,oR,oR],IU 7 11 100] (Tw [LA 101 10,o5 102 101,LA 103 11,o5 104 103,O8 105 .neq 102 104,oK 106 105,Tm 107 106 1 10,Tq 108 106 107,Tm 109 106 1 11,Tq 110 106 109,Ok 111 106 (.strb .neq 108 110),Pl 112 106 111,oK 113 112,Tm 114 113 2 10,Tq 115 113 114,Tm 116 113 2 11,Tq 117 113 116,Ok 118 113 (Li 115 117),Pl 119 113 118,oK 120 119,Tm 121 120 3 10,Tq 122 120 121,Tm 123 120 3 11,Tq 124 120 123,Ok 125 120 (Li 122 124),Pl 126 120 125,oK 127 126,Tm 128 127 4 10,Tq 129 127 128,Lz 130 127 129,Tm 131 127 4 11,Tq 132 127 131,Lz 133 127 132,Ok 134 127 (Li 130 133),Tu 135 127 O5 134] 135 [LG]) (Lt [oU 136 4 10,o5 137 136,TS 138 137,T9 139] 6 [Lg 140 139 138] 140 6 7 (Ob (Pg 141 139 12 141) (.cops [Tr (oU 142 4 10),LC 143 142,Pz 144 12,Tr (Tj 145 6 143 144),Tr (LJ 146 145),Tr (oU 147 4 11),LC 148 147,Pz 149 12,Tr (Tj 150 6 148 149),Tr (LJ 151 150),(Ls 152 17 146 151,TZ),Tr (LH 153 152)]) (Pb 153 [LG] .skip)) 154 139 1 139 154)) 155 91 1 91 155) (.seq (Lt [oU 156 2 2,Ll 157 156,TS 158 157,T9 159] 8 [Lg 160 159 158] 160 8 9 (T0 [oK 161 159,Tj 162 4 157 159,IX 163 4 162,IY 14 [oW,.nils,oR,oR],oL 13 161,IU 4 14 163] [oU 164 2 3,o5 165 164,oK 166 13,Tj 167 4 165 166,IX 168 4 167,IY 15 [oW,.nils,oR,oR],IU 4 15 168] (Tw [LA 169 14,o5 170 169,LA 171 15,o5 172 171,O8 173 .neq 170 172,oK 174 173,Tm 175 174 1 14,Tq 176 174 175,Lz 177 174 176,Tm 178 174 1 15,Tq 179 174 178,Lz 180 174 179,Ok 181 174 (Li 177 180),Tu 182 174 O5 181] 182 [LG]) (Lt [La 183 14,o5 184 183,TS 185 184,T9 186] 10 [Lg 187 186 185] 187 10 11 (Ob (Pg 188 186 16 188) (.cops [Tr (La 189 14),LC 190 189,Pz 191 16,Tr (Tj 192 7 190 191),Tr (LA 193 192),Tr (LJ 194 193),Tr (La 195 15),LC 196 195,Pz 197 16,Tr (Tj 198 7 196 197),Tr (LA 199 198),Tr (LJ 200 199),(Ls 201 17 194 200,TZ),Tr (oD 202 (Tx 201)),Pz 203 202,Tr (Tm 204 203 1 14),Tr (Tq 205 203 204),Tr (TO 206 203 16),Tr (Ok 207 203 (.idxS 7 205 206)),Tr (Tm 208 203 6 207),Tr (Tq 209 203 208),Tr (Tm 210 203 1 15),Tr (Tq 211 203 210),Tr (TO 212 203 16),Tr (Ok 213 203 (.idxS 7 211 212)),Tr (Tm 214 203 6 213),Tr (Tq 215 203 214),(Ph 216 (Og 203) 58 [209,215],TZ),Tr (Ok 217 203 (Tx 216)),Tr (Tu 218 203 O5 217)]) (Pb 218 [LG] .skip)) 219 186 1 186 219)) 220 159 1 159 220) (Oe [oL 4 O5]))))
def y20:XF:=⟨[0,1],z20,[(.t 4)]⟩
theorem x20:jF θ 20=some y20:=by kernel_rfl
def z58:XC:=(LM [LG] (Tw [Tb 6,Lu 7 6,oK 8 1,Lu 9 8,oI 10 (Li 7 9)] 10 [LG]) (Lt [Tb 11,TS 12 11,T9 13] 0 [Lg 14 13 12] 14 0 1 (Ob (Pg 15 13 5 15) (.cops [Tr (Tb 16),Pz 17 5,Tr (Tj 18 9 16 17),Tr (LA 19 18),LC 20 19,Pz 21 1,Pz 22 5,Tr (Tj 23 9 21 22),Tr (LA 24 23),LC 25 24,Tr (O8 26 .neq 20 25),Pz 27 26,Tr (TO 28 27 0),Tr (TO 29 27 5),Tr (Ok 30 27 (.idxS 9 28 29)),Tr (Tm 31 27 1 30),Tr (Ok 32 27 (.ldA 6 31)),Tr (TO 33 27 1),Tr (TO 34 27 5),Tr (Ok 35 27 (.idxS 9 33 34)),Tr (Tm 36 27 1 35),Tr (Ok 37 27 (.ldA 6 36)),(Ph 38 (Og 27) 17 [32,37],TZ),Tr (Ok 39 27 (Tx 38)),Tr (Tu 40 27 O5 39)]) (Pb 40 [LG] .skip)) 41 13 1 13 41) (Oe [oL 4 O5]))
def y58:XF:=⟨[0,1],z58,[(.t 4)]⟩
theorem x58:jF θ 58=some y58:=by kernel_rfl
theorem ZP (hb:NB base)(c:Nat):Tot base 83 [.int .u8 (c:Int)] (.bool (qg c)):=by
 refine hb.tot ?_ rfl rfl;refine jT x83 (by rfl) (hb.pur 83 1 dc) ?_;simp only[y83,jn,ν,ξ,τ,υ];rw[(by unfold z83;simp only[qq];rfl:z83=_)];repeat'(first|apply jd<;>intro _|simp(disch:=first|exact dzA|fail) only[rzZ,γ,δ,ε,ζ,η])
 all_goals(refine G0.v (congrArg AV.bool ?_) rfl;rw[Qax];simp only[qg,QaE,Qad,decide_eq_true_eq,QaI,Qby,QaL,decide_eq_false_iff_not,true_iff,false_iff,iff_true,iff_false,not_true_eq_false,not_false_eq_true,ne_eq,eq_self]<;>omega)
theorem XU (hb:NB base)(c:Nat):Tot base 85 [.int .u8 (c:Int)] (.bool (jy c)):=by
 refine hb.tot ?_ rfl rfl;refine jT x85 (by rfl) (hb.pur 85 1 dc) ?_;simp only[y85,jn,ν,ξ,τ,υ];rw[(by unfold z85;simp only[qq];rfl:z85=_)];repeat'(first|apply jd<;>intro _|simp(disch:=first|exact dzA|fail) only[rzZ,γ,δ,ε,ζ,η])
 all_goals(refine G0.v (congrArg AV.bool ?_) rfl;rw[Qax];simp only[jy,QaE,Qad,decide_eq_true_eq,QaI,Qby,QaL,decide_eq_false_iff_not,true_iff,false_iff,iff_true,iff_false,not_true_eq_false,not_false_eq_true,ne_eq,eq_self]<;>omega)
theorem jg0 (hb:NB base)(l:List Nat)(S:List (List Nat))(hS:S.length<=1000000):PX θ base 130 [.str l,.lst S.length (S.map .str)] (.ok (.bool (decide (l∈S)))):=by
 have st1:∀ {k:Nat} (h:k<S.length) (st:St) (K:AV->St->Prop),jl (zm (.lptr (S.map AV.str) k) st) K=K (.str S[k]) st:=λ{k} h st K=>by
  rw[Z2 (by simpa using h)];congr 1;exact vw h
 refine jT jk7 (by rfl) (hb.pur 130 1 dc) ?_;simp only[jij,jn,ν,ξ,τ,υ];rw[(by unfold jel;simp only[qq];rfl:jel=_)];repeat'(first|apply jd<;>intro _|simp(disch:=first|exact dzA|fail) only[rzZ,γ,δ,ε,ζ,η])
 refine qZ S.length (λk L s=>(∀ j (h:j<S.length),j<k->S[j]≠l)/\Has L 0 (.str l)/\Has L 7 (.lst S.length (S.map AV.str))) (by first|assumption|omega) dc (by simp(disch:=decide) only[jc,jb]) (by simp(disch:=decide) only[jc,jb]) ?_ (λk L s v h=>by simp(disch:=decide) only[jb];exact h) (λk L s v h=>by simp(disch:=decide) only[jb];exact h) (λk L s hk hI hi hn=>?_) (λL s hI=>?_)
 ·refine⟨λj h hj=>absurd hj (QaM _),?_⟩;simp(disch:=decide) only[h12]
 ·obtain⟨h0,i0,i7⟩:=hI;repeat'(first|apply jd<;>intro _|simp(disch:=first|exact dzA|fail) only[ja i0,ja i7,ja hi,ja hn,st1,rzZ,γ,δ,ε,ζ,η])
  ·rename_i he;have he:S[k]=l:=by simpa using he
   exact G0.v (by rw[decide_eq_true (he▸Qam hk)]) rfl
  ·rename_i he;have he:¬ S[k]=l:=by simpa using he
   refine⟨⟨λj h hj=>?_,?_⟩,?_⟩
   ·rcases Qar j k with h2|h2
    ·exact h0 j h h2
    ·have:j=k:=om
     subst this;exact he
   ·simp(disch:=decide) only[h12,i0,i7]
   ·simp(disch:=decide) only[h12,hi,hn]
 ·obtain⟨h0,i0,i7⟩:=hI;repeat'(first|apply jd<;>intro _|simp(disch:=first|exact dzA|fail) only[ja i0,ja i7,rzZ,γ,δ,ε,ζ,η])
  refine G0.v (congrArg AV.bool ?_) rfl
  symm
  rw[decide_eq_false_iff_not];intro hm;obtain⟨j,hj,e⟩:=List.mem_iff_getElem.1 hm;exact h0 j hj hj e
theorem jax (hb:NB base)(l:List Nat):Tot base 84 [.str l] (.bool (w5 l)):=by
 refine hb.tot ?_ rfl rfl;have O:=λst b m x D K Kp=>(jg0 hb l uM dc).xf (st:=st) (aZ':=[.str l,.slice b 0 19 m 1 x]) (ks:=[b]) (Fza.pa rfl (Fza.sl (n:=19) (D:Cl st b (uM.map AV.str)) dc (QU uM) .nil)) (λst=>hb.no 130 dc _ _) K Kp;unfold uM at O;simp only[ν,ξ] at O;refine jT x84 (by rfl) (hb.pur 84 1 dc) ?_;simp only[y84,jn,ν,ξ,τ,υ];rw[(by unfold z84;simp only[qq];rfl:z84=_)];repeat'(first|apply jd<;>intro _|simp(disch:=first|exact dzA|fail) only[O,rzZ,γ,δ,ε,ζ,η])
 exact G0.v rfl rfl
def WA (l:List Nat)(i:Nat):Bool:=qg (l.getD i 0) ||decide (i≠0) && (jy (l.getD i 0) ||decide (l.getD i 0=95))
theorem Gd {p:Nat->Bool}:∀ {l:List Nat},j7 p l=l.length->∀ j,j<l.length->p (l.getD j 0)=true
 |[],_,j,h=>by simp at h
 |c :: l,h,j,hj=>by
  simp only[j7] at h;by_cases hc:p c=true
  ·rw[if_pos hc] at h;cases j with
   |zero=>exact hc
   |succ j=>exact Gd (l:=l) (by simpa using h) j (by simpa using hj)
  ·rw[if_neg hc] at h;simp at h
theorem jjd {l:List Nat}{i:Nat}(hi:i<l.length)(h:WA l i=false):nm l=false:=by
 rw[QaB];intro hn;unfold nm at hn;simp only[Qad,decide_eq_true_eq] at hn;obtain⟨⟨⟨_,h2⟩,_⟩,h3⟩:=hn;have:=Gd h3 i hi;unfold WA at h;unfold qE at this;by_cases h0:i=0
 ·subst h0;rw[h2] at h;cases h
 ·rw[decide_eq_true h0] at h;cases h1:qg (l.getD i 0)<;>cases h4:jy (l.getD i 0)<;>cases h5:decide (l.getD i 0=95)<;>simp only[h1,h4,h5] at h this<;>first|(cases h;done)|(cases this;done)
theorem jhq {l:List Nat}(h:∀ i,i<l.length->WA l i=true):nm l=(decide (0<l.length) && decide (l.length<=32) && !w5 l):=by
 have e:j7 qE l=l.length:=QZ (φ _) (λj hj=>by
  have:=h j hj;unfold WA at this;unfold qE;cases h1:qg (l.getD j 0)<;>cases h4:jy (l.getD j 0)<;>cases h5:decide (l.getD j 0=95)<;>rw[h1,h4,h5] at this<;>first|rfl|(simp at this;done)) (.inl rfl)
 unfold nm;cases l with
 |nil=>rfl
 |cons c l=>
  have h0:=h 0 (by simp);unfold WA at h0;have:qg ((c :: l).getD 0 0)=true:=by simpa using h0
  rw[e,this];simp
set_option maxHeartbeats 1000000 in
theorem jhZ (hb:NB base)(l:List Nat)(hl:l.length<=4611686018427387904):Tot base 56 [.str l] (.bool (nm l)):=by
 refine hb.tot ?_ rfl rfl;refine jT x56 (by rfl) (hb.pur 56 1 dc) ?_;simp only[y56,jn,ν,ξ,τ,υ];rw[(by unfold z56;simp only[qq];rfl:z56=_)];repeat'(first|apply jd<;>intro _|simp(disch:=first|exact dzA|fail) only[rzZ,γ,δ,ε,ζ,η])
 refine qB (λmm L s=>∃ k:Nat,k<=l.length/\mm=l.length - k/\(∀ j,j<k->WA l j=true)/\Has L 0 (.str l)/\Has L 3 (.int .i64 (k:Int))) ?_ l.length ?_
 ·rintro m L s ⟨k,hk,rfl,h0,i0,i3⟩;by_cases hlt:k<l.length
  ·have hlt':(k:Int)<(l.length:Int):=om
   have LT:=ZP hb (l.getD k 0);have DT:=XU hb (l.getD k 0);have z:((k:Int)=0)=(k=0):=by rw[eq_iff_iff];omega
   have z9:((l.getD k 0:Int)=95)=(l.getD k 0=95):=by rw[eq_iff_iff];omega
   have e1:(((k+1:Nat):Int))=(k:Int)+1:=om
   have hn:WA l k=(qg (l.getD k 0) ||decide (k≠0) && (jy (l.getD k 0) ||decide (l.getD k 0=95))):=rfl;repeat'(first|apply jd<;>intro _|simp(disch:=first|exact dzA|fail) only[ja i0,ja i3,hlt',LT,DT,z,z9,rzZ,γ,δ,ε,ζ,η])
   all_goals first
    |(refine G0.v (congrArg AV.bool (jjd hlt ?_)).symm rfl;rw[hn];simp_all;done)
    |(
     refine⟨l.length - (k+1),om,k+1,om,rfl,λj hj=>?_,?_⟩
     ·rcases Qar j k with h2|h2
      ·exact h0 j h2
      ·have:j=k:=om
       subst this;rw[hn];simp_all
     ·simp(disch:=decide) only[h12,i0,e1])
  ·have hlt':¬ (k:Int)<(l.length:Int):=om
   have hk':k=l.length:=om
   subst hk';have g:=jhq h0;repeat'(first|apply jd<;>intro _|simp(disch:=first|exact dzA|fail) only[ja i0,ja i3,hlt',jax hb l,rzZ,γ,δ,ε,ζ,η])
   all_goals(refine G0.v (congrArg AV.bool ?_) rfl;rw[g];simp_all<;>omega)
 ·refine⟨0,Qaf _,rfl,λj hj=>absurd hj (QaM _),?_⟩;simp(disch:=decide) only[h12]
theorem jln {b o:Nat}{v:AV}{h:T AO}(ho:o<qz h b)(hv:rat h b o=v)(hc:eqs v=true):(jW θ 35 (.ptr b o) v h=true)=True:=eq_true (J2 jga jf9 ho hv hc)
theorem jah (n:Nat)(cs:List AV):eqs (.lst n cs)=true:=nr rfl
def uK (op num:Int)(name:List Nat):Bool:=
 if op=1 then decide (0<=num) && decide (num<=1000000)
 else if op=2 then decide (num=0) ||decide (num=1)
 else if op=3 then decide (num=0) && nm name
 else if op=4 then true
 else decide (num=0)
mutual
def Y9:Ex->Bool
 |.mk op num name ks _ _=>decide (w4 op=(ks.length:Int)) && zw ks && (decide (op=3) ||decide (name=[])) && uK op num name
def zw:List Ex->Bool
 |[]=>true
 |x :: xs=>Y9 x && zw xs
end
theorem UV (x:Ex):Y9 x=(decide (w4 x.op=(x.kids.length:Int)) && zw x.kids && (decide (x.op=3) ||decide (x.name=[])) && uK x.op x.num x.name):=by cases x;rfl
theorem X0:∀ xs ys,zw (xs ++ ys)=(zw xs && zw ys)
 |[],ys=>by simp[zw]
 |x :: xs,ys=>by rw[Qay,zw,zw,X0,Bool.and_assoc]
theorem ckX {p:Prop} (h:p:=by(first|assumption|(simp(disch:=first|assumption|decide|(first|omega|(simp only[jf,je,jg,jh,ji];first|done|omega))) only[jv,jA,jz,jS,jp,jt,jE,jx];assumption))):p:=h
theorem r9:type_of%(aI @jj @rzZ):=aI @jj @rzZ
set_option maxHeartbeats 1000000 in
theorem jhW (hb:NB base):∀ x:Ex,szE x<=BIG->Tot base 92 [.agg (eE x)] (.bool (Y9 x)):=by
 refine Ex.indk λx ih hx=>?_;refine hb.tot ?_ (by first|rfl|simp[pa,pc,Jc]) rfl;have hd:=UV x;have hz:=Y8 x;generalize hks:x.kids=ks at *;have hlen:=QM ks;have NM:=jhZ hb x.name (by unfold BIG at *;omega);have KT:=jj2 hb x.op;unfold BIG at *;unfold uK at hd;refine jT x92 (by rfl) (hb.pur 92 1 dc) ?_;simp only[y92,jn,ν,ξ,τ,υ];rw[(by unfold z92;simp only[qq];rfl:z92=_)]
 (have zz:=aI @zx (aI @jah @hks);(repeat'(first|apply jd<;>intro _|simp(disch:=first|exact jfu|fail) only[hks,KT,sm3,jln,zx,jah,hks,r9,γ,δ,ε,ζ,η]));all_goals clear zz)
 ·rename_i h;exact G0.v (by rw[hd,decide_eq_false h];rfl) rfl
 refine qZ ks.length (λk L s=>zw (ks.take k)=true/\Has L 13 (.lst ks.length (fl eE ks))/\Has L 1 (.ptr 0 0)/\1<=s.nx/\Cl s 0 (eE x)) (by first|assumption|omega) dc (by simp(disch:=decide) only[jc,jb]) (by simp(disch:=decide) only[jc,jb]) ?_ (λk L s v h=>by simp(disch:=decide) only[jb];exact h) (λk L s v h=>by simp(disch:=decide) only[jb];exact h) (λk L s hk hI hi hn=>?_) (λL s hI=>?_)
 ·refine⟨rfl,?_⟩;simp(disch:=decide) only[h12];exact⟨by show 1<=_;simp only[jf,qW];omega,Cl.new _ _⟩
 ·obtain⟨h0,i13,i1,n0,C0⟩:=hI;have hk2:=Xt hk;have e:=ih ks[k] (Qam hk) om;repeat'(first|apply jd<;>intro _|simp(disch:=first|exact dzB|fail) only[ja i13,ja i1,ja hi,ja hn,e,r9,γ,δ,ε,ζ,η])
  ·rename_i hf;have e3:=X0 (ks.take (k+1)) (ks.drop (k+1));rw[List.take_append_drop,WZ hk,X0] at e3;simp only[zw,hf,Bool.and_false,Qbg,QaZ] at e3;exact G0.v (by rw[hd,e3];simp) rfl
  ·rename_i hf;refine⟨⟨?_,?_⟩,?_⟩
   ·rw[WZ hk,X0,h0];simp_all [zw]
   ·simp(disch:=decide) only[h12,i13,i1];exact⟨by(first|omega|(simp only[jf,je,jg,jh,ji];first|done|omega)),ckX⟩
   ·simp(disch:=decide) only[h12,hi,hn]
 ·obtain⟨h0,i13,i1,n0,C0⟩:=hI;rw[Qaw] at h0;rw[h0] at hd
  (have zz:=C0.r;(repeat'(first|apply jd<;>intro _|simp(disch:=first|exact jfu|fail) only[ja i13,ja i1,NM,hks,C0.q,C0.r,r9,γ,δ,ε,ζ,η]));all_goals clear zz)
  all_goals(refine G0.v (congrArg AV.bool ?_) rfl;rw[hd];simp_all<;>omega)
theorem jbf (x:Ex):uL x=((decide (x.op=3) ||decide (x.name=[])) && uK x.op x.num x.name):=by
 unfold uL uK;by_cases h1:x.op=1
 ·simp[h1,Bool.and_comm]
 ·by_cases h2:x.op=2
  ·simp[h2,Bool.and_comm]
  ·by_cases h3:x.op=3
   ·simp[h3]
   ·by_cases h4:x.op=4
    ·simp[h4]
    ·simp[h1,h2,h3,h4,Bool.and_comm]
theorem Wb:∀ xs,zw xs=xs.all Y9
 |[]=>rfl
 |x :: xs=>by rw[zw,Wb xs];rfl
theorem VM {n:Nat}:∀ xs:List Ex,ym xs<=n↔∀ x∈xs,YG x<=n
 |[]=>by simp[ym]
 |x :: xs=>by simp[ym,Nat.max_le,VM xs]
theorem X1:∀ (d:Nat) (x:Ex),zC d x=(decide (YG x<=d) && Y9 x)
 |0,x=>by
  have:YG x=ym x.kids+1:=WJ x;rw[zC,decide_eq_false om];rfl
 |d+1,x=>by
  rw[gI,UV,WJ,jbf,Wb];have ih:x.kids.all (zC d)=(decide (ym x.kids<=d) && x.kids.all Y9):=by
   rw[Qax];simp only[Qah,Qad,decide_eq_true_eq,VM];constructor
   ·intro h;exact⟨λk hk=>by have:=h k hk;rw[X1 d k] at this;simp at this;exact this.1,λk hk=>by have:=h k hk;rw[X1 d k] at this;simp at this;exact this.2⟩
   ·rintro ⟨h1,h2⟩ k hk;rw[X1 d k];simp[h1 k hk,h2 k hk]
  rw[ih];have e1:decide (ym x.kids+1<=d+1)=decide (ym x.kids<=d):=by simp
  rw[e1];have e2:(decide (1<=x.op) && decide (x.op<31) && decide ((x.kids.length:Int)=if 5<=x.op/\x.op<=13 then 1 else if 14<=x.op/\x.op<31 then 2 else 0))=decide (w4 x.op=(x.kids.length:Int)):=by
   rw[Qax];simp only[Qad,decide_eq_true_eq];unfold w4;have:(0:Int)<=(x.kids.length:Int):=om
   generalize (x.kids.length:Int)=n at *;generalize x.op=op at *;constructor
   ·rintro ⟨⟨h1,h2⟩,h3⟩;split at h3
    ·rw[if_neg om,if_pos om,h3]
    ·split at h3
     ·rw[if_neg om,if_neg om,if_pos om,h3]
     ·rw[if_pos om,h3]
   ·intro h;split at h
    ·exact⟨⟨om,om⟩,by rw[if_neg om,if_neg om];omega⟩
    ·split at h
     ·exact⟨⟨om,om⟩,by rw[if_pos om];omega⟩
     ·split at h
      ·exact⟨⟨om,om⟩,by rw[if_neg om,if_pos om];omega⟩
      ·omega
  rw[e2];cases decide (w4 x.op=(x.kids.length:Int))<;>cases decide (ym x.kids<=d)<;>cases x.kids.all Y9<;>cases (decide (x.op=3) ||decide (x.name=[]))<;>cases uK x.op x.num x.name<;>rfl
theorem jfM (hb:NB base)(x:Ex)(hx:szE x<=BIG):Tot base 46 [.agg (eE x)] (.bool (zC 60 x)):=by
 refine hb.tot ?_ (by first|rfl|simp[pa,pc,Jc]) rfl;have e:=X1 60 x;have D:=jj7 hb x hx;have S:=jhW hb x hx;refine jT x46 (by rfl) (hb.pur 46 1 dc) ?_;simp only[y46,jn,ν,ξ,τ,υ];rw[(by unfold z46;simp only[qq];rfl:z46=_)];repeat'(first|apply jd<;>intro _|simp(disch:=first|exact dzB|fail) only[D,S,r9,γ,δ,ε,ζ,η])
 all_goals(refine G0.v (congrArg AV.bool ?_) rfl;rw[e];simp_all<;>omega)
theorem US (hb:NB base)(op:Int):Tot base 52 [.int .i64 op] (.str (sgn op)):=by
 refine hb.tot ?_ rfl rfl;refine jT x52 (by rfl) (hb.pur 52 1 dc) ?_;simp only[y52,jn,ν,ξ,τ,υ];rw[(by unfold z52;simp only[qq];rfl:z52=_)];repeat'(first|apply jd<;>intro _|simp(disch:=first|exact dzB|fail) only[r9,γ,δ,ε,ζ,η])
 ·exact G0.v (by rw[sgn,if_neg om]) rfl
 ·exact G0.v (by rw[sgn,if_neg om]) rfl
 ·have h26:(op - 5).toNat<Z8.length:=by show(op - 5).toNat<26;omega
  show G0 _ ((Z8.map AV.str).getD _ _) _;rw[vw h26];exact G0.v (by rw[sgn,if_pos om,Qap,Qaj h26];rfl) rfl
def qL {α β:Type}(f:α->β->Bool):List α->List β->Bool
 |[],[]=>true
 |x :: xs,y :: ys=>f x y && qL f xs ys
 |_,_=>false
section
variable {α β:Type} {f:α->β->Bool}
theorem G6:∀ {xs:List α} {ys:List β},qL f xs ys=true->xs.length=ys.length
 |[],[],_=>rfl
 |x :: xs,y :: ys,h=>by
  simp only[qL,Qad] at h;simp[G6 h.2]
 |[],y :: ys,h=>by simp[qL] at h
 |x :: xs,[],h=>by simp[qL] at h
theorem Q6 {xs:List α}{ys:List β}(h:xs.length≠ys.length):qL f xs ys=false:=by
 rw[QaB];exact λk=>h (G6 k)
theorem Qq:∀ {xs:List α} {ys:List β} {k:Nat} (h:k<xs.length) (h2:k<ys.length),f xs[k] ys[k]=false->qL f xs ys=false
 |x :: xs,y :: ys,0,_,_,h=>by simp only[QbW] at h;simp[qL,h]
 |x :: xs,y :: ys,k+1,h1,h2,h=>by
  simp only[QbH] at h;simp[qL,Qq (by simpa using h1) (by simpa using h2) h]
theorem Xn:∀ {xs:List α} {ys:List β} {k:Nat} (h:k<xs.length) (h2:k<ys.length),qL f (xs.take (k+1)) (ys.take (k+1))=(qL f (xs.take k) (ys.take k) && f xs[k] ys[k])
 |x :: xs,y :: ys,0,_,_=>by simp[qL]
 |x :: xs,y :: ys,k+1,h1,h2=>by
  have:=Xn (xs:=xs) (ys:=ys) (k:=k) (by simpa using h1) (by simpa using h2);simp only[QbG,qL,QbH,this,Bool.and_assoc]
theorem Qe {xs:List α}{ys:List β}(h:xs.length=ys.length)(h2:qL f (xs.take xs.length) (ys.take xs.length)=true):qL f xs ys=true:=by
 rw[Qaw,h,Qaw] at h2;exact h2
end
mutual
def JX:Ex->Ex->Bool
 |.mk op num name ks _ _,y=>decide (op=y.op) && decide (num=y.num) && decide (name=y.name) && W9 ks y.kids
def W9:List Ex->List Ex->Bool
 |[],[]=>true
 |x :: xs,y :: ys=>JX x y && W9 xs ys
 |[],_ :: _=>false
 |_ :: _,[]=>false
end
theorem W8:∀ xs ys,W9 xs ys=qL JX xs ys
 |[],[]=>rfl
 |x :: xs,y :: ys=>by rw[W9,W8 xs ys];rfl
 |[],_ :: _=>rfl
 |_ :: _,[]=>rfl
theorem gG (x y:Ex):JX x y=(decide (x.op=y.op) && decide (x.num=y.num) && decide (x.name=y.name) && qL JX x.kids y.kids):=by
 cases x;rw[JX,W8];rfl
set_option maxHeartbeats 1000000 in
theorem Ha (hb:NB base):∀ x:Ex,szE x<=BIG->∀ y:Ex,szE y<=BIG->Tot base 17 [.agg (eE x),.agg (eE y)] (.bool (JX x y)):=by
 refine Ex.indk λx ih hx y hy=>?_;refine hb.tot ?_ (by first|rfl|simp[pa,pc,Jc]) rfl;have hd:=gG x y;have hz:=Y8 x;have hz2:=Y8 y;generalize hks:x.kids=ks at *;generalize hls:y.kids=ls at *;have hlen:=QM ks;have hlen2:=QM ls;unfold BIG at *;have ene:((ks.length:Int)=(ls.length:Int))=(ks.length=ls.length):=by rw[eq_iff_iff];omega
 refine jT x17 (by rfl) (hb.pur 17 1 dc) ?_;simp only[y17,jn,ν,ξ,τ,υ];rw[(by unfold z17;simp only[qq];rfl:z17=_)];repeat'(first|apply jd<;>intro _|simp(disch:=first|exact dzB|fail) only[hks,hls,ene,r9,γ,δ,ε,ζ,η])
 ·exact G0.v (by rw[hd];simp_all) rfl
 ·exact G0.v (by rw[hd];simp_all) rfl
 ·exact G0.v (by rw[hd];simp_all) rfl
 ·exact G0.v (by rw[hd,Q6 (by assumption)];simp) rfl
 have hl:ks.length=ls.length:=by simp_all
 refine qZ ks.length (λk L s=>qL JX (ks.take k) (ls.take k)=true/\Has L 2 (.ptr 0 0)/\Has L 3 (.ptr 1 0)/\2<=s.nx/\Cl s 0 (eE x)/\Cl s 1 (eE y)) (by first|assumption|omega) dc (by simp(disch:=decide) only[jc,jb]) (by simp(disch:=decide) only[jc,jb]) ?_ (λk L s v h=>by simp(disch:=decide) only[jb];exact h) (λk L s v h=>by simp(disch:=decide) only[jb];exact h) (λk L s hk hI hi hn=>?_) (λL s hI=>?_)
 ·refine⟨rfl,?_⟩;simp(disch:=decide) only[h12];exact⟨by(first|omega|(simp only[jf,je,jg,jh,ji];first|done|omega)),by(first|exact cyB|fail),by(first|exact cyB|fail)⟩
 ·obtain⟨h0,i2,i3,n0,C0,C1⟩:=hI;have hk2:k<ls.length:=om
  have g0:=Xt hk;have g1:=Xt hk2;have e:=ih ks[k] (Qam hk) om ls[k] om
  (have zz:=aI C0.r C1.r;(repeat'(first|apply jd<;>intro _|simp(disch:=first|exact jfu|fail) only[ja i2,ja i3,ja hi,ja hn,e,hks,hls,C0.q,C1.q,C0.r,C1.r,r9,γ,δ,ε,ζ,η]));all_goals clear zz)
  ·rename_i hf;exact G0.v (by rw[hd,Qq hk hk2 (by simpa using hf)];simp) rfl
  ·rename_i hf;refine⟨⟨?_,?_⟩,?_⟩
   ·rw[Xn hk hk2,h0];simpa using hf
   ·simp(disch:=decide) only[h12,i2,i3];exact⟨by(first|omega|(simp only[jf,je,jg,jh,ji];first|done|omega)),ckX,ckX⟩
   ·simp(disch:=decide) only[h12,hi,hn]
 ·obtain⟨h0,i2,i3,n0,C0,C1⟩:=hI;repeat'(first|apply jd<;>intro _|simp(disch:=first|exact dzB|fail) only[ja i2,r9,γ,δ,ε,ζ,η])
  exact G0.v (by rw[hd,Qe hl h0];simp_all) rfl
theorem KP (e:EnumT):enE e=[.str e.name,.lst e.vals.length (e.vals.map .str),.int .i64 e.line,.int .i64 e.col]:=rfl
theorem vg (e:EnumT):(enE e).length=4:=nr (by rw[KP];rfl)
theorem KQ (e:EnumT)(k:Nat):(enE e).getD k .bad=([.str e.name,.lst e.vals.length (e.vals.map .str),.int .i64 e.line,.int .i64 e.col]:List AV).getD k .bad:=nr (by rw[KP])
theorem jgP (e:EnumT)(k:Nat):(enE e).drop k=([.str e.name,.lst e.vals.length (e.vals.map .str),.int .i64 e.line,.int .i64 e.col]:List AV).drop k:=nr (by rw[KP])
theorem KR (e:EnumT):lall AV.cell (enE e)=true:=nr (by rw[KP];rfl)
theorem jgO {st:St}{K:AV->St->Prop}{xs:List EnumT}{i:Nat}(h:i<xs.length):jl (Jb 4 (.lptr (fl enE xs) (i * 4)) st) K=K (.agg (enE xs[i])) st:=Yq vg h
theorem jdJ {st:St}{K:AV->St->Prop}{xs:List EnumT}{i:Nat}(h:i<xs.length){k:Nat}(hk:k<4):jl (zm (.lptr (fl enE xs) (i * 4+k)) st) K=K ((enE xs[i]).getD k .bad) st:=zB vg h hk
theorem jdK {st:St}{K:AV->St->Prop}{xs:List EnumT}{i:Nat}(h:i<xs.length):jl (zm (.lptr (fl enE xs) (i * 4)) st) K=K ((enE xs[i]).getD 0 .bad) st:=zB (k:=0) vg h dc
theorem yl:type_of% (aI @vg (aI @KQ (aI @jgP (aI @KR (aI @jgO (aI @jdK @jdJ)))))):=aI @vg (aI @KQ (aI @jgP (aI @KR (aI @jgO (aI @jdK @jdJ)))))
theorem QK:type_of% (aI @vg (aI @KR @KQ)):=aI @vg (aI @KR @KQ)
theorem uV (d:DeclT):qk d=[.str d.name,.str d.ty,.int .i64 d.lo,.int .i64 d.hi,.lst d.begins.length (fl eE d.begins),.int .i64 d.line,.int .i64 d.col]:=rfl
theorem XP (d:DeclT):(qk d).length=7:=nr (by rw[uV];rfl)
theorem uW (d:DeclT)(k:Nat):(qk d).getD k .bad=([.str d.name,.str d.ty,.int .i64 d.lo,.int .i64 d.hi,.lst d.begins.length (fl eE d.begins),.int .i64 d.line,.int .i64 d.col]:List AV).getD k .bad:=nr (by rw[uV])
theorem jan (d:DeclT)(k:Nat):(qk d).drop k=([.str d.name,.str d.ty,.int .i64 d.lo,.int .i64 d.hi,.lst d.begins.length (fl eE d.begins),.int .i64 d.line,.int .i64 d.col]:List AV).drop k:=nr (by rw[uV])
theorem uX (d:DeclT):lall AV.cell (qk d)=true:=nr (by rw[uV];rfl)
theorem jam {st:St}{K:AV->St->Prop}{xs:List DeclT}{i:Nat}(h:i<xs.length):jl (Jb 7 (.lptr (fl qk xs) (i * 7)) st) K=K (.agg (qk xs[i])) st:=Yq XP h
theorem GL {st:St}{K:AV->St->Prop}{xs:List DeclT}{i:Nat}(h:i<xs.length){k:Nat}(hk:k<7):jl (zm (.lptr (fl qk xs) (i * 7+k)) st) K=K ((qk xs[i]).getD k .bad) st:=zB XP h hk
theorem GM {st:St}{K:AV->St->Prop}{xs:List DeclT}{i:Nat}(h:i<xs.length):jl (zm (.lptr (fl qk xs) (i * 7)) st) K=K ((qk xs[i]).getD 0 .bad) st:=zB (k:=0) XP h dc
theorem qA:type_of% (aI @XP (aI @uW (aI @jan (aI @uX (aI @jam (aI @GM @GL)))))):=aI @XP (aI @uW (aI @jan (aI @uX (aI @jam (aI @GM @GL)))))
theorem zZ:type_of% (aI @XP (aI @uX @uW)):=aI @XP (aI @uX @uW)
theorem KW (a:AsT):asE a=[.str a.name,.int .i64 a.to.op,.int .i64 a.to.num,.str a.to.name,.lst a.to.kids.length (fl eE a.to.kids),.int .i64 a.to.line,.int .i64 a.to.col,.int .i64 a.line,.int .i64 a.col]:=(by unfold asE;rw[qO];rfl)
theorem KX (a:AsT)(k:Nat):(asE a).getD k .bad=([.str a.name,.int .i64 a.to.op,.int .i64 a.to.num,.str a.to.name,.lst a.to.kids.length (fl eE a.to.kids),.int .i64 a.to.line,.int .i64 a.to.col,.int .i64 a.line,.int .i64 a.col]:List AV).getD k .bad:=nr (by rw[KW])
theorem jgX (a:AsT)(k:Nat):(asE a).drop k=([.str a.name,.int .i64 a.to.op,.int .i64 a.to.num,.str a.to.name,.lst a.to.kids.length (fl eE a.to.kids),.int .i64 a.to.line,.int .i64 a.to.col,.int .i64 a.line,.int .i64 a.col]:List AV).drop k:=nr (by rw[KW])
theorem jgW {st:St}{K:AV->St->Prop}{xs:List AsT}{i:Nat}(h:i<xs.length):jl (Jb 9 (.lptr (fl asE xs) (i * 9)) st) K=K (.agg (asE xs[i])) st:=Yq YM h
theorem jdV {st:St}{K:AV->St->Prop}{xs:List AsT}{i:Nat}(h:i<xs.length){k:Nat}(hk:k<9):jl (zm (.lptr (fl asE xs) (i * 9+k)) st) K=K ((asE xs[i]).getD k .bad) st:=zB YM h hk
theorem jdW {st:St}{K:AV->St->Prop}{xs:List AsT}{i:Nat}(h:i<xs.length):jl (zm (.lptr (fl asE xs) (i * 9)) st) K=K ((asE xs[i]).getD 0 .bad) st:=zB (k:=0) YM h dc
theorem qY:type_of% (aI @YM (aI @KX (aI @jgX (aI @KY (aI @jgW (aI @jdW @jdV)))))):=aI @YM (aI @KX (aI @jgX (aI @KY (aI @jgW (aI @jdW @jdV)))))
theorem QL:type_of% (aI @YM (aI @KY @KX)):=aI @YM (aI @KY @KX)
theorem Kr (r:RuleT):ruE r=[.int .i64 r.when.op,.int .i64 r.when.num,.str r.when.name,.lst r.when.kids.length (fl eE r.when.kids),.int .i64 r.when.line,.int .i64 r.when.col,.lst r.acts.length (fl asE r.acts)]:=Yc r
theorem Ks (r:RuleT)(k:Nat):(ruE r).getD k .bad=([.int .i64 r.when.op,.int .i64 r.when.num,.str r.when.name,.lst r.when.kids.length (fl eE r.when.kids),.int .i64 r.when.line,.int .i64 r.when.col,.lst r.acts.length (fl asE r.acts)]:List AV).getD k .bad:=nr (by rw[Kr])
theorem jgk (r:RuleT)(k:Nat):(ruE r).drop k=([.int .i64 r.when.op,.int .i64 r.when.num,.str r.when.name,.lst r.when.kids.length (fl eE r.when.kids),.int .i64 r.when.line,.int .i64 r.when.col,.lst r.acts.length (fl asE r.acts)]:List AV).drop k:=nr (by rw[Kr])
theorem Kt (r:RuleT):lall AV.cell (ruE r)=true:=nr (by rw[Kr];rfl)
theorem jgj {st:St}{K:AV->St->Prop}{xs:List RuleT}{i:Nat}(h:i<xs.length):jl (Jb 7 (.lptr (fl ruE xs) (i * 7)) st) K=K (.agg (ruE xs[i])) st:=Yq Zx h
theorem jcG {st:St}{K:AV->St->Prop}{xs:List RuleT}{i:Nat}(h:i<xs.length){k:Nat}(hk:k<7):jl (zm (.lptr (fl ruE xs) (i * 7+k)) st) K=K ((ruE xs[i]).getD k .bad) st:=zB Zx h hk
theorem jcH {st:St}{K:AV->St->Prop}{xs:List RuleT}{i:Nat}(h:i<xs.length):jl (zm (.lptr (fl ruE xs) (i * 7)) st) K=K ((ruE xs[i]).getD 0 .bad) st:=zB (k:=0) Zx h dc
theorem yh:type_of% (aI @Zx (aI @Ks (aI @jgk (aI @Kt (aI @jgj (aI @jcH @jcG)))))):=aI @Zx (aI @Ks (aI @jgk (aI @Kt (aI @jgj (aI @jcH @jcG)))))
theorem QC:type_of% (aI @Zx (aI @Kt @Ks)):=aI @Zx (aI @Kt @Ks)
theorem Kw (p:ProcT):prE p=[.str p.name,.lst p.rules.length (fl ruE p.rules),.int .i64 p.line,.int .i64 p.col]:=rfl
theorem wL (p:ProcT):(prE p).length=4:=nr (by rw[Kw];rfl)
theorem Kx (p:ProcT)(k:Nat):(prE p).getD k .bad=([.str p.name,.lst p.rules.length (fl ruE p.rules),.int .i64 p.line,.int .i64 p.col]:List AV).getD k .bad:=nr (by rw[Kw])
theorem jgs (p:ProcT)(k:Nat):(prE p).drop k=([.str p.name,.lst p.rules.length (fl ruE p.rules),.int .i64 p.line,.int .i64 p.col]:List AV).drop k:=nr (by rw[Kw])
theorem Ky (p:ProcT):lall AV.cell (prE p)=true:=nr (by rw[Kw];rfl)
theorem jgr {st:St}{K:AV->St->Prop}{xs:List ProcT}{i:Nat}(h:i<xs.length):jl (Jb 4 (.lptr (fl prE xs) (i * 4)) st) K=K (.agg (prE xs[i])) st:=Yq wL h
theorem jcU {st:St}{K:AV->St->Prop}{xs:List ProcT}{i:Nat}(h:i<xs.length){k:Nat}(hk:k<4):jl (zm (.lptr (fl prE xs) (i * 4+k)) st) K=K ((prE xs[i]).getD k .bad) st:=zB wL h hk
theorem jcV {st:St}{K:AV->St->Prop}{xs:List ProcT}{i:Nat}(h:i<xs.length):jl (zm (.lptr (fl prE xs) (i * 4)) st) K=K ((prE xs[i]).getD 0 .bad) st:=zB (k:=0) wL h dc
theorem yi:type_of% (aI @wL (aI @Kx (aI @jgs (aI @Ky (aI @jgr (aI @jcV @jcU)))))):=aI @wL (aI @Kx (aI @jgs (aI @Ky (aI @jgr (aI @jcV @jcU)))))
theorem QD:type_of% (aI @wL (aI @Ky @Kx)):=aI @wL (aI @Ky @Kx)
theorem Ki (m:SrcT):srE m=[.lst m.enums.length (fl enE m.enums),.lst m.vars.length (fl qk m.vars),.lst m.procs.length (fl prE m.procs)]:=rfl
theorem wF (m:SrcT):(srE m).length=3:=nr (by rw[Ki];rfl)
theorem Kk (m:SrcT)(k:Nat):(srE m).getD k .bad=([.lst m.enums.length (fl enE m.enums),.lst m.vars.length (fl qk m.vars),.lst m.procs.length (fl prE m.procs)]:List AV).getD k .bad:=nr (by rw[Ki])
theorem jgi (m:SrcT)(k:Nat):(srE m).drop k=([.lst m.enums.length (fl enE m.enums),.lst m.vars.length (fl qk m.vars),.lst m.procs.length (fl prE m.procs)]:List AV).drop k:=nr (by rw[Ki])
theorem Kl (m:SrcT):lall AV.cell (srE m)=true:=nr (by rw[Ki];rfl)
theorem jgh {st:St}{K:AV->St->Prop}{xs:List SrcT}{i:Nat}(h:i<xs.length):jl (Jb 3 (.lptr (fl srE xs) (i * 3)) st) K=K (.agg (srE xs[i])) st:=Yq wF h
theorem jcA {st:St}{K:AV->St->Prop}{xs:List SrcT}{i:Nat}(h:i<xs.length){k:Nat}(hk:k<3):jl (zm (.lptr (fl srE xs) (i * 3+k)) st) K=K ((srE xs[i]).getD k .bad) st:=zB wF h hk
theorem jcB {st:St}{K:AV->St->Prop}{xs:List SrcT}{i:Nat}(h:i<xs.length):jl (zm (.lptr (fl srE xs) (i * 3)) st) K=K ((srE xs[i]).getD 0 .bad) st:=zB (k:=0) wF h dc
theorem yg:type_of% (aI @wF (aI @Kk (aI @jgi (aI @Kl (aI @jgh (aI @jcB @jcA)))))):=aI @wF (aI @Kk (aI @jgi (aI @Kl (aI @jgh (aI @jcB @jcA)))))
theorem QB:type_of% (aI @wF (aI @Kl @Kk)):=aI @wF (aI @Kl @Kk)
theorem dzE {p:Prop}(h:p:=by first|assumption|decide|omega|(simp only[yc,QL,QC,QK,zZ,QD,QB,rzN,χ,ψ];first|done|omega)|(apply Jh<;>first|omega|((simp(disch:=first|assumption|omega|(simp only[yc,QL,QC,QK,zZ,QD,QB,rzN,χ,ψ];first|done|omega)) only[rzL,χ,ψ,Qab,γ,yc,QL,QC,QK,zZ,QD,QB ])<;>first|done|omega))|(simp(disch:=first|assumption|omega|(simp only[yc,QL,QC,QK,zZ,QD,QB,rzN,χ,ψ];first|done|omega)) only[yc,QL,QC,QK,zZ,QD,QB,rzG,τ,υ,δ,QaH,χ,ψ,Qay,QaG];first|done|omega|decide)):p:=h
theorem cyE {p:Prop}(h:p:=by apply Jh<;>first|omega|((simp(disch:=first|assumption|omega|(simp only[yc,QL,QC,QK,zZ,QD,QB,rzN,χ,ψ];first|done|omega)) only[rzL,χ,ψ,Qab,γ,yc,QL,QC,QK,zZ,QD,QB])<;>first|done|rfl|omega|(simp;done)|(simp;omega))):p:=h
theorem JT {p:Prop}(h:p:=by first|assumption|decide|omega|(simp only[yc,QL,QC,QK,zZ,QD,QB,zz,rzN,χ,ψ];first|done|omega)|(apply Jh<;>first|omega|((simp(disch:=first|assumption|omega|(simp only[yc,QL,QC,QK,zZ,QD,QB,zz,rzN,χ,ψ];first|done|omega)) only[rzL,χ,ψ,Qab,γ,yc,QL,QC,QK,zZ,QD,QB,zz ])<;>first|done|omega))|(simp(disch:=first|assumption|omega|(simp only[yc,QL,QC,QK,zZ,QD,QB,zz,rzN,χ,ψ];first|done|omega)) only[yc,QL,QC,QK,zZ,QD,QB,zz,rzG,τ,υ,δ,QaH,χ,ψ,Qay,QaG];first|done|omega|decide)):p:=h
theorem jiI {S:List (List Nat)}{k:Nat}{st:St}{K:AV->St->Prop}(h:k<S.length):jl (zm (.lptr (S.map AV.str) k) st) K=K (.str S[k]) st:=by
 rw[Z2 (by simpa using h)];congr 1;exact vw h
theorem jcl {α:Type}{enc:α->List AV}{z:Nat}(hz:∀ x,(enc x).length=z){xs:List α}{i:Nat}(h:i<xs.length){k n:Nat}(hk:k+n<=z){st:St}{K:AV->St->Prop}:jl (Jb n (.lptr (fl enc xs) (i * z+k)) st) K=K (.agg (((enc xs[i]).drop k).take n)) st:=by
 have:(i+1) * z<=xs.length * z:=QaT z h;rw[Qbb] at this;rw[jcm (by rw[Yh hz];omega),<-jbl hz h,Qbz,Qbs,QaX,Qbd om]
theorem jjU {xs:List AsT}{i:Nat}(h:i<xs.length){st:St}{K:AV->St->Prop}:jl (Jb 6 (.lptr (fl asE xs) (i * 9+1)) st) K=K (.agg (eE xs[i].to)) st:=by
 rw[jcl YM h dc,KW,qO];rfl
theorem jeT {xs:List RuleT}{i:Nat}(h:i<xs.length){st:St}{K:AV->St->Prop}:jl (Jb 6 (.lptr (fl ruE xs) (i * 7)) st) K=K (.agg (eE xs[i].when)) st:=by
 have:=jcl Zx h (k:=0) (n:=6) dc (st:=st) (K:=K);rw[QaV] at this;rw[this,Kr,qO];rfl
def wH (a b:AsT):Bool:=decide (a.name=b.name) && JX a.to b.to
set_option maxHeartbeats 1000000 in
theorem jfL (hb:NB base)(xs ys:List AsT)(hl:xs.length<=BIG)(h1:∀ a∈xs,szE a.to<=BIG)(h2:∀ a∈ys,szE a.to<=BIG) :
  Tot base 58 [.lst xs.length (fl asE xs),.lst ys.length (fl asE ys)] (.bool (qL wH xs ys)):=by
 refine hb.tot ?_ rfl rfl;have ene:((xs.length:Int)=(ys.length:Int))=(xs.length=ys.length):=by rw[eq_iff_iff];omega
 unfold BIG at hl;refine jT x58 (by rfl) (hb.pur 58 1 dc) ?_;simp only[y58,jn,ν,ξ,τ,υ];rw[(by unfold z58;simp only[qq];rfl:z58=_)];repeat'(first|apply jd<;>intro _|simp(disch:=first|exact dzE|fail) only[ene,jj,qY,rzZ,γ,δ,ε,ζ,η])
 ·exact G0.v (by rw[Q6 (by assumption)]) rfl
 have hl2:xs.length=ys.length:=by simp_all
 refine qZ xs.length (λk L s=>qL wH (xs.take k) (ys.take k)=true/\Has L 0 (.lst xs.length (fl asE xs))/\Has L 1 (.lst ys.length (fl asE ys))) (by first|assumption|omega) dc (by simp(disch:=decide) only[jc,jb]) (by simp(disch:=decide) only[jc,jb]) ?_ (λk L s v h=>by simp(disch:=decide) only[jb];exact h) (λk L s v h=>by simp(disch:=decide) only[jb];exact h) (λk L s hk hI hi hn=>?_) (λL s hI=>?_)
 ·refine⟨rfl,?_⟩;simp(disch:=decide) only[h12]
 ·obtain⟨h0,i0,i1⟩:=hI;have hk2:k<ys.length:=om
  have e:=Ha hb xs[k].to (h1 _ (Qam hk)) ys[k].to (h2 _ (Qam hk2));repeat'(first|apply jd<;>intro _|simp(disch:=first|exact dzE|fail) only[ja i0,ja i1,ja hi,ja hn,jjU,e,jj,qY,rzZ,γ,δ,ε,ζ,η])
  all_goals first
   |(refine G0.v (congrArg AV.bool (Eq.symm (Qq hk hk2 ?_))) rfl;unfold wH;simp_all;done)
   |(
    refine⟨⟨?_,?_⟩,?_⟩
    ·rw[Xn hk hk2,h0];unfold wH;simp_all
    ·simp(disch:=decide) only[h12,i0,i1]
    ·simp(disch:=decide) only[h12,hi,hn])
 ·obtain⟨h0,i0,i1⟩:=hI;repeat'(first|apply jd<;>intro _|simp(disch:=first|exact dzE|fail) only[ja i0,ja i1,jj,qY,rzZ,γ,δ,ε,ζ,η])
  exact G0.v (by rw[Qe hl2 h0]) rfl
def Jl (x y:EnumT):Bool:=decide (x.name=y.name) && qL (λa b=>decide (a=b)) x.vals y.vals
def Jf (x y:DeclT):Bool:=decide (x.name=y.name) && decide (x.ty=y.ty) && decide (x.lo=y.lo) && decide (x.hi=y.hi) && qL JX x.begins y.begins
def uz (x y:RuleT):Bool:=JX x.when y.when && qL wH x.acts y.acts
def Jk (x y:ProcT):Bool:=decide (x.name=y.name) && qL uz x.rules y.rules
def W7 (a b:SrcT):Bool:=qL Jl a.enums b.enums && qL Jf a.vars b.vars && qL Jk a.procs b.procs
structure SmR (r:RuleT):Prop where
 when:szE r.when<=BIG
 acts:r.acts.length<=BIG
 to:∀ a∈r.acts,szE a.to<=BIG
structure SmS (m:SrcT):Prop where
 enums:m.enums.length<=BIG
 vals:∀ e∈m.enums,e.vals.length<=BIG
 vars:m.vars.length<=BIG
 begs:∀ d∈m.vars,d.begins.length<=BIG/\∀ x∈d.begins,szE x<=BIG
 procs:m.procs.length<=BIG
 rules:∀ p∈m.procs,p.rules.length<=BIG/\∀ r∈p.rules,SmR r
theorem r8:type_of%(aI @jj (aI @qY (aI @yh (aI @yl (aI @qA (aI @yi (aI @yg @rzZ))))))):=aI @jj (aI @qY (aI @yh (aI @yl (aI @qA (aI @yi (aI @yg @rzZ))))))
set_option maxHeartbeats 4000000 in
theorem Hc (hb:NB base)(a b:SrcT)(ha:SmS a)(hb2:SmS b):PX θ base 20 [.agg (srE a),.agg (srE b)] (.ok (.bool (W7 a b))):=by
 have he:=ha.enums;have hv:=ha.vars;have hp:=ha.procs;have ene:((a.enums.length:Int)=(b.enums.length:Int))=(a.enums.length=b.enums.length):=by rw[eq_iff_iff];omega
 have env:((a.vars.length:Int)=(b.vars.length:Int))=(a.vars.length=b.vars.length):=by rw[eq_iff_iff];omega
 have enp:((a.procs.length:Int)=(b.procs.length:Int))=(a.procs.length=b.procs.length):=by rw[eq_iff_iff];omega
 have hd:W7 a b=(qL Jl a.enums b.enums && qL Jf a.vars b.vars && qL Jk a.procs b.procs):=rfl;unfold BIG at he hv hp;refine jT x20 (by rfl) (hb.pur 20 1 dc) ?_;simp only[y20,jn,ν,ξ,τ,υ];rw[(by unfold z20;simp only[qq];rfl:z20=_)];repeat'(first|apply jd<;>intro _|simp(disch:=first|exact dzE|fail) only[ene,env,enp,r8,γ,δ,ε,ζ,η])
 ·exact G0.v (by rw[hd,Q6 (by assumption)];rfl) rfl
 ·exact G0.v (by rw[hd,Q6 (xs:=a.vars) (by assumption)];simp) rfl
 ·exact G0.v (by rw[hd,Q6 (xs:=a.procs) (by assumption)];simp) rfl
 have le:a.enums.length=b.enums.length:=by simp_all
 have lv:a.vars.length=b.vars.length:=by simp_all
 have lp:a.procs.length=b.procs.length:=by simp_all
 refine qZ a.enums.length (λk L s=>qL Jl (a.enums.take k) (b.enums.take k)=true/\Has L 2 (.ptr 0 0)/\Has L 3 (.ptr 1 0)/\Has L 43 (.lst a.enums.length (fl enE a.enums))/\2<=s.nx/\Cl s 0 (srE a)/\Cl s 1 (srE b)) (by first|assumption|omega) dc (by simp(disch:=decide) only[jc,jb]) (by simp(disch:=decide) only[jc,jb]) ?_ (λk L s v h=>by simp(disch:=decide) only[jb];exact h) (λk L s v h=>by simp(disch:=decide) only[jb];exact h) (λko Lo so hko hIo hio hno=>?_) (λLo so hIo=>?_)
 ·refine⟨rfl,?_⟩;simp(disch:=decide) only[h12];exact⟨by(first|omega|(simp only[jf,je,jg,jh,ji];first|done|omega)),by first|exact ckX|(first|exact cyE|fail),by first|exact ckX|(first|exact cyE|fail)⟩
 ·obtain⟨h0,i2,i3,iL,n0,C0,C1⟩:=hIo;have hk2:ko<b.enums.length:=om
  obtain⟨q,hq⟩:∃ q,q=so.nx:=⟨_,rfl⟩;obtain⟨x,hx⟩:∃ x,x=a.enums[ko]:=⟨_,rfl⟩;obtain⟨y,hy⟩:∃ y,y=b.enums[ko]:=⟨_,rfl⟩;have bad:Jl x y=false->qL Jl a.enums b.enums=false:=λh=>Qq hko hk2 (by rw[<-hx,<-hy];exact h);have good:Jl x y=true->qL Jl (a.enums.take (ko+1)) (b.enums.take (ko+1))=true:=λh=>by rw[Xn hko hk2,h0,<-hx,<-hy,h];rfl
  have hxm:x∈a.enums:=hx▸Qam hko;have hym:y∈b.enums:=hy▸Qam hk2;have hin:x.vals.length<=BIG:=ha.vals x hxm;have enx:((x.vals.length:Int)=(y.vals.length:Int))=(x.vals.length=y.vals.length):=by rw[eq_iff_iff];omega
  unfold BIG at hin
  (have zz:=aI C0.r C1.r;(repeat'(first|apply jd<;>intro _|simp(disch:=first|exact JT|fail) only[ja i2,ja i3,ja iL,ja hio,ja hno,<-hx,<-hy,<-hq,enx,C0.q,C1.q,C0.r,C1.r,r8,γ,δ,ε,ζ,η]));all_goals clear zz)
  ·have hb3:=bad (by unfold Jl;rw[decide_eq_false ‹¬ x.name=y.name›];rfl);exact G0.v (by rw[hd,hb3];simp) rfl
  ·have hb3:=bad (by unfold Jl;rw[Q6 (by assumption)];simp);exact G0.v (by rw[hd,hb3];simp) rfl
  have lx:x.vals.length=y.vals.length:=by simp_all
  refine qZ x.vals.length (λj L s=>qL (λa b=>decide (a=b)) (x.vals.take j) (y.vals.take j)=true/\Has L 2 (.ptr 0 0)/\Has L 3 (.ptr 1 0)/\Has L 43 (.lst a.enums.length (fl enE a.enums))/\Has L 44 (.int .i64 (a.enums.length:Int))/\Has L 45 (.int .i64 (ko:Int))/\Has L 6 (.ptr q 0)/\Has L 7 (.ptr (q+1) 0)/\q+2<=s.nx/\Cl s 0 (srE a)/\Cl s 1 (srE b)/\Cl s q (enE x)/\Cl s (q+1) (enE y)) (by first|assumption|omega) dc (by simp(disch:=decide) only[jc,jb]) (by simp(disch:=decide) only[jc,jb]) ?_ (λk L s v h=>by simp(disch:=decide) only[jb];exact h) (λk L s v h=>by simp(disch:=decide) only[jb];exact h) (λk L s hk hI hi hn=>?_) (λL s hI=>?_)
  ·refine⟨rfl,?_⟩;simp(disch:=decide) only[h12,i2,i3,iL,hio,hno];exact⟨by(first|omega|(simp only[jf,je,jg,jh,ji];first|done|omega)),ckX,ckX,by(first|exact cyE|fail),by(first|exact cyE|fail)⟩
  ·clear hio hno i2 i3 iL C0 C1;obtain⟨g0,i2,i3,iL,hno,hio,iX,iY,n0,C0,C1,C2,C3⟩:=hI;have hj2:k<y.vals.length:=om
   (have zz:=aI C0.r (aI C1.r (aI C2.r C3.r));(repeat'(first|apply jd<;>intro _|simp(disch:=first|exact JT|fail) only[ja i2,ja i3,ja iL,ja hi,ja hn,ja iX,ja iY,jiI,C0.q,C1.q,C2.q,C3.q,C0.r,C1.r,C2.r,C3.r,r8,γ,δ,ε,ζ,η]));all_goals clear zz)
   all_goals first
    |(have hb3:=bad (by unfold Jl;rw[Qq hk hj2 (by simp_all)];simp);exact G0.v (by rw[hd,hb3];simp) rfl)
    |(
      refine⟨⟨?_,?_⟩,?_⟩
      · rw[Xn hk hj2,g0];simp_all
      · simp(disch:=decide) only[h12,i2,i3,iL,hio,hno,iX,iY];exact⟨by(first|omega|(simp only[jf,je,jg,jh,ji];first|done|omega)),ckX,ckX,ckX,ckX⟩
      · simp(disch:=decide) only[h12,hi,hn])
  ·clear hio hno i2 i3 iL C0 C1;obtain⟨g0,i2,i3,iL,hno,hio,iX,iY,n0,C0,C1,C2,C3⟩:=hI;have g1:=Qe lx g0;repeat'(first|apply jd<;>intro _|simp(disch:=first|exact dzE|fail) only[ja i2,ja i3,r8,γ,δ,ε,ζ,η])
   refine⟨⟨good ?_,?_⟩,?_⟩
   ·unfold Jl;simp_all
   ·simp(disch:=decide) only[h12,i2,i3,iL];exact⟨by(first|omega|(simp only[jf,je,jg,jh,ji];first|done|omega)),ckX,ckX⟩
   ·simp(disch:=decide) only[h12,hio,hno]
 ·obtain⟨h0,i2,i3,iL,n0,C0,C1⟩:=hIo;have f0:=Qe le h0;rw[f0] at hd
  (have zz:=aI C0.r C1.r;(repeat'(first|apply jd<;>intro _|simp(disch:=first|exact JT|fail) only[ja i2,ja i3,ja iL,C0.q,C1.q,C0.r,C1.r,r8,γ,δ,ε,ζ,η]));all_goals clear zz)
  refine qZ a.vars.length (λk L s=>qL Jf (a.vars.take k) (b.vars.take k)=true/\Has L 2 (.ptr 0 0)/\Has L 3 (.ptr 1 0)/\Has L 89 (.lst a.vars.length (fl qk a.vars))/\2<=s.nx/\Cl s 0 (srE a)/\Cl s 1 (srE b)) (by first|assumption|omega) dc (by simp(disch:=decide) only[jc,jb]) (by simp(disch:=decide) only[jc,jb]) ?_ (λk L s v h=>by simp(disch:=decide) only[jb];exact h) (λk L s v h=>by simp(disch:=decide) only[jb];exact h) (λko Lo so hko hIo hio hno=>?_) (λLo so hIo=>?_)
  ·refine⟨rfl,?_⟩;simp(disch:=decide) only[h12,i2,i3];exact⟨by(first|omega|(simp only[jf,je,jg,jh,ji];first|done|omega)),by first|exact ckX|(first|exact cyE|fail),by first|exact ckX|(first|exact cyE|fail)⟩
  ·obtain⟨h0,i2,i3,iL,n0,C0,C1⟩:=hIo;have hk2:ko<b.vars.length:=om
   obtain⟨q,hq⟩:∃ q,q=so.nx:=⟨_,rfl⟩;obtain⟨x,hx⟩:∃ x,x=a.vars[ko]:=⟨_,rfl⟩;obtain⟨y,hy⟩:∃ y,y=b.vars[ko]:=⟨_,rfl⟩;have bad:Jf x y=false->qL Jf a.vars b.vars=false:=λh=>Qq hko hk2 (by rw[<-hx,<-hy];exact h);have good:Jf x y=true->qL Jf (a.vars.take (ko+1)) (b.vars.take (ko+1))=true:=λh=>by rw[Xn hko hk2,h0,<-hx,<-hy,h];rfl
   have hxm:x∈a.vars:=hx▸Qam hko;have hym:y∈b.vars:=hy▸Qam hk2;have hin:x.begins.length<=BIG:=(ha.begs x hxm).1;have enx:((x.begins.length:Int)=(y.begins.length:Int))=(x.begins.length=y.begins.length):=by rw[eq_iff_iff];omega
   unfold BIG at hin
   (have zz:=aI C0.r C1.r;(repeat'(first|apply jd<;>intro _|simp(disch:=first|exact JT|fail) only[ja i2,ja i3,ja iL,ja hio,ja hno,<-hx,<-hy,<-hq,enx,C0.q,C1.q,C0.r,C1.r,r8,γ,δ,ε,ζ,η]));all_goals clear zz)
   ·have hb3:=bad (by unfold Jf;rw[decide_eq_false ‹¬ x.name=y.name›];rfl);exact G0.v (by rw[hd,hb3];simp) rfl
   ·have hb3:=bad (by unfold Jf;rw[decide_eq_false ‹¬ x.ty=y.ty›];simp);exact G0.v (by rw[hd,hb3];simp) rfl
   ·have hb3:=bad (by unfold Jf;rw[decide_eq_false ‹¬ x.lo=y.lo›];simp);exact G0.v (by rw[hd,hb3];simp) rfl
   ·have hb3:=bad (by unfold Jf;rw[decide_eq_false ‹¬ x.hi=y.hi›];simp);exact G0.v (by rw[hd,hb3];simp) rfl
   ·have hb3:=bad (by unfold Jf;rw[Q6 (by assumption)];simp);exact G0.v (by rw[hd,hb3];simp) rfl
   have lx:x.begins.length=y.begins.length:=by simp_all
   refine qZ x.begins.length (λj L s=>qL JX (x.begins.take j) (y.begins.take j)=true/\Has L 2 (.ptr 0 0)/\Has L 3 (.ptr 1 0)/\Has L 89 (.lst a.vars.length (fl qk a.vars))/\Has L 90 (.int .i64 (a.vars.length:Int))/\Has L 91 (.int .i64 (ko:Int))/\Has L 10 (.ptr q 0)/\Has L 11 (.ptr (q+1) 0)/\q+2<=s.nx/\Cl s 0 (srE a)/\Cl s 1 (srE b)/\Cl s q (qk x)/\Cl s (q+1) (qk y)) (by first|assumption|omega) dc (by simp(disch:=decide) only[jc,jb]) (by simp(disch:=decide) only[jc,jb]) ?_ (λk L s v h=>by simp(disch:=decide) only[jb];exact h) (λk L s v h=>by simp(disch:=decide) only[jb];exact h) (λk L s hk hI hi hn=>?_) (λL s hI=>?_)
   ·refine⟨rfl,?_⟩;simp(disch:=decide) only[h12,i2,i3,iL,hio,hno];exact⟨by(first|omega|(simp only[jf,je,jg,jh,ji];first|done|omega)),ckX,ckX,by(first|exact cyE|fail),by(first|exact cyE|fail)⟩
   ·clear hio hno i2 i3 iL C0 C1;obtain⟨g0,i2,i3,iL,hno,hio,iX,iY,n0,C0,C1,C2,C3⟩:=hI;have hj2:k<y.begins.length:=om
    have e:=Ha hb x.begins[k] ((ha.begs x hxm).2 _ (Qam hk)) y.begins[k] ((hb2.begs y hym).2 _ (Qam hj2))
    (have zz:=aI C0.r (aI C1.r (aI C2.r C3.r));(repeat'(first|apply jd<;>intro _|simp(disch:=first|exact JT|fail) only[ja i2,ja i3,ja iL,ja hi,ja hn,ja iX,ja iY,e,C0.q,C1.q,C2.q,C3.q,C0.r,C1.r,C2.r,C3.r,r8,γ,δ,ε,ζ,η]));all_goals clear zz)
    all_goals first
     |(have hb3:=bad (by unfold Jf;rw[Qq hk hj2 (by simp_all)];simp);exact G0.v (by rw[hd,hb3];simp) rfl)
     |(
        refine⟨⟨?_,?_⟩,?_⟩
        ·rw[Xn hk hj2,g0];simp_all
        ·simp(disch:=decide) only[h12,i2,i3,iL,hio,hno,iX,iY];exact⟨by(first|omega|(simp only[jf,je,jg,jh,ji];first|done|omega)),ckX,ckX,ckX,ckX⟩
        ·simp(disch:=decide) only[h12,hi,hn])
   ·clear hio hno i2 i3 iL C0 C1;obtain⟨g0,i2,i3,iL,hno,hio,iX,iY,n0,C0,C1,C2,C3⟩:=hI;have g1:=Qe lx g0;repeat'(first|apply jd<;>intro _|simp(disch:=first|exact dzE|fail) only[ja i2,ja i3,r8,γ,δ,ε,ζ,η])
    refine⟨⟨good ?_,?_⟩,?_⟩
    ·unfold Jf;simp_all
    ·simp(disch:=decide) only[h12,i2,i3,iL];exact⟨by(first|omega|(simp only[jf,je,jg,jh,ji];first|done|omega)),ckX,ckX⟩
    ·simp(disch:=decide) only[h12,hio,hno]
  ·obtain⟨h0,i2,i3,iL,n0,C0,C1⟩:=hIo;have f0:=Qe lv h0;rw[f0] at hd
   (have zz:=aI C0.r C1.r;(repeat'(first|apply jd<;>intro _|simp(disch:=first|exact JT|fail) only[ja i2,ja i3,ja iL,C0.q,C1.q,C0.r,C1.r,r8,γ,δ,ε,ζ,η]));all_goals clear zz)
   refine qZ a.procs.length (λk L s=>qL Jk (a.procs.take k) (b.procs.take k)=true/\Has L 2 (.ptr 0 0)/\Has L 3 (.ptr 1 0)/\Has L 157 (.lst a.procs.length (fl prE a.procs))/\2<=s.nx/\Cl s 0 (srE a)/\Cl s 1 (srE b)) (by first|assumption|omega) dc (by simp(disch:=decide) only[jc,jb]) (by simp(disch:=decide) only[jc,jb]) ?_ (λk L s v h=>by simp(disch:=decide) only[jb];exact h) (λk L s v h=>by simp(disch:=decide) only[jb];exact h) (λko Lo so hko hIo hio hno=>?_) (λLo so hIo=>?_)
   ·refine⟨rfl,?_⟩;simp(disch:=decide) only[h12,i2,i3];exact⟨by(first|omega|(simp only[jf,je,jg,jh,ji];first|done|omega)),by first|exact ckX|(first|exact cyE|fail),by first|exact ckX|(first|exact cyE|fail)⟩
   ·obtain⟨h0,i2,i3,iL,n0,C0,C1⟩:=hIo;have hk2:ko<b.procs.length:=om
    obtain⟨q,hq⟩:∃ q,q=so.nx:=⟨_,rfl⟩;obtain⟨x,hx⟩:∃ x,x=a.procs[ko]:=⟨_,rfl⟩;obtain⟨y,hy⟩:∃ y,y=b.procs[ko]:=⟨_,rfl⟩;have bad:Jk x y=false->qL Jk a.procs b.procs=false:=λh=>Qq hko hk2 (by rw[<-hx,<-hy];exact h);have good:Jk x y=true->qL Jk (a.procs.take (ko+1)) (b.procs.take (ko+1))=true:=λh=>by rw[Xn hko hk2,h0,<-hx,<-hy,h];rfl
    have hxm:x∈a.procs:=hx▸Qam hko;have hym:y∈b.procs:=hy▸Qam hk2;have hin:x.rules.length<=BIG:=(ha.rules x hxm).1;have enx:((x.rules.length:Int)=(y.rules.length:Int))=(x.rules.length=y.rules.length):=by rw[eq_iff_iff];omega
    unfold BIG at hin
    (have zz:=aI C0.r C1.r;(repeat'(first|apply jd<;>intro _|simp(disch:=first|exact JT|fail) only[ja i2,ja i3,ja iL,ja hio,ja hno,<-hx,<-hy,<-hq,enx,C0.q,C1.q,C0.r,C1.r,r8,γ,δ,ε,ζ,η]));all_goals clear zz)
    ·have hb3:=bad (by unfold Jk;rw[decide_eq_false ‹¬ x.name=y.name›];rfl);exact G0.v (by rw[hd,hb3];simp) rfl
    ·have hb3:=bad (by unfold Jk;rw[Q6 (by assumption)];simp);exact G0.v (by rw[hd,hb3];simp) rfl
    have lx:x.rules.length=y.rules.length:=by simp_all
    refine qZ x.rules.length (λj L s=>qL uz (x.rules.take j) (y.rules.take j)=true/\Has L 2 (.ptr 0 0)/\Has L 3 (.ptr 1 0)/\Has L 157 (.lst a.procs.length (fl prE a.procs))/\Has L 158 (.int .i64 (a.procs.length:Int))/\Has L 159 (.int .i64 (ko:Int))/\Has L 14 (.ptr q 0)/\Has L 15 (.ptr (q+1) 0)/\q+2<=s.nx/\Cl s 0 (srE a)/\Cl s 1 (srE b)/\Cl s q (prE x)/\Cl s (q+1) (prE y)) (by first|assumption|omega) dc (by simp(disch:=decide) only[jc,jb]) (by simp(disch:=decide) only[jc,jb]) ?_ (λk L s v h=>by simp(disch:=decide) only[jb];exact h) (λk L s v h=>by simp(disch:=decide) only[jb];exact h) (λk L s hk hI hi hn=>?_) (λL s hI=>?_)
    ·refine⟨rfl,?_⟩;simp(disch:=decide) only[h12,i2,i3,iL,hio,hno];exact⟨by(first|omega|(simp only[jf,je,jg,jh,ji];first|done|omega)),ckX,ckX,by(first|exact cyE|fail),by(first|exact cyE|fail)⟩
    ·clear hio hno i2 i3 iL C0 C1;obtain⟨g0,i2,i3,iL,hno,hio,iX,iY,n0,C0,C1,C2,C3⟩:=hI;have hj2:k<y.rules.length:=om
     have sx:=(ha.rules x hxm).2 _ (Qam hk);have sy:=(hb2.rules y hym).2 _ (Qam hj2);have e:=Ha hb x.rules[k].when sx.when y.rules[k].when sy.when;have e2:=jfL hb x.rules[k].acts y.rules[k].acts sx.acts sx.to sy.to
     (have zz:=aI C0.r (aI C1.r (aI C2.r C3.r));(repeat'(first|apply jd<;>intro _|simp(disch:=first|exact JT|fail) only[ja i2,ja i3,ja iL,ja hi,ja hn,ja iX,ja iY,e,e2,jeT,C0.q,C1.q,C2.q,C3.q,C0.r,C1.r,C2.r,C3.r,r8,γ,δ,ε,ζ,η]));all_goals clear zz)
     all_goals first
       |(have hb3:=bad (by unfold Jk;rw[Qq hk hj2 (by unfold uz;simp_all)];simp);exact G0.v (by rw[hd,hb3];simp) rfl)
       |(
         refine⟨⟨?_,?_⟩,?_⟩
         ·rw[Xn hk hj2,g0];unfold uz;simp_all
         ·simp(disch:=decide) only[h12,i2,i3,iL,hio,hno,iX,iY];exact⟨by(first|omega|(simp only[jf,je,jg,jh,ji];first|done|omega)),ckX,ckX,ckX,ckX⟩
         ·simp(disch:=decide) only[h12,hi,hn])
    ·clear hio hno i2 i3 iL C0 C1;obtain⟨g0,i2,i3,iL,hno,hio,iX,iY,n0,C0,C1,C2,C3⟩:=hI;have g1:=Qe lx g0;repeat'(first|apply jd<;>intro _|simp(disch:=first|exact dzE|fail) only[ja i2,ja i3,r8,γ,δ,ε,ζ,η])
     refine⟨⟨good ?_,?_⟩,?_⟩
     · unfold Jk;simp_all
     · simp(disch:=decide) only[h12,i2,i3,iL];exact⟨by(first|omega|(simp only[jf,je,jg,jh,ji];first|done|omega)),ckX,ckX⟩
     · simp(disch:=decide) only[h12,hio,hno]
   ·obtain⟨h0,i2,i3,iL,n0,C0,C1⟩:=hIo;have f0:=Qe lp h0;rw[f0] at hd
    (have zz:=aI C0.r C1.r;(repeat'(first|apply jd<;>intro _|simp(disch:=first|exact JT|fail) only[ja i2,ja i3,ja iL,C0.q,C1.q,C0.r,C1.r,r8,γ,δ,ε,ζ,η]));all_goals clear zz)
    exact G0.v (by rw[hd];rfl) rfl
theorem Hb (hb:NB base)(a b:SrcT)(ha:SmS a)(hb2:SmS b):Tot base 20 [.agg (srE a),.agg (srE b)] (.bool (W7 a b)):=hb.tot (Hc hb a b ha hb2) (by first|rfl|simp[pa,pc,Jc,V4,Vb,VL,wu,Vi,Kj]) rfl
end Go.Sy
end
noncomputable section
namespace Go.Sy
open Go.Ev Go.RowKit
def frW (w:World):Inj:=⟨λ_=>.unborn,λB=>match w.heap[B]? with|some (.cells c _ _)=>some c.toList|_=>none⟩
theorem jkG {w:World}{B:Nat}{vs:List Value}(h:(frW w).g B=some vs):∃ c e f,w.heap[B]? = some (.cells c e f)/\c.toList=vs:=by
 unfold frW at h;dsimp only at h;split at h
 ·rename_i c e f hc;exact⟨c,e,f,hc,by simpa using h⟩
 ·cases h
theorem jhf {w:World}(hg:∃ te pe,w.cell? ⟨2,0,none⟩=some (.iface te pe)):Sim (frW w) st0.h st0.nx w:=
 ⟨λb B S e=>(by cases e),λb e=>(by cases e),λb b' B S S' e=>(by cases e),λb e=>absurd rfl e,⟨hg,λb S e=>by cases e⟩,λB vs h=>by
  obtain⟨c,e,f,h1,h2⟩:=jkG h;exact⟨⟨c,e,f.1,f.2,h1,h2,trivial⟩,λb S e=>by cases e⟩⟩
section
variable {H:Type} {enc:TypeId×Value->H} {P:Program} {w:World} {base:Nat} {sp:Nat->Bool} {held:Bool}
mutual
def KU:DataW H->Nat
 |.lit (.string bytes)=>bytes.length+1
 |.lit _=>1
 |.nil=>1
 |.ptr d=>KU d+1
 |.slice elems spare=>VS elems+VS spare+1
 |.agg parts=>VS parts+1
 |.iface _ d=>KU d+1
 |.map entries=>1
 |.held _=>1
def VS:List (DataW H)->Nat
 |[]=>0
 |d :: r=>KU d+VS r
end
def Reads (H:Type)(P:Program)(w:World)(N:Nat)(t:TypeId){α:Type}(z:Nat)(en:α->List AV)(sz:α->Nat):Prop:=
 P.cellsOf t=z/\(∀ x,(en x).length=z)/\∀ (enc:TypeId×Value->H) (base:Nat) (sp:Nat->Bool) (held:Bool) (fuel:Nat) (cs:List Value) (d:DataW H) (ps:List MemPlace),fuel<=N->DataW.trod enc P w base sp held fuel t cs=some (d,ps)->∃ x:α,VRs (frW w) (en x) cs/\(en x).all AV.cell=true/\sz x<=KU d
theorem Reads.mono {N M:Nat}{α:Type}{t:TypeId}{z:Nat}{en:α->List AV}{sz:α->Nat}(R:Reads H P w N t z en sz)(h:M<=N):Reads H P w M t z en sz:=
 ⟨R.1,R.2.1,λenc base sp held fuel cs d ps hN=>R.2.2 enc base sp held fuel cs d ps om⟩
end
end Go.Sy
end
noncomputable section
set_option maxRecDepth 100000
namespace Go.Sy
open Go.Ev Go.Proofs
def yX:List (List Nat):=[[123],[125],[40],[41],[58],[44],[59],[46,46],[58,61],[61],[33,61],[60],[60,61],[62],[62,61],[43],[45],[42],[33],[38],[124],[45,62],[60,45,62]]
theorem YC {r:List Nat}{m:Nat}:∀ {xs:List (List Nat)} (ys:List (List Nat)),(∀ x∈xs,x.length=m)->Jq r (xs ++ ys)=if r.take m∈xs then m else Jq r ys
 |[],ys,_=>by simp
 |x :: xs,ys,h=>by
  have hx:=h x (by simp);have ih:=YC (r:=r) (xs:=xs) ys λy hy=>h y (by simp[hy]);show(if begins x r=true then x.length else Jq r (xs ++ ys))=_;by_cases hb:begins x r=true
  ·have hb':r.take x.length=x:=of_decide_eq_true hb;rw[hx] at hb';rw[if_pos hb,if_pos (by rw[hb'];simp),hx]
  ·rw[if_neg hb,ih];have hne:r.take m≠x:=λe=>hb (decide_eq_true (by rw[hx];exact e));by_cases hm:r.take m∈xs
   ·rw[if_pos hm,if_pos (by simp[hm])]
   ·rw[if_neg hm,if_neg (by simp[hm,hne])]
def Qi (r:List Nat):Nat->Nat
 |0=>0
 |k+1=>if k+1<=r.length/\r.take (k+1)∈yX then k+1 else Qi r k
theorem jhv {S:List (List Nat)}{x:List Nat}{k:Nat}(h:x.length=k):x∈S↔x∈S.filter λy=>decide (y.length=k):=by
 rw[List.mem_filter];simp[h]
theorem jaY (r:List Nat):Qi r 3=Qg r:=by
 have e:Qg r=if r.take 3∈yH.take 1 then 3 else if r.take 2∈(yH.drop 1).take 6 then 2 else if r.take 1∈yH.drop 7 then 1 else 0:=by
  show Jq r (yH.take 1 ++ ((yH.drop 1).take 6 ++ (yH.drop 7 ++ [])))=_;rw[YC (m:=3) _ dc,YC (m:=2) _ dc,YC (m:=1) _ dc];rfl
 have h3:∀ x:List Nat,x∈(yX.filter λy=>decide (y.length=3))↔x∈yH.take 1:=by
  have e:(yX.filter λy=>decide (y.length=3))=yH.take 1:=dc
  intro x;rw[e]
 have p2:∀ x∈(yX.filter λy=>decide (y.length=2)),x∈(yH.drop 1).take 6:=dc
 have q2:∀ x∈(yH.drop 1).take 6,x∈(yX.filter λy=>decide (y.length=2)):=dc
 have p1:∀ x∈(yX.filter λy=>decide (y.length=1)),x∈yH.drop 7:=dc
 have q1:∀ x∈yH.drop 7,x∈(yX.filter λy=>decide (y.length=1)):=dc
 have key:∀ k (A:List (List Nat)),0<k->(∀ x,x∈(yX.filter λy=>decide (y.length=k))↔x∈A)->((k<=r.length/\r.take k∈yX)↔r.take k∈A):=λk A hk hA=>by
  by_cases hl:k<=r.length
  ·have:=jhv (S:=yX) (x:=r.take k) (k:=k) (by rw[Qav];omega);rw[<-hA,<-this];exact⟨λh=>h.2,λh=>⟨hl,h⟩⟩
  ·constructor
   ·exact λh=>absurd h.1 hl
   ·intro h;have h2:=(hA _).2 h;have:=of_decide_eq_true (List.mem_filter.1 h2).2;rw[Qav] at this;omega
 have k3:=key 3 _ dc h3;have k2:=key 2 _ dc λx=>⟨p2 x,q2 x⟩;have k1:=key 1 _ dc λx=>⟨p1 x,q1 x⟩;rw[e];show(if 2+1<=r.length/\r.take (2+1)∈yX then 2+1 else if 1+1<=r.length/\r.take (1+1)∈yX then 1+1 else if 0+1<=r.length/\r.take (0+1)∈yX then 0+1 else 0)=_;simp only[k3,k2,k1,show 2+1=3 from rfl,show 1+1=2 from rfl,show 0+1=1 from rfl]
def q6:List Nat->Nat
 |[]=>0
 |x :: r=>if qg x=true then j7 qE (x :: r) else if jy x=true then j7 jy (x :: r) else Qg (x :: r)
def QO (rm:Bool):List Nat->Bool
 |[]=>rm
 |c :: r=>if c=10 then false else if rm=false/\c=47/\r.head? = some 47 then true else rm
def yd:Bool->List Nat->Nat
 |_,[]=>0
 |rm,c :: r=>if(QO rm (c :: r) ||qK c)=true then yd (QO rm (c :: r)) r+1 else 0
theorem J3 (rm:Bool)(c:Nat)(r:List Nat):QO rm (c :: r)=if c=10 then false else if rm=false/\c=47/\r.head? = some 47 then true else rm:=rfl
theorem z7 (rm:Bool)(c:Nat)(r:List Nat):yd rm (c :: r)=if(QO rm (c :: r) ||qK c)=true then yd (QO rm (c :: r)) r+1 else 0:=by rw[yd]
theorem Qf (x:Nat)(r:List Nat):q6 (x :: r)=if qg x=true then j7 qE (x :: r) else if jy x=true then j7 jy (x :: r) else Qg (x :: r):=rfl
theorem W0:∀ r:List Nat,yd true r=j7 Jm r+yd false (r.drop (j7 Jm r))
 |[]=>rfl
 |c :: r=>by
  by_cases h:c=10
  ·subst h;have h1:j7 Jm (10 :: r)=0:=rfl;rw[h1,QaO,Qab,z7,z7,J3,J3,if_pos rfl,if_pos rfl]
  ·have h1:QO true (c :: r)=true:=by rw[J3,if_neg h,if_neg (by simp)]
   have h2:j7 Jm (c :: r)=j7 Jm r+1:=by
    have:Jm c=true:=by unfold Jm;simp[h]
    simp only[j7,if_pos this]
   have h3:yd true (c :: r)=yd true r+1:=by
    rw[z7,h1,Bool.true_or,if_pos rfl]
   rw[h3,h2,W0 r,List.drop_succ_cons];omega
theorem Wa:∀ r:List Nat,yd false r=j7 qK r+yd false (r.drop (j7 qK r))
 |[]=>rfl
 |c :: r=>by
  by_cases h:qK c=true
  ·have hc:c=32\/c=9\/c=10:=by unfold qK at h;simp at h;omega
   have h1:QO false (c :: r)=false:=by
    rw[J3];by_cases h10:c=10
    ·rw[if_pos h10]
    ·rw[if_neg h10,if_neg (λh=>by have:=h.2.1;omega)]
   have h2:j7 qK (c :: r)=j7 qK r+1:=by simp only[j7,if_pos h]
   have h3:yd false (c :: r)=yd false r+1:=by
    rw[z7,h1,h,Bool.or_true,if_pos rfl]
   rw[h3,h2,Wa r,List.drop_succ_cons];omega
  ·have h2:j7 qK (c :: r)=0:=by simp only[j7,if_neg h]
   rw[h2,QaO,Qab]
theorem W1 (k:Nat):∀ r:List Nat,r.length<=k->yd false r=jH r:=by
 induction k with
 |zero=>
  intro r hr;have:r=[]:=QaQ om;subst this;have hg:=YY ([]:List Nat);simp at hg;rw[hg];rfl
 |succ k ih=>
  intro r hr;have hle:=vW r;have key:yd false r=gap r+if gap r=0 then 0 else yd false (r.drop (gap r)):=by
   unfold gap;by_cases hb:j7 qK r=0/\begins [47,47] r=true
   ·rw[if_pos hb];have hr2:r.take 2=[47,47]:=of_decide_eq_true hb.2
    match r,hr2 with
    |x :: y :: r',hr2=>
     obtain⟨rfl,rfl⟩:x=47/\y=47:=by simpa using hr2
     have h2:j7 Jm (47 :: 47 :: r')=j7 Jm (47 :: r')+1:=rfl;have h3:yd false (47 :: 47 :: r')=yd true (47 :: r')+1:=by
      have h4:QO false (47 :: 47 :: r')=true:=by
       rw[J3,if_neg dc,if_pos ⟨rfl,rfl,rfl⟩]
      rw[z7,h4,Bool.true_or,if_pos rfl]
     rw[h3,W0,h2,if_neg om,List.drop_succ_cons];omega
    |[],hr2=>simp at hr2
    |[x],hr2=>simp at hr2
   ·rw[if_neg hb];by_cases h0:j7 qK r=0
    ·rw[h0,if_pos rfl];cases r with
     |nil=>rfl
     |cons c r=>
      have hnb:¬ qK c=true:=λh=>by simp only[j7,if_pos h] at h0;omega
      have hnb':qK c=false:=by simpa using hnb
      have h1:QO false (c :: r)=false:=by
       rw[J3];by_cases h10:c=10
       ·rw[if_pos h10]
       ·rw[if_neg h10];refine if_neg λh=>hb ⟨h0,decide_eq_true ?_⟩;obtain⟨_,rfl,h⟩:=h;cases r with
        |nil=>simp at h
        |cons d r=>simp at h;subst h;rfl
      rw[z7,h1,hnb'];rfl
    ·rw[if_neg h0];exact Wa r
  by_cases h0:gap r=0
  ·rw[key,Gs h0,h0];rfl
  ·rw[key,Gr h0,if_neg h0,ih _ (by rw[Qan];omega)]
theorem vM {x:Nat}{r:List Nat}{p:Nat×Nat}(h:q6 (x :: r)=0):qu (x :: r) p=(131,⟨3,[],0,p.1,p.2⟩,0):=by
 rw[Qf] at h;unfold qu;simp only;by_cases hL:qg x=true
 ·rw[if_pos hL] at h;have:=Zi (p:=qE) (r:=r) (show qE x=true by unfold qE;rw[hL];rfl);omega
 ·rw[if_neg hL] at h ⊢;by_cases hD:jy x=true
  ·rw[if_pos hD] at h;have:=Zi (p:=jy) (r:=r) hD;omega
  ·rw[if_neg hD] at h ⊢;rw[if_pos h]
theorem ZT {x:Nat}{r:List Nat}{p:Nat×Nat}(hL:qg x=true):qu (x :: r) p=if 32<q6 (x :: r) then(132,⟨1,[],0,p.1,p.2⟩,0) else(0,⟨if w5 ((x :: r).take (q6 (x :: r)))=true then 4 else 1,(x :: r).take (q6 (x :: r)),0,p.1,p.2⟩,q6 (x :: r)):=by
 have e:q6 (x :: r)=j7 qE (x :: r):=if_pos hL;rw[e];show(if qg x=true then _ else _)=_;rw[if_pos hL]
theorem wS {x:Nat}{r:List Nat}{p:Nat×Nat}(hL:qg x=false)(hD:jy x=true):qu (x :: r) p=if 7<q6 (x :: r)\/1000000<yG ((x :: r).take (q6 (x :: r))) then(132,⟨2,[],0,p.1,p.2⟩,0) else(0,⟨2,(x :: r).take (q6 (x :: r)),yG ((x :: r).take (q6 (x :: r))),p.1,p.2⟩,q6 (x :: r)):=by
 have e:q6 (x :: r)=j7 jy (x :: r):=by
  rw[Qf,if_neg (by rw[hL];decide),if_pos hD]
 rw[e];show(if qg x=true then _ else if jy x=true then _ else _)=_;rw[if_neg (by rw[hL];decide),if_pos hD]
theorem vN {x:Nat}{r:List Nat}{p:Nat×Nat}(hL:qg x=false)(hD:jy x=false)(hn:q6 (x :: r)≠0):qu (x :: r) p=(0,⟨3,(x :: r).take (q6 (x :: r)),0,p.1,p.2⟩,q6 (x :: r)):=by
 have e:q6 (x :: r)=Qg (x :: r):=by
  rw[Qf,if_neg (by rw[hL];decide),if_neg (by rw[hD];decide)]
 rw[e] at hn ⊢;show(if qg x=true then _ else if jy x=true then _ else _)=_;rw[if_neg (by rw[hL];decide),if_neg (by rw[hD];decide)];simp only;rw[if_neg hn]
theorem gq (r:List Nat):q6 r<=r.length:=by
 cases r with
 |nil=>exact φ _
 |cons x r=>
  rw[Qf];split
  ·exact Qk _ _
  ·split
   ·exact Qk _ _
   ·exact Wu _
theorem vI (r:List Nat)(k:Nat):Qi r (k+1)=if k+1<=r.length/\r.take (k+1)∈yX then k+1 else Qi r k:=rfl
theorem kQ {r:List Nat}{p:Nat×Nat}{ts:List Tk}(h:qG r p=(ts,(0,0,0))) :
  ∃ t n,qu (r.drop (jH r)) (jD p (r.take (jH r)))=(0,t,n)/\((n=0/\ts=[t]/\jH r=r.length)\/(n≠0/\n<=r.length - jH r/\jH r<r.length/\∃ ts',ts=t :: ts' /\
   qG ((r.drop (jH r)).drop n) (jD (jD p (r.take (jH r))) ((r.drop (jH r)).take n))=(ts',(0,0,0)))):=by
 generalize hx:qu (r.drop (jH r)) (jD p (r.take (jH r)))=x;obtain⟨e,t,n⟩:=x;rw[XQ r p hx] at h;have hg:=YY r;by_cases he:e≠0
 ·rw[if_pos he] at h;simp only[Prod.mk.injEq] at h;exact absurd h.2.1 he
 ·rw[if_neg he] at h;have he':e=0:=om
  subst he';refine⟨t,n,rfl,?_⟩;obtain⟨_,hz⟩:=wT hx;by_cases hn:n=0
  ·rw[if_pos hn] at h;have:=hz.1 hn;rw[List.drop_eq_nil_iff] at this;exact .inl ⟨hn,(Prod.mk.inj h).1.symm,om⟩
  ·rw[if_neg hn] at h;have hle:=Zd hx;rw[Qan] at hle;refine .inr ⟨hn,hle,om,?_⟩;generalize qG ((r.drop (jH r)).drop n) (jD (jD p (r.take (jH r))) ((r.drop (jH r)).take n))=q at *;by_cases hq:q.2.1≠0
   ·rw[if_pos hq] at h;simp only[Prod.mk.injEq] at h;exact absurd (by rw[h.2]) hq
   ·rw[if_neg hq] at h;obtain⟨h1,h2⟩:=Prod.mk.inj h;exact⟨q.1,h1.symm,by rw[<-h2]⟩
def Wd (t:Tk):Prop:=∃ r p n,qu r p=(0,t,n)/\n≠0
theorem jb8 (r:List Nat)(p:Nat×Nat)(g n:Nat):jD (jD (jD p (r.take g)) ((r.drop g).take n)) ((r.drop g).drop n)=jD p r:=by
 rw[<-QT,<-QT,List.take_append_drop,List.take_append_drop]
theorem VO (k:Nat):∀ (r:List Nat) (p:Nat×Nat) (ts:List Tk),r.length<=k->qG r p=(ts,(0,0,0))->
  ∃ ws,ts=ws ++ [⟨5,[],0,(jD p r).1,(jD p r).2⟩]/\∀ w∈ws,Wd w:=by
 induction k with
 |zero=>
  intro r p ts hr h;obtain⟨t,n,hx,⟨hn,rfl,hg⟩|⟨hn,h1,h2,_⟩⟩:=kQ h
  ·refine⟨[],?_,λw hw=>by simp at hw⟩;rw[hg,List.drop_length,Qaw] at hx;simp only[qu,Prod.mk.injEq] at hx;rw[<-hx.2.1];rfl
  ·omega
 |succ k ih=>
  intro r p ts hr h;obtain⟨t,n,hx,⟨hn,rfl,hg⟩|⟨hn,h1,h2,ts',rfl,h3⟩⟩:=kQ h
  ·refine⟨[],?_,λw hw=>by simp at hw⟩;rw[hg,List.drop_length,Qaw] at hx;simp only[qu,Prod.mk.injEq] at hx;rw[<-hx.2.1];rfl
  ·obtain⟨ws,rfl,hw⟩:=ih _ _ _ (by rw[Qan,Qan];omega) h3;rw[jb8];refine⟨t :: ws,rfl,λw hm=>?_⟩;rcases QaF.1 hm with rfl|hm
   ·exact⟨_,_,n,hx,hn⟩
   ·exact hw w hm
def jjM (t:Tk):Nat×List Nat×Nat:=(t.kind,t.text,t.num)
mutual
def unE:Ex->Ex
 |.mk o n nm ks _ _=>.mk o n nm (jiO ks) 0 0
def jiO:List Ex->List Ex
 |[]=>[]
 |x :: xs=>unE x :: jiO xs
end
def Agr (ts us:List Tk)(o i e:Nat):Prop:=∀ k,i<=k->k<=e->jjM (tk us (k+o))=jjM (tk ts k)
theorem Agr.mono {ts us:List Tk}{o i e i' e':Nat}(h:Agr ts us o i e)(h1:i<=i')(h2:e'<=e):Agr ts us o i' e':=λk a b=>h k om om
def RelP (o:Nat):PR->PR->Prop
 |.ok x j,.ok y k=>unE x=unE y/\k=j+o
 |.er _,.er _=>True
 |_,_=>False
theorem RelP.er {o:Nat}{t:Tk}{q:PR}(h:RelP o (.er t) q):∃ t',q=.er t':=by
 cases q with
 |ok x j=>exact h.elim
 |er t'=>exact⟨t',rfl⟩
theorem RelP.ok {o j:Nat}{x:Ex}{q:PR}(h:RelP o (.ok x j) q):∃ x',q=.ok x' (j+o)/\unE x=unE x':=by
 cases q with
 |ok y k=>exact⟨y,by rw[h.2],h.1⟩
 |er t'=>exact h.elim
section
variable {α β:Type}
def RelS (un:α->β)(o:Nat):SR α->SR α->Prop
 |.ok x j,.ok y k=>un x=un y/\k=j+o
 |.er _,.er _=>True
 |_,_=>False
theorem RelS.er {un:α->β}{o:Nat}{t:Tk}{q:SR α}(h:RelS un o (.er t) q):∃ t',q=.er t':=by
 cases q with
 |ok x j=>exact h.elim
 |er t'=>exact⟨t',rfl⟩
theorem RelS.ok {un:α->β}{o j:Nat}{x:α}{q:SR α}(h:RelS un o (.ok x j) q):∃ x',q=.ok x' (j+o)/\un x=un x':=by
 cases q with
 |ok y k=>exact⟨y,by rw[h.2],h.1⟩
 |er t'=>exact h.elim
end
end Go.Sy
end
noncomputable section
namespace Go.Sy
open Go.Ev Go.RowKit
def Lw (lo hi:Nat)(s:St)(v:AV)(n:Nat)(cs:List AV)(z:Nat):Prop:=∃ b ex,v=.slice b 0 n n z ex/\(ex=true->n=0)/\cs.length=n * z/\Cl s b cs/\lo<=b/\b<hi
theorem Lw.new {s:St}{z lo hi:Nat}(h1:lo<=s.nx)(h2:s.nx<hi):Lw lo hi (nw s []) (.slice s.nx 0 0 0 z true) 0 [] z:=⟨s.nx,true,rfl,λ_=>rfl,by simp,Cl.new s [],h1,h2⟩
theorem Lw.fz {lo hi n z m d:Nat}{s:St}{v:AV}{cs:List AV}(h:Lw lo hi s v n cs z)(hm:m<=lo)(hp:cs.all pc=true):FzD m (d+2) s v (.lst n cs):=by
 obtain⟨b,ex,rfl,_,h3,h4,h5,h6⟩:=h;refine FzD.slice h4.rw_ (QaA h3.symm) om ?_;rw[<-h3,Qaw];exact FzsD.pc hp
theorem Lw.nwO {lo hi n z:Nat}{s:St}{v:AV}{cs:List AV}(h:Lw lo hi s v n cs z)(ds:List AV):Lw lo hi (nw s ds) v n cs z:=by
 obtain⟨b,ex,h1,h2,h3,h4,h5,h6⟩:=h;exact⟨b,ex,h1,h2,h3,h4.nw ds,h5,h6⟩
structure ApL (lo:Nat)(s s':St):Prop where
 nx:s.nx<=s'.nx
 fr:s'.fr=s.fr
 cl:∀ c ds,c<lo->Cl s c ds->Cl s' c ds
theorem Lw.keep {lo hi lo2 n z:Nat}{s s':St}{v:AV}{cs:List AV}(h:Lw lo hi s v n cs z)(a:ApL lo2 s s')(hh:hi<=lo2):Lw lo hi s' v n cs z:=by
 obtain⟨b,ex,h1,h2,h3,h4,h5,h6⟩:=h;exact⟨b,ex,h1,h2,h3,a.cl b cs om h4,h5,h6⟩
theorem ApL.nwO (s:St)(ds:List AV):ApL s.nx s (nw s ds):=⟨by rw[jf];omega,by rw[w9],λc cs hc C=>C.nw ds⟩
theorem ApL.trans {lo lo2:Nat}{s t u:St}(a:ApL lo s t)(b:ApL lo2 t u)(h:lo<=lo2):ApL lo s u:=⟨ω a.nx b.nx,b.fr.trans a.fr,λc ds hc C=>b.cl c ds om (a.cl c ds hc C)⟩
theorem jlq {lo hi n z n2 bytes:Nat}{s:St}{v:AV}{cs cs2:List AV}(h:Lw lo hi s v n cs z)(hhi:hi<=s.nx)(hl:cs2.length=n2 * z)(hz:0<z)(hby:(n+n2) * bytes<=140737488355328)(h63:n+n2<=9223372036854775807) :
  ∃ v' s',(∀ K:AV->St->Prop,jl (XT z bytes v (.lst n2 cs2) s) K=K v' s')/\Lw lo s'.nx s' v' (n+n2) (cs ++ cs2) z/\ApL lo s s':=by
 obtain⟨b,ex,rfl,hex,h3,h4,h5,h6⟩:=h;obtain⟨m',zl',zz',ks',hg'⟩:=h4.row;have h4l:=h4.len;rw[zP hg'] at h4l;have e1:Qcd (Qcf n2 z) (jM cs2)=true:=yn (by rw[jO];exact QaA hl.symm);have e2:yu cs2 (Qcf n2 z)=cs2:=by rw[q8];exact(by rw[show Qcf n2 z=cs2.length from hl.symm,Qaw])
 have e3:Qcb (jM cs2) (Qcf n2 z)=true:=ZN (by rw[jO];exact hl);by_cases h0:n2=0
 ·subst h0;have hc:cs2=[]:=List.length_eq_zero_iff.1 om;subst hc;refine⟨_,s,λK=>?_,⟨b,ex,rfl,by simpa using hex,by simpa using h3,by simpa using h4,h5,om⟩,⟨φ _,rfl,λ_ _ _ c=>c⟩⟩;have e4:Qcd (Qce n 0) n=true:=yn (φ _);have e5:Qcb 0 0=true:=rfl;simp only[XT,JD,firstCells,e1,cond_true,e2,yo,e3,hg',yz,jB,e4,e5,jl];rfl
 ·have e4:Qcd (Qce n n2) n=false:=jgV (by show n<n+n2;omega);have e5:Qcd (Qcf (Qce n n2) bytes) 140737488355328=true:=yn hby;have e6:Qcd (Qce n n2) 9223372036854775807=true:=yn h63;cases ex with
  |true=>
   have hn:=hex rfl;subst hn;have hc:cs=[]:=List.length_eq_zero_iff.1 om;subst hc;have e7:Qcd (Qce 0 (Qcf 0 z)) m'=true:=yn (by show 0+0 * z<=m';omega);have e8:jN zl' zz' ks' (Qcf 0 z) 0=[]:=by rw[qr,show Qcf 0 z=0 from Qba z];rfl
   have e9:y6 [] cs2=cs2:=by rw[yS];rfl
   refine⟨.slice s.nx 0 (0+n2) (0+n2) z false,nw s cs2,λK=>?_,⟨s.nx,false,rfl,(λh=>by cases h),by rw[QaG,hl,Qab],Cl.new s _,om,by rw[jf];omega⟩,⟨by rw[jf];omega,by rw[w9],λc ds hc C=>C.nw _⟩⟩;simp only[XT,JD,firstCells,e1,cond_true,e2,yo,e3,hg',yz,jB,e4,e5,e6,cond_false,e7,e8,e9,St.alloc_eq,jl];conv=>rhs;unfold nw
   rw[show Qcf (Qce 0 n2) z=cs2.length by rw[hl];exact congrArg (· * z) (Qab n2)];rfl
  |false=>
   have e7:Qcb z z=true:=ZN rfl;have e8:Qcb 0 0=true:=rfl;have e9:Qcb (Qcf n z) m'=true:=ZN (by rw[h4l,h3];rfl);have e10:Qcf (Qce n n2) z=m'+cs2.length:=by rw[hl,h4l,h3];exact QaC n n2 z
   have ea:ap s b cs2=⟨s.nx+1,(jZ (jI s.nx)).run (.row (m'+cs2.length) zl' zz' (qh cs2 ks' m')) ((jZ (jI b)).run .dead s.h),min s.dirty b,s.fr⟩:=by
    unfold ap apO;rw[hg']
   have hne:b≠s.nx:=om
   refine⟨.slice s.nx 0 (n+n2) (n+n2) z false,ap s b cs2,λK=>?_,⟨s.nx,false,rfl,(λh=>by cases h),by rw[Qag,h3,hl,QaC],h4.ap cs2,om,by rw[ea];exact Qbm _⟩,⟨by rw[ea];exact Nat.le_succ _,by rw[ea],λc ds hc C=>C.apO om⟩⟩;simp only[XT,JD,firstCells,e1,cond_true,e2,yo,e3,hg',yz,jB,e4,e5,e6,cond_false,e7,e8,e9,St.put_eq,St.alloc_eq,jl];rw[e10,ea];rfl
theorem jjV {bytes bv xc z:Nat}{xx:Bool}{s:St}{v:AV}{news:List AV}(C:Cl s bv news)(hl:news.length=z):XT z bytes v (.slice bv 0 1 xc z xx) s=XT z bytes v (.lst 1 news) s:=by
 obtain⟨m,zl,zz,ks,hg⟩:=C.row;have hm:=C.len;rw[zP hg] at hm;have e0:Qcf 1 z=z:=Qbe z;have e1:Qcd (Qce 0 z) m=true:=yn (by show 0+z<=m;omega);have er:jN zl zz ks z 0=news:=by
  have h:=C.rats0 hl;rw[XG] at h;rw[qr,<-h];exact QaW λi _=>by rw[QX hg]
 have e2:Qcd z (jM news)=true:=yn (by rw[jO];omega);have e3:yu news z=news:=by rw[q8,<-hl,Qaw]
 simp only[XT,JD,firstCells,hg,yz,jB,e0,e1,cond_true,er,e2,e3]
theorem jjW {lo hi n z bytes bv xc:Nat}{xx:Bool}{s:St}{v:AV}{cs news:List AV}(h:Lw lo hi s v n cs z)(hhi:hi<=s.nx)(C:Cl s bv news)(hl:news.length=z)(hz:0<z)(hby:(n+1) * bytes<=140737488355328)(h63:n+1<=9223372036854775807) :
  ∃ v' s',(∀ K:AV->St->Prop,jl (XT z bytes v (.slice bv 0 1 xc z xx) s) K=K v' s')/\Lw lo s'.nx s' v' (n+1) (cs ++ news) z/\ApL lo s s':=by
 obtain⟨v',s',e,w,q⟩:=jlq (n2:=1) (cs2:=news) h hhi (by rw[hl,Qbe]) hz hby h63;exact⟨v',s',λK=>by rw[jjV C hl];exact e K,w,q⟩
end Go.Sy
end
noncomputable section
set_option maxRecDepth 100000
namespace Go.Sy
open Go.Ev Go.Proofs
def z82:XC:=(T0 [T9 4,T9 5] [Lj 6 1,Lj 7 1] (TT [T9 8] 0 (Pi [oK 9 8,oK 10 1,Lg 11 9 10] 11 0 (TJ 1 (oF [oK 14 7,Tv 15 14 1,oL 7 15] (Om (Pr 16 (oK 17 8) (oD 18 (.ixStr 16 17)) (oI 19 (Pp .eql 18 10))) 19 (oF [oK 20 6,Tv 21 20 1,oL 6 21] (.ops [Lj 7 1])))) [oK 12 8,Tv 13 12 1,oL 8 13]))) (Oe [oK 22 6,oK 23 7,oL 4 22,oL 5 23]))
def y82:XF:=⟨[0,1],z82,[(.t 4),(.t 5)]⟩
theorem x82:jF θ 82=some y82:=by kernel_rfl
def z81:XC:=(T0 [T9 4] [T9 5] (Om (Pr 7 (oK 8 1) (oD 9 (.ixStr 7 8)) (oV 10 true none (o9 83 []) [9])) 10 (.seq (OH 0 (Pi [oK 11 1,oK 12 5,Pf 13 .add 11 12,Tb 14,Pc 15 14,oD 16 (TH 13 15),oK 17 16,TM 18 17 0,TM 19 17 1,TM 20 17 5,TA 21 17 (.bin .add 19 20),TA 22 17 (.ixStr 18 21),Pn 23 17 83 [22],TM 24 17 23,TO 25 24 0,TO 26 24 1,TO 27 24 5,Ok 28 24 (.bin .add 26 27),Ok 29 24 (.ixStr 25 28),Ph 30 (Og 24) 85 [29],TA 31 17 (.pick 24 O5 30),TM 32 17 31,TO 33 32 0,TO 34 32 1,TO 35 32 5,Ok 36 32 (.bin .add 34 35),Ok 37 32 (.ixStr 33 36),Ok 38 32 (Pp .eql 37 95),TA 39 17 (.pick 32 O5 38),Tu 40 17 39 IZ] 40 0 (.block 1 (.ops [oK 41 5,Tv 42 41 1,oL 5 42])))) (Oe (Pg 43 5 4 43)))) (.seq (Om (Pr 44 (oK 45 1) (oD 46 (.ixStr 44 45)) (oV 47 true none (o9 85 []) [46])) 47 (.seq (OH 2 (Pi [oK 48 1,oK 49 5,Pf 50 .add 48 49,Tb 51,Pc 52 51,oD 53 (TH 50 52),oK 54 53,TM 55 54 0,TM 56 54 1,TM 57 54 5,TA 58 54 (.bin .add 56 57),TA 59 54 (.ixStr 55 58),Pn 60 54 85 [59],Tu 61 54 60 IZ] 61 2 (.block 3 (.ops [oK 62 5,Tv 63 62 1,oL 5 63])))) (Oe (Pg 64 5 4 64)))) (.seq (TT [Lj 6 1] 4 (Pi [oK 65 6,OW 66 .leq 65 3,oK 67 66,TM 68 67 1,TM 69 67 6,TA 70 67 (.bin .add 68 69),TM 71 67 0,TA 72 67 (.lenS 71),TA 73 67 (.bin .leq 70 72),Tu 74 67 73 IZ] 74 4 (TJ 5 (Lf [Tb 77,oK 78 1,oK 79 1,oK 80 6,Pf 81 .add 79 80,oD 82 (Pd 77 (some 78) 81),Tp 83 23 1 [oW] [T6 0 123,T6 1 125,T6 2 40,T6 3 41,T6 4 58,T6 5 44,T6 6 59,TG 7 [46,46],TG 8 [58,61],T6 9 61,TG 10 [33,61],T6 11 60,TG 12 [60,61],T6 13 62,TG 14 [62,61],T6 15 43,T6 16 45,T6 17 42,T6 18 33,T6 19 38,T6 20 124,TG 21 [45,62],TG 22 [60,45,62]],oV 84 true none (o9 130 []) [82,83]] 84 (Pg 85 6 5 85)) [oK 75 6,Tv 76 75 1,oL 6 76]))) (Oe (Pg 86 5 4 86)))))
def y81:XF:=⟨[0,1],z81,[(.t 4)]⟩
theorem x81:jF θ 81=some y81:=by kernel_rfl
def jaA:XC:=(OH 2 (Pi [oK 102 12,oK 103 8,oD 104 (TH 102 103),oK 105 104,TM 106 105 12,TA 107 105 (I0 .lss 106 8),Tu 108 105 107 IZ] 108 2 (TJ 3 (.dops [TK 111 2 11,Lc 112 111 111 2 [],TC (Pf 113 .mul (TW 10) 112),TK 114 1 11,Lc 115 114 114 9 [],TC (oK 116 12),TC (oD 117 (.ixStr 115 116)),TC (oD 118 (Pp .sub 117 48)),T8 (oD 119 (.cvt .i64 118)) 0 [(6,2)],TC (Pf 120 .add 113 119),TK 121 2 11,LD 1 121 120 0 []]) [oK 109 12,Tv 110 109 1,oL 12 110])))
def jaB:XC:=(oF [Pe 132,IX 133 5 11,Tp 134 1 5 [oR,oW,oR,oR,oR] [((0,5),133)],Pj 135 5 48 132 134,oL 4 135] (.ops [oK 136 5,oK 137 8,Pf 138 .add 136 137,oL 5 138]))
def Wl:XC:=(.seq (Om [oK 99 7,oV 100 true none (o9 85 []) [99]] 100 (Ob [LA 101 11,L9 101 (TW 2)] (oF [T9 12] jaA) (Tw [oK 122 8,OW 123 .gtr 122 7,oK 124 123,Tm 125 124 2 11,Tq 126 124 125,Pm 127 124 .gtr 126 1000000,Tu 128 124 O5 127] 128 [oK 129 9,oK 130 10,To 131 [oR,oR,oR] [((0,1),TW 132),((1,1),129),((2,1),130)],Oo 2 .nils,IU 3 3 131]))) jaB)
def K5:XC:=(.seq (Om [oK 87 7,oV 88 true none (o9 83 []) [87]] 88 (Ob [LA 89 11,L9 89 (TW 1)] (Lf [La 90 11,o5 91 90,oV 92 true none (o9 84 []) [91]] 92 [LA 93 11,L9 93 (TW 4)]) (Tw [oK 94 8,Lk 95 .gtr 94 32] 95 [oK 96 9,oK 97 10,To 98 [oR,oR,oR] [((0,1),TW 132),((1,1),96),((2,1),97)],Oo 2 .nils,IU 3 3 98]))) Wl)
def jaC:XC:=(oF [Tb 78,oK 79 5,oK 80 5,oK 81 8,Pf 82 .add 80 81,oD 83 (Pd 78 (some 79) 82),oK 84 9,oK 85 10,To 86 [oR,oW,oR,oR,oR] [((0,1),TW 3),((1,1),83),((3,1),84),((4,1),85)],IY 11 [oR,oW,oR,oR,oR],IU 5 11 86] K5)
def jd3:XC:=(T0 (Pr 64 (oK 65 5) (Ls 66 81 64 65) (oL 8 66)) [Tb 68,oK 69 5,Ls 70 82 68 69,oK 67 70,TI 71 67 0,TI 72 67 1,oL 9 71,oL 10 72] (Tw [oK 73 8,oI 74 (oZ .eql 73 oR)] 74 [oK 75 9,oK 76 10,To 77 [oR,oR,oR] [((0,1),TW 131),((1,1),75),((2,1),76)],Oo 2 .nils,IU 3 3 77]) jaC)
def K4:XC:=(.seq (Om [oK 49 6,oK 50 49,TO 51 50 7,Ok 52 50 (Pp .eql 51 32),Pl 53 50 52,oK 54 53,TO 55 54 7,Ok 56 54 (Pp .eql 55 9),Pl 57 54 56,oK 58 57,TO 59 58 7,Ok 60 58 (Pp .eql 59 10),Tu 61 58 O5 60] 61 (oF [oK 62 5,Tv 63 62 1,oL 5 63] (.exit 1))) jd3)
def z38:XC:=(Ob [Oo 2 .nils,IY 3 [oR,oR,oR]] (Tw [Tb 15,Pc 16 15,Lk 17 .gtr 16 65536] 17 [To 18 [oR,oR,oR] [((0,1),TW 132),((1,1),TW 1),((2,1),TW 1)],Oo 2 .nils,IU 3 3 18]) (oF (Lb (Tp 19 0 5 [oR,oW,oR,oR,oR] []) 4 19) (T0 [T9 5] [TV 6] (OH 0 (Pi [oK 20 5,Tb 21,Pc 22 21,Lg 23 20 22] 23 0 (.block 1 (LM (Pr 24 (oK 25 5) (oD 26 (.ixStr 24 25)) (oL 7 26)) (Lf [oK 27 7,oI 28 (Pp .eql 27 10)] 28 [TV 6]) (Lf [oK 29 6,oD 30 (Tx 29),oK 31 30,TM 32 31 7,TA 33 31 (Pp .eql 32 47),Tl 34 31 33 IZ,oK 35 34,TM 36 35 5,TA 37 35 (I0 .add 36 1),TM 38 35 0,TA 39 35 (.lenS 38),TA 40 35 (TH 37 39),Tl 41 35 40 IZ,oK 42 41,TM 43 42 0,TM 44 42 5,TA 45 42 (I0 .add 44 1),TA 46 42 (.ixStr 43 45),TA 47 42 (Pp .eql 46 47),Tu 48 42 47 IZ] 48 [oL 6 O5]) K4)))) (T4 [Tb 140,Tb 141,Pc 142 141,Ls 143 82 140 142,oK 139 143,TI 144 139 0,TI 145 139 1,oL 13 144,oL 14 145] [Pe 146,oK 147 13,oK 148 14,To 149 [oR,oW,oR,oR,oR] [((0,1),TW 5),((3,1),147),((4,1),148)],Tp 150 1 5 [oR,oW,oR,oR,oR] [((0,5),149)],Pj 151 5 48 146 150,To 152 [oR,oR,oR] [],L8 151,IU 3 3 152]))))
def y38:XF:=⟨[0],z38,[(.t 2),(.cA 3 3)]⟩
theorem x38:jF θ 38=some y38:=by kernel_rfl
def z39:XC:=(T4 [Pa] [Tb 3,O0 4 3,oU 5 2 4,IX 6 3 5,To 7 [oR,oR,oR] [],oD 8 (.gen .neq 30 false 6 7),L8 8])
def y39:XF:=⟨[0],z39,[(.t 2)]⟩
theorem x39:jF θ 39=some y39:=by kernel_rfl
def z40:XC:=(Ob [IY 2 [oR,oW,oR,oR,oR]] (.cops [Tr (Tb 3),Tr (O0 4 3),Tr (LA 5 4),LC 6 5,Tr (Tb 7),Tr (O0 8 7),Tr (La 9 8),LC 10 9,Tr (Tj 11 5 6 10),Tr (IX 12 5 11),Tr (IU 5 2 12)]) .ret)
def y40:XF:=⟨[0],z40,[(.cA 2 5)]⟩
theorem x40:jF θ 40=some y40:=by kernel_rfl
def z45:XC:=(Ob [TR 3 1] (Lf [Tb 4,O0 5 4,oU 6 2 5,IX 7 3 6,To 8 [oR,oR,oR] [],oI 9 (.gen .eql 30 false 7 8)] 9 [Tb 10,oU 11 3 3,o5 12 11,oU 13 4 3,o5 14 13,To 15 [oR,oR,oR] [((0,1),TW 151),((1,1),12),((2,1),14)],O0 16 10,oU 17 2 16,IU 3 17 15]) (.ops [Tb 18,Tb 19,O0 20 19,LA 21 20,o5 22 21,Lu 23 22,OW 24 .sub 23 1,O0 25 18,La 26 25,L9 26 24]))
def y45:XF:=⟨[0,1],z45,[]⟩
theorem x45:jF θ 45=some y45:=by kernel_rfl
def z88:XC:=(oF [LG] (T4 (Px 6 7 40 6 5 [oR,oW,oR,oR,oR] 5 5 7) [La 8 5,o5 9 8,oK 10 1,LR 11 9 10,oK 12 11,LP 13 12 0 5,LQ 14 12 13,TA 15 12 (I0 .neq 14 1),Tl 16 12 15 IZ,oK 17 16,LP 18 17 0 5,LQ 19 17 18,TA 20 17 (I0 .neq 19 5),Tl 21 17 20 IZ,oL 4 21]))
def y88:XF:=⟨[0,1],z88,[(.t 4)]⟩
theorem x88:jF θ 88=some y88:=by kernel_rfl
def z87:XC:=(.seq (Tw (Pr 4 (oK 5 1) (Ls 6 88 4 5) (LH 7 6)) 7 (Pr 8 (Tb 9) (TN 10 40 9) (Ls 11 45 8 10))) (.ops [Tb 12,O0 13 12,La 14 13,o5 15 14,Tv 16 15 1,O0 17 12,La 18 17,L9 18 16]))
def y87:XF:=⟨[0,1],z87,[]⟩
theorem x87:jF θ 87=some y87:=by kernel_rfl
def z86:XC:=(T0 [IY 2 [oR,oW,oR,oR,oR]] (Px 4 5 40 4 3 [oR,oW,oR,oR,oR] 5 3 5) (Om [LA 6 3,o5 7 6,Lk 8 .neq 7 1] 8 (T4 [Tb 9,IX 10 5 3,Ls 11 45 9 10] [IX 12 5 3,IU 5 2 12])) (T4 [Tb 13,O0 14 13,La 15 14,o5 16 15,Tv 17 16 1,O0 18 13,La 19 18,L9 19 17] [IX 20 5 3,IU 5 2 20]))
def y86:XF:=⟨[0],z86,[(.cA 2 5)]⟩
theorem x86:jF θ 86=some y86:=by kernel_rfl
def K6:XC:=(oF [Tb 2,O0 3 2,oU 4 5 3,o5 5 4,Tv 6 5 1,O0 7 2,oU 8 5 7,L9 8 6] (Lf [Tb 9,O0 10 9,oU 11 5 10,o5 12 11,Lk 13 .gtr 12 60] 13 (Pr 14 (Tb 15) (TN 16 40 15) (Ls 17 45 14 16))))
def jey:XF:=⟨[0],K6,[]⟩
theorem jiw:jF θ 178=some jey:=by kernel_rfl
def jec:XC:=(Py [T9 2] (oF [oL 3 0] (.block 0 (Ie (Lb (LB 5 3 30) 4 5) 4 (Oe [Lj 2 1]) (Ie (Lb (LB 7 3 29) 6 7) 6 (Oe [Lj 2 2]) (Ie (Lb (LB 9 3 28) 8 9) 8 (Oe [Lj 2 3]) (Ie (Lb (LB 11 3 27) 10 11) 10 (Oe [Lj 2 4]) (.seq (LI (LB 13 3 23) 12 13 12 (LI (LB 14 3 24) 12 14 12 (LI (LB 15 3 25) 12 15 12 (.ops (Lb (LB 16 3 26) 12 16))))) (Pb 12 [Lj 2 5] (.seq (LI (LB 18 3 17) 17 18 17 (LI (LB 19 3 18) 17 19 17 (LI (LB 20 3 19) 17 20 17 (LI (LB 21 3 20) 17 21 17 (LI (LB 22 3 21) 17 22 17 (.ops (Lb (LB 23 3 22) 17 23))))))) (Pb 17 [Lj 2 6] (.seq (LI (LB 25 3 15) 24 25 24 (.ops (Lb (LB 26 3 16) 24 26))) (Pb 24 [Lj 2 7] (Tw (Lb (LB 28 3 14) 27 28) 27 [Lj 2 8]))))))))))))) [T9 2])
def jia:XF:=⟨[0],jec,[(.t 2)]⟩
theorem jkY:jF θ 157=some jia:=by kernel_rfl
def jed:XC:=(Py [T9 2] (TT [Lj 3 14] 0 (Pi [oK 4 3,Lk 5 .leq 4 30] 5 0 (TJ 1 (Tw (Pr 8 (oK 9 3) (TN 10 52 9) (oV 11 true none (o9 88 []) [8,10])) 11 (Pg 12 3 2 12)) [oK 6 3,Tv 7 6 1,oL 3 7]))) [T9 2])
def jib:XF:=⟨[0],jed,[(.t 2)]⟩
theorem jkZ:jF θ 156=some jib:=by kernel_rfl
def K8:XC:=(T0 [LX 2 oR oR oW oR oR] (Px 8 9 40 8 3 [oR,oW,oR,oR,oR] 5 3 9) (TT [Lj 4 5] 0 (Pi [Pe 10,Lk 11 .leq 10 13] 11 0 (TJ 1 (Om (Pr 14 (Pe 15) (TN 16 52 15) (oV 17 true none (o9 88 []) [14,16])) 17 (oF [Tb 18,O0 19 18,La 20 19,o5 21 20,Tv 22 21 1,O0 23 18,La 24 23,L9 24 22] (Po [Tb 25,TN 26 178 25] (Pw 27 28 155 27 (LX 5 oR oR oW oR oR) 6 5 28) (T4 [Tb 29,O0 30 29,oU 31 5 30,o5 32 31,OW 33 .sub 32 1,O0 34 29,oU 35 5 34,L9 35 33] [Pe 36,LJ 37 5,Tp 38 1 6 (LV oR oR oW oR oR) [((0,6),37)],oU 39 3 3,o5 40 39,oU 41 4 3,o5 42 41,To 43 (LV oR oR oW oR oR) [((0,1),36),((3,1),38),((4,1),40),((5,1),42)],IU 6 2 43])))) [Pe 12,Tv 13 12 1,oL 4 13]))) (.seq (Om [Tb 44,oV 45 true none (o9 88 []) [44,If [40]]] 45 (Po [Tb 46,O0 47 46,La 48 47,o5 49 48,Tv 50 49 1,O0 51 46,La 52 51,L9 52 50] [Tb 53,TN 54 178 53] (Po (Pr 55 (Ls 56 131 55 (TW 1)) (LX 6 oR oR oW oR oR) (IU 6 6 56)) [Tb 57,O0 58 57,oU 59 5 58,o5 60 59,OW 61 .sub 60 1,O0 62 57,oU 63 5 62,L9 63 61] (T4 [Tb 64,LK 65 87 64 [41]] [LJ 66 6,IU 6 2 66])))) (Ob [oU 67 3 3,o5 68 67,oU 69 4 3,o5 70 69,To 71 (LV oR oR oW oR oR) [((4,1),68),((5,1),70)],LX 7 oR oR oW oR oR,IU 6 7 71] (Ie [LA 72 3,o5 73 72,Lk 74 .eql 73 2] 74 (oF [LA 75 7,L9 75 (TW 1)] (.ops [oU 76 2 3,o5 77 76,La 78 7,L9 78 77])) (Ie [LA 79 3,o5 80 79,Lk 81 .eql 80 1] 81 (oF [LA 82 7,L9 82 (TW 3)] (.ops [La 83 3,o5 84 83,oU 85 2 7,L9 85 84])) (Ie [Tb 86,LK 87 88 86 [116,114,117,101],oK 88 87,TO 89 88 0,Ph 90 (Og 88) 88 [89,If [102,97,108,115,101]],Tu 91 88 O5 90] 91 (oF [LA 92 7,L9 92 (TW 2)] (Lf [La 93 3,o5 94 93,oI 95 (Pq 94 (If [116,114,117,101]))] 95 [La 96 7,L9 96 (TW 1)])) (T4 [Tb 97,IX 98 5 3,Ls 99 45 97 98] [LJ 100 7,IU 6 2 100])))) (T4 [Tb 101,O0 102 101,La 103 102,o5 104 103,Tv 105 104 1,O0 106 101,La 107 106,L9 107 105] [LJ 108 7,IU 6 2 108]))))
def jeA:XF:=⟨[0],K8,[(.cA 2 6)]⟩
theorem jiy:jF θ 155=some jeA:=by kernel_rfl
def jek:XC:=(oF [LX 4 oR oR oW oR oR] (T0 (Pw 11 12 155 11 (LX 5 oR oR oW oR oR) 6 5 12) [Lj 6 8] (OH 0 (Pi [Tb 13,TN 14 39 13,LH 15 14] 15 0 (.block 1 (T0 [Tb 16,TN 17 156 16,oL 7 17] [oK 18 7,TN 19 157 18,oL 8 19] (Tw [oK 20 7,oD 21 (oZ .eql 20 oR),oK 22 21,TO 23 22 8,TO 24 22 1,Ok 25 22 (TH 23 24),Pl 26 22 25,oK 27 26,TO 28 27 8,TO 29 27 6,Ok 30 27 (.bin .gtr 28 29),Tu 31 27 O5 30] 31 [LJ 32 5,IU 6 4 32]) (oF (Px 33 34 40 33 9 [oR,oW,oR,oR,oR] 5 9 34) (T0 [Tb 35,O0 36 35,La 37 36,o5 38 37,Tv 39 38 1,O0 40 35,La 41 40,L9 41 39] [To 42 (LV oR oR oW oR oR) [],LX 10 oR oR oW oR oR,IU 6 10 42] (Ie [oK 43 8,LB 44 43 2,oK 45 44,TO 46 45 8,Pm 47 45 .eql 46 5,Tu 48 45 O5 47] 48 (.ops (Pr 49 (oK 50 8) (Ls 51 131 49 50) (IU 6 10 51))) (.ops [Tb 52,oK 53 8,Tv 54 53 1,Ls 55 131 52 54,IU 6 10 55])) (Ob (Pg 56 8 6 56) (Lf [oK 57 8,Lk 58 .eql 57 6] 58 [Lj 6 5]) (.ops [oK 59 7,LJ 60 5,LJ 61 10,Tp 62 2 6 (LV oR oR oW oR oR) [((0,6),60),((6,6),61)],oU 63 3 9,o5 64 63,oU 65 4 9,o5 66 65,To 67 (LV oR oR oW oR oR) [((0,1),59),((3,1),62),((4,1),64),((5,1),66)],IU 6 5 67])))))))) (Oe [LJ 68 5,IU 6 4 68])))
def jii:XF:=⟨[0,1],jek,[(.cA 4 6)]⟩
theorem jk6:jF θ 131=some jii:=by kernel_rfl
def z90:XC:=(oF [LX 2 oR oR oW oR oR] (T0 (Px 5 6 40 5 3 [oR,oW,oR,oR,oR] 5 3 6) (Pr 7 (Ls 8 131 7 (TW 1)) (LX 4 oR oR oW oR oR) (IU 6 4 8)) (Lf [Tb 9,TN 10 39 9,oD 11 (Tx 10),oK 12 11,TA 13 12 (.ldA 6 4),Pn 14 12 46 [13],TA 15 12 (Tx 14),Tu 16 12 15 IZ] 16 [Tb 17,IX 18 5 3,Ls 19 45 17 18]) (Oe [LJ 20 4,IU 6 2 20])))
def y90:XF:=⟨[0],z90,[(.cA 2 6)]⟩
theorem x90:jF θ 90=some y90:=by kernel_rfl
def z41:XC:=(oF [TR 5 2] (Lf [oK 6 1,OW 7 .geq 6 32,oK 8 7,TM 9 8 0,Pn 10 8 39 [9],TA 11 8 (Tx 10),Tu 12 8 11 IZ] 12 [Tb 13,IX 14 5 5,Ls 15 45 13 14]))
def y41:XF:=⟨[0,1,2],z41,[]⟩
theorem x41:jF θ 41=some y41:=by kernel_rfl
def z89:XC:=(T0 [T9 2] [Lj 3 1] (Om [Tb 5,oV 6 true none (o9 88 []) [5,If [45]]] 6 (oF [Lj 3 (-(0+1))] (.ops [Tb 7,O0 8 7,La 9 8,o5 10 9,Tv 11 10 1,O0 12 7,La 13 12,L9 13 11]))) (Ob (Px 14 15 40 14 4 [oR,oW,oR,oR,oR] 5 4 15) (Om [LA 16 4,o5 17 16,Lk 18 .neq 17 2] 18 (T4 [Tb 19,IX 20 5 4,Ls 21 45 19 20] [T9 2])) (T4 [Tb 22,O0 23 22,La 24 23,o5 25 24,Tv 26 25 1,O0 27 22,La 28 27,L9 28 26] [oK 29 3,oU 30 2 4,o5 31 30,Pf 32 .mul 29 31,L8 32])))
def y89:XF:=⟨[0],z89,[(.t 2)]⟩
theorem x89:jF θ 89=some y89:=by kernel_rfl
def z42:XC:=(Po [IY 2 [oW,.nils,oR,oR]] (Px 7 8 86 7 3 [oR,oW,oR,oR,oR] 5 3 8) (T0 [La 9 3,o5 10 9,oU 11 3 3,o5 12 11,oU 13 4 3,o5 14 13,To 15 [oW,.nils,oR,oR] [((0,1),10),((2,1),12),((3,1),14)],IY 4 [oW,.nils,oR,oR],IU 4 4 15] [Tb 16,LK 17 87 16 [123]] (TT [oL 5 O5] 0 (Pi [oK 18 5,oK 19 18,TM 20 19 0,Pn 21 19 39 [20],TA 22 19 (Tx 21),Tu 23 19 22 IZ] 23 0 (.block 1 (Ob (Px 24 25 40 24 6 [oR,oW,oR,oR,oR] 5 6 25) (Lf [LA 26 6,o5 27 26,Lk 28 .eql 27 1] 28 [Tb 29,La 30 4,o5 31 30,Lu 32 31,IX 33 5 6,OE 34 41 [29,32,33]]) (Lq [TK 35 1 4,Lc 36 35 35 91 [],TC (Tb 37),(LE 38 86 37 0 [(1,91)],TZ),TC (oD 39 (.fld1 1 38)),TC (Tp 40 1 1 [oW] [((0,1),39)]),T8 (Pj 41 1 16 36 40) 0 [],TK 42 1 4,LD 1 42 41 0 []] (oF [Tb 43,LK 44 88 43 [44],oL 5 44] (Lf [oL 45 5] 45 [Tb 46,O0 47 46,La 48 47,o5 49 48,Tv 50 49 1,O0 51 46,La 52 51,L9 52 50]))))))) (T4 [Tb 53,LK 54 87 53 [125]] [IX 55 4 4,IU 4 2 55])))
def y42:XF:=⟨[0],z42,[(.cA 2 4)]⟩
theorem x42:jF θ 42=some y42:=by kernel_rfl
def z43:XC:=(Po [IY 2 [oW,oW,oR,oR,.nils,oR,oR]] (Px 5 6 86 5 3 [oR,oW,oR,oR,oR] 5 3 6) (T0 [La 7 3,o5 8 7,oU 9 3 3,o5 10 9,oU 11 4 3,o5 12 11,To 13 [oW,oW,oR,oR,.nils,oR,oR] [((0,1),8),((5,1),10),((6,1),12)],IY 4 [oW,oW,oR,oR,.nils,oR,oR],IU 7 4 13] [Tb 14,LK 15 87 14 [58]] (Tw [Tb 16,oV 17 true none (o9 39 []) [16]] 17 [IX 18 7 4,IU 7 2 18]) (.seq (Ie [Tb 19,LK 20 88 19 [98,111,111,108],oK 21 20,TO 22 21 0,Ph 23 (Og 21) 40 [22],Ok 24 21 (.fld1 0 23),Pm 25 21 .eql 24 1,Tu 26 21 O5 25] 26 (oF [Tb 27,TN 28 40 27,oD 29 (.fld1 1 28),La 30 4,L9 30 29] (.ops [Tb 31,O0 32 31,La 33 32,o5 34 33,Tv 35 34 1,O0 36 31,La 37 36,L9 37 35])) (Po (Pv 38 39 89 38 (oU 40 2 4) (L9 40 39)) [Tb 41,LK 42 87 41 [46,46]] (Lf [Tb 43,TN 44 39 43,LH 45 44] 45 (Pv 46 47 89 46 (oU 48 3 4) (L9 48 47))))) (.seq (Om [Tb 49,TN 50 39 49,oD 51 (Tx 50),oK 52 51,TM 53 52 0,Pn 54 52 88 [53,If [61]],Tu 55 52 54 IZ] 55 (oF [Tb 56,O0 57 56,La 58 57,o5 59 58,Tv 60 59 1,O0 61 56,La 62 61,L9 62 60] (.ops [Tb 63,TN 64 90 63,Tp 65 1 6 (LV oR oR oW oR oR) [((0,6),64)],oU 66 4 4,L9 66 65]))) (T4 [Tb 67,LK 68 87 67 [59]] [IX 69 7 4,IU 7 2 69])))))
def y43:XF:=⟨[0],z43,[(.cA 2 7)]⟩
theorem x43:jF θ 43=some y43:=by kernel_rfl
def z91:XC:=(oF [IY 2 [oR,oR,oW,.nils,oR,oR,.nils]] (T0 [Tb 6,TN 7 90 6,To 8 [oR,oR,oW,.nils,oR,oR,.nils] [((0,6),7)],IY 3 [oR,oR,oW,.nils,oR,oR,.nils],IU 7 3 8] [Tb 9,LK 10 87 9 [100,111]] (TT [oL 4 O5] 0 (Pi [Pe 11,oK 12 11,TM 13 12 0,Pn 14 12 39 [13],TA 15 12 (Tx 14),Tu 16 12 15 IZ] 16 0 (.block 1 (Ob (Px 17 18 40 17 5 [oR,oW,oR,oR,oR] 5 5 18) (Lf [LA 19 5,o5 20 19,Lk 21 .eql 20 1] 21 [Tb 22,oU 23 6 3,o5 24 23,Lu 25 24,IX 26 5 5,OE 27 41 [22,25,26]]) (T0 [Tb 28,TN 29 86 28] [Tb 30,LK 31 87 30 [58,61]] (Tw [Tb 32,oV 33 true none (o9 39 []) [32]] 33 [IX 34 7 3,IU 7 2 34]) (Lq [TK 35 6 3,Lc 36 35 35 101 [],TK 37 1 5,Lc 38 37 37 9 [],TC (Tb 39),(LE 40 90 39 0 [(1,9),(3,101)],some [L5 40 0,OO (oU 41 3 5) 0,O6 (o5 42 41) 41 3 [(1,0)],OO (oU 43 4 5) 0,O6 (o5 44 43) 43 3 [(3,0)],L5 45 0,L5 46 0,L5 47 0,L5 48 0,OO (II (.i (.mv T7))) 0]),TK 41 3 5,Lc 42 41 41 3 [(1,0)],TK 43 4 5,Lc 44 43 43 3 [(3,0)],TC (To 45 [oW,oR,oR,oW,.nils,oR,oR,oR,oR] [((0,1),38),((1,6),40),((7,1),42),((8,1),44)]),TC (Tp 46 1 9 [oW,oR,oR,oW,.nils,oR,oR,oR,oR] [((0,9),45)]),T8 (Pj 47 9 104 36 46) 0 [],TK 48 6 3,LD 1 48 47 0 []] (oF [Tb 49,LK 50 88 49 [44],oL 4 50] (Lf [Pe 51,oK 52 51,TM 53 52 0,Pn 54 52 39 [53],TA 55 52 (Tx 54),Tu 56 52 55 IZ] 56 [Tb 57,O0 58 57,La 59 58,o5 60 59,Tv 61 60 1,O0 62 57,La 63 62,L9 63 61])))))))) (T4 [Tb 64,LK 65 87 64 [59]] [IX 66 7 3,IU 7 2 66])))
def y91:XF:=⟨[0],z91,[(.cA 2 7)]⟩
theorem x91:jF θ 91=some y91:=by kernel_rfl
def z44:XC:=(Po [IY 2 [oW,.nils,oR,oR]] (Px 5 6 86 5 3 [oR,oW,oR,oR,oR] 5 3 6) (T0 [La 7 3,o5 8 7,oU 9 3 3,o5 10 9,oU 11 4 3,o5 12 11,To 13 [oW,.nils,oR,oR] [((0,1),8),((2,1),10),((3,1),12)],IY 4 [oW,.nils,oR,oR],IU 4 4 13] [Tb 14,LK 15 87 14 [123]] (OH 0 (Pi [Tb 16,TN 17 39 16,oD 18 (Tx 17),oK 19 18,TM 20 19 0,Pn 21 19 88 [20,If [119,104,101,110]],Tu 22 19 21 IZ] 22 0 (.block 1 (Lq [TC (Tb 23),TK 24 1 4,Lc 25 24 24 96 [],TC (Lu 26 25),TC (Tb 27),(LE 28 40 27 0 [(2,96)],TZ),(Ts (OE 29 41 [23,26,28]) 0 [],TZ)] (Om [Tb 30,TN 31 39 30,LH 32 31] 32 (oF [Tb 33,O0 34 33,La 35 34,o5 36 35,Tv 37 36 1,O0 38 33,La 39 38,L9 39 37] (.dops [TK 40 1 4,Lc 41 40 40 96 [],TC (Tb 42),(LE 43 91 42 0 [(1,96)],TZ),TC (Tp 44 1 7 [oR,oR,oW,.nils,oR,oR,.nils] [((0,7),43)]),T8 (Pj 45 7 96 41 44) 0 [],TK 46 1 4,LD 1 46 45 0 []]))))))) (T4 [Tb 47,LK 48 87 47 [125]] [IX 49 4 4,IU 4 2 49])))
def y44:XF:=⟨[0],z44,[(.cA 2 4)]⟩
theorem x44:jF θ 44=some y44:=by kernel_rfl
def Ua:XC:=(oF [oK 103 6,oU 104 2 7,o5 105 104,Lu 106 105,IX 107 5 8,OE 108 41 [103,106,107]] (Om [oK 109 6,TN 110 39 109,LH 111 110] 111 (.dops [TK 112 2 7,Lc 113 112 112 25 [],TC (oK 114 6),(LE 115 44 114 0 [(1,25)],TZ),TC (Tp 116 1 4 [oW,.nils,oR,oR] [((0,4),115)]),T8 (Pj 117 4 56 113 116) 0 [],TK 118 2 7,LD 1 118 117 0 []])))
def Ub:XC:=(oF [oK 78 6,La 79 7,o5 80 79,Lu 81 80,IX 82 5 8,OE 83 41 [78,81,82]] (Om [oK 84 6,TN 85 39 84,LH 86 85] 86 (.dops [TK 87 1 7,Lc 88 87 87 24 [],TC (oK 89 6),(LE 90 43 89 0 [(1,24)],TZ),TC (Tp 91 1 7 [oW,oW,oR,oR,.nils,oR,oR] [((0,7),90)]),T8 (Pj 92 7 88 88 91) 0 [],TK 93 1 7,LD 1 93 92 0 []])))
def Uc:XC:=(oF [oK 53 6,LA 54 7,o5 55 54,Lu 56 55,IX 57 5 8,OE 58 41 [53,56,57]] (Om [oK 59 6,TN 60 39 59,LH 61 60] 61 (.dops [TK 62 0 7,Lc 63 62 62 23 [],TC (oK 64 6),(LE 65 42 64 0 [(1,23)],TZ),TC (Tp 66 1 4 [oW,.nils,oR,oR] [((0,4),65)]),T8 (Pj 67 4 56 63 66) 0 [],TK 68 0 7,LD 1 68 67 0 []])))
def Y1:XC:=(Po [oK 32 6,TN 33 40 32,IY 8 [oR,oW,oR,oR,oR],IU 5 8 33] [oK 34 6,O0 35 34,La 36 35,o5 37 36,Tv 38 37 1,O0 39 34,La 40 39,L9 40 38] (.block 2 (Ie [LA 45 8,o5 46 45,LB 47 46 4,oK 48 47,LP 49 48 1 8,LQ 50 48 49,TA 51 48 (Pq 50 (If [101,110,117,109])),Tl 52 48 51 IZ,oL 44 52] 44 Uc (Ie [LA 70 8,o5 71 70,LB 72 71 4,oK 73 72,LP 74 73 1 8,LQ 75 73 74,TA 76 73 (Pq 75 (If [118,97,114])),Tl 77 73 76 IZ,oL 69 77] 69 Ub (Ie [LA 95 8,o5 96 95,LB 97 96 4,oK 98 97,LP 99 98 1 8,LQ 100 98 99,TA 101 98 (Pq 100 (If [112,114,111,99,101,115,115])),Tl 102 98 101 IZ,oL 94 102] 94 Ua (.ops [oK 41 6,IX 42 5 8,Ls 43 45 41 42]))))))
def jaD:XC:=(.seq (Om [oK 119 6,oV 120 true none (o9 39 []) [119]] 120 (Lq [TC (To 121 [.nils,.nils,.nils] []),TC (oK 122 6),TC (O0 123 122),TK 124 2 123,TB (IX 125 3 124) 124 30 [],LD 3 2 121 0 [(0,30)],LD 3 3 125 0 []] .ret)) (Oe [IX 126 3 7,To 127 [oR,oR,oR] [],IU 3 2 126,IU 3 3 127]))
def jaE:XC:=(Ob [To 22 [.nils,.nils,.nils] [],IY 7 [.nils,.nils,.nils],IU 3 7 22] (OH 0 (Pi [oK 23 6,TN 24 39 23,oD 25 (Tx 24),oK 26 25,TM 27 26 6,Pn 28 26 40 [27],TA 29 26 (.fld1 0 28),TA 30 26 (I0 .neq 29 5),Tu 31 26 30 IZ] 31 0 (.block 1 Y1))) jaD)
def z10:XC:=(T0 [IY 2 [.nils,.nils,.nils],IY 3 [oR,oR,oR]] [Tb 10,TN 11 38 10,oK 9 11,TI 12 9 0,TI 13 9 1,IY 5 [oR,oR,oR],oL 4 12,IU 3 5 13] (Om [IX 14 3 5,To 15 [oR,oR,oR] [],oI 16 (.gen .neq 30 false 14 15)] 16 (Lq [TC (To 17 [.nils,.nils,.nils] []),TB (IX 18 3 5) 5 30 [],LD 3 2 17 0 [(0,30)],LD 3 3 18 0 []] .ret)) (oF [Pe 19,To 20 [.nils,oR,oR,oR,oR,oR] [((0,1),19)],oD 21 (.box 20),oL 6 21] jaE))
def y10:XF:=⟨[0],z10,[(.cA 2 3),(.cA 3 3)]⟩
theorem x10:jF θ 10=some y10:=by kernel_rfl
def z30:XC:=(LM [TR 2 0,TR 3 1,LG] (Tw [LA 6 2,o5 7 6,LA 8 3,o5 9 8,oD 10 (Li 7 9),oK 11 10,Tm 12 11 1 2,Tq 13 11 12,Tm 14 11 1 3,Tq 15 11 14,Ok 16 11 (Li 13 15),Pl 17 11 16,oK 18 17,Tm 19 18 2 2,Tq 20 18 19,Tm 21 18 2 3,Tq 22 18 21,Ok 23 18 (.strb .neq 20 22),Pl 24 18 23,oK 25 24,Tm 26 25 4 2,Tq 27 25 26,Tm 28 25 4 3,Tq 29 25 28,Ok 30 25 (Li 27 29),Pl 31 25 30,oK 32 31,Tm 33 32 5 2,Tq 34 32 33,Tm 35 32 5 3,Tq 36 32 35,Ok 37 32 (Li 34 36),Pl 38 32 37,oK 39 38,Tm 40 39 3 2,Tq 41 39 40,Lz 42 39 41,Tm 43 39 3 3,Tq 44 39 43,Lz 45 39 44,Ok 46 39 (Li 42 45),Tu 47 39 O5 46] 47 [LG]) (Lt [oU 48 3 2,o5 49 48,TS 50 49,T9 51] 0 [Lg 52 51 50] 52 0 1 (Ob (Pg 53 51 5 53) (.cops [Tr (oU 54 3 2),LC 55 54,Pz 56 5,Tr (Tj 57 6 55 56),Tr (LJ 58 57),Tr (oU 59 3 3),LC 60 59,Pz 61 5,Tr (Tj 62 6 60 61),Tr (LJ 63 62),(Ls 64 30 58 63,TZ),Tr (LH 65 64)]) (Pb 65 [LG] .skip)) 66 51 1 51 66) (Oe [oL 4 O5]))
def y30:XF:=⟨[0,1],z30,[(.t 4)]⟩
theorem x30:jF θ 30=some y30:=by kernel_rfl
def z11:XC:=(LM [TR 2 0,TR 3 1,LG] (Tw [IX 20 3 2,IX 21 3 3,Ls 22 20 20 21,LH 23 22] 23 [LG]) (Lt [LA 24 2,Ll 25 24,TS 26 25,T9 27] 0 [Lg 28 27 26] 28 0 1 (Po [oK 29 27,Tj 30 4 25 27,IX 31 4 30,IY 6 [oW,.nils,oR,oR],oL 5 29,IU 4 6 31] [LA 32 3,o5 33 32,oK 34 5,Tj 35 4 33 34,IX 36 4 35,IY 7 [oW,.nils,oR,oR],IU 4 7 36] (Tw [oU 37 2 6,o5 38 37,oU 39 2 7,o5 40 39,oD 41 (Li 38 40),oK 42 41,Tm 43 42 3 6,Tq 44 42 43,Tm 45 42 3 7,Tq 46 42 45,Ok 47 42 (Li 44 46),Tu 48 42 O5 47] 48 [LG])) 49 27 1 27 49) (.seq (Lt [La 50 2,Ll 51 50,TS 52 51,T9 53] 2 [Lg 54 53 52] 54 2 3 (T0 [oK 55 53,Tj 56 7 51 53,IX 57 7 56,IY 9 [oW,oW,oR,oR,.nils,oR,oR],oL 8 55,IU 7 9 57] [La 58 3,o5 59 58,oK 60 8,Tj 61 7 59 60,IX 62 7 61,IY 10 [oW,oW,oR,oR,.nils,oR,oR],IU 7 10 62] (.cops [Tr (oU 63 5 9),LC 64 63,Tr (oU 65 5 10),LC 66 65,Tr (oD 67 (Li 64 66)),Pz 68 67,Tr (Tm 69 68 6 9),Tr (Tq 70 68 69),Tr (Tm 71 68 6 10),Tr (Tq 72 68 71),Tr (Ok 73 68 (Li 70 72)),Tr (Pl 74 68 73),Pz 75 74,Tr (Tm 76 75 4 9),Tr (Tq 77 75 76),Tr (Lz 78 75 77),Tr (Pm 79 75 .eql 78 1),Tr (TO 80 75 79),Tr (LP 81 80 4 9),Tr (LQ 82 80 81),Tr (TA 83 80 (.idxS 6 82 (.c oR))),Tr (TA 84 80 (.ldA 6 83)),Tr (LP 85 80 4 10),Tr (LQ 86 80 85),Tr (TA 87 80 (.idxS 6 86 (.c oR))),Tr (TA 88 80 (.ldA 6 87)),(Pn 89 80 30 [84,88],TZ),Tr (TA 90 80 (Tx 89)),Tr (Ok 91 75 (.pick 80 90 IZ)),Tr (Tu 92 75 O5 91)]) (Pb 92 [LG] .skip)) 93 53 1 53 93) (.seq (Lt [oU 94 2 2,Ll 95 94,TS 96 95,T9 97] 4 [Lg 98 97 96] 98 4 5 (T0 [oK 99 97,Tj 100 4 95 97,IX 101 4 100,IY 12 [oW,.nils,oR,oR],oL 11 99,IU 4 12 101] [oU 102 2 3,o5 103 102,oK 104 11,Tj 105 4 103 104,IX 106 4 105,IY 13 [oW,.nils,oR,oR],IU 4 13 106] (Tw [oU 107 2 12,o5 108 107,oU 109 2 13,o5 110 109,oD 111 (Li 108 110),oK 112 111,Tm 113 112 3 12,Tq 114 112 113,Tm 115 112 3 13,Tq 116 112 115,Ok 117 112 (Li 114 116),Tu 118 112 O5 117] 118 [LG]) (Lt [La 119 12,Ll 120 119,TS 121 120,T9 122] 6 [Lg 123 122 121] 123 6 7 (T0 [oK 124 122,Tj 125 7 120 122,IX 126 7 125,IY 15 [oR,oR,oW,.nils,oR,oR,.nils],oL 14 124,IU 7 15 126] [La 127 13,o5 128 127,oK 129 14,Tj 130 7 128 129,IX 131 7 130,IY 16 [oR,oR,oW,.nils,oR,oR,.nils],IU 7 16 131] (Tw [LA 132 15,LJ 133 132,LA 134 16,LJ 135 134,Ls 136 30 133 135,LH 137 136] 137 [LG]) (Lt [oU 138 6 15,Ll 139 138,TS 140 139,T9 141] 8 [Lg 142 141 140] 142 8 9 (Po [oK 143 141,Tj 144 9 139 141,IX 145 9 144,IY 18 [oW,oR,oR,oW,.nils,oR,oR,oR,oR],oL 17 143,IU 9 18 145] [oU 146 6 16,o5 147 146,oK 148 17,Tj 149 9 147 148,IX 150 9 149,IY 19 [oW,oR,oR,oW,.nils,oR,oR,oR,oR],IU 9 19 150] (Tw [oU 151 7 18,o5 152 151,oU 153 7 19,o5 154 153,oD 155 (Li 152 154),oK 156 155,Tm 157 156 8 18,Tq 158 156 157,Tm 159 156 8 19,Tq 160 156 159,Ok 161 156 (Li 158 160),Pl 162 156 161,oK 163 162,Tm 164 163 1 18,Ok 165 163 (.ldA 6 164),Tm 166 163 1 19,Ok 167 163 (.ldA 6 166),Ph 168 (Og 163) 30 [165,167],Ok 169 163 (Tx 168),Tu 170 163 O5 169] 170 [LG])) 171 141 1 141 171)) 172 122 1 122 172)) 173 97 1 97 173) (Oe [oL 4 O5]))))
def y11:XF:=⟨[0,1],z11,[(.t 4)]⟩
theorem x11:jF θ 11=some y11:=by kernel_rfl
def zL3:XC:=(LM [Pa] (Tw [OE 7 8 [],LH 8 7] 8 [Pa]) (Tw [Tb 9,Pc 10 9,Lk 11 .gtr 10 6000] 11 [L8 O5]) (oF [Tb 13,TN 14 9 13,oK 12 14,TI 15 12 0,TI 16 12 1,IY 3 [.nils,.nils,.nils],IY 4 [oR,oR,oR],IU 3 3 15,IU 3 4 16] (T4 [Tb 18,TN 19 10 18,oK 17 19,TI 20 17 0,TI 21 17 1,IY 5 [.nils,.nils,.nils],IY 6 [oR,oR,oR],IU 3 5 20,IU 3 6 21] [IX 22 3 4,IX 23 3 6,oD 24 (.gen .eql 30 false 22 23),oK 25 24,TA 26 25 (.ldA 3 3),TA 27 25 (.ldA 3 5),Pn 28 25 11 [26,27],Tl 29 25 28 IZ,L8 29])))
def yL3:XF:=⟨[0],zL3,[(.t 2)]⟩
theorem xL3:jF θ 3=some yL3:=by kernel_rfl
variable {base:Bs}
theorem jb7 {l:List Nat}{k:Nat}(h:k<l.length)(p:Nat×Nat):jD p (l.take (k+1))=JW (jD p (l.take k)) (l.getD k 0):=by
 have e:l.take (k+1)=l.take k ++ [l.getD k 0]:=by
  rw[Qap,Qaj h];exact(List.take_append_getElem h).symm
 rw[e];simp[jD,QbR]
theorem G0.tupP {s:St}{a b c d:Nat}(h:(a,b)=(c,d)):G0 (.tup [.int .i64 (c:Int),.int .i64 (d:Int)]) (.tup [.int .i64 (a:Int),.int .i64 (b:Int)]) s:=by
 cases h;exact FzD.tup (.cons (.pc rfl) (.cons (.pc rfl) .nil))
theorem HT (hb:NB base){l:List Nat}{a:Nat}(ha:a<=l.length)(hl:l.length<=4611686018427387904):Tot base 82 [.str l,.int .i64 (a:Int)] (.tup [.int .i64 ((jD (1,1) (l.take a)).1:Int),.int .i64 ((jD (1,1) (l.take a)).2:Int)]):=by
 refine hb.tot ?_ rfl rfl;refine jT x82 (by rfl) (hb.pur 82 1 dc) ?_;simp only[y82,jn,ν,ξ,τ,υ];rw[(by unfold z82;simp only[qq];rfl:z82=_)];repeat'(first|apply jd<;>intro _|simp(disch:=first|exact dzA|fail) only[rzZ,γ,δ,ε,ζ,η])
 refine qB (λmm L s=>∃ (k ln cl:Nat),k<=a/\mm=a - k/\(ln,cl)=jD (1,1) (l.take k)/\Has L 0 (.str l)/\Has L 1 (.int .i64 (a:Int))/\Has L 6 (.int .i64 (ln:Int))/\Has L 7 (.int .i64 (cl:Int))/\Has L 8 (.int .i64 (k:Int))) ?_ a ?_
 ·rintro mm L s ⟨k,ln,cl,hk,rfl,hp,i0,i1,i6,i7,i8⟩;unfold Zt;have wb:=Y4 (l.take k) (1,1) dc;rw[<-hp,Qav,Qbd om] at wb;have wb1:ln<=1+k:=wb.1;have wb2:cl<=1+k:=wb.2.1;by_cases hka:k<a
  ·have hkl:k<l.length:=om
   have hw:=jb7 hkl (1,1);rw[<-hp] at hw;generalize hch:l.getD k 0=ch at hw;have eX:∀ (s:St) (K:AV->St->Prop),jl (Xe (.str l) (.int .i64 (k:Int)) s) K=K (.int .u8 (ch:Int)) s:=λs K=>by rw[jaN om om,QbL,hch]
   have e1:(((k+1:Nat):Int))=(k:Int)+1:=om
   have e2:(((ln+1:Nat):Int))=(ln:Int)+1:=om
   have e3:(((cl+1:Nat):Int))=(cl:Int)+1:=om
   by_cases h10:ch=10
   ·have y3:(ch:Int)=10:=om
    repeat'(first|apply jd<;>intro _|simp(disch:=first|exact dzA|fail) only[ja i0,ja i1,ja i6,ja i7,ja i8,eX,y3,rzZ,γ,δ,ε,ζ,η])
    refine⟨a - (k+1),om,k+1,ln+1,1,om,rfl,by rw[hw];unfold JW;rw[if_pos h10],?_⟩;simp(disch:=decide) only[h12,i0,i1,e1,e2]
   ·have y3:(ch:Int)≠10:=om
    repeat'(first|apply jd<;>intro _|simp(disch:=first|exact dzA|fail) only[ja i0,ja i1,ja i6,ja i7,ja i8,eX,y3,rzZ,γ,δ,ε,ζ,η])
    refine⟨a - (k+1),om,k+1,ln,cl+1,om,rfl,by rw[hw];unfold JW;rw[if_neg h10],?_⟩;simp(disch:=decide) only[h12,i0,i1,i6,e1,e3]
  ·have hka':k=a:=om
   subst hka';repeat'(first|apply jd<;>intro _|simp(disch:=first|exact dzA|fail) only[ja i0,ja i1,ja i6,ja i7,ja i8,rzZ,γ,δ,ε,ζ,η])
   exact G0.tupP hp
 ·refine⟨0,1,1,om,rfl,rfl,?_⟩;simp(disch:=decide) only[h12]
theorem Hi {r:List Nat}{k:Nat}(hk:k<=3)(h:3<=k\/r.length<k+1):Qi r k=Qg r:=by
 rw[<-jaY];rcases h with h|h
 ·rw[show k=3 by omega]
 ·have hs:∀ j,k<=j->Qi r j=Qi r k:=λj hj=>by
   induction j with
   |zero=>rw[show k=0 by omega]
   |succ j ih=>
    by_cases hjk:k=j+1
    ·rw[hjk]
    ·rw[vI,if_neg (λh'=>by have:=h'.1;omega)];exact ih om
  exact(hs 3 hk).symm
set_option maxHeartbeats 4000000 in
theorem jiC (hb:NB base){l:List Nat}{a:Nat}(ha:a<l.length)(hl:l.length<=4611686018427387904):Tot base 81 [.str l,.int .i64 (a:Int)] (.int .i64 (q6 (l.drop a):Int)):=by
 refine hb.tot ?_ rfl rfl;have hrl:(l.drop a).length=l.length - a:=Qan;have jr:∀ j,(l.drop a).getD j 0=l.getD (a+j) 0:=λj=>by
  rw[Qap,QbK,<-Qap]
 have hw:q6 (l.drop a)=if qg (l.getD a 0)=true then j7 qE (l.drop a) else if jy (l.getD a 0)=true then j7 jy (l.drop a) else Qg (l.drop a):=by
  have h0:=jr 0;cases hr:l.drop a with
  |nil=>rw[hr] at hrl;simp at hrl;omega
  |cons x r=>
   rw[hr] at h0;have h0':x=l.getD a 0:=h0;rw[<-h0'];rfl
 have eX:∀ (k:Nat),k<l.length->∀ (s:St) (K:AV->St->Prop),jl (Xe (.str l) (.int .i64 (k:Int)) s) K=K (.int .u8 ((l.getD k 0:Nat):Int)) s:=λk hk s K=>Z3 hk .i64;have eX0:=eX a ha;have L0:=ZP hb (l.getD a 0);have D0:=XU hb (l.getD a 0);cases hL:qg (l.getD a 0) with
 |true=>
  rw[if_pos hL] at hw;rw[hL] at L0;rw[hw];refine jT x81 (by rfl) (hb.pur 81 1 dc) ?_;simp only[y81,jn,ν,ξ,τ,υ];rw[(by unfold z81;simp only[qq];rfl:z81=_)];repeat'(first|apply jd<;>intro _|simp(disch:=first|exact dzA|fail) only[eX0,L0,rzZ,γ,δ,ε,ζ,η])
  refine qB (λmm L s=>∃ k:Nat,a+k<=l.length/\mm=l.length - (a+k)/\(∀ j,j<k->qE ((l.drop a).getD j 0)=true)/\Has L 0 (.str l)/\Has L 1 (.int .i64 (a:Int))/\Has L 5 (.int .i64 (k:Int))) ?_ (l.length - a) ?_
  ·rintro mm L s ⟨k,hk,rfl,hp,i0,i1,i5⟩;unfold Zt;have eA:(a:Int)+(k:Int)=((a+k:Nat):Int):=om
   have e1:(((k+1:Nat):Int))=(k:Int)+1:=om
   by_cases hlt:a+k<l.length
   ·have hlt':((a+k:Nat):Int)<(l.length:Int):=om
    have eX1:=eX (a+k) hlt;have LT:=ZP hb (l.getD (a+k) 0);have DT:=XU hb (l.getD (a+k) 0);have z9:((l.getD (a+k) 0:Int)=95)=(l.getD (a+k) 0=95):=by rw[eq_iff_iff];omega
    have hin:qE (l.getD (a+k) 0)=(qg (l.getD (a+k) 0) ||jy (l.getD (a+k) 0) ||decide (l.getD (a+k) 0=95)):=rfl;have hstep:∀ (h:qE (l.getD (a+k) 0)=true),∀ j,j<k+1->qE ((l.drop a).getD j 0)=true:=λh j hj=>by
     by_cases hjk:j=k
     ·rw[hjk,jr];exact h
     ·exact hp j om
    have hstop:qE (l.getD (a+k) 0)=false->j7 qE (l.drop a)=k:=λh=>QZ om hp (.inr (by rw[jr];exact h));generalize l.getD (a+k) 0=ch at eX1 hstep hstop LT DT z9 hin;repeat'(first|apply jd<;>intro _|simp(disch:=first|exact dzA|fail) only[ja i0,ja i1,ja i5,eA,eX1,LT,DT,z9,hlt',rzZ,γ,δ,ε,ζ,η])
    ·rename_i h1;refine⟨l.length - (a+(k+1)),om,k+1,om,rfl,hstep (by rw[hin,h1];rfl),?_⟩;simp(disch:=decide) only[h12,i0,i1,e1]
    ·rename_i h1 h2;refine⟨l.length - (a+(k+1)),om,k+1,om,rfl,hstep (by rw[hin,h2,Bool.or_true];rfl),?_⟩;simp(disch:=decide) only[h12,i0,i1,e1]
    ·rename_i h1 h2 h3;refine⟨l.length - (a+(k+1)),om,k+1,om,rfl,hstep (by rw[hin];simp[h3]),?_⟩;simp(disch:=decide) only[h12,i0,i1,e1]
    ·rename_i h1 h2 h3;exact G0.v (congrArg (λn:Nat=>AV.int .i64 (n:Int)) (hstop (by rw[hin];simp[h1,h2,h3])).symm) rfl
   ·have hlt':¬ ((a+k:Nat):Int)<(l.length:Int):=om
    have hlead:j7 qE (l.drop a)=k:=QZ om hp (.inl om);rw[hlead];repeat'(first|apply jd<;>intro _|simp(disch:=first|exact dzA|fail) only[ja i0,ja i1,ja i5,eA,hlt',rzZ,γ,δ,ε,ζ,η])
    exact G0.v rfl rfl
  ·refine⟨0,om,rfl,λj hj=>absurd hj (QaM _),?_⟩;simp(disch:=decide) only[h12]
 |false=>
  rw[if_neg (by rw[hL];decide)] at hw;rw[hL] at L0;cases hD:jy (l.getD a 0) with
  |true=>
   rw[if_pos hD] at hw;rw[hD] at D0;rw[hw];refine jT x81 (by rfl) (hb.pur 81 1 dc) ?_;simp only[y81,jn,ν,ξ,τ,υ];rw[(by unfold z81;simp only[qq];rfl:z81=_)];repeat'(first|apply jd<;>intro _|simp(disch:=first|exact dzA|fail) only[eX0,L0,D0,rzZ,γ,δ,ε,ζ,η])
   refine qB (λmm L s=>∃ k:Nat,a+k<=l.length/\mm=l.length - (a+k)/\(∀ j,j<k->jy ((l.drop a).getD j 0)=true)/\Has L 0 (.str l)/\Has L 1 (.int .i64 (a:Int))/\Has L 5 (.int .i64 (k:Int))) ?_ (l.length - a) ?_
   ·rintro mm L s ⟨k,hk,rfl,hp,i0,i1,i5⟩;unfold Zt;have eA:(a:Int)+(k:Int)=((a+k:Nat):Int):=om
    have e1:(((k+1:Nat):Int))=(k:Int)+1:=om
    by_cases hlt:a+k<l.length
    ·have hlt':((a+k:Nat):Int)<(l.length:Int):=om
     have eX1:=eX (a+k) hlt;have DT:=XU hb (l.getD (a+k) 0);have hstep:∀ (h:jy (l.getD (a+k) 0)=true),∀ j,j<k+1->jy ((l.drop a).getD j 0)=true:=λh j hj=>by
      by_cases hjk:j=k
      ·rw[hjk,jr];exact h
      ·exact hp j om
     have hstop:jy (l.getD (a+k) 0)=false->j7 jy (l.drop a)=k:=λh=>QZ om hp (.inr (by rw[jr];exact h));generalize l.getD (a+k) 0=ch at eX1 hstep hstop DT;repeat'(first|apply jd<;>intro _|simp(disch:=first|exact dzA|fail) only[ja i0,ja i1,ja i5,eA,eX1,DT,hlt',rzZ,γ,δ,ε,ζ,η])
     ·rename_i h1;refine⟨l.length - (a+(k+1)),om,k+1,om,rfl,hstep h1,?_⟩;simp(disch:=decide) only[h12,i0,i1,e1]
     ·rename_i h1;exact G0.v (congrArg (λn:Nat=>AV.int .i64 (n:Int)) (hstop (by simpa using h1)).symm) rfl
    ·have hlt':¬ ((a+k:Nat):Int)<(l.length:Int):=om
     have hlead:j7 jy (l.drop a)=k:=QZ om hp (.inl om);rw[hlead];repeat'(first|apply jd<;>intro _|simp(disch:=first|exact dzA|fail) only[ja i0,ja i1,ja i5,eA,hlt',rzZ,γ,δ,ε,ζ,η])
     exact G0.v rfl rfl
   ·refine⟨0,om,rfl,λj hj=>absurd hj (QaM _),?_⟩;simp(disch:=decide) only[h12]
  |false=>
   rw[if_neg (by rw[hD];decide)] at hw;rw[hD] at D0;rw[hw];refine jT x81 (by rfl) (hb.pur 81 1 dc) ?_;simp only[y81,jn,ν,ξ,τ,υ];rw[(by unfold z81;simp only[qq];rfl:z81=_)];repeat'(first|apply jd<;>intro _|simp(disch:=first|exact dzA|fail) only[eX0,L0,D0,rzZ,γ,δ,ε,ζ,η])
   refine qB (λmm L s=>∃ k:Nat,k<=3/\mm=3 - k/\Has L 0 (.str l)/\Has L 1 (.int .i64 (a:Int))/\Has L 5 (.int .i64 (Qi (l.drop a) k:Int))/\Has L 6 (.int .i64 ((k+1:Nat):Int))) ?_ 3 ?_
   ·rintro mm L s ⟨k,hk,rfl,i0,i1,i5,i6⟩;unfold Zt;have eA:(a:Int)+((k+1:Nat):Int)=((a+(k+1):Nat):Int):=om
    by_cases h3:3<=k\/l.length<a+(k+1)
    ·have hfin:=Hi (r:=l.drop a) hk om;rw[<-hfin];have g:(((k+1:Nat):Int)<=3)=(k+1<=3):=by rw[eq_iff_iff];omega
     have g2:(((a+(k+1):Nat):Int)<=(l.length:Int))=(a+(k+1)<=l.length):=by rw[eq_iff_iff];omega
     repeat'(first|apply jd<;>intro _|simp(disch:=first|exact dzA|fail) only[ja i0,ja i1,ja i5,ja i6,eA,g,g2,rzZ,γ,δ,ε,ζ,η])
     all_goals first|exact G0.v rfl rfl|(exfalso;omega)
    ·have g:((k+1:Nat):Int)<=3:=om
     have g2:((a+(k+1):Nat):Int)<=(l.length:Int):=om
     have hsl:(l.take (a+(k+1))).drop a=(l.drop a).take (k+1):=by rw[Qbz];congr 1;omega
     have O:=λst b m x D K Kp=>(jg0 hb ((l.drop a).take (k+1)) yX dc).xf (st:=st) (aZ':=[.str ((l.drop a).take (k+1)),.slice b 0 23 m 1 x]) (ks:=[b]) (Fza.pa rfl (Fza.sl (n:=23) (D:Cl st b (yX.map AV.str)) dc (QU yX) .nil)) (λst=>hb.no 130 dc _ _) K Kp;have e3:(((a+(k+1):Nat):Int) - (a:Int)).toNat=k+1:=om
     have e4:((k+1+1:Nat):Int)=((k+1:Nat):Int)+1:=om
     generalize hq:decide ((l.drop a).take (k+1)∈yX)=q at O;unfold yX at O;simp only[ν,ξ] at O;have hs:=vI (l.drop a) k;cases q with
     |true=>
      rw[if_pos ⟨om,of_decide_eq_true hq⟩] at hs;repeat'(first|apply jd<;>intro _|simp(disch:=first|exact dzA|fail) only[ja i0,ja i1,ja i5,ja i6,eA,g,g2,e3,O,rzZ,γ,δ,ε,ζ,η])
      refine⟨3 - (k+1),om,k+1,om,rfl,?_⟩;rw[hs];simp(disch:=decide) only[h12,i0,i1,e4]
     |false=>
      rw[if_neg (λh=>of_decide_eq_false hq h.2)] at hs;repeat'(first|apply jd<;>intro _|simp(disch:=first|exact dzA|fail) only[ja i0,ja i1,ja i5,ja i6,eA,g,g2,e3,O,rzZ,γ,δ,ε,ζ,η])
      refine⟨3 - (k+1),om,k+1,om,rfl,?_⟩;rw[hs];simp(disch:=decide) only[h12,i0,i1,i5,e4]
   ·refine⟨0,om,rfl,?_⟩;have e0:((Qi (l.drop a) 0:Nat):Int)=0:=rfl;have e1:((0+1:Nat):Int)=1:=rfl;rw[e0,e1];simp(disch:=decide) only[h12]
theorem r7:type_of%(aI @Tk.cells_R @rzZ):=aI @Tk.cells_R @rzZ
theorem jgT (hb:NB base){L:Sl}{s:St}{a n tb:Nat}{acc:List Tk}{t:Tk}{v:AV}(Ct:Cl s tb t.cells)(W:Lw 1 s.nx s v acc.length (fl Tk.cells acc) 5)(ha:a+n<=4611686018427387904)(hc:acc.length<=65536)
  (i4:Has L 4 v) (i5:Has L 5 (.int .i64 (a:Int))) (i8:Has L 8 (.int .i64 (n:Int))) (i11:Has L 11 (.ptr tb 0)) {Q:Out->Prop} {Kp:AV->Sl->St->Prop}
  (hQ:∀ v' s',Lw 1 s'.nx s' v' (acc.length+1) (fl Tk.cells (acc ++ [t])) 5->ApL 1 s s'->Q (.go ((5,.int .i64 ((a+n:Nat):Int)) :: (4,v') :: L) s')):xC θ base jaB L s Q Kp:=by
 obtain⟨v',s',e,w,q⟩:=jjW (s:=nw s t.cells) (lo:=1) (hi:=s.nx) (bytes:=48) (xc:=1) (xx:=true) (W.nwO t.cells) (by rw[jf];omega) (Cl.new s t.cells) (Tk.cells_l t) dc om om;have eA:(a:Int)+(n:Int)=((a+n:Nat):Int):=om
 unfold Tk.cells at e;rw[(by unfold jaB;simp only[qq];rfl:jaB=_)]
 (have zz:=@Ct.r;(repeat'(first|apply jd<;>intro _|simp(disch:=first|exact Js|fail) only[ja i4,ja i5,ja i8,ja i11,e,eA,Ct.q,Ct.r,r7,γ,δ,ε,ζ,η]));all_goals clear zz)
 have hq:=hQ v' s' (by rw[Jp,zu];exact w) ⟨by have:=q.nx;rw[jf] at this;omega,by rw[q.fr,w9],λc ds hc C=>q.cl c ds hc (C.nw _)⟩;exact hq
theorem jfv {c:Nat}(h:jy c=true):48<=c/\c<=57:=by
 unfold jy at h;simpa using h
theorem jeI (l:List Nat)(c:Nat):yG (l ++ [c])=10 * yG l+(c - 48):=by
 unfold yG;rw[QbR];rfl
theorem HB {k:Nat}{l:List Nat}(hl:l.length=k)(hd:∀ c∈l,jy c=true):yG l+1<=10 ^ k:=by
 have:=gw l 0 hd;rw[Qab,Qbe,hl] at this;exact this
theorem jkL (hb:NB base){L:Sl}{s:St}{n tb ln co:Nat}{ds:List Nat}(Ct:Cl s tb [.int .i64 2,.str ds,.int .i64 0,.int .i64 (ln:Int),.int .i64 (co:Int)])(hn:ds.length=n)(hn2:n<=1000000)(hd:∀ c∈ds,jy c=true)
  (i8:Has L 8 (.int .i64 (n:Int))) (i11:Has L 11 (.ptr tb 0)) (i12:Has L 12 (.int .i64 0)) {Q:Out->Prop} {Kp:AV->Sl->St->Prop}
  (hQ:∀ L' s',(∀ x v,x<12->Has L x v->Has L' x v)->Cl s' tb [.int .i64 2,.str ds,.int .i64 (yG (ds.take (min n 8)):Int),.int .i64 (ln:Int),.int .i64 (co:Int)]->s'.nx=s.nx->ApL tb s s'->Q (.go L' s')):xC θ base jaA L s Q Kp:=by
 rw[(by unfold jaA;simp only[qq];rfl:jaA=_)];repeat'(first|apply jd<;>intro _|simp(disch:=first|exact dzC|fail) only[r7,γ,δ,ε,ζ,η])
 refine qB (λmm L' s'=>∃ k:Nat,k<=min n 8/\mm=min n 8 - k/\s'.nx=s.nx/\ApL tb s s'/\Cl s' tb [.int .i64 2,.str ds,.int .i64 (yG (ds.take k):Int),.int .i64 (ln:Int),.int .i64 (co:Int)]/\(∀ x v,x<12->Has L x v->Has L' x v)/\Has L' 12 (.int .i64 (k:Int))) ?_ (min n 8) ?_
 ·rintro mm L' s' ⟨k,hkk,rfl,e1,q,T,hL,i12'⟩;unfold Zt;have j8:=hL 8 _ dc i8;have j11:=hL 11 _ dc i11;by_cases hlt:k<min n 8
  ·have q1:(k:Int)<(n:Int):=om
   have q2:(k:Int)<8:=om
   have hkl:k<ds.length:=om
   have eX:∀ (s:St) (K:AV->St->Prop),jl (Xe (.str ds) (.int .i64 (k:Int)) s) K=K (.int .u8 ((ds.getD k 0:Nat):Int)) s:=λs K=>Z3 hkl .i64;have hdk:jy (ds.getD k 0)=true:=by
    rw[Qap,Qaj hkl];exact hd _ (Qam hkl)
   have hnext:yG (ds.take (k+1))=10 * yG (ds.take k)+(ds.getD k 0 - 48):=by rw[Un hkl,jeI]
   have hb8:yG (ds.take k)+1<=10 ^ 8:=by
    refine ω (HB (l:=ds.take k) (k:=k) (by rw[Qav];omega) λc hc=>hd c (List.mem_of_mem_take hc)) ?_;exact QbX dc om
   generalize ds.getD k 0=ch at eX hdk hnext;generalize yG (ds.take k)=v at T hnext hb8;obtain⟨d1,d2⟩:=jfv hdk;have hv:v<=99999999:=om
   have eC:∀ (s:St) (K:AV->St->Prop),jl (jfx .i64 (.int .u8 ((ch:Int) - 48)) s) K=K (.int .i64 ((ch:Int) - 48)) s:=λs K=>by
    simp only[jfx,jl,Xq];rw[IntWalk.i64_in _ ⟨om,om⟩]
   have eS:∀ (s:St) (K:AV->St->Prop),jl (JU .sub (.int .u8 (ch:Int)) (.int .u8 48) s) K=K (.int .u8 ((ch:Int) - 48)) s:=λs K=>by
    have e0:Je .u8 ((ch:Int) - 48)=(ch:Int) - 48:=by
     obtain⟨c,hc⟩:∃ c:Nat,(ch:Int) - 48=(c:Int):=⟨ch - 48,om⟩;have hc9:c<=9:=om
     rw[hc]
     match c,hc9 with
     |0,_|1,_|2,_|3,_|4,_|5,_|6,_|7,_|8,_|9,_=>rfl
    show K (.int .u8 (Je .u8 ((ch:Int) - 48))) s=_;rw[e0]
   have sm:=sm2 (h:=s'.h) (b:=tb) (o:=2) (v:=.int .i64 (v:Int)) (by rw[T.len];show 2<5;decide) (T.cell 2 (show 2<5 by decide)) rfl
   (have zz:=T.r;(repeat'(first|apply jd<;>intro _|simp(disch:=first|exact Js|fail) only[ja j8,ja j11,ja i12',q1,q2,eX,eC,eS,sm,T.q,T.r,r7,γ,δ,ε,ζ,η]));all_goals clear zz)
   have ev:((yG (ds.take (k+1)):Nat):Int)=10 * (v:Int)+((ch:Int) - 48):=by rw[hnext];omega
   have T2:=T.wr 2 [AV.int .i64 (10 * (v:Int)+((ch:Int) - 48))];refine⟨min n 8 - (k+1),om,k+1,om,rfl,e1,⟨by have:=q.nx;exact this,q.fr,λc cs hc C=>(q.cl c cs hc C).wrO om _ _⟩,?_,λx v hx h=>?_,?_⟩
   ·rw[ev];exact T2
   ·simp(disch:=omega) only[jb];exact hL x v hx h
   ·have e2:((k+1:Nat):Int)=(k:Int)+1:=om
    rw[e2];simp only[jc]
  ·have hk8:k=min n 8:=om
   subst hk8;have g:(((min n 8:Nat):Int)<(n:Int))=(min n 8<n):=by rw[eq_iff_iff];omega
   have g2:(((min n 8:Nat):Int)<8)=(min n 8<8):=by rw[eq_iff_iff];omega
   repeat'(first|apply jd<;>intro _|simp(disch:=first|exact dzC|fail) only[ja j8,ja j11,ja i12',g,g2,r7,γ,δ,ε,ζ,η])
   all_goals first
    |(exfalso;omega)
    |exact hQ _ s' (λx v hx h=>by simp(disch:=omega) only[jb];exact hL x v hx h) T e1 q
 ·refine⟨0,Qaf _,rfl,rfl,⟨φ _,rfl,λ_ _ _ c=>c⟩,?_,λx v hx h=>h,i12⟩;exact Ct
theorem KS {l:List Nat}{a:Nat}(h:a<l.length):l.drop a=l.getD a 0 :: l.drop (a+1):=by
 rw[QbV h,Qap,Qaj h];rfl
theorem jdv {l:List Nat}{a d:Nat}(hd:d≠0):(l.drop a).head? = some d↔(a<l.length/\l.getD a 0=d):=by
 rw[List.head?_drop,Qap];by_cases h:a<l.length
 ·rw[Qaj h];simp[h]
 ·rw[List.getElem?_eq_none om];simp;omega
def RI (l:List Nat)(mm:Nat)(L:Sl)(s:St):Prop:=
 ∃ (a d:Nat) (v:AV) (acc:List Tk) (rm:Bool),d<=a/\a<=l.length/\mm=l.length - a/\acc.length<=d/\2<=s.nx/\Cl s 0 [.int .i64 0,.int .i64 0,.int .i64 0]/\Lw 1 s.nx s v acc.length (fl Tk.cells acc) 5 /\
  jH (l.drop d)=(a - d)+yd rm (l.drop a)/\qG l (1,1)=ahead acc (qG (l.drop d) (jD (1,1) (l.take d))) /\
  Has L 0 (.str l)/\Has L 3 (.ptr 0 0)/\Has L 4 v/\Has L 5 (.int .i64 (a:Int))/\Has L 6 (.bool rm)
theorem RI.at {l:List Nat}{a d:Nat}{rm:Bool}(h1:d<=a)(h2:a<=l.length)(hg:jH (l.drop d)=(a - d)+yd rm (l.drop a))(hs:yd rm (l.drop a)=0) :
  (l.drop d).drop (jH (l.drop d))=l.drop a/\jD (jD (1,1) (l.take d)) ((l.drop d).take (jH (l.drop d)))=jD (1,1) (l.take a):=by
 rw[hs,QaV] at hg;rw[hg];constructor
 ·rw[QaX];congr 1;omega
 ·have h:l.take d ++ (l.drop d).take (a - d)=l.take a:=by
   rw[<-List.take_add];congr 1;omega
  rw[<-QT,h]
theorem RI.skip {l:List Nat}{s:St}{L:Sl}{a d:Nat}{v:AV}{acc:List Tk}{rm rm':Bool}(h1:d<=a)(h2:a<l.length)(h3:acc.length<=d)(hx:2<=s.nx)(F:Cl s 0 [.int .i64 0,.int .i64 0,.int .i64 0])(R:Lw 1 s.nx s v acc.length (fl Tk.cells acc) 5)
  (hg:jH (l.drop d)=(a - d)+yd rm (l.drop a)) (hM:qG l (1,1)=ahead acc (qG (l.drop d) (jD (1,1) (l.take d))))
  (hr:QO rm (l.drop a)=rm') (hs:(rm' ||qK (l.getD a 0))=true)
  (i0:Has L 0 (.str l)) (i3:Has L 3 (.ptr 0 0)) (i4:Has L 4 v) (i5:Has L 5 (.int .i64 ((a+1:Nat):Int))) (i6:Has L 6 (.bool rm')):∃ k',k'<l.length - a/\RI l k' L s:=by
 refine⟨l.length - (a+1),om,a+1,d,v,acc,rm',om,om,rfl,h3,hx,F,R,?_,hM,i0,i3,i4,i5,i6⟩;rw[hg,KS h2,z7];rw[KS h2] at hr;rw[hr,if_pos hs];omega
theorem RI.word {l:List Nat}{s:St}{L:Sl}{a d n:Nat}{v:AV}{acc:List Tk}{rm:Bool}{t:Tk}(h1:d<=a)(h2:a<l.length)(h3:acc.length<=d)(hx:2<=s.nx)(F:Cl s 0 [.int .i64 0,.int .i64 0,.int .i64 0])(R:Lw 1 s.nx s v (acc ++ [t]).length (fl Tk.cells (acc ++ [t])) 5)
  (hg:jH (l.drop d)=(a - d)+yd rm (l.drop a)) (hM:qG l (1,1)=ahead acc (qG (l.drop d) (jD (1,1) (l.take d)))) (hs:yd rm (l.drop a)=0)
  (hN:qu (l.drop a) (jD (1,1) (l.take a))=(0,t,n)) (hn:n≠0)
  (i0:Has L 0 (.str l)) (i3:Has L 3 (.ptr 0 0)) (i4:Has L 4 v) (i5:Has L 5 (.int .i64 ((a+n:Nat):Int))) (i6:Has L 6 (.bool false)):∃ k',k'<l.length - a/\RI l k' L s:=by
 have hle:=Zd hN;rw[Qan] at hle;obtain⟨w1,w2⟩:=RI.at h1 om hg hs;have hN':qu ((l.drop d).drop (jH (l.drop d))) (jD (jD (1,1) (l.take d)) ((l.drop d).take (jH (l.drop d))))=(0,t,n):=by rw[w1,w2];exact hN
 have hE:=V7 (acc:=acc) hN' hn;rw[w1,w2,QaX] at hE;have h:l.take a ++ (l.drop a).take n=l.take (a+n):=by rw[<-List.take_add]
 rw[<-QT,h] at hE;refine⟨l.length - (a+n),om,a+n,a+n,v,acc ++ [t],false,φ _,om,rfl,?_,hx,F,R,?_,hM.trans hE,i0,i3,i4,i5,i6⟩
 ·rw[Qag];show acc.length+1<=_;omega
 ·rw[W1 _ _ (φ _)];omega
theorem RI.fault {l:List Nat}{a d n e:Nat}{acc:List Tk}{rm:Bool}{t:Tk}(h1:d<=a)(h2:a<=l.length)
  (hg:jH (l.drop d)=(a - d)+yd rm (l.drop a)) (hM:qG l (1,1)=ahead acc (qG (l.drop d) (jD (1,1) (l.take d)))) (hs:yd rm (l.drop a)=0)
  (hN:qu (l.drop a) (jD (1,1) (l.take a))=(e,t,n)) (he:e≠0):qG l (1,1)=([],(e,t.line,t.col)):=by
 obtain⟨w1,w2⟩:=RI.at h1 h2 hg hs;have hN':qu ((l.drop d).drop (jH (l.drop d))) (jD (jD (1,1) (l.take d)) ((l.drop d).take (jH (l.drop d))))=(e,t,n):=by rw[w1,w2];exact hN
 rw[hM,kZ hN' he]
theorem RI.end {l:List Nat}{d:Nat}{acc:List Tk}{rm:Bool}(h1:d<=l.length)
  (hg:jH (l.drop d)=(l.length - d)+yd rm (l.drop l.length)) (hM:qG l (1,1)=ahead acc (qG (l.drop d) (jD (1,1) (l.take d)))) :
  qG l (1,1)=(acc ++ [⟨5,[],0,(jD (1,1) l).1,(jD (1,1) l).2⟩],(0,0,0)):=by
 have hs:yd rm (l.drop l.length)=0:=by rw[List.drop_length];cases rm<;>rfl
 obtain⟨w1,w2⟩:=RI.at h1 (φ _) hg hs;have hN':qu ((l.drop d).drop (jH (l.drop d))) (jD (jD (1,1) (l.take d)) ((l.drop d).take (jH (l.drop d))))=(0,⟨5,[],0,(jD (1,1) l).1,(jD (1,1) l).2⟩,0):=by
  rw[w1,w2,List.drop_length,Qaw];rfl
 rw[hM,k7 hN']
theorem ApL.wrO {lo b:Nat}{s t:St}(q:ApL lo s t)(h:lo<=b)(o:Nat)(ds:List AV):ApL lo s (wr t b o ds):=⟨by rw[je];exact q.nx,by rw[uS];exact q.fr,λc cs hc C=>(q.cl c cs hc C).wrO om o ds⟩
theorem kq {c:Nat}(h:qg c=true):jy c=false:=by
 unfold qg at h;unfold jy;simp at h ⊢;omega
def CutQ (Q:Out->Prop)(L:Sl)(s:St)(acc:List Tk)(t:Tk)(m:Nat):Prop:=∀ v' s' L',Lw 1 s'.nx s' v' (acc.length+1) (fl Tk.cells (acc ++ [t])) 5->ApL 1 s s'->(∀ x w,x<4\/x=6->Has L x w->Has L' x w)->Has L' 4 v'->Has L' 5 (.int .i64 (m:Int))->Q (.go L' s')
def jbW (Q:Out->Prop)(L:Sl)(e ln co:Nat):Prop:=∀ s' L',Has L' 2 .nils->Has L' 3 (.ptr 0 0)->Cl s' 0 [.int .i64 (e:Int),.int .i64 (ln:Int),.int .i64 (co:Int)]->Q (.rt L' s')
theorem GN (hb:NB base){L:Sl}{s:St}{a n tb ch:Nat}{acc:List Tk}{t:Tk}{v:AV}(hD:jy ch=false)(Ct:Cl s tb t.cells)(W:Lw 1 s.nx s v acc.length (fl Tk.cells acc) 5)(ha:a+n<=4611686018427387904)(hc:acc.length<=65536)
  (i4:Has L 4 v) (i5:Has L 5 (.int .i64 (a:Int))) (i7:Has L 7 (.int .u8 (ch:Int))) (i8:Has L 8 (.int .i64 (n:Int))) (i11:Has L 11 (.ptr tb 0)) {Q:Out->Prop} {Kp:AV->Sl->St->Prop}
  (hQ:CutQ Q L s acc t (a+n)):xC θ base Wl L s Q Kp:=by
 have D:=XU hb ch;rw[hD] at D;rw[(by unfold Wl;simp only[qq];rfl:Wl=_)];repeat'(first|apply jd<;>intro _|simp(disch:=first|exact dzC|fail) only[ja i7,D,r7,γ,δ,ε,ζ,η])
 refine jgT (a:=a) (n:=n) hb Ct W ha hc ?_ ?_ ?_ ?_ λv' s' w q=>hQ v' s' _ w q ?_ ?_ ?_
 ·simp(disch:=decide) only[h12,i4]
 ·simp(disch:=decide) only[h12,i5]
 ·simp(disch:=decide) only[h12,i8]
 ·simp(disch:=decide) only[h12,i11]
 ·intro x w hx h;simp(disch:=omega) only[jb];exact h
 ·simp(disch:=decide) only[h12]
 ·simp(disch:=decide) only[h12]
theorem jjL (hb:NB base){L:Sl}{s:St}{a n tb ch ln co:Nat}{acc:List Tk}{ds:List Nat}{v:AV}(hD:jy ch=true)(hn:ds.length=n)(hn2:n<=1000000)(hd:∀ c∈ds,jy c=true)
  (Ct:Cl s tb [.int .i64 3,.str ds,.int .i64 0,.int .i64 (ln:Int),.int .i64 (co:Int)]) (C0:Cl s 0 [.int .i64 0,.int .i64 0,.int .i64 0]) (W:Lw 1 tb s v acc.length (fl Tk.cells acc) 5) (ht:tb<s.nx) (ht0:0<tb) (ha:a+n<=4611686018427387904) (hc:acc.length<=65536)
  (i3:Has L 3 (.ptr 0 0)) (i4:Has L 4 v) (i5:Has L 5 (.int .i64 (a:Int))) (i7:Has L 7 (.int .u8 (ch:Int))) (i8:Has L 8 (.int .i64 (n:Int))) (i9:Has L 9 (.int .i64 (ln:Int))) (i10:Has L 10 (.int .i64 (co:Int))) (i11:Has L 11 (.ptr tb 0)) {Q:Out->Prop} {Kp:AV->Sl->St->Prop}
  (hQ:¬ (7<n\/1000000<yG ds)->CutQ Q L s acc ⟨2,ds,yG ds,ln,co⟩ (a+n)) (hF:7<n\/1000000<yG ds->jbW Q L 132 ln co):xC θ base Wl L s Q Kp:=by
 have D:=XU hb ch;rw[hD] at D;rw[(by unfold Wl;simp only[qq];rfl:Wl=_)]
 (have zz:=@Ct.r;(repeat'(first|apply jd<;>intro _|simp(disch:=first|exact Js|fail) only[ja i7,ja i11,D,Ct.q,Ct.r,r7,γ,δ,ε,ζ,η]));all_goals clear zz)
 refine jkL (n:=n) (tb:=tb) (ln:=ln) (co:=co) (ds:=ds) hb (Ct.wr 0 [.int .i64 2]) hn hn2 hd ?_ ?_ ?_ λL' s' hL T e1 q=>?_
 ·simp(disch:=decide) only[h12,i8]
 ·simp(disch:=decide) only[h12,i11]
 ·simp(disch:=decide) only[h12]
 have hL:∀ x w,x<12->Has L x w->Has L' x w:=λx w hx h=>hL x w hx (by simp(disch:=omega) only[jb];exact h);have j3:=hL 3 _ dc i3;have j4:=hL 4 _ dc i4;have j5:=hL 5 _ dc i5;have j8:=hL 8 _ dc i8;have j9:=hL 9 _ dc i9;have j10:=hL 10 _ dc i10;have j11:=hL 11 _ dc i11;have q2:ApL tb s s':=⟨by rw[e1,je];omega,by rw[q.fr,uS],λc cs hc C=>q.cl c cs hc (C.wrO om _ _)⟩;have W2:=W.keep q2 (φ _);have C02:=q2.cl 0 _ ht0 C0;have hx:s'.nx=s.nx:=e1.trans (by rw[je]);have W3:Lw 1 s'.nx s' v acc.length (fl Tk.cells acc) 5:=by
  obtain⟨b,ex,h1,h2,h3,h4,h5,h6⟩:=W2;exact⟨b,ex,h1,h2,h3,h4,h5,om⟩
 have hvle:yG (ds.take (min n 8))+1<=10 ^ 8:=by
  refine ω (HB (k:=(ds.take (min n 8)).length) rfl λc hc=>hd c (List.mem_of_mem_take hc)) ?_;exact QbX dc (by rw[Qav];omega)
 by_cases h7:7<n
 ·have h7':(7:Int)<(n:Int):=om
  (have zz:=C02.r;(repeat'(first|apply jd<;>intro _|simp(disch:=first|exact Js|fail) only[ja j3,ja j8,ja j9,ja j10,h7',C02.q,C02.r,r7,γ,δ,ε,ζ,η]));all_goals clear zz)
  refine hF (.inl h7) _ _ ?_ ?_ ?_
  ·simp(disch:=decide) only[h12]
  ·simp(disch:=decide) only[h12,j3]
  ·exact C02.wr 0 _
 ·have h7':¬ (7:Int)<(n:Int):=om
  have hmin:ds.take (min n 8)=ds:=List.take_of_length_le om;rw[hmin] at T hvle;by_cases h6:1000000<yG ds
  ·have h6':(1000000:Int)<(yG ds:Int):=om
   (have zz:=aI C02.r T.r;(repeat'(first|apply jd<;>intro _|simp(disch:=first|exact Js|fail) only[ja j3,ja j8,ja j9,ja j10,ja j11,h7',h6',C02.q,T.q,C02.r,T.r,r7,γ,δ,ε,ζ,η]));all_goals clear zz)
   refine hF (.inr h6) _ _ ?_ ?_ ?_
   ·simp(disch:=decide) only[h12]
   ·simp(disch:=decide) only[h12,j3]
   ·exact C02.wr 0 _
  ·have h6':¬ (1000000:Int)<(yG ds:Int):=om
   (have zz:=aI C02.r T.r;(repeat'(first|apply jd<;>intro _|simp(disch:=first|exact Js|fail) only[ja j3,ja j8,ja j9,ja j10,ja j11,h7',h6',C02.q,T.q,C02.r,T.r,r7,γ,δ,ε,ζ,η]));all_goals clear zz)
   refine jgT (t:=⟨2,ds,yG ds,ln,co⟩) (a:=a) (n:=n) hb T W3 ha hc ?_ ?_ ?_ ?_ λv' s2 w q3=>hQ om v' s2 _ w ?_ ?_ ?_ ?_
   ·simp(disch:=decide) only[h12,j4]
   ·simp(disch:=decide) only[h12,j5]
   ·simp(disch:=decide) only[h12,j8]
   ·simp(disch:=decide) only[h12,j11]
   ·exact⟨by have:=q3.nx;omega,q3.fr.trans q2.fr,λc cs hc C=>q3.cl c cs hc (q2.cl c cs om C)⟩
   ·intro x w hx h;simp(disch:=omega) only[jb];exact hL x w om h
   ·simp(disch:=decide) only[h12]
   ·simp(disch:=decide) only[h12]
theorem gs {x:Nat}{r:List Nat}(hL:qg x=false)(hD:jy x=true):∀ c∈(x :: r).take (q6 (x :: r)),jy c=true:=by
 have e:q6 (x :: r)=j7 jy (x :: r):=by
  rw[Qf,if_neg (by rw[hL];decide),if_pos hD]
 rw[e];exact WD jy _
theorem ApL.dn {lo lo':Nat}{s t:St}(q:ApL lo s t)(h:lo'<=lo):ApL lo' s t:=⟨q.nx,q.fr,λc cs hc C=>q.cl c cs om C⟩
theorem Lw.up {lo hi hi' n z:Nat}{s:St}{v:AV}{cs:List AV}(h:Lw lo hi s v n cs z)(h2:hi<=hi'):Lw lo hi' s v n cs z:=by
 obtain⟨b,ex,h1,h2,h3,h4,h5,h6⟩:=h;exact⟨b,ex,h1,h2,h3,h4,h5,om⟩
theorem CutQ.of {Q:Out->Prop}{L L1:Sl}{s u:St}{acc:List Tk}{t:Tk}{m:Nat}(h:CutQ Q L s acc t m)(q:ApL 1 s u)(hL:∀ x w,x<4\/x=6->Has L x w->Has L1 x w):CutQ Q L1 u acc t m:=λv' s' L' w a hx h4 h5=>h v' s' L' w (q.trans a (φ _)) (λx w hx' hh=>hx x w hx' (hL x w hx' hh)) h4 h5
set_option maxHeartbeats 4000000 in
theorem jkN (hb:NB base){l:List Nat}{L:Sl}{s:St}{a n ch:Nat}{r:List Nat}{acc:List Tk}{v:AV}{p:Nat×Nat}(hr:l.drop a=ch :: r)(hl:l.length<=65536)(hn:q6 (l.drop a)=n)(hn0:n≠0)(hacc:acc.length<=65536)
  (C0:Cl s 0 [.int .i64 0,.int .i64 0,.int .i64 0]) (W:Lw 1 s.nx s v acc.length (fl Tk.cells acc) 5) (h1:1<=s.nx)
  (i0:Has L 0 (.str l)) (i3:Has L 3 (.ptr 0 0)) (i4:Has L 4 v) (i5:Has L 5 (.int .i64 (a:Int))) (i7:Has L 7 (.int .u8 (ch:Int))) (i8:Has L 8 (.int .i64 (n:Int))) (i9:Has L 9 (.int .i64 (p.1:Int))) (i10:Has L 10 (.int .i64 (p.2:Int))) {Q:Out->Prop} {Kp:AV->Sl->St->Prop}
  (hQ:∀ t,qu (l.drop a) p=(0,t,n)->CutQ Q L s acc t (a+n)) (hF:∀ t,qu (l.drop a) p=(132,t,0)->t.line=p.1->t.col=p.2->jbW Q L 132 p.1 p.2):xC θ base jaC L s Q Kp:=by
 have hal:a<l.length:=by
  have:=congrArg List.length hr;rw[Qan,χ] at this;omega
 have wn:=gq (l.drop a);rw[Qan,hn] at wn;have nl:=ZT (x:=ch) (r:=r) (p:=p);have nd:=wS (x:=ch) (r:=r) (p:=p);have ns:=vN (x:=ch) (r:=r) (p:=p);have ds:=gs (x:=ch) (r:=r);rw[<-hr,hn] at nl nd ns ds;have htl:((l.drop a).take n).length=n:=by rw[Qav,Qan];omega
 have eA:(a:Int)+(n:Int)=((a+n:Nat):Int):=om
 have e3:(((a+n:Nat):Int) - (a:Int)).toNat=n:=om
 have hle:((a+n:Nat):Int)<=(l.length:Int):=om
 have L0:=C0.lt;rw[(by unfold jaC;simp only[qq];rfl:jaC=_)];repeat'(first|apply jd<;>intro _|simp(disch:=first|exact dzC|fail) only[ja i0,ja i5,ja i8,ja i9,ja i10,eA,e3,r7,γ,δ,ε,ζ,η])
 have hsl:(l.take (a+n)).drop a=(l.drop a).take n:=by rw[Qbz];congr 1;omega
 try rw[hsl]
 generalize hw:(l.drop a).take n=w at *;refine yF λu hu=>?_;have T:Cl u s.nx [.int .i64 3,.str w,.int .i64 0,.int .i64 (p.1:Int),.int .i64 (p.2:Int)]:=by rw[hu];(first|exact cyC|fail)
 have q:ApL s.nx s u:=by rw[hu];exact(ApL.nwO s _).wrO (φ _) _ _
 have hx:u.nx=s.nx+1:=by rw[hu];simp only[je,jf]
 clear hu;have D0:=q.cl 0 _ om C0;have W2:=W.keep q (φ _);generalize ht:s.nx=tb at *;have LT:=ZP hb ch;have KT:=jax hb w;cases hL:qg ch with
 |true=>
  have nl:=nl hL;rw[hL] at LT;rw[(by unfold K5;simp only[qq];rfl:K5=_)];by_cases h32:32<n
  ·have h32':(32:Int)<(n:Int):=om
   rw[if_pos h32] at nl;have hf:=hF _ nl rfl rfl;cases hk:w5 w<;>rw[hk] at KT;all_goals
    (have zz:=aI T.r D0.r;(repeat'(first|apply jd<;>intro _|simp(disch:=first|exact Js|fail) only[ja i3,ja i7,ja i8,ja i9,ja i10,LT,KT,h32',T.q,D0.q,T.r,D0.r,r7,γ,δ,ε,ζ,η]));all_goals clear zz)
    refine hf _ _ ?_ ?_ ?_
    ·simp(disch:=decide) only[h12]
    ·simp(disch:=decide) only[h12,i3]
    ·(have zz:=aI T.q (aI D0.q (aI T.r D0.r));first|exact jbG|fail)
  ·have h32':¬ (32:Int)<(n:Int):=om
   rw[if_neg h32] at nl;have hq:=hQ _ nl;cases hk:w5 w with
   |true=>
    rw[hk] at KT hq;rw[if_pos rfl] at hq
    (have zz:=aI T.r D0.r;(repeat'(first|apply jd<;>intro _|simp(disch:=first|exact Js|fail) only[ja i3,ja i7,ja i8,ja i9,ja i10,LT,KT,h32',T.q,D0.q,T.r,D0.r,r7,γ,δ,ε,ζ,η]));all_goals clear zz)
    refine yF λu2 hu2=>?_;have T2:Cl u2 tb [.int .i64 4,.str w,.int .i64 0,.int .i64 (p.1:Int),.int .i64 (p.2:Int)]:=by rw[hu2];(have zz:=aI T.q T.r;first|exact jbG|fail)
    have q2:ApL tb s u2:=by rw[hu2];exact(q.wrO (φ _) _ _).wrO (φ _) _ _
    have hx2:u2.nx=tb+1:=by rw[hu2];simp only[je];exact hx
    clear hu2;refine GN (t:=⟨4,w,0,p.1,p.2⟩) hb (kq hL) T2 ((W.keep q2 (φ _)).up om) om hacc ?_ ?_ ?_ ?_ ?_ (hq.of (q2.dn h1) ?_)
    ·simp(disch:=decide) only[h12,i4]
    ·simp(disch:=decide) only[h12,i5]
    ·simp(disch:=decide) only[h12,i7]
    ·simp(disch:=decide) only[h12,i8]
    ·simp(disch:=decide) only[h12]
    ·intro x w hx h;simp(disch:=omega) only[jb];exact h
   |false=>
    rw[hk] at KT hq;rw[if_neg Bool.false_ne_true] at hq
    (have zz:=aI T.r D0.r;(repeat'(first|apply jd<;>intro _|simp(disch:=first|exact Js|fail) only[ja i3,ja i7,ja i8,ja i9,ja i10,LT,KT,h32',T.q,D0.q,T.r,D0.r,r7,γ,δ,ε,ζ,η]));all_goals clear zz)
    refine yF λu2 hu2=>?_;have T2:Cl u2 tb [.int .i64 1,.str w,.int .i64 0,.int .i64 (p.1:Int),.int .i64 (p.2:Int)]:=by rw[hu2];(have zz:=aI T.q T.r;first|exact jbG|fail)
    have q2:ApL tb s u2:=by rw[hu2];exact q.wrO (φ _) _ _
    have hx2:u2.nx=tb+1:=by rw[hu2];simp only[je];exact hx
    clear hu2;refine GN (t:=⟨1,w,0,p.1,p.2⟩) hb (kq hL) T2 ((W.keep q2 (φ _)).up om) om hacc ?_ ?_ ?_ ?_ ?_ (hq.of (q2.dn h1) ?_)
    ·simp(disch:=decide) only[h12,i4]
    ·simp(disch:=decide) only[h12,i5]
    ·simp(disch:=decide) only[h12,i7]
    ·simp(disch:=decide) only[h12,i8]
    ·simp(disch:=decide) only[h12]
    ·intro x w hx h;simp(disch:=omega) only[jb];exact h
 |false=>
  rw[hL] at LT;rw[(by unfold K5;simp only[qq];rfl:K5=_)];repeat'(first|apply jd<;>intro _|simp(disch:=first|exact dzC|fail) only[ja i7,LT,r7,γ,δ,ε,ζ,η])
  cases hD:jy ch with
  |true=>
   have nd:=nd hL hD;have ds:=ds hL hD;refine jjL (a:=a) (n:=n) (ds:=w) hb hD htl om ds T D0 W2 om om om hacc ?_ ?_ ?_ ?_ ?_ ?_ ?_ ?_ (λhc=>?_) (λhc=>?_)
   ·simp(disch:=decide) only[h12,i3]
   ·simp(disch:=decide) only[h12,i4]
   ·simp(disch:=decide) only[h12,i5]
   ·simp(disch:=decide) only[h12,i7]
   ·simp(disch:=decide) only[h12,i8]
   ·simp(disch:=decide) only[h12,i9]
   ·simp(disch:=decide) only[h12,i10]
   ·simp(disch:=decide) only[h12]
   ·rw[if_neg hc] at nd;refine(hQ _ nd).of (q.dn h1) λx w hx h=>?_;simp(disch:=omega) only[jb];exact h
   ·rw[if_pos hc] at nd;exact hF _ nd rfl rfl
  |false=>
   have ns:=ns hL hD hn0;refine GN (t:=⟨3,w,0,p.1,p.2⟩) hb hD T (W2.up om) om hacc ?_ ?_ ?_ ?_ ?_ ((hQ _ ns).of (q.dn h1) ?_)
   ·simp(disch:=decide) only[h12,i4]
   ·simp(disch:=decide) only[h12,i5]
   ·simp(disch:=decide) only[h12,i7]
   ·simp(disch:=decide) only[h12,i8]
   ·simp(disch:=decide) only[h12]
   ·intro x w hx h;simp(disch:=omega) only[jb];exact h
def lev (q:Nat):Lev:=jU.getD (q - 1) ([],0)
def WB (t:Tk):List Lev->Nat->Nat
 |[],_=>0
 |v :: l,q=>if isM t v.1=true then q else WB t l (q+1)
def jY (t:Tk):Nat:=WB t jU 1
theorem H0 {t:Tk}:∀ {l:List Lev} {q:Nat},WB t l q≠0->∃ k,k<l.length/\WB t l q=q+k/\isM t (l.getD k ([],0)).1=true
 |[],q,h=>absurd rfl h
 |v :: l,q,h=>by
  unfold WB at h ⊢;by_cases c:isM t v.1=true
  ·rw[if_pos c];exact⟨0,by simp,rfl,c⟩
  ·rw[if_neg c] at h ⊢;obtain⟨k,h1,h2,h3⟩:=H0 h;exact⟨k+1,by simpa using h1,by rw[h2];omega,h3⟩
theorem vO {t:Tk}(h:jY t≠0):jY t<=8/\1<=jY t/\isM t (lev (jY t)).1=true:=by
 obtain⟨k,h1,h2,h3⟩:=H0 h;have h8:jU.length=8:=rfl;have e:jY t=1+k:=h2;rw[e];refine⟨om,om,?_⟩;unfold lev;rw[show 1+k - 1=k by omega];exact h3
theorem jhA:∀ p,p<9->∀ q,q<9->1<=p->1<=q->∀ s,s∈(lev p).1->s∈(lev q).1->p=q:=by
 have h:((Qae 9).all λp=>(Qae 9).all λq=>(decide (p=0) ||decide (q=0) ||decide (p=q)) ||(lev p).1.all λs=>!decide (s∈(lev q).1))=true:=by decide +kernel
 intro p hp q hq h1 h2 s hs hs';have a:=Qah.1 (Qah.1 h p (Qbk.2 hp)) q (Qbk.2 hq);rw[QaE,QaE,QaE] at a;rcases a with ((a|a)|a)|a
 ·have:=of_decide_eq_true a;omega
 ·have:=of_decide_eq_true a;omega
 ·exact of_decide_eq_true a
 ·have:=Qah.1 a s hs;rw[decide_eq_true hs'] at this;cases this
theorem jc7 {t:Tk}{q:Nat}(h1:1<=q)(h8:q<=8)(h:isM t (lev q).1=true):jY t=q:=by
 have hn:jY t≠0:=by
  intro e;have key:∀ (l:List Lev) (p:Nat),1<=p->WB t l p=0->∀ v∈l,isM t v.1=false:=by
   intro l;induction l with
   |nil=>intro p _ _ v hv;cases hv
   |cons w l ih=>
    intro p hp e v hv;unfold WB at e;by_cases c:isM t w.1=true
    ·rw[if_pos c] at e;omega
    ·rw[if_neg c] at e;rcases QaF.1 hv with rfl|hv
     ·exact QaB.2 c
     ·exact ih (p+1) om e v hv
  have hm:lev q∈jU:=by
   unfold lev;rw[Qap,Qaj (by show q - 1<8;omega)];exact Qam _
  have:=key jU 1 (φ _) e _ hm;rw[h] at this;cases this
 obtain⟨a,b,c⟩:=vO hn;exact jhA _ om _ om b h1 t.text (q9 c).2 (q9 h).2
theorem wZ {k:Nat}(h1:1<=k)(h8:k<=8):jU.drop (k - 1)=lev k :: jU.drop k:=by
 have hl:k - 1<jU.length:=by show k - 1<8;omega
 rw[QbV hl,show k - 1+1=k by omega];unfold lev;rw[Qap,Qaj hl];rfl
theorem wR (k:Nat):okT (jU.drop k):=λv hv=>Yx v (List.mem_of_mem_drop hv)
def way (q:Nat):Nat:=if q=2\/q=5 then 1 else if q=6 then 2 else 0
theorem jhy {q:Nat}(h1:1<=q)(h8:q<=8):(lev q).2=way q:=by
 match q,h1,h8 with
 |1,_,_|2,_,_|3,_,_|4,_,_|5,_,_|6,_,_|7,_,_|8,_,_=>rfl
mutual
def ze (ts:List Tk):Nat->Nat->Nat->Nat->Option PR
 |0,_,_,_=>none
 |n+1,k,i,d=>match yW ts n i d with
  |some (.ok x j)=>yj ts n 8 k x j d
  |r=>r
def yj (ts:List Tk):Nat->Nat->Nat->Ex->Nat->Nat->Option PR
 |0,_,_,_,_,_=>none
 |n+1,c,k,x,i,d=>
  if jY (tk ts i)=0\/jY (tk ts i)<k\/c<jY (tk ts i) then some (.ok x i)
  else(match ze ts n (if jY (tk ts i)=2\/jY (tk ts i)=5 then jY (tk ts i) else jY (tk ts i)+1) (i+1) d with
   |some (.ok y j)=>yj ts n (if jY (tk ts i)=6 then 5 else jY (tk ts i)) k (yp (tk ts i) x y) j d
   |r=>r)
def yW (ts:List Tk):Nat->Nat->Nat->Option PR
 |0,_,_=>none
 |n+1,i,d=>
  if isM (tk ts i) qT=true then
   (if 60<d+1 then some (.er (tk ts (i+1))) else(match yW ts n (i+1) (d+1) with
    |some (.ok x j)=>some (.ok (.mk (Yw (tk ts i).text:Nat) 0 [] [x] (tk ts i).line (tk ts i).col) j)
    |r=>r))
  else if isM (tk ts i) [[40]]=true then
   (if 60<d+1 then some (.er (tk ts (i+1))) else(match ze ts n 1 (i+1) (d+1) with
    |some (.ok x j)=>if isM (tk ts j) [[41]]=true then some (.ok x (j+1)) else some (.er (tk ts j))
    |r=>r))
  else if(tk ts i).kind=2 then some (.ok (.mk 1 (tk ts i).num [] [] (tk ts i).line (tk ts i).col) (i+1))
  else if(tk ts i).kind=1 then some (.ok (.mk 3 0 (tk ts i).text [] (tk ts i).line (tk ts i).col) (i+1))
  else if isM (tk ts i) [[116,114,117,101]]=true then some (.ok (.mk 2 1 [] [] (tk ts i).line (tk ts i).col) (i+1))
  else if isM (tk ts i) [[102,97,108,115,101]]=true then some (.ok (.mk 2 0 [] [] (tk ts i).line (tk ts i).col) (i+1))
  else some (.er (tk ts i))
end
def Evt (f:Nat->Option PR)(r:PR):Prop:=∃ N,∀ n,N<=n->f n=some r
theorem Evt.uniq {f:Nat->Option PR}{r r':PR}(h:Evt f r)(h':Evt f r'):r=r':=by
 obtain⟨N,h⟩:=h;obtain⟨M,h'⟩:=h';have a:=h (max N M) om;rw[h' (max N M) om] at a;injection a with a
 exact a.symm
theorem Anw.evt {f:Nat->Option PR}{Q:PR->Prop}(h:Anw f Q):∃ r,Q r/\Evt f r:=by
 obtain⟨N,r,h1,h2⟩:=h;exact⟨r,h1,N,h2⟩
theorem X7 {g:Nat->Option PR}{r:PR}(k:∀ n,g (n+1)=some r):Evt g r:=⟨1,λn hn=>by
 obtain⟨m,rfl⟩:∃ m,n=m+1:=⟨n - 1,om⟩;exact k m⟩
theorem Evt.s {f g:Nat->Option PR}{r:PR}(h:Evt f r)(k:∀ n,g (n+1)=f n):Evt g r:=by
 obtain⟨N,h⟩:=h;refine⟨N+1,λn hn=>?_⟩;obtain⟨m,rfl⟩:∃ m,n=m+1:=⟨n - 1,om⟩;rw[k,h m om]
theorem Evt.er {f g:Nat->Option PR}{F:Ex->Nat->Nat->Option PR}{t:Tk}(h:Evt f (.er t))(k:∀ n,g (n+1)=(match f n with|some (.ok x j)=>F x j n|r=>r)):Evt g (.er t):=by
 obtain⟨N,h⟩:=h;refine⟨N+1,λn hn=>?_⟩;obtain⟨m,rfl⟩:∃ m,n=m+1:=⟨n - 1,om⟩;rw[k,h m om]
theorem Evt.ok {f g:Nat->Option PR}{F:Ex->Nat->Nat->Option PR}{x:Ex}{j:Nat}{r:PR}(h:Evt f (.ok x j))(k:∀ n,g (n+1)=(match f n with|some (.ok x j)=>F x j n|r=>r))(h2:Evt (F x j) r):Evt g r:=by
 obtain⟨N,h⟩:=h;obtain⟨M,h2⟩:=h2;refine⟨max N M+1,λn hn=>?_⟩;obtain⟨m,rfl⟩:∃ m,n=m+1:=⟨n - 1,om⟩;rw[k,h m om];exact h2 m om
def Sq (ts:List Tk)(k d:Nat):Nat->Ex->Nat->PR->Prop
 |0,x,i,r=>r=.ok x i
 |c+1,x,i,r=>if c+1<k then r=.ok x i else ∃ r1,Evt (λn=>yv ts n (lev (c+1)) (jU.drop (c+1)) x i d) r1/\(match r1 with | .ok y j=>Sq ts k d c y j r | .er t=>r=.er t)
theorem kz {ts:List Tk}:∀ (n:Nat),(∀ v l i d y j,v.2=1->qy ts n (v :: l) i d=some (.ok y j)->isM (tk ts j) v.1=false)/\(∀ v l x i d y j,v.2=1->yv ts n v l x i d=some (.ok y j)->isM (tk ts j) v.1=false)
 |0=>⟨λv l i d y j _ h=>by simp[qy] at h,λv l x i d y j _ h=>by simp[yv] at h⟩
 |n+1=>by
  obtain⟨ih1,ih2⟩:=kz (ts:=ts) n;refine⟨λv l i d y j hv h=>?_,λv l x i d y j hv h=>?_⟩
  ·unfold qy at h;cases he:qy ts n l i d with
   |none=>rw[he] at h;cases h
   |some q=>cases q with
    |er t=>rw[he] at h;cases h
    |ok x j0=>rw[he] at h;exact ih2 v l x j0 d y j hv h
  ·unfold yv at h;by_cases c:isM (tk ts i) v.1=true
   ·rw[if_pos c,if_pos hv] at h;cases he:qy ts n (v :: l) (i+1) d with
    |none=>rw[he] at h;cases h
    |some q=>cases q with
     |er t=>rw[he] at h;cases h
     |ok z j0=>
      rw[he] at h;cases h;exact ih1 v l (i+1) d z j hv he
   ·rw[if_neg c] at h;cases h;exact QaB.2 c
structure ClM (ts:List Tk)(m:Nat):Prop where
 p:∀ i d r,i<ts.length->ts.length<=i+m->d<=60->Evt (λn=>yL ts n i d) r->Evt (λn=>yW ts n i d) r
 e:∀ i d k r,i<ts.length->ts.length<=i+m->d<=60->1<=k->k<=9->Evt (λn=>qy ts n (jU.drop (k - 1)) i d) r->Evt (λn=>ze ts n k i d) r
 o:∀ c i d k x r,i<ts.length->ts.length<=i+m->d<=60->c<=8->1<=k->x.ev (atW ts)->Sq ts k d c x i r->Evt (λn=>yj ts n c k x i d) r
theorem HJ {ts:List Tk}{k d:Nat}:∀ {c:Nat} {x:Ex} {i:Nat} {r:PR},c<k->(Sq ts k d c x i r↔r=.ok x i)
 |0,x,i,r,_=>Iff.rfl
 |c+1,x,i,r,h=>by unfold Sq;rw[if_pos h]
theorem gB {ts:List Tk}{k d:Nat}(hk:1<=k):∀ {c:Nat} {x:Ex} {j:Nat} {r0:PR},k<=c->Sq ts (k+1) d c x j r0->
  (∀ t,r0=.er t->Sq ts k d c x j (.er t))/\(∀ y z r,r0=.ok y z->Evt (λn=>yv ts n (lev k) (jU.drop k) y z d) r->Sq ts k d c x j r)
 |0,x,j,r0,h,_=>by omega
 |c+1,x,j,r0,h,hs=>by
  unfold Sq at hs;by_cases hc:c+1=k
  ·rw[if_pos om] at hs;refine⟨λt e=>(by rw[hs] at e;cases e),λy z r e hl=>?_⟩;rw[hs] at e;cases e;unfold Sq;rw[if_neg om,hc];refine⟨r,hl,?_⟩;cases r with
   |er t=>rfl
   |ok y' j'=>exact(HJ om).2 rfl
  ·rw[if_neg om] at hs;obtain⟨r1,h1,h2⟩:=hs;cases r1 with
   |er t1=>
    dsimp only at h2;refine⟨λt e=>?_,λy z r e _=>(by rw[h2] at e;cases e)⟩;rw[h2] at e;cases e;unfold Sq;rw[if_neg om];exact⟨_,h1,rfl⟩
   |ok y1 j1=>
    dsimp only at h2;obtain⟨a,b⟩:=gB hk om h2;refine⟨λt e=>?_,λy z r e hl=>?_⟩
    ·unfold Sq;rw[if_neg om];exact⟨_,h1,a t e⟩
    ·unfold Sq;rw[if_neg om];exact⟨_,h1,b y z r e hl⟩
theorem jhz {ts:List Tk}(W:Wds ts){i d:Nat}(hi:i<ts.length)(hd:d<=60):∀ (g k:Nat) (r:PR),k+g=9->1<=k->Evt (λn=>qy ts n (jU.drop (k - 1)) i d) r->
  (∃ t,Evt (λn=>yL ts n i d) (.er t)/\r=.er t)\/∃ x j,Evt (λn=>yL ts n i d) (.ok x j)/\i+1<=j/\j<ts.length/\x.ev (atW ts)/\Sq ts k d 8 x j r:=by
 have A:=jbS W (ts.length);intro g;induction g with
 |zero=>
  intro k r hk h1 h;have hk9:k=9:=om
  subst hk9;have e0:jU.drop (9 - 1)=[]:=rfl;rw[e0] at h;obtain⟨r0,q0,h0⟩:=(A.p i d hi om hd).evt;have h':Evt (λn=>qy ts n [] i d) r0:=h0.s λn=>by simp only[qy]
  have e:=h.uniq h';subst e;cases r with
  |er t=>exact .inl ⟨t,h0,rfl⟩
  |ok x j=>exact .inr ⟨x,j,h0,q0.1,q0.2.1,q0.2.2,(HJ dc).2 rfl⟩
 |succ g ih=>
  intro k r hk h1 h;rw[wZ h1 om] at h;obtain⟨r0,q0,h0⟩:=(A.e i d (jU.drop k) hi om hd (wR k)).evt;have ih:=ih (k+1) r0 om om (by rw[show k+1 - 1=k by omega];exact h0);cases r0 with
  |er t=>
   have h':Evt (λn=>qy ts n (lev k :: jU.drop k) i d) (.er t):=h0.er (F:=λx j n=>yv ts n (lev k) (jU.drop k) x j d) λn=>by simp only[qy]<;>rfl
   have e:=h.uniq h';subst e;rcases ih with ⟨t',a,b⟩|⟨x,j,a,b,c,e,f⟩
   ·cases b;exact .inl ⟨_,a,rfl⟩
   ·exact .inr ⟨x,j,a,b,c,e,(gB h1 om f).1 t rfl⟩
  |ok y z=>
   have hv:okT (lev k :: jU.drop k):=by rw[<-wZ h1 om];exact wR _
   obtain⟨r',q',h'⟩:=(A.o z d (lev k) (jU.drop k) y q0.2.1 om hd hv q0.2.2).evt;have h2:Evt (λn=>qy ts n (lev k :: jU.drop k) i d) r':=h0.ok (F:=λx j n=>yv ts n (lev k) (jU.drop k) x j d) (λn=>by simp only[qy]<;>rfl) h';have e:=h.uniq h2;subst e;rcases ih with ⟨t',a,b⟩|⟨x,j,a,b,c,e,f⟩
   ·cases b
   ·exact .inr ⟨x,j,a,b,c,e,(gB h1 om f).2 y z _ rfl h'⟩
theorem jgU {ts:List Tk}(W:Wds ts):∀ m,ClM ts m
 |0=>⟨λi d r h1 h2=>by omega,λi d k r h1 h2=>by omega,λc i d k x r h1 h2=>by omega⟩
 |m+1=>by
  have ih:=jgU W m;have A:=jbS W (ts.length);have hp:∀ i d r,i<ts.length->ts.length<=i+(m+1)->d<=60->Evt (λn=>yL ts n i d) r->Evt (λn=>yW ts n i d) r:=by
   intro i d r hi hm hd h;by_cases hp:isM (tk ts i) qT=true
   ·have hi1:=W.isM hi hp;by_cases h60:60<d+1
    ·have h':Evt (λn=>yL ts n i d) (.er (tk ts (i+1))):=X7 λn=>by simp only[yL];rw[if_pos hp,if_pos h60]
     rw[h.uniq h'];exact X7 λn=>by simp only[yW];rw[if_pos hp,if_pos h60]
    ·obtain⟨r0,q0,h0⟩:=(A.p (i+1) (d+1) hi1 om om).evt;have c0:=ih.p (i+1) (d+1) r0 hi1 om om h0
     let F:Ex->Nat->Nat->Option PR:=λx j n=>some (.ok (.mk (Yw (tk ts i).text:Nat) 0 [] [x] (tk ts i).line (tk ts i).col) j)
     have f1:∀ n,(λn=>yL ts n i d) (n+1)=(match (λn=>yL ts n (i+1) (d+1)) n with|some (.ok x j)=>F x j n|r=>r):=λn=>by simp only[yL];rw[if_pos hp,if_neg h60]<;>rfl
     have f2:∀ n,(λn=>yW ts n i d) (n+1)=(match (λn=>yW ts n (i+1) (d+1)) n with|some (.ok x j)=>F x j n|r=>r):=λn=>by simp only[yW];rw[if_pos hp,if_neg h60]<;>rfl
     cases r0 with
     |er t=>rw[h.uniq (h0.er f1)];exact c0.er f2
     |ok x j=>
      have fx:Evt (F x j) (.ok (.mk (Yw (tk ts i).text:Nat) 0 [] [x] (tk ts i).line (tk ts i).col) j):=⟨0,λn _=>rfl⟩;rw[h.uniq (h0.ok f1 fx)];exact c0.ok f2 fx
   ·have hv:Evt (λn=>zr ts n i d) r:=by
     obtain⟨N,h⟩:=h;refine⟨N,λn hn=>?_⟩;have:=h (n+1) om;simp only[yL] at this;rwa [if_neg hp] at this
    by_cases hq:isM (tk ts i) [[40]]=true
    ·have hi1:=W.isM hi hq;have k34:=(q9 hq).1;have ntxt:(tk ts i).text=[40]:=by simpa using (q9 hq).2
     have n1:¬ isM (tk ts i) [[116,114,117,101]]=true:=λh=>by have:=(q9 h).2;rw[ntxt] at this;simp at this
     have n2:¬ isM (tk ts i) [[102,97,108,115,101]]=true:=λh=>by have:=(q9 h).2;rw[ntxt] at this;simp at this
     by_cases h60:60<d+1
     ·have h':Evt (λn=>zr ts n i d) (.er (tk ts (i+1))):=X7 λn=>by simp only[zr];rw[if_neg om,if_neg om,if_neg n1,if_neg n2,if_pos hq,if_pos h60]
      rw[hv.uniq h'];exact X7 λn=>by simp only[yW];rw[if_neg hp,if_pos hq,if_pos h60]
     ·obtain⟨r0,q0,h0⟩:=(A.e (i+1) (d+1) jU hi1 om om Yx).evt;have c0:=ih.e (i+1) (d+1) 1 r0 hi1 om om dc dc h0
      let F:Ex->Nat->Nat->Option PR:=λx j n=>if isM (tk ts j) [[41]]=true then some (.ok x (j+1)) else some (.er (tk ts j))
      have f1:∀ n,(λn=>zr ts n i d) (n+1)=(match (λn=>qy ts n jU (i+1) (d+1)) n with|some (.ok x j)=>F x j n|r=>r):=λn=>by simp only[zr];rw[if_neg om,if_neg om,if_neg n1,if_neg n2,if_pos hq,if_neg h60]<;>rfl
      have f2:∀ n,(λn=>yW ts n i d) (n+1)=(match (λn=>ze ts n 1 (i+1) (d+1)) n with|some (.ok x j)=>F x j n|r=>r):=λn=>by simp only[yW];rw[if_neg hp,if_pos hq,if_neg h60]<;>rfl
      cases r0 with
      |er t=>rw[hv.uniq (h0.er f1)];exact c0.er f2
      |ok x j=>
       by_cases hr:isM (tk ts j) [[41]]=true
       ·have fx:Evt (F x j) (.ok x (j+1)):=⟨0,λn _=>if_pos hr⟩;rw[hv.uniq (h0.ok f1 fx)];exact c0.ok f2 fx
       ·have fx:Evt (F x j) (.er (tk ts j)):=⟨0,λn _=>if_neg hr⟩;rw[hv.uniq (h0.ok f1 fx)];exact c0.ok f2 fx
    ·have key:∀ r0,(∀ n,zr ts (n+1) i d=some r0)->(∀ n,yW ts (n+1) i d=some r0)->Evt (λn=>yW ts n i d) r:=λr0 h1 h2=>by
      rw[hv.uniq (X7 h1)];exact X7 h2
     by_cases k2:(tk ts i).kind=2
     ·exact key _ (λn=>by simp only[zr];rw[if_pos k2]) λn=>by simp only[yW];rw[if_neg hp,if_neg hq,if_pos k2]
     by_cases k1:(tk ts i).kind=1
     ·exact key _ (λn=>by simp only[zr];rw[if_neg k2,if_pos k1]) λn=>by simp only[yW];rw[if_neg hp,if_neg hq,if_neg k2,if_pos k1]
     by_cases b1:isM (tk ts i) [[116,114,117,101]]=true
     ·exact key _ (λn=>by simp only[zr];rw[if_neg k2,if_neg k1,if_pos b1]) λn=>by simp only[yW];rw[if_neg hp,if_neg hq,if_neg k2,if_neg k1,if_pos b1]
     by_cases b2:isM (tk ts i) [[102,97,108,115,101]]=true
     ·exact key _ (λn=>by simp only[zr];rw[if_neg k2,if_neg k1,if_neg b1,if_pos b2]) λn=>by simp only[yW];rw[if_neg hp,if_neg hq,if_neg k2,if_neg k1,if_neg b1,if_pos b2]
     ·exact key _ (λn=>by simp only[zr];rw[if_neg k2,if_neg k1,if_neg b1,if_neg b2,if_neg hq]) λn=>by simp only[yW];rw[if_neg hp,if_neg hq,if_neg k2,if_neg k1,if_neg b1,if_neg b2]
  have ho:∀ c i d k x r,i<ts.length->ts.length<=i+(m+1)->d<=60->c<=8->1<=k->x.ev (atW ts)->Sq ts k d c x i r->Evt (λn=>yj ts n c k x i d) r:=by
   intro c;induction c with
   |zero=>
    intro i d k x r hi hm hd hc hk hx hs;have hs:r=.ok x i:=hs;rw[hs];exact X7 λn=>by simp only[yj];rw[if_pos om]
   |succ c ihc=>
    intro i d k x r hi hm hd hc hk hx hs;unfold Sq at hs;by_cases hlt:c+1<k
    ·rw[if_pos hlt] at hs;rw[hs];exact X7 λn=>by simp only[yj];rw[if_pos om]
    ·rw[if_neg hlt] at hs;obtain⟨r1,h1,h2⟩:=hs;have hway:=jhy (q:=c+1) om om;have hvT:okT (lev (c+1) :: jU.drop (c+1)):=by
      have:=wZ (k:=c+1) om om;rw[<-this];exact wR _
     by_cases hs:isM (tk ts i) (lev (c+1)).1=true
     ·have hq:=jc7 (t:=tk ts i) (q:=c+1) om om hs;have hi1:=W.isM hi hs;have ht:(Jg (tk ts i).text).isSome=true:=hvT _ (QbY ..) _ (q9 hs).2;have hg:¬ (jY (tk ts i)=0\/jY (tk ts i)<k\/c+1<jY (tk ts i)):=by rw[hq];omega
      let G:Ex->Nat->Nat->Option PR:=λy j n=>yj ts n (if jY (tk ts i)=6 then 5 else jY (tk ts i)) k (yp (tk ts i) x y) j d
      by_cases hw:way (c+1)=1
      ·have hw2:(lev (c+1)).2=1:=hway.trans hw;have h25:c+1=2\/c+1=5:=by unfold way at hw;split at hw<;>first|assumption|(split at hw<;>omega)
       obtain⟨r0,q0,h0⟩:=(A.e (i+1) d (lev (c+1) :: jU.drop (c+1)) hi1 om hd hvT).evt;have h0d:Evt (λn=>qy ts n (jU.drop (c+1 - 1)) (i+1) d) r0:=by rw[wZ om om];exact h0
       have c0:=ih.e (i+1) d (c+1) r0 hi1 om hd om om h0d
       let F:Ex->Nat->Nat->Option PR:=λy j n=>some (.ok (yp (tk ts i) x y) j)
       have f1:∀ n,(λn=>yv ts n (lev (c+1)) (jU.drop (c+1)) x i d) (n+1)=(match (λn=>qy ts n (lev (c+1) :: jU.drop (c+1)) (i+1) d) n with|some (.ok y j)=>F y j n|r=>r):=λn=>by simp only[yv];rw[if_pos hs,if_pos hw2]<;>rfl
       have f2:∀ n,(λn=>yj ts n (c+1) k x i d) (n+1)=(match (λn=>ze ts n (c+1) (i+1) d) n with|some (.ok y j)=>G y j n|r=>r):=λn=>by
        show yj ts (n+1) (c+1) k x i d=_;rw[yj,if_neg hg,hq,if_pos h25];show _=(match ze ts n (c+1) (i+1) d with|some (.ok y j)=>yj ts n (if jY (tk ts i)=6 then 5 else jY (tk ts i)) k (yp (tk ts i) x y) j d|r=>r);rw[hq]
       cases r0 with
       |er t=>
        have e:=h1.uniq (h0.er f1);subst e;rw[show r=.er t from h2];exact c0.er f2
       |ok y j=>
        have fx:Evt (F y j) (.ok (yp (tk ts i) x y) j):=⟨0,λn _=>rfl⟩;have e:=h1.uniq (h0.ok f1 fx);subst e;have h2:Sq ts k d c (yp (tk ts i) x y) j r:=h2;refine c0.ok f2 ?_;have g6:(if jY (tk ts i)=6 then 5 else jY (tk ts i))=c+1:=by rw[hq,if_neg om]
        show Evt (λn=>yj ts n (if jY (tk ts i)=6 then 5 else jY (tk ts i)) k (yp (tk ts i) x y) j d) r;rw[g6];have hxy:=WW hi (w6 hs) hx q0.2.2 ht;refine ih.o (c+1) j d k _ r q0.2.1 (by have:=q0.1;omega) hd om hk hxy ?_;have hstop:isM (tk ts j) (lev (c+1)).1=false:=by
         obtain⟨N,h0⟩:=h0;exact(kz N).1 _ _ _ _ _ _ hw2 (h0 N (φ _))
        unfold Sq;rw[if_neg hlt];exact⟨.ok (yp (tk ts i) x y) j,X7 λn=>by simp only[yv];rw[if_neg (by rw[hstop];decide)],h2⟩
      ·have hw2:¬ (lev (c+1)).2=1:=λh=>hw (hway.symm.trans h);have h25:¬ (c+1=2\/c+1=5):=λh=>hw (by unfold way;rw[if_pos h]);obtain⟨r0,q0,h0⟩:=(A.e (i+1) d (jU.drop (c+1)) hi1 om hd (wR _)).evt;have c0:=ih.e (i+1) d (c+2) r0 hi1 om hd om om (by rw[show c+2 - 1=c+1 by omega];exact h0)
       let F:Ex->Nat->Nat->Option PR:=λy j n=>if(lev (c+1)).2=2 then some (.ok (yp (tk ts i) x y) j) else yv ts n (lev (c+1)) (jU.drop (c+1)) (yp (tk ts i) x y) j d
       have f1:∀ n,(λn=>yv ts n (lev (c+1)) (jU.drop (c+1)) x i d) (n+1)=(match (λn=>qy ts n (jU.drop (c+1)) (i+1) d) n with|some (.ok y j)=>F y j n|r=>r):=λn=>by simp only[yv];rw[if_pos hs,if_neg hw2]<;>rfl
       have f2:∀ n,(λn=>yj ts n (c+1) k x i d) (n+1)=(match (λn=>ze ts n (c+2) (i+1) d) n with|some (.ok y j)=>G y j n|r=>r):=λn=>by
        show yj ts (n+1) (c+1) k x i d=_;rw[yj,if_neg hg,hq,if_neg h25];show _=(match ze ts n (c+2) (i+1) d with|some (.ok y j)=>yj ts n (if jY (tk ts i)=6 then 5 else jY (tk ts i)) k (yp (tk ts i) x y) j d|r=>r);rw[hq]
       cases r0 with
       |er t=>
        have e:=h1.uniq (h0.er f1);subst e;rw[show r=.er t from h2];exact c0.er f2
       |ok y j=>
        have hxy:=WW hi (w6 hs) hx q0.2.2 ht;refine c0.ok f2 ?_;show Evt (λn=>yj ts n (if jY (tk ts i)=6 then 5 else jY (tk ts i)) k (yp (tk ts i) x y) j d) r;rw[hq];by_cases hw6:c+1=6
        ·rw[if_pos hw6];have hl2:(lev (c+1)).2=2:=by rw[hway,hw6];rfl
         have fx:Evt (F y j) (.ok (yp (tk ts i) x y) j):=⟨0,λn _=>if_pos hl2⟩;have e:=h1.uniq (h0.ok f1 fx);subst e;have h2:Sq ts k d c (yp (tk ts i) x y) j r:=h2;rw[show c=5 by omega] at h2;exact ih.o 5 j d k _ r q0.2.1 (by have:=q0.1;omega) hd om hk hxy h2
        ·rw[if_neg hw6];have hl2:¬ (lev (c+1)).2=2:=by
          rw[hway];unfold way;rw[if_neg h25,if_neg hw6];decide
         obtain⟨r',q',h'⟩:=(A.o j d (lev (c+1)) (jU.drop (c+1)) (yp (tk ts i) x y) q0.2.1 (by have:=q0.1;omega) hd hvT hxy).evt;have fx:Evt (F y j) r':=by
          obtain⟨N,h'⟩:=h';exact⟨N,λn hn=>(if_neg hl2).trans (h' n hn)⟩
         have e:=h1.uniq (h0.ok f1 fx);subst e;refine ih.o (c+1) j d k _ r q0.2.1 (by have:=q0.1;omega) hd om hk hxy ?_;unfold Sq;rw[if_neg hlt];exact⟨_,h',h2⟩
     ·have e:=h1.uniq (X7 (r:=.ok x i) λn=>by simp only[yv];rw[if_neg hs]);subst e;have h2:Sq ts k d c x i r:=h2;have hq:jY (tk ts i)≠c+1:=λhq=>hs (by have:=(vO (t:=tk ts i) om).2.2;rw[hq] at this;exact this);obtain⟨N,h⟩:=ihc i d k x r hi hm hd om hk hx h2;refine⟨N+1,λn hn=>?_⟩;obtain⟨n,rfl⟩:∃ m,n=m+1:=⟨n - 1,om⟩;have hh:=h (n+1) om;have hcond:(jY (tk ts i)=0\/jY (tk ts i)<k\/c<jY (tk ts i))↔(jY (tk ts i)=0\/jY (tk ts i)<k\/c+1<jY (tk ts i)):=om
      dsimp only at hh ⊢;rw[yj] at hh ⊢;by_cases hcc:jY (tk ts i)=0\/jY (tk ts i)<k\/c<jY (tk ts i)
      ·rw[if_pos hcc] at hh;rw[if_pos (hcond.1 hcc)];exact hh
      ·rw[if_neg hcc] at hh;rw[if_neg (λh=>hcc (hcond.2 h))];exact hh
  refine⟨hp,λi d k r hi hm hd h1 h9 h=>?_,ho⟩;rcases jhz W hi hd (9 - k) k r om h1 h with ⟨t,a,rfl⟩|⟨x,j,a,b,c,e,f⟩
  ·exact(hp i d _ hi hm hd a).er (F:=λx j n=>yj ts n 8 k x j d) λn=>by simp only[ze]<;>rfl
  ·exact(hp i d _ hi hm hd a).ok (F:=λx j n=>yj ts n 8 k x j d) (λn=>by simp only[ze]<;>rfl) (ho 8 j d k x r c om hd (φ _) h1 e f)
def yN (t:Tk):Prop:=t.kind=1\/t.kind=3\/t.kind=4\/t.kind=5\/(t.kind=2/\∃ x r,t.text=x :: r/\jy x=true)
theorem jiD {t:Tk}(h:Wd t):yN t:=by
 obtain⟨r,p,n,h,hn⟩:=h;cases r with
 |nil=>simp only[qu,Prod.mk.injEq] at h;exact absurd h.2.2.symm hn
 |cons x r=>
  cases hL:qg x with
  |true=>
   rw[ZT hL] at h;split at h
   ·simp at h
   ·simp only[Prod.mk.injEq] at h;rw[<-h.2.1];unfold yN;dsimp only;split
    ·exact .inr (.inr (.inl rfl))
    ·exact .inl rfl
  |false=>
   cases hD:jy x with
   |true=>
    have hw:1<=q6 (x :: r):=by
     rw[Qf,if_neg (by rw[hL];decide),if_pos hD];exact Zi hD
    rw[wS hL hD] at h;split at h
    ·simp at h
    ·simp only[Prod.mk.injEq] at h;rw[<-h.2.1];obtain⟨m,hm⟩:∃ m,q6 (x :: r)=m+1:=⟨q6 (x :: r) - 1,om⟩;refine .inr (.inr (.inr (.inr ⟨rfl,x,r.take m,?_,hD⟩)));dsimp only;rw[hm];rfl
   |false=>
    by_cases hz:q6 (x :: r)=0
    ·rw[vM hz] at h;simp at h
    ·rw[vN hL hD hz] at h;simp only[Prod.mk.injEq] at h;rw[<-h.2.1];exact .inr (.inl rfl)
theorem jhJ {l:List Nat}(h:(qc l).2.1=0):∀ i,i<(qc l).1.length->yN (tk (qc l).1 i):=by
 obtain⟨h1,h2,h3⟩:=ZF h;have e:qc l=qG l (1,1):=by unfold qc;rw[if_neg om]
 have hc:qG l (1,1)=((qc l).1,(0,0,0)):=by rw[<-e,<-h2]
 obtain⟨ws,hw,hall⟩:=VO l.length l (1,1) _ (φ _) hc;intro i hi;have hm:=WY hi;generalize tk (qc l).1 i=t at *;rw[hw] at hm;rcases QaU.1 hm with hm|hm
 ·exact jiD (hall t hm)
 ·rw[Qbo.1 hm];exact .inr (.inr (.inr (.inl rfl)))
def jX (t:Tk)(s:List Nat):Bool:=decide (t.text=s) && decide (t.kind≠1) && decide (t.kind≠5)
theorem qV {t:Tk}(h:yN t){x:Nat}{r:List Nat}(hx:jy x=false):jX t (x :: r)=isM t [x :: r]:=by
 unfold jX isM;have e:decide (t.text∈[x :: r])=decide (t.text=x :: r):=by rw[decide_eq_decide];simp
 rw[e];by_cases ht:t.text=x :: r
 ·rw[decide_eq_true ht];rcases h with h|h|h|h|⟨h,y,q,e2,hd⟩
  ·simp[h]
  ·simp[h]
  ·simp[h]
  ·simp[h]
  ·rw[ht] at e2;injection e2 with e2 _
   subst e2;rw[hx] at hd;cases hd
 ·rw[decide_eq_false ht];simp
def jaS (t:Tk):Prop:=t.kind=3->∃ x r,t.text=x :: r/\qg x=false
theorem jiE {t:Tk}(h:Wd t):jaS t:=by
 obtain⟨r,p,n,h,hn⟩:=h;intro hk;cases r with
 |nil=>simp only[qu,Prod.mk.injEq] at h;exact absurd h.2.2.symm hn
 |cons x r=>
  cases hL:qg x with
  |true=>
   rw[ZT hL] at h;split at h
   ·simp at h
   ·simp only[Prod.mk.injEq] at h;rw[<-h.2.1] at hk;dsimp only at hk;split at hk<;>omega
  |false=>
   cases hD:jy x with
   |true=>
    rw[wS hL hD] at h;split at h
    ·simp at h
    ·simp only[Prod.mk.injEq] at h;rw[<-h.2.1] at hk;dsimp only at hk;omega
   |false=>
    by_cases hz:q6 (x :: r)=0
    ·rw[vM hz] at h;simp at h
    ·rw[vN hL hD hz] at h;simp only[Prod.mk.injEq] at h;rw[<-h.2.1];obtain⟨m,hm⟩:∃ m,q6 (x :: r)=m+1:=⟨q6 (x :: r) - 1,om⟩;refine⟨x,r.take m,?_,hL⟩;dsimp only;rw[hm];rfl
theorem jhK {l:List Nat}(h:(qc l).2.1=0):∀ i,i<(qc l).1.length->jaS (tk (qc l).1 i):=by
 obtain⟨h1,h2,h3⟩:=ZF h;have e:qc l=qG l (1,1):=by unfold qc;rw[if_neg om]
 have hc:qG l (1,1)=((qc l).1,(0,0,0)):=by rw[<-e,<-h2]
 obtain⟨ws,hw,hall⟩:=VO l.length l (1,1) _ (φ _) hc;intro i hi;have hm:=WY hi;generalize tk (qc l).1 i=t at *;rw[hw] at hm;rcases QaU.1 hm with hm|hm
 ·exact jiE (hall t hm)
 ·rw[Qbo.1 hm];intro h;have h:(5:Nat)=3:=h;omega
def rC (ts:List Tk)(i:Nat)(a l c d:Int):List AV:=[.lst ts.length (fl Tk.cells ts),.int .i64 (i:Int),.int .i64 a,.int .i64 l,.int .i64 c,.int .i64 d]
theorem jgM (a b c d e f:Int):(eqF θ 20 30).run (.agg [.int .i64 a,.int .i64 b,.int .i64 c]) (.agg [.int .i64 d,.int .i64 e,.int .i64 f])=some (decide (a=d/\b=e/\c=f)):=by
 have h:(eqF θ 20 30).run (.agg [.int .i64 a,.int .i64 b,.int .i64 c]) (.agg [.int .i64 d,.int .i64 e,.int .i64 f])=cond (eqI a d) (cond (eqI b e) (cond (eqI c f) (some true) (some false)) (some false)) (some false):=by kernel_rfl
 rw[h,Qz,Qz,Qz];by_cases h1:a=d<;>by_cases h2:b=e<;>by_cases h3:c=f<;>simp[h1,h2,h3]
theorem gEq (a b c d e f:Int)(st:St)(K:AV->St->Prop):jl (Zl θ .eql 30 false (.agg [.int .i64 a,.int .i64 b,.int .i64 c]) (.agg [.int .i64 d,.int .i64 e,.int .i64 f]) st) K=K (.bool (decide (a=d/\b=e/\c=f))) st:=by
 have h:Zl θ .eql 30 false (.agg [.int .i64 a,.int .i64 b,.int .i64 c]) (.agg [.int .i64 d,.int .i64 e,.int .i64 f]) st=jQ ((eqF θ 20 30).run (.agg [.int .i64 a,.int .i64 b,.int .i64 c]) (.agg [.int .i64 d,.int .i64 e,.int .i64 f])) λb=>.ok (.bool b) st:=by kernel_rfl
 rw[h,jgM];simp[jQ,jl]
theorem gNe (a b c d e f:Int)(st:St)(K:AV->St->Prop):jl (Zl θ .neq 30 false (.agg [.int .i64 a,.int .i64 b,.int .i64 c]) (.agg [.int .i64 d,.int .i64 e,.int .i64 f]) st) K=K (.bool (decide (¬ (a=d/\b=e/\c=f)))) st:=by
 have h:Zl θ .neq 30 false (.agg [.int .i64 a,.int .i64 b,.int .i64 c]) (.agg [.int .i64 d,.int .i64 e,.int .i64 f]) st=jQ ((eqF θ 20 30).run (.agg [.int .i64 a,.int .i64 b,.int .i64 c]) (.agg [.int .i64 d,.int .i64 e,.int .i64 f])) λb=>.ok (.bool (cond b false true)) st:=by kernel_rfl
 rw[h,jgM];by_cases hh:a=d/\b=e/\c=f<;>simp[hh,jQ,jl]
theorem jaZ {a0 a1 a2 a3 a4 a5:AV}:rats (nw st0 [a0,a1,a2,a3,a4,a5]).h 0 2 3=[a2,a3,a4]:=by
 have C:Cl (nw st0 [a0,a1,a2,a3,a4,a5]) 0 [a0,a1,a2,a3,a4,a5]:=Cl.new _ _;exact C.ratsP 3 2 (by simp)
theorem vF (hb:NB base){ts:List Tk}{i:Nat}(hi:i<ts.length)(a l c d:Int):Met θ base 40 (rC ts i a l c d) [] (.ok (.agg (tk ts i).cells)) (rC ts i a l c d):=by
 refine PM.met ?_ rfl λp st=>hb.no 40 dc _ _;refine jC x40 (by rfl) (hb.pur 40 3 dc) rfl ?_;simp only[y40,jn,ν,ξ,τ,υ];rw[(by unfold z40;simp only[qq];rfl:z40=_)];unfold rC;repeat'(first|apply jd<;>intro _|simp(disch:=first|exact dzD|fail) only[hi,r6,γ,δ,ε,ζ,η])
 rw[jaP hi];refine G1.done ?_ rfl rfl (FzD.agg (.pc (by rfl)));simp(disch:=first|assumption|decide|omega|(simp only[jf,je,jh,jg,ji,qW,χ,ψ];first|done|omega)) only[jv,jA,jz];exact Cl.new _ _
theorem HL (hb:NB base){ts:List Tk}{i:Nat}(a l c d:Int):Met θ base 39 (rC ts i a l c d) [] (.ok (.bool (decide (¬ (a=0/\l=0/\c=0))))) (rC ts i a l c d):=by
 refine PM.met ?_ rfl λp st=>hb.no 39 dc _ _;refine jC x39 (by rfl) (hb.pur 39 3 dc) rfl ?_;simp only[y39,jn,ν,ξ,τ,υ];rw[(by unfold z39;simp only[qq];rfl:z39=_)];unfold rC;repeat'(first|apply jd<;>intro _|simp(disch:=first|exact dzD|fail) only[jaZ,gNe,r6,γ,δ,ε,ζ,η])
 (refine G1.done ?_ (by rfl) (by rfl) ?_;(· (first|exact cyD|fail));(· first|exact vyD|skip))
theorem jgl (hb:NB base){ts:List Tk}(hl:1<=ts.length)(h2:ts.length<=1000000){i:Nat}(t:Tk)(a l c d:Int) :
  Met θ base 45 (rC ts i a l c d) [.agg t.cells] (.ok (.tup [])) (if a=0/\l=0/\c=0 then rC ts (ts.length - 1) 151 (t.line:Int) (t.col:Int) d else rC ts (ts.length - 1) a l c d):=by
 refine PM.met ?_ (by rfl) λp st=>hb.no 45 dc _ _;have e:(ts.length:Int) - 1=((ts.length - 1:Nat):Int):=om
 by_cases h:a=0/\l=0/\c=0
 ·rw[if_pos h];refine jC x45 (by rfl) (hb.pur 45 3 dc) rfl ?_;simp only[y45,jn,ν,ξ,τ,υ];rw[(by unfold z45;simp only[qq];rfl:z45=_)];unfold rC;repeat'(first|apply jd<;>intro _|simp(disch:=first|exact dzD|fail) only[jaZ,gEq,h,e,r6,γ,δ,ε,ζ,η])
  (refine G1.done ?_ (by rfl) (by rfl) ?_;(· (first|exact cyD|fail));(· first|exact vyD|skip))
 ·rw[if_neg h];refine jC x45 (by rfl) (hb.pur 45 3 dc) rfl ?_;simp only[y45,jn,ν,ξ,τ,υ];rw[(by unfold z45;simp only[qq];rfl:z45=_)];unfold rC;repeat'(first|apply jd<;>intro _|simp(disch:=first|exact dzD|fail) only[jaZ,gEq,h,e,r6,γ,δ,ε,ζ,η])
  (refine G1.done ?_ (by rfl) (by rfl) ?_;(· (first|exact cyD|fail));(· first|exact vyD|skip))
theorem Vc (hb:NB base){ts:List Tk}{i:Nat}(hi:i<ts.length)(a l c d:Int)(s:List Nat):Met θ base 88 (rC ts i a l c d) [.str s] (.ok (.bool (jX (tk ts i) s))) (rC ts i a l c d):=by
 refine PM.met ?_ (by rfl) λp st=>hb.no 88 dc _ _;have N:=λst p=>@vF base hb ts i hi a l c d st p;unfold rC at *;have e:jX (tk ts i) s=(decide ((tk ts i).text=s) && decide ((tk ts i).kind≠1) && decide ((tk ts i).kind≠5)):=rfl;by_cases h1:(tk ts i).text=s
 ·by_cases h2:(tk ts i).kind=1
  ·have h2':((tk ts i).kind:Int)=1:=om
   rw[e,decide_eq_false (p:=(tk ts i).kind≠1) (λh=>h h2),Bool.and_false,Qbg];refine jC x88 (by rfl) (hb.pur 88 3 dc) rfl ?_;simp only[y88,jn,ν,ξ,τ,υ];rw[(by unfold z88;simp only[qq];rfl:z88=_)];repeat'(first|apply jd<;>intro _|simp(disch:=first|exact dzD|fail) only[N,h1,h2',r6,γ,δ,ε,ζ,η])
   (refine G1.done ?_ (by rfl) (by rfl) ?_;(· (first|exact cyD|fail));(· first|exact vyD|skip))
  ·have h2':¬ ((tk ts i).kind:Int)=1:=om
   by_cases h3:(tk ts i).kind=5
   ·have h3':((tk ts i).kind:Int)=5:=om
    rw[e,decide_eq_false (p:=(tk ts i).kind≠5) (λh=>h h3),Bool.and_false];refine jC x88 (by rfl) (hb.pur 88 3 dc) rfl ?_;simp only[y88,jn,ν,ξ,τ,υ];rw[(by unfold z88;simp only[qq];rfl:z88=_)];repeat'(first|apply jd<;>intro _|simp(disch:=first|exact dzD|fail) only[N,h1,h2',h3',r6,γ,δ,ε,ζ,η])
    (refine G1.done ?_ (by rfl) (by rfl) ?_;(· (first|exact cyD|fail));(· first|exact vyD|skip))
   ·have h3':¬ ((tk ts i).kind:Int)=5:=om
    rw[e,decide_eq_true h1,decide_eq_true h2,decide_eq_true h3];refine jC x88 (by rfl) (hb.pur 88 3 dc) rfl ?_;simp only[y88,jn,ν,ξ,τ,υ];rw[(by unfold z88;simp only[qq];rfl:z88=_)];repeat'(first|apply jd<;>intro _|simp(disch:=first|exact dzD|fail) only[N,h1,h2',h3',r6,γ,δ,ε,ζ,η])
    (refine G1.done ?_ (by rfl) (by rfl) ?_;(· (first|exact cyD|fail));(· first|exact vyD|skip))
 ·rw[e,decide_eq_false h1,Qbg,Qbg];refine jC x88 (by rfl) (hb.pur 88 3 dc) rfl ?_;simp only[y88,jn,ν,ξ,τ,υ];rw[(by unfold z88;simp only[qq];rfl:z88=_)];repeat'(first|apply jd<;>intro _|simp(disch:=first|exact dzD|fail) only[N,h1,r6,γ,δ,ε,ζ,η])
  (refine G1.done ?_ (by rfl) (by rfl) ?_;(· (first|exact cyD|fail));(· first|exact vyD|skip))
def oC (ts:List Tk)(i d:Nat):List AV:=rC ts i 0 0 0 (d:Int)
def fC (ts:List Tk)(t:Tk)(d:Nat):List AV:=rC ts (ts.length - 1) 151 (t.line:Int) (t.col:Int) (d:Int)
theorem Wds.last {ts:List Tk}(W:Wds ts)(h:ts≠[]):1<=ts.length/\(tk ts (ts.length - 1)).kind=5:=by
 have h1:=QbI.2 h;refine⟨h1,Decidable.byContradiction λhk=>?_⟩;have:=W.next (ts.length - 1) om hk
 omega
theorem YO {t:Tk}(h:t.kind=5)(s:List Nat):jX t s=false:=by unfold jX;rw[decide_eq_false (p:=t.kind≠5) (λk=>k h),Bool.and_false]
theorem Xg (hb:NB base){ts:List Tk}(W:Wds ts)(hn:ts≠[])(i d:Nat)(t:Tk):Met θ base 45 (oC ts i d) [.agg t.cells] (.ok (.tup [])) (fC ts t d):=by
 have:=λ{st:St} {p:Nat}=>@jgl base hb ts (W.last hn).1 W.len i t 0 0 0 d st p;rw[if_pos ⟨rfl,rfl,rfl⟩] at this;exact @this
theorem Gx (hb:NB base){ts:List Tk}(W:Wds ts)(hn:ts≠[])(d:Nat)(t0 t:Tk):Met θ base 45 (fC ts t0 d) [.agg t.cells] (.ok (.tup [])) (fC ts t0 d):=by
 have:=λ{st:St} {p:Nat}=>@jgl base hb ts (W.last hn).1 W.len (ts.length - 1) t 151 t0.line t0.col d st p;rw[if_neg (λh=>by have:=h.1;omega)] at this;exact @this
theorem qP (hb:NB base)(ts:List Tk)(i d:Nat):Met θ base 39 (oC ts i d) [] (.ok (.bool false)) (oC ts i d):=by
 have:=λ{st:St} {p:Nat}=>@HL base hb ts i 0 0 0 d st p;rw[decide_eq_false (p:=¬ ((0:Int)=0/\(0:Int)=0/\(0:Int)=0)) (λh=>h ⟨rfl,rfl,rfl⟩)] at this;exact @this
theorem yB (hb:NB base)(ts:List Tk)(t:Tk)(d:Nat):Met θ base 39 (fC ts t d) [] (.ok (.bool true)) (fC ts t d):=by
 have:=λ{st:St} {p:Nat}=>@HL base hb ts (ts.length - 1) 151 t.line t.col d st p;rw[decide_eq_true (λh=>by have:=h.1;omega)] at this;exact @this
theorem jbE (hb:NB base){ts:List Tk}(W:Wds ts)(hn:ts≠[]){i d:Nat}(hi:i<ts.length)(s:List Nat){st:St}{p:Nat}(C:Cl st p (oC ts i d))(K Kp:AV->St->Prop) :
  XB θ base 87 [.ptr p 0,.str s] st K Kp=ifW (jX (tk ts i) s=true) (K (.tup []) (wr st p 0 (oC ts (i+1) d))) (K (.tup []) (wr st p 0 (fC ts (tk ts i) d))):=by
 have wl:=W.len;refine PM.two (o1:=.ok _) (o2:=.ok _) ?_ (by rfl) (λ_ _=>hb.no 87 dc _ _) C K Kp;have N:=λst p=>@vF base hb ts i hi 0 0 0 d st p;have S:=λst p=>@Vc base hb ts i hi 0 0 0 d s st p;have F:=λst p=>@Xg base hb ts W hn i d (tk ts i) st p;clear C;unfold oC fC rC at *;constructor<;>intro h
 ·rw[h] at S;refine jC x87 (by rfl) (hb.pur 87 3 dc) rfl ?_;simp only[y87,jn,ν,ξ,τ,υ];rw[(by unfold z87;simp only[qq];rfl:z87=_)];repeat'(first|apply jd<;>intro _|simp(disch:=first|exact dzD|fail) only[N,S,F,r6,γ,δ,ε,ζ,η])
  (refine G1.done ?_ (by rfl) (by rfl) ?_;(· (first|exact cyD|fail));(· first|exact vyD|skip))
 ·rw[h] at S;refine jC x87 (by rfl) (hb.pur 87 3 dc) rfl ?_;simp only[y87,jn,ν,ξ,τ,υ];rw[(by unfold z87;simp only[qq];rfl:z87=_)];repeat'(first|apply jd<;>intro _|simp(disch:=first|exact dzD|fail) only[N,S,F,r6,γ,δ,ε,ζ,η])
  (refine G1.done ?_ (by rfl) (by rfl) ?_;(· (first|exact cyD|fail));(· first|exact vyD|skip))
theorem zU (hb:NB base){ts:List Tk}(W:Wds ts)(hn:ts≠[])(t:Tk)(d:Nat)(s:List Nat):Met θ base 87 (fC ts t d) [.str s] (.ok (.tup [])) (fC ts t d):=by
 refine PM.met ?_ (by rfl) λp st=>hb.no 87 dc _ _;have wl:=W.len;have hl:=(W.last hn).1;have hi:ts.length - 1<ts.length:=om
 have N:=λst p=>@vF base hb ts _ hi 151 t.line t.col d st p;have S:=λst p=>@Vc base hb ts _ hi 151 t.line t.col d s st p;have F:=λst p=>@Gx base hb ts W hn d t (tk ts (ts.length - 1)) st p;rw[YO (W.last hn).2] at S;unfold fC rC at *;generalize ts.length - 1=e at *;refine jC x87 (by rfl) (hb.pur 87 3 dc) rfl ?_;simp only[y87,jn,ν,ξ,τ,υ];rw[(by unfold z87;simp only[qq];rfl:z87=_)];repeat'(first|apply jd<;>intro _|simp(disch:=first|exact dzD|fail) only[N,S,F,r6,γ,δ,ε,ζ,η])
 (refine G1.done ?_ (by rfl) (by rfl) ?_;(· (first|exact cyD|fail));(· first|exact vyD|skip))
theorem jjg (hb:NB base){ts:List Tk}(W:Wds ts)(hn:ts≠[]){i d:Nat}(hi:i<ts.length){st:St}{p:Nat}(C:Cl st p (oC ts i d))(K Kp:AV->St->Prop) :
  XB θ base 86 [.ptr p 0] st K Kp=ifW (decide ((tk ts i).kind=1)=true) (K (.agg (tk ts i).cells) (wr st p 0 (oC ts (i+1) d))) (K (.agg (tk ts i).cells) (wr st p 0 (fC ts (tk ts i) d))):=by
 have wl:=W.len;refine PM.two (o1:=.ok _) (o2:=.ok _) ?_ (by rfl) (λ_ _=>hb.no 86 dc _ _) C K Kp;have N:=λst p=>@vF base hb ts i hi 0 0 0 d st p;have F:=λst p=>@Xg base hb ts W hn i d (tk ts i) st p;clear C;unfold oC fC rC at *;constructor<;>intro h
 ·have h':((tk ts i).kind:Int)=1:=by simp at h;omega
  refine jC x86 (by rfl) (hb.pur 86 3 dc) rfl ?_;simp only[y86,jn,ν,ξ,τ,υ];rw[(by unfold z86;simp only[qq];rfl:z86=_)];repeat'(first|apply jd<;>intro _|simp(disch:=first|exact dzD|fail) only[N,F,h',r6,γ,δ,ε,ζ,η])
  (refine G1.done ?_ (by rfl) (by rfl) ?_;(· (first|exact cyD|fail));(· first|exact vyD|skip))
 ·have h':¬ ((tk ts i).kind:Int)=1:=by simp at h;omega
  refine jC x86 (by rfl) (hb.pur 86 3 dc) rfl ?_;simp only[y86,jn,ν,ξ,τ,υ];rw[(by unfold z86;simp only[qq];rfl:z86=_)];repeat'(first|apply jd<;>intro _|simp(disch:=first|exact dzD|fail) only[N,F,h',r6,γ,δ,ε,ζ,η])
  (refine G1.done ?_ (by rfl) (by rfl) ?_;(· (first|exact cyD|fail));(· first|exact vyD|skip))
theorem jc4 (hb:NB base){ts:List Tk}(W:Wds ts)(hn:ts≠[])(t:Tk)(d:Nat):Met θ base 86 (fC ts t d) [] (.ok (.agg (tk ts (ts.length - 1)).cells)) (fC ts t d):=by
 refine PM.met ?_ (by rfl) λp st=>hb.no 86 dc _ _;have hl:=(W.last hn).1;have hi:ts.length - 1<ts.length:=om
 have N:=λst p=>@vF base hb ts _ hi 151 t.line t.col d st p;have F:=λst p=>@Gx base hb ts W hn d t (tk ts (ts.length - 1)) st p;have h':¬ ((tk ts (ts.length - 1)).kind:Int)=1:=by have:=(W.last hn).2;omega
 unfold fC rC at *;generalize ts.length - 1=e at *;refine jC x86 (by rfl) (hb.pur 86 3 dc) rfl ?_;simp only[y86,jn,ν,ξ,τ,υ];rw[(by unfold z86;simp only[qq];rfl:z86=_)];repeat'(first|apply jd<;>intro _|simp(disch:=first|exact dzD|fail) only[N,F,h',r6,γ,δ,ε,ζ,η])
 (refine G1.done ?_ (by rfl) (by rfl) ?_;(· (first|exact cyD|fail));(· first|exact vyD|skip))
theorem gt (hb:NB base){ts:List Tk}(W:Wds ts)(hn:ts≠[]){i d:Nat}(hi:i<ts.length)(hd:d<=1000000){st:St}{p:Nat}(C:Cl st p (oC ts i d))(K Kp:AV->St->Prop) :
  XB θ base 178 [.ptr p 0] st K Kp=ifW (decide (60<d+1)=true) (K (.tup []) (wr st p 0 (fC ts (tk ts i) (d+1)))) (K (.tup []) (wr st p 0 (oC ts i (d+1)))):=by
 refine PM.two (o1:=.ok _) (o2:=.ok _) ?_ (by rfl) (λ_ _=>hb.no 178 dc _ _) C K Kp;have N:=λst p=>@vF base hb ts i hi 0 0 0 ((d+1:Nat):Int) st p;have F:=λst p=>@Xg base hb ts W hn i (d+1) (tk ts i) st p;have e:((d:Int)+1)=((d+1:Nat):Int):=om
 clear C;unfold oC fC rC at *;constructor<;>intro h
 ·have h':(60:Int)<((d+1:Nat):Int):=by simp at h;omega
  refine jC jiw (by rfl) (hb.pur 178 3 dc) rfl ?_;simp only[jey,jn,ν,ξ,τ,υ];rw[(by unfold K6;simp only[qq];rfl:K6=_)];repeat'(first|apply jd<;>intro _|simp(disch:=first|exact dzD|fail) only[N,F,h',e,r6,γ,δ,ε,ζ,η])
  (refine G1.done ?_ (by rfl) (by rfl) ?_;(· (first|exact cyD|fail));(· first|exact vyD|skip))
 ·have h':¬ (60:Int)<((d+1:Nat):Int):=by simp at h;omega
  refine jC jiw (by rfl) (hb.pur 178 3 dc) rfl ?_;simp only[jey,jn,ν,ξ,τ,υ];rw[(by unfold K6;simp only[qq];rfl:K6=_)];repeat'(first|apply jd<;>intro _|simp(disch:=first|exact dzD|fail) only[N,F,h',e,r6,γ,δ,ε,ζ,η])
  (refine G1.done ?_ (by rfl) (by rfl) ?_;(· (first|exact cyD|fail));(· first|exact vyD|skip))
theorem ji1 (hb:NB base){ts:List Tk}(W:Wds ts)(hn:ts≠[])(i d n:Nat)(t:Tk){st:St}{p:Nat}(C:Cl st p (oC ts i d))(K Kp:AV->St->Prop) :
  XB θ base 41 [.ptr p 0,.int .i64 (n:Int),.agg t.cells] st K Kp=ifW (decide (32<=n)=true) (K (.tup []) (wr st p 0 (fC ts t d))) (K (.tup []) (wr st p 0 (oC ts i d))):=by
 refine PM.two (o1:=.ok _) (o2:=.ok _) ?_ (by rfl) (λ_ _=>hb.no 41 dc _ _) C K Kp;have G:=λst p=>@qP base hb ts i d st p;have F:=λst p=>@Xg base hb ts W hn i d t st p;clear C;unfold oC fC rC at *;constructor<;>intro h
 ·have h':(32:Int)<=(n:Int):=by simp at h;omega
  refine jC x41 (by rfl) (hb.pur 41 3 dc) rfl ?_;simp only[y41,jn,ν,ξ,τ,υ];rw[(by unfold z41;simp only[qq];rfl:z41=_)];repeat'(first|apply jd<;>intro _|simp(disch:=first|exact dzD|fail) only[G,F,h',r6,γ,δ,ε,ζ,η])
  (refine G1.done ?_ (by rfl) (by rfl) ?_;(· (first|exact cyD|fail));(· first|exact vyD|skip))
 ·have h':¬ (32:Int)<=(n:Int):=by simp at h;omega
  refine jC x41 (by rfl) (hb.pur 41 3 dc) rfl ?_;simp only[y41,jn,ν,ξ,τ,υ];rw[(by unfold z41;simp only[qq];rfl:z41=_)];repeat'(first|apply jd<;>intro _|simp(disch:=first|exact dzD|fail) only[G,F,h',r6,γ,δ,ε,ζ,η])
  (refine G1.done ?_ (by rfl) (by rfl) ?_;(· (first|exact cyD|fail));(· first|exact vyD|skip))
theorem zL (hb:NB base){ts:List Tk}{i:Nat}(hi:i<ts.length)(d:Nat)(s:List Nat):Met θ base 88 (oC ts i d) [.str s] (.ok (.bool (jX (tk ts i) s))) (oC ts i d):=Vc hb hi 0 0 0 d s
theorem X3 (hb:NB base){ts:List Tk}{i:Nat}(hi:i<ts.length)(d:Nat):Met θ base 40 (oC ts i d) [] (.ok (.agg (tk ts i).cells)) (oC ts i d):=vF hb hi 0 0 0 d
theorem gF (hb:NB base){ts:List Tk}(W:Wds ts)(hn:ts≠[])(t:Tk)(d:Nat)(s:List Nat):Met θ base 88 (fC ts t d) [.str s] (.ok (.bool false)) (fC ts t d):=by
 have h:=W.last hn;have:=λ{st:St} {p:Nat}=>@Vc base hb ts (ts.length - 1) om 151 t.line t.col d s st p;rw[YO h.2] at this;exact @this
theorem zq (i:Nat):(i:Int)+1=((i+1:Nat):Int):=om
theorem jkC (x:Int):(-(0+1)) * x=-x:=om
def AnC {α:Type}(base:Bs)(f:FuncId)(c xs:List AV)(ts:List Tk)(d:Nat)(enc:α->AV):SR α->Prop
 |.ok x j=>PM θ base f c xs (.ok (enc x)) (oC ts j d)
 |.er t=>∃ y,PM θ base f c xs (.ok (enc y)) (fC ts t d)
def AnF {α:Type}(base:Bs)(f:FuncId)(xs:List AV)(ts:List Tk)(enc:α->AV):Prop:=∀ t d,d<=1000000->∃ y,PM θ base f (fC ts t d) xs (.ok (enc y)) (fC ts t d)
theorem jhg {t:Tk}{s:List Nat}{x:Nat}{r:List Nat}(h:yN t)(e:s=x :: r)(hx:jy x=false)(c:jX t s=true):isM t [s]=true:=by subst e;rwa [<-qV h hx]
theorem jkB (hb:NB base){ts:List Tk}(W:Wds ts)(hn:ts≠[])(O:∀ i,i<ts.length->yN (tk ts i))(N:Nbs ts){i d:Nat}(hi:i<ts.length):AnC base 89 (oC ts i d) [] ts d (λn=>.int .i64 n) (QR ts i):=by
 have wl:=W.len;have S:=λst p=>@zL base hb ts i hi d [45] st p;rw[qV (O i hi) dc] at S;unfold QR;by_cases c1:isM (tk ts i) [[45]]=true
 ·rw[if_pos c1];rw[c1] at S;have hi1:=W.isM hi c1;have hN:=λst p=>@X3 base hb ts (i+1) hi1 d st p;have hn:=N (i+1);have F:=λst p=>@Xg base hb ts W ‹_› (i+1) d (tk ts (i+1)) st p;by_cases k2:(tk ts (i+1)).kind=2
  ·rw[if_pos k2];have k2':((tk ts (i+1)).kind:Int)=2:=om
   show PM _ _ _ _ _ _ _;unfold oC fC rC at *;refine jC x89 (by rfl) (hb.pur 89 3 dc) rfl ?_;simp only[y89,jn,ν,ξ,τ,υ];rw[(by unfold z89;simp only[qq];rfl:z89=_)];repeat'(first|apply jd<;>intro _|simp(disch:=first|exact dzD|fail) only[S,hN,k2',zq,jkC,r6,γ,δ,ε,ζ,η])
   (refine G1.done ?_ (by rfl) (by rfl) ?_;(· (first|exact cyD|fail));(· first|exact vyD|skip))
  ·rw[if_neg k2];have k2':¬ ((tk ts (i+1)).kind:Int)=2:=om
   refine⟨0,?_⟩;unfold oC fC rC at *;refine jC x89 (by rfl) (hb.pur 89 3 dc) rfl ?_;simp only[y89,jn,ν,ξ,τ,υ];rw[(by unfold z89;simp only[qq];rfl:z89=_)];repeat'(first|apply jd<;>intro _|simp(disch:=first|exact dzD|fail) only[S,hN,k2',F,zq,r6,γ,δ,ε,ζ,η])
   (refine G1.done ?_ (by rfl) (by rfl) ?_;(· (first|exact cyD|fail));(· first|exact vyD|skip))
 ·rw[if_neg c1];rw[QaB.2 c1] at S;have hN:=λst p=>@X3 base hb ts i hi d st p;have hn:=N i;have F:=λst p=>@Xg base hb ts W ‹_› i d (tk ts i) st p;by_cases k2:(tk ts i).kind=2
  ·rw[if_pos k2];have k2':((tk ts i).kind:Int)=2:=om
   show PM _ _ _ _ _ _ _;unfold oC fC rC at *;refine jC x89 (by rfl) (hb.pur 89 3 dc) rfl ?_;simp only[y89,jn,ν,ξ,τ,υ];rw[(by unfold z89;simp only[qq];rfl:z89=_)];repeat'(first|apply jd<;>intro _|simp(disch:=first|exact dzD|fail) only[S,hN,k2',Int.one_mul,zq,r6,γ,δ,ε,ζ,η])
   (refine G1.done ?_ (by rfl) (by rfl) ?_;(· (first|exact cyD|fail));(· first|exact vyD|skip))
  ·rw[if_neg k2];have k2':¬ ((tk ts i).kind:Int)=2:=om
   refine⟨0,?_⟩;unfold oC fC rC at *;refine jC x89 (by rfl) (hb.pur 89 3 dc) rfl ?_;simp only[y89,jn,ν,ξ,τ,υ];rw[(by unfold z89;simp only[qq];rfl:z89=_)];repeat'(first|apply jd<;>intro _|simp(disch:=first|exact dzD|fail) only[S,hN,k2',F,r6,γ,δ,ε,ζ,η])
   (refine G1.done ?_ (by rfl) (by rfl) ?_;(· (first|exact cyD|fail));(· first|exact vyD|skip))
def opB (t:Tk):Nat:=match (Qae 17).find? λi=>jX t (sgn ((14+i:Nat):Int)) with
 |some i=>14+i
 |none=>0
theorem jc1 {t:Tk}{i:Nat}(hi:i<17)(h:jX t (sgn ((14+i:Nat):Int))=true)(hj:∀ j,j<i->jX t (sgn ((14+j:Nat):Int))=false):opB t=14+i:=by
 unfold opB;rw[List.find?_range_eq_some.2 ⟨h,by simpa using hi,λj hj'=>by simpa using hj j hj'⟩]
theorem jcZ {t:Tk}(hj:∀ j,j<17->jX t (sgn ((14+j:Nat):Int))=false):opB t=0:=by
 unfold opB;rw[List.find?_range_eq_none.2 λj hj'=>by simpa using hj j hj']
def Qp (k:Nat):Nat:=if k=30 then 1 else if k=29 then 2 else if k=28 then 3 else if k=27 then 4 else if 23<=k/\k<=26 then 5 else if 17<=k/\k<=22 then 6 else if k=15\/k=16 then 7 else if k=14 then 8 else 0
theorem HK:∀ i,i<17->1<=Qp (14+i)/\Qp (14+i)<=8/\sgn ((14+i:Nat):Int)∈(lev (Qp (14+i))).1/\Jg (sgn ((14+i:Nat):Int))=some i/\∃ x r,sgn ((14+i:Nat):Int)=x :: r/\jy x=false:=by
 have h:((Qae 17).all λi=>decide (1<=Qp (14+i)) && decide (Qp (14+i)<=8) && decide (sgn ((14+i:Nat):Int)∈(lev (Qp (14+i))).1) && decide (Jg (sgn ((14+i:Nat):Int))=some i) && (match sgn ((14+i:Nat):Int) with|x :: _=>!jy x|[]=>false))=true:=by decide +kernel
 intro i hi;have a:=Qah.1 h i (Qbk.2 hi);rw[Qad,Qad,Qad,Qad] at a;refine⟨of_decide_eq_true a.1.1.1.1,of_decide_eq_true a.1.1.1.2,of_decide_eq_true a.1.1.2,of_decide_eq_true a.1.2,?_⟩;have a:=a.2;cases hs:sgn ((14+i:Nat):Int) with
 |nil=>rw[hs] at a;cases a
 |cons x r=>rw[hs] at a;exact⟨x,r,rfl,by simpa using a⟩
theorem jhB:∀ q,1<=q->q<=8->∀ s,s∈(lev q).1->∃ i,i<17/\Jg s=some i/\Qp (14+i)=q/\sgn ((14+i:Nat):Int)=s:=by
 have h:((Qae 9).all λq=>decide (q=0) ||(lev q).1.all λs=>match Jg s with|some i=>decide (i<17) && decide (Qp (14+i)=q) && decide (sgn ((14+i:Nat):Int)=s)|none=>false)=true:=by decide +kernel
 intro q h1 h8 s hs;have a:=Qah.1 h q (Qbk.2 om);rw[decide_eq_false (p:=q=0) om,Bool.false_or] at a;have a:=Qah.1 a s hs;cases ho:Jg s with
 |none=>rw[ho] at a;cases a
 |some i=>
  rw[ho] at a;dsimp only at a;rw[Qad,Qad] at a;exact⟨i,of_decide_eq_true a.1.1,rfl,of_decide_eq_true a.1.2,of_decide_eq_true a.2⟩
theorem jc0 {t:Tk}(h:yN t):(jY t=0/\opB t=0)\/∃ i,i<17/\Jg t.text=some i/\opB t=14+i/\jY t=Qp (14+i)/\1<=jY t/\jY t<=8:=by
 by_cases hl:jY t=0
 ·refine .inl ⟨hl,jcZ λj hj=>QaB.2 λhs=>?_⟩;obtain⟨a,b,c,d,x,r,e,f⟩:=HK j hj;have hm:=jhg h e f hs;have hm':isM t (lev (Qp (14+j))).1=true:=by
   have k:=q9 hm;unfold isM;rw[decide_eq_true k.1,QaZ,decide_eq_true_eq,Qbo.1 k.2];exact c
  have:=jc7 a b hm';omega
 ·obtain⟨a,b,c⟩:=vO hl;obtain⟨k,m⟩:=q9 c;obtain⟨i,i1,i2,i3,i4⟩:=jhB _ b a _ m;refine .inr ⟨i,i1,i2,?_,i3.symm,b,a⟩;refine jc1 i1 ?_ λj hj=>?_
  ·unfold jX;rw[i4,decide_eq_true rfl,decide_eq_true (p:=t.kind≠1) om,decide_eq_true (p:=t.kind≠5) om];rfl
  ·unfold jX;rw[decide_eq_false,Qbg,Qbg];intro e;obtain⟨_,_,_,h4,_⟩:=HK j om;rw[<-e,i2] at h4;injection h4 with h4
   omega
set_option maxHeartbeats 4000000 in
theorem jkM (hb:NB base){l:List Nat}{L:Sl}{s:St}{a d ch:Nat}{acc:List Tk}{v:AV}{rm rm':Bool}(hl:l.length<=65536)(hda:d<=a)(hlt:a<l.length)(hacc:acc.length<=d)(hx:2<=s.nx)(F:Cl s 0 [.int .i64 0,.int .i64 0,.int .i64 0])(W:Lw 1 s.nx s v acc.length (fl Tk.cells acc) 5)
  (hg:jH (l.drop d)=(a - d)+yd rm (l.drop a)) (hM:qG l (1,1)=ahead acc (qG (l.drop d) (jD (1,1) (l.take d)))) (hch:l.getD a 0=ch) (hr:QO rm (l.drop a)=rm')
  (i0:Has L 0 (.str l)) (i3:Has L 3 (.ptr 0 0)) (i4:Has L 4 v) (i5:Has L 5 (.int .i64 (a:Int))) (i6:Has L 6 (.bool rm')) (i7:Has L 7 (.int .u8 (ch:Int))) {Q:Out->Prop} {Kp:AV->Sl->St->Prop}
  (hS:∀ L',(∃ k',k'<l.length - a/\RI l k' L' s)->Q (.ex 1 L' s)) (hQ:∀ L' s',(∃ k',k'<l.length - a/\RI l k' L' s')->Q (.go L' s'))
  (hF:∀ e ln co,qG l (1,1)=([],(e,ln,co))->jbW Q L e ln co):xC θ base K4 L s Q Kp:=by
 have hskip:=λ(L:Sl) (hs:(rm' ||qK (l.getD a 0))=true)=>RI.skip (L:=L) hda hlt hacc hx F W hg hM hr hs;have hdc:=KS hlt;have hsk:yd rm (l.drop a)=if(QO rm (l.drop a) ||qK (l.getD a 0))=true then yd (QO rm (l.drop a)) (l.drop (a+1))+1 else 0:=by rw[hdc,z7]
 rw[hr,hch] at hsk;rw[hch] at hskip hdc;have e1:=zq a;have bl:qK ch=(decide (ch=32) ||decide (ch=9) ||decide (ch=10)):=rfl;have z32:((ch:Int)=32)=(ch=32):=by rw[eq_iff_iff];omega
 have z9:((ch:Int)=9)=(ch=9):=by rw[eq_iff_iff];omega
 have z10:((ch:Int)=10)=(ch=10):=by rw[eq_iff_iff];omega
 rw[(by unfold K4;simp only[qq];rfl:K4=_)];cases hbl:(rm' ||qK ch) with
 |true=>
  have fin:∀ L',Has L' 0 (.str l)->Has L' 3 (.ptr 0 0)->Has L' 4 v->Has L' 5 (.int .i64 ((a+1:Nat):Int))->Has L' 6 (.bool rm')->Q (.ex 1 L' s):=λL' h0 h3 h4 h5 h6=>hS L' (hskip L' hbl h0 h3 h4 h5 h6);cases rm' with
  |true=>
   repeat'(first|apply jd<;>intro _|simp(disch:=first|exact dzC|fail) only[ja i5,ja i6,e1,r7,γ,δ,ε,ζ,η])
   refine fin _ ?_ ?_ ?_ ?_ ?_
   ·simp(disch:=decide) only[h12,i0]
   ·simp(disch:=decide) only[h12,i3]
   ·simp(disch:=decide) only[h12,i4]
   ·simp(disch:=decide) only[h12]
   ·simp(disch:=decide) only[h12,i6]
  |false=>
   rw[Bool.false_or,bl] at hbl;have hbl:ch=32\/ch=9\/ch=10:=by simp at hbl;omega
   rcases hbl with hc|hc|hc
   all_goals
    have hc':(ch:Int)=_:=congrArg Nat.cast hc;repeat'(first|apply jd<;>intro _|simp(disch:=first|exact dzC|fail) only[ja i5,ja i6,ja i7,z32,z9,z10,e1,r7,γ,δ,ε,ζ,η])
    refine fin _ ?_ ?_ ?_ ?_ ?_
    ·simp(disch:=decide) only[h12,i0]
    ·simp(disch:=decide) only[h12,i3]
    ·simp(disch:=decide) only[h12,i4]
    ·simp(disch:=decide) only[h12]
    ·simp(disch:=decide) only[h12,i6]
 |false=>
  have hrm:rm'=false:=by cases rm' with|true=>simp at hbl|false=>rfl
  subst hrm;rw[Bool.false_or] at hbl;rw[hbl,Bool.false_or,if_neg Bool.false_ne_true] at hsk;rw[bl] at hbl;have b1:ch≠32:=by rintro rfl;simp at hbl
  have b2:ch≠9:=by rintro rfl;simp at hbl
  have b3:ch≠10:=by rintro rfl;simp at hbl
  have hwd:=λ(L:Sl) (s':St) (v':AV) (n:Nat) (t:Tk)=>RI.word (rm:=rm) (L:=L) (s:=s') (v:=v') (n:=n) (t:=t) hda hlt hacc;have hfa:=λ(e n:Nat) (t:Tk)=>RI.fault (rm:=rm) (e:=e) (n:=n) (t:=t) hda (Qbl hlt) hg hM hsk;have WT:=jiC hb hlt om;have PT:=HT hb (Qbl hlt) om;have nz:=vM (x:=ch) (r:=l.drop (a+1)) (p:=jD (1,1) (l.take a));rw[<-hdc] at nz;have wn:=gq (l.drop a);rw[Qan] at wn;generalize hn:q6 (l.drop a)=n at *;generalize hp:jD (1,1) (l.take a)=p at *;have z0':((n:Int)=0)=(n=0):=by rw[eq_iff_iff];omega
  repeat'(first|apply jd<;>intro _|simp(disch:=first|exact dzC|fail) only[ja i0,ja i5,ja i6,ja i7,z32,z9,z10,b1,b2,b3,r7,γ,δ,ε,ζ,η])
  rw[(by unfold jd3;simp only[qq];rfl:jd3=_)];by_cases hn0:n=0
  ·have hn0':(n:Int)=0:=om
   (have zz:=F.r;(repeat'(first|apply jd<;>intro _|simp(disch:=first|exact Js|fail) only[ja i0,ja i3,ja i5,WT,PT,F.q,F.r,r7,γ,δ,ε,ζ,η]));all_goals clear zz)
   refine hF 131 p.1 p.2 ?_ _ _ ?_ ?_ ?_
   ·exact hfa _ _ _ (nz hn0) dc
   ·simp(disch:=decide) only[h12]
   ·simp(disch:=decide) only[h12,i3]
   ·(have zz:=aI F.q F.r;first|exact jbG|fail)
  ·have hn0':¬ (n:Int)=0:=om
   repeat'(first|apply jd<;>intro _|simp(disch:=first|exact dzC|fail) only[ja i0,ja i3,ja i5,WT,PT,r7,γ,δ,ε,ζ,η])
   refine jkN (n:=n) (ch:=ch) (p:=p) hb hdc hl hn hn0 om F W om ?_ ?_ ?_ ?_ ?_ ?_ ?_ ?_ (λt hN=>?_) (λt hN h1 h2=>?_)
   ·simp(disch:=decide) only[h12,i0]
   ·simp(disch:=decide) only[h12,i3]
   ·simp(disch:=decide) only[h12,i4]
   ·simp(disch:=decide) only[h12,i5]
   ·simp(disch:=decide) only[h12,i7]
   ·simp(disch:=decide) only[h12]
   ·simp(disch:=decide) only[h12]
   ·simp(disch:=decide) only[h12]
   ·intro v' s' L' w q hx' h4 h5;have hx':∀ x w,x<4\/x=6->Has L x w->Has L' x w:=λx w h hh=>hx' x w h (by simp(disch:=omega) only[jb];exact hh);refine hQ L' s' (hwd L' s' v' n t (by have:=q.nx;omega) (q.cl 0 _ dc F) (by rw[Qag];exact w) hg hM hsk ?_ hn0 (hx' 0 _ dc i0) (hx' 3 _ dc i3) h4 h5 (hx' 6 _ dc i6));exact hN
   ·intro s' L' g2 g3 C;have hc:=hfa 132 0 t hN dc;rw[h1,h2] at hc;exact hF 132 p.1 p.2 hc s' L' g2 g3 C
theorem Lw.wr0 {lo hi n z b:Nat}{s:St}{v:AV}{cs:List AV}(h:Lw lo hi s v n cs z)(hb:b<lo)(o:Nat)(ds:List AV):Lw lo hi (wr s b o ds) v n cs z:=by
 obtain⟨c,ex,h1,h2,h3,h4,h5,h6⟩:=h;exact⟨c,ex,h1,h2,h3,h4.wrO om o ds,h5,h6⟩
theorem Lw.bar {lo hi n z:Nat}{s:St}{v:AV}{cs:List AV}(h:Lw lo hi s v n cs z):Lw lo hi s.bare v n cs z:=by
 obtain⟨c,ex,h1,h2,h3,h4,h5,h6⟩:=h;exact⟨c,ex,h1,h2,h3,h4.bar,h5,h6⟩
set_option maxHeartbeats 8000000 in
theorem jj8 (hb:NB base)(l:List Nat)(hl:l.length<=9223372036854775807):Tot base 38 [.str l] (.tup [.lst (qc l).1.length (fl Tk.cells (qc l).1),.agg (zg (qc l).2)]):=by
 refine hb.tot ?_ rfl rfl;refine jT x38 (by rfl) (hb.pur 38 1 dc) ?_;simp only[y38,jn,ν,ξ,τ,υ];rw[(by unfold z38;simp only[qq];rfl:z38=_)];repeat'(first|apply jd<;>intro _|simp(disch:=first|exact dzC|fail) only[r7,γ,δ,ε,ζ,η])
 ·rw[show qc l=([],(132,1,1)) from if_pos om];exact FzD.tup (.cons .nils (.cons (.agg (.pc (by rfl))) .nil))
 ·have hl:l.length<=65536:=om
  rw[show qc l=qG l (1,1) from if_neg om];refine qB (RI l) ?_ l.length ?_
  ·rintro mm L s ⟨a,d,v,acc,rm,hda,hal,rfl,hacc,hx,F,W,hg,hM,i0,i3,i4,i5,i6⟩;unfold Zt;have L0:=F.lt;by_cases hlt:a<l.length
   ·have eX:∀ (s:St) (K:AV->St->Prop),jl (Xe (.str l) (.int .i64 (a:Int)) s) K=K (.int .u8 ((l.getD a 0:Nat):Int)) s:=λs K=>Z3 hlt .i64;have eX1:∀ (s:St) (K:AV->St->Prop),a+1<l.length->jl (Xe (.str l) (.int .i64 ((a+1:Nat):Int)) s) K=K (.int .u8 ((l.getD (a+1) 0:Nat):Int)) s:=λs K h=>Z3 h .i64;have hlt':(a:Int)<(l.length:Int):=om
    have e1:=zq a;have hdc:=KS hlt;have hr2:QO rm (l.drop a)=if l.getD a 0=10 then false else if rm=false/\l.getD a 0=47/\(l.drop (a+1)).head? = some 47 then true else rm:=by rw[hdc,J3]
    have hhd:=jdv (l:=l) (a:=a+1) (d:=47) dc;have key:=λ(L':Sl) (rm':Bool) Q Kp=>jkM (L:=L') (rm':=rm') (Q:=Q) (Kp:=Kp) hb hl hda hlt hacc hx F W hg hM rfl;generalize l.getD a 0=ch at *;generalize l.getD (a+1) 0=c2 at *;have fin:∀ L' Q Kp,(∀ x w,x<6->Has L x w->Has L' x w)->Has L' 6 (.bool (QO rm (l.drop a)))->Has L' 7 (.int .u8 (ch:Int))->(∀ L2,(∃ k',k'<l.length - a/\RI l k' L2 s)->Q (.ex 1 L2 s))->(∀ L2 s',(∃ k',k'<l.length - a/\RI l k' L2 s')->Q (.go L2 s'))->(∀ e ln co,qG l (1,1)=([],(e,ln,co))->jbW Q L' e ln co)->xC θ base K4 L' s Q Kp:=λL' Q Kp hL h6 h7 q1 q2 q3=>key L' _ Q Kp rfl (hL 0 _ dc i0) (hL 3 _ dc i3) (hL 4 _ dc i4) (hL 5 _ dc i5) h6 h7 q1 q2 q3;clear key;by_cases h10:ch=10
    ·rw[if_pos h10] at hr2;have y10:(ch:Int)=10:=om
     have y47:¬ (ch:Int)=47:=om
     repeat'(first|apply jd<;>intro _|simp(disch:=first|exact dzC|fail) only[ja i0,ja i5,eX,r7,γ,δ,ε,ζ,η])
     refine fin _ _ _ ?_ ?_ ?_ (λL2 h=>?_) (λL2 s' h=>?_) (λe ln co hc s' L' g2 g3 C=>?_)
     ·intro x w hx h;simp(disch:=omega) only[jb];exact h
     ·rw[hr2];simp(disch:=decide) only[h12]
     ·simp(disch:=decide) only[h12]
     ·repeat'(first|apply jd<;>intro _|simp(disch:=first|exact dzC|fail) only[r7,γ,δ,ε,ζ,η])
      exact h
     ·repeat'(first|apply jd<;>intro _|simp(disch:=first|exact dzC|fail) only[r7,γ,δ,ε,ζ,η])
      exact h
     ·(have zz:=C.r;(repeat'(first|apply jd<;>intro _|simp(disch:=first|exact Js|fail) only[ja g2,ja g3,C.q,C.r,r7,γ,δ,ε,ζ,η]));all_goals clear zz)
      rw[hc];exact FzD.tup (.cons .nils (.cons (.agg (.pc (by rfl))) .nil))
    ·rw[if_neg h10] at hr2;have y10:¬ (ch:Int)=10:=om
     cases rm with
     |true=>
      rw[if_neg (by simp)] at hr2;repeat'(first|apply jd<;>intro _|simp(disch:=first|exact dzC|fail) only[ja i0,ja i5,ja i6,eX,r7,γ,δ,ε,ζ,η])
      refine fin _ _ _ ?_ ?_ ?_ (λL2 h=>?_) (λL2 s' h=>?_) (λe ln co hc s' L' g2 g3 C=>?_)
      ·intro x w hx h;simp(disch:=omega) only[jb];exact h
      ·rw[hr2];simp(disch:=decide) only[h12,i6]
      ·simp(disch:=decide) only[h12]
      ·repeat'(first|apply jd<;>intro _|simp(disch:=first|exact dzC|fail) only[r7,γ,δ,ε,ζ,η])
       exact h
      ·repeat'(first|apply jd<;>intro _|simp(disch:=first|exact dzC|fail) only[r7,γ,δ,ε,ζ,η])
       exact h
      ·(have zz:=C.r;(repeat'(first|apply jd<;>intro _|simp(disch:=first|exact Js|fail) only[ja g2,ja g3,C.q,C.r,r7,γ,δ,ε,ζ,η]));all_goals clear zz)
       rw[hc];exact FzD.tup (.cons .nils (.cons (.agg (.pc (by rfl))) .nil))
     |false=>
      by_cases hrem:ch=47/\a+1<l.length/\c2=47
      ·rw[if_pos ⟨rfl,hrem.1,hhd.2 hrem.2⟩] at hr2;have y47:(ch:Int)=47:=om
       have y1:((a+1:Nat):Int)<(l.length:Int):=om
       have y2:(c2:Int)=47:=om
       have a1:=hrem.2.1;repeat'(first|apply jd<;>intro _|simp(disch:=first|exact dzC|fail) only[ja i0,ja i5,ja i6,eX,eX1,e1,r7,γ,δ,ε,ζ,η])
       refine fin _ _ _ ?_ ?_ ?_ (λL2 h=>?_) (λL2 s' h=>?_) (λe ln co hc s' L' g2 g3 C=>?_)
       ·intro x w hx h;simp(disch:=omega) only[jb];exact h
       ·rw[hr2];simp(disch:=decide) only[h12]
       ·simp(disch:=decide) only[h12]
       ·repeat'(first|apply jd<;>intro _|simp(disch:=first|exact dzC|fail) only[r7,γ,δ,ε,ζ,η])
        exact h
       ·repeat'(first|apply jd<;>intro _|simp(disch:=first|exact dzC|fail) only[r7,γ,δ,ε,ζ,η])
        exact h
       ·(have zz:=C.r;(repeat'(first|apply jd<;>intro _|simp(disch:=first|exact Js|fail) only[ja g2,ja g3,C.q,C.r,r7,γ,δ,ε,ζ,η]));all_goals clear zz)
        rw[hc];exact FzD.tup (.cons .nils (.cons (.agg (.pc (by rfl))) .nil))
      ·rw[if_neg (λh=>hrem ⟨h.2.1,hhd.1 h.2.2⟩)] at hr2;by_cases z47:ch=47
       ·have y47:(ch:Int)=47:=om
        by_cases a1:a+1<l.length
        ·have y1:((a+1:Nat):Int)<(l.length:Int):=om
         have y2:¬ (c2:Int)=47:=om
         repeat'(first|apply jd<;>intro _|simp(disch:=first|exact dzC|fail) only[ja i0,ja i5,ja i6,eX,eX1,e1,r7,γ,δ,ε,ζ,η])
         refine fin _ _ _ ?_ ?_ ?_ (λL2 h=>?_) (λL2 s' h=>?_) (λe ln co hc s' L' g2 g3 C=>?_)
         ·intro x w hx h;simp(disch:=omega) only[jb];exact h
         ·rw[hr2];simp(disch:=decide) only[h12,i6]
         ·simp(disch:=decide) only[h12]
         ·repeat'(first|apply jd<;>intro _|simp(disch:=first|exact dzC|fail) only[r7,γ,δ,ε,ζ,η])
          exact h
         ·repeat'(first|apply jd<;>intro _|simp(disch:=first|exact dzC|fail) only[r7,γ,δ,ε,ζ,η])
          exact h
         ·(have zz:=C.r;(repeat'(first|apply jd<;>intro _|simp(disch:=first|exact Js|fail) only[ja g2,ja g3,C.q,C.r,r7,γ,δ,ε,ζ,η]));all_goals clear zz)
          rw[hc];exact FzD.tup (.cons .nils (.cons (.agg (.pc (by rfl))) .nil))
        ·have y1:¬ ((a+1:Nat):Int)<(l.length:Int):=om
         repeat'(first|apply jd<;>intro _|simp(disch:=first|exact dzC|fail) only[ja i0,ja i5,ja i6,eX,e1,r7,γ,δ,ε,ζ,η])
         refine fin _ _ _ ?_ ?_ ?_ (λL2 h=>?_) (λL2 s' h=>?_) (λe ln co hc s' L' g2 g3 C=>?_)
         ·intro x w hx h;simp(disch:=omega) only[jb];exact h
         ·rw[hr2];simp(disch:=decide) only[h12,i6]
         ·simp(disch:=decide) only[h12]
         ·repeat'(first|apply jd<;>intro _|simp(disch:=first|exact dzC|fail) only[r7,γ,δ,ε,ζ,η])
          exact h
         ·repeat'(first|apply jd<;>intro _|simp(disch:=first|exact dzC|fail) only[r7,γ,δ,ε,ζ,η])
          exact h
         ·(have zz:=C.r;(repeat'(first|apply jd<;>intro _|simp(disch:=first|exact Js|fail) only[ja g2,ja g3,C.q,C.r,r7,γ,δ,ε,ζ,η]));all_goals clear zz)
          rw[hc];exact FzD.tup (.cons .nils (.cons (.agg (.pc (by rfl))) .nil))
       ·have y47:¬ (ch:Int)=47:=om
        repeat'(first|apply jd<;>intro _|simp(disch:=first|exact dzC|fail) only[ja i0,ja i5,ja i6,eX,r7,γ,δ,ε,ζ,η])
        refine fin _ _ _ ?_ ?_ ?_ (λL2 h=>?_) (λL2 s' h=>?_) (λe ln co hc s' L' g2 g3 C=>?_)
        ·intro x w hx h;simp(disch:=omega) only[jb];exact h
        ·rw[hr2];simp(disch:=decide) only[h12,i6]
        ·simp(disch:=decide) only[h12]
        ·repeat'(first|apply jd<;>intro _|simp(disch:=first|exact dzC|fail) only[r7,γ,δ,ε,ζ,η])
         exact h
        ·repeat'(first|apply jd<;>intro _|simp(disch:=first|exact dzC|fail) only[r7,γ,δ,ε,ζ,η])
         exact h
        ·(have zz:=C.r;(repeat'(first|apply jd<;>intro _|simp(disch:=first|exact Js|fail) only[ja g2,ja g3,C.q,C.r,r7,γ,δ,ε,ζ,η]));all_goals clear zz)
         rw[hc];exact FzD.tup (.cons .nils (.cons (.agg (.pc (by rfl))) .nil))
   ·have hae:a=l.length:=om
    subst hae;have hlt':¬ (l.length:Int)<(l.length:Int):=om
    have hE:=RI.end hda hg hM;have PT:=HT hb (φ l.length) om;rw[Qaw] at PT;generalize jD (1,1) l=p at *;obtain⟨v',s',e,w,q⟩:=jjW (s:=nw s (Tk.mk 5 [] 0 p.1 p.2).cells) (lo:=1) (hi:=s.nx) (bytes:=48) (xc:=1) (xx:=true) (W.nwO _) (by rw[jf];omega) (Cl.new s _) (Tk.cells_l _) dc om om;have D0:=q.cl 0 _ dc (F.nw _);have e:∀ K:AV->St->Prop,jl (XT 5 48 v (.slice s.nx 0 1 1 5 true) (nw s [.int .i64 5,.str [],.int .i64 0,.int .i64 (p.1:Int),.int .i64 (p.2:Int)])) K=K v' s':=e
    (have zz:=aI F.r D0.r;(repeat'(first|apply jd<;>intro _|simp(disch:=first|exact Js|fail) only[ja i0,ja i3,ja i4,ja i5,PT,e,F.q,D0.q,F.r,D0.r,r7,γ,δ,ε,ζ,η]));all_goals clear zz)
    rw[hE];refine FzD.tup (.cons (Lw.fz (lo:=1) (hi:=s'.nx) (n:=(acc ++ [Tk.mk 5 [] 0 p.1 p.2]).length) (z:=5) ?_ (Qaf _) (JH Tk.cells_p _)) (.cons (.agg (.pc (by rfl))) .nil));rw[Jp,zu,Qag];exact(w.wr0 dc _ _).bar
  ·refine⟨0,0,.slice 1 0 0 0 5 true,[],false,φ _,Qaf _,rfl,φ _,φ _,(Cl.new st0 _).nw _,Lw.new (s:=nw st0 [.int .i64 0,.int .i64 0,.int .i64 0]) (φ _) (Qbm _),?_,?_,?_⟩
   ·rw[W1 _ _ (φ _)];omega
   ·rw[QaO,Qbf];exact(kY _ _).symm
   ·simp(disch:=decide) only[h12]
end Go.Sy
end
noncomputable section
set_option maxRecDepth 100000
namespace Go.Sy
open Go.Ev Go.Proofs
variable {base:Bs}
theorem jdT (hb:NB base){ts:List Tk}{i d:Nat}(hi:i<ts.length):Met θ base 156 (oC ts i d) [] (.ok (.int .i64 (opB (tk ts i):Nat))) (oC ts i d):=by
 refine PM.met ?_ rfl λp st=>hb.no 156 dc _ _;have S:=λs st p=>@zL base hb ts i hi d s st p;unfold oC rC at *;refine jC jkZ (by rfl) (hb.pur 156 3 dc) rfl ?_;simp only[jib,jn,ν,ξ,τ,υ];rw[(by unfold jed;simp only[qq];rfl:jed=_)];repeat'(first|apply jd<;>intro _|simp(disch:=first|exact dzD|fail) only[r6,γ,δ,ε,ζ,η])
 refine qB (λmm L s=>∃ k:Nat,k<=17/\mm=17 - k/\Cl s 0 [.lst ts.length (fl Tk.cells ts),.int .i64 (i:Int),.int .i64 0,.int .i64 0,.int .i64 0,.int .i64 (d:Int)]/\(∀ j,j<k->jX (tk ts i) (sgn ((14+j:Nat):Int))=false)/\Has L 0 (.ptr 0 0)/\Has L 3 (.int .i64 ((14+k:Nat):Int))) ?_ 17 ?_
 ·rintro mm L s ⟨k,hk,rfl,C,hj,i0,i3⟩;have L0:=C.lt;have G:=US hb ((14+k:Nat):Int);by_cases h17:k=17
  ·have e:¬ ((14+k:Nat):Int)<=30:=om
   rw[jcZ λj hj'=>hj j om];repeat'(first|apply jd<;>intro _|simp(disch:=first|exact dzD|fail) only[ja i0,ja i3,e,r6,γ,δ,ε,ζ,η])
   (refine G1.done ?_ (by rfl) (by rfl) ?_;(· (have zz:=aI C.q C.r;first|exact ju|fail));(· first|exact vyD|skip))
  ·have e:((14+k:Nat):Int)<=30:=om
   have e1:((14+k:Nat):Int)+1=((14+(k+1):Nat):Int):=om
   have S:=λst p=>S (sgn ((14+k:Nat):Int)) st p;by_cases hs:jX (tk ts i) (sgn ((14+k:Nat):Int))=true
   ·rw[hs] at S;rw[jc1 om hs hj]
    (have zz:=C.r;(repeat'(first|apply jd<;>intro _|simp(disch:=first|exact jK|fail) only[ja i0,ja i3,e,G,S,C.q,C.r,r6,γ,δ,ε,ζ,η]));all_goals clear zz)
    (refine G1.done ?_ (by rfl) (by rfl) ?_;(· (have zz:=aI C.q C.r;first|exact ju|fail));(· first|exact vyD|skip))
   ·rw[QaB.2 hs] at S
    (have zz:=C.r;(repeat'(first|apply jd<;>intro _|simp(disch:=first|exact jK|fail) only[ja i0,ja i3,e,G,S,e1,C.q,C.r,r6,γ,δ,ε,ζ,η]));all_goals clear zz)
    refine⟨17 - (k+1),om,k+1,om,rfl,?_,λj hj'=>?_,?_⟩
    ·(have zz:=aI C.q C.r;first|exact ju|fail)
    ·by_cases h:j=k
     ·rw[h];exact QaB.2 hs
     ·exact hj j om
    ·simp(disch:=decide) only[h12,i0]
 ·refine⟨0,om,rfl,Cl.new _ _,λj hj=>absurd hj (QaM _),?_⟩;rw[show((14+0:Nat):Int)=14 from rfl];simp(disch:=decide) only[h12]
theorem jjR {k:Nat}(h:k<14):Qp k=0:=by
 have:∀ k,k<14->Qp k=0:=dc
 exact this k h
theorem jhQ (hb:NB base)(k:Nat)(hk:k<=30):Tot base 157 [.int .i64 (k:Int)] (.int .i64 (Qp k:Nat)):=by
 refine hb.tot ?_ (by first|rfl|simp[pa,pc,Jc,Tk.cells_p]) rfl;refine jT jkY (by rfl) (hb.pur 157 1 dc) ?_;simp only[jia,jn,ν,ξ,τ,υ];rw[(by unfold jec;simp only[qq];rfl:jec=_)];repeat'(first|apply jd<;>intro _|simp(disch:=first|exact dzD|fail) only[r6,γ,δ,ε,ζ,η])
 all_goals refine G0.v (congrArg (AV.int .i64) ?_) rfl
 all_goals first
  |((have h:k=30:=?_);(subst h;rfl);omega)
  |((have h:k=29:=?_);(subst h;rfl);omega)
  |((have h:k=28:=?_);(subst h;rfl);omega)
  |((have h:k=27:=?_);(subst h;rfl);omega)
  |((have h:k=26:=?_);(subst h;rfl);omega)
  |((have h:k=25:=?_);(subst h;rfl);omega)
  |((have h:k=24:=?_);(subst h;rfl);omega)
  |((have h:k=23:=?_);(subst h;rfl);omega)
  |((have h:k=22:=?_);(subst h;rfl);omega)
  |((have h:k=21:=?_);(subst h;rfl);omega)
  |((have h:k=20:=?_);(subst h;rfl);omega)
  |((have h:k=19:=?_);(subst h;rfl);omega)
  |((have h:k=18:=?_);(subst h;rfl);omega)
  |((have h:k=17:=?_);(subst h;rfl);omega)
  |((have h:k=16:=?_);(subst h;rfl);omega)
  |((have h:k=15:=?_);(subst h;rfl);omega)
  |((have h:k=14:=?_);(subst h;rfl);omega)
  |(rw[jjR (k:=k) om];rfl)
abbrev At (base:Bs)(f:FuncId)(c xs:List AV)(o:Oc)(c':List AV):Prop:=∀ st p,Cl st p c->∀ K Kp,XB θ base f (.ptr p 0 :: xs) st K Kp=XJ o K Kp (wr st p 0 c')
theorem ja5 (hb:NB base){ts:List Tk}{i d:Nat}(hi:i<ts.length)(h2:ts.length<=1000000)(hd:d<=60)(q:Nat)(hq:q<ts.length){k:Nat}(hk:k<9)(hs:jX (tk ts i) (sgn ((5+k:Nat):Int))=true)(hno:∀ j,j<k->jX (tk ts i) (sgn ((5+j:Nat):Int))=false)
  {q1:Nat} {a1 l1 c1 d1 a l c:Int} {y:Ex} (Wi:At base 178 (rC ts (i+1) 0 0 0 d) [] (.ok (.tup [])) (rC ts q1 a1 l1 c1 d1)) (E:At base 155 (rC ts q1 a1 l1 c1 d1) [] (.ok (.agg (eE y))) (rC ts q a l c ((d+1:Nat):Int))) :
  PM θ base 155 (oC ts i d) [] (.ok (.agg (eE (.mk ((5+k:Nat):Int) 0 [] [y] (tk ts i).line (tk ts i).col)))) (rC ts q a l c d):=by
 have N:=λst p=>@X3 base hb ts i hi d st p;have S:=λs st p=>@zL base hb ts i hi d s st p;have e1:((d+1:Nat):Int) - 1=(d:Int):=om
 have hx:=zq i;unfold oC rC at *;refine jC jiy (by rfl) (hb.pur 155 3 dc) rfl ?_;simp only[jeA,jn,ν,ξ,τ,υ];rw[(by unfold K8;simp only[qq];rfl:K8=_)];repeat'(first|apply jd<;>intro _|simp(disch:=first|exact dzD|fail) only[N,r6,γ,δ,ε,ζ,η])
 refine yF λu hu=>?_;have n0:u.nx=3:=by rw[hu];rfl
 have C0:Cl u 0 [.lst ts.length (fl Tk.cells ts),.int .i64 (i:Int),.int .i64 0,.int .i64 0,.int .i64 0,.int .i64 (d:Int)]:=by
  rw[hu]
  (first|exact cyD|fail)
 have C1:Cl u 1 [.int .i64 0,.int .i64 0,.str [],.nils,.int .i64 0,.int .i64 0]:=by
  rw[hu]
  (first|exact cyD|fail)
 have C2:Cl u 2 (tk ts i).cells:=by
  rw[hu]
  (first|exact cyD|fail)
 clear hu N;refine qB (λmm L s=>∃ m:Nat,m<=k/\mm=k - m/\s.nx=3/\Cl s 0 [.lst ts.length (fl Tk.cells ts),.int .i64 (i:Int),.int .i64 0,.int .i64 0,.int .i64 0,.int .i64 (d:Int)]/\Cl s 1 [.int .i64 0,.int .i64 0,.str [],.nils,.int .i64 0,.int .i64 0]/\Cl s 2 (tk ts i).cells/\Has L 0 (.ptr 0 0)/\Has L 2 (.ptr 1 0)/\Has L 3 (.ptr 2 0)/\Has L 4 (.int .i64 ((5+m:Nat):Int))) ?_ k ?_
 ·clear C0 C1 C2 n0 u;rintro mm L s ⟨m,hm,rfl,n0,C0,C1,C2,i0,i2,i3,i4⟩;have L0:=C0.lt;have L1:=C1.lt;have L2:=C2.lt;have G:=US hb ((5+m:Nat):Int);have e:((5+m:Nat):Int)<=13:=om
  have e2:((5+m:Nat):Int)+1=((5+(m+1):Nat):Int):=om
  have S:=λst p=>S (sgn ((5+m:Nat):Int)) st p;by_cases hmk:m=k
  ·subst hmk;rw[hs] at S
   (have zz:=aI @n0 (aI C0.r (aI C1.r C2.r));(repeat'(first|apply jd<;>intro _|simp(disch:=first|exact jK|fail) only[ja i0,ja i2,ja i3,ja i4,e,G,S,hx,Wi,E,e1,C0.q,C1.q,C2.q,n0,C0.r,C1.r,C2.r,r6,γ,δ,ε,ζ,η]));all_goals clear zz)
   refine G1.done ?_ (by rfl) (by rfl) (Ux (ks:=[y]) (b:=4) (cs:=eE y) ?_ (by rw[zu]) dc)
   ·(have zz:=aI C0.q (aI @n0 C0.r);first|exact ju|fail)
   ·rw[jz,jv dc];have:∀ X:St,X.nx=4->Cl (nw X (eE y)) 4 (eE y):=λX h=>h▸Cl.new X (eE y);refine this _ ?_;simp only[jf,je,n0]
  ·rw[hno m om] at S
   (have zz:=aI @n0 (aI C0.r (aI C1.r C2.r));(repeat'(first|apply jd<;>intro _|simp(disch:=first|exact jK|fail) only[ja i0,ja i2,ja i3,ja i4,e,G,S,e2,C0.q,C1.q,C2.q,n0,C0.r,C1.r,C2.r,r6,γ,δ,ε,ζ,η]));all_goals clear zz)
   refine⟨k - (m+1),om,m+1,om,rfl,?_,?_,?_,?_⟩
   ·(have zz:=aI C0.q (aI C1.q (aI C2.q (aI C0.r (aI C1.r C2.r))));first|exact ju|fail)
   ·(have zz:=aI C0.q (aI C1.q (aI C2.q (aI C0.r (aI C1.r C2.r))));first|exact ju|fail)
   ·(have zz:=aI C0.q (aI C1.q (aI C2.q (aI C0.r (aI C1.r C2.r))));first|exact ju|fail)
   ·simp(disch:=decide) only[h12,i0,i2,i3]
 ·refine⟨0,om,rfl,n0,C0,C1,C2,?_⟩;rw[show((5+0:Nat):Int)=5 from rfl];simp(disch:=decide) only[h12]
inductive ValN (base:Bs)(ts:List Tk)(i:Nat)(a l c d:Int):Ex->List AV->Prop where
 |par {q1:Nat} {a1 l1 c1 d1:Int} {q:Nat} {a2 l2 c2:Int} {q3:Nat} {a3 l3 c3:Int} {y:Ex} (h:jX (tk ts i) [40]=true) (Wi:At base 178 (rC ts (i+1) a l c d) [] (.ok (.tup [])) (rC ts q1 a1 l1 c1 d1))
  (E:At base 131 (rC ts q1 a1 l1 c1 d1) [.int .i64 1] (.ok (.agg (eE y))) (rC ts q a2 l2 c2 (d+1))) (M:At base 87 (rC ts q a2 l2 c2 d) [.str [41]] (.ok (.tup [])) (rC ts q3 a3 l3 c3 d)):ValN base ts i a l c d y (rC ts q3 a3 l3 c3 d)
 |num (h:jX (tk ts i) [40]=false) (k:(tk ts i).kind=2):ValN base ts i a l c d (.mk 1 (tk ts i).num [] [] (tk ts i).line (tk ts i).col) (rC ts (i+1) a l c d)
 |nam (h:jX (tk ts i) [40]=false) (k:(tk ts i).kind=1):ValN base ts i a l c d (.mk 3 0 (tk ts i).text [] (tk ts i).line (tk ts i).col) (rC ts (i+1) a l c d)
 |tru (h:jX (tk ts i) [40]=false) (k2:(tk ts i).kind≠2) (k1:(tk ts i).kind≠1) (b:jX (tk ts i) [116,114,117,101]=true):ValN base ts i a l c d (.mk 2 1 [] [] (tk ts i).line (tk ts i).col) (rC ts (i+1) a l c d)
 |fls (h:jX (tk ts i) [40]=false) (k2:(tk ts i).kind≠2) (k1:(tk ts i).kind≠1) (b:jX (tk ts i) [116,114,117,101]=false) (b2:jX (tk ts i) [102,97,108,115,101]=true):ValN base ts i a l c d (.mk 2 0 [] [] (tk ts i).line (tk ts i).col) (rC ts (i+1) a l c d)
 |non {q:Nat} {a2 l2 c2:Int} (h:jX (tk ts i) [40]=false) (k2:(tk ts i).kind≠2) (k1:(tk ts i).kind≠1) (b:jX (tk ts i) [116,114,117,101]=false) (b2:jX (tk ts i) [102,97,108,115,101]=false)
  (F:At base 45 (rC ts i a l c d) [.agg (tk ts i).cells] (.ok (.tup [])) (rC ts q a2 l2 c2 d)):ValN base ts i a l c d (.mk 0 0 [] [] (tk ts i).line (tk ts i).col) (rC ts q a2 l2 c2 d)
set_option maxHeartbeats 4000000 in
theorem jfX (hb:NB base){ts:List Tk}{i:Nat}{a l c:Int}{d:Nat}(hi:i<ts.length)(h2:ts.length<=1000000)(hd:d<=1000000)(hno:∀ j,j<9->jX (tk ts i) (sgn ((5+j:Nat):Int))=false)
  {y:Ex} {c':List AV} (H:ValN base ts i a l c d y c'):PM θ base 155 (rC ts i a l c d) [] (.ok (.agg (eE y))) c':=by
 have N:=λst p=>@vF base hb ts i hi a l c d st p;have S:=λs st p=>@Vc base hb ts i hi a l c d s st p;have hx:=zq i;suffices h:∀ c0,c0=rC ts i a l c d->PM θ base 155 c0 [] (.ok (.agg (eE y))) c' from h _ rfl
 intro c0 hc0;have hpc:c0.all pc=true:=by rw[hc0];rfl
 subst hc0;unfold rC at N S ⊢;refine jC jiy (by rfl) (hb.pur 155 3 dc) rfl ?_;simp only[jeA,jn,ν,ξ,τ,υ];rw[(by unfold K8;simp only[qq];rfl:K8=_)];repeat'(first|apply jd<;>intro _|simp(disch:=first|exact dzD|fail) only[N,r6,γ,δ,ε,ζ,η])
 refine yF λu hu=>?_;have n0:u.nx=3:=by rw[hu];rfl
 have C0:Cl u 0 [.lst ts.length (fl Tk.cells ts),.int .i64 (i:Int),.int .i64 a,.int .i64 l,.int .i64 c,.int .i64 (d:Int)]:=by
  rw[hu]
  (first|exact cyD|fail)
 have C1:Cl u 1 [.int .i64 0,.int .i64 0,.str [],.nils,.int .i64 0,.int .i64 0]:=by
  rw[hu]
  (first|exact cyD|fail)
 have C2:Cl u 2 (tk ts i).cells:=by
  rw[hu]
  (first|exact cyD|fail)
 clear hu N hpc;refine qB (λmm L s=>∃ m:Nat,m<=9/\mm=9 - m/\s.nx=3/\Cl s 0 [.lst ts.length (fl Tk.cells ts),.int .i64 (i:Int),.int .i64 a,.int .i64 l,.int .i64 c,.int .i64 (d:Int)]/\Cl s 1 [.int .i64 0,.int .i64 0,.str [],.nils,.int .i64 0,.int .i64 0]/\Cl s 2 (tk ts i).cells/\Has L 0 (.ptr 0 0)/\Has L 2 (.ptr 1 0)/\Has L 3 (.ptr 2 0)/\Has L 4 (.int .i64 ((5+m:Nat):Int))) ?_ 9 ?_
 ·clear C0 C1 C2 n0 u;rintro mm L s ⟨m,hm,rfl,n0,C0,C1,C2,i0,i2,i3,i4⟩;have L0:=C0.lt;have L1:=C1.lt;have L2:=C2.lt;by_cases h9:m=9
  ·have e:¬ ((5+m:Nat):Int)<=13:=om
   clear hm h9 hno;cases H with
   |par h Wi E M=>
    have S1:=λst p=>S [40] st p;rw[h] at S1;have e1:(d:Int)+1 - 1=(d:Int):=om
    unfold rC at *
    (have zz:=aI @n0 (aI C0.r (aI C1.r C2.r));(repeat'(first|apply jd<;>intro _|simp(disch:=first|exact jK|fail) only[ja i0,ja i2,ja i3,ja i4,e,S1,hx,Wi,E,e1,M,C0.q,C1.q,C2.q,n0,C0.r,C1.r,C2.r,r6,γ,δ,ε,ζ,η]));all_goals clear zz)
    (refine G1.done ?_ (by rfl) (by rfl) ?_;(· (have zz:=aI C0.q (aI C1.q (aI C2.q (aI @n0 (aI C0.r (aI C1.r C2.r)))));first|exact ju|fail));(· first|exact vyD|skip))
   |num h k=>
    have S1:=λst p=>S [40] st p;rw[h] at S1;have k':((tk ts i).kind:Int)=2:=om
    unfold rC at *
    (have zz:=aI @n0 (aI C0.r (aI C1.r C2.r));(repeat'(first|apply jd<;>intro _|simp(disch:=first|exact jK|fail) only[ja i0,ja i2,ja i3,ja i4,e,S1,hx,k',C0.q,C1.q,C2.q,n0,C0.r,C1.r,C2.r,r6,γ,δ,ε,ζ,η]));all_goals clear zz)
    (refine G1.done ?_ (by rfl) (by rfl) ?_;(· (have zz:=aI C0.q (aI C1.q (aI C2.q (aI @n0 (aI C0.r (aI C1.r C2.r)))));first|exact ju|fail));(· first|exact vyD|skip))
   |nam h k=>
    have S1:=λst p=>S [40] st p;rw[h] at S1;have k':((tk ts i).kind:Int)=1:=om
    have k2':¬ ((tk ts i).kind:Int)=2:=om
    unfold rC at *
    (have zz:=aI @n0 (aI C0.r (aI C1.r C2.r));(repeat'(first|apply jd<;>intro _|simp(disch:=first|exact jK|fail) only[ja i0,ja i2,ja i3,ja i4,e,S1,hx,k',k2',C0.q,C1.q,C2.q,n0,C0.r,C1.r,C2.r,r6,γ,δ,ε,ζ,η]));all_goals clear zz)
    (refine G1.done ?_ (by rfl) (by rfl) ?_;(· (have zz:=aI C0.q (aI C1.q (aI C2.q (aI @n0 (aI C0.r (aI C1.r C2.r)))));first|exact ju|fail));(· first|exact vyD|skip))
   |tru h k2 k1 b=>
    have S1:=λst p=>S [40] st p;rw[h] at S1;have S2:=λst p=>S [116,114,117,101] st p;rw[b] at S2;have ht:(tk ts i).text=[116,114,117,101]:=by
     unfold jX at b;rw[Qad,Qad,decide_eq_true_eq] at b;exact b.1.1
    have k':¬ ((tk ts i).kind:Int)=1:=om
    have k2':¬ ((tk ts i).kind:Int)=2:=om
    unfold rC at *
    (have zz:=aI @n0 (aI C0.r (aI C1.r C2.r));(repeat'(first|apply jd<;>intro _|simp(disch:=first|exact jK|fail) only[ja i0,ja i2,ja i3,ja i4,e,S1,S2,hx,k',k2',ht,C0.q,C1.q,C2.q,n0,C0.r,C1.r,C2.r,r6,γ,δ,ε,ζ,η]));all_goals clear zz)
    (refine G1.done ?_ (by rfl) (by rfl) ?_;(· (have zz:=aI C0.q (aI C1.q (aI C2.q (aI @n0 (aI C0.r (aI C1.r C2.r)))));first|exact ju|fail));(· first|exact vyD|skip))
   |fls h k2 k1 b b2=>
    have S1:=λst p=>S [40] st p;rw[h] at S1;have S2:=λst p=>S [116,114,117,101] st p;rw[b] at S2;have S3:=λst p=>S [102,97,108,115,101] st p;rw[b2] at S3;have ht:¬ (tk ts i).text=[116,114,117,101]:=by
     unfold jX at b2;rw[Qad,Qad,decide_eq_true_eq] at b2;rw[b2.1.1];decide
    have k':¬ ((tk ts i).kind:Int)=1:=om
    have k2':¬ ((tk ts i).kind:Int)=2:=om
    unfold rC at *
    (have zz:=aI @n0 (aI C0.r (aI C1.r C2.r));(repeat'(first|apply jd<;>intro _|simp(disch:=first|exact jK|fail) only[ja i0,ja i2,ja i3,ja i4,e,S1,S2,S3,hx,k',k2',ht,C0.q,C1.q,C2.q,n0,C0.r,C1.r,C2.r,r6,γ,δ,ε,ζ,η]));all_goals clear zz)
    (refine G1.done ?_ (by rfl) (by rfl) ?_;(· (have zz:=aI C0.q (aI C1.q (aI C2.q (aI @n0 (aI C0.r (aI C1.r C2.r)))));first|exact ju|fail));(· first|exact vyD|skip))
   |@non q a2 l2 c2 h k2 k1 b b2 F=>
    have F:At base 45 (rC ts i a l c d) [.agg [.int .i64 ((tk ts i).kind:Int),.str (tk ts i).text,.int .i64 ((tk ts i).num:Int),.int .i64 ((tk ts i).line:Int),.int .i64 ((tk ts i).col:Int)]] (.ok (.tup [])) (rC ts q a2 l2 c2 d):=F;have S1:=λst p=>S [40] st p;rw[h] at S1;have S2:=λst p=>S [116,114,117,101] st p;rw[b] at S2;have S3:=λst p=>S [102,97,108,115,101] st p;rw[b2] at S3;have k':¬ ((tk ts i).kind:Int)=1:=om
    have k2':¬ ((tk ts i).kind:Int)=2:=om
    unfold rC at *
    (have zz:=aI @n0 (aI C0.r (aI C1.r C2.r));(repeat'(first|apply jd<;>intro _|simp(disch:=first|exact jK|fail) only[ja i0,ja i2,ja i3,ja i4,e,S1,S2,S3,hx,k',k2',F,C0.q,C1.q,C2.q,n0,C0.r,C1.r,C2.r,r6,γ,δ,ε,ζ,η]));all_goals clear zz)
    (refine G1.done ?_ (by rfl) (by rfl) ?_;(· (have zz:=aI C0.q (aI C1.q (aI C2.q (aI @n0 (aI C0.r (aI C1.r C2.r)))));first|exact ju|fail));(· first|exact vyD|skip))
  ·have e:((5+m:Nat):Int)<=13:=om
   have G:=US hb ((5+m:Nat):Int);have e2:((5+m:Nat):Int)+1=((5+(m+1):Nat):Int):=om
   have S:=λst p=>S (sgn ((5+m:Nat):Int)) st p;rw[hno m om] at S
   (have zz:=aI @n0 (aI C0.r (aI C1.r C2.r));(repeat'(first|apply jd<;>intro _|simp(disch:=first|exact jK|fail) only[ja i0,ja i2,ja i3,ja i4,e,G,S,e2,C0.q,C1.q,C2.q,n0,C0.r,C1.r,C2.r,r6,γ,δ,ε,ζ,η]));all_goals clear zz)
   refine⟨9 - (m+1),om,m+1,om,rfl,?_,?_,?_,?_⟩
   ·(have zz:=aI C0.q (aI C1.q (aI C2.q (aI C0.r (aI C1.r C2.r))));first|exact ju|fail)
   ·(have zz:=aI C0.q (aI C1.q (aI C2.q (aI C0.r (aI C1.r C2.r))));first|exact ju|fail)
   ·(have zz:=aI C0.q (aI C1.q (aI C2.q (aI C0.r (aI C1.r C2.r))));first|exact ju|fail)
   ·simp(disch:=decide) only[h12,i0,i2,i3]
 ·refine⟨0,om,rfl,n0,C0,C1,C2,?_⟩;rw[show((5+0:Nat):Int)=5 from rfl];simp(disch:=decide) only[h12]
theorem Gt {f g:AV->Option (AV×List Nat)}{p:Nat->Prop}(hfg:∀ v u ks,f v=some (u,ks)->(∀ b∈ks,p b)->g v=some (u,ks)):∀ (l r:List AV) (ks:List Nat),fzs f l=some (r,ks)->(∀ b∈ks,p b)->fzs g l=some (r,ks)
 |[],r,ks,h,_=>by simpa only[fzs] using h
 |v :: l,r,ks,h,hp=>by
  simp only[fzs] at h ⊢;split at h<;>try(cases h;done)
  rename_i y k1 l1 k2 e1 e2;simp only[Option.some.injEq,Prod.mk.injEq] at h;obtain⟨rfl,rfl⟩:=h;rw[hfg _ _ _ e1 λb hb=>hp b (QbT _ hb),Gt hfg _ _ _ e2 λb hb=>hp b (List.mem_append_right _ hb)]
theorem jgJ {h h':T AO}:∀ (d d':Nat),d<=d'->∀ (v u:AV) (ks:List Nat),fz d h v=some (u,ks)->(∀ b∈ks,jr h' b=jr h b)->fz d' h' v=some (u,ks)
 |0,d',_,v,u,ks,e,_=>by cases e
 |d+1,0,hd,_,_,_,_,_=>by omega
 |d+1,d'+1,hd,v,u,ks,e,hp=>by
  have ih:=jgJ (h:=h) (h':=h') d d' om;have ihs:=λl r js=>Gt (p:=λb=>jr h' b=jr h b) ih l r js;cases v<;>simp only[fz] at e ⊢<;>try exact e
  case agg cs=>
   obtain⟨⟨l,js⟩,h1,h2⟩:=qJ e;cases h2;rw[ihs _ _ _ h1 hp];rfl
  case tup cs=>
   obtain⟨⟨l,js⟩,h1,h2⟩:=qJ e;cases h2;rw[ihs _ _ _ h1 hp];rfl
  case fn f cs=>
   obtain⟨⟨l,js⟩,h1,h2⟩:=qJ e;cases h2;rw[ihs _ _ _ h1 hp];rfl
  case iface t x=>
   obtain⟨⟨l,js⟩,h1,h2⟩:=qJ e;cases h2;rw[ih _ _ _ h1 hp];rfl
  case slice b o len c sz x=>
   split at e<;>try(cases e;done)
   rename_i n zl z cs hg;cases hc:Qcd (Qce o (Qcf len sz)) n with
   |false=>rw[hc] at e;cases e
   |true=>
    rw[hc] at e;obtain⟨⟨l,js⟩,h1,h2⟩:=qJ e;cases h2;rw[hp b (QbY ..),hg];dsimp only;rw[hc,ihs _ _ _ h1 λb' hb'=>hp b' (Qbn _ hb')];rfl
def Fr (hi D:Nat)(s:St)(cs vs:List AV):Prop:=∃ ks,fzs (fz D s.h) cs=some (vs,ks)/\∀ b∈ks,3<=b/\b<hi
theorem Fr.keep {hi D hi' D':Nat}{s s':St}{cs vs:List AV}(h:Fr hi D s cs vs)(h1:hi<=hi')(h2:D<=D')(k:∀ b,3<=b->b<hi->jr s'.h b=jr s.h b):Fr hi' D' s' cs vs:=by
 obtain⟨ks,e,p⟩:=h;exact⟨ks,Gt (p:=λb=>jr s'.h b=jr s.h b) (λv u ks=>jgJ D D' h2 v u ks) _ _ _ e λb hb=>k b (p b hb).1 (p b hb).2,λb hb=>⟨(p b hb).1,Qas (p b hb).2 h1⟩⟩
theorem Fr.pc {hi D:Nat}{s:St}{cs:List AV}(h:cs.all pc=true):Fr hi (D+1) s cs cs:=⟨[],Zm h,λb hb=>by cases hb⟩
theorem Fr.fzd {hi D d:Nat}{s:St}{cs vs:List AV}(h:Fr hi D s cs vs)(hd:D<=d):FzD 1 (d+1) s (.agg cs) (.agg vs):=by
 obtain⟨ks,e,p⟩:=h.keep (s':=s) (D':=d) (φ _) hd λ_ _ _=>rfl;exact FzD.agg ⟨ks,e,λb hb=>by have:=(p b hb).1;omega⟩
theorem Vy {f:AV->Option (AV×List Nat)}:∀ {l r:List AV} {l' r':List AV} {ks js:List Nat},fzs f l=some (l',ks)->fzs f r=some (r',js)->fzs f (l ++ r)=some (l' ++ r',ks ++ js)
 |[],r,l',r',ks,js,h,k=>by
  simp only[fzs,Option.some.injEq,Prod.mk.injEq] at h;obtain⟨rfl,rfl⟩:=h;exact k
 |v :: l,r,l',r',ks,js,h,k=>by
  simp only[fzs] at h;split at h<;>try(cases h;done)
  rename_i y k1 l1 k2 e1 e2;simp only[Option.some.injEq,Prod.mk.injEq] at h;obtain⟨rfl,rfl⟩:=h;simp only[Qay,fzs];rw[e1,Vy e2 k];simp
theorem Fr.two {hi D b:Nat}{s:St}{cs:List AV}{x y:Ex}{op num l c:Int}{nm:List Nat}{ex:Bool}(h:Fr hi (D+1) s cs (eE x))(hl:cs.length=6)(C:Cl s b (cs ++ eE y))(hb:3<=b)(hhi:hi<=b) :
  Fr (b+1) (D+2) s [.int .i64 op,.int .i64 num,.str nm,.slice b 0 2 2 6 ex,.int .i64 l,.int .i64 c] (eE (.mk op num nm [x,y] l c)):=by
 obtain⟨ks,e,p⟩:=h;have e2:=Vy e (Zm (m:=s.h) (d:=D) (Jc y));have hlen:(cs ++ eE y).length=12:=by rw[Qag,hl,Jr]
 obtain⟨k,zl,z,ct,h1,h2,h3⟩:=C.rw_.len;have e3:fz (D+2) s.h (.slice b 0 2 2 6 ex)=some (.lst 2 (eE x ++ eE y),b :: (ks ++ [])):=by
  show(match jr s.h b with
   |some (.row n' zl z cs)=>cond (Qcd (Qce 0 (Qcf 2 6)) n') ((fzs (fz (D+1) s.h) (jN zl z cs (Qcf 2 6) 0)).map λ(p:List AV×List Nat)=>(AV.lst 2 p.1,b :: p.2)) none
   |_=>none)=_
  rw[h1];dsimp only;have e1:Qcd (Qce 0 (Qcf 2 6)) k=true:=by rw[qe];show 0+2 * 6<=k;omega
  have e4:jN zl z ct (Qcf 2 6) 0=cs ++ eE y:=by
   rw[vr zl z ct (n:=k) (o:=0) (by show 0+2 * 6<=k;omega),h2,QaO];show List.take 12 _=_;rw[<-hlen,Qaw]
  rw[e1,e4,e2];rfl
 refine⟨b :: (ks ++ []),?_,λb' hb'=>?_⟩
 ·rw[qO];simp only[fzs];rw[e3];simp[fz,fl,Ex.op,Ex.num,Ex.name,Ex.kids,Ex.line,Ex.col]
 ·rcases QaF.1 hb' with h|h
  ·omega
  ·rw[Qbj] at h;have:=p b' h;omega
def SC {α:Type}(ts:List Tk)(d:Nat)(enc:α->AV)(r:SR α)(v:AV)(s:St):Prop:=match r with | .ok y j=>G1 6 (oC ts j d) (enc y) v s | .er t=>∃ y,G1 6 (fC ts t d) (enc y) v s
theorem Zs {α:Type}{f:FuncId}{F:XF}(hl:jF θ f=some F)(hnd:F.body.nd=true)(hm:base.pur f=3){xs:List AV}{ts:List Tk}{i d:Nat}{a l e:Int}{enc:α->AV}{r:SR α}
  (h:xC θ base F.body (jn F.ps (.ptr 0 0 :: xs)) (nw st0 (rC ts i a l e d)) (Yn θ F.res (SC ts d enc r)) λv _ s=>False):AnC base f (rC ts i a l e d) xs ts d enc r:=by
 rw[<-uG] at h;obtain⟨q,he,hq⟩:=XR (st:=Xc (rC ts i a l e d)) (K:=SC ts d enc r) (Kp:=λ_ _=>False) hl hnd h;cases q with
 |no=>exact hq.elim
 |pn v s=>exact(hq:False).elim
 |ok v s=>
  cases r with
  |ok y j=>exact PM.of hm rfl ⟨_,he,hq⟩
  |er t=>
   obtain⟨y,hq⟩:=(hq:∃ y,G1 6 (fC ts t d) (enc y) v s);exact⟨y,PM.of hm rfl ⟨_,he,hq⟩⟩
end Go.Sy
end
