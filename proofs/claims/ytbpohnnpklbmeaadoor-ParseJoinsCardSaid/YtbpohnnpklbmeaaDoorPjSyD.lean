/-
  Contracts: the code lowered, what it does told by rules, and the contracts of the functions that the law reaches.
-/
import Derived.Test.YtbpohnnpklbmeaaDoorPjSyC
import Derived.Test.YtbpohnnpklbmeaaDoorProg
import Derived.KernelRfl
import Derived.ChangeArms
import Derived.Shelf.LaysC
import Derived.Shelf.Strconv.ParseIntPublic10
set_option linter.unusedVariables false
set_option linter.unusedSimpArgs false
open Int renaming reduceToNat → Qaa, natCast_zero → Qan, zero_add → Qaq, ofNat → Qbb, eq_ofNat_of_zero_le → Qbk, natCast_nonneg → QbR
open Nat renaming reduceAdd → Qab, reduceSub → Qac, reduceMul → Qad, reduceBEq → Qae, le_refl → Qag, ble → Qak, beq → Qap, mul → Qar, le_trans → Qas, add → Qaw, succ → Qax, le_max_right → QaB, le_max_left → QaC, zero_add → QaF, lt_of_lt_of_le → QaH, zero_le → QaM, lt_or_ge → QaR, sub → QaS, add_mul → Qbd, sub_zero → Qbf, mul_le_mul_right → Qbg, lt_succ_self → Qbt, not_lt_zero → Qbw, le_of_eq → Qbx, mod_eq_of_lt → QbB, succ_lt_succ → QbE, add_zero → QbG, zero_mul → QbH, succ_mul → QbI, min_eq_left → QbJ, succ_pos → QbO, ne_of_lt → QbX, add_assoc → QbZ, lt_irrefl → Qca, add_comm → Qci, lt_trichotomy → Qcm
open Go.Proofs.Tryd renaming prog → Qaf
open List renaming getD_cons_zero → Qah, getD_cons_succ → Qai, map_cons → Qaj, length_cons → Qal, map_nil → Qam, length_nil → Qao, length_append → Qat, getElem?_eq_getElem → Qav, length_drop → QaA, range' → QaD, getD_eq_getElem?_getD → QaE, all_eq_true → QaG, getD → QaI, getElem_mem → QaJ, eq_nil_of_length_eq_zero → QaL, range → QaN, length_take → QaO, cons → QaP, cons_append → QaT, length_map → QaU, nil_append → QaV, take_length → QaY, all_cons → QaZ, map_append → Qbe, mem_append → Qbj, map_congr_left → Qbl, take_append_of_le_length → Qbn, range'_succ → Qbo, mem_cons → Qbp, getElem?_append_right → Qbs, getElem?_append_left → Qbu, map_map → Qbv, getElem?_map → Qby, take_succ_cons → Qbz, drop_drop → QbA, drop_zero → QbD, getElem_cons_succ → QbF, mem_cons_of_mem → QbM, ext_getElem → QbN, map_toArray → QbP, append_nil → QbS, getElem_cons_zero → QbT, take_take → QbU, take_zero → QbV, countP_singleton → QbW, length → Qcb, length_pos_iff → Qcd, foldr_cons → Qcf, all_append → Qcg, getElem?_take → Qch, append_assoc → Qck
open Array renaming length_toList → Qau, getElem?_eq_some_iff → Qay, replicate → QaQ, getD_eq_getD_getElem? → Qbq, toList_map → QbC, getElem?_toList → QbK, getElem?_setIfInBounds_ne → QbQ, mem_toList_iff → QbY, toList_append → Qcc, getElem?_eq_getElem → Qce
open Bool renaming and_eq_true → Qaz, eq_iff_iff → QaW, false_eq_true → Qba, not_eq_true' → Qbh, or_eq_true → Qbi, or_eq_false_iff → QbL, true_eq_false → Qcj
open Option renaming map_some → QaK, getD_some → QaX, bind_some → Qbc, map_none → Qbm, map_eq_some_iff → Qbr
open Function renaming comp_def → Qcl
noncomputable section
set_option maxRecDepth 100000
namespace Go.Sy
open Go.Ev Go.Proofs
variable {base:Bs}
theorem wS (r:RuleT):ruE r=[.int .i64 r.when.op,.int .i64 r.when.num,.str r.when.name,.lst r.when.kids.length (fl eE r.when.kids),.int .i64 r.when.line,.int .i64 r.when.col,.lst r.acts.length (fl asE r.acts)]:=by unfold ruE;rw[yg];rfl
theorem Y0 (r:RuleT):(ruE r).length=7:=nr (by rw[wS];rfl)
theorem je5 (r:RuleT):(ruE r).all pc=true:=nr (by rw[wS];rfl)
theorem ZV {ts:List Tk}(W:Wds ts):∀ n i vs ws j,i<ts.length->zg ts n i vs=.ok ws j->i<=j/\j<ts.length
 |0,i,vs,ws,j,_,h=>by simp[zg] at h
 |n+1,i,vs,ws,j,hi,h=>by
  unfold zg at h;split at h
  ·rename_i k1;have hi1:i+1<ts.length:=W.next i hi (by omega)
   split at h
   ·cases h
   ·split at h
    ·rename_i c;have hi2:=W.isM hi1 c;cases hw:qr ts (i+2) with
     |er t=>rw[hw] at h;cases h
     |ok x q=>
      rw[hw] at h;dsimp only at h;have g:=yt W hi2 hw;split at h
      ·rename_i c2;have:=ZV W n (q+1) _ ws j (W.isM g.2.1 c2) h;have:=g.1;exact⟨by omega,by omega⟩
      ·split at h
       ·rename_i c3;cases h;have:=W.isM g.2.1 c3;have:=g.1;exact⟨by omega,by omega⟩
       ·cases h
    ·cases h
  ·cases h
theorem ZG {ts:List Tk}(W:Wds ts){i j:Nat}{r:RuleT}(hi:i<ts.length)(h:zM ts i=.ok r j):i<j/\j<ts.length:=by
 unfold zM at h;cases hw:qr ts i with
 |er t=>rw[hw] at h;cases h
 |ok x q=>
  rw[hw] at h;dsimp only at h;have g:=yt W hi hw;split at h
  ·rename_i c;have hq1:=W.isM g.2.1 c;cases ha:zg ts ts.length (q+1) [] with
   |er t=>rw[ha] at h;cases h
   |ok vs k=>
    rw[ha] at h;cases h;have:=ZV W _ _ _ _ _ hq1 ha;have:=g.1;exact⟨by omega,by omega⟩
  ·cases h
structure ProcT where
 name:List Nat
 rules:List RuleT
 line:Int
 col:Int
def prE (p:ProcT):List AV:=[.str p.name,.lst p.rules.length (fl ruE p.rules),.int .i64 (p.line:Int),.int .i64 (p.col:Int)]
def yG (ts:List Tk):Nat->Nat->List RuleT->SR (List RuleT)
 |0,i,_=>.er (tk ts i)
 |n+1,i,vs=>if isM (tk ts i) [[119,104,101,110]]=true then
   (if 32<=vs.length then .er (tk ts i) else match zM ts (i+1) with
    |.er t=>.er t
    |.ok r j=>yG ts n j (vs ++ [r]))
  else if isM (tk ts i) [[125]]=true then .ok vs (i+1) else .er (tk ts i)
def zc (ts:List Tk)(i:Nat):SR ProcT:=
 if(tk ts i).kind=1 then
  (if isM (tk ts (i+1)) [[123]]=true then(match yG ts ts.length (i+2) [] with
    |.ok vs j=>.ok ⟨(tk ts i).text,vs,(tk ts i).line,(tk ts i).col⟩ j
    |.er t=>.er t)
   else .er (tk ts (i+1)))
 else .er (tk ts i)
theorem jin:Go.Ev.isAgg Qaf 65=some false:=by kernel_rfl
theorem jim:Go.Ev.sizeOf Qaf 65=some 1:=by kernel_rfl
theorem jhl {b o:Nat}{v:AV}{h:T AO}(ho:o<qe h b)(hv:rat h b o=v)(hc:eqs v=true):(jN Qaf 65 (.ptr b o) v h=true)=True:=eq_true (zP jin jim ho hv hc)
set_option maxHeartbeats 4000000 in
theorem jhx (hb:NB base){ts:List Tk}(W:Wds ts){i:Nat}(hi:i<ts.length):AnS base 36 (pC ts i 0) [] ts 0 (λe=>.agg (prE e)) (zc ts i):=by
 have wl:=W.len;have N:=λst p=>@ZL base hb ts i 0 hi (by omega) st p;unfold zc;by_cases k1:(tk ts i).kind=1
 ·rw[if_pos k1];have hi1:i+1<ts.length:=W.next i hi (by omega)
  have M:=λst p=>@Jk base hb ts (i+1) 0 hi1 (by omega) [123] st p;by_cases c1:isM (tk ts (i+1)) [[123]]=true
  ·rw[if_pos c1];have hi2:=W.isM hi1 c1;suffices h:∀ r:SR ProcT,(match yG ts ts.length (i+2) [] with
    |.ok vs j=>SR.ok ⟨(tk ts i).text,vs,(tk ts i).line,(tk ts i).col⟩ j
    |.er t=>.er t:SR ProcT)=r->AnS base 36 (pC ts i 0) [] ts 0 (λe=>.agg (prE e)) r from h _ rfl
   intro r hr;refine YU x80 (by rfl) (hb.pur 36 3 (by decide)) ?_;simp only[y80,jn,Qaj,Qam,Qah,Qai];rw[(by unfold z80;simp only[qq];rfl:z80=_)];unfold pC at *;repeat'(first|(apply jb<;>intro _)|simp(disch:=first|exact dzD|fail) only[N,k1,M,c1,jj,Tk.cells_R,rzZ,Qab,Qac,Qad,Qaa,Qae])
   refine Zw λu hu=>?_;have n0:u.nx=4:=by rw[hu];rfl
   have C0:Cl u 0 (pC ts (i+2) 0):=by
    rw[hu];unfold pC
    (first|exact cyD|fail)
   have C1:Cl u 1 [.str [],.nils,.int .i64 0,.int .i64 0]:=by
    rw[hu]
    (first|exact cyD|fail)
   have C3:Cl u 3 [.str (tk ts i).text,.nils,.int .i64 ((tk ts i).line:Int),.int .i64 ((tk ts i).col:Int)]:=by
    rw[hu]
    (first|exact cyD|fail)
   clear hu N M;generalize (tk ts i).text=nm at *;generalize (tk ts i).line=ln at *;generalize (tk ts i).col=co at *;refine zI (λmm L s=>∃ (m i':Nat) (vs:List RuleT) (v:AV),mm=m/\ts.length<=i'+m/\i'<ts.length/\(match yG ts m i' vs with | .ok vs j=>SR.ok ⟨nm,vs,ln,co⟩ j | .er t=>.er t:SR ProcT)=r/\4<=s.nx/\Cl s 0 (pC ts i' 0)/\Cl s 1 [.str [],.nils,.int .i64 0,.int .i64 0]/\Cl s 3 [.str nm,v,.int .i64 (ln:Int),.int .i64 (co:Int)]/\Lv 4 s.nx s v vs.length (fl ruE vs) 7/\Has L 0 (.ptr 0 0)/\Has L 2 (.ptr 1 0)/\Has L 4 (.ptr 3 0)) ?_ ts.length ?_
   ·rintro m L s ⟨_,i',vs,v,rfl,hm,hi',hl,n0,C0,C1,C3,V,i0,i2,i4⟩;clear hr;cases m with
    |zero=>omega
    |succ m=>
    unfold yG at hl;obtain⟨q,hq⟩:∃ q,q=s.nx:=⟨_,rfl⟩;rw[<-hq] at V;have hq':q<=s.nx:=Qbx hq;have T:=QJ hb hi' (d:=0) (by omega) [[119,104,101,110]] (cs:=[.str [119,104,101,110]]) (n:=1) rfl rfl (by decide);have L0:=C0.lt;have L1:=C1.lt;have L3:=C3.lt;have ve:=V.eqs;have g3:rat s.h 3 1=v:=C3.cell 1 (QbE (QbO 2));have vl:=V.len;have vc:∀ l,lall AV.cell (v :: l)=lall AV.cell l:=λl=>by show cond v.cell _ false=_;rw[V.cell];rfl
    by_cases c2:isM (tk ts i') [[119,104,101,110]]=true
    ·rw[if_pos c2] at hl;have hi1:=W.isM hi' c2;by_cases h32:32<=vs.length
     ·rw[if_pos h32] at hl;have hl:SR.er (tk ts i')=r:=hl;subst hl;have R:=Yg hb h32 (tk ts i');unfold pC at *
      (have zz:=aI @g3 (aI C0.r (aI C1.r C3.r));(repeat'(first|(apply jb<;>intro _)|simp(disch:=first|exact qm|fail) only[ja i0,ja i2,ja i4,T,c2,vl,R,g3,yD,C0.q,C1.q,C3.q,g3,C0.r,C1.r,C3.r,jj,Tk.cells_R,rzZ,Qab,Qac,Qad,Qaa,Qae]));(all_goals(clear zz)))
      refine⟨i'+1,0,?_⟩;unfold pC
      (refine G1.done ?_ (by rfl) (by rfl) ?_;(· (have zz:=aI C0.q (aI C1.q (aI C3.q (aI C0.r (aI C1.r C3.r))));first|exact jX|fail));(· first|exact vyD|skip))
     ·rw[if_neg h32] at hl;have R:=Yf hb (show vs.length<32 by omega) (tk ts i');have A:=jhr hb W hi1;cases hw:zM ts (i'+1) with
      |er t=>
       rw[hw] at hl A;have hl:SR.er t=r:=hl;subst hl;obtain⟨i2',d2,A⟩:=A;have E:∀ st p,Cl st p (pC ts (i'+1) 0)->∀ K Kp,XB Qaf base 57 [.ptr p 0] st K Kp=_:=λst p C K Kp=>A.xb C rfl (λst=>hb.no 57 (by decide) _ _) K Kp;unfold pC at *
       (have zz:=aI @g3 (aI C0.r (aI C1.r C3.r));(repeat'(first|(apply jb<;>intro _)|simp(disch:=first|exact qm|fail) only[ja i0,ja i2,ja i4,T,c2,vl,R,g3,E,jhl,ve,yD,C0.q,C1.q,C3.q,g3,C0.r,C1.r,C3.r,jj,Tk.cells_R,rzZ,Qab,Qac,Qad,Qaa,Qae]));(all_goals(clear zz)))
       refine⟨i2',d2,?_⟩;unfold pC
       (refine G1.done ?_ (by rfl) (by rfl) ?_;(· (have zz:=aI C0.q (aI C1.q (aI C3.q (aI C0.r (aI C1.r C3.r))));first|exact jX|fail));(· first|exact vyD|skip))
      |ok a j=>
       rw[hw] at hl A;dsimp only at hl;have A:PM _ _ _ _ _ _ _:=A;have A:PM Qaf base 57 (pC ts (i'+1) 0) [] (.ok (.agg [.int .i64 a.when.op,.int .i64 a.when.num,.str a.when.name,.lst a.when.kids.length (fl eE a.when.kids),.int .i64 a.when.line,.int .i64 a.when.col,.lst a.acts.length (fl asE a.acts)])) (pC ts j 0):=by rw[<-wS];exact A
       have hj:=ZG W hi1 hw;have E:∀ st p,Cl st p (pC ts (i'+1) 0)->∀ K Kp,XB Qaf base 57 [.ptr p 0] st K Kp=_:=λst p C K Kp=>A.xb C rfl (λst=>hb.no 57 (by decide) _ _) K Kp;have Ap:=λst bv xc xx K h hv=>@wG 4 q vs.length 7 st v (fl ruE vs) K 96 bv xc xx h (by decide) (by omega) (by omega) hv;have V2:∀ st m',Lv 4 q st v vs.length (fl ruE vs) 7->4<=st.nx->m'=st.nx+1->Lv 4 m' (aps v st [.int .i64 a.when.op,.int .i64 a.when.num,.str a.when.name,.lst a.when.kids.length (fl eE a.when.kids),.int .i64 a.when.line,.int .i64 a.when.col,.lst a.acts.length (fl asE a.acts)]) (apv 7 v st) (vs ++ [a]).length (fl ruE (vs ++ [a])) 7:=λst m' h h2 h3=>by
        rw[Qat,YO,Xz,wS a];exact h.put rfl h2 h3
       unfold pC at *
       (have zz:=aI @g3 (aI V.ln (aI V.rts (aI @jP (aI @jQ (aI @j0 (aI @V (aI @jt (aI @jA (aI @jL (aI C0.r (aI C1.r C3.r)))))))))));(repeat'(first|(apply jb<;>intro _)|simp(disch:=first|exact qm|fail) only[ja i0,ja i2,ja i4,T,c2,vl,R,g3,E,jhl,ve,Ap,V.at,jt,C0.q,C1.q,C3.q,g3,V.ln,V.rts,jP,jQ,j0,V,jt,jA,jL,C0.r,C1.r,C3.r,jj,Tk.cells_R,rzZ,Qab,Qac,Qad,Qaa,Qae]));(all_goals(clear zz)))
       refine⟨m,by omega,m,j,vs ++ [a],?v,rfl,by omega,hj.2,hl,by omega,?c0,?c1,?c3,?lv,?has⟩;case lv=>
        refine Lv.up (hi:=s.nx+4) ?_ (by omega);refine V2 _ _ ?_ ?_ ?_;all_goals first|(simp only[jf,jg,jl];done)|(simp only[jf,jg,jl];omega)|(simp(disch:=first|omega|(simp only[jf,jg,jl];omega)) only[jP,jQ,j0];exact V)
       case c0=>(have zz:=aI C0.q (aI C1.q (aI C3.q (aI @g3 (aI V.ln (aI V.rts (aI @jt (aI @jA (aI @jL (aI C0.r (aI C1.r C3.r))))))))));first|exact jX|fail)
       case c1=>(have zz:=aI C0.q (aI C1.q (aI C3.q (aI @g3 (aI V.ln (aI V.rts (aI @jt (aI @jA (aI @jL (aI C0.r (aI C1.r C3.r))))))))));first|exact jX|fail)
       case c3=>(have zz:=aI C0.q (aI C1.q (aI C3.q (aI @g3 (aI V.ln (aI V.rts (aI @jt (aI @jA (aI @jL (aI C0.r (aI C1.r C3.r))))))))));first|exact jX|fail)
       case has=>simp(disch:=decide) only[Qan,Qaq,z0,z1,ji,jc,and_true,true_and,i0,i2,i4]
    ·rw[if_neg c2] at hl;have M:=λst p=>@Jk base hb ts i' 0 hi' (by omega) [125] st p;unfold pC at *
     (have zz:=aI @g3 (aI @vc (aI C0.r (aI C1.r C3.r)));(repeat'(first|(apply jb<;>intro _)|simp(disch:=first|exact qm|fail) only[ja i0,ja i2,ja i4,T,c2,M,g3,C0.q,C1.q,C3.q,g3,vc,C0.r,C1.r,C3.r,jj,Tk.cells_R,rzZ,Qab,Qac,Qad,Qaa,Qae]));(all_goals(clear zz)))
     ·rename_i c4;rw[if_pos c4] at hl;have hl:SR.ok (⟨nm,vs,ln,co⟩:ProcT) (i'+1)=r:=hl;subst hl;show G1 3 (pC ts (i'+1) 0) (.agg (prE ⟨nm,vs,ln,co⟩)) _ _;refine G1.done ?_ (by rfl) (by rfl) (FzD.agg (.cons (.pc rfl) (.cons (Lv.fz (lo:=4) (hi:=q) (z:=7) ?_ (by decide) (Qh je5 _)) (.cons (.pc rfl) (.cons (.pc rfl) .nil)))))
      ·unfold pC
       (have zz:=aI C0.q (aI C1.q (aI C3.q (aI @g3 (aI V.ln (aI V.rts (aI @jt (aI @jA (aI @jL (aI C0.r (aI C1.r C3.r))))))))));first|exact jX|fail)
      ·simp(disch:=first|omega|(simp only[jf,jg,jl];omega)) only[j4,jP,jQ,j0];exact V
     ·rename_i c4;rw[if_neg c4] at hl;have hl:SR.er (tk ts i')=r:=hl;subst hl;refine⟨i',0,?_⟩;unfold pC
      (refine G1.done ?_ (by rfl) (by rfl) ?_;(· (have zz:=aI C0.q (aI C1.q (aI C3.q (aI @g3 (aI V.ln (aI V.rts (aI @jt (aI @jA (aI @jL (aI C0.r (aI C1.r C3.r))))))))));first|exact jX|fail));(· first|exact vyD|skip))
   ·refine⟨ts.length,i+2,[],.nils,rfl,by omega,hi2,hr,by omega,C0,C1,C3,Lv.nil,?_⟩;simp(disch:=decide) only[Qan,Qaq,z0,z1,ji,jc,and_true,true_and]
  ·rw[if_neg c1];refine⟨i+1,0,?_⟩;unfold pC at *;refine jR x80 (by rfl) (hb.pur 36 3 (by decide)) rfl ?_;simp only[y80,jn,Qaj,Qam,Qah,Qai];rw[(by unfold z80;simp only[qq];rfl:z80=_)];repeat'(first|(apply jb<;>intro _)|simp(disch:=first|exact dzD|fail) only[N,k1,M,c1,jj,Tk.cells_R,rzZ,Qab,Qac,Qad,Qaa,Qae])
   (refine G1.done ?_ (by rfl) (by rfl) ?_;(· (first|exact cyD|fail));(· first|exact vyD|skip))
 ·rw[if_neg k1];refine⟨i,0,?_⟩;unfold pC at *;refine jR x80 (by rfl) (hb.pur 36 3 (by decide)) rfl ?_;simp only[y80,jn,Qaj,Qam,Qah,Qai];rw[(by unfold z80;simp only[qq];rfl:z80=_)];repeat'(first|(apply jb<;>intro _)|simp(disch:=first|exact dzD|fail) only[N,k1,jj,Tk.cells_R,rzZ,Qab,Qac,Qad,Qaa,Qae])
  (refine G1.done ?_ (by rfl) (by rfl) ?_;(· (first|exact cyD|fail));(· first|exact vyD|skip))
end Go.Sy
end
noncomputable section
set_option maxRecDepth 100000
namespace Go.Sy
open Go.Ev Go.Proofs
variable {base:Bs}
def Df:AV->AV->Prop
 |.slice b _ _ _ _ _,.slice c _ _ _ _ _=>c≠b
 |_,_=>True
theorem Lv.apsD {lo hi n z:Nat}{s:St}{v w:AV}{cs news:List AV}(V:Lv lo hi s w n cs z)(h:Df v w):Lv lo hi (Go.Sy.aps v s news) w n cs z:=by
 rcases V with ⟨rfl,h2,h3⟩|⟨b,rfl,h2,h3,h4,h5,h6⟩
 ·exact .inl ⟨rfl,h2,h3⟩
 ·refine .inr ⟨b,rfl,h2,h3,?_,h5,h6⟩;unfold Go.Sy.aps;split
  ·exact h4.apO h
  ·exact h4.nw news
theorem Df.put {lo hi n z z':Nat}{s t:St}{v w:AV}{cs:List AV}(V:Lv lo hi s w n cs z)(h:hi<=t.nx):Df (apv z' v t) w/\Df w (apv z' v t):=by
 rcases V with ⟨rfl,h2,h3⟩|⟨b,rfl,h2,h3,h4,h5,h6⟩
 ·unfold apv;split<;>exact⟨trivial,trivial⟩
 ·unfold apv;split<;>exact⟨by show b≠t.nx;omega,by show t.nx≠b;omega⟩
structure SrcT where
 enums:List EnumT
 vars:List DeclT
 procs:List ProcT
def srE (m:SrcT):List AV:=[.lst m.enums.length (fl enE m.enums),.lst m.vars.length (fl qo m.vars),.lst m.procs.length (fl prE m.procs)]
def yr (ts:List Tk):Nat->Nat->SrcT->SR SrcT
 |0,i,_=>.er (tk ts i)
 |n+1,i,m=>if isM (tk ts i) [[101,110,117,109],[118,97,114],[112,114,111,99,101,115,115]]=true then
   (if(tk ts i).text=[101,110,117,109] then
    (if 32<=m.enums.length then .er (tk ts i) else match ze ts (i+1) with
     |.er t=>.er t
     |.ok e j=>yr ts n j { m with enums:=m.enums ++ [e] })
   else if(tk ts i).text=[118,97,114] then
    (if 32<=m.vars.length then .er (tk ts i) else match zf ts (i+1) with
     |.er t=>.er t
     |.ok e j=>yr ts n j { m with vars:=m.vars ++ [e] })
   else(if 32<=m.procs.length then .er (tk ts i) else match zc ts (i+1) with
     |.er t=>.er t
     |.ok e j=>yr ts n j { m with procs:=m.procs ++ [e] }))
  else if(tk ts i).kind=5 then .ok m i else .er (tk ts i)
theorem Zx {ts:List Tk}(W:Wds ts):∀ n i vs ws j,i<ts.length->zu ts n i vs=.ok ws j->i<=j/\j<ts.length
 |0,i,vs,ws,j,_,h=>by simp[zu] at h
 |n+1,i,vs,ws,j,hi,h=>by
  unfold zu at h;split at h
  ·rename_i k1;have hi1:i+1<ts.length:=W.next i hi (by omega)
   split at h
   ·cases h
   ·split at h
    ·rename_i c;have hi2:=W.isM hi1 c;have:=Zx W n (i+2) _ ws j hi2 h;exact⟨by omega,by omega⟩
    ·split at h
     ·rename_i c;cases h;have:=W.isM hi1 c;exact⟨by omega,this⟩
     ·cases h
  ·cases h
theorem Yr {ts:List Tk}(W:Wds ts){i j:Nat}{e:EnumT}(hi:i<ts.length)(h:ze ts i=.ok e j):i<j/\j<ts.length:=by
 unfold ze at h;split at h
 ·rename_i k1;have hi1:i+1<ts.length:=W.next i hi (by omega)
  split at h
  ·rename_i c;have hi2:=W.isM hi1 c;cases hv:zu ts ts.length (i+2) [] with
   |er t=>rw[hv] at h;cases h
   |ok vs k=>
    rw[hv] at h;cases h;have:=Zx W _ _ _ _ _ hi2 hv;exact⟨by omega,by omega⟩
  ·cases h
 ·cases h
theorem YD {ts:List Tk}(W:Wds ts):∀ n i vs ws j,i<ts.length->yG ts n i vs=.ok ws j->i<=j/\j<ts.length
 |0,i,vs,ws,j,_,h=>by simp[yG] at h
 |n+1,i,vs,ws,j,hi,h=>by
  unfold yG at h;split at h
  ·rename_i c;have hi1:=W.isM hi c;split at h
   ·cases h
   ·cases hr:zM ts (i+1) with
    |er t=>rw[hr] at h;cases h
    |ok r k=>
     rw[hr] at h;dsimp only at h;have g:=ZG W hi1 hr;have:=YD W n k _ ws j g.2 h;exact⟨by omega,by omega⟩
  ·split at h
   ·rename_i c;cases h;exact⟨by omega,W.isM hi c⟩
   ·cases h
theorem Ym {ts:List Tk}(W:Wds ts){i j:Nat}{e:ProcT}(hi:i<ts.length)(h:zc ts i=.ok e j):i<j/\j<ts.length:=by
 unfold zc at h;split at h
 ·rename_i k1;have hi1:i+1<ts.length:=W.next i hi (by omega)
  split at h
  ·rename_i c;have hi2:=W.isM hi1 c;cases hv:yG ts ts.length (i+2) [] with
   |er t=>rw[hv] at h;cases h
   |ok vs k=>
    rw[hv] at h;cases h;have:=YD W _ _ _ _ _ hi2 hv;exact⟨by omega,by omega⟩
  ·cases h
 ·cases h
theorem jb1 {ts:List Tk}(W:Wds ts){i j:Nat}{n:Int}(h:yK ts i=.ok n j):i<j:=by
 unfold yK at h;split at h
 ·split at h
  ·cases h;omega
  ·cases h
 ·split at h
  ·cases h;omega
  ·cases h
theorem Wl {ts:List Tk}(W:Wds ts){i j:Nat}{y:List Nat×Int×Int}(hi:i<ts.length)(h:QI ts i=.ok y j):i<j/\j<ts.length:=by
 unfold QI at h;split at h
 ·rename_i c;cases h;exact⟨by omega,W.isM hi c⟩
 ·split at h
  ·rename_i k1;cases h;exact⟨by omega,W.next i hi (by omega)⟩
  ·cases hn:yK ts i with
   |er t=>rw[hn] at h;cases h
   |ok lo k=>
    rw[hn] at h;dsimp only at h;have g:=ZK W hi hn;have g1:=jb1 W hn;split at h
    ·rename_i c;have hk1:=W.isM g c;cases hn2:yK ts (k+1) with
     |er t=>rw[hn2] at h;cases h
     |ok h2 q=>
      rw[hn2] at h;cases h;have:=ZK W hk1 hn2;have:=jb1 W hn2;exact⟨by omega,by omega⟩
    ·cases h
theorem g9 {ts:List Tk}(W:Wds ts){i j:Nat}{bs:List Ex}(hi:i<ts.length)(h:JH ts i=.ok bs j):i<j/\j<ts.length:=by
 unfold JH at h;split at h
 ·rename_i c;have hi1:=W.isM hi c;cases hw:qr ts (i+1) with
  |er t=>rw[hw] at h;cases h
  |ok x k=>
   rw[hw] at h;dsimp only at h;have g:=yt W hi1 hw;split at h
   ·rename_i c2;cases h;have:=W.isM g.2.1 c2;have:=g.1;exact⟨by omega,by omega⟩
   ·cases h
 ·split at h
  ·rename_i c;cases h;exact⟨by omega,W.isM hi c⟩
  ·cases h
theorem Ys {ts:List Tk}(W:Wds ts){i j:Nat}{e:DeclT}(hi:i<ts.length)(h:zf ts i=.ok e j):i<j/\j<ts.length:=by
 unfold zf at h;split at h
 ·rename_i k1;have hi1:i+1<ts.length:=W.next i hi (by omega)
  split at h
  ·rename_i c;have hi2:=W.isM hi1 c;cases ht:QI ts (i+2) with
   |er t=>rw[ht] at h;cases h
   |ok y k=>
    rw[ht] at h;dsimp only at h;have g:=Wl W hi2 ht;cases hv:JH ts k with
    |er t=>rw[hv] at h;cases h
    |ok bs q=>
     rw[hv] at h;cases h;have:=g9 W g.2 hv;exact⟨by omega,by omega⟩
  ·cases h
 ·cases h
end Go.Sy
end
noncomputable section
set_option maxRecDepth 100000
namespace Go.Sy
open Go.Ev Go.Proofs
variable {base:Bs}
theorem jaD (e:EnumT):(enE e).all pc=true:=by
 have:∀ l:List (List Nat),(l.map AV.str).all pc=true:=vQ;show([AV.str e.name,.lst e.vals.length (e.vals.map .str),.int .i64 (e.line:Int),.int .i64 (e.col:Int)]).all pc=true;simp[pc]
theorem V9 (e:DeclT):(qo e).all pc=true:=by
 show([AV.str e.name,.str e.ty,.int .i64 e.lo,.int .i64 e.hi,.lst e.begins.length (fl eE e.begins),.int .i64 (e.line:Int),.int .i64 (e.col:Int)]).all pc=true;simp[pc]
theorem H2 (e:ProcT):(prE e).all pc=true:=by
 show([AV.str e.name,.lst e.rules.length (fl ruE e.rules),.int .i64 (e.line:Int),.int .i64 (e.col:Int)]).all pc=true;simp[pc]
theorem Df.symm {v w:AV}(h:Df v w):Df w v:=by
 unfold Df at *;split at h<;>first|exact λe=>h e.symm|(cases v<;>cases w<;>first|trivial|(rename_i h2;exact absurd rfl (h2 _ _ _ _ _ _ _ _ _ _ _ _ rfl)))
theorem jiD:Go.Ev.isAgg Qaf 34=some false:=by kernel_rfl
theorem jiC:Go.Ev.sizeOf Qaf 34=some 1:=by kernel_rfl
theorem jho {b o:Nat}{v:AV}{h:T AO}(ho:o<qe h b)(hv:rat h b o=v)(hc:eqs v=true):(jN Qaf 34 (.ptr b o) v h=true)=True:=eq_true (zP jiD jiC ho hv hc)
theorem jiB:Go.Ev.isAgg Qaf 35=some false:=by kernel_rfl
theorem jiA:Go.Ev.sizeOf Qaf 35=some 1:=by kernel_rfl
theorem jhn {b o:Nat}{v:AV}{h:T AO}(ho:o<qe h b)(hv:rat h b o=v)(hc:eqs v=true):(jN Qaf 35 (.ptr b o) v h=true)=True:=eq_true (zP jiB jiA ho hv hc)
theorem jiz:Go.Ev.isAgg Qaf 36=some false:=by kernel_rfl
theorem jiy:Go.Ev.sizeOf Qaf 36=some 1:=by kernel_rfl
theorem jhm {b o:Nat}{v:AV}{h:T AO}(ho:o<qe h b)(hv:rat h b o=v)(hc:eqs v=true):(jN Qaf 36 (.ptr b o) v h=true)=True:=eq_true (zP jiz jiy ho hv hc)
set_option maxHeartbeats 8000000 in
theorem jdz (hb:NB base){ts:List Tk}(W:Wds ts)(NN:Nbs ts){i:Nat}(hi:i<ts.length):AnS base 19 (pC ts i 0) [] ts 0 (λe=>.agg (srE e)) (yr ts ts.length i ⟨[],[],[]⟩):=by
 have wl:=W.len;suffices h:∀ r:SR SrcT,yr ts ts.length i ⟨[],[],[]⟩=r->AnS base 19 (pC ts i 0) [] ts 0 (λe=>.agg (srE e)) r from h _ rfl
 intro r hr;refine YU x37 (by rfl) (hb.pur 19 3 (by decide)) ?_;simp only[y37,jn,Qaj,Qam,Qah,Qai];rw[(by unfold z37;simp only[qq];rfl:z37=_)];unfold pC at *;repeat'(first|(apply jb<;>intro _)|simp(disch:=first|exact dzD|fail) only[jj,Tk.cells_R,rzZ,Qab,Qac,Qad,Qaa,Qae])
 refine Zw λu hu=>?_;have n0:u.nx=3:=by rw[hu];rfl
 have C0:Cl u 0 (pC ts i 0):=by
  rw[hu];unfold pC
  (first|exact cyD|fail)
 have C1:Cl u 1 [.nils,.nils,.nils]:=by
  rw[hu]
  (first|exact cyD|fail)
 have C2:Cl u 2 [.nils,.nils,.nils]:=by
  rw[hu]
  (first|exact cyD|fail)
 clear hu;refine zI (λmm L s=>∃ (m i':Nat) (x:SrcT) (v1 v2 v3:AV),mm=m/\ts.length<=i'+m/\i'<ts.length/\yr ts m i' x=r/\3<=s.nx/\Cl s 0 (pC ts i' 0)/\Cl s 1 [.nils,.nils,.nils]/\Cl s 2 [v1,v2,v3]/\Lv 3 s.nx s v1 x.enums.length (fl enE x.enums) 4/\Lv 3 s.nx s v2 x.vars.length (fl qo x.vars) 7/\Lv 3 s.nx s v3 x.procs.length (fl prE x.procs) 4/\Df v1 v2/\Df v1 v3/\Df v2 v3/\Has L 0 (.ptr 0 0)/\Has L 2 (.ptr 1 0)/\Has L 3 (.ptr 2 0)) ?_ ts.length ?_
 ·rintro m L s ⟨_,i',x,v1,v2,v3,rfl,hm,hi',hl,n0,C0,C1,C2,V1,V2,V3,D12,D13,D23,i0,i2,i3⟩;clear hr;cases m with
  |zero=>omega
  |succ m=>
  unfold yr at hl;obtain⟨q,hq⟩:∃ q,q=s.nx:=⟨_,rfl⟩;rw[<-hq] at V1 V2 V3;have hq':q<=s.nx:=Qbx hq;have T:=QJ hb hi' (d:=0) (by omega) [[101,110,117,109],[118,97,114],[112,114,111,99,101,115,115]] (cs:=[.str [101,110,117,109],.str [118,97,114],.str [112,114,111,99,101,115,115]]) (n:=3) rfl rfl (by decide);have L0:=C0.lt;have L1:=C1.lt;have L2:=C2.lt;have ve1:=V1.eqs;have ve2:=V2.eqs;have ve3:=V3.eqs;have g1:rat s.h 2 0=v1:=C2.cell 0 (QbO 2);have g2:rat s.h 2 1=v2:=C2.cell 1 (QbE (QbO 1));have g3:rat s.h 2 2=v3:=C2.cell 2 (QbE (QbE (QbO 0)));have vl1:=V1.len;have vl2:=V2.len;have vl3:=V3.len;have vc1:∀ l,lall AV.cell (v1 :: l)=lall AV.cell l:=λl=>by show cond v1.cell _ false=_;rw[V1.cell];rfl
  have vc2:∀ l,lall AV.cell (v2 :: l)=lall AV.cell l:=λl=>by show cond v2.cell _ false=_;rw[V2.cell];rfl
  have vc3:∀ l,lall AV.cell (v3 :: l)=lall AV.cell l:=λl=>by show cond v3.cell _ false=_;rw[V3.cell];rfl
  by_cases c2:isM (tk ts i') [[101,110,117,109],[118,97,114],[112,114,111,99,101,115,115]]=true
  ·rw[if_pos c2] at hl;have hi1:=W.isM hi' c2;by_cases t1:(tk ts i').text=[101,110,117,109]
   ·rw[if_pos t1] at hl;by_cases h32:32<=x.enums.length
    ·rw[if_pos h32] at hl;have hl:SR.er (tk ts i')=r:=hl;subst hl;have R:=Yg hb h32 (tk ts i');unfold pC at *
     (have zz:=aI @g1 (aI C0.r (aI C1.r C2.r));(repeat'(first|(apply jb<;>intro _)|simp(disch:=first|exact qm|fail) only[ja i0,ja i2,ja i3,T,c2,t1,vl1,R,g1,yD,C0.q,C1.q,C2.q,g1,C0.r,C1.r,C2.r,jj,Tk.cells_R,rzZ,Qab,Qac,Qad,Qaa,Qae]));(all_goals(clear zz)))
     refine⟨i'+1,0,?_⟩;unfold pC
     (refine G1.done ?_ (by rfl) (by rfl) ?_;(· (have zz:=aI C0.q (aI C1.q (aI C2.q (aI C0.r (aI C1.r C2.r))));first|exact jX|fail));(· first|exact vyD|skip))
    ·rw[if_neg h32] at hl;have R:=Yf hb (show x.enums.length<32 by omega) (tk ts i');have A:=jhW hb W (d:=0) hi1;cases hw:ze ts (i'+1) with
     |er t=>
      rw[hw] at hl A;have hl:SR.er t=r:=hl;subst hl;obtain⟨i2',d2,A⟩:=A;have E:∀ st p,Cl st p (pC ts (i'+1) 0)->∀ K Kp,XB Qaf base 34 [.ptr p 0] st K Kp=_:=λst p C K Kp=>A.xb C rfl (λst=>hb.no 34 (by decide) _ _) K Kp;unfold pC at *
      (have zz:=aI @g1 (aI C0.r (aI C1.r C2.r));(repeat'(first|(apply jb<;>intro _)|simp(disch:=first|exact qm|fail) only[ja i0,ja i2,ja i3,T,c2,t1,vl1,R,g1,E,jho,ve1,yD,C0.q,C1.q,C2.q,g1,C0.r,C1.r,C2.r,jj,Tk.cells_R,rzZ,Qab,Qac,Qad,Qaa,Qae]));(all_goals(clear zz)))
      refine⟨i2',d2,?_⟩;unfold pC
      (refine G1.done ?_ (by rfl) (by rfl) ?_;(· (have zz:=aI C0.q (aI C1.q (aI C2.q (aI C0.r (aI C1.r C2.r))));first|exact jX|fail));(· first|exact vyD|skip))
     |ok a j=>
      rw[hw] at hl A;dsimp only at hl;have A:PM Qaf base 34 (pC ts (i'+1) 0) [] (.ok (.agg [.str a.name,.lst a.vals.length (a.vals.map .str),.int .i64 (a.line:Int),.int .i64 (a.col:Int)])) (pC ts j 0):=A;have hj:=Yr W hi1 hw;have E:∀ st p,Cl st p (pC ts (i'+1) 0)->∀ K Kp,XB Qaf base 34 [.ptr p 0] st K Kp=_:=λst p C K Kp=>A.xb C rfl (λst=>hb.no 34 (by decide) _ _) K Kp;have Ap:=λst bv xc xx K h hv=>@wG 3 q x.enums.length 4 st v1 (fl enE x.enums) K 56 bv xc xx h (by decide) (by omega) (by omega) hv;have VP:∀ st m',Lv 3 q st v1 x.enums.length (fl enE x.enums) 4->3<=st.nx->m'=st.nx+1->Lv 3 m' (aps v1 st [.str a.name,.lst a.vals.length (a.vals.map .str),.int .i64 (a.line:Int),.int .i64 (a.col:Int)]) (apv 4 v1 st) (x.enums ++ [a]).length (fl enE (x.enums ++ [a])) 4:=λst m' h h2 h3=>by
       rw[Qat,YO,Xz];exact h.put rfl h2 h3
      unfold pC at *
      (have zz:=aI @g1 (aI V1.ln (aI V1.rts (aI @jP (aI @jQ (aI @j0 (aI @V1 (aI @jt (aI @jA (aI @jL (aI C0.r (aI C1.r C2.r)))))))))));(repeat'(first|(apply jb<;>intro _)|simp(disch:=first|exact qm|fail) only[ja i0,ja i2,ja i3,T,c2,t1,vl1,R,g1,E,jho,ve1,Ap,V1.at,jt,C0.q,C1.q,C2.q,g1,V1.ln,V1.rts,jP,jQ,j0,V1,jt,jA,jL,C0.r,C1.r,C2.r,jj,Tk.cells_R,rzZ,Qab,Qac,Qad,Qaa,Qae]));(all_goals(clear zz)))
      refine⟨m,by omega,m,j,{ x with enums:=x.enums ++ [a] },?v1,v2,v3,rfl,by omega,hj.2,hl,by omega,?c0,?c1,?c2,?lv1,?lv2,?lv3,?d12,?d13,?d23,?has⟩;case lv1=>
       refine Lv.up (hi:=s.nx+4) ?_ (by omega);refine VP _ _ ?_ ?_ ?_;all_goals first|(simp only[jf,jg,jl];done)|(simp only[jf,jg,jl];omega)|(simp(disch:=first|omega|(simp only[jf,jg,jl];omega)) only[jP,jQ,j0];exact V1)
      case lv2=>
       refine Lv.up (hi:=q) ?_ (by omega);simp(disch:=first|omega|(simp only[jf,jg,jl];omega)) only[jP,jQ,j0];refine Lv.apsD ?_ D12;simp(disch:=first|omega|(simp only[jf,jg,jl];omega)) only[jP,jQ,j0];exact V2
      case d12=>exact(Df.put V2 (by simp only[jf,jg,jl];omega)).1
      case lv3=>
       refine Lv.up (hi:=q) ?_ (by omega);simp(disch:=first|omega|(simp only[jf,jg,jl];omega)) only[jP,jQ,j0];refine Lv.apsD ?_ D13;simp(disch:=first|omega|(simp only[jf,jg,jl];omega)) only[jP,jQ,j0];exact V3
      case d13=>exact(Df.put V3 (by simp only[jf,jg,jl];omega)).1
      case d23=>exact D23
      case c0=>(have zz:=aI C0.q (aI C1.q (aI C2.q (aI @g1 (aI @g2 (aI @g3 (aI V1.ln (aI V1.rts (aI @jt (aI @jA (aI @jL (aI C0.r (aI C1.r C2.r))))))))))));first|exact jX|fail)
      case c1=>(have zz:=aI C0.q (aI C1.q (aI C2.q (aI @g1 (aI @g2 (aI @g3 (aI V1.ln (aI V1.rts (aI @jt (aI @jA (aI @jL (aI C0.r (aI C1.r C2.r))))))))))));first|exact jX|fail)
      case c2=>(have zz:=aI C0.q (aI C1.q (aI C2.q (aI @g1 (aI @g2 (aI @g3 (aI V1.ln (aI V1.rts (aI @jt (aI @jA (aI @jL (aI C0.r (aI C1.r C2.r))))))))))));first|exact jX|fail)
      case has=>simp(disch:=decide) only[Qan,Qaq,z0,z1,ji,jc,and_true,true_and,i0,i2,i3]
   ·rw[if_neg t1] at hl;by_cases t2:(tk ts i').text=[118,97,114]
    ·rw[if_pos t2] at hl;by_cases h32:32<=x.vars.length
     ·rw[if_pos h32] at hl;have hl:SR.er (tk ts i')=r:=hl;subst hl;have R:=Yg hb h32 (tk ts i');unfold pC at *
      (have zz:=aI @g2 (aI C0.r (aI C1.r C2.r));(repeat'(first|(apply jb<;>intro _)|simp(disch:=first|exact qm|fail) only[ja i0,ja i2,ja i3,T,c2,t1,t2,vl2,R,g2,yD,C0.q,C1.q,C2.q,g2,C0.r,C1.r,C2.r,jj,Tk.cells_R,rzZ,Qab,Qac,Qad,Qaa,Qae]));(all_goals(clear zz)))
      refine⟨i'+1,0,?_⟩;unfold pC
      (refine G1.done ?_ (by rfl) (by rfl) ?_;(· (have zz:=aI C0.q (aI C1.q (aI C2.q (aI C0.r (aI C1.r C2.r))));first|exact jX|fail));(· first|exact vyD|skip))
     ·rw[if_neg h32] at hl;have R:=Yf hb (show x.vars.length<32 by omega) (tk ts i');have A:=jh0 hb W NN hi1;cases hw:zf ts (i'+1) with
      |er t=>
       rw[hw] at hl A;have hl:SR.er t=r:=hl;subst hl;obtain⟨i2',d2,A⟩:=A;have E:∀ st p,Cl st p (pC ts (i'+1) 0)->∀ K Kp,XB Qaf base 35 [.ptr p 0] st K Kp=_:=λst p C K Kp=>A.xb C rfl (λst=>hb.no 35 (by decide) _ _) K Kp;unfold pC at *
       (have zz:=aI @g2 (aI C0.r (aI C1.r C2.r));(repeat'(first|(apply jb<;>intro _)|simp(disch:=first|exact qm|fail) only[ja i0,ja i2,ja i3,T,c2,t1,t2,vl2,R,g2,E,jhn,ve2,yD,C0.q,C1.q,C2.q,g2,C0.r,C1.r,C2.r,jj,Tk.cells_R,rzZ,Qab,Qac,Qad,Qaa,Qae]));(all_goals(clear zz)))
       refine⟨i2',d2,?_⟩;unfold pC
       (refine G1.done ?_ (by rfl) (by rfl) ?_;(· (have zz:=aI C0.q (aI C1.q (aI C2.q (aI C0.r (aI C1.r C2.r))));first|exact jX|fail));(· first|exact vyD|skip))
      |ok a j=>
       rw[hw] at hl A;dsimp only at hl;have A:PM Qaf base 35 (pC ts (i'+1) 0) [] (.ok (.agg [.str a.name,.str a.ty,.int .i64 a.lo,.int .i64 a.hi,.lst a.begins.length (fl eE a.begins),.int .i64 (a.line:Int),.int .i64 (a.col:Int)])) (pC ts j 0):=A;have hj:=Ys W hi1 hw;have E:∀ st p,Cl st p (pC ts (i'+1) 0)->∀ K Kp,XB Qaf base 35 [.ptr p 0] st K Kp=_:=λst p C K Kp=>A.xb C rfl (λst=>hb.no 35 (by decide) _ _) K Kp;have Ap:=λst bv xc xx K h hv=>@wG 3 q x.vars.length 7 st v2 (fl qo x.vars) K 88 bv xc xx h (by decide) (by omega) (by omega) hv;have VP:∀ st m',Lv 3 q st v2 x.vars.length (fl qo x.vars) 7->3<=st.nx->m'=st.nx+1->Lv 3 m' (aps v2 st [.str a.name,.str a.ty,.int .i64 a.lo,.int .i64 a.hi,.lst a.begins.length (fl eE a.begins),.int .i64 (a.line:Int),.int .i64 (a.col:Int)]) (apv 7 v2 st) (x.vars ++ [a]).length (fl qo (x.vars ++ [a])) 7:=λst m' h h2 h3=>by
        rw[Qat,YO,Xz];exact h.put rfl h2 h3
       unfold pC at *
       (have zz:=aI @g2 (aI V2.ln (aI V2.rts (aI @jP (aI @jQ (aI @j0 (aI @V2 (aI @jt (aI @jA (aI @jL (aI C0.r (aI C1.r C2.r)))))))))));(repeat'(first|(apply jb<;>intro _)|simp(disch:=first|exact qm|fail) only[ja i0,ja i2,ja i3,T,c2,t1,t2,vl2,R,g2,E,jhn,ve2,Ap,V2.at,jt,C0.q,C1.q,C2.q,g2,V2.ln,V2.rts,jP,jQ,j0,V2,jt,jA,jL,C0.r,C1.r,C2.r,jj,Tk.cells_R,rzZ,Qab,Qac,Qad,Qaa,Qae]));(all_goals(clear zz)))
       refine⟨m,by omega,m,j,{ x with vars:=x.vars ++ [a] },v1,?v2,v3,rfl,by omega,hj.2,hl,by omega,?c0,?c1,?c2,?lv1,?lv2,?lv3,?d12,?d13,?d23,?has⟩;case lv2=>
        refine Lv.up (hi:=s.nx+4) ?_ (by omega);refine VP _ _ ?_ ?_ ?_;all_goals first|(simp only[jf,jg,jl];done)|(simp only[jf,jg,jl];omega)|(simp(disch:=first|omega|(simp only[jf,jg,jl];omega)) only[jP,jQ,j0];exact V2)
       case lv1=>
        refine Lv.up (hi:=q) ?_ (by omega);simp(disch:=first|omega|(simp only[jf,jg,jl];omega)) only[jP,jQ,j0];refine Lv.apsD ?_ D12.symm;simp(disch:=first|omega|(simp only[jf,jg,jl];omega)) only[jP,jQ,j0];exact V1
       case d12=>exact(Df.put V1 (by simp only[jf,jg,jl];omega)).2
       case lv3=>
        refine Lv.up (hi:=q) ?_ (by omega);simp(disch:=first|omega|(simp only[jf,jg,jl];omega)) only[jP,jQ,j0];refine Lv.apsD ?_ D23;simp(disch:=first|omega|(simp only[jf,jg,jl];omega)) only[jP,jQ,j0];exact V3
       case d23=>exact(Df.put V3 (by simp only[jf,jg,jl];omega)).1
       case d13=>exact D13
       case c0=>(have zz:=aI C0.q (aI C1.q (aI C2.q (aI @g1 (aI @g2 (aI @g3 (aI V2.ln (aI V2.rts (aI @jt (aI @jA (aI @jL (aI C0.r (aI C1.r C2.r))))))))))));first|exact jX|fail)
       case c1=>(have zz:=aI C0.q (aI C1.q (aI C2.q (aI @g1 (aI @g2 (aI @g3 (aI V2.ln (aI V2.rts (aI @jt (aI @jA (aI @jL (aI C0.r (aI C1.r C2.r))))))))))));first|exact jX|fail)
       case c2=>(have zz:=aI C0.q (aI C1.q (aI C2.q (aI @g1 (aI @g2 (aI @g3 (aI V2.ln (aI V2.rts (aI @jt (aI @jA (aI @jL (aI C0.r (aI C1.r C2.r))))))))))));first|exact jX|fail)
       case has=>simp(disch:=decide) only[Qan,Qaq,z0,z1,ji,jc,and_true,true_and,i0,i2,i3]
    ·rw[if_neg t2] at hl;by_cases h32:32<=x.procs.length
     ·rw[if_pos h32] at hl;have hl:SR.er (tk ts i')=r:=hl;subst hl;have R:=Yg hb h32 (tk ts i');unfold pC at *
      (have zz:=aI @g3 (aI C0.r (aI C1.r C2.r));(repeat'(first|(apply jb<;>intro _)|simp(disch:=first|exact qm|fail) only[ja i0,ja i2,ja i3,T,c2,t1,t2,vl3,R,g3,yD,C0.q,C1.q,C2.q,g3,C0.r,C1.r,C2.r,jj,Tk.cells_R,rzZ,Qab,Qac,Qad,Qaa,Qae]));(all_goals(clear zz)))
      refine⟨i'+1,0,?_⟩;unfold pC
      (refine G1.done ?_ (by rfl) (by rfl) ?_;(· (have zz:=aI C0.q (aI C1.q (aI C2.q (aI C0.r (aI C1.r C2.r))));first|exact jX|fail));(· first|exact vyD|skip))
     ·rw[if_neg h32] at hl;have R:=Yf hb (show x.procs.length<32 by omega) (tk ts i');have A:=jhx hb W hi1;cases hw:zc ts (i'+1) with
      |er t=>
       rw[hw] at hl A;have hl:SR.er t=r:=hl;subst hl;obtain⟨i2',d2,A⟩:=A;have E:∀ st p,Cl st p (pC ts (i'+1) 0)->∀ K Kp,XB Qaf base 36 [.ptr p 0] st K Kp=_:=λst p C K Kp=>A.xb C rfl (λst=>hb.no 36 (by decide) _ _) K Kp;unfold pC at *
       (have zz:=aI @g3 (aI C0.r (aI C1.r C2.r));(repeat'(first|(apply jb<;>intro _)|simp(disch:=first|exact qm|fail) only[ja i0,ja i2,ja i3,T,c2,t1,t2,vl3,R,g3,E,jhm,ve3,yD,C0.q,C1.q,C2.q,g3,C0.r,C1.r,C2.r,jj,Tk.cells_R,rzZ,Qab,Qac,Qad,Qaa,Qae]));(all_goals(clear zz)))
       refine⟨i2',d2,?_⟩;unfold pC
       (refine G1.done ?_ (by rfl) (by rfl) ?_;(· (have zz:=aI C0.q (aI C1.q (aI C2.q (aI C0.r (aI C1.r C2.r))));first|exact jX|fail));(· first|exact vyD|skip))
      |ok a j=>
       rw[hw] at hl A;dsimp only at hl;have A:PM Qaf base 36 (pC ts (i'+1) 0) [] (.ok (.agg [.str a.name,.lst a.rules.length (fl ruE a.rules),.int .i64 (a.line:Int),.int .i64 (a.col:Int)])) (pC ts j 0):=A;have hj:=Ym W hi1 hw;have E:∀ st p,Cl st p (pC ts (i'+1) 0)->∀ K Kp,XB Qaf base 36 [.ptr p 0] st K Kp=_:=λst p C K Kp=>A.xb C rfl (λst=>hb.no 36 (by decide) _ _) K Kp;have Ap:=λst bv xc xx K h hv=>@wG 3 q x.procs.length 4 st v3 (fl prE x.procs) K 56 bv xc xx h (by decide) (by omega) (by omega) hv;have VP:∀ st m',Lv 3 q st v3 x.procs.length (fl prE x.procs) 4->3<=st.nx->m'=st.nx+1->Lv 3 m' (aps v3 st [.str a.name,.lst a.rules.length (fl ruE a.rules),.int .i64 (a.line:Int),.int .i64 (a.col:Int)]) (apv 4 v3 st) (x.procs ++ [a]).length (fl prE (x.procs ++ [a])) 4:=λst m' h h2 h3=>by
        rw[Qat,YO,Xz];exact h.put rfl h2 h3
       unfold pC at *
       (have zz:=aI @g3 (aI V3.ln (aI V3.rts (aI @jP (aI @jQ (aI @j0 (aI @V3 (aI @jt (aI @jA (aI @jL (aI C0.r (aI C1.r C2.r)))))))))));(repeat'(first|(apply jb<;>intro _)|simp(disch:=first|exact qm|fail) only[ja i0,ja i2,ja i3,T,c2,t1,t2,vl3,R,g3,E,jhm,ve3,Ap,V3.at,jt,C0.q,C1.q,C2.q,g3,V3.ln,V3.rts,jP,jQ,j0,V3,jt,jA,jL,C0.r,C1.r,C2.r,jj,Tk.cells_R,rzZ,Qab,Qac,Qad,Qaa,Qae]));(all_goals(clear zz)))
       refine⟨m,by omega,m,j,{ x with procs:=x.procs ++ [a] },v1,v2,?v3,rfl,by omega,hj.2,hl,by omega,?c0,?c1,?c2,?lv1,?lv2,?lv3,?d12,?d13,?d23,?has⟩;case lv3=>
        refine Lv.up (hi:=s.nx+4) ?_ (by omega);refine VP _ _ ?_ ?_ ?_;all_goals first|(simp only[jf,jg,jl];done)|(simp only[jf,jg,jl];omega)|(simp(disch:=first|omega|(simp only[jf,jg,jl];omega)) only[jP,jQ,j0];exact V3)
       case lv1=>
        refine Lv.up (hi:=q) ?_ (by omega);simp(disch:=first|omega|(simp only[jf,jg,jl];omega)) only[jP,jQ,j0];refine Lv.apsD ?_ D13.symm;simp(disch:=first|omega|(simp only[jf,jg,jl];omega)) only[jP,jQ,j0];exact V1
       case d13=>exact(Df.put V1 (by simp only[jf,jg,jl];omega)).2
       case lv2=>
        refine Lv.up (hi:=q) ?_ (by omega);simp(disch:=first|omega|(simp only[jf,jg,jl];omega)) only[jP,jQ,j0];refine Lv.apsD ?_ D23.symm;simp(disch:=first|omega|(simp only[jf,jg,jl];omega)) only[jP,jQ,j0];exact V2
       case d23=>exact(Df.put V2 (by simp only[jf,jg,jl];omega)).2
       case d12=>exact D12
       case c0=>(have zz:=aI C0.q (aI C1.q (aI C2.q (aI @g1 (aI @g2 (aI @g3 (aI V3.ln (aI V3.rts (aI @jt (aI @jA (aI @jL (aI C0.r (aI C1.r C2.r))))))))))));first|exact jX|fail)
       case c1=>(have zz:=aI C0.q (aI C1.q (aI C2.q (aI @g1 (aI @g2 (aI @g3 (aI V3.ln (aI V3.rts (aI @jt (aI @jA (aI @jL (aI C0.r (aI C1.r C2.r))))))))))));first|exact jX|fail)
       case c2=>(have zz:=aI C0.q (aI C1.q (aI C2.q (aI @g1 (aI @g2 (aI @g3 (aI V3.ln (aI V3.rts (aI @jt (aI @jA (aI @jL (aI C0.r (aI C1.r C2.r))))))))))));first|exact jX|fail)
       case has=>simp(disch:=decide) only[Qan,Qaq,z0,z1,ji,jc,and_true,true_and,i0,i2,i3]
  ·rw[if_neg c2] at hl;by_cases k5:(tk ts i').kind=5
   ·rw[if_pos k5] at hl;have hl:SR.ok x i'=r:=hl;subst hl;have k5':((tk ts i').kind:Int)=5:=by omega
    unfold pC at *
    (have zz:=aI @g1 (aI @g2 (aI @g3 (aI @vc1 (aI @vc2 (aI @vc3 (aI C0.r (aI C1.r C2.r)))))));(repeat'(first|(apply jb<;>intro _)|simp(disch:=first|exact qm|fail) only[ja i0,ja i2,ja i3,T,c2,k5',g1,g2,g3,kv,C0.q,C1.q,C2.q,g1,g2,g3,vc1,vc2,vc3,C0.r,C1.r,C2.r,jj,Tk.cells_R,rzZ,Qab,Qac,Qad,Qaa,Qae]));(all_goals(clear zz)))
    show G1 3 (pC ts i' 0) (.agg (srE x)) _ _;refine G1.done ?_ (by rfl) (by rfl) (FzD.agg (.cons (Lv.fz (lo:=3) (hi:=q) (z:=4) ?_ (by decide) (Qh jaD _)) (.cons (Lv.fz (lo:=3) (hi:=q) (z:=7) ?_ (by decide) (Qh V9 _)) (.cons (Lv.fz (lo:=3) (hi:=q) (z:=4) ?_ (by decide) (Qh H2 _)) .nil))))
    ·unfold pC
     (have zz:=aI C0.q (aI C1.q (aI C2.q (aI @g1 (aI @g2 (aI @g3 (aI C0.r (aI C1.r C2.r)))))));first|exact jX|fail)
    all_goals simp(disch:=first|omega|(simp only[jf,jg,jl];omega)) only[j4,jP,jQ,j0]
    ·exact V1
    ·exact V2
    ·exact V3
   ·rw[if_neg k5] at hl;have hl:SR.er (tk ts i')=r:=hl;subst hl;have k5':¬ ((tk ts i').kind:Int)=5:=by omega
    unfold pC at *
    (have zz:=aI @g1 (aI C0.r (aI C1.r C2.r));(repeat'(first|(apply jb<;>intro _)|simp(disch:=first|exact qm|fail) only[ja i0,ja i2,ja i3,T,c2,k5',g1,Jm hb,yD,C0.q,C1.q,C2.q,g1,C0.r,C1.r,C2.r,jj,Tk.cells_R,rzZ,Qab,Qac,Qad,Qaa,Qae]));(all_goals(clear zz)))
    refine⟨i',0,?_⟩;unfold pC
    (refine G1.done ?_ (by rfl) (by rfl) ?_;(· (have zz:=aI C0.q (aI C1.q (aI C2.q (aI C0.r (aI C1.r C2.r))));first|exact jX|fail));(· first|exact vyD|skip))
 ·refine⟨ts.length,i,⟨[],[],[]⟩,.nils,.nils,.nils,rfl,by omega,hi,hr,by omega,C0,C1,C2,Lv.nil,Lv.nil,Lv.nil,trivial,trivial,trivial,?_⟩;simp(disch:=decide) only[Qan,Qaq,z0,z1,ji,jc,and_true,true_and]
end Go.Sy
end
noncomputable section
set_option maxRecDepth 100000
namespace Go.Sy
open Go.Ev Go.Proofs
variable {base:Bs}
theorem jix:Go.Ev.isAgg Qaf 38=some true:=by kernel_rfl
theorem jiw:Go.Ev.sizeOf Qaf 38=some 3:=by kernel_rfl
theorem HR {b:Nat}{h:T AO}(ho:0+3<=qe h b)(hv:rats h b 0 3=[.nils,.nils,.nils]):(jN Qaf 38 (.ptr b 0) (.agg [.nils,.nils,.nils]) h=true)=True:=eq_true (wQ jix jiw (by decide) ho hv rfl)
def JX:SrcT:=⟨[],[],[]⟩
def qA (l:List Nat):SrcT×(Nat×Nat×Nat):=
 if(jK l).2.1≠0 then(JX,(jK l).2) else match yr (jK l).1 (jK l).1.length 0 JX with
  |.er t=>(JX,(151,t.line,t.col))
  |.ok m j=>(m,(0,0,0))
theorem je2 (m:SrcT):(srE m).all pc=true:=by
 show([AV.lst m.enums.length (fl enE m.enums),.lst m.vars.length (fl qo m.vars),.lst m.procs.length (fl prE m.procs)]).all pc=true;simp[pc]
theorem GP {s:St}{q:Nat×Nat×Nat}{ds:List AV}(h2:ds=QQ q):G0 (.tup [.agg (srE JX),.agg (QQ q)]) (.tup [.agg [.nils,.nils,.nils],.agg ds]) s:=by
 subst h2;exact FzD.tup (.cons (.agg (.cons FzD.nils (.cons FzD.nils (.cons FzD.nils .nil)))) (.cons (.agg (.pc (by rfl))) .nil))
theorem jfW {s:St}{m:SrcT}{q:Nat×Nat×Nat}{cs ds:List AV}(h:cs=srE m)(h2:ds=QQ q):G0 (.tup [.agg (srE m),.agg (QQ q)]) (.tup [.agg cs,.agg ds]) s:=by
 subst h h2;exact FzD.tup (.cons (.agg (.pc (je2 m))) (.cons (.agg (.pc (by rfl))) .nil))
set_option maxHeartbeats 4000000 in
theorem We (hb:NB base)(hP:PI base)(l:List Nat)(hl:l.length<=9223372036854775807)(hW:(jK l).2.1=0->Wds (jK l).1/\(jK l).1≠[]/\(jK l).2=(0,0,0))(hN:(jK l).2.1=0->Nbs (jK l).1) :
  Tot base 9 [.str l] (.tup [.agg (srE (qA l).1),.agg (QQ (qA l).2)]):=by
 refine hb.tot ?_ rfl rfl;refine jdS x9 (hb.pur 9 1 (by decide)) ?_;simp only[y9,jn,Qaj,Qam,Qah,Qai];rw[(by unfold z9;simp only[qq];rfl:z9=_)];have hC:=jiW hb hP l hl;have f0:(QQ (jK l).2)=[.int .i64 ((jK l).2.1:Int),.int .i64 ((jK l).2.2.1:Int),.int .i64 ((jK l).2.2.2:Int)]:=rfl;by_cases he:(jK l).2.1=0
 ·obtain⟨W,hne,hz⟩:=hW he;have NN:=hN he;have hi:0<(jK l).1.length:=Qcd.2 hne;have A:=jdz hb W NN hi;unfold qA;rw[if_neg (by simp[he])];rw[hz] at hC;have s0:JX=⟨[],[],[]⟩:=rfl;rw[<-s0] at A;generalize (jK l).1=ts at *;have fz:QQ (0,0,0)=[.int .i64 0,.int .i64 0,.int .i64 0]:=rfl;rw[fz] at hC;cases hr:yr ts ts.length 0 JX with
  |er t=>
   rw[hr] at A;obtain⟨i',d',A⟩:=A;have E:∀ st p,Cl st p [.lst ts.length (fl Tk.cells ts),.int .i64 0,.int .i64 0]->∀ K Kp,XB Qaf base 19 [.ptr p 0] st K Kp=_:=λst p C K Kp=>A.xb C rfl (λst=>hb.no 19 (by decide) _ _) K Kp;unfold pC at *;repeat'(first|(apply jb<;>intro _)|simp(disch:=first|exact dzD|fail) only[hC,E,HJ,Vt (f:=13) (vs:=[.ptr 1 0]),uJ (f:=13) (vs:=[.ptr 1 0]),uK,gR,H5,jdB,HR,Vs,jdq,jdp (base:=base),jj,Tk.cells_R,rzZ,Qab,Qac,Qad,Qaa,Qae])
   exact GP rfl
  |ok m j=>
   rw[hr] at A;have A:PM Qaf base 19 (pC ts 0 0) [] (.ok (.agg [.lst m.enums.length (fl enE m.enums),.lst m.vars.length (fl qo m.vars),.lst m.procs.length (fl prE m.procs)])) (pC ts j 0):=A;have E:∀ st p,Cl st p [.lst ts.length (fl Tk.cells ts),.int .i64 0,.int .i64 0]->∀ K Kp,XB Qaf base 19 [.ptr p 0] st K Kp=_:=λst p C K Kp=>A.xb C rfl (λst=>hb.no 19 (by decide) _ _) K Kp;dsimp only;unfold pC at *;repeat'(first|(apply jb<;>intro _)|simp(disch:=first|exact dzD|fail) only[hC,E,HJ,Vt (f:=13) (vs:=[.ptr 1 0]),uJ (f:=13) (vs:=[.ptr 1 0]),uK,gR,H5,jdB,HR,Vs,jdq,jdp (base:=base),jj,Tk.cells_R,rzZ,Qab,Qac,Qad,Qaa,Qae])
   exact jfW rfl rfl
 ·have he':¬ ((jK l).2.1:Int)=0:=by omega
  unfold qA;rw[if_pos he];rw[f0] at hC;generalize (jK l).1=ts at *;repeat'(first|(apply jb<;>intro _)|simp(disch:=first|exact dzD|fail) only[hC,he',HJ,Vt (f:=13) (vs:=[.ptr 1 0]),uJ (f:=13) (vs:=[.ptr 1 0]),uK,gR,H5,jdB,HR,jj,Tk.cells_R,rzZ,Qab,Qac,Qad,Qaa,Qae])
  exact GP rfl
end Go.Sy
end
noncomputable section
set_option maxRecDepth 100000
namespace Go.Sy
open Go.Ev Go.Proofs
theorem H9 {r:List Nat}{p:Nat×Nat}{n:Nat}{t:Tk}(h:jZ r p=(0,t,n)):t.text.length<=r.length/\t.num<=1000000:=by
 cases r with
 |nil=>simp[jZ] at h;obtain⟨h1,h2⟩:=h;subst h1;simp
 |cons x r'=>
  unfold jZ at h;simp only at h;split at h
  ·split at h
   ·simp at h
   ·simp only[Prod.mk.injEq] at h;obtain⟨_,h1,h2⟩:=h;subst h1;exact⟨by simp only[QaO];omega,by simp⟩
  ·split at h
   ·split at h
    ·simp at h
    ·rename_i hh;simp only[Prod.mk.injEq] at h;obtain⟨_,h1,h2⟩:=h;subst h1;exact⟨by simp only[QaO];omega,by dsimp only;omega⟩
   ·split at h
    ·simp at h
    ·simp only[Prod.mk.injEq] at h;obtain⟨_,h1,h2⟩:=h;subst h1;exact⟨by simp only[QaO];omega,by simp⟩
structure Goods (n:Nat)(ts:List Tk):Prop where
 ne:ts≠[]
 len:ts.length<=n+1
 tok:∀ t∈ts,t.text.length<=n/\t.num<=1000000
 fin:∀ i,i<ts.length->((tk ts i).kind=5↔i+1=ts.length)
theorem jcI (k:Nat):∀ (r:List Nat) (p:Nat×Nat),r.length<=k->(qg r p).2.1=0->(qg r p).2=(0,0,0)/\Goods r.length (qg r p).1:=by
 induction k with
 |zero=>
  intro r p hr;have:r=[]:=QaL (by omega);subst this;have hx:jZ (([]:List Nat).drop (jm [])) (jp p (([]:List Nat).take (jm [])))=(0,⟨5,[],0,(jp p (([]:List Nat).take (jm []))).1,(jp p (([]:List Nat).take (jm []))).2⟩,0):=by simp only[List.drop_nil];rfl
  rw[zm _ p hx,if_neg (by simp),if_pos rfl];intro _;refine⟨rfl,by simp,by simp,by simp,λi hi=>?_⟩;have:i=0:=by simp at hi;omega
  subst this;simp[tk]
 |succ k ih=>
  intro r p hr;have hg:=Qy r;generalize hx:jZ (r.drop (jm r)) (jp p (r.take (jm r)))=x;obtain⟨e,t,n⟩:=x;rw[zm r p hx];by_cases he:e=0
  ·subst he;rw[if_neg (by simp)];have hk:=XZ hx;have hgd:=H9 hx;have hle:=YH hx;simp only[QaA] at hgd hle;by_cases hn:n=0
   ·rw[if_pos hn];intro _;refine⟨rfl,by simp,by simp,?_,λi hi=>?_⟩
    ·intro t' ht';have:t'=t:=by simpa using ht'
     subst this;exact⟨by omega,hgd.2⟩
    ·have:i=0:=by simp at hi;omega
     subst this;have:=hk.1.2 hn;simpa[tk] using this
   ·rw[if_neg hn];have hl:((r.drop (jm r)).drop n).length<=k:=by simp only[QaA];omega
    have hI:=ih ((r.drop (jm r)).drop n) (jp (jp p (r.take (jm r))) ((r.drop (jm r)).take n)) hl;generalize hq:qg ((r.drop (jm r)).drop n) (jp (jp p (r.take (jm r))) ((r.drop (jm r)).take n))=q at hI ⊢;by_cases hf:q.2.1=0
    ·rw[if_neg (by simp[hf])];intro _;obtain⟨h1,h2⟩:=hI hf;have hl2:((r.drop (jm r)).drop n).length+1<=r.length:=by simp only[QaA];omega
     generalize ((r.drop (jm r)).drop n).length=m at *;have h3:=h2.len;refine⟨h1,by simp,by simp only[Qal];omega,?_,λi hi=>?_⟩
     ·intro t' ht';rcases Qbp.1 ht' with rfl|ht'
      ·exact⟨by omega,hgd.2⟩
      ·have:=h2.tok t' ht';exact⟨by omega,this.2⟩
     ·cases i with
      |zero=>
       have hk5:t.kind≠5:=λh=>hn (hk.1.1 h);have:=Qcd.2 h2.ne;show t.kind=5↔0+1=q.1.length+1;constructor
       ·intro h;exact absurd h hk5
       ·intro h;omega
      |succ i=>
       show(tk q.1 i).kind=5↔i+1+1=q.1.length+1;have:=h2.fin i (by simpa using hi);constructor
       ·intro h;have:=this.1 h;omega
       ·intro h;exact this.2 (by omega)
    ·rw[if_pos hf];intro h;exact absurd h hf
  ·rw[if_pos he];intro h;exact absurd h he
theorem UV {l:List Nat}(h:(jK l).2.1=0):l.length<=65536/\(jK l).2=(0,0,0)/\Goods l.length (jK l).1:=by
 unfold jK at *;by_cases hl:65536<l.length
 ·rw[if_pos hl] at h;cases h
 ·rw[if_neg hl] at h ⊢;obtain⟨h1,h2⟩:=jcI l.length l (1,1) (Qag _) h;exact⟨by omega,h1,h2⟩
theorem je0 {ts:List Tk}{i:Nat}(h:ts.length<=i):tk ts i=⟨0,[],0,0,0⟩:=by simp[tk,QaI,h]
theorem jbw {ts:List Tk}{i:Nat}(h:i<ts.length):tk ts i∈ts:=by rw[<-je1 h];exact QaJ h
theorem Goods.wds {n:Nat}{ts:List Tk}(h:Goods n ts)(hn:n<=65536):Wds ts where
 len:=by have:=h.len;omega
 next:=λi hi hk=>by
  have:=h.fin i hi;rcases QaR (i+1) ts.length with h2|h2
  ·exact h2
  ·exact absurd (this.2 (by omega)) hk
 txt:=λi=>by
  rcases QaR i ts.length with h2|h2
  ·have:=(h.tok _ (jbw h2)).1;omega
  ·rw[je0 h2];simp
theorem Goods.nbs {n:Nat}{ts:List Tk}(h:Goods n ts):Nbs ts:=λi=>by
 rcases QaR i ts.length with h2|h2
 ·exact(h.tok _ (jbw h2)).2
 ·rw[je0 h2];simp
theorem QS {l:List Nat}(h:(jK l).2.1=0):Wds (jK l).1/\(jK l).1≠[]/\(jK l).2=(0,0,0):=
 let ⟨h1,h2,h3⟩:=UV h
 ⟨h3.wds h1,h3.ne,h2⟩
theorem gN {l:List Nat}(h:(jK l).2.1=0):Nbs (jK l).1:=(UV h).2.2.nbs
end Go.Sy
end
noncomputable section
set_option maxRecDepth 100000
namespace Go.Sy
open Go.Ev Go.Proofs
def z85:XC:=(I3 [IT 2] [Iq 3,oj 4 (oI .geq 3 (Of 48)),ow 5 4,I4 6 5 0,IS 7 5 (oI .leq 6 (Of 57)),Ig 8 5 7 oY,oy 2 8])
def z51:XC:=(Oq [IO 1 0,Ih 2 oC] (ID [oD 3 3 1,oG 4 3,I7 5 4,ov 6 (oI .eql 5 oB)] 6 [oZ 7 6 1,IY 8 11 7,oy 2 8]) [oZ 9 6 1,IY 10 11 9,Ik 11 .add (oF [40]) 10,I6 12 .add 11 [41],oy 2 12])
def z53:XC:=(IE [Ih 2 oC] (ID [Iq 3,ov 4 (oI .lss 3 oB)] 4 [Iq 5,oj 6 (.un .neg 5),IY 7 24 6,Ik 8 .add (oF [45]) 7,oy 2 8]) (ID [Iq 9,Om 10 .lss 9 10] 10 [Iq 11,Iq 12,IQ 13 12 1,oj 14 (.slStr (oF [48,49,50,51,52,53,54,55,56,57]) (some 11) (some 13)),oy 2 14]) (.seq (.cops [Il (Iq 15),Il (Ij 16 .quo 15 10),(IY 17 24 16,some [I0 17 IK 0,o9 (Iq 18) 0,o9 (Ij 19 .rem 18 10) 0,o9 (Iq 20) 0,o9 (Ij 21 .rem 20 10) 0,o9 (IQ 22 21 1) 0,o9 (oj 23 (.slStr (oF [48,49,50,51,52,53,54,55,56,57]) (some 19) (some 22))) 0,I0 24 IK 0,o9 (Ih 2 Iu) 0]),Il (Iq 18),Il (Ij 19 .rem 18 10),Il (Iq 20),Il (Ij 21 .rem 20 10),Il (IQ 22 21 1),Il (oj 23 (.slStr (oF [48,49,50,51,52,53,54,55,56,57]) (some 19) (some 22))),Il (Ik 24 .add 17 23),Il (oy 2 24)]) .ret))
def z20:XC:=(IE [IO 2 0,IO 3 1,Oj] (ID [oD 17 0 2,oG 18 17,I7 19 18,oD 20 0 3,oG 21 20,I7 22 21,oj 23 (.bin .neq 19 22),ow 24 23,Iv 25 24 1 2,Iz 26 24 25,Oe 27 24 26,Iv 28 24 1 3,Iz 29 24 28,Oe 30 24 29,o8 31 24 (.bin .neq 27 30),Ig 32 24 Ii 31,ow 33 32,Iv 34 33 2 2,Iz 35 33 34,Oe 36 33 35,Iv 37 33 2 3,Iz 38 33 37,Oe 39 33 38,o8 40 33 (.bin .neq 36 39),IX 41 33 Ii 40] 41 [Oj]) (Ob [oD 42 0 2,ov 43 (.ld1 42),Og 44 43,Ok 45] 0 (IW [I1 46 .lss 45 44] (Oi 46 0) 1 (ol [ow 47 45,Ip 48 4 43 45,oZ 49 4 48,o4 6 [oC,.nils,oB,oB],oy 5 47,o0 4 6 49] (o6 [oD 50 0 3,oG 51 50,ow 52 5,Ip 53 4 51 52,oZ 54 4 53,o4 7 [oC,.nils,oB,oB],o0 4 7 54] (ID [oD 55 0 6,oG 56 55,oD 57 0 7,oG 58 57,Ik 59 .neq 56 58,ow 60 59,Iv 61 60 1 6,Iz 62 60 61,Oe 63 60 62,Iv 64 60 1 7,Iz 65 60 64,Oe 66 60 65,o8 67 60 (.bin .neq 63 66),IX 68 60 Ii 67] 68 [Oj]) (Ob [oD 69 1 6,oG 70 69,Og 71 70,Ok 72] 2 (IW [I1 73 .lss 72 71] (Oi 73 2) 3 (o6 [ow 74 72,oy 8 74] (.cops [I8 75 1 6,I9 76 75,Il (ow 77 8),Il (Ip 78 1 76 77),I9 79 78,I8 80 1 7,I9 81 80,Il (ow 82 8),Il (Ip 83 1 81 82),I9 84 83,Il (ov 85 (.strb .neq 79 84))]) (.cond 85 (o3 [Oj]) .skip)) (Oa (IQ 86 72 1) (oy 72 86)))))) (Oa (IQ 87 45 1) (oy 45 87)))) (.seq (Ob [oD 88 1 2,ov 89 (.ld1 88),Og 90 89,Ok 91] 4 (IW [I1 92 .lss 91 90] (Oi 92 4) 5 (ol [ow 93 91,Ip 94 7 89 91,oZ 95 7 94,o4 10 [oC,oC,oB,oB,.nils,oB,oB],oy 9 93,o0 7 10 95] (o6 [oD 96 1 3,oG 97 96,ow 98 9,Ip 99 7 97 98,oZ 100 7 99,o4 11 [oC,oC,oB,oB,.nils,oB,oB],o0 7 11 100] (ID [oD 101 0 10,oG 102 101,oD 103 0 11,oG 104 103,Ik 105 .neq 102 104,ow 106 105,Iv 107 106 1 10,Iz 108 106 107,Iv 109 106 1 11,Iz 110 106 109,o8 111 106 (.strb .neq 108 110),Ig 112 106 Ii 111,ow 113 112,Iv 114 113 2 10,Iz 115 113 114,Iv 116 113 2 11,Iz 117 113 116,o8 118 113 (.bin .neq 115 117),Ig 119 113 Ii 118,ow 120 119,Iv 121 120 3 10,Iz 122 120 121,Iv 123 120 3 11,Iz 124 120 123,o8 125 120 (.bin .neq 122 124),Ig 126 120 Ii 125,ow 127 126,Iv 128 127 4 10,Iz 129 127 128,Oe 130 127 129,Iv 131 127 4 11,Iz 132 127 131,Oe 133 127 132,o8 134 127 (.bin .neq 130 133),IX 135 127 Ii 134] 135 [Oj]) (Ob [oD 136 4 10,oG 137 136,Og 138 137,Ok 139] 6 (IW [I1 140 .lss 139 138] (Oi 140 6) 7 (o6 [ow 141 139,oy 12 141] (.cops [I8 142 4 10,I9 143 142,Il (ow 144 12),Il (Ip 145 6 143 144),Il (oZ 146 6 145),I8 147 4 11,I9 148 147,Il (ow 149 12),Il (Ip 150 6 148 149),Il (oZ 151 6 150),(Oh 152 20 146 151,IP),Il (ov 153 (IU 152))]) (.cond 153 (o3 [Oj]) .skip)) (Oa (IQ 154 139 1) (oy 139 154)))))) (Oa (IQ 155 91 1) (oy 91 155)))) (.seq (Ob [oD 156 2 2,ov 157 (.ld1 156),Og 158 157,Ok 159] 8 (IW [I1 160 .lss 159 158] (Oi 160 8) 9 (ol [ow 161 159,Ip 162 4 157 159,oZ 163 4 162,o4 14 [oC,.nils,oB,oB],oy 13 161,o0 4 14 163] (o6 [oD 164 2 3,oG 165 164,ow 166 13,Ip 167 4 165 166,oZ 168 4 167,o4 15 [oC,.nils,oB,oB],o0 4 15 168] (ID [oD 169 0 14,oG 170 169,oD 171 0 15,oG 172 171,Ik 173 .neq 170 172,ow 174 173,Iv 175 174 1 14,Iz 176 174 175,Oe 177 174 176,Iv 178 174 1 15,Iz 179 174 178,Oe 180 174 179,o8 181 174 (.bin .neq 177 180),IX 182 174 Ii 181] 182 [Oj]) (Ob [oD 183 1 14,oG 184 183,Og 185 184,Ok 186] 10 (IW [I1 187 .lss 186 185] (Oi 187 10) 11 (o6 [ow 188 186,oy 16 188] (.cops [I8 189 1 14,I9 190 189,Il (ow 191 16),Il (Ip 192 7 190 191),I8 193 0 192,Il (oZ 194 6 193),I8 195 1 15,I9 196 195,Il (ow 197 16),Il (Ip 198 7 196 197),I8 199 0 198,Il (oZ 200 6 199),(Oh 201 20 194 200,IP),Il (oj 202 (IU 201)),Il (ow 203 202),Il (Iv 204 203 1 14),Il (Iz 205 203 204),Il (IZ 206 203 16),Il (o8 207 203 (.idxS 7 205 206)),Il (Iv 208 203 6 207),Il (Iz 209 203 208),Il (Iv 210 203 1 15),Il (Iz 211 203 210),Il (IZ 212 203 16),Il (o8 213 203 (.idxS 7 211 212)),Il (Iv 214 203 6 213),Il (Iz 215 203 214),(Ol 216 (o7 203) 21 [] [209,215],IP),Il (o8 217 203 (IU 216)),Il (IX 218 203 Ii 217)]) (.cond 218 (o3 [Oj]) .skip)) (Oa (IQ 219 186 1) (oy 186 219)))))) (Oa (IQ 220 159 1) (oy 159 220)))) (o3 [Or Ii]))))
def y20:XF:=⟨[0,1],z20,[(.t 4)]⟩
theorem x20:jO Qaf 10=some y20:=by kernel_rfl
def z58:XC:=(IE [Oj] (ID [Iq 6,I7 7 6,ow 8 1,I7 9 8,I1 10 .neq 7 9] 10 [Oj]) (Ob [Iq 11,Og 12 11,Ok 13] 0 (IW [I1 14 .lss 13 12] (Oi 14 0) 1 (o6 [ow 15 13,oy 5 15] (.cops [Il (Iq 16),Il (ow 17 5),Il (Ip 18 9 16 17),I8 19 0 18,I9 20 19,Il (ow 21 1),Il (ow 22 5),Il (Ip 23 9 21 22),I8 24 0 23,I9 25 24,Il (Ik 26 .neq 20 25),Il (ow 27 26),Il (IZ 28 27 0),Il (IZ 29 27 5),Il (o8 30 27 (.idxS 9 28 29)),Il (Iv 31 27 1 30),Il (o8 32 27 (.ldA 6 31)),Il (IZ 33 27 1),Il (IZ 34 27 5),Il (o8 35 27 (.idxS 9 33 34)),Il (Iv 36 27 1 35),Il (o8 37 27 (.ldA 6 36)),(Ol 38 (o7 27) 20 [] [32,37],IP),Il (o8 39 27 (IU 38)),Il (IX 40 27 Ii 39)]) (.cond 40 (o3 [Oj]) .skip)) (Oa (IQ 41 13 1) (oy 13 41)))) (o3 [Or Ii]))
def y58:XF:=⟨[0,1],z58,[(.t 4)]⟩
theorem x58:jO Qaf 21=some y58:=by kernel_rfl
end Go.Sy
end
noncomputable section
set_option maxRecDepth 100000
namespace Go.Sy
open Go.Ev Go.Proofs
variable {base:Bs}
def qp {α β:Type}(f:α->β->Bool):List α->List β->Bool
 |[],[]=>true
 |x :: xs,y :: ys=>f x y && qp f xs ys
 |_,_=>false
section
variable {α β:Type} {f:α->β->Bool}
theorem Gc:∀ {xs:List α} {ys:List β},qp f xs ys=true->xs.length=ys.length
 |[],[],_=>rfl
 |x :: xs,y :: ys,h=>by
  simp only[qp,Qaz] at h;simp[Gc h.2]
 |[],y :: ys,h=>by simp[qp] at h
 |x :: xs,[],h=>by simp[qp] at h
theorem QG {xs:List α}{ys:List β}(h:xs.length≠ys.length):qp f xs ys=false:=by
 rw[Bool.eq_false_iff];exact λk=>h (Gc k)
theorem JU:∀ {xs:List α} {ys:List β} {k:Nat} (h:k<xs.length) (h2:k<ys.length),f xs[k] ys[k]=false->qp f xs ys=false
 |x :: xs,y :: ys,0,_,_,h=>by simp only[QbT] at h;simp[qp,h]
 |x :: xs,y :: ys,k+1,h1,h2,h=>by
  simp only[QbF] at h;simp[qp,JU (by simpa using h1) (by simpa using h2) h]
theorem QX:∀ {xs:List α} {ys:List β} {k:Nat} (h:k<xs.length) (h2:k<ys.length),qp f (xs.take (k+1)) (ys.take (k+1))=(qp f (xs.take k) (ys.take k) && f xs[k] ys[k])
 |x :: xs,y :: ys,0,_,_=>by simp[qp]
 |x :: xs,y :: ys,k+1,h1,h2=>by
  have:=QX (xs:=xs) (ys:=ys) (k:=k) (by simpa using h1) (by simpa using h2);simp only[Qbz,qp,QbF,this,Bool.and_assoc]
theorem JI {xs:List α}{ys:List β}(h:xs.length=ys.length)(h2:qp f (xs.take xs.length) (ys.take xs.length)=true):qp f xs ys=true:=by
 rw[QaY,h,QaY] at h2;exact h2
end
mutual
def JL:Ex->Ex->Bool
 |.mk op num name ks _ _,y=>decide (op=y.op) && decide (num=y.num) && decide (name=y.name) && ZF ks y.kids
def ZF:List Ex->List Ex->Bool
 |[],[]=>true
 |x :: xs,y :: ys=>JL x y && ZF xs ys
 |[],_ :: _=>false
 |_ :: _,[]=>false
end
theorem Wr:∀ xs ys,ZF xs ys=qp JL xs ys
 |[],[]=>rfl
 |x :: xs,y :: ys=>by rw[ZF,Wr xs ys];rfl
 |[],_ :: _=>rfl
 |_ :: _,[]=>rfl
theorem jdH (x y:Ex):JL x y=(decide (x.op=y.op) && decide (x.num=y.num) && decide (x.name=y.name) && qp JL x.kids y.kids):=by
 cases x;rw[JL,Wr];rfl
set_option maxHeartbeats 1000000 in
theorem Gg (hb:NB base):∀ x:Ex,szE x<=BIG->∀ y:Ex,szE y<=BIG->Tot base 20 [.agg (eE x),.agg (eE y)] (.bool (JL x y)):=by
 refine Ex.indk λx ih hx y hy=>?_;refine hb.tot ?_ (by first|rfl|simp[pa,pc,XN]) rfl;have hd:=jdH x y;have hz:=Wn x;have hz2:=Wn y;generalize hks:x.kids=ks at *;generalize hls:y.kids=ls at *;have hlen:=Z5 ks;have hlen2:=Z5 ls;unfold BIG at *;have ene:((ks.length:Int)=(ls.length:Int))=(ks.length=ls.length):=by rw[eq_iff_iff];omega
 refine qi x17 (by rfl) (hb.pur 20 1 (by decide)) ?_;simp only[y17,jn,Qaj,Qam,Qah,Qai];rw[(by unfold z17;simp only[qq];rfl:z17=_)];repeat'(first|(apply jb<;>intro _)|simp(disch:=first|exact dzB|fail) only[hks,hls,ene,jj,rzZ,Qab,Qac,Qad,Qaa,Qae])
 ·exact G0.v (by rw[hd];simp_all) rfl
 ·exact G0.v (by rw[hd];simp_all) rfl
 ·exact G0.v (by rw[hd];simp_all) rfl
 ·exact G0.v (by rw[hd,QG (by assumption)];simp) rfl
 have hl:ks.length=ls.length:=by simp_all
 refine zj ks.length (λk L s=>qp JL (ks.take k) (ls.take k)=true/\Has L 2 (.ptr 0 0)/\Has L 3 (.ptr 1 0)/\2<=s.nx/\Cl s 0 (eE x)/\Cl s 1 (eE y)) (by first|assumption|omega) (by decide) (by simp(disch:=decide) only[ji,jc]) (by simp(disch:=decide) only[ji,jc]) ?_ (λk L s v h=>by simp(disch:=decide) only[jc];exact h) (λk L s v h=>by simp(disch:=decide) only[jc];exact h) (λk L s hk hI hi hn=>?_) (λL s hI=>?_)
 ·refine⟨rfl,?_⟩;simp(disch:=decide) only[Qan,Qaq,z0,z1,ji,jc,and_true,true_and];exact⟨by(first|omega|(simp only[jf,jg,jl,jr,jq];first|done|omega)),by(first|exact cyB|fail),by(first|exact cyB|fail)⟩
 ·obtain⟨h0,i2,i3,n0,C0,C1⟩:=hI;have hk2:k<ls.length:=by omega
  have g0:=vP hk;have g1:=vP hk2;have e:=ih ks[k] (QaJ hk) (by omega) ls[k] (by omega)
  (have zz:=aI C0.r C1.r;(repeat'(first|(apply jb<;>intro _)|simp(disch:=first|exact jjy|fail) only[ja i2,ja i3,ja hi,ja hn,e,hks,hls,C0.q,C1.q,C0.r,C1.r,jj,rzZ,Qab,Qac,Qad,Qaa,Qae]));(all_goals(clear zz)))
  ·rename_i hf;exact G0.v (by rw[hd,JU hk hk2 (by simpa using hf)];simp) rfl
  ·rename_i hf;refine⟨⟨?_,?_⟩,?_⟩
   ·rw[QX hk hk2,h0];simpa using hf
   ·simp(disch:=decide) only[Qan,Qaq,z0,z1,ji,jc,and_true,true_and,i2,i3];exact⟨by(first|omega|(simp only[jf,jg,jl,jr,jq];first|done|omega)),by(first|exact C0|(simp(disch:=first|assumption|decide|(first|omega|(simp only[jf,jg,jl,jr,jq];first|done|omega))) only[jH,jJ,jI,qu,jP,jQ,j4,j0];exact C0)),by(first|exact C1|(simp(disch:=first|assumption|decide|(first|omega|(simp only[jf,jg,jl,jr,jq];first|done|omega))) only[jH,jJ,jI,qu,jP,jQ,j4,j0];exact C1))⟩
   ·simp(disch:=decide) only[Qan,Qaq,z0,z1,ji,jc,and_true,true_and,hi,hn]
 ·obtain⟨h0,i2,i3,n0,C0,C1⟩:=hI;repeat'(first|(apply jb<;>intro _)|simp(disch:=first|exact dzB|fail) only[ja i2,jj,rzZ,Qab,Qac,Qad,Qaa,Qae])
  exact G0.v (by rw[hd,JI hl h0];simp_all) rfl
end Go.Sy
end
noncomputable section
set_option maxRecDepth 100000
namespace Go.Sy
open Go.Ev Go.Proofs
variable {base:Bs}
theorem kX (e:EnumT):enE e=[.str e.name,.lst e.vals.length (e.vals.map .str),.int .i64 e.line,.int .i64 e.col]:=rfl
theorem X7 (e:EnumT):(enE e).length=4:=nr (by rw[kX];rfl)
theorem kY (e:EnumT)(k:Nat):(enE e).getD k .bad=([.str e.name,.lst e.vals.length (e.vals.map .str),.int .i64 e.line,.int .i64 e.col]:List AV).getD k .bad:=nr (by rw[kX])
theorem jfx (e:EnumT)(k:Nat):(enE e).drop k=([.str e.name,.lst e.vals.length (e.vals.map .str),.int .i64 e.line,.int .i64 e.col]:List AV).drop k:=nr (by rw[kX])
theorem kZ (e:EnumT):lall AV.cell (enE e)=true:=nr (by rw[kX];rfl)
theorem jfw {st:St}{K:AV->St->Prop}{xs:List EnumT}{i:Nat}(h:i<xs.length):jd (zT 4 (.lptr (fl enE xs) (i * 4)) st) K=K (.agg (enE xs[i])) st:=YV X7 h
theorem jcE {st:St}{K:AV->St->Prop}{xs:List EnumT}{i:Nat}(h:i<xs.length){k:Nat}(hk:k<4):jd (yV (.lptr (fl enE xs) (i * 4+k)) st) K=K ((enE xs[i]).getD k .bad) st:=za X7 h hk
theorem jcF {st:St}{K:AV->St->Prop}{xs:List EnumT}{i:Nat}(h:i<xs.length):jd (yV (.lptr (fl enE xs) (i * 4)) st) K=K ((enE xs[i]).getD 0 .bad) st:=za (k:=0) X7 h (by decide)
theorem yT:type_of% (aI @X7 (aI @kY (aI @jfx (aI @kZ (aI @jfw (aI @jcF @jcE)))))):=aI @X7 (aI @kY (aI @jfx (aI @kZ (aI @jfw (aI @jcF @jcE)))))
theorem Ql:type_of% (aI @X7 (aI @kZ @kY)):=aI @X7 (aI @kZ @kY)
theorem uq (d:DeclT):qo d=[.str d.name,.str d.ty,.int .i64 d.lo,.int .i64 d.hi,.lst d.begins.length (fl eE d.begins),.int .i64 d.line,.int .i64 d.col]:=rfl
theorem JS (d:DeclT):(qo d).length=7:=nr (by rw[uq];rfl)
theorem ur (d:DeclT)(k:Nat):(qo d).getD k .bad=([.str d.name,.str d.ty,.int .i64 d.lo,.int .i64 d.hi,.lst d.begins.length (fl eE d.begins),.int .i64 d.line,.int .i64 d.col]:List AV).getD k .bad:=nr (by rw[uq])
theorem Hs (d:DeclT)(k:Nat):(qo d).drop k=([.str d.name,.str d.ty,.int .i64 d.lo,.int .i64 d.hi,.lst d.begins.length (fl eE d.begins),.int .i64 d.line,.int .i64 d.col]:List AV).drop k:=nr (by rw[uq])
theorem ut (d:DeclT):lall AV.cell (qo d)=true:=nr (by rw[uq];rfl)
theorem Hr {st:St}{K:AV->St->Prop}{xs:List DeclT}{i:Nat}(h:i<xs.length):jd (zT 7 (.lptr (fl qo xs) (i * 7)) st) K=K (.agg (qo xs[i])) st:=YV JS h
theorem gK {st:St}{K:AV->St->Prop}{xs:List DeclT}{i:Nat}(h:i<xs.length){k:Nat}(hk:k<7):jd (yV (.lptr (fl qo xs) (i * 7+k)) st) K=K ((qo xs[i]).getD k .bad) st:=za JS h hk
theorem gL {st:St}{K:AV->St->Prop}{xs:List DeclT}{i:Nat}(h:i<xs.length):jd (yV (.lptr (fl qo xs) (i * 7)) st) K=K ((qo xs[i]).getD 0 .bad) st:=za (k:=0) JS h (by decide)
theorem qI:type_of% (aI @JS (aI @ur (aI @Hs (aI @ut (aI @Hr (aI @gL @gK)))))):=aI @JS (aI @ur (aI @Hs (aI @ut (aI @Hr (aI @gL @gK)))))
theorem zC:type_of% (aI @JS (aI @ut @ur)):=aI @JS (aI @ut @ur)
theorem jaS (a:AsT):asE a=[.str a.name,.int .i64 a.to.op,.int .i64 a.to.num,.str a.to.name,.lst a.to.kids.length (fl eE a.to.kids),.int .i64 a.to.line,.int .i64 a.to.col,.int .i64 a.line,.int .i64 a.col]:=(by unfold asE;rw[yg];rfl)
theorem k9 (a:AsT)(k:Nat):(asE a).getD k .bad=([.str a.name,.int .i64 a.to.op,.int .i64 a.to.num,.str a.to.name,.lst a.to.kids.length (fl eE a.to.kids),.int .i64 a.to.line,.int .i64 a.to.col,.int .i64 a.line,.int .i64 a.col]:List AV).getD k .bad:=nr (by rw[jaS])
theorem jfE (a:AsT)(k:Nat):(asE a).drop k=([.str a.name,.int .i64 a.to.op,.int .i64 a.to.num,.str a.to.name,.lst a.to.kids.length (fl eE a.to.kids),.int .i64 a.to.line,.int .i64 a.to.col,.int .i64 a.line,.int .i64 a.col]:List AV).drop k:=nr (by rw[jaS])
theorem jfD {st:St}{K:AV->St->Prop}{xs:List AsT}{i:Nat}(h:i<xs.length):jd (zT 9 (.lptr (fl asE xs) (i * 9)) st) K=K (.agg (asE xs[i])) st:=YV Zh h
theorem jcO {st:St}{K:AV->St->Prop}{xs:List AsT}{i:Nat}(h:i<xs.length){k:Nat}(hk:k<9):jd (yV (.lptr (fl asE xs) (i * 9+k)) st) K=K ((asE xs[i]).getD k .bad) st:=za Zh h hk
theorem jcP {st:St}{K:AV->St->Prop}{xs:List AsT}{i:Nat}(h:i<xs.length):jd (yV (.lptr (fl asE xs) (i * 9)) st) K=K ((asE xs[i]).getD 0 .bad) st:=za (k:=0) Zh h (by decide)
theorem yq:type_of% (aI @Zh (aI @k9 (aI @jfE (aI @Ka (aI @jfD (aI @jcP @jcO)))))):=aI @Zh (aI @k9 (aI @jfE (aI @Ka (aI @jfD (aI @jcP @jcO)))))
theorem Qm:type_of% (aI @Zh (aI @Ka @k9)):=aI @Zh (aI @Ka @k9)
theorem kw (r:RuleT):ruE r=[.int .i64 r.when.op,.int .i64 r.when.num,.str r.when.name,.lst r.when.kids.length (fl eE r.when.kids),.int .i64 r.when.line,.int .i64 r.when.col,.lst r.acts.length (fl asE r.acts)]:=wS r
theorem kz (r:RuleT)(k:Nat):(ruE r).getD k .bad=([.int .i64 r.when.op,.int .i64 r.when.num,.str r.when.name,.lst r.when.kids.length (fl eE r.when.kids),.int .i64 r.when.line,.int .i64 r.when.col,.lst r.acts.length (fl asE r.acts)]:List AV).getD k .bad:=nr (by rw[kw])
theorem je7 (r:RuleT)(k:Nat):(ruE r).drop k=([.int .i64 r.when.op,.int .i64 r.when.num,.str r.when.name,.lst r.when.kids.length (fl eE r.when.kids),.int .i64 r.when.line,.int .i64 r.when.col,.lst r.acts.length (fl asE r.acts)]:List AV).drop k:=nr (by rw[kw])
theorem kB (r:RuleT):lall AV.cell (ruE r)=true:=nr (by rw[kw];rfl)
theorem je6 {st:St}{K:AV->St->Prop}{xs:List RuleT}{i:Nat}(h:i<xs.length):jd (zT 7 (.lptr (fl ruE xs) (i * 7)) st) K=K (.agg (ruE xs[i])) st:=YV Y0 h
theorem jbI {st:St}{K:AV->St->Prop}{xs:List RuleT}{i:Nat}(h:i<xs.length){k:Nat}(hk:k<7):jd (yV (.lptr (fl ruE xs) (i * 7+k)) st) K=K ((ruE xs[i]).getD k .bad) st:=za Y0 h hk
theorem jbJ {st:St}{K:AV->St->Prop}{xs:List RuleT}{i:Nat}(h:i<xs.length):jd (yV (.lptr (fl ruE xs) (i * 7)) st) K=K ((ruE xs[i]).getD 0 .bad) st:=za (k:=0) Y0 h (by decide)
theorem yQ:type_of% (aI @Y0 (aI @kz (aI @je7 (aI @kB (aI @je6 (aI @jbJ @jbI)))))):=aI @Y0 (aI @kz (aI @je7 (aI @kB (aI @je6 (aI @jbJ @jbI)))))
theorem Qc:type_of% (aI @Y0 (aI @kB @kz)):=aI @Y0 (aI @kB @kz)
theorem kE (p:ProcT):prE p=[.str p.name,.lst p.rules.length (fl ruE p.rules),.int .i64 p.line,.int .i64 p.col]:=rfl
theorem XV (p:ProcT):(prE p).length=4:=nr (by rw[kE];rfl)
theorem kF (p:ProcT)(k:Nat):(prE p).getD k .bad=([.str p.name,.lst p.rules.length (fl ruE p.rules),.int .i64 p.line,.int .i64 p.col]:List AV).getD k .bad:=nr (by rw[kE])
theorem jfd (p:ProcT)(k:Nat):(prE p).drop k=([.str p.name,.lst p.rules.length (fl ruE p.rules),.int .i64 p.line,.int .i64 p.col]:List AV).drop k:=nr (by rw[kE])
theorem kG (p:ProcT):lall AV.cell (prE p)=true:=nr (by rw[kE];rfl)
theorem jfc {st:St}{K:AV->St->Prop}{xs:List ProcT}{i:Nat}(h:i<xs.length):jd (zT 4 (.lptr (fl prE xs) (i * 4)) st) K=K (.agg (prE xs[i])) st:=YV XV h
theorem jbW {st:St}{K:AV->St->Prop}{xs:List ProcT}{i:Nat}(h:i<xs.length){k:Nat}(hk:k<4):jd (yV (.lptr (fl prE xs) (i * 4+k)) st) K=K ((prE xs[i]).getD k .bad) st:=za XV h hk
theorem jbX {st:St}{K:AV->St->Prop}{xs:List ProcT}{i:Nat}(h:i<xs.length):jd (yV (.lptr (fl prE xs) (i * 4)) st) K=K ((prE xs[i]).getD 0 .bad) st:=za (k:=0) XV h (by decide)
theorem yR:type_of% (aI @XV (aI @kF (aI @jfd (aI @kG (aI @jfc (aI @jbX @jbW)))))):=aI @XV (aI @kF (aI @jfd (aI @kG (aI @jfc (aI @jbX @jbW)))))
theorem Qd:type_of% (aI @XV (aI @kG @kF)):=aI @XV (aI @kG @kF)
theorem kj (m:SrcT):srE m=[.lst m.enums.length (fl enE m.enums),.lst m.vars.length (fl qo m.vars),.lst m.procs.length (fl prE m.procs)]:=rfl
theorem JK (m:SrcT):(srE m).length=3:=nr (by rw[kj];rfl)
theorem kn (m:SrcT)(k:Nat):(srE m).getD k .bad=([.lst m.enums.length (fl enE m.enums),.lst m.vars.length (fl qo m.vars),.lst m.procs.length (fl prE m.procs)]:List AV).getD k .bad:=nr (by rw[kj])
theorem je4 (m:SrcT)(k:Nat):(srE m).drop k=([.lst m.enums.length (fl enE m.enums),.lst m.vars.length (fl qo m.vars),.lst m.procs.length (fl prE m.procs)]:List AV).drop k:=nr (by rw[kj])
theorem kq (m:SrcT):lall AV.cell (srE m)=true:=nr (by rw[kj];rfl)
theorem je3 {st:St}{K:AV->St->Prop}{xs:List SrcT}{i:Nat}(h:i<xs.length):jd (zT 3 (.lptr (fl srE xs) (i * 3)) st) K=K (.agg (srE xs[i])) st:=YV JK h
theorem jbA {st:St}{K:AV->St->Prop}{xs:List SrcT}{i:Nat}(h:i<xs.length){k:Nat}(hk:k<3):jd (yV (.lptr (fl srE xs) (i * 3+k)) st) K=K ((srE xs[i]).getD k .bad) st:=za JK h hk
theorem jbB {st:St}{K:AV->St->Prop}{xs:List SrcT}{i:Nat}(h:i<xs.length):jd (yV (.lptr (fl srE xs) (i * 3)) st) K=K ((srE xs[i]).getD 0 .bad) st:=za (k:=0) JK h (by decide)
theorem yO:type_of% (aI @JK (aI @kn (aI @je4 (aI @kq (aI @je3 (aI @jbB @jbA)))))):=aI @JK (aI @kn (aI @je4 (aI @kq (aI @je3 (aI @jbB @jbA)))))
theorem Qb:type_of% (aI @JK (aI @kq @kn)):=aI @JK (aI @kq @kn)
theorem dzE {p:Prop}(h:p:=by first|assumption|decide|omega|(simp only[qF,Qm,Qc,Ql,zC,Qd,Qb,rzN,Qal,Qao];first|done|omega)|(apply Ju<;>first|omega|((simp(disch:=first|assumption|omega|(simp only[qF,Qm,Qc,Ql,zC,Qd,Qb,rzN,Qal,Qao];first|done|omega)) only[rzL,Qal,Qao,QaF,Qab,qF,Qm,Qc,Ql,zC,Qd,Qb ])<;>first|done|omega))|(simp(disch:=first|assumption|omega|(simp only[qF,Qm,Qc,Ql,zC,Qd,Qb,rzN,Qal,Qao];first|done|omega)) only[qF,Qm,Qc,Ql,zC,Qd,Qb,rzG,Qah,Qai,Qac,Qbf,Qal,Qao,QaT,QaV];first|done|omega|decide)):p:=h
theorem cyE {p:Prop}(h:p:=by apply Ju<;>first|omega|((simp(disch:=first|assumption|omega|(simp only[qF,Qm,Qc,Ql,zC,Qd,Qb,rzN,Qal,Qao];first|done|omega)) only[rzL,Qal,Qao,QaF,Qab,qF,Qm,Qc,Ql,zC,Qd,Qb])<;>first|done|rfl|omega|(simp;done)|(simp;omega))):p:=h
theorem Zr {p:Prop}(h:p:=by first|assumption|decide|omega|(simp only[qF,Qm,Qc,Ql,zC,Qd,Qb,zz,rzN,Qal,Qao];first|done|omega)|(apply Ju<;>first|omega|((simp(disch:=first|assumption|omega|(simp only[qF,Qm,Qc,Ql,zC,Qd,Qb,zz,rzN,Qal,Qao];first|done|omega)) only[rzL,Qal,Qao,QaF,Qab,qF,Qm,Qc,Ql,zC,Qd,Qb,zz ])<;>first|done|omega))|(simp(disch:=first|assumption|omega|(simp only[qF,Qm,Qc,Ql,zC,Qd,Qb,zz,rzN,Qal,Qao];first|done|omega)) only[qF,Qm,Qc,Ql,zC,Qd,Qb,zz,rzG,Qah,Qai,Qac,Qbf,Qal,Qao,QaT,QaV];first|done|omega|decide)):p:=h
theorem jg5 {S:List (List Nat)}{k:Nat}{st:St}{K:AV->St->Prop}(h:k<S.length):jd (yV (.lptr (S.map AV.str) k) st) K=K (.str S[k]) st:=by
 rw[wM (by simpa using h)];congr 1;exact KD h
theorem jbk {α:Type}{enc:α->List AV}{z:Nat}(hz:∀ x,(enc x).length=z){xs:List α}{i:Nat}(h:i<xs.length){k n:Nat}(hk:k+n<=z){st:St}{K:AV->St->Prop}:jd (zT n (.lptr (fl enc xs) (i * z+k)) st) K=K (.agg (((enc xs[i]).drop k).take n)) st:=by
 have:(i+1) * z<=xs.length * z:=Qbg z h;rw[QbI] at this;rw[jbl (by rw[zG hz];omega),<-jak hz h,List.drop_take,QbU,QbA,QbJ (by omega)]
theorem jh6 {xs:List AsT}{i:Nat}(h:i<xs.length){st:St}{K:AV->St->Prop}:jd (zT 6 (.lptr (fl asE xs) (i * 9+1)) st) K=K (.agg (eE xs[i].to)) st:=by
 rw[jbk Zh h (by decide),jaS,yg];rfl
theorem jdM {xs:List RuleT}{i:Nat}(h:i<xs.length){st:St}{K:AV->St->Prop}:jd (zT 6 (.lptr (fl ruE xs) (i * 7)) st) K=K (.agg (eE xs[i].when)) st:=by
 have:=jbk Y0 h (k:=0) (n:=6) (by decide) (st:=st) (K:=K);rw[QbG] at this;rw[this,kw,yg];rfl
end Go.Sy
end
noncomputable section
set_option maxRecDepth 100000
namespace Go.Sy
open Go.Ev Go.Proofs
variable {base:Bs}
def Z8 (a b:AsT):Bool:=decide (a.name=b.name) && JL a.to b.to
set_option maxHeartbeats 1000000 in
theorem jeE (hb:NB base)(xs ys:List AsT)(hl:xs.length<=BIG)(h1:∀ a∈xs,szE a.to<=BIG)(h2:∀ a∈ys,szE a.to<=BIG) :
  Tot base 21 [.lst xs.length (fl asE xs),.lst ys.length (fl asE ys)] (.bool (qp Z8 xs ys)):=by
 refine hb.tot ?_ rfl rfl;have ene:((xs.length:Int)=(ys.length:Int))=(xs.length=ys.length):=by rw[eq_iff_iff];omega
 unfold BIG at hl;refine qi x58 (by rfl) (hb.pur 21 1 (by decide)) ?_;simp only[y58,jn,Qaj,Qam,Qah,Qai];rw[(by unfold z58;simp only[qq];rfl:z58=_)];repeat'(first|(apply jb<;>intro _)|simp(disch:=first|exact dzE|fail) only[ene,jj,yq,rzZ,Qab,Qac,Qad,Qaa,Qae])
 ·exact G0.v (by rw[QG (by assumption)]) rfl
 have hl2:xs.length=ys.length:=by simp_all
 refine zj xs.length (λk L s=>qp Z8 (xs.take k) (ys.take k)=true/\Has L 0 (.lst xs.length (fl asE xs))/\Has L 1 (.lst ys.length (fl asE ys))) (by first|assumption|omega) (by decide) (by simp(disch:=decide) only[ji,jc]) (by simp(disch:=decide) only[ji,jc]) ?_ (λk L s v h=>by simp(disch:=decide) only[jc];exact h) (λk L s v h=>by simp(disch:=decide) only[jc];exact h) (λk L s hk hI hi hn=>?_) (λL s hI=>?_)
 ·refine⟨rfl,?_⟩;simp(disch:=decide) only[Qan,Qaq,z0,z1,ji,jc,and_true,true_and]
 ·obtain⟨h0,i0,i1⟩:=hI;have hk2:k<ys.length:=by omega
  have e:=Gg hb xs[k].to (h1 _ (QaJ hk)) ys[k].to (h2 _ (QaJ hk2));repeat'(first|(apply jb<;>intro _)|simp(disch:=first|exact dzE|fail) only[ja i0,ja i1,ja hi,ja hn,jh6,e,jj,yq,rzZ,Qab,Qac,Qad,Qaa,Qae])
  all_goals first
   |(refine G0.v (congrArg AV.bool (Eq.symm (JU hk hk2 ?_))) rfl;unfold Z8;simp_all;done)
   |(
    refine⟨⟨?_,?_⟩,?_⟩
    ·rw[QX hk hk2,h0];unfold Z8;simp_all
    ·simp(disch:=decide) only[Qan,Qaq,z0,z1,ji,jc,and_true,true_and,i0,i1]
    ·simp(disch:=decide) only[Qan,Qaq,z0,z1,ji,jc,and_true,true_and,hi,hn])
 ·obtain⟨h0,i0,i1⟩:=hI;repeat'(first|(apply jb<;>intro _)|simp(disch:=first|exact dzE|fail) only[ja i0,ja i1,jj,yq,rzZ,Qab,Qac,Qad,Qaa,Qae])
  exact G0.v (by rw[JI hl2 h0]) rfl
end Go.Sy
end
noncomputable section
set_option maxRecDepth 100000
namespace Go.Sy
open Go.Ev Go.Proofs
variable {base:Bs}
def zR (x y:EnumT):Bool:=decide (x.name=y.name) && qp (λa b=>decide (a=b)) x.vals y.vals
def zL (x y:DeclT):Bool:=decide (x.name=y.name) && decide (x.ty=y.ty) && decide (x.lo=y.lo) && decide (x.hi=y.hi) && qp JL x.begins y.begins
def vW (x y:RuleT):Bool:=JL x.when y.when && qp Z8 x.acts y.acts
def zQ (x y:ProcT):Bool:=decide (x.name=y.name) && qp vW x.rules y.rules
def vV (a b:SrcT):Bool:=qp zR a.enums b.enums && qp zL a.vars b.vars && qp zQ a.procs b.procs
structure SmR (r:RuleT):Prop where
 when:szE r.when<=BIG
 acts:r.acts.length<=BIG
 to:∀ a∈r.acts,szE a.to<=BIG
structure SmS (m:SrcT):Prop where
 enums:m.enums.length<=BIG
 vals:∀ e∈m.enums,e.vals.length<=BIG
 vars:m.vars.length<=BIG
 begs:∀ d∈m.vars,d.begins.length<=BIG/\∀ x∈d.begins,szE x<=BIG
 procs:m.procs.length<=BIG
 rules:∀ p∈m.procs,p.rules.length<=BIG/\∀ r∈p.rules,SmR r
set_option maxHeartbeats 4000000 in
theorem Gh (hb:NB base)(a b:SrcT)(ha:SmS a)(hb2:SmS b):PX Qaf base 10 [.agg (srE a),.agg (srE b)] (.ok (.bool (vV a b))):=by
 have he:=ha.enums;have hv:=ha.vars;have hp:=ha.procs;have ene:((a.enums.length:Int)=(b.enums.length:Int))=(a.enums.length=b.enums.length):=by rw[eq_iff_iff];omega
 have env:((a.vars.length:Int)=(b.vars.length:Int))=(a.vars.length=b.vars.length):=by rw[eq_iff_iff];omega
 have enp:((a.procs.length:Int)=(b.procs.length:Int))=(a.procs.length=b.procs.length):=by rw[eq_iff_iff];omega
 have hd:vV a b=(qp zR a.enums b.enums && qp zL a.vars b.vars && qp zQ a.procs b.procs):=rfl;unfold BIG at he hv hp;refine qi x20 (by rfl) (hb.pur 10 1 (by decide)) ?_;simp only[y20,jn,Qaj,Qam,Qah,Qai];rw[(by unfold z20;simp only[qq];rfl:z20=_)];repeat'(first|(apply jb<;>intro _)|simp(disch:=first|exact dzE|fail) only[ene,env,enp,jj,yq,yQ,yT,qI,yR,yO,rzZ,Qab,Qac,Qad,Qaa,Qae])
 ·exact G0.v (by rw[hd,QG (by assumption)];rfl) rfl
 ·exact G0.v (by rw[hd,QG (xs:=a.vars) (by assumption)];simp) rfl
 ·exact G0.v (by rw[hd,QG (xs:=a.procs) (by assumption)];simp) rfl
 have le:a.enums.length=b.enums.length:=by simp_all
 have lv:a.vars.length=b.vars.length:=by simp_all
 have lp:a.procs.length=b.procs.length:=by simp_all
 refine zj a.enums.length (λk L s=>qp zR (a.enums.take k) (b.enums.take k)=true/\Has L 2 (.ptr 0 0)/\Has L 3 (.ptr 1 0)/\Has L 43 (.lst a.enums.length (fl enE a.enums))/\2<=s.nx/\Cl s 0 (srE a)/\Cl s 1 (srE b)) (by first|assumption|omega) (by decide) (by simp(disch:=decide) only[ji,jc]) (by simp(disch:=decide) only[ji,jc]) ?_ (λk L s v h=>by simp(disch:=decide) only[jc];exact h) (λk L s v h=>by simp(disch:=decide) only[jc];exact h) (λko Lo so hko hIo hio hno=>?_) (λLo so hIo=>?_)
 ·refine⟨rfl,?_⟩;simp(disch:=decide) only[Qan,Qaq,z0,z1,ji,jc,and_true,true_and];exact⟨by(first|omega|(simp only[jf,jg,jl,jr,jq];first|done|omega)),by first|(first|exact C0|(simp(disch:=first|assumption|decide|(first|omega|(simp only[jf,jg,jl,jr,jq];first|done|omega))) only[jH,jJ,jI,qu,jP,jQ,j4,j0];exact C0))|(first|exact cyE|fail),by first|(first|exact C1|(simp(disch:=first|assumption|decide|(first|omega|(simp only[jf,jg,jl,jr,jq];first|done|omega))) only[jH,jJ,jI,qu,jP,jQ,j4,j0];exact C1))|(first|exact cyE|fail)⟩
 ·obtain⟨h0,i2,i3,iL,n0,C0,C1⟩:=hIo;have hk2:ko<b.enums.length:=by omega
  obtain⟨q,hq⟩:∃ q,q=so.nx:=⟨_,rfl⟩;obtain⟨x,hx⟩:∃ x,x=a.enums[ko]:=⟨_,rfl⟩;obtain⟨y,hy⟩:∃ y,y=b.enums[ko]:=⟨_,rfl⟩;have bad:zR x y=false->qp zR a.enums b.enums=false:=λh=>JU hko hk2 (by rw[<-hx,<-hy];exact h);have good:zR x y=true->qp zR (a.enums.take (ko+1)) (b.enums.take (ko+1))=true:=λh=>by rw[QX hko hk2,h0,<-hx,<-hy,h];rfl
  have hxm:x∈a.enums:=hx▸QaJ hko;have hym:y∈b.enums:=hy▸QaJ hk2;have hin:x.vals.length<=BIG:=ha.vals x hxm;have enx:((x.vals.length:Int)=(y.vals.length:Int))=(x.vals.length=y.vals.length):=by rw[eq_iff_iff];omega
  unfold BIG at hin
  (have zz:=aI C0.r C1.r;(repeat'(first|(apply jb<;>intro _)|simp(disch:=first|exact Zr|fail) only[ja i2,ja i3,ja iL,ja hio,ja hno,<-hx,<-hy,<-hq,enx,C0.q,C1.q,C0.r,C1.r,jj,yq,yQ,yT,qI,yR,yO,rzZ,Qab,Qac,Qad,Qaa,Qae]));(all_goals(clear zz)))
  ·have hb3:=bad (by unfold zR;rw[decide_eq_false ‹¬ x.name=y.name›];rfl);exact G0.v (by rw[hd,hb3];simp) rfl
  ·have hb3:=bad (by unfold zR;rw[QG (by assumption)];simp);exact G0.v (by rw[hd,hb3];simp) rfl
  have lx:x.vals.length=y.vals.length:=by simp_all
  refine zj x.vals.length (λj L s=>qp (λa b=>decide (a=b)) (x.vals.take j) (y.vals.take j)=true/\Has L 2 (.ptr 0 0)/\Has L 3 (.ptr 1 0)/\Has L 43 (.lst a.enums.length (fl enE a.enums))/\Has L 44 (.int .i64 (a.enums.length:Int))/\Has L 45 (.int .i64 (ko:Int))/\Has L 6 (.ptr q 0)/\Has L 7 (.ptr (q+1) 0)/\q+2<=s.nx/\Cl s 0 (srE a)/\Cl s 1 (srE b)/\Cl s q (enE x)/\Cl s (q+1) (enE y)) (by first|assumption|omega) (by decide) (by simp(disch:=decide) only[ji,jc]) (by simp(disch:=decide) only[ji,jc]) ?_ (λk L s v h=>by simp(disch:=decide) only[jc];exact h) (λk L s v h=>by simp(disch:=decide) only[jc];exact h) (λk L s hk hI hi hn=>?_) (λL s hI=>?_)
  ·refine⟨rfl,?_⟩;simp(disch:=decide) only[Qan,Qaq,z0,z1,ji,jc,and_true,true_and,i2,i3,iL,hio,hno];exact⟨by(first|omega|(simp only[jf,jg,jl,jr,jq];first|done|omega)),by(first|exact C0|(simp(disch:=first|assumption|decide|(first|omega|(simp only[jf,jg,jl,jr,jq];first|done|omega))) only[jH,jJ,jI,qu,jP,jQ,j4,j0];exact C0)),by(first|exact C1|(simp(disch:=first|assumption|decide|(first|omega|(simp only[jf,jg,jl,jr,jq];first|done|omega))) only[jH,jJ,jI,qu,jP,jQ,j4,j0];exact C1)),by(first|exact cyE|fail),by(first|exact cyE|fail)⟩
  ·clear hio hno i2 i3 iL C0 C1;obtain⟨g0,i2,i3,iL,hno,hio,iX,iY,n0,C0,C1,C2,C3⟩:=hI;have hj2:k<y.vals.length:=by omega
   (have zz:=aI C0.r (aI C1.r (aI C2.r C3.r));(repeat'(first|(apply jb<;>intro _)|simp(disch:=first|exact Zr|fail) only[ja i2,ja i3,ja iL,ja hi,ja hn,ja iX,ja iY,jg5,C0.q,C1.q,C2.q,C3.q,C0.r,C1.r,C2.r,C3.r,jj,yq,yQ,yT,qI,yR,yO,rzZ,Qab,Qac,Qad,Qaa,Qae]));(all_goals(clear zz)))
   all_goals first
    |(have hb3:=bad (by unfold zR;rw[JU hk hj2 (by simp_all)];simp);exact G0.v (by rw[hd,hb3];simp) rfl)
    |(
      refine⟨⟨?_,?_⟩,?_⟩
      · rw[QX hk hj2,g0];simp_all
      · simp(disch:=decide) only[Qan,Qaq,z0,z1,ji,jc,and_true,true_and,i2,i3,iL,hio,hno,iX,iY];exact⟨by(first|omega|(simp only[jf,jg,jl,jr,jq];first|done|omega)),by(first|exact C0|(simp(disch:=first|assumption|decide|(first|omega|(simp only[jf,jg,jl,jr,jq];first|done|omega))) only[jH,jJ,jI,qu,jP,jQ,j4,j0];exact C0)),by(first|exact C1|(simp(disch:=first|assumption|decide|(first|omega|(simp only[jf,jg,jl,jr,jq];first|done|omega))) only[jH,jJ,jI,qu,jP,jQ,j4,j0];exact C1)),by(first|exact C2|(simp(disch:=first|assumption|decide|(first|omega|(simp only[jf,jg,jl,jr,jq];first|done|omega))) only[jH,jJ,jI,qu,jP,jQ,j4,j0];exact C2)),by(first|exact C3|(simp(disch:=first|assumption|decide|(first|omega|(simp only[jf,jg,jl,jr,jq];first|done|omega))) only[jH,jJ,jI,qu,jP,jQ,j4,j0];exact C3))⟩
      · simp(disch:=decide) only[Qan,Qaq,z0,z1,ji,jc,and_true,true_and,hi,hn])
  ·clear hio hno i2 i3 iL C0 C1;obtain⟨g0,i2,i3,iL,hno,hio,iX,iY,n0,C0,C1,C2,C3⟩:=hI;have g1:=JI lx g0;repeat'(first|(apply jb<;>intro _)|simp(disch:=first|exact dzE|fail) only[ja i2,ja i3,jj,yq,yQ,yT,qI,yR,yO,rzZ,Qab,Qac,Qad,Qaa,Qae])
   refine⟨⟨good ?_,?_⟩,?_⟩
   ·unfold zR;simp_all
   ·simp(disch:=decide) only[Qan,Qaq,z0,z1,ji,jc,and_true,true_and,i2,i3,iL];exact⟨by(first|omega|(simp only[jf,jg,jl,jr,jq];first|done|omega)),by(first|exact C0|(simp(disch:=first|assumption|decide|(first|omega|(simp only[jf,jg,jl,jr,jq];first|done|omega))) only[jH,jJ,jI,qu,jP,jQ,j4,j0];exact C0)),by(first|exact C1|(simp(disch:=first|assumption|decide|(first|omega|(simp only[jf,jg,jl,jr,jq];first|done|omega))) only[jH,jJ,jI,qu,jP,jQ,j4,j0];exact C1))⟩
   ·simp(disch:=decide) only[Qan,Qaq,z0,z1,ji,jc,and_true,true_and,hio,hno]
 ·obtain⟨h0,i2,i3,iL,n0,C0,C1⟩:=hIo;have f0:=JI le h0;rw[f0] at hd
  (have zz:=aI C0.r C1.r;(repeat'(first|(apply jb<;>intro _)|simp(disch:=first|exact Zr|fail) only[ja i2,ja i3,ja iL,C0.q,C1.q,C0.r,C1.r,jj,yq,yQ,yT,qI,yR,yO,rzZ,Qab,Qac,Qad,Qaa,Qae]));(all_goals(clear zz)))
  refine zj a.vars.length (λk L s=>qp zL (a.vars.take k) (b.vars.take k)=true/\Has L 2 (.ptr 0 0)/\Has L 3 (.ptr 1 0)/\Has L 89 (.lst a.vars.length (fl qo a.vars))/\2<=s.nx/\Cl s 0 (srE a)/\Cl s 1 (srE b)) (by first|assumption|omega) (by decide) (by simp(disch:=decide) only[ji,jc]) (by simp(disch:=decide) only[ji,jc]) ?_ (λk L s v h=>by simp(disch:=decide) only[jc];exact h) (λk L s v h=>by simp(disch:=decide) only[jc];exact h) (λko Lo so hko hIo hio hno=>?_) (λLo so hIo=>?_)
  ·refine⟨rfl,?_⟩;simp(disch:=decide) only[Qan,Qaq,z0,z1,ji,jc,and_true,true_and,i2,i3];exact⟨by(first|omega|(simp only[jf,jg,jl,jr,jq];first|done|omega)),by first|(first|exact C0|(simp(disch:=first|assumption|decide|(first|omega|(simp only[jf,jg,jl,jr,jq];first|done|omega))) only[jH,jJ,jI,qu,jP,jQ,j4,j0];exact C0))|(first|exact cyE|fail),by first|(first|exact C1|(simp(disch:=first|assumption|decide|(first|omega|(simp only[jf,jg,jl,jr,jq];first|done|omega))) only[jH,jJ,jI,qu,jP,jQ,j4,j0];exact C1))|(first|exact cyE|fail)⟩
  ·obtain⟨h0,i2,i3,iL,n0,C0,C1⟩:=hIo;have hk2:ko<b.vars.length:=by omega
   obtain⟨q,hq⟩:∃ q,q=so.nx:=⟨_,rfl⟩;obtain⟨x,hx⟩:∃ x,x=a.vars[ko]:=⟨_,rfl⟩;obtain⟨y,hy⟩:∃ y,y=b.vars[ko]:=⟨_,rfl⟩;have bad:zL x y=false->qp zL a.vars b.vars=false:=λh=>JU hko hk2 (by rw[<-hx,<-hy];exact h);have good:zL x y=true->qp zL (a.vars.take (ko+1)) (b.vars.take (ko+1))=true:=λh=>by rw[QX hko hk2,h0,<-hx,<-hy,h];rfl
   have hxm:x∈a.vars:=hx▸QaJ hko;have hym:y∈b.vars:=hy▸QaJ hk2;have hin:x.begins.length<=BIG:=(ha.begs x hxm).1;have enx:((x.begins.length:Int)=(y.begins.length:Int))=(x.begins.length=y.begins.length):=by rw[eq_iff_iff];omega
   unfold BIG at hin
   (have zz:=aI C0.r C1.r;(repeat'(first|(apply jb<;>intro _)|simp(disch:=first|exact Zr|fail) only[ja i2,ja i3,ja iL,ja hio,ja hno,<-hx,<-hy,<-hq,enx,C0.q,C1.q,C0.r,C1.r,jj,yq,yQ,yT,qI,yR,yO,rzZ,Qab,Qac,Qad,Qaa,Qae]));(all_goals(clear zz)))
   ·have hb3:=bad (by unfold zL;rw[decide_eq_false ‹¬ x.name=y.name›];rfl);exact G0.v (by rw[hd,hb3];simp) rfl
   ·have hb3:=bad (by unfold zL;rw[decide_eq_false ‹¬ x.ty=y.ty›];simp);exact G0.v (by rw[hd,hb3];simp) rfl
   ·have hb3:=bad (by unfold zL;rw[decide_eq_false ‹¬ x.lo=y.lo›];simp);exact G0.v (by rw[hd,hb3];simp) rfl
   ·have hb3:=bad (by unfold zL;rw[decide_eq_false ‹¬ x.hi=y.hi›];simp);exact G0.v (by rw[hd,hb3];simp) rfl
   ·have hb3:=bad (by unfold zL;rw[QG (by assumption)];simp);exact G0.v (by rw[hd,hb3];simp) rfl
   have lx:x.begins.length=y.begins.length:=by simp_all
   refine zj x.begins.length (λj L s=>qp JL (x.begins.take j) (y.begins.take j)=true/\Has L 2 (.ptr 0 0)/\Has L 3 (.ptr 1 0)/\Has L 89 (.lst a.vars.length (fl qo a.vars))/\Has L 90 (.int .i64 (a.vars.length:Int))/\Has L 91 (.int .i64 (ko:Int))/\Has L 10 (.ptr q 0)/\Has L 11 (.ptr (q+1) 0)/\q+2<=s.nx/\Cl s 0 (srE a)/\Cl s 1 (srE b)/\Cl s q (qo x)/\Cl s (q+1) (qo y)) (by first|assumption|omega) (by decide) (by simp(disch:=decide) only[ji,jc]) (by simp(disch:=decide) only[ji,jc]) ?_ (λk L s v h=>by simp(disch:=decide) only[jc];exact h) (λk L s v h=>by simp(disch:=decide) only[jc];exact h) (λk L s hk hI hi hn=>?_) (λL s hI=>?_)
   ·refine⟨rfl,?_⟩;simp(disch:=decide) only[Qan,Qaq,z0,z1,ji,jc,and_true,true_and,i2,i3,iL,hio,hno];exact⟨by(first|omega|(simp only[jf,jg,jl,jr,jq];first|done|omega)),by(first|exact C0|(simp(disch:=first|assumption|decide|(first|omega|(simp only[jf,jg,jl,jr,jq];first|done|omega))) only[jH,jJ,jI,qu,jP,jQ,j4,j0];exact C0)),by(first|exact C1|(simp(disch:=first|assumption|decide|(first|omega|(simp only[jf,jg,jl,jr,jq];first|done|omega))) only[jH,jJ,jI,qu,jP,jQ,j4,j0];exact C1)),by(first|exact cyE|fail),by(first|exact cyE|fail)⟩
   ·clear hio hno i2 i3 iL C0 C1;obtain⟨g0,i2,i3,iL,hno,hio,iX,iY,n0,C0,C1,C2,C3⟩:=hI;have hj2:k<y.begins.length:=by omega
    have e:=Gg hb x.begins[k] ((ha.begs x hxm).2 _ (QaJ hk)) y.begins[k] ((hb2.begs y hym).2 _ (QaJ hj2))
    (have zz:=aI C0.r (aI C1.r (aI C2.r C3.r));(repeat'(first|(apply jb<;>intro _)|simp(disch:=first|exact Zr|fail) only[ja i2,ja i3,ja iL,ja hi,ja hn,ja iX,ja iY,e,C0.q,C1.q,C2.q,C3.q,C0.r,C1.r,C2.r,C3.r,jj,yq,yQ,yT,qI,yR,yO,rzZ,Qab,Qac,Qad,Qaa,Qae]));(all_goals(clear zz)))
    all_goals first
     |(have hb3:=bad (by unfold zL;rw[JU hk hj2 (by simp_all)];simp);exact G0.v (by rw[hd,hb3];simp) rfl)
     |(
        refine⟨⟨?_,?_⟩,?_⟩
        ·rw[QX hk hj2,g0];simp_all
        ·simp(disch:=decide) only[Qan,Qaq,z0,z1,ji,jc,and_true,true_and,i2,i3,iL,hio,hno,iX,iY];exact⟨by(first|omega|(simp only[jf,jg,jl,jr,jq];first|done|omega)),by(first|exact C0|(simp(disch:=first|assumption|decide|(first|omega|(simp only[jf,jg,jl,jr,jq];first|done|omega))) only[jH,jJ,jI,qu,jP,jQ,j4,j0];exact C0)),by(first|exact C1|(simp(disch:=first|assumption|decide|(first|omega|(simp only[jf,jg,jl,jr,jq];first|done|omega))) only[jH,jJ,jI,qu,jP,jQ,j4,j0];exact C1)),by(first|exact C2|(simp(disch:=first|assumption|decide|(first|omega|(simp only[jf,jg,jl,jr,jq];first|done|omega))) only[jH,jJ,jI,qu,jP,jQ,j4,j0];exact C2)),by(first|exact C3|(simp(disch:=first|assumption|decide|(first|omega|(simp only[jf,jg,jl,jr,jq];first|done|omega))) only[jH,jJ,jI,qu,jP,jQ,j4,j0];exact C3))⟩
        ·simp(disch:=decide) only[Qan,Qaq,z0,z1,ji,jc,and_true,true_and,hi,hn])
   ·clear hio hno i2 i3 iL C0 C1;obtain⟨g0,i2,i3,iL,hno,hio,iX,iY,n0,C0,C1,C2,C3⟩:=hI;have g1:=JI lx g0;repeat'(first|(apply jb<;>intro _)|simp(disch:=first|exact dzE|fail) only[ja i2,ja i3,jj,yq,yQ,yT,qI,yR,yO,rzZ,Qab,Qac,Qad,Qaa,Qae])
    refine⟨⟨good ?_,?_⟩,?_⟩
    ·unfold zL;simp_all
    ·simp(disch:=decide) only[Qan,Qaq,z0,z1,ji,jc,and_true,true_and,i2,i3,iL];exact⟨by(first|omega|(simp only[jf,jg,jl,jr,jq];first|done|omega)),by(first|exact C0|(simp(disch:=first|assumption|decide|(first|omega|(simp only[jf,jg,jl,jr,jq];first|done|omega))) only[jH,jJ,jI,qu,jP,jQ,j4,j0];exact C0)),by(first|exact C1|(simp(disch:=first|assumption|decide|(first|omega|(simp only[jf,jg,jl,jr,jq];first|done|omega))) only[jH,jJ,jI,qu,jP,jQ,j4,j0];exact C1))⟩
    ·simp(disch:=decide) only[Qan,Qaq,z0,z1,ji,jc,and_true,true_and,hio,hno]
  ·obtain⟨h0,i2,i3,iL,n0,C0,C1⟩:=hIo;have f0:=JI lv h0;rw[f0] at hd
   (have zz:=aI C0.r C1.r;(repeat'(first|(apply jb<;>intro _)|simp(disch:=first|exact Zr|fail) only[ja i2,ja i3,ja iL,C0.q,C1.q,C0.r,C1.r,jj,yq,yQ,yT,qI,yR,yO,rzZ,Qab,Qac,Qad,Qaa,Qae]));(all_goals(clear zz)))
   refine zj a.procs.length (λk L s=>qp zQ (a.procs.take k) (b.procs.take k)=true/\Has L 2 (.ptr 0 0)/\Has L 3 (.ptr 1 0)/\Has L 157 (.lst a.procs.length (fl prE a.procs))/\2<=s.nx/\Cl s 0 (srE a)/\Cl s 1 (srE b)) (by first|assumption|omega) (by decide) (by simp(disch:=decide) only[ji,jc]) (by simp(disch:=decide) only[ji,jc]) ?_ (λk L s v h=>by simp(disch:=decide) only[jc];exact h) (λk L s v h=>by simp(disch:=decide) only[jc];exact h) (λko Lo so hko hIo hio hno=>?_) (λLo so hIo=>?_)
   ·refine⟨rfl,?_⟩;simp(disch:=decide) only[Qan,Qaq,z0,z1,ji,jc,and_true,true_and,i2,i3];exact⟨by(first|omega|(simp only[jf,jg,jl,jr,jq];first|done|omega)),by first|(first|exact C0|(simp(disch:=first|assumption|decide|(first|omega|(simp only[jf,jg,jl,jr,jq];first|done|omega))) only[jH,jJ,jI,qu,jP,jQ,j4,j0];exact C0))|(first|exact cyE|fail),by first|(first|exact C1|(simp(disch:=first|assumption|decide|(first|omega|(simp only[jf,jg,jl,jr,jq];first|done|omega))) only[jH,jJ,jI,qu,jP,jQ,j4,j0];exact C1))|(first|exact cyE|fail)⟩
   ·obtain⟨h0,i2,i3,iL,n0,C0,C1⟩:=hIo;have hk2:ko<b.procs.length:=by omega
    obtain⟨q,hq⟩:∃ q,q=so.nx:=⟨_,rfl⟩;obtain⟨x,hx⟩:∃ x,x=a.procs[ko]:=⟨_,rfl⟩;obtain⟨y,hy⟩:∃ y,y=b.procs[ko]:=⟨_,rfl⟩;have bad:zQ x y=false->qp zQ a.procs b.procs=false:=λh=>JU hko hk2 (by rw[<-hx,<-hy];exact h);have good:zQ x y=true->qp zQ (a.procs.take (ko+1)) (b.procs.take (ko+1))=true:=λh=>by rw[QX hko hk2,h0,<-hx,<-hy,h];rfl
    have hxm:x∈a.procs:=hx▸QaJ hko;have hym:y∈b.procs:=hy▸QaJ hk2;have hin:x.rules.length<=BIG:=(ha.rules x hxm).1;have enx:((x.rules.length:Int)=(y.rules.length:Int))=(x.rules.length=y.rules.length):=by rw[eq_iff_iff];omega
    unfold BIG at hin
    (have zz:=aI C0.r C1.r;(repeat'(first|(apply jb<;>intro _)|simp(disch:=first|exact Zr|fail) only[ja i2,ja i3,ja iL,ja hio,ja hno,<-hx,<-hy,<-hq,enx,C0.q,C1.q,C0.r,C1.r,jj,yq,yQ,yT,qI,yR,yO,rzZ,Qab,Qac,Qad,Qaa,Qae]));(all_goals(clear zz)))
    ·have hb3:=bad (by unfold zQ;rw[decide_eq_false ‹¬ x.name=y.name›];rfl);exact G0.v (by rw[hd,hb3];simp) rfl
    ·have hb3:=bad (by unfold zQ;rw[QG (by assumption)];simp);exact G0.v (by rw[hd,hb3];simp) rfl
    have lx:x.rules.length=y.rules.length:=by simp_all
    refine zj x.rules.length (λj L s=>qp vW (x.rules.take j) (y.rules.take j)=true/\Has L 2 (.ptr 0 0)/\Has L 3 (.ptr 1 0)/\Has L 157 (.lst a.procs.length (fl prE a.procs))/\Has L 158 (.int .i64 (a.procs.length:Int))/\Has L 159 (.int .i64 (ko:Int))/\Has L 14 (.ptr q 0)/\Has L 15 (.ptr (q+1) 0)/\q+2<=s.nx/\Cl s 0 (srE a)/\Cl s 1 (srE b)/\Cl s q (prE x)/\Cl s (q+1) (prE y)) (by first|assumption|omega) (by decide) (by simp(disch:=decide) only[ji,jc]) (by simp(disch:=decide) only[ji,jc]) ?_ (λk L s v h=>by simp(disch:=decide) only[jc];exact h) (λk L s v h=>by simp(disch:=decide) only[jc];exact h) (λk L s hk hI hi hn=>?_) (λL s hI=>?_)
    ·refine⟨rfl,?_⟩;simp(disch:=decide) only[Qan,Qaq,z0,z1,ji,jc,and_true,true_and,i2,i3,iL,hio,hno];exact⟨by(first|omega|(simp only[jf,jg,jl,jr,jq];first|done|omega)),by(first|exact C0|(simp(disch:=first|assumption|decide|(first|omega|(simp only[jf,jg,jl,jr,jq];first|done|omega))) only[jH,jJ,jI,qu,jP,jQ,j4,j0];exact C0)),by(first|exact C1|(simp(disch:=first|assumption|decide|(first|omega|(simp only[jf,jg,jl,jr,jq];first|done|omega))) only[jH,jJ,jI,qu,jP,jQ,j4,j0];exact C1)),by(first|exact cyE|fail),by(first|exact cyE|fail)⟩
    ·clear hio hno i2 i3 iL C0 C1;obtain⟨g0,i2,i3,iL,hno,hio,iX,iY,n0,C0,C1,C2,C3⟩:=hI;have hj2:k<y.rules.length:=by omega
     have sx:=(ha.rules x hxm).2 _ (QaJ hk);have sy:=(hb2.rules y hym).2 _ (QaJ hj2);have e:=Gg hb x.rules[k].when sx.when y.rules[k].when sy.when;have e2:=jeE hb x.rules[k].acts y.rules[k].acts sx.acts sx.to sy.to
     (have zz:=aI C0.r (aI C1.r (aI C2.r C3.r));(repeat'(first|(apply jb<;>intro _)|simp(disch:=first|exact Zr|fail) only[ja i2,ja i3,ja iL,ja hi,ja hn,ja iX,ja iY,e,e2,jdM,C0.q,C1.q,C2.q,C3.q,C0.r,C1.r,C2.r,C3.r,jj,yq,yQ,yT,qI,yR,yO,rzZ,Qab,Qac,Qad,Qaa,Qae]));(all_goals(clear zz)))
     all_goals first
       |(have hb3:=bad (by unfold zQ;rw[JU hk hj2 (by unfold vW;simp_all)];simp);exact G0.v (by rw[hd,hb3];simp) rfl)
       |(
         refine⟨⟨?_,?_⟩,?_⟩
         ·rw[QX hk hj2,g0];unfold vW;simp_all
         ·simp(disch:=decide) only[Qan,Qaq,z0,z1,ji,jc,and_true,true_and,i2,i3,iL,hio,hno,iX,iY];exact⟨by(first|omega|(simp only[jf,jg,jl,jr,jq];first|done|omega)),by(first|exact C0|(simp(disch:=first|assumption|decide|(first|omega|(simp only[jf,jg,jl,jr,jq];first|done|omega))) only[jH,jJ,jI,qu,jP,jQ,j4,j0];exact C0)),by(first|exact C1|(simp(disch:=first|assumption|decide|(first|omega|(simp only[jf,jg,jl,jr,jq];first|done|omega))) only[jH,jJ,jI,qu,jP,jQ,j4,j0];exact C1)),by(first|exact C2|(simp(disch:=first|assumption|decide|(first|omega|(simp only[jf,jg,jl,jr,jq];first|done|omega))) only[jH,jJ,jI,qu,jP,jQ,j4,j0];exact C2)),by(first|exact C3|(simp(disch:=first|assumption|decide|(first|omega|(simp only[jf,jg,jl,jr,jq];first|done|omega))) only[jH,jJ,jI,qu,jP,jQ,j4,j0];exact C3))⟩
         ·simp(disch:=decide) only[Qan,Qaq,z0,z1,ji,jc,and_true,true_and,hi,hn])
    ·clear hio hno i2 i3 iL C0 C1;obtain⟨g0,i2,i3,iL,hno,hio,iX,iY,n0,C0,C1,C2,C3⟩:=hI;have g1:=JI lx g0;repeat'(first|(apply jb<;>intro _)|simp(disch:=first|exact dzE|fail) only[ja i2,ja i3,jj,yq,yQ,yT,qI,yR,yO,rzZ,Qab,Qac,Qad,Qaa,Qae])
     refine⟨⟨good ?_,?_⟩,?_⟩
     · unfold zQ;simp_all
     · simp(disch:=decide) only[Qan,Qaq,z0,z1,ji,jc,and_true,true_and,i2,i3,iL];exact⟨by(first|omega|(simp only[jf,jg,jl,jr,jq];first|done|omega)),by(first|exact C0|(simp(disch:=first|assumption|decide|(first|omega|(simp only[jf,jg,jl,jr,jq];first|done|omega))) only[jH,jJ,jI,qu,jP,jQ,j4,j0];exact C0)),by(first|exact C1|(simp(disch:=first|assumption|decide|(first|omega|(simp only[jf,jg,jl,jr,jq];first|done|omega))) only[jH,jJ,jI,qu,jP,jQ,j4,j0];exact C1))⟩
     · simp(disch:=decide) only[Qan,Qaq,z0,z1,ji,jc,and_true,true_and,hio,hno]
   ·obtain⟨h0,i2,i3,iL,n0,C0,C1⟩:=hIo;have f0:=JI lp h0;rw[f0] at hd
    (have zz:=aI C0.r C1.r;(repeat'(first|(apply jb<;>intro _)|simp(disch:=first|exact Zr|fail) only[ja i2,ja i3,ja iL,C0.q,C1.q,C0.r,C1.r,jj,yq,yQ,yT,qI,yR,yO,rzZ,Qab,Qac,Qad,Qaa,Qae]));(all_goals(clear zz)))
    exact G0.v (by rw[hd];rfl) rfl
end Go.Sy
end
noncomputable section
namespace Go.Sy
open Go.Ev Go.RowKit
def frW (w:World):Inj:=⟨λ_=>.unborn,λB=>match w.heap[B]? with|some (.cells c _ _)=>some c.toList|_=>none⟩
theorem jiP {w:World}{B:Nat}{vs:List Value}(h:(frW w).g B=some vs):∃ c e f,w.heap[B]? = some (.cells c e f)/\c.toList=vs:=by
 unfold frW at h;dsimp only at h;split at h
 ·rename_i c e f hc;exact⟨c,e,f,hc,by simpa using h⟩
 ·cases h
theorem jfX {w:World}(hg:∃ te pe,w.cell? ⟨1,0,none⟩=some (.iface te pe)):Sim (frW w) st0.h st0.nx w:=
 ⟨λb B S e=>(by cases e),λb e=>(by cases e),λb b' B S S' e=>(by cases e),λb e=>absurd rfl e,⟨hg,λb S e=>by cases e⟩,λB vs h=>by
  obtain⟨c,e,f,h1,h2⟩:=jiP h;exact⟨⟨c,e,f.1,f.2,h1,h2,trivial⟩,λb S e=>by cases e⟩⟩
section
variable {H:Type} {enc:TypeId×Value->H} {P:Program} {w:World} {base:Nat} {sp:Nat->Bool} {held:Bool}
mutual
def k7:DataW H->Nat
 |.lit (.string bytes)=>bytes.length+1
 |.lit _=>1
 |.nil=>1
 |.ptr d=>k7 d+1
 |.slice elems spare=>Vc elems+Vc spare+1
 |.agg parts=>Vc parts+1
 |.iface _ d=>k7 d+1
 |.map entries=>1
 |.held _=>1
def Vc:List (DataW H)->Nat
 |[]=>0
 |d :: r=>k7 d+Vc r
end
def Reads (H:Type)(P:Program)(w:World)(N:Nat)(t:TypeId){α:Type}(z:Nat)(en:α->List AV)(sz:α->Nat):Prop:=
 P.cellsOf t=z/\(∀ x,(en x).length=z)/\∀ (enc:TypeId×Value->H) (base:Nat) (sp:Nat->Bool) (held:Bool) (fuel:Nat) (cs:List Value) (d:DataW H) (ps:List MemPlace),fuel<=N->DataW.trod enc P w base sp held fuel t cs=some (d,ps)->∃ x:α,VRs (frW w) (en x) cs/\(en x).all AV.cell=true/\sz x<=k7 d
theorem Reads.mono {N M:Nat}{α:Type}{t:TypeId}{z:Nat}{en:α->List AV}{sz:α->Nat}(R:Reads H P w N t z en sz)(h:M<=N):Reads H P w M t z en sz:=
 ⟨R.1,R.2.1,λenc base sp held fuel cs d ps hN=>R.2.2 enc base sp held fuel cs d ps (by omega)⟩
end
end Go.Sy
end
noncomputable section
set_option maxRecDepth 100000
namespace Go.Sy
open Go.Ev Go.Proofs
def YC (L:Nat)(t:Tk):Tk:={ t with line:=t.line+L }
def zb:List (List Nat):=[[123],[125],[40],[41],[58],[44],[59],[46,46],[58,61],[61],[33,61],[60],[60,61],[62],[62,61],[43],[45],[42],[33],[38],[124],[45,62],[60,45,62]]
theorem X4 {r:List Nat}{m:Nat}:∀ {xs:List (List Nat)} (ys:List (List Nat)),(∀ x∈xs,x.length=m)->zV r (xs ++ ys)=if r.take m∈xs then m else zV r ys
 |[],ys,_=>by simp
 |x :: xs,ys,h=>by
  have hx:=h x (by simp);have ih:=X4 (r:=r) (xs:=xs) ys λy hy=>h y (by simp[hy]);show(if begins x r=true then x.length else zV r (xs ++ ys))=_;by_cases hb:begins x r=true
  ·have hb':r.take x.length=x:=of_decide_eq_true hb;rw[hx] at hb';rw[if_pos hb,if_pos (by rw[hb'];simp),hx]
  ·rw[if_neg hb,ih];have hne:r.take m≠x:=λe=>hb (decide_eq_true (by rw[hx];exact e));by_cases hm:r.take m∈xs
   ·rw[if_pos hm,if_pos (by simp[hm])]
   ·rw[if_neg hm,if_neg (by simp[hm,hne])]
def Yh (r:List Nat):Nat->Nat
 |0=>0
 |k+1=>if k+1<=r.length/\r.take (k+1)∈zb then k+1 else Yh r k
theorem jgb {S:List (List Nat)}{x:List Nat}{k:Nat}(h:x.length=k):x∈S↔x∈S.filter λy=>decide (y.length=k):=by
 rw[List.mem_filter];simp[h]
theorem Wy (r:List Nat):Yh r 3=Je r:=by
 have e:Je r=if r.take 3∈yb.take 1 then 3 else if r.take 2∈(yb.drop 1).take 6 then 2 else if r.take 1∈yb.drop 7 then 1 else 0:=by
  show zV r (yb.take 1 ++ ((yb.drop 1).take 6 ++ (yb.drop 7 ++ [])))=_;rw[X4 (m:=3) _ (by decide),X4 (m:=2) _ (by decide),X4 (m:=1) _ (by decide)];rfl
 have h3:∀ x:List Nat,x∈(zb.filter λy=>decide (y.length=3))↔x∈yb.take 1:=by
  have e:(zb.filter λy=>decide (y.length=3))=yb.take 1:=by decide
  intro x;rw[e]
 have p2:∀ x∈(zb.filter λy=>decide (y.length=2)),x∈(yb.drop 1).take 6:=by decide
 have q2:∀ x∈(yb.drop 1).take 6,x∈(zb.filter λy=>decide (y.length=2)):=by decide
 have p1:∀ x∈(zb.filter λy=>decide (y.length=1)),x∈yb.drop 7:=by decide
 have q1:∀ x∈yb.drop 7,x∈(zb.filter λy=>decide (y.length=1)):=by decide
 have key:∀ k (A:List (List Nat)),0<k->(∀ x,x∈(zb.filter λy=>decide (y.length=k))↔x∈A)->((k<=r.length/\r.take k∈zb)↔r.take k∈A):=λk A hk hA=>by
  by_cases hl:k<=r.length
  ·have:=jgb (S:=zb) (x:=r.take k) (k:=k) (by rw[QaO];omega);rw[<-hA,<-this];exact⟨λh=>h.2,λh=>⟨hl,h⟩⟩
  ·constructor
   ·exact λh=>absurd h.1 hl
   ·intro h;have h2:=(hA _).2 h;have:=of_decide_eq_true (List.mem_filter.1 h2).2;rw[QaO] at this;omega
 have k3:=key 3 _ (by decide) h3;have k2:=key 2 _ (by decide) λx=>⟨p2 x,q2 x⟩;have k1:=key 1 _ (by decide) λx=>⟨p1 x,q1 x⟩;rw[e];show(if 2+1<=r.length/\r.take (2+1)∈zb then 2+1 else if 1+1<=r.length/\r.take (1+1)∈zb then 1+1 else if 0+1<=r.length/\r.take (0+1)∈zb then 0+1 else 0)=_;simp only[k3,k2,k1,show 2+1=3 from rfl,show 1+1=2 from rfl,show 0+1=1 from rfl]
def yd:List Nat->Nat
 |[]=>0
 |x :: r=>if qK x=true then jV qQ (x :: r) else if jE x=true then jV jE (x :: r) else Je (x :: r)
def JZ (rm:Bool):List Nat->Bool
 |[]=>rm
 |c :: r=>if c=10 then false else if rm=false/\c=47/\r.head? = some 47 then true else rm
def qL:Bool->List Nat->Nat
 |_,[]=>0
 |rm,c :: r=>if(JZ rm (c :: r) ||qB c)=true then qL (JZ rm (c :: r)) r+1 else 0
theorem z7 (rm:Bool)(c:Nat)(r:List Nat):JZ rm (c :: r)=if c=10 then false else if rm=false/\c=47/\r.head? = some 47 then true else rm:=rfl
theorem yP (rm:Bool)(c:Nat)(r:List Nat):qL rm (c :: r)=if(JZ rm (c :: r) ||qB c)=true then qL (JZ rm (c :: r)) r+1 else 0:=by rw[qL]
theorem JJ (x:Nat)(r:List Nat):yd (x :: r)=if qK x=true then jV qQ (x :: r) else if jE x=true then jV jE (x :: r) else Je (x :: r):=rfl
theorem Wo:∀ r:List Nat,qL true r=jV zS r+qL false (r.drop (jV zS r))
 |[]=>rfl
 |c :: r=>by
  by_cases h:c=10
  ·subst h;have h1:jV zS (10 :: r)=0:=rfl;rw[h1,QbD,QaF,yP,yP,z7,z7,if_pos rfl,if_pos rfl]
  ·have h1:JZ true (c :: r)=true:=by rw[z7,if_neg h,if_neg (by simp)]
   have h2:jV zS (c :: r)=jV zS r+1:=by
    have:zS c=true:=by unfold zS;simp[h]
    simp only[jV,if_pos this]
   have h3:qL true (c :: r)=qL true r+1:=by
    rw[yP,h1,Bool.true_or,if_pos rfl]
   rw[h3,h2,Wo r,List.drop_succ_cons];omega
theorem uA:∀ r:List Nat,qL false r=jV qB r+qL false (r.drop (jV qB r))
 |[]=>rfl
 |c :: r=>by
  by_cases h:qB c=true
  ·have hc:c=32\/c=9\/c=10:=by unfold qB at h;simp at h;omega
   have h1:JZ false (c :: r)=false:=by
    rw[z7];by_cases h10:c=10
    ·rw[if_pos h10]
    ·rw[if_neg h10,if_neg (λh=>by have:=h.2.1;omega)]
   have h2:jV qB (c :: r)=jV qB r+1:=by simp only[jV,if_pos h]
   have h3:qL false (c :: r)=qL false r+1:=by
    rw[yP,h1,h,Bool.or_true,if_pos rfl]
   rw[h3,h2,uA r,List.drop_succ_cons];omega
  ·have h2:jV qB (c :: r)=0:=by simp only[jV,if_neg h]
   rw[h2,QbD,QaF]
theorem Z6 (k:Nat):∀ r:List Nat,r.length<=k->qL false r=jm r:=by
 induction k with
 |zero=>
  intro r hr;have:r=[]:=QaL (by omega);subst this;have hg:=Qy ([]:List Nat);simp at hg;rw[hg];rfl
 |succ k ih=>
  intro r hr;have hle:=vj r;have key:qL false r=gap r+if gap r=0 then 0 else qL false (r.drop (gap r)):=by
   unfold gap;by_cases hb:jV qB r=0/\begins [47,47] r=true
   ·rw[if_pos hb];have hr2:r.take 2=[47,47]:=of_decide_eq_true hb.2
    match r,hr2 with
    |x :: y :: r',hr2=>
     obtain⟨rfl,rfl⟩:x=47/\y=47:=by simpa using hr2
     have h2:jV zS (47 :: 47 :: r')=jV zS (47 :: r')+1:=rfl;have h3:qL false (47 :: 47 :: r')=qL true (47 :: r')+1:=by
      have h4:JZ false (47 :: 47 :: r')=true:=by
       rw[z7,if_neg (by decide),if_pos ⟨rfl,rfl,rfl⟩]
      rw[yP,h4,Bool.true_or,if_pos rfl]
     rw[h3,Wo,h2,if_neg (by omega),List.drop_succ_cons];omega
    |[],hr2=>simp at hr2
    |[x],hr2=>simp at hr2
   ·rw[if_neg hb];by_cases h0:jV qB r=0
    ·rw[h0,if_pos rfl];cases r with
     |nil=>rfl
     |cons c r=>
      have hnb:¬ qB c=true:=λh=>by simp only[jV,if_pos h] at h0;omega
      have hnb':qB c=false:=by simpa using hnb
      have h1:JZ false (c :: r)=false:=by
       rw[z7];by_cases h10:c=10
       ·rw[if_pos h10]
       ·rw[if_neg h10];refine if_neg λh=>hb ⟨h0,decide_eq_true ?_⟩;obtain⟨_,rfl,h⟩:=h;cases r with
        |nil=>simp at h
        |cons d r=>simp at h;subst h;rfl
      rw[yP,h1,hnb'];rfl
    ·rw[if_neg h0];exact uA r
  by_cases h0:gap r=0
  ·rw[key,gq h0,h0];rfl
  ·rw[key,gp h0,if_neg h0,ih _ (by rw[QaA];omega)]
theorem w7 {x:Nat}{r:List Nat}{p:Nat×Nat}(h:yd (x :: r)=0):jZ (x :: r) p=(131,⟨3,[],0,p.1,p.2⟩,0):=by
 rw[JJ] at h;unfold jZ;simp only;by_cases hL:qK x=true
 ·rw[if_pos hL] at h;have:=wt (p:=qQ) (r:=r) (show qQ x=true by unfold qQ;rw[hL];rfl);omega
 ·rw[if_neg hL] at h ⊢;by_cases hD:jE x=true
  ·rw[if_pos hD] at h;have:=wt (p:=jE) (r:=r) hD;omega
  ·rw[if_neg hD] at h ⊢;rw[if_pos h]
theorem Xq {x:Nat}{r:List Nat}{p:Nat×Nat}(hL:qK x=true):jZ (x :: r) p=if 32<yd (x :: r) then(132,⟨1,[],0,p.1,p.2⟩,0) else(0,⟨if gh ((x :: r).take (yd (x :: r)))=true then 4 else 1,(x :: r).take (yd (x :: r)),0,p.1,p.2⟩,yd (x :: r)):=by
 have e:yd (x :: r)=jV qQ (x :: r):=if_pos hL;rw[e];show(if qK x=true then _ else _)=_;rw[if_pos hL]
theorem XY {x:Nat}{r:List Nat}{p:Nat×Nat}(hL:qK x=false)(hD:jE x=true):jZ (x :: r) p=if 7<yd (x :: r)\/1000000<Q1 ((x :: r).take (yd (x :: r))) then(132,⟨2,[],0,p.1,p.2⟩,0) else(0,⟨2,(x :: r).take (yd (x :: r)),Q1 ((x :: r).take (yd (x :: r))),p.1,p.2⟩,yd (x :: r)):=by
 have e:yd (x :: r)=jV jE (x :: r):=by
  rw[JJ,if_neg (by rw[hL];decide),if_pos hD]
 rw[e];show(if qK x=true then _ else if jE x=true then _ else _)=_;rw[if_neg (by rw[hL];decide),if_pos hD]
theorem Y4 {x:Nat}{r:List Nat}{p:Nat×Nat}(hL:qK x=false)(hD:jE x=false)(hn:yd (x :: r)≠0):jZ (x :: r) p=(0,⟨3,(x :: r).take (yd (x :: r)),0,p.1,p.2⟩,yd (x :: r)):=by
 have e:yd (x :: r)=Je (x :: r):=by
  rw[JJ,if_neg (by rw[hL];decide),if_neg (by rw[hD];decide)]
 rw[e] at hn ⊢;show(if qK x=true then _ else if jE x=true then _ else _)=_;rw[if_neg (by rw[hL];decide),if_neg (by rw[hD];decide)];simp only;rw[if_neg hn]
theorem jdt (r:List Nat):yd r<=r.length:=by
 cases r with
 |nil=>exact Qag _
 |cons x r=>
  rw[JJ];split
  ·exact JO _ _
  ·split
   ·exact JO _ _
   ·exact uS _
def Sep (c:Nat):Prop:=c=10\/c=32
theorem jdE:∀ x∈zb,10∉x/\32∉x:=by decide
theorem wW (r:List Nat)(k:Nat):Yh r (k+1)=if k+1<=r.length/\r.take (k+1)∈zb then k+1 else Yh r k:=rfl
theorem uC {c:Nat}(hc:Sep c)(r t:List Nat):∀ k,Yh (r ++ c :: t) k=Yh r k
 |0=>rfl
 |k+1=>by
  rw[wW,wW,uC hc r t k];by_cases h:k+1<=r.length
  ·have h':k+1<=(r ++ c :: t).length:=by rw[Qat];omega
   rw[Qbn h];simp only[h,h',true_and]
  ·have hn:(r ++ c :: t).take (k+1)∉zb:=by
    intro hm;obtain⟨h1,h2⟩:=jdE _ hm;have hin:c∈(r ++ c :: t).take (k+1):=by
     obtain⟨j,hj⟩:∃ j,k+1 - r.length=j+1:=⟨k - r.length,by omega⟩;rw[List.take_append,hj,Qbz];simp
    rcases hc with rfl|rfl
    ·exact h1 hin
    ·exact h2 hin
   rw[if_neg (λh'=>hn h'.2),if_neg (λh'=>h h'.1)]
theorem jbD {c:Nat}(hc:Sep c)(r t:List Nat):Je (r ++ c :: t)=Je r:=by rw[<-Wy,<-Wy,uC hc]
theorem u0 {p:Nat->Bool}{c:Nat}(hc:p c=false)(t:List Nat):∀ r,jV p (r ++ c :: t)=jV p r
 |[]=>by simp[jV,hc]
 |x :: r=>by
  show(if p x=true then jV p (r ++ c :: t)+1 else 0)=if p x=true then jV p r+1 else 0
  rw[u0 hc t r]
theorem Ui {c:Nat}(hc:Sep c):qQ c=false/\jE c=false:=by
 rcases hc with rfl|rfl<;>decide
theorem ja6 {c:Nat}(hc:Sep c)(x:Nat)(r t:List Nat):yd (x :: (r ++ c :: t))=yd (x :: r):=by
 have e1:jV qQ (x :: (r ++ c :: t))=jV qQ (x :: r):=u0 (Ui hc).1 t (x :: r);have e2:jV jE (x :: (r ++ c :: t))=jV jE (x :: r):=u0 (Ui hc).2 t (x :: r);have e3:Je (x :: (r ++ c :: t))=Je (x :: r):=jbD hc (x :: r) t;rw[JJ,JJ,e1,e2,e3]
theorem jb3 {c:Nat}(hc:Sep c){r:List Nat}(hr:r≠[])(t:List Nat)(p:Nat×Nat):jZ (r ++ c :: t) p=jZ r p:=by
 cases r with
 |nil=>exact absurd rfl hr
 |cons x r=>
  have ew:=ja6 hc x r t;have le:=jdt (x :: r);have et:(x :: (r ++ c :: t)).take (yd (x :: r))=(x :: r).take (yd (x :: r)):=Qbn (l₁:=x :: r) le;show jZ (x :: (r ++ c :: t)) p=_;cases hL:qK x with
  |true=>rw[Xq hL,Xq hL,ew,et]
  |false=>
   cases hD:jE x with
   |true=>rw[XY hL hD,XY hL hD,ew,et]
   |false=>
    by_cases hn:yd (x :: r)=0
    ·rw[w7 hn,w7 (ew.trans hn)]
    ·rw[Y4 hL hD hn,Y4 hL hD (by rw[ew];exact hn),ew,et]
theorem jf6 {x:Nat}{r:List Nat}{p:Nat×Nat}{t:Tk}{n:Nat}(h:jZ (x :: r) p=(0,t,n)):n=yd (x :: r)/\n≠0:=by
 by_cases hn:yd (x :: r)=0
 ·rw[w7 hn] at h;simp at h
 ·cases hL:qK x with
  |true=>
   rw[Xq hL] at h;split at h
   ·simp at h
   ·simp only[Prod.mk.injEq] at h;omega
  |false=>
   cases hD:jE x with
   |true=>
    rw[XY hL hD] at h;split at h
    ·simp at h
    ·simp only[Prod.mk.injEq] at h;omega
   |false=>
    rw[Y4 hL hD hn] at h;simp only[Prod.mk.injEq] at h;omega
theorem jeo {x y:List Nat}{p q:Nat×Nat}(h1:x.drop (jm x)=y.drop (jm y))(h2:jp p (x.take (jm x))=jp q (y.take (jm y))):qg x p=qg y q:=by
 generalize hx:jZ (x.drop (jm x)) (jp p (x.take (jm x)))=z;obtain⟨e,t,n⟩:=z;have hy:jZ (y.drop (jm y)) (jp q (y.take (jm y)))=(e,t,n):=by rw[<-h1,<-h2];exact hx
 rw[zm x p hx,zm y q hy,h1,h2]
theorem Gy (a b:List Tk)(q:List Tk×(Nat×Nat×Nat)):ahead a (ahead b q)=ahead (a ++ b) q:=by
 unfold ahead;by_cases h:q.2.1≠0
 ·rw[if_pos h,if_pos h];simp[h]
 ·rw[if_neg h,if_neg h];rw[if_neg h];simp
theorem QC {r:List Nat}{p:Nat×Nat}{ts:List Tk}(h:qg r p=(ts,(0,0,0))) :
  ∃ t n,jZ (r.drop (jm r)) (jp p (r.take (jm r)))=(0,t,n)/\((n=0/\ts=[t]/\jm r=r.length)\/(n≠0/\n<=r.length - jm r/\jm r<r.length/\∃ ts',ts=t :: ts' /\
   qg ((r.drop (jm r)).drop n) (jp (jp p (r.take (jm r))) ((r.drop (jm r)).take n))=(ts',(0,0,0)))):=by
 generalize hx:jZ (r.drop (jm r)) (jp p (r.take (jm r)))=x;obtain⟨e,t,n⟩:=x;rw[zm r p hx] at h;have hg:=Qy r;by_cases he:e≠0
 ·rw[if_pos he] at h;simp only[Prod.mk.injEq] at h;exact absurd h.2.1 he
 ·rw[if_neg he] at h;have he':e=0:=by omega
  subst he';refine⟨t,n,rfl,?_⟩;obtain⟨_,hz⟩:=XZ hx;by_cases hn:n=0
  ·rw[if_pos hn] at h;have:=hz.1 hn;rw[List.drop_eq_nil_iff] at this;exact .inl ⟨hn,(Prod.mk.inj h).1.symm,by omega⟩
  ·rw[if_neg hn] at h;have hle:=YH hx;rw[QaA] at hle;refine .inr ⟨hn,hle,by omega,?_⟩;generalize qg ((r.drop (jm r)).drop n) (jp (jp p (r.take (jm r))) ((r.drop (jm r)).take n))=q at *;by_cases hq:q.2.1≠0
   ·rw[if_pos hq] at h;simp only[Prod.mk.injEq] at h;exact absurd (by rw[h.2]) hq
   ·rw[if_neg hq] at h;obtain⟨h1,h2⟩:=Prod.mk.inj h;exact⟨q.1,h1.symm,by rw[<-h2]⟩
def Wd (t:Tk):Prop:=∃ r p n,jZ r p=(0,t,n)/\n≠0
theorem Uf (r:List Nat)(p:Nat×Nat)(g n:Nat):jp (jp (jp p (r.take g)) ((r.drop g).take n)) ((r.drop g).drop n)=jp p r:=by
 rw[<-Qq,<-Qq,List.take_append_drop,List.take_append_drop]
theorem Va (k:Nat):∀ (r:List Nat) (p:Nat×Nat) (ts:List Tk),r.length<=k->qg r p=(ts,(0,0,0))->
  ∃ ws,ts=ws ++ [⟨5,[],0,(jp p r).1,(jp p r).2⟩]/\∀ w∈ws,Wd w:=by
 induction k with
 |zero=>
  intro r p ts hr h;obtain⟨t,n,hx,⟨hn,rfl,hg⟩|⟨hn,h1,h2,_⟩⟩:=QC h
  ·refine⟨[],?_,λw hw=>by simp at hw⟩;rw[hg,List.drop_length,QaY] at hx;simp only[jZ,Prod.mk.injEq] at hx;rw[<-hx.2.1];rfl
  ·omega
 |succ k ih=>
  intro r p ts hr h;obtain⟨t,n,hx,⟨hn,rfl,hg⟩|⟨hn,h1,h2,ts',rfl,h3⟩⟩:=QC h
  ·refine⟨[],?_,λw hw=>by simp at hw⟩;rw[hg,List.drop_length,QaY] at hx;simp only[jZ,Prod.mk.injEq] at hx;rw[<-hx.2.1];rfl
  ·obtain⟨ws,rfl,hw⟩:=ih _ _ _ (by rw[QaA,QaA];omega) h3;rw[Uf];refine⟨t :: ws,rfl,λw hm=>?_⟩;rcases Qbp.1 hm with rfl|hm
   ·exact⟨_,_,n,hx,hn⟩
   ·exact hw w hm
theorem J4 (L:Nat)(l:List Nat):∀ p:Nat×Nat,jp (p.1+L,p.2) l=((jp p l).1+L,(jp p l).2):=by
 induction l with
 |nil=>exact λp=>rfl
 |cons x l ih=>
  intro p;have e:yv (p.1+L,p.2) x=((yv p x).1+L,(yv p x).2):=by
   unfold yv;by_cases h:x=10
   ·rw[if_pos h,if_pos h];simp;omega
   ·rw[if_neg h,if_neg h]
  show jp (yv (p.1+L,p.2) x) l=((jp (yv p x) l).1+L,(jp (yv p x) l).2);rw[e];exact ih (yv p x)
theorem Zn {r:List Nat}{p:Nat×Nat}{t:Tk}{n:Nat}(L:Nat)(h:jZ r p=(0,t,n)):jZ r (p.1+L,p.2)=(0,YC L t,n):=by
 cases r with
 |nil=>
  simp only[jZ,Prod.mk.injEq,true_and] at h;rw[<-h.1,<-h.2];rfl
 |cons x r=>
  obtain⟨h1,h2⟩:=jf6 h;subst h1;cases hL:qK x with
  |true=>
   rw[Xq hL] at h ⊢;split at h
   ·simp at h
   ·rename_i h32;rw[if_neg h32];simp only[Prod.mk.injEq,true_and,and_true] at h;rw[<-h];rfl
  |false=>
   cases hD:jE x with
   |true=>
    rw[XY hL hD] at h ⊢;split at h
    ·simp at h
    ·rename_i h32;rw[if_neg h32];simp only[Prod.mk.injEq,true_and,and_true] at h;rw[<-h];rfl
   |false=>
    rw[Y4 hL hD h2] at h ⊢;simp only[Prod.mk.injEq,true_and,and_true] at h;rw[<-h];rfl
theorem gO {r:List Nat}{p:Nat×Nat}{t:Tk}(h:jZ (r.drop (jm r)) (jp p (r.take (jm r)))=(0,t,0)):qg r p=([t],(0,0,0)):=by
 rw[zm r p h,if_neg (by decide),if_pos rfl]
theorem UW {r:List Nat}{p:Nat×Nat}{n:Nat}{t:Tk}(h:jZ (r.drop (jm r)) (jp p (r.take (jm r)))=(0,t,n))(hn:n≠0) :
  qg r p=ahead [t] (qg ((r.drop (jm r)).drop n) (jp (jp p (r.take (jm r))) ((r.drop (jm r)).take n))):=by
 have:=Vn (acc:=[]) h hn;rw[Zj] at this;exact this
theorem jeC (a ts:List Tk):ahead a (ts,(0,0,0))=(a ++ ts,(0,0,0)):=rfl
theorem jaI (L:Nat)(k:Nat):∀ (r:List Nat) (p:Nat×Nat) (ts:List Tk),r.length<=k->qg r p=(ts,(0,0,0))->qg r (p.1+L,p.2)=(ts.map (YC L),(0,0,0)):=by
 induction k with
 |zero=>
  intro r p ts hr h;obtain⟨t,n,hx,⟨hn,rfl,hg⟩|⟨hn,h1,h2,_⟩⟩:=QC h
  ·subst hn;refine gO ?_;rw[J4];exact Zn L hx
  ·omega
 |succ k ih=>
  intro r p ts hr h;obtain⟨t,n,hx,⟨hn,rfl,hg⟩|⟨hn,h1,h2,ts',rfl,h3⟩⟩:=QC h
  ·subst hn;refine gO ?_;rw[J4];exact Zn L hx
  ·have:=ih _ _ _ (by rw[QaA,QaA];omega) h3;rw[UW (t:=YC L t) (by rw[J4];exact Zn L hx) hn,J4,J4,this,jeC];rfl
theorem KJ:∀ (r:List Nat) (rm:Bool),qL rm r<=r.length
 |[],_=>Qag _
 |x :: r,rm=>by
  rw[yP];have:=KJ r (JZ rm (x :: r));split
  ·rw[Qal];omega
  ·omega
theorem Ug (t:List Nat):∀ (r:List Nat) (rm:Bool),(qL rm r<r.length->qL rm (r ++ 10 :: t)=qL rm r)/\(qL rm r=r.length->qL rm (r ++ 10 :: t)=r.length+1+qL false t)
 |[],rm=>by
  refine⟨λh=>absurd h (Qbw _),λ_=>?_⟩;show qL rm (10 :: t)=_;have e:JZ rm (10 :: t)=false:=rfl;rw[yP,e];show qL false t+1=0+1+qL false t;omega
 |x :: r,rm=>by
  have er:JZ rm (x :: (r ++ 10 :: t))=JZ rm (x :: r):=by
   rw[z7,z7];cases r with
   |nil=>simp
   |cons y r=>rfl
  obtain⟨i1,i2⟩:=Ug t r (JZ rm (x :: r));have hle:=KJ r (JZ rm (x :: r));show(_->qL rm (x :: (r ++ 10 :: t))=_)/\(_->qL rm (x :: (r ++ 10 :: t))=_);rw[yP,yP,er,Qal];by_cases hc:(JZ rm (x :: r) ||qB x)=true
  ·rw[if_pos hc,if_pos hc];exact⟨λh=>by rw[i1 (by omega)],λh=>by rw[i2 (by omega)];omega⟩
  ·rw[if_neg hc,if_neg hc];exact⟨λ_=>rfl,λh=>by omega⟩
theorem gn (r t:List Nat):(jm r<r.length->jm (r ++ 10 :: t)=jm r)/\(jm r=r.length->jm (r ++ 10 :: t)=r.length+1+jm t):=by
 rw[<-Z6 _ r (Qag _),<-Z6 _ (r ++ 10 :: t) (Qag _),<-Z6 _ t (Qag _)];exact Ug t r false
theorem jeq (t:List Nat)(k:Nat):∀ (r:List Nat) (p:Nat×Nat) (ts:List Tk),r.length<=k->qg r p=(ts,(0,0,0))->qg (r ++ 10 :: t) p=ahead ts.dropLast (qg t (yv (jp p r) 10)):=by
 have fin:∀ (r:List Nat) (p:Nat×Nat),jm r=r.length->qg (r ++ 10 :: t) p=qg t (yv (jp p r) 10):=λr p hg=>by
  have e:=(gn r t).2 hg;have e1:r ++ 10 :: t=(r ++ [10]) ++ t:=by simp
  have e2:(r ++ [10]).length=r.length+1:=by simp
  refine jeo ?_ ?_
  ·rw[e,e1,<-QbA,<-e2,List.drop_left]
  ·rw[e,e1,<-e2,List.take_length_add_append,Qq,Qq];rfl
 induction k with
 |zero=>
  intro r p ts hr h;obtain⟨t',n,hx,⟨hn,rfl,hg⟩|⟨hn,h1,h2,_⟩⟩:=QC h
  ·rw[fin r p hg];exact(Zj _ _).symm
  ·omega
 |succ k ih=>
  intro r p ts hr h;obtain⟨t',n,hx,⟨hn,rfl,hg⟩|⟨hn,h1,h2,ts',rfl,h3⟩⟩:=QC h
  ·rw[fin r p hg];exact(Zj _ _).symm
  ·have e:=(gn r t).1 h2;have hd:(r ++ 10 :: t).drop (jm r)=r.drop (jm r) ++ 10 :: t:=List.drop_append_of_le_length (by omega);have ht:(r ++ 10 :: t).take (jm r)=r.take (jm r):=Qbn (by omega);have hne:r.drop (jm r)≠[]:=by rw[Ne,List.drop_eq_nil_iff];omega
   have hdl:(r.drop (jm r)).length=r.length - jm r:=QaA;have hx':jZ ((r ++ 10 :: t).drop (jm (r ++ 10 :: t))) (jp p ((r ++ 10 :: t).take (jm (r ++ 10 :: t))))=(0,t',n):=by
    rw[e,hd,ht,jb3 (.inl rfl) hne];exact hx
   rw[UW hx' hn,e,hd,ht];rw[List.drop_append_of_le_length (by omega),Qbn (by omega)];rw[ih _ _ _ (by rw[QaA,QaA];omega) h3,Uf,Gy]
   congr 1
   have hne':ts'≠[]:=by
    obtain⟨ws,rfl,_⟩:=Va _ _ _ _ (Qag _) h3;simp
   cases ts' with
   |nil=>exact absurd rfl hne'
   |cons a l=>rfl
end Go.Sy
end
noncomputable section
set_option maxRecDepth 100000
namespace Go.Sy
open Go.Ev Go.Proofs
def Xi (t:Tk):Nat×List Nat×Nat:=(t.kind,t.text,t.num)
mutual
def unE:Ex->Ex
 |.mk o n nm ks _ _=>.mk o n nm (Qn ks) 0 0
def Qn:List Ex->List Ex
 |[]=>[]
 |x :: xs=>unE x :: Qn xs
end
theorem KC:∀ xs,Qn xs=xs.map unE
 |[]=>rfl
 |x :: xs=>by rw[Qn,KC xs];rfl
def Agr (ts us:List Tk)(o i e:Nat):Prop:=∀ k,i<=k->k<=e->Xi (tk us (k+o))=Xi (tk ts k)
theorem Agr.mono {ts us:List Tk}{o i e i' e':Nat}(h:Agr ts us o i e)(h1:i<=i')(h2:e'<=e):Agr ts us o i' e':=λk a b=>h k (by omega) (by omega)
theorem jM {a b:Tk}(h:Xi a=Xi b)(S:List (List Nat)):isM a S=isM b S:=by
 unfold Xi at h;simp only[Prod.mk.injEq] at h;unfold isM;rw[h.1,h.2.1]
theorem Vy {a b:Tk}{x y x' y':Ex}(h:Xi a=Xi b)(h1:unE x=unE x')(h2:unE y=unE y'):unE (zA a x y)=unE (zA b x' y'):=by
 unfold Xi at h;simp only[Prod.mk.injEq] at h;unfold zA;rw[h.2.1];split
 ·simp only[unE,Qn,h1,h2]
 ·rfl
def Q2 (ts:List Tk):PR->Nat
 |.ok _ j=>j
 |.er _=>ts.length - 1
def RelP (o:Nat):PR->PR->Prop
 |.ok x j,.ok y k=>unE x=unE y/\k=j+o
 |.er _,.er _=>True
 |_,_=>False
theorem RelP.er {o:Nat}{t:Tk}{q:PR}(h:RelP o (.er t) q):∃ t',q=.er t':=by
 cases q with
 |ok x j=>exact h.elim
 |er t'=>exact⟨t',rfl⟩
theorem RelP.ok {o j:Nat}{x:Ex}{q:PR}(h:RelP o (.ok x j) q):∃ x',q=.ok x' (j+o)/\unE x=unE x':=by
 cases q with
 |ok y k=>exact⟨y,by rw[h.2],h.1⟩
 |er t'=>exact h.elim
theorem vO {ts:List Tk}{i a:Nat}{r:PR}(h:Sz ts i a r)(hi:i<ts.length):i<=Q2 ts r/\Q2 ts r<ts.length:=by
 cases r with
 |ok x j=>exact⟨h.1,h.2.1⟩
 |er t=>unfold Q2;dsimp only;omega
theorem loc {ts us:List Tk}{o:Nat}(W:Wds ts):∀ n,
  (∀ lv i d r,qw ts n lv i d=some r->i<ts.length->Agr ts us o i (Q2 ts r)->∃ q,qw us n lv (i+o) d=some q/\RelP o r q) /\
  (∀ v l x x' i d r,zx ts n v l x i d=some r->i<ts.length->unE x=unE x'->Agr ts us o i (Q2 ts r)->∃ q,zx us n v l x' (i+o) d=some q/\RelP o r q) /\
  (∀ i d r,yX ts n i d=some r->i<ts.length->Agr ts us o i (Q2 ts r)->∃ q,yX us n (i+o) d=some q/\RelP o r q) /\
  (∀ i d r,Jc ts n i d=some r->i<ts.length->Agr ts us o i (Q2 ts r)->∃ q,Jc us n (i+o) d=some q/\RelP o r q):=by
 intro n;induction n with
 |zero=>exact⟨λ_ _ _ _ h=>(by simp[qw] at h),λ_ _ _ _ _ _ _ h=>(by simp[zx] at h),λ_ _ _ h=>(by simp[yX] at h),λ_ _ _ h=>(by simp[Jc] at h)⟩
 |succ n ih=>
  obtain⟨iE,iL,iP,iV⟩:=ih;obtain⟨sE,sL,sP,sV⟩:=YX W n;obtain⟨tE,tL,tP,tV⟩:=YX W (n+1);refine⟨λlv i d r h hi A=>?_,λv l x x' i d r h hi hx A=>?_,λi d r h hi A=>?_,λi d r h hi A=>?_⟩
  ·have u:=vO (tE lv i d r h hi) hi;cases lv with
   |nil=>unfold qw at h ⊢;exact iP i d r h hi A
   |cons v l=>
    unfold qw at h ⊢;cases hx:qw ts n l i d with
    |none=>rw[hx] at h;cases h
    |some q=>
     rw[hx] at h;have s1:=sE l i d q hx hi;cases q with
     |er t=>
      cases h;obtain⟨q,h1,h2⟩:=iE l i d _ hx hi A;obtain⟨t',rfl⟩:=h2.er;rw[h1];exact⟨_,rfl,trivial⟩
     |ok x j=>
      dsimp only at h;have u2:=vO (sL v l x j d r h s1.2.1) s1.2.1;obtain⟨q,h1,h2⟩:=iE l i d _ hx hi (A.mono (Qag _) u2.1);obtain⟨x',rfl,h3⟩:=h2.ok;rw[h1];exact iL v l x x' j d r h s1.2.1 h3 (A.mono s1.1 (Qag _))
  ·have u:=vO (tL v l x i d r h hi) hi;have c0:=A i (Qag _) u.1;unfold zx at h ⊢;rw[jM c0];by_cases c:isM (tk ts i) v.1=true
   ·rw[if_pos c] at h ⊢;have hi1:=W.isM hi c;have e1:i+o+1=i+1+o:=by omega
    rw[e1];by_cases w1:v.2=1
    ·rw[if_pos w1] at h ⊢;cases he:qw ts n (v :: l) (i+1) d with
     |none=>rw[he] at h;cases h
     |some q=>
      rw[he] at h;have s1:=sE _ (i+1) d q he hi1;cases q with
      |er t=>
       cases h;obtain⟨q,h1,h2⟩:=iE _ _ d _ he hi1 (A.mono (by omega) (Qag _));obtain⟨t',rfl⟩:=h2.er;rw[h1];exact⟨_,rfl,trivial⟩
      |ok y j=>
       cases h;obtain⟨q,h1,h2⟩:=iE _ _ d _ he hi1 (A.mono (by omega) (Qag _));obtain⟨y',rfl,h3⟩:=h2.ok;rw[h1];exact⟨_,rfl,Vy c0.symm hx h3,rfl⟩
    ·rw[if_neg w1] at h ⊢;cases he:qw ts n l (i+1) d with
     |none=>rw[he] at h;cases h
     |some q=>
      rw[he] at h;have s1:=sE _ (i+1) d q he hi1;cases q with
      |er t=>
       cases h;obtain⟨q,h1,h2⟩:=iE _ _ d _ he hi1 (A.mono (by omega) (Qag _));obtain⟨t',rfl⟩:=h2.er;rw[h1];exact⟨_,rfl,trivial⟩
      |ok y j=>
       dsimp only at h;by_cases w2:v.2=2
       ·simp only[w2,if_true] at h;cases h;obtain⟨q,h1,h2⟩:=iE _ _ d _ he hi1 (A.mono (by omega) (Qag _));obtain⟨y',rfl,h3⟩:=h2.ok;rw[h1];simp only[w2,if_true];exact⟨_,rfl,Vy c0.symm hx h3,rfl⟩
       ·simp only[w2,if_false] at h;have u2:=vO (sL v l _ j d r h s1.2.1) s1.2.1;obtain⟨q,h1,h2⟩:=iE _ _ d _ he hi1 (A.mono (by omega) u2.1);obtain⟨y',rfl,h3⟩:=h2.ok;rw[h1];simp only[w2,if_false];exact iL v l _ _ j d r h s1.2.1 (Vy c0.symm hx h3) (A.mono (by have:=s1.1;omega) (Qag _))
   ·rw[if_neg c] at h ⊢;cases h;exact⟨_,rfl,hx,rfl⟩
  ·have u:=vO (tP i d r h hi) hi;have c0:=A i (Qag _) u.1;unfold yX at h ⊢;rw[jM c0];by_cases c:isM (tk ts i) yp=true
   ·rw[if_pos c] at h ⊢;have hi1:=W.isM hi c;have e1:i+o+1=i+1+o:=by omega
    rw[e1];by_cases hd:60<d+1
    ·rw[if_pos hd] at h ⊢;cases h;exact⟨_,rfl,trivial⟩
    ·rw[if_neg hd] at h ⊢;cases he:yX ts n (i+1) (d+1) with
     |none=>rw[he] at h;cases h
     |some q=>
      rw[he] at h;cases q with
      |er t=>
       cases h;obtain⟨q,h1,h2⟩:=iP _ _ _ he hi1 (A.mono (by omega) (Qag _));obtain⟨t',rfl⟩:=h2.er;rw[h1];exact⟨_,rfl,trivial⟩
      |ok y j=>
       cases h;obtain⟨q,h1,h2⟩:=iP _ _ _ he hi1 (A.mono (by omega) (Qag _));obtain⟨y',rfl,h3⟩:=h2.ok;rw[h1];refine⟨_,rfl,?_,rfl⟩;have ct:(tk us (i+o)).text=(tk ts i).text:=by unfold Xi at c0;simp only[Prod.mk.injEq] at c0;exact c0.2.1
       simp only[unE,Qn,h3,ct]
   ·rw[if_neg c] at h ⊢;exact iV i d r h hi A
  ·have u:=vO (tV i d r h hi) hi;have c0:=A i (Qag _) u.1;have c1:=c0;unfold Xi at c1;simp only[Prod.mk.injEq] at c1;unfold Jc at h ⊢;rw[jM c0,jM c0,jM c0,c1.1,c1.2.1,c1.2.2];have e1:i+o+1=i+1+o:=by omega
   rw[e1];by_cases k2:(tk ts i).kind=2
   ·rw[if_pos k2] at h ⊢;cases h;exact⟨_,rfl,rfl,rfl⟩
   rw[if_neg k2] at h ⊢;by_cases k1:(tk ts i).kind=1
   ·rw[if_pos k1] at h ⊢;cases h;exact⟨_,rfl,rfl,rfl⟩
   rw[if_neg k1] at h ⊢;by_cases ht:isM (tk ts i) [[116,114,117,101]]=true
   ·rw[if_pos ht] at h ⊢;cases h;exact⟨_,rfl,rfl,rfl⟩
   rw[if_neg ht] at h ⊢;by_cases hf:isM (tk ts i) [[102,97,108,115,101]]=true
   ·rw[if_pos hf] at h ⊢;cases h;exact⟨_,rfl,rfl,rfl⟩
   rw[if_neg hf] at h ⊢;by_cases c:isM (tk ts i) [[40]]=true
   ·rw[if_pos c] at h ⊢;have hi1:=W.isM hi c;by_cases hd:60<d+1
    ·rw[if_pos hd] at h ⊢;cases h;exact⟨_,rfl,trivial⟩
    ·rw[if_neg hd] at h ⊢;cases he:qw ts n yC (i+1) (d+1) with
     |none=>rw[he] at h;cases h
     |some q=>
      rw[he] at h;have s1:=sE _ (i+1) _ q he hi1;cases q with
      |er t=>
       cases h;obtain⟨q,h1,h2⟩:=iE _ _ _ _ he hi1 (A.mono (by omega) (Qag _));obtain⟨t',rfl⟩:=h2.er;rw[h1];exact⟨_,rfl,trivial⟩
      |ok y j=>
       dsimp only at h;have hj:j<=Q2 ts r:=by
        by_cases c2:isM (tk ts j) [[41]]=true
        ·rw[if_pos c2] at h;cases h;exact Nat.le_succ j
        ·rw[if_neg c2] at h;cases h;have:=s1.2.1;unfold Q2;dsimp only;omega
       obtain⟨q,h1,h2⟩:=iE _ _ _ _ he hi1 (A.mono (by omega) hj);obtain⟨y',rfl,h3⟩:=h2.ok;rw[h1];dsimp only;rw[jM (A j (by have:=s1.1;omega) hj)];by_cases c2:isM (tk ts j) [[41]]=true
       ·rw[if_pos c2] at h ⊢;cases h;exact⟨_,rfl,h3,by omega⟩
       ·rw[if_neg c2] at h ⊢;cases h;exact⟨_,rfl,trivial⟩
   ·rw[if_neg c] at h ⊢;cases h;exact⟨_,rfl,trivial⟩
mutual
theorem wT:∀ (d:Nat) (x:Ex),yU d (unE x)=yU d x
 |0,_=>rfl
 |d+1,.mk o n nm ks l c=>by
  rw[uU,uU];have e1:(unE (.mk o n nm ks l c)).kids=Qn ks:=rfl;have e2:uf (unE (.mk o n nm ks l c))=uf (.mk o n nm ks l c):=rfl;have e3:(Qn ks).length=ks.length:=by rw[KC,QaU]
  rw[e1,e2,e3,Wt d ks];rfl
theorem Wt:∀ (d:Nat) (xs:List Ex),(Qn xs).all (yU d)=xs.all (yU d)
 |_,[]=>rfl
 |d,x :: xs=>by rw[Qn,QaZ,QaZ,wT d x,Wt d xs]
end
theorem jdO {d:Nat}{x y:Ex}(h:unE x=unE y):yU d x=yU d y:=by rw[<-wT d x,h,wT]
theorem Ue {ts us:List Tk}{o i:Nat}(W:Wds ts)(W2:Wds us)(hi:i<ts.length)(hi2:i+o<us.length)(A:Agr ts us o i (Q2 ts (qr ts i))):RelP o (qr ts i) (qr us (i+o)):=by
 obtain⟨r,hg,hr⟩:=evR W hi;have hw:=Xu hr;obtain⟨N,hN⟩:=hr;have hu:Q2 ts r<=Q2 ts (qr ts i):=by
  rw[hw];unfold Yw;cases r with
  |er t=>exact Qag _
  |ok x j=>
   dsimp only;have:=hg.2.1;split
   ·exact Qag _
   ·unfold Q2;dsimp only;omega
 have A':=A.mono (Qag _) hu;have hq:∃ q,EvR us (i+o) q/\RelP o r q:=by
  obtain⟨q,_,M,hM⟩:=evR W2 hi2;obtain⟨q',h3,h4⟩:=(loc W (max N M)).1 yC i 0 r (hN _ (QaC ..)) hi A';rw[hM _ (QaB ..)] at h3;cases h3;exact⟨q,⟨M,hM⟩,h4⟩
 obtain⟨q,h1,h2⟩:=hq;rw[hw,Xu h1];unfold Yw;cases r with
 |er t=>obtain⟨t',rfl⟩:=h2.er;trivial
 |ok x j=>
  obtain⟨x',rfl,h3⟩:=h2.ok;dsimp only;rw[jdO h3];split
  ·exact⟨h3,rfl⟩
  ·trivial
end Go.Sy
end
noncomputable section
set_option maxRecDepth 100000
namespace Go.Sy
open Go.Ev Go.Proofs
def unA (a:AsT):AsT:=⟨a.name,unE a.to,0,0⟩
def unR (r:RuleT):RuleT:=⟨unE r.when,r.acts.map unA⟩
def unP (p:ProcT):ProcT:=⟨p.name,p.rules.map unR,0,0⟩
def unN (e:EnumT):EnumT:=⟨e.name,e.vals,0,0⟩
def unD (d:DeclT):DeclT:=⟨d.name,d.ty,d.lo,d.hi,d.begins.map unE,0,0⟩
section
variable {α β:Type}
def j3 (ts:List Tk):SR α->Nat
 |.ok _ j=>j - 1
 |.er _=>ts.length - 1
def RelS (un:α->β)(o:Nat):SR α->SR α->Prop
 |.ok x j,.ok y k=>un x=un y/\k=j+o
 |.er _,.er _=>True
 |_,_=>False
theorem RelS.er {un:α->β}{o:Nat}{t:Tk}{q:SR α}(h:RelS un o (.er t) q):∃ t',q=.er t':=by
 cases q with
 |ok x j=>exact h.elim
 |er t'=>exact⟨t',rfl⟩
theorem RelS.ok {un:α->β}{o j:Nat}{x:α}{q:SR α}(h:RelS un o (.ok x j) q):∃ x',q=.ok x' (j+o)/\un x=un x':=by
 cases q with
 |ok y k=>exact⟨y,by rw[h.2],h.1⟩
 |er t'=>exact h.elim
end
theorem Z1 {ts:List Tk}(W:Wds ts){i j:Nat}{x:Ex}(hi:i<ts.length)(h:qr ts i=.ok x j):i<j/\j<ts.length:=by
 have:=yt W hi h;exact⟨this.1,this.2.1⟩
theorem jfN {ts:List Tk}(W:Wds ts){n i j:Nat}{vs ws:List (List Nat)}(hi:i<ts.length)(h:zu ts n i vs=.ok ws j):i<j:=by
 cases n with
 |zero=>cases h
 |succ n=>
  rw[zu] at h;by_cases k1:(tk ts i).kind=1
  ·rw[if_pos k1] at h;have hi1:=W.next i hi (by omega)
   by_cases hl:32<=vs.length
   ·rw[if_pos hl] at h;cases h
   rw[if_neg hl] at h;by_cases c1:isM (tk ts (i+1)) [[44]]=true
   ·rw[if_pos c1] at h;have:=Zx W _ _ _ _ _ (W.isM hi1 c1) h;omega
   ·rw[if_neg c1] at h;split at h<;>cases h
    omega
  ·rw[if_neg k1] at h;cases h
section
variable {ts us:List Tk} {o:Nat}
structure Two (ts us:List Tk)(o:Nat):Prop where
 w:Wds ts
 w2:Wds us
 len:ts.length+o<=us.length
theorem zq {a b:Tk}(h:Xi a=Xi b):a.kind=b.kind/\a.text=b.text/\a.num=b.num:=by
 unfold Xi at h;simp only[Prod.mk.injEq] at h;exact h
theorem uQ (T:Two ts us o):∀ n n' i vs r,i<ts.length->ts.length<n+i->n<=n'->zu ts n i vs=r->Agr ts us o i (j3 ts r)->RelS id o r (zu us n' (i+o) vs)
 |0,n',i,vs,r,hi,hf,hn,h,A=>by omega
 |n+1,0,i,vs,r,hi,hf,hn,h,A=>by omega
 |n+1,n'+1,i,vs,r,hi,hf,hn,h,A=>by
  have lt:=λws j (h:zu ts (n+1) i vs=.ok ws j)=>jfN T.w hi h;have ub:i<=j3 ts r:=by
   cases r with
   |ok ws j=>have:=lt ws j h;unfold j3;dsimp only;omega
   |er t=>unfold j3;dsimp only;omega
  have c0:=A i (Qag _) ub;have k0:=zq c0;rw[zu] at h ⊢;rw[k0.1,k0.2.1];have e1:i+o+1=i+1+o:=by omega
  have e2:i+o+2=i+2+o:=by omega
  rw[e1,e2];by_cases k1:(tk ts i).kind=1
  ·rw[if_pos k1] at h ⊢;have hi1:=T.w.next i hi (by omega)
   by_cases hl:32<=vs.length
   ·rw[if_pos hl] at h ⊢;subst h;trivial
   ·rw[if_neg hl] at h ⊢;have ub1:i+1<=j3 ts r:=by
     by_cases c1:isM (tk ts (i+1)) [[44]]=true
     ·rw[if_pos c1] at h;have hi2:=T.w.isM hi1 c1;cases r with
      |ok ws j=>have:=Zx T.w n (i+2) _ ws j hi2 h;unfold j3;dsimp only;omega
      |er t=>unfold j3;dsimp only;omega
     ·rw[if_neg c1] at h;split at h<;>(subst h;unfold j3;dsimp only;omega)
    rw[jM (A (i+1) (by omega) ub1),jM (A (i+1) (by omega) ub1)];by_cases c1:isM (tk ts (i+1)) [[44]]=true
    ·rw[if_pos c1] at h ⊢;exact uQ T n n' (i+2) _ r (T.w.isM hi1 c1) (by omega) (by omega) h (A.mono (by omega) (Qag _))
    ·rw[if_neg c1] at h ⊢;by_cases c2:isM (tk ts (i+1)) [[125]]=true
     ·rw[if_pos c2] at h ⊢;subst h;exact⟨rfl,rfl⟩
     ·rw[if_neg c2] at h ⊢;subst h;trivial
  ·rw[if_neg k1] at h ⊢;subst h;trivial
theorem gC (T:Two ts us o){i:Nat}(hi:i<ts.length)(A:Agr ts us o i (j3 ts (ze ts i))):RelS unN o (ze ts i) (ze us (i+o)):=by
 generalize hr:ze ts i=r at *;have lt:=λe j (h:ze ts i=.ok e j)=>Yr T.w hi h;have ub:i<=j3 ts r:=by
  cases r with
  |ok e j=>have:=(lt e j hr).1;unfold j3;dsimp only;omega
  |er t=>unfold j3;dsimp only;omega
 have k0:=zq (A i (Qag _) ub);unfold ze at hr ⊢;rw[k0.1,k0.2.1];have e1:i+o+1=i+1+o:=by omega
 have e2:i+o+2=i+2+o:=by omega
 rw[e1,e2];by_cases k1:(tk ts i).kind=1
 ·rw[if_pos k1] at hr ⊢;have hi1:=T.w.next i hi (by omega)
  by_cases c1:isM (tk ts (i+1)) [[123]]=true
  ·have hi2:=T.w.isM hi1 c1;rw[if_pos c1] at hr;cases hv:zu ts ts.length (i+2) [] with
   |er t=>
    rw[hv] at hr;subst hr;have ub1:i+1<=j3 ts (SR.er (α:=EnumT) t):=by unfold j3;dsimp only;omega
    rw[jM (A (i+1) (by omega) ub1),if_pos c1];obtain⟨t',e⟩:=(uQ T ts.length us.length (i+2) [] _ hi2 (by omega) (by have:=T.len;omega) hv (A.mono (by omega) (Qag _))).er;rw[e];trivial
   |ok vs j=>
    rw[hv] at hr;subst hr;have hj:=Zx T.w _ _ _ _ _ hi2 hv;rw[jM (A (i+1) (by omega) (by unfold j3;dsimp only;omega)),if_pos c1];obtain⟨vs',e,h3⟩:=(uQ T ts.length us.length (i+2) [] _ hi2 (by omega) (by have:=T.len;omega) hv (A.mono (by omega) (Qag _))).ok;rw[e];cases h3;exact⟨rfl,rfl⟩
  ·rw[if_neg c1] at hr;subst hr;rw[jM (A (i+1) (by omega) (by unfold j3;dsimp only;omega)),if_neg c1];trivial
 ·rw[if_neg k1] at hr ⊢;subst hr;trivial
theorem G3 (T:Two ts us o){i:Nat}(hi:i<ts.length)(A:Agr ts us o i (j3 ts (yK ts i))):RelS id o (yK ts i) (yK us (i+o)):=by
 generalize hr:yK ts i=r at *;have lt:=λe j (h:yK ts i=.ok e j)=>ZK T.w hi h;have e1:i+o+1=i+1+o:=by omega
 have e2:i+o+2=i+2+o:=by omega
 have ub:i<=j3 ts r:=by
  cases r with
  |er t=>unfold j3;dsimp only;omega
  |ok e j=>
   unfold yK at hr;unfold j3;dsimp only;split at hr
   ·split at hr<;>cases hr;omega
   ·split at hr<;>cases hr;omega
 unfold yK at hr ⊢;have c0:=A i (Qag _) ub;rw[jM c0,(zq c0).1,(zq c0).2.2,e1,e2];by_cases c1:isM (tk ts i) [[45]]=true
 ·rw[if_pos c1] at hr ⊢;have hi1:=T.w.isM hi c1;have ub1:i+1<=j3 ts r:=by
   split at hr<;>(subst hr;unfold j3;dsimp only;omega)
  have k1:=zq (A (i+1) (by omega) ub1);rw[k1.1,k1.2.2];split at hr
  ·rename_i k2;rw[if_pos k2];subst hr;exact⟨rfl,by omega⟩
  ·rename_i k2;rw[if_neg k2];subst hr;trivial
 ·rw[if_neg c1] at hr ⊢;split at hr
  ·rename_i k2;rw[if_pos k2];subst hr;exact⟨rfl,by omega⟩
  ·rename_i k2;rw[if_neg k2];subst hr;trivial
end
end Go.Sy
end
noncomputable section
set_option maxRecDepth 100000
namespace Go.Sy
open Go.Ev Go.Proofs
section
variable {ts us:List Tk} {o:Nat}
theorem Qj {α:Type}{t:Tk}{i:Nat}(hi:i<ts.length):i<=j3 ts (SR.er (α:=α) t):=by unfold j3;dsimp only;omega
theorem Q0 {i:Nat}{x:Ex}{j:Nat}(T:Two ts us o)(hi:i<ts.length)(h:qr ts i=.ok x j)(A:Agr ts us o i j):∃ x',qr us (i+o)=.ok x' (j+o)/\unE x=unE x':=by
 have R:=Ue (o:=o) T.w T.w2 hi (by have:=T.len;omega) (by rw[h];exact A);rw[h] at R;exact R.ok
theorem uP {i:Nat}{t:Tk}(T:Two ts us o)(hi:i<ts.length)(h:qr ts i=.er t)(A:Agr ts us o i (ts.length - 1)):∃ t',qr us (i+o)=.er t':=by
 have R:=Ue (o:=o) T.w T.w2 hi (by have:=T.len;omega) (by rw[h];exact A);rw[h] at R;exact R.er
theorem WI {i:Nat}{x:Int}{j:Nat}(T:Two ts us o)(hi:i<ts.length)(h:yK ts i=.ok x j)(A:Agr ts us o i (j - 1)):yK us (i+o)=.ok x (j+o):=by
 have R:=G3 T hi (by rw[h];exact A);rw[h] at R;obtain⟨x',e,h3⟩:=R.ok;cases h3;exact e
theorem jb2 {i:Nat}{t:Tk}(T:Two ts us o)(hi:i<ts.length)(h:yK ts i=.er t)(A:Agr ts us o i (ts.length - 1)):∃ t',yK us (i+o)=.er t':=by
 have R:=G3 T hi (by rw[h];exact A);rw[h] at R;exact R.er
theorem G4 {i j:Nat}{n:Int}(h:yK ts i=.ok n j):i<j:=by
 unfold yK at h;split at h
 ·split at h<;>cases h;omega
 ·split at h<;>cases h;omega
theorem GO (T:Two ts us o){i:Nat}(hi:i<ts.length)(A:Agr ts us o i (j3 ts (QI ts i))):RelS id o (QI ts i) (QI us (i+o)):=by
 have ub:i<=j3 ts (QI ts i):=by
  cases h:QI ts i with
  |ok y j=>have:=(Wl T.w hi h).1;unfold j3;dsimp only;omega
  |er t=>exact Qj hi
 have c0:=A i (Qag _) ub;have e1:i+o+1=i+1+o:=by omega
 unfold QI at A ⊢;rw[jM c0,(zq c0).1,(zq c0).2.1,e1];by_cases c1:isM (tk ts i) [[98,111,111,108]]=true
 ·simp only[if_pos c1];exact⟨rfl,rfl⟩
 simp only[if_neg c1] at A ⊢;by_cases k1:(tk ts i).kind=1
 ·simp only[if_pos k1];exact⟨rfl,rfl⟩
 simp only[if_neg k1] at A ⊢;cases h1:yK ts i with
 |er t=>
  rw[h1] at A;obtain⟨t',e⟩:=jb2 T hi h1 A;rw[e];trivial
 |ok lo j=>
  rw[h1] at A;dsimp only at A ⊢;have hj:=ZK T.w hi h1;have ij:=G4 h1;by_cases c2:isM (tk ts j) [[46,46]]=true
  ·have hj1:=T.w.isM hj c2;have e2:j+o+1=j+1+o:=by omega
   simp only[if_pos c2] at A ⊢;cases h2:yK ts (j+1) with
   |er t=>
    rw[h2] at A;have A:Agr ts us o i (ts.length - 1):=A;rw[WI T hi h1 (A.mono (Qag _) (by omega))];dsimp only;rw[jM (A j (by omega) (by omega)),if_pos c2,e2];obtain⟨t',e⟩:=jb2 T hj1 h2 (A.mono (by omega) (Qag _));rw[e];trivial
   |ok hi2 k=>
    rw[h2] at A;have A:Agr ts us o i (k - 1):=A;have jk:=G4 h2;rw[WI T hi h1 (A.mono (Qag _) (by omega))];dsimp only;rw[jM (A j (by omega) (by omega)),if_pos c2,e2,WI T hj1 h2 (A.mono (by omega) (Qag _))];exact⟨rfl,rfl⟩
  ·simp only[if_neg c2] at A ⊢;have A:Agr ts us o i (ts.length - 1):=A;rw[WI T hi h1 (A.mono (Qag _) (by omega))];dsimp only;rw[jM (A j (by omega) (by omega)),if_neg c2];trivial
theorem Hy (T:Two ts us o){i:Nat}(hi:i<ts.length)(A:Agr ts us o i (j3 ts (JH ts i))):RelS (List.map unE) o (JH ts i) (JH us (i+o)):=by
 have ub:i<=j3 ts (JH ts i):=by
  cases h:JH ts i with
  |ok y j=>have:=(g9 T.w hi h).1;unfold j3;dsimp only;omega
  |er t=>exact Qj hi
 have c0:=A i (Qag _) ub;have e1:i+o+1=i+1+o:=by omega
 unfold JH at A ⊢;rw[jM c0,jM c0,e1];by_cases c1:isM (tk ts i) [[61]]=true
 ·have hi1:=T.w.isM hi c1;simp only[if_pos c1] at A ⊢;cases h1:qr ts (i+1) with
  |er t=>
   rw[h1] at A;obtain⟨t',e⟩:=uP T hi1 h1 (A.mono (by omega) (Qag _));rw[e];trivial
  |ok x j=>
   rw[h1] at A;dsimp only at A ⊢;have hj:=Z1 T.w hi1 h1;by_cases c2:isM (tk ts j) [[59]]=true
   ·simp only[if_pos c2] at A ⊢;have A:Agr ts us o i j:=A;obtain⟨x',e,h3⟩:=Q0 T hi1 h1 (A.mono (by omega) (by omega));rw[e];dsimp only;rw[jM (A j (by omega) (by omega)),if_pos c2];exact⟨by simp only[Qaj,Qam,h3],by omega⟩
   ·simp only[if_neg c2] at A ⊢;have A:Agr ts us o i (ts.length - 1):=A;obtain⟨x',e,h3⟩:=Q0 T hi1 h1 (A.mono (by omega) (by omega));rw[e];dsimp only;rw[jM (A j (by omega) (by omega)),if_neg c2];trivial
 ·simp only[if_neg c1];by_cases c2:isM (tk ts i) [[59]]=true
  ·simp only[if_pos c2];exact⟨rfl,rfl⟩
  ·simp only[if_neg c2];trivial
theorem gJ (T:Two ts us o){i:Nat}(hi:i<ts.length)(A:Agr ts us o i (j3 ts (zf ts i))):RelS unD o (zf ts i) (zf us (i+o)):=by
 have ub:i<=j3 ts (zf ts i):=by
  cases h:zf ts i with
  |ok y j=>have:=(Ys T.w hi h).1;unfold j3;dsimp only;omega
  |er t=>exact Qj hi
 have c0:=A i (Qag _) ub;have k0:=zq c0;have e1:i+o+1=i+1+o:=by omega
 have e2:i+o+2=i+2+o:=by omega
 unfold zf at A ⊢;rw[k0.1,k0.2.1,e1,e2];by_cases k1:(tk ts i).kind=1
 ·have hi1:=T.w.next i hi (by omega)
  simp only[if_pos k1] at A ⊢;by_cases c1:isM (tk ts (i+1)) [[58]]=true
  ·have hi2:=T.w.isM hi1 c1;simp only[if_pos c1] at A;cases h1:QI ts (i+2) with
   |er t=>
    rw[h1] at A;simp only[if_pos c1];have A:Agr ts us o i (ts.length - 1):=A;have R:=GO T hi2 (by rw[h1];exact A.mono (by omega) (Qag _));rw[h1] at R;obtain⟨t',e⟩:=R.er;rw[jM (A (i+1) (by omega) (by omega)),if_pos c1,e];trivial
   |ok y j=>
    have hj:=Wl T.w hi2 h1;rw[h1] at A;dsimp only at A;have R:=λA=>GO T hi2 (by rw[h1];exact A);rw[h1] at R;cases h2:JH ts j with
    |er t=>
     rw[h2] at A;simp only[if_pos c1];have A:Agr ts us o i (ts.length - 1):=A;obtain⟨y',e,h3⟩:=(R (A.mono (by omega) (by show j - 1<=_;omega))).ok;have R2:=Hy T hj.2 (by rw[h2];exact A.mono (by omega) (Qag _));rw[h2] at R2;obtain⟨t',e4⟩:=R2.er;rw[jM (A (i+1) (by omega) (by omega)),if_pos c1,e];dsimp only;rw[e4,h2];trivial
    |ok bs k=>
     have hk:=g9 T.w hj.2 h2;rw[h2] at A;simp only[if_pos c1];have A:Agr ts us o i (k - 1):=A;obtain⟨y',e,h3⟩:=(R (A.mono (by omega) (by show j - 1<=_;omega))).ok;have R2:=Hy T hj.2 (by rw[h2];exact A.mono (by omega) (Qag _));rw[h2] at R2;obtain⟨bs',e4,h4⟩:=R2.ok;rw[jM (A (i+1) (by omega) (by omega)),if_pos c1,e];dsimp only;rw[e4,h2];cases h3;exact⟨by simp only[unD,h4,id],rfl⟩
  ·simp only[if_neg c1] at A ⊢;rw[jM (A (i+1) (by omega) (Qj (α:=DeclT) hi1)),if_neg c1];trivial
 ·simp only[if_neg k1];trivial
theorem HB (W:Wds ts){n i j:Nat}{vs ws:List AsT}(hi:i<ts.length)(h:zg ts n i vs=.ok ws j):i<j:=by
 cases n with
 |zero=>cases h
 |succ n=>
  rw[zg] at h;by_cases k1:(tk ts i).kind=1
  ·simp only[if_pos k1] at h;have hi1:=W.next i hi (by omega)
   by_cases hl:32<=vs.length
   ·simp only[if_pos hl] at h;cases h
   simp only[if_neg hl] at h;by_cases c1:isM (tk ts (i+1)) [[58,61]]=true
   ·simp only[if_pos c1] at h;have hi2:=W.isM hi1 c1;cases h1:qr ts (i+2) with
    |er t=>rw[h1] at h;cases h
    |ok x k=>
     rw[h1] at h;dsimp only at h;have hj:=Z1 W hi2 h1;by_cases c2:isM (tk ts k) [[44]]=true
     ·simp only[if_pos c2] at h;have:=ZV W _ _ _ _ _ (W.isM hj.2 c2) h;omega
     ·simp only[if_neg c2] at h;split at h<;>cases h
      omega
   ·simp only[if_neg c1] at h;cases h
  ·simp only[if_neg k1] at h;cases h
theorem KL (W:Wds ts){n i j:Nat}{vs ws:List RuleT}(hi:i<ts.length)(h:yG ts n i vs=.ok ws j):i<j:=by
 cases n with
 |zero=>cases h
 |succ n=>
  rw[yG] at h;by_cases c1:isM (tk ts i) [[119,104,101,110]]=true
  ·simp only[if_pos c1] at h;have hi1:=W.isM hi c1;by_cases hl:32<=vs.length
   ·simp only[if_pos hl] at h;cases h
   simp only[if_neg hl] at h;cases h1:zM ts (i+1) with
   |er t=>rw[h1] at h;cases h
   |ok x k=>
    rw[h1] at h;have hj:=ZG W hi1 h1;have:=YD W _ _ _ _ _ hj.2 h;omega
  ·simp only[if_neg c1] at h;split at h<;>cases h
   omega
theorem Wc (T:Two ts us o):∀ n n' i vs vs' r,i<ts.length->ts.length<n+i->n<=n'->vs.map unA=vs'.map unA->zg ts n i vs=r->Agr ts us o i (j3 ts r)->RelS (List.map unA) o r (zg us n' (i+o) vs')
 |0,n',i,vs,vs',r,hi,hf,hn,hv,h,A=>by omega
 |n+1,0,i,vs,vs',r,hi,hf,hn,hv,h,A=>by omega
 |n+1,n'+1,i,vs,vs',r,hi,hf,hn,hv,h,A=>by
  have lt:=λws j (h:zg ts (n+1) i vs=.ok ws j)=>HB T.w hi h;have ub:i<=j3 ts r:=by
   cases r with
   |ok ws j=>have:=lt ws j h;unfold j3;dsimp only;omega
   |er t=>exact Qj hi
  have c0:=A i (Qag _) ub;have k0:=zq c0;have hvl:vs'.length=vs.length:=by have:=congrArg Qcb hv;simpa using this.symm
  rw[zg] at h ⊢;rw[k0.1,k0.2.1,hvl];have e1:i+o+1=i+1+o:=by omega
  have e2:i+o+2=i+2+o:=by omega
  rw[e1,e2];by_cases k1:(tk ts i).kind=1
  ·simp only[if_pos k1] at h ⊢;have hi1:=T.w.next i hi (by omega)
   by_cases hl:32<=vs.length
   ·simp only[if_pos hl] at h ⊢;subst h;trivial
   simp only[if_neg hl] at h ⊢;by_cases c1:isM (tk ts (i+1)) [[58,61]]=true
   ·simp only[if_pos c1] at h;have hi2:=T.w.isM hi1 c1;cases h1:qr ts (i+2) with
    |er t=>
     rw[h1] at h;subst h;have A:Agr ts us o i (ts.length - 1):=A;obtain⟨t',e⟩:=uP T hi2 h1 (A.mono (by omega) (Qag _));rw[jM (A (i+1) (by omega) (by omega)),if_pos c1,e];trivial
    |ok x j=>
     rw[h1] at h;dsimp only at h;have hj:=Z1 T.w hi2 h1;have e3:j+o+1=j+1+o:=by omega
     have ubj:j<=j3 ts r:=by
      by_cases c2:isM (tk ts j) [[44]]=true
      ·simp only[if_pos c2] at h;have hj1:=T.w.isM hj.2 c2;cases r with
       |ok ws k=>have:=ZV T.w n (j+1) _ ws k hj1 h;unfold j3;dsimp only;omega
       |er t=>exact Qj hj.2
      ·simp only[if_neg c2] at h;split at h
       ·subst h;unfold j3;dsimp only;omega
       ·subst h;exact Qj hj.2
     obtain⟨x',e,h3⟩:=Q0 T hi2 h1 (A.mono (by omega) ubj);rw[jM (A (i+1) (by omega) (by omega)),if_pos c1,e];dsimp only;rw[jM (A j (by omega) ubj),jM (A j (by omega) ubj),e3];have hv2:∀ l c l' c' nm,(vs ++ [(⟨nm,x,l,c⟩:AsT)]).map unA=(vs' ++ [(⟨nm,x',l',c'⟩:AsT)]).map unA:=λl c l' c' nm=>by
      simp only[Qbe,Qaj,Qam,hv,unA,h3]
     by_cases c2:isM (tk ts j) [[44]]=true
     ·simp only[if_pos c2] at h ⊢;exact Wc T n n' (j+1) _ _ r (T.w.isM hj.2 c2) (by omega) (by omega) (hv2 _ _ _ _ _) h (A.mono (by omega) (Qag _))
     ·simp only[if_neg c2] at h ⊢;by_cases c3:isM (tk ts j) [[59]]=true
      ·simp only[if_pos c3] at h ⊢;subst h;exact⟨hv2 _ _ _ _ _,rfl⟩
      ·simp only[if_neg c3] at h ⊢;subst h;trivial
   ·simp only[if_neg c1] at h;subst h;rw[jM (A (i+1) (by omega) (Qj hi1)),if_neg c1];trivial
  ·simp only[if_neg k1] at h ⊢;subst h;trivial
theorem jdL (T:Two ts us o){i:Nat}(hi:i<ts.length)(A:Agr ts us o i (j3 ts (zM ts i))):RelS unR o (zM ts i) (zM us (i+o)):=by
 unfold zM at A ⊢;cases h1:qr ts i with
 |er t=>
  rw[h1] at A;obtain⟨t',e⟩:=uP T hi h1 A;rw[e];trivial
 |ok x j=>
  rw[h1] at A;have hj:=Z1 T.w hi h1;have e3:j+o+1=j+1+o:=by omega
  dsimp only at A ⊢;by_cases c1:isM (tk ts j) [[100,111]]=true
  ·have hj1:=T.w.isM hj.2 c1;simp only[if_pos c1] at A ⊢;cases h2:zg ts ts.length (j+1) [] with
   |er t=>
    rw[h2] at A;have A:Agr ts us o i (ts.length - 1):=A;obtain⟨x',e,h3⟩:=Q0 T hi h1 (A.mono (Qag _) (by omega));obtain⟨t',e4⟩:=(Wc T ts.length us.length (j+1) [] [] _ hj1 (by omega) (by have:=T.len;omega) rfl h2 (A.mono (by omega) (Qag _))).er;rw[e];dsimp only;rw[jM (A j (by omega) (by omega)),if_pos c1,e3,e4];trivial
   |ok vs k=>
    rw[h2] at A;have hk:=ZV T.w _ _ _ _ _ hj1 h2;have hk2:=HB T.w hj1 h2;have A:Agr ts us o i (k - 1):=A;obtain⟨x',e,h3⟩:=Q0 T hi h1 (A.mono (Qag _) (by omega));obtain⟨vs',e4,h4⟩:=(Wc T ts.length us.length (j+1) [] [] _ hj1 (by omega) (by have:=T.len;omega) rfl h2 (A.mono (by omega) (Qag _))).ok;rw[e];dsimp only;rw[jM (A j (by omega) (by omega)),if_pos c1,e3,e4];exact⟨by simp only[unR,h3,h4],rfl⟩
  ·simp only[if_neg c1] at A ⊢;have A:Agr ts us o i (ts.length - 1):=A;obtain⟨x',e,h3⟩:=Q0 T hi h1 (A.mono (Qag _) (by omega));rw[e];dsimp only;rw[jM (A j (by omega) (by omega)),if_neg c1];trivial
theorem wR (T:Two ts us o):∀ n n' i vs vs' r,i<ts.length->ts.length<n+i->n<=n'->vs.map unR=vs'.map unR->yG ts n i vs=r->Agr ts us o i (j3 ts r)->RelS (List.map unR) o r (yG us n' (i+o) vs')
 |0,n',i,vs,vs',r,hi,hf,hn,hv,h,A=>by omega
 |n+1,0,i,vs,vs',r,hi,hf,hn,hv,h,A=>by omega
 |n+1,n'+1,i,vs,vs',r,hi,hf,hn,hv,h,A=>by
  have lt:=λws j (h:yG ts (n+1) i vs=.ok ws j)=>KL T.w hi h;have ub:i<=j3 ts r:=by
   cases r with
   |ok ws j=>have:=lt ws j h;unfold j3;dsimp only;omega
   |er t=>exact Qj hi
  have c0:=A i (Qag _) ub;have hvl:vs'.length=vs.length:=by have:=congrArg Qcb hv;simpa using this.symm
  rw[yG] at h ⊢;have e1:i+o+1=i+1+o:=by omega
  rw[jM c0,jM c0,hvl,e1];by_cases c1:isM (tk ts i) [[119,104,101,110]]=true
  ·have hi1:=T.w.isM hi c1;simp only[if_pos c1] at h ⊢;by_cases hl:32<=vs.length
   ·simp only[if_pos hl] at h ⊢;subst h;trivial
   simp only[if_neg hl] at h ⊢;have R:=λA=>jdL T hi1 A;cases h1:zM ts (i+1) with
   |er t=>
    rw[h1] at h R;subst h;obtain⟨t',e⟩:=(R (A.mono (by omega) (Qag _))).er;rw[e];trivial
   |ok x j=>
    rw[h1] at h R;dsimp only at h;have hj:=ZG T.w hi1 h1;have ubj:j - 1<=j3 ts r:=by
     cases r with
     |ok ws k=>have:=YD T.w n j _ ws k hj.2 h;unfold j3;dsimp only;omega
     |er t=>have:=Qj (α:=List RuleT) (t:=t) hj.2;omega
    obtain⟨x',e,h3⟩:=(R (A.mono (by omega) ubj)).ok;rw[e];dsimp only;exact wR T n n' j _ _ r hj.2 (by omega) (by omega) (by simp only[Qbe,Qaj,Qam,hv,h3]) h (A.mono (by omega) (Qag _))
  ·simp only[if_neg c1] at h ⊢;by_cases c2:isM (tk ts i) [[125]]=true
   ·simp only[if_pos c2] at h ⊢;subst h;exact⟨hv,rfl⟩
   ·simp only[if_neg c2] at h ⊢;subst h;trivial
theorem KT (T:Two ts us o){i:Nat}(hi:i<ts.length)(A:Agr ts us o i (j3 ts (zc ts i))):RelS unP o (zc ts i) (zc us (i+o)):=by
 have ub:i<=j3 ts (zc ts i):=by
  cases h:zc ts i with
  |ok y j=>have:=(Ym T.w hi h).1;unfold j3;dsimp only;omega
  |er t=>exact Qj hi
 have k0:=zq (A i (Qag _) ub);have e1:i+o+1=i+1+o:=by omega
 have e2:i+o+2=i+2+o:=by omega
 unfold zc at A ⊢;rw[k0.1,k0.2.1,e1,e2];by_cases k1:(tk ts i).kind=1
 ·have hi1:=T.w.next i hi (by omega)
  simp only[if_pos k1] at A ⊢;by_cases c1:isM (tk ts (i+1)) [[123]]=true
  ·have hi2:=T.w.isM hi1 c1;simp only[if_pos c1] at A ⊢;cases h1:yG ts ts.length (i+2) [] with
   |er t=>
    rw[h1] at A;have A:Agr ts us o i (ts.length - 1):=A;obtain⟨t',e⟩:=(wR T ts.length us.length (i+2) [] [] _ hi2 (by omega) (by have:=T.len;omega) rfl h1 (A.mono (by omega) (Qag _))).er;rw[jM (A (i+1) (by omega) (by omega)),if_pos c1,e];trivial
   |ok vs j=>
    rw[h1] at A;have hj:=YD T.w _ _ _ _ _ hi2 h1;have hj2:=KL T.w hi2 h1;have A:Agr ts us o i (j - 1):=A;obtain⟨vs',e,h3⟩:=(wR T ts.length us.length (i+2) [] [] _ hi2 (by omega) (by have:=T.len;omega) rfl h1 (A.mono (by omega) (Qag _))).ok;rw[jM (A (i+1) (by omega) (by omega)),if_pos c1,e];exact⟨by simp only[unP,h3],rfl⟩
  ·simp only[if_neg c1] at A ⊢;rw[jM (A (i+1) (by omega) (Qj (α:=ProcT) hi1)),if_neg c1];trivial
 ·simp only[if_neg k1];trivial
end
end Go.Sy
end
noncomputable section
set_option maxRecDepth 100000
namespace Go.Sy
open Go.Ev Go.Proofs
def unS (m:SrcT):SrcT:=⟨m.enums.map unN,m.vars.map unD,m.procs.map unP⟩
def Ji (a m:SrcT):SrcT:=⟨a.enums ++ m.enums,a.vars ++ m.vars,a.procs ++ m.procs⟩
def HQ:List (List Nat):=[[101,110,117,109],[118,97,114],[112,114,111,99,101,115,115]]
theorem YB (ts:List Tk)(n i:Nat)(m:SrcT):yr ts (n+1) i m=if isM (tk ts i) HQ=true then
  (if(tk ts i).text=[101,110,117,109] then
   (if 32<=m.enums.length then .er (tk ts i) else match ze ts (i+1) with
    |.er t=>.er t
    |.ok e j=>yr ts n j { m with enums:=m.enums ++ [e] })
  else if(tk ts i).text=[118,97,114] then
   (if 32<=m.vars.length then .er (tk ts i) else match zf ts (i+1) with
    |.er t=>.er t
    |.ok e j=>yr ts n j { m with vars:=m.vars ++ [e] })
  else(if 32<=m.procs.length then .er (tk ts i) else match zc ts (i+1) with
    |.er t=>.er t
    |.ok e j=>yr ts n j { m with procs:=m.procs ++ [e] }))
 else if(tk ts i).kind=5 then .ok m i else .er (tk ts i):=by rw[yr];rfl
theorem QK {ts:List Tk}(W:Wds ts):∀ n i m a j,i<ts.length->yr ts n i m=.ok a j->i<=j/\j<ts.length/\(tk ts j).kind=5/\m.enums.length<=a.enums.length/\m.vars.length<=a.vars.length/\m.procs.length<=a.procs.length
 |0,i,m,a,j,hi,h=>by cases h
 |n+1,i,m,a,j,hi,h=>by
  rw[YB] at h;by_cases c:isM (tk ts i) HQ=true
  ·have hi1:=W.isM hi c;simp only[if_pos c] at h;by_cases c1:(tk ts i).text=[101,110,117,109]
   ·simp only[if_pos c1] at h;split at h
    ·cases h
    ·split at h
     ·cases h
     ·rename_i e k he;have hk:=Yr W hi1 he;have:=QK W n k _ a j hk.2 h;simp only[Qat,Qal,Qao] at this;refine⟨?_,this.2.1,this.2.2.1,?_,this.2.2.2.2.1,this.2.2.2.2.2⟩<;>omega
   simp only[if_neg c1] at h;by_cases c2:(tk ts i).text=[118,97,114]
   ·simp only[if_pos c2] at h;split at h
    ·cases h
    ·split at h
     ·cases h
     ·rename_i e k he;have hk:=Ys W hi1 he;have:=QK W n k _ a j hk.2 h;simp only[Qat,Qal,Qao] at this;refine⟨?_,this.2.1,this.2.2.1,this.2.2.2.1,?_,this.2.2.2.2.2⟩<;>omega
   ·simp only[if_neg c2] at h;split at h
    ·cases h
    ·split at h
     ·cases h
     ·rename_i e k he;have hk:=Ym W hi1 he;have:=QK W n k _ a j hk.2 h;simp only[Qat,Qal,Qao] at this;refine⟨?_,this.2.1,this.2.2.1,this.2.2.2.1,this.2.2.2.2.1,?_⟩<;>omega
  ·simp only[if_neg c] at h;split at h
   ·rename_i k5;cases h;exact⟨Qag _,hi,k5,Qag _,Qag _,Qag _⟩
   ·cases h
theorem jfR {m m':SrcT}(h:unS m=unS m'):m'.enums.length=m.enums.length/\m'.vars.length=m.vars.length/\m'.procs.length=m.procs.length:=by
 have h1:=congrArg (λs=>s.enums.length) h;have h2:=congrArg (λs=>s.vars.length) h;have h3:=congrArg (λs=>s.procs.length) h;simp only[unS,QaU] at h1 h2 h3;exact⟨h1.symm,h2.symm,h3.symm⟩
theorem KB {a b:SrcT}(h1:a.enums.map unN=b.enums.map unN)(h2:a.vars.map unD=b.vars.map unD)(h3:a.procs.map unP=b.procs.map unP):unS a=unS b:=by
 unfold unS;rw[h1,h2,h3]
theorem GN {a b:SrcT}(h:unS a=unS b):a.enums.map unN=b.enums.map unN/\a.vars.map unD=b.vars.map unD/\a.procs.map unP=b.procs.map unP:=by
 unfold unS at h;simp only[SrcT.mk.injEq] at h;exact h
theorem vS {ts us:List Tk}(T:Two ts us 0):∀ n n' i m m' a j,i<ts.length->ts.length<=n+i->n<=n'->yr ts n i m=.ok a j->unS m=unS m'->(i<j->Agr ts us 0 i (j - 1))->
  ∃ a' n'',unS a=unS a'/\yr us n' i m'=yr us n'' j a'/\n'<=n''+(j - i)
 |0,n',i,m,m',a,j,hi,hf,hn,h,hm,A=>by cases h
 |n+1,0,i,m,m',a,j,hi,hf,hn,h,hm,A=>by omega
 |n+1,n'+1,i,m,m',a,j,hi,hf,hn,h,hm,A=>by
  have hj:=QK T.w _ _ _ _ _ hi h;rw[YB] at h;by_cases c:isM (tk ts i) HQ=true
  ·have hi1:=T.w.isM hi c;have hlen:=jfR hm;have hmi:=GN hm;simp only[if_pos c] at h;by_cases c1:(tk ts i).text=[101,110,117,109]
   ·simp only[if_pos c1] at h;by_cases hr:32<=m.enums.length
    ·simp only[if_pos hr] at h;cases h
    simp only[if_neg hr] at h;cases he:ze ts (i+1) with
    |er t=>rw[he] at h;cases h
    |ok e k=>
     rw[he] at h;dsimp only at h;have hk:=Yr T.w hi1 he;have hkj:=(QK T.w _ _ _ _ _ hk.2 h).1;have R:=gC T hi1 (by rw[he];exact(A (by omega)).mono (by omega) (by show k - 1<=_;omega));rw[he] at R;obtain⟨e',h1,h2⟩:=R.ok;have h1:ze us (i+1)=.ok e' (k+0):=h1;have c0:=A (by omega) i (Qag _) (by omega);obtain⟨a',n'',g1,g2,g3⟩:=vS T n n' k _ { m' with enums:=m'.enums ++ [e'] } a j hk.2 (by omega) (by omega) h (KB (by simp only[Qbe,Qaj,Qam,hmi.1,h2]) hmi.2.1 hmi.2.2) (λ_=>(A (by omega)).mono (by omega) (Qag _));refine⟨a',n'',g1,?_,by omega⟩;rw[YB,show tk us i=tk us (i+0) from rfl,jM c0,(zq c0).2.1];simp only[if_pos c,if_pos c1,hlen.1,if_neg hr,h1];exact g2
   simp only[if_neg c1] at h;by_cases c2:(tk ts i).text=[118,97,114]
   ·simp only[if_pos c2] at h;by_cases hr:32<=m.vars.length
    ·simp only[if_pos hr] at h;cases h
    simp only[if_neg hr] at h;cases he:zf ts (i+1) with
    |er t=>rw[he] at h;cases h
    |ok e k=>
     rw[he] at h;dsimp only at h;have hk:=Ys T.w hi1 he;have hkj:=(QK T.w _ _ _ _ _ hk.2 h).1;have R:=gJ T hi1 (by rw[he];exact(A (by omega)).mono (by omega) (by show k - 1<=_;omega));rw[he] at R;obtain⟨e',h1,h2⟩:=R.ok;have h1:zf us (i+1)=.ok e' (k+0):=h1;have c0:=A (by omega) i (Qag _) (by omega);obtain⟨a',n'',g1,g2,g3⟩:=vS T n n' k _ { m' with vars:=m'.vars ++ [e'] } a j hk.2 (by omega) (by omega) h (KB hmi.1 (by simp only[Qbe,Qaj,Qam,hmi.2.1,h2]) hmi.2.2) (λ_=>(A (by omega)).mono (by omega) (Qag _));refine⟨a',n'',g1,?_,by omega⟩;rw[YB,show tk us i=tk us (i+0) from rfl,jM c0,(zq c0).2.1];simp only[if_pos c,if_neg c1,if_pos c2,hlen.2.1,if_neg hr,h1];exact g2
   ·simp only[if_neg c2] at h;by_cases hr:32<=m.procs.length
    ·simp only[if_pos hr] at h;cases h
    simp only[if_neg hr] at h;cases he:zc ts (i+1) with
    |er t=>rw[he] at h;cases h
    |ok e k=>
     rw[he] at h;dsimp only at h;have hk:=Ym T.w hi1 he;have hkj:=(QK T.w _ _ _ _ _ hk.2 h).1;have R:=KT T hi1 (by rw[he];exact(A (by omega)).mono (by omega) (by show k - 1<=_;omega));rw[he] at R;obtain⟨e',h1,h2⟩:=R.ok;have h1:zc us (i+1)=.ok e' (k+0):=h1;have c0:=A (by omega) i (Qag _) (by omega);obtain⟨a',n'',g1,g2,g3⟩:=vS T n n' k _ { m' with procs:=m'.procs ++ [e'] } a j hk.2 (by omega) (by omega) h (KB hmi.1 hmi.2.1 (by simp only[Qbe,Qaj,Qam,hmi.2.2,h2])) (λ_=>(A (by omega)).mono (by omega) (Qag _));refine⟨a',n'',g1,?_,by omega⟩;rw[YB,show tk us i=tk us (i+0) from rfl,jM c0,(zq c0).2.1];simp only[if_pos c,if_neg c1,if_neg c2,hlen.2.2,if_neg hr,h1];exact g2
  ·simp only[if_neg c] at h;split at h
   ·cases h;exact⟨m',n'+1,hm,rfl,by omega⟩
   ·cases h
def Suf (a:SrcT)(q:SR SrcT):SR SrcT->Prop
 |.ok w _=>(∃ w' j',q=.ok w' j'/\unS w'=Ji (unS a) (unS w))\/((∃ t,q=.er t)/\(32<a.enums.length+w.enums.length\/32<a.vars.length+w.vars.length\/32<a.procs.length+w.procs.length))
 |.er _=>∃ t,q=.er t
theorem jgr {a m b:SrcT}(h:unS b=Ji (unS a) (unS m)):b.enums.length=a.enums.length+m.enums.length/\b.vars.length=a.vars.length+m.vars.length/\b.procs.length=a.procs.length+m.procs.length:=by
 have h1:=congrArg (λs=>s.enums.length) h;have h2:=congrArg (λs=>s.vars.length) h;have h3:=congrArg (λs=>s.procs.length) h;simp only[unS,Ji,QaU,Qat] at h1 h2 h3;exact⟨h1,h2,h3⟩
theorem jgs {a m b:SrcT}(h:unS b=Ji (unS a) (unS m)):b.enums.map unN=a.enums.map unN ++ m.enums.map unN/\b.vars.map unD=a.vars.map unD ++ m.vars.map unD/\b.procs.map unP=a.procs.map unP ++ m.procs.map unP:=by
 unfold unS Ji at h;simp only[SrcT.mk.injEq] at h;exact h
theorem hZ {a m b:SrcT}(h1:b.enums.map unN=a.enums.map unN ++ m.enums.map unN)(h2:b.vars.map unD=a.vars.map unD ++ m.vars.map unD)(h3:b.procs.map unP=a.procs.map unP ++ m.procs.map unP):unS b=Ji (unS a) (unS m):=by
 unfold unS Ji;rw[h1,h2,h3]
theorem Suf.many {ts:List Tk}(W:Wds ts){n k:Nat}{a m:SrcT}{q:SR SrcT}{t:Tk}(hk:k<ts.length)(hq:q=.er t)(h:32<a.enums.length+m.enums.length\/32<a.vars.length+m.vars.length\/32<a.procs.length+m.procs.length):Suf a q (yr ts n k m):=by
 cases hr:yr ts n k m with
 |er t'=>exact⟨t,hq⟩
 |ok w j=>
  have:=QK W _ _ _ _ _ hk hr;exact .inr ⟨⟨t,hq⟩,by omega⟩
theorem vR {ts us:List Tk}{o:Nat}(T:Two ts us o)(a:SrcT):∀ n n' i m b,i<ts.length->ts.length<=n+i->n<=n'->unS b=Ji (unS a) (unS m)->Agr ts us o i (ts.length - 1)->Suf a (yr us n' (i+o) b) (yr ts n i m)
 |0,n',i,m,b,hi,hf,hn,hb,A=>by omega
 |n+1,0,i,m,b,hi,hf,hn,hb,A=>by omega
 |n+1,n'+1,i,m,b,hi,hf,hn,hb,A=>by
  have c0:=A i (Qag _) (by omega);have hlen:=jgr hb;have hbi:=jgs hb;have e1:i+o+1=i+1+o:=by omega
  rw[YB,YB,jM c0,(zq c0).1,(zq c0).2.1,hlen.1,hlen.2.1,hlen.2.2,e1];by_cases c:isM (tk ts i) HQ=true
  ·have hi1:=T.w.isM hi c;simp only[if_pos c];by_cases c1:(tk ts i).text=[101,110,117,109]
   ·simp only[if_pos c1];by_cases hr:32<=m.enums.length
    ·simp only[if_pos hr,if_pos (show 32<=a.enums.length+m.enums.length by omega)];exact⟨_,rfl⟩
    simp only[if_neg hr];have R:=λA=>gC T hi1 A;cases he:ze ts (i+1) with
    |er t=>
     rw[he] at R;obtain⟨t',h1⟩:=(R (A.mono (by omega) (Qag _))).er;rw[h1];dsimp only;split<;>exact⟨_,rfl⟩
    |ok e k=>
     rw[he] at R;have hk:=Yr T.w hi1 he;obtain⟨e',h1,h2⟩:=(R (A.mono (by omega) (by show k - 1<=_;omega))).ok;rw[h1];dsimp only;by_cases h32:32<=a.enums.length+m.enums.length
     ·simp only[if_pos h32];exact Suf.many T.w hk.2 rfl (by simp only[Qat,Qal,Qao];omega)
     ·simp only[if_neg h32];exact vR T a n n' k _ _ hk.2 (by omega) (by omega) (hZ (by simp only[Qbe,Qaj,Qam,hbi.1,h2,Qck]) hbi.2.1 hbi.2.2) (A.mono (by omega) (Qag _))
   simp only[if_neg c1];by_cases c2:(tk ts i).text=[118,97,114]
   ·simp only[if_pos c2];by_cases hr:32<=m.vars.length
    ·simp only[if_pos hr,if_pos (show 32<=a.vars.length+m.vars.length by omega)];exact⟨_,rfl⟩
    simp only[if_neg hr];have R:=λA=>gJ T hi1 A;cases he:zf ts (i+1) with
    |er t=>
     rw[he] at R;obtain⟨t',h1⟩:=(R (A.mono (by omega) (Qag _))).er;rw[h1];dsimp only;split<;>exact⟨_,rfl⟩
    |ok e k=>
     rw[he] at R;have hk:=Ys T.w hi1 he;obtain⟨e',h1,h2⟩:=(R (A.mono (by omega) (by show k - 1<=_;omega))).ok;rw[h1];dsimp only;by_cases h32:32<=a.vars.length+m.vars.length
     ·simp only[if_pos h32];exact Suf.many T.w hk.2 rfl (by simp only[Qat,Qal,Qao];omega)
     ·simp only[if_neg h32];exact vR T a n n' k _ _ hk.2 (by omega) (by omega) (hZ hbi.1 (by simp only[Qbe,Qaj,Qam,hbi.2.1,h2,Qck]) hbi.2.2) (A.mono (by omega) (Qag _))
   ·simp only[if_neg c2];by_cases hr:32<=m.procs.length
    ·simp only[if_pos hr,if_pos (show 32<=a.procs.length+m.procs.length by omega)];exact⟨_,rfl⟩
    simp only[if_neg hr];have R:=λA=>KT T hi1 A;cases he:zc ts (i+1) with
    |er t=>
     rw[he] at R;obtain⟨t',h1⟩:=(R (A.mono (by omega) (Qag _))).er;rw[h1];dsimp only;split<;>exact⟨_,rfl⟩
    |ok e k=>
     rw[he] at R;have hk:=Ym T.w hi1 he;obtain⟨e',h1,h2⟩:=(R (A.mono (by omega) (by show k - 1<=_;omega))).ok;rw[h1];dsimp only;by_cases h32:32<=a.procs.length+m.procs.length
     ·simp only[if_pos h32];exact Suf.many T.w hk.2 rfl (by simp only[Qat,Qal,Qao];omega)
     ·simp only[if_neg h32];exact vR T a n n' k _ _ hk.2 (by omega) (by omega) (hZ hbi.1 hbi.2.1 (by simp only[Qbe,Qaj,Qam,hbi.2.2,h2,Qck])) (A.mono (by omega) (Qag _))
  ·simp only[if_neg c];by_cases k5:(tk ts i).kind=5
   ·simp only[if_pos k5];exact .inl ⟨b,_,rfl,hb⟩
   ·simp only[if_neg k5];exact⟨_,rfl⟩
end Go.Sy
end
noncomputable section
set_option maxRecDepth 100000
namespace Go.Sy
open Go.Ev Go.Proofs
mutual
theorem Z7:∀ x y:Ex,unE x=unE y->JL x y=true
 |.mk o n nm ks l c,.mk o' n' nm' ks' l' c',h=>by
  simp only[unE,Ex.mk.injEq] at h;obtain⟨rfl,rfl,rfl,h4,_⟩:=h;have:=Uj ks ks' h4;simp[JL,Ex.op,Ex.num,Ex.name,Ex.kids,this]
theorem Uj:∀ xs ys:List Ex,Qn xs=Qn ys->ZF xs ys=true
 |[],[],_=>rfl
 |x :: xs,y :: ys,h=>by
  simp only[Qn,List.cons.injEq] at h;rw[ZF,Qaz];exact⟨Z7 x y h.1,Uj xs ys h.2⟩
 |[],y :: ys,h=>by simp[Qn] at h
 |x :: xs,[],h=>by simp[Qn] at h
end
theorem Xj {α β:Type}{f:α->α->Bool}{un:α->β}(hf:∀ x y,un x=un y->f x y=true):∀ xs ys:List α,xs.map un=ys.map un->qp f xs ys=true
 |[],[],_=>rfl
 |x :: xs,y :: ys,h=>by
  simp only[Qaj,List.cons.injEq] at h;simp only[qp,Qaz];exact⟨hf x y h.1,Xj hf xs ys h.2⟩
 |[],y :: ys,h=>by simp at h
 |x :: xs,[],h=>by simp at h
theorem U4 {α:Type} [DecidableEq α]:∀ xs:List α,qp (λa b=>decide (a=b)) xs xs=true
 |[]=>rfl
 |x :: xs=>by simp only[qp,Qaz,decide_eq_true_eq];exact⟨trivial,U4 xs⟩
theorem jdJ (x y:AsT)(h:unA x=unA y):Z8 x y=true:=by
 simp only[unA,AsT.mk.injEq,and_true] at h;simp only[Z8,Qaz,decide_eq_true_eq];exact⟨h.1,Z7 _ _ h.2⟩
theorem jdG (x y:RuleT)(h:unR x=unR y):vW x y=true:=by
 simp only[unR,RuleT.mk.injEq] at h;simp only[vW,Qaz];exact⟨Z7 _ _ h.1,Xj jdJ _ _ h.2⟩
theorem jbG (x y:ProcT)(h:unP x=unP y):zQ x y=true:=by
 simp only[unP,ProcT.mk.injEq,and_true] at h;simp only[zQ,Qaz,decide_eq_true_eq];exact⟨h.1,Xj jdG _ _ h.2⟩
theorem jbH (x y:EnumT)(h:unN x=unN y):zR x y=true:=by
 simp only[unN,EnumT.mk.injEq,and_true] at h;simp only[zR,Qaz,decide_eq_true_eq];exact⟨h.1,by rw[h.2];exact U4 _⟩
theorem jdI (x y:DeclT)(h:unD x=unD y):zL x y=true:=by
 simp only[unD,DeclT.mk.injEq,and_true] at h;simp only[zL,Qaz,decide_eq_true_eq];exact⟨⟨⟨⟨h.1,h.2.1⟩,h.2.2.1⟩,h.2.2.2.1⟩,Xj Z7 _ _ h.2.2.2.2⟩
theorem jdF {a b:SrcT}(h:unS a=unS b):vV a b=true:=by
 have h:=GN h;simp only[vV,Qaz];exact⟨⟨Xj jbH _ _ h.1,Xj jdI _ _ h.2.1⟩,Xj jbG _ _ h.2.2⟩
theorem jfS (a m:SrcT):unS (Ji a m)=Ji (unS a) (unS m):=by simp only[unS,Ji,Qbe]
theorem jf5 {r:List Nat}{p q:Nat×Nat}:(jZ r p).1=(jZ r q).1/\(jZ r p).2.2=(jZ r q).2.2:=by
 cases r with
 |nil=>exact⟨rfl,rfl⟩
 |cons x r=>
  unfold jZ;dsimp only;split
  ·split<;>exact⟨rfl,rfl⟩
  ·split
   ·split<;>exact⟨rfl,rfl⟩
   ·split<;>exact⟨rfl,rfl⟩
theorem jep (k:Nat):∀ (r:List Nat) (p q:Nat×Nat),r.length<=k->(qg r p).2.1≠0->(qg r q).2.1≠0:=by
 induction k with
 |zero=>
  intro r p q hr h;have:r=[]:=QaL (by omega);subst this;have e:jm []=0:=by have:=Qy [];simpa using this
  rw[zm [] p (e:=0) (n:=0) (t:=⟨5,[],0,p.1,p.2⟩) (by rw[e];rfl)] at h;exact absurd rfl h
 |succ k ih=>
  intro r p q hr h;rcases hx:jZ (r.drop (jm r)) (jp p (r.take (jm r))) with ⟨e,t,n⟩
  rcases hy:jZ (r.drop (jm r)) (jp q (r.take (jm r))) with ⟨e',t',n'⟩
  have hp:=jf5 (r:=r.drop (jm r)) (p:=jp p (r.take (jm r))) (q:=jp q (r.take (jm r)));rw[hx,hy] at hp;dsimp only at hp;obtain⟨rfl,rfl⟩:=hp;rw[zm r p hx] at h;rw[zm r q hy];by_cases he:e≠0
  ·rw[if_pos he];exact he
  ·rw[if_neg he] at h ⊢;by_cases hn:n=0
   ·rw[if_pos hn] at h;exact absurd rfl h
   ·rw[if_neg hn] at h ⊢;have hg:=Qy r;have h2:(qg ((r.drop (jm r)).drop n) (jp (jp p (r.take (jm r))) ((r.drop (jm r)).take n))).2.1≠0:=by
     intro h0;rw[if_neg (by simpa using h0)] at h;exact h h0
    have hl:((r.drop (jm r)).drop n).length<=k:=by
     rw[QaA,QaA];have:=YH hx;rw[QaA] at this;omega
    have h3:=ih _ _ (jp (jp q (r.take (jm r))) ((r.drop (jm r)).take n)) hl h2;rw[if_pos h3];exact h3
theorem gM {r:List Nat}{p:Nat×Nat}(h:(qg r p).2.1=0)(hl:r.length<=65536)(hp:p=(1,1)):qg r p=((qg r p).1,(0,0,0)):=by
 subst hp;have e:jK r=qg r (1,1):=if_neg (by omega);have:=(QS (l:=r) (by rw[e];exact h)).2.2;rw[e] at this;rw[<-this]
theorem jaH {l m:List Nat}(hl:l.length<=3000)(hm:m.length<=3000)(h1:(jK l).2.1=0) :
  ((jK m).2.1≠0->(jK (l ++ 10 :: m)).2.1≠0) /\
  ((jK m).2.1=0->∃ (wa:List Tk) (L:Nat) (t:Tk),(jK l).1=wa ++ [t]/\(∀ w∈wa,w.kind≠5)/\(jK m).1≠[]/\jK (l ++ 10 :: m)=(wa ++ (jK m).1.map (YC L),(0,0,0))):=by
 have e1:jK l=qg l (1,1):=if_neg (by omega);have e2:jK m=qg m (1,1):=if_neg (by omega);have e3:jK (l ++ 10 :: m)=qg (l ++ 10 :: m) (1,1):=if_neg (by rw[Qat,Qal];omega);have ha:=gM (by rw[<-e1];exact h1) (by omega) rfl;have happ:=jeq m _ _ _ _ (Qag _) ha;obtain⟨wa,hwa,hW⟩:=Va _ _ _ _ (Qag _) ha;have hst:yv (jp (1,1) l) 10=(1+(jp (1,1) l).1,1):=by
  unfold yv;rw[if_pos rfl,Qci]
 rw[hst] at happ;refine⟨λh=>?_,λh=>?_⟩
 ·rw[e2] at h;have h3:=jep _ m (1,1) (1+(jp (1,1) l).1,1) (Qag _) h;rw[e3,happ];unfold ahead;rw[if_pos h3];exact h3
 ·have hb:=gM (by rw[<-e2];exact h) (by omega) rfl;have hsh:=jaI (jp (1,1) l).1 _ _ _ _ (Qag _) hb;rw[hsh] at happ;have hdl:(qg l (1,1)).1.dropLast=wa:=by rw[hwa,List.dropLast_concat]
  refine⟨wa,(jp (1,1) l).1,_,by rw[e1];exact hwa,λw hw=>?_,(QS h).2.1,?_⟩
  ·obtain⟨r,p,n,hx,hn⟩:=hW w hw;exact λh5=>hn ((XZ hx).1.1 h5)
  ·rw[e3,happ,hdl,e2];rfl
theorem jdx {wa:List Tk}{r:List Tk}{k:Nat}(h:k<wa.length):tk (wa ++ r) k=wa[k]:=by
 unfold tk;rw[QaE,Qbu h,Qav h];rfl
theorem jjp {wa bs:List Tk}{L k:Nat}(h:k<bs.length):tk (wa ++ bs.map (YC L)) (k+wa.length)=YC L (tk bs k):=by
 unfold tk;rw[QaE,Qbs (by omega),Nat.add_sub_cancel,Qby,QaE,Qav h];rfl
theorem VB {l:List Nat}(h:(qA l).2.1=0):(jK l).2.1=0/\∃ j,yr (jK l).1 (jK l).1.length 0 JX=.ok (qA l).1 j:=by
 unfold qA at h ⊢;by_cases c:(jK l).2.1≠0
 ·rw[if_pos c] at h;exact absurd h c
 ·rw[if_neg c] at h ⊢;refine⟨by simpa using c,?_⟩;cases hr:yr (jK l).1 (jK l).1.length 0 JX with
  |er t=>rw[hr] at h;exact absurd h ((λh=>by cases h))
  |ok m j=>exact⟨j,rfl⟩
theorem VC {l:List Nat}{t:Tk}(h:(jK l).2.1=0)(h2:yr (jK l).1 (jK l).1.length 0 JX=.er t):(qA l).2.1≠0:=by
 unfold qA;rw[if_neg (by simpa using h),h2];exact λh=>by cases h
theorem jdy {l:List Nat}(h:(jK l).2.1≠0):(qA l).2.1≠0:=by
 unfold qA;rw[if_pos h];exact h
theorem VD {l:List Nat}{m:SrcT}{j:Nat}(h:(jK l).2.1=0)(h2:yr (jK l).1 (jK l).1.length 0 JX=.ok m j):qA l=(m,(0,0,0)):=by
 unfold qA;rw[if_neg (by simpa using h),h2]
theorem jad {l m:List Nat}(hl:l.length<=3000)(hm:m.length<=3000)(h1:(qA l).2.1=0) :
  ((qA m).2.1≠0->(qA (l ++ 10 :: m)).2.1≠0) /\
  ((qA m).2.1=0->((qA (l ++ 10 :: m)).2.1≠0->32<(qA l).1.enums.length+(qA m).1.enums.length\/32<(qA l).1.vars.length+(qA m).1.vars.length\/32<(qA l).1.procs.length+(qA m).1.procs.length) /\
   ((qA (l ++ 10 :: m)).2.1=0->vV (qA (l ++ 10 :: m)).1 (Ji (qA l).1 (qA m).1)=true)):=by
 obtain⟨c1,j,r1⟩:=VB h1;obtain⟨J1,J2⟩:=jaH hl hm c1;by_cases c2:(jK m).2.1=0
 ·obtain⟨wa,L,t,hwa,h5,hne,hj⟩:=J2 c2;obtain⟨W1,_,_⟩:=QS c1;obtain⟨W2,_,_⟩:=QS c2;have c3:(jK (l ++ 10 :: m)).2.1=0:=by rw[hj]
  obtain⟨W3,_,_⟩:=QS c3;have hp:0<(jK m).1.length:=Qcd.2 hne;have hj1:(jK (l ++ 10 :: m)).1=wa ++ (jK m).1.map (YC L):=by rw[hj]
  have hlen:(jK l).1.length=wa.length+1:=by rw[hwa];simp
  have T1:Two (jK l).1 (jK (l ++ 10 :: m)).1 0:=⟨W1,W3,by rw[hj1,hlen,Qat,QaU];omega⟩;have T2:Two (jK m).1 (jK (l ++ 10 :: m)).1 wa.length:=⟨W2,W3,by rw[hj1,Qat,QaU];omega⟩;have S1:=QK W1 _ _ _ _ _ (by omega) r1;have hje:j=wa.length:=by
   rcases QaR j wa.length with h|h
   ·have e:tk (jK l).1 j=wa[j]:=by rw[hwa];exact jdx h
    have:=S1.2.2.1;rw[e] at this;exact absurd this (h5 _ (QaJ h))
   ·omega
  have A1:0<j->Agr (jK l).1 (jK (l ++ 10 :: m)).1 0 0 (j - 1):=λh0 k _ hk=>by
   rw[hj1,hwa,QbG,jdx (by omega),jdx (by omega)]
  have A2:Agr (jK m).1 (jK (l ++ 10 :: m)).1 wa.length 0 ((jK m).1.length - 1):=λk _ hk=>by
   rw[hj1,jjp (by omega)];rfl
  obtain⟨a',n'',g1,g2,g3⟩:=vS T1 _ (jK (l ++ 10 :: m)).1.length 0 JX JX _ j (by omega) (by omega) (by have:=T1.len;omega) r1 rfl A1;have hul:(jK (l ++ 10 :: m)).1.length=wa.length+(jK m).1.length:=by rw[hj1,Qat,QaU]
  have S2:=vR T2 (qA l).1 (jK m).1.length n'' 0 JX a' hp (by omega) (by omega) (by rw[<-g1];simp[unS,Ji,JX]) A2;rw[QaF,<-hje,<-g2] at S2;cases r2:yr (jK m).1 (jK m).1.length 0 JX with
  |er t=>
   rw[r2] at S2;obtain⟨t',e⟩:=S2;exact⟨λ_=>VC c3 e,λh=>absurd h (VC c2 r2)⟩
  |ok w k=>
   rw[r2] at S2;have e2:=VD c2 r2;refine⟨λh=>absurd (by rw[e2]) h,λ_=>?_⟩;rcases S2 with ⟨w',j',e,hw⟩|⟨⟨t',e⟩,hm⟩
   ·have e3:=VD c3 e;refine⟨λh=>absurd (by rw[e3]) h,λ_=>?_⟩;rw[e3,e2];exact jdF (by rw[hw,jfS])
   ·refine⟨λ_=>by rw[e2];exact hm,λh=>absurd h (VC c3 e)⟩
 ·refine⟨λ_=>jdy (J1 c2),λh=>absurd (VB h).1 c2⟩
end Go.Sy
end
noncomputable section
set_option maxRecDepth 100000
namespace Go.Sy
open Go.Ev Go.Proofs
def SzX (x:Ex):Prop:=szE x<=BIG
theorem vG:1000000<=BIG:=by decide
theorem uO {ts:List Tk}(W:Wds ts){i j:Nat}{x:Ex}(hi:i<ts.length)(h:qr ts i=.ok x j):SzX x:=by
 obtain⟨r,_,hr⟩:=evR W hi;rw[Xu hr] at h;obtain⟨N,hr⟩:=hr;have hz:=(YX W N).1 _ _ _ _ (hr N (Qag _)) hi;unfold Yw at h;cases r with
 |er t=>cases h
 |ok y k=>
  dsimp only at h;split at h
  ·cases h;have h1:=hz.2.2;have h2:(j - i) * 65537<=1000000 * 65537:=Qbg _ (by have:=W.len;have:=hz.2.1;omega);have h3:1000000 * 65537<=BIG:=by decide
   exact Qas h1 (by rw[QaF];exact Qas h2 h3)
  ·cases h
def SmD (d:DeclT):Prop:=d.begins.length<=BIG/\∀ x∈d.begins,szE x<=BIG
def SmP (p:ProcT):Prop:=p.rules.length<=BIG/\∀ r∈p.rules,SmR r
theorem GA:∀ {ts:List Tk} {n i j:Nat} {vs ws:List (List Nat)},vs.length<=32->zu ts n i vs=.ok ws j->vs.length<ws.length/\ws.length<=32
 |ts,0,i,j,vs,ws,hv,h=>by cases h
 |ts,n+1,i,j,vs,ws,hv,h=>by
  rw[zu] at h;split at h
  ·split at h
   ·cases h
   ·split at h
    ·have:=GA (by simp;omega) h;simp at this;omega
    ·split at h
     ·cases h;simp;omega
     ·cases h
  ·cases h
theorem jfK {ts:List Tk}{i j:Nat}{e:EnumT}(h:ze ts i=.ok e j):0<e.vals.length/\e.vals.length<=1000000:=by
 unfold ze at h;split at h
 ·split at h
  ·split at h
   ·rename_i vs k hv;cases h;have:=GA (by simp) hv;dsimp only;omega
   ·cases h
  ·cases h
 ·cases h
theorem jgy {ts:List Tk}(W:Wds ts){i j:Nat}{bs:List Ex}(hi:i<ts.length)(h:JH ts i=.ok bs j):(∀ x∈bs,SzX x)/\bs.length<=1:=by
 unfold JH at h;split at h
 ·rename_i c;have hi1:=W.isM hi c;split at h
  ·cases h
  ·rename_i x k hx;split at h
   ·cases h;exact⟨λy hy=>by simp at hy;rw[hy];exact uO W hi1 hx,by simp⟩
   ·cases h
 ·split at h
  ·cases h;exact⟨(λy hy=>by cases hy),by simp⟩
  ·cases h
theorem jfL {ts:List Tk}(W:Wds ts){i j:Nat}{d:DeclT}(hi:i<ts.length)(h:zf ts i=.ok d j):SmD d:=by
 unfold zf at h;split at h
 ·rename_i k1;have hi1:=W.next i hi (by omega)
  split at h
  ·rename_i c1;have hi2:=W.isM hi1 c1;split at h
   ·cases h
   ·rename_i y k hy;have hk:=Wl W hi2 hy;split at h
    ·cases h
    ·rename_i bs k2 hb;cases h;obtain⟨c,d⟩:=jgy W hk.2 hb;exact⟨by have:=vG;dsimp only;omega,c⟩
  ·cases h
 ·cases h
theorem GB {ts:List Tk}(W:Wds ts):∀ {n i j:Nat} {vs ws:List AsT},i<ts.length->(∀ a∈vs,SzX a.to)->vs.length<=32->zg ts n i vs=.ok ws j->(∀ a∈ws,SzX a.to)/\ws.length<=32
 |0,i,j,vs,ws,hi,hv,hl,h=>by cases h
 |n+1,i,j,vs,ws,hi,hv,hl,h=>by
  rw[zg] at h;by_cases k1:(tk ts i).kind=1
  ·simp only[if_pos k1] at h;have hi1:=W.next i hi (by omega)
   by_cases h32:32<=vs.length
   ·simp only[if_pos h32] at h;cases h
   simp only[if_neg h32] at h;by_cases c1:isM (tk ts (i+1)) [[58,61]]=true
   ·simp only[if_pos c1] at h;have hi2:=W.isM hi1 c1;cases h1:qr ts (i+2) with
    |er t=>rw[h1] at h;cases h
    |ok x k=>
     rw[h1] at h;dsimp only at h;have hj:=yt W hi2 h1;have hx:=uO W hi2 h1;have hv2:∀ l c nm,∀ a∈vs ++ [(⟨nm,x,l,c⟩:AsT)],SzX a.to:=λl c nm a ha=>by
      rcases Qbj.1 ha with ha|ha
      ·exact hv a ha
      ·simp at ha;rw[ha];exact hx
     by_cases c2:isM (tk ts k) [[44]]=true
     ·simp only[if_pos c2] at h;exact GB W (W.isM hj.2.1 c2) (hv2 _ _ _) (by simp;omega) h
     ·simp only[if_neg c2] at h;split at h
      ·cases h;exact⟨hv2 _ _ _,by simp;omega⟩
      ·cases h
   ·simp only[if_neg c1] at h;cases h
  ·simp only[if_neg k1] at h;cases h
theorem jfI {ts:List Tk}(W:Wds ts){i j:Nat}{r:RuleT}(hi:i<ts.length)(h:zM ts i=.ok r j):SzX r.when/\(∀ a∈r.acts,SzX a.to)/\r.acts.length<=1000000:=by
 unfold zM at h;cases h1:qr ts i with
 |er t=>rw[h1] at h;cases h
 |ok x k=>
  rw[h1] at h;dsimp only at h;have hj:=yt W hi h1;by_cases c1:isM (tk ts k) [[100,111]]=true
  ·simp only[if_pos c1] at h;cases h2:zg ts ts.length (k+1) [] with
   |er t=>rw[h2] at h;cases h
   |ok vs k2=>
    rw[h2] at h;cases h;have:=GB (vs:=[]) W (W.isM hj.2.1 c1) (λa ha=>by cases ha) (QaM _) h2;exact⟨uO W hi h1,this.1,by dsimp only;omega⟩
  ·simp only[if_neg c1] at h;cases h
theorem Kd {ts:List Tk}(W:Wds ts):∀ {n i j:Nat} {vs ws:List RuleT},i<ts.length->(∀ r∈vs,SzX r.when/\(∀ a∈r.acts,SzX a.to)/\r.acts.length<=1000000)->vs.length<=32->yG ts n i vs=.ok ws j->(∀ r∈ws,SzX r.when/\(∀ a∈r.acts,SzX a.to)/\r.acts.length<=1000000)/\ws.length<=32
 |0,i,j,vs,ws,hi,hv,hl,h=>by cases h
 |n+1,i,j,vs,ws,hi,hv,hl,h=>by
  rw[yG] at h;by_cases c1:isM (tk ts i) [[119,104,101,110]]=true
  ·simp only[if_pos c1] at h;have hi1:=W.isM hi c1;by_cases h32:32<=vs.length
   ·simp only[if_pos h32] at h;cases h
   simp only[if_neg h32] at h;cases h1:zM ts (i+1) with
   |er t=>rw[h1] at h;cases h
   |ok r k=>
    rw[h1] at h;dsimp only at h;refine Kd W (ZG W hi1 h1).2 (λa ha=>?_) (by simp;omega) h;rcases Qbj.1 ha with ha|ha
    ·exact hv a ha
    ·simp at ha;rw[ha];exact jfI W hi1 h1
  ·simp only[if_neg c1] at h;split at h
   ·cases h;exact⟨hv,hl⟩
   ·cases h
theorem jfJ {ts:List Tk}(W:Wds ts){i j:Nat}{p:ProcT}(hi:i<ts.length)(h:zc ts i=.ok p j):SmP p:=by
 unfold zc at h;split at h
 ·rename_i k1;have hi1:=W.next i hi (by omega)
  split at h
  ·rename_i c1;have hi2:=W.isM hi1 c1;split at h
   ·rename_i vs k hv;cases h;have:=Kd (vs:=[]) W hi2 (λa ha=>by cases ha) (QaM _) hv;exact⟨by have:=vG;dsimp only;omega,λr hr=>have q:=this.1 r hr;⟨q.1,by have:=vG;omega,q.2.1⟩⟩
   ·cases h
  ·cases h
 ·cases h
theorem Wf {ts:List Tk}(W:Wds ts):∀ {n i j:Nat} {m w:SrcT},i<ts.length->SmS m->m.enums.length<=32->m.vars.length<=32->m.procs.length<=32->yr ts n i m=.ok w j->SmS w/\w.enums.length<=32/\w.vars.length<=32/\w.procs.length<=32
 |0,i,j,m,w,hi,hm,h1,h2,h3,h=>by cases h
 |n+1,i,j,m,w,hi,hm,h1,h2,h3,h=>by
  rw[yr] at h;by_cases c:isM (tk ts i) [[101,110,117,109],[118,97,114],[112,114,111,99,101,115,115]]=true
  ·simp only[if_pos c] at h;have hi1:=W.isM hi c;by_cases c1:(tk ts i).text=[101,110,117,109]
   ·simp only[if_pos c1] at h;by_cases hr:32<=m.enums.length
    ·simp only[if_pos hr] at h;cases h
    simp only[if_neg hr] at h;cases he:ze ts (i+1) with
    |er t=>rw[he] at h;cases h
    |ok e k=>
     rw[he] at h;refine Wf (m:={ m with enums:=m.enums ++ [e] }) W (Yr W hi1 he).2 ⟨by have:=vG;simp;omega,λa ha=>?_,hm.vars,hm.begs,hm.procs,hm.rules⟩ (by simp;omega) h2 h3 h;rcases Qbj.1 ha with ha|ha
     ·exact hm.vals a ha
     ·simp at ha;rw[ha];have:=jfK he;have:=vG;omega
   simp only[if_neg c1] at h;by_cases c2:(tk ts i).text=[118,97,114]
   ·simp only[if_pos c2] at h;by_cases hr:32<=m.vars.length
    ·simp only[if_pos hr] at h;cases h
    simp only[if_neg hr] at h;cases he:zf ts (i+1) with
    |er t=>rw[he] at h;cases h
    |ok e k=>
     rw[he] at h;refine Wf (m:={ m with vars:=m.vars ++ [e] }) W (Ys W hi1 he).2 ⟨hm.enums,hm.vals,by have:=vG;simp;omega,λa ha=>?_,hm.procs,hm.rules⟩ h1 (by simp;omega) h3 h;rcases Qbj.1 ha with ha|ha
     ·exact hm.begs a ha
     ·simp at ha;rw[ha];exact jfL W hi1 he
   ·simp only[if_neg c2] at h;by_cases hr:32<=m.procs.length
    ·simp only[if_pos hr] at h;cases h
    simp only[if_neg hr] at h;cases he:zc ts (i+1) with
    |er t=>rw[he] at h;cases h
    |ok e k=>
     rw[he] at h;refine Wf (m:={ m with procs:=m.procs ++ [e] }) W (Ym W hi1 he).2 ⟨hm.enums,hm.vals,hm.vars,hm.begs,by have:=vG;simp;omega,λa ha=>?_⟩ h1 h2 (by simp;omega) h;rcases Qbj.1 ha with ha|ha
     ·exact hm.rules a ha
     ·simp at ha;rw[ha];exact jfJ W hi1 he
  ·simp only[if_neg c] at h;split at h
   ·cases h;exact⟨hm,h1,h2,h3⟩
   ·cases h
theorem VE {l:List Nat}(h:(qA l).2.1=0):SmS (qA l).1/\(qA l).1.enums.length<=32/\(qA l).1.vars.length<=32/\(qA l).1.procs.length<=32:=by
 unfold qA at h ⊢;by_cases c:(jK l).2.1≠0
 ·rw[if_pos c] at h;exact absurd h c
 ·rw[if_neg c] at h ⊢;have c0:(jK l).2.1=0:=by simpa using c
  obtain⟨W,ne,_⟩:=QS c0;cases hr:yr (jK l).1 (jK l).1.length 0 JX with
  |er t=>rw[hr] at h;exact absurd h (λh=>by cases h)
  |ok m j=>exact Wf W (Qcd.2 ne) ⟨by decide,(λa ha=>by cases ha),by decide,(λa ha=>by cases ha),by decide,(λa ha=>by cases ha)⟩ (by decide) (by decide) (by decide) hr
theorem jhk {a b:SrcT}(ha:SmS a)(hb:SmS b)(h1:a.enums.length<=32)(h2:a.vars.length<=32)(h3:a.procs.length<=32)(h4:b.enums.length<=32)(h5:b.vars.length<=32)(h6:b.procs.length<=32):SmS (Ji a b):=by
 have:=vG;refine⟨by show(a.enums ++ b.enums).length<=_;simp;omega,λx hx=>?_,by show(a.vars ++ b.vars).length<=_;simp;omega,λx hx=>?_,by show(a.procs ++ b.procs).length<=_;simp;omega,λx hx=>?_⟩
 ·rcases Qbj.1 hx with h|h
  ·exact ha.vals x h
  ·exact hb.vals x h
 ·rcases Qbj.1 hx with h|h
  ·exact ha.begs x h
  ·exact hb.begs x h
 ·rcases Qbj.1 hx with h|h
  ·exact ha.rules x h
  ·exact hb.rules x h
end Go.Sy
end
noncomputable section
namespace Go.Sy
open Go.Ev Go.RowKit
def Lw (lo hi:Nat)(s:St)(v:AV)(n:Nat)(cs:List AV)(z:Nat):Prop:=∃ b ex,v=.slice b 0 n n z ex/\(ex=true->n=0)/\cs.length=n * z/\Cl s b cs/\lo<=b/\b<hi
theorem Lw.new {s:St}{z lo hi:Nat}(h1:lo<=s.nx)(h2:s.nx<hi):Lw lo hi (nw s []) (.slice s.nx 0 0 0 z true) 0 [] z:=⟨s.nx,true,rfl,λ_=>rfl,by simp,Cl.new s [],h1,h2⟩
theorem Lw.fz {lo hi n z m d:Nat}{s:St}{v:AV}{cs:List AV}(h:Lw lo hi s v n cs z)(hm:m<=lo)(hp:cs.all pc=true):FzD m (d+2) s v (.lst n cs):=by
 obtain⟨b,ex,rfl,_,h3,h4,h5,h6⟩:=h;refine FzD.slice h4.rw_ (Qbx h3.symm) (by omega) ?_;rw[<-h3,QaY];exact FzsD.pc hp
theorem Lw.nwO {lo hi n z:Nat}{s:St}{v:AV}{cs:List AV}(h:Lw lo hi s v n cs z)(ds:List AV):Lw lo hi (nw s ds) v n cs z:=by
 obtain⟨b,ex,h1,h2,h3,h4,h5,h6⟩:=h;exact⟨b,ex,h1,h2,h3,h4.nw ds,h5,h6⟩
structure ApL (lo:Nat)(s s':St):Prop where
 nx:s.nx<=s'.nx
 fr:s'.fr=s.fr
 cl:∀ c ds,c<lo->Cl s c ds->Cl s' c ds
theorem Lw.keep {lo hi lo2 n z:Nat}{s s':St}{v:AV}{cs:List AV}(h:Lw lo hi s v n cs z)(a:ApL lo2 s s')(hh:hi<=lo2):Lw lo hi s' v n cs z:=by
 obtain⟨b,ex,h1,h2,h3,h4,h5,h6⟩:=h;exact⟨b,ex,h1,h2,h3,a.cl b cs (by omega) h4,h5,h6⟩
theorem ApL.nwO (s:St)(ds:List AV):ApL s.nx s (nw s ds):=⟨by rw[jf];omega,by rw[ul],λc cs hc C=>C.nw ds⟩
theorem ApL.trans {lo lo2:Nat}{s t u:St}(a:ApL lo s t)(b:ApL lo2 t u)(h:lo<=lo2):ApL lo s u:=⟨Qas a.nx b.nx,b.fr.trans a.fr,λc ds hc C=>b.cl c ds (by omega) (a.cl c ds hc C)⟩
theorem Uc {lo hi n z n2 bytes:Nat}{s:St}{v:AV}{cs cs2:List AV}(h:Lw lo hi s v n cs z)(hhi:hi<=s.nx)(hl:cs2.length=n2 * z)(hz:0<z)(hby:(n+n2) * bytes<=140737488355328)(h63:n+n2<=9223372036854775807) :
  ∃ v' s',(∀ K:AV->St->Prop,jd (vK z bytes v (.lst n2 cs2) s) K=K v' s')/\Lw lo s'.nx s' v' (n+n2) (cs ++ cs2) z/\ApL lo s s':=by
 obtain⟨b,ex,rfl,hex,h3,h4,h5,h6⟩:=h;obtain⟨m',zl',zz',ks',hg'⟩:=h4.row;have h4l:=h4.len;rw[zJ hg'] at h4l;have e1:Qak (Qar n2 z) (jz cs2)=true:=qY (by rw[jD];exact Qbx hl.symm);have e2:qX cs2 (Qar n2 z)=cs2:=by rw[qJ];exact(by rw[show Qar n2 z=cs2.length from hl.symm,QaY])
 have e3:Qap (jz cs2) (Qar n2 z)=true:=Zg (by rw[jD];exact hl);by_cases h0:n2=0
 ·subst h0;have hc:cs2=[]:=List.length_eq_zero_iff.1 (by omega);subst hc;refine⟨_,s,λK=>?_,⟨b,ex,rfl,by simpa using hex,by simpa using h3,by simpa using h4,h5,by omega⟩,⟨Qag _,rfl,λ_ _ _ c=>c⟩⟩;have e4:Qak (Qaw n 0) n=true:=qY (Qag _);have e5:Qap 0 0=true:=rfl;simp only[vK,Js,firstCells,e1,cond_true,e2,qN,e3,hg',q9,jo,e4,e5,jd];rfl
 ·have e4:Qak (Qaw n n2) n=false:=jfB (by show n<n+n2;omega);have e5:Qak (Qar (Qaw n n2) bytes) 140737488355328=true:=qY hby;have e6:Qak (Qaw n n2) 9223372036854775807=true:=qY h63;cases ex with
  |true=>
   have hn:=hex rfl;subst hn;have hc:cs=[]:=List.length_eq_zero_iff.1 (by omega);subst hc;have e7:Qak (Qaw 0 (Qar 0 z)) m'=true:=qY (by show 0+0 * z<=m';omega);have e8:jF zl' zz' ks' (Qar 0 z) 0=[]:=by rw[qc,show Qar 0 z=0 from QbH z];rfl
   have e9:yA [] cs2=cs2:=by rw[yn];rfl
   refine⟨.slice s.nx 0 (0+n2) (0+n2) z false,nw s cs2,λK=>?_,⟨s.nx,false,rfl,(λh=>by cases h),by rw[QaV,hl,QaF],Cl.new s _,by omega,by rw[jf];omega⟩,⟨by rw[jf];omega,by rw[ul],λc ds hc C=>C.nw _⟩⟩;simp only[vK,Js,firstCells,e1,cond_true,e2,qN,e3,hg',q9,jo,e4,e5,e6,cond_false,e7,e8,e9,St.alloc_eq,jd];conv=>rhs;unfold nw
   rw[show Qar (Qaw 0 n2) z=cs2.length by rw[hl];exact congrArg (· * z) (QaF n2)];rfl
  |false=>
   have e7:Qap z z=true:=Zg rfl;have e8:Qap 0 0=true:=rfl;have e9:Qap (Qar n z) m'=true:=Zg (by rw[h4l,h3];rfl);have e10:Qar (Qaw n n2) z=m'+cs2.length:=by rw[hl,h4l,h3];exact Qbd n n2 z
   have ea:ap s b cs2=⟨s.nx+1,(jT (jv s.nx)).run (.row (m'+cs2.length) zl' zz' (j2 cs2 ks' m')) ((jT (jv b)).run .dead s.h),min s.dirty b,s.fr⟩:=by
    unfold ap apO;rw[hg']
   have hne:b≠s.nx:=by omega
   refine⟨.slice s.nx 0 (n+n2) (n+n2) z false,ap s b cs2,λK=>?_,⟨s.nx,false,rfl,(λh=>by cases h),by rw[Qat,h3,hl,Qbd],h4.ap cs2,by omega,by rw[ea];exact Qbt _⟩,⟨by rw[ea];exact Nat.le_succ _,by rw[ea],λc ds hc C=>C.apO (by omega)⟩⟩;simp only[vK,Js,firstCells,e1,cond_true,e2,qN,e3,hg',q9,jo,e4,e5,e6,cond_false,e7,e8,e9,St.put_eq,St.alloc_eq,jd];rw[e10,ea];rfl
end Go.Sy
end
noncomputable section
set_option maxRecDepth 100000
namespace Go.Sy
open Go.Ev Go.Proofs
def HD:XC:=(I5 [IG (If 80 0 4 [oC,.nils,oB,oB] []),IH 81 0 5,IV 82 81 81 34 [],IM (oj 83 (.app 4 56 80 82)) 0 [],IH 84 0 7,IV 85 84 84 34 [(1,0)],IM (oj 86 (.app 4 56 83 85)) 0 [],IG (If 87 0 7 [oC,oC,oB,oB,.nils,oB,oB] []),IH 88 1 5,IV 89 88 88 35 [(2,0),(5,0)],IM (oj 90 (.app 7 88 87 89)) 0 [],IH 91 1 7,IV 92 91 91 35 [(1,0),(5,0),(8,0)],IM (oj 93 (.app 7 88 90 92)) 0 [],IG (If 94 0 4 [oC,.nils,oB,oB] []),IH 95 2 5,IV 96 95 95 36 [(2,0),(5,0),(9,0),(12,0)],IM (oj 97 (.app 4 56 94 96)) 0 [],IH 98 2 7,IV 99 98 98 36 [(1,0),(5,0),(8,0),(12,0),(15,0)],IM (oj 100 (.app 4 56 97 99)) 0 [],IG (Ir 101 [.nils,.nils,.nils] [((0,1),86),((1,1),93),((2,1),100)]),IG (o4 11 [.nils,.nils,.nils]),On 3 11 101 0 []] (o3 [oZ 102 3 9,oZ 103 3 11,Oh 104 10 102 103,Or 104]))
def zL4:XC:=(IE [Oj] (ID [Ic 12 5 [],ov 13 (IU 12)] 13 [Oj]) (ID [Iq 14,oj 15 (.lenS 14),Ij 16 .gtr 15 3000,ow 17 16,IZ 18 17 1,o8 19 17 (.lenS 18),o8 20 17 (o5 .gtr 19 3000),IX 21 17 Ii 20] 21 [Or Ii]) (ol [Iq 23,IY 24 9 23,ow 22 24,IB 25 22 0,IB 26 22 1,o4 5 [.nils,.nils,.nils],o4 6 [oB,oB,oB],o0 3 5 25,o0 3 6 26] (ol [ow 28 1,IY 29 9 28,ow 27 29,IB 30 27 0,IB 31 27 1,o4 7 [.nils,.nils,.nils],o4 8 [oB,oB,oB],o0 3 7 30,o0 3 8 31] (IE [Iq 33,I6 34 .add 33 [10],ow 35 1,Ik 36 .add 34 35,IY 37 9 36,ow 32 37,IB 38 32 0,IB 39 32 1,o4 9 [.nils,.nils,.nils],o4 10 [oB,oB,oB],o0 3 9 38,o0 3 10 39] (ID [oZ 40 3 6,Ir 41 [oB,oB,oB] [],ov 42 (.gen .neq 28 false 40 41)] 42 [Or Ii]) (ID [oZ 43 3 8,Ir 44 [oB,oB,oB] [],ov 45 (.gen .neq 28 false 43 44)] 45 [oZ 46 3 10,Ir 47 [oB,oB,oB] [],oj 48 (.gen .neq 28 false 46 47),Or 48]) (.seq (ID [oZ 49 3 10,Ir 50 [oB,oB,oB] [],ov 51 (.gen .neq 28 false 49 50)] 51 [oD 52 0 5,oG 53 52,I7 54 53,oD 55 0 7,oG 56 55,I7 57 56,oj 58 (.bin .add 54 57),Ij 59 .gtr 58 32,ow 60 59,Iv 61 60 1 5,Iz 62 60 61,Oe 63 60 62,Iv 64 60 1 7,Iz 65 60 64,Oe 66 60 65,o8 67 60 (.bin .add 63 66),o8 68 60 (o5 .gtr 67 32),Ig 69 60 Ii 68,ow 70 69,Iv 71 70 2 5,Iz 72 70 71,Oe 73 70 72,Iv 74 70 2 7,Iz 75 70 74,Oe 76 70 75,o8 77 70 (.bin .add 73 76),o8 78 70 (o5 .gtr 77 32),Ig 79 70 Ii 78,Or 79]) HD)))))
def yL4:XF:=⟨[0,1],zL4,[(.t 4)]⟩
theorem xL4:jO Qaf 4=some yL4:=by kernel_rfl
end Go.Sy
end
noncomputable section
set_option maxRecDepth 100000
namespace Go.Sy
open Go.Ev Go.Proofs
variable {base:Bs}
theorem jiK:Go.Ev.isAgg Qaf 34=some false:=by kernel_rfl
theorem jiJ:Go.Ev.sizeOf Qaf 34=some 1:=by kernel_rfl
theorem jjv {b o:Nat}{v:AV}{h:T AO}(ho:o<qe h b)(hv:rat h b o=v)(hc:eqs v=true):(jN Qaf 34 (.ptr b o) v h=true)=True:=eq_true (zP jiK jiJ ho hv hc)
theorem jiI:Go.Ev.isAgg Qaf 35=some false:=by kernel_rfl
theorem jiH:Go.Ev.sizeOf Qaf 35=some 1:=by kernel_rfl
theorem jju {b o:Nat}{v:AV}{h:T AO}(ho:o<qe h b)(hv:rat h b o=v)(hc:eqs v=true):(jN Qaf 35 (.ptr b o) v h=true)=True:=eq_true (zP jiI jiH ho hv hc)
theorem jiG:Go.Ev.isAgg Qaf 36=some false:=by kernel_rfl
theorem jiF:Go.Ev.sizeOf Qaf 36=some 1:=by kernel_rfl
theorem jjt {b o:Nat}{v:AV}{h:T AO}(ho:o<qe h b)(hv:rat h b o=v)(hc:eqs v=true):(jN Qaf 36 (.ptr b o) v h=true)=True:=eq_true (zP jiG jiF ho hv hc)
theorem jiT (a b c d e f:Int):(eqF Qaf 20 28).run (.agg [.int .i64 a,.int .i64 b,.int .i64 c]) (.agg [.int .i64 d,.int .i64 e,.int .i64 f])=some (decide (a=d/\b=e/\c=f)):=by
 have h:(eqF Qaf 20 28).run (.agg [.int .i64 a,.int .i64 b,.int .i64 c]) (.agg [.int .i64 d,.int .i64 e,.int .i64 f])=cond (eqI a d) (cond (eqI b e) (cond (eqI c f) (some true) (some false)) (some false)) (some false):=by kernel_rfl
 rw[h,J9,J9,J9];by_cases h1:a=d<;>by_cases h2:b=e<;>by_cases h3:c=f<;>simp[h1,h2,h3]
theorem jap (a b c d e f:Int)(st:St)(K:AV->St->Prop):jd (ww Qaf .neq 28 false (.agg [.int .i64 a,.int .i64 b,.int .i64 c]) (.agg [.int .i64 d,.int .i64 e,.int .i64 f]) st) K=K (.bool (decide (¬ (a=d/\b=e/\c=f)))) st:=by
 have h:ww Qaf .neq 28 false (.agg [.int .i64 a,.int .i64 b,.int .i64 c]) (.agg [.int .i64 d,.int .i64 e,.int .i64 f]) st=jG ((eqF Qaf 20 28).run (.agg [.int .i64 a,.int .i64 b,.int .i64 c]) (.agg [.int .i64 d,.int .i64 e,.int .i64 f])) λb=>.ok (.bool (cond b false true)) st:=by kernel_rfl
 rw[h,jiT];by_cases hh:a=d/\b=e/\c=f<;>simp[hh,jG,jd]
theorem jjs {s:St}{p:Nat}{A:SrcT}(C:Cl s p (srE A)):(jN Qaf 34 (.ptr p 0) (.lst A.enums.length (fl enE A.enums)) s.h=true)=True:=jjv (by rw[C.len,JK];decide) (C.cell 0 (by rw[JK];decide)) rfl
theorem jjr {s:St}{p:Nat}{A:SrcT}(C:Cl s p (srE A)):(jN Qaf 35 (.ptr p 1) (.lst A.vars.length (fl qo A.vars)) s.h=true)=True:=jju (by rw[C.len,JK];decide) (C.cell 1 (by rw[JK];decide)) rfl
theorem jjq {s:St}{p:Nat}{A:SrcT}(C:Cl s p (srE A)):(jN Qaf 36 (.ptr p 2) (.lst A.procs.length (fl prE A.procs)) s.h=true)=True:=jjt (by rw[C.len,JK];decide) (C.cell 2 (by rw[JK];decide)) rfl
theorem Lw.top {lo hi n z:Nat}{s:St}{v:AV}{cs ds vs:List AV}(h:Lw lo hi s v n cs z)(hh:hi<=s.nx):Lw lo hi (Go.Sy.wr (Go.Sy.nw s ds) s.nx 0 vs) v n cs z:=by
 obtain⟨b,ex,h1,h2,h3,h4,h5,h6⟩:=h;exact⟨b,ex,h1,h2,h3,(h4.nw ds).wrO (by omega) _ _,h5,h6⟩
structure L32 (a:SrcT):Prop where
 e:a.enums.length<=32
 v:a.vars.length<=32
 p:a.procs.length<=32
set_option maxHeartbeats 8000000 in
theorem jiL (hb:NB base){A B C:SrcT}(hC:SmS C)(hW:SmS (Ji A B))(hA:L32 A)(hB:L32 B)(hs:vV C (Ji A B)=true){s:St}{L:Sl}{p5 p7 p9:Nat}(C5:Cl s p5 (srE A))(C7:Cl s p7 (srE B))(C9:Cl s p9 (srE C))(i5:Has L 5 (.ptr p5 0))(i7:Has L 7 (.ptr p7 0))(i9:Has L 9 (.ptr p9 0)):xC Qaf base HD L s (XM Qaf [.t 4] λv _=>v=.bool true) λ_ _ _=>False:=by
 obtain⟨a1,a2,a3⟩:=hA;obtain⟨b1,b2,b3⟩:=hB;obtain⟨v1,s1,e1,w1,q1⟩:=Uc (lo:=s.nx) (hi:=s.nx+1) (bytes:=56) (z:=4) (cs2:=fl enE A.enums) (n2:=A.enums.length) (Lw.new (s:=s) (z:=4) (Qag _) (Qbt _)) (Qag _) (zG X7 _) (by decide) (by omega) (by omega);obtain⟨v2,s2,e2,w2,q2⟩:=Uc (bytes:=56) (cs2:=fl enE B.enums) (n2:=B.enums.length) w1 (Qag _) (zG X7 _) (by decide) (by omega) (by omega);obtain⟨v3,s3,e3,w3,q3⟩:=Uc (lo:=s2.nx) (hi:=s2.nx+1) (bytes:=88) (z:=7) (cs2:=fl qo A.vars) (n2:=A.vars.length) (Lw.new (s:=s2) (z:=7) (Qag _) (Qbt _)) (Qag _) (zG JS _) (by decide) (by omega) (by omega);obtain⟨v4,s4,e4,w4,q4⟩:=Uc (bytes:=88) (cs2:=fl qo B.vars) (n2:=B.vars.length) w3 (Qag _) (zG JS _) (by decide) (by omega) (by omega);obtain⟨v5,s5,e5,w5,q5⟩:=Uc (lo:=s4.nx) (hi:=s4.nx+1) (bytes:=56) (z:=4) (cs2:=fl prE A.procs) (n2:=A.procs.length) (Lw.new (s:=s4) (z:=4) (Qag _) (Qbt _)) (Qag _) (zG XV _) (by decide) (by omega) (by omega);obtain⟨v6,s6,e6,w6,q6⟩:=Uc (bytes:=56) (cs2:=fl prE B.procs) (n2:=B.procs.length) w5 (Qag _) (zG XV _) (by decide) (by omega) (by omega);have n0:=C5.lt;have n1:=C7.lt;have n2:=C9.lt;have m1:=q1.nx;have m2:=q2.nx;have m3:=q3.nx;have m4:=q4.nx;have m5:=q5.nx;have m6:=q6.nx;rw[jf] at m1 m3 m5;have K:∀ p cs,p<s.nx->Cl s p cs->Cl (nw s []) p cs/\Cl s1 p cs/\Cl s2 p cs/\Cl (nw s2 []) p cs/\Cl s3 p cs/\Cl s4 p cs/\Cl (nw s4 []) p cs/\Cl s5 p cs/\Cl s6 p cs:=λp cs hp c=>by
  have c0:=c.nw [];have c1:=q1.cl _ _ hp c0;have c2:=q2.cl _ _ hp c1;have c3:=c2.nw [];have c4:=q3.cl _ _ (by omega) c3;have c5:=q4.cl _ _ (by omega) c4;have c6:=c5.nw [];have c7:=q5.cl _ _ (by omega) c6;exact⟨c0,c1,c2,c3,c4,c5,c6,c7,q6.cl _ _ (by omega) c7⟩
 obtain⟨x0,x1,x2,x3,x4,x5,x6,x7,x8⟩:=K p5 _ n0 C5;obtain⟨y0,y1,y2,y3,y4,y5,y6,y7,y8⟩:=K p7 _ n1 C7;obtain⟨_,_,_,_,_,_,_,_,z8⟩:=K p9 _ n2 C9;have W2:=((((w2.keep (ApL.nwO s2 []) (Qag _)).keep q3 (Qag _)).keep q4 (Qag _)).keep (ApL.nwO s4 []) (by omega)).keep (q5.trans q6 (Qag _)) (by omega);have W4:=(w4.keep (ApL.nwO s4 []) (Qag _)).keep (q5.trans q6 (Qag _)) (Qag _);obtain⟨t2,o2,hv2,_⟩:=id W2;obtain⟨t4,o4,hv4,_⟩:=id W4;obtain⟨t6,o6,hv6,_⟩:=id w6;subst hv2 hv4 hv6;rw[(by unfold HD;simp only[qq];rfl:HD=_)]
 (have zz:=aI @x0.r (aI @x1.r (aI @x2.r (aI @x3.r (aI @x4.r (aI @x5.r (aI @x6.r (aI @x7.r (aI @x8.r (aI @y0.r (aI @y1.r (aI @y2.r (aI @y3.r (aI @y4.r (aI @y5.r (aI @y6.r (aI @y7.r (aI @y8.r @z8.r)))))))))))))))));(repeat'(first|(apply jb<;>intro _)|simp(disch:=first|exact Zr|fail) only[ja i5,ja i7,ja i9,e1,e2,e3,e4,e5,e6,jjs,jjr,jjq,x0.q,x1.q,x2.q,x3.q,x4.q,x5.q,x6.q,x7.q,x8.q,y0.q,y1.q,y2.q,y3.q,y4.q,y5.q,y6.q,y7.q,y8.q,z8.q,x0.r,x1.r,x2.r,x3.r,x4.r,x5.r,x6.r,x7.r,x8.r,y0.r,y1.r,y2.r,y3.r,y4.r,y5.r,y6.r,y7.r,y8.r,z8.r,jj,yq,yQ,yT,qI,yR,yO,rzZ,Qab,Qac,Qad,Qaa,Qae]));(all_goals(clear zz)))
 rw[QaF,QaV,<-YO] at W2 W4 w6;have F:FzsD 0 9 (Go.Sy.wr (Go.Sy.nw s6 [AV.nils,AV.nils,AV.nils]) s6.nx 0 [AV.slice t2 0 (A.enums.length+B.enums.length) (A.enums.length+B.enums.length) 4 o2,AV.slice t4 0 (A.vars.length+B.vars.length) (A.vars.length+B.vars.length) 7 o4,AV.slice t6 0 (A.procs.length+B.procs.length) (A.procs.length+B.procs.length) 4 o6]) [AV.agg (srE C),AV.agg [AV.slice t2 0 (A.enums.length+B.enums.length) (A.enums.length+B.enums.length) 4 o2,AV.slice t4 0 (A.vars.length+B.vars.length) (A.vars.length+B.vars.length) 7 o4,AV.slice t6 0 (A.procs.length+B.procs.length) (A.procs.length+B.procs.length) 4 o6]] [AV.agg (srE C),AV.agg [.lst (A.enums.length+B.enums.length) (fl enE (A.enums ++ B.enums)),.lst (A.vars.length+B.vars.length) (fl qo (A.vars ++ B.vars)),.lst (A.procs.length+B.procs.length) (fl prE (A.procs ++ B.procs))]]:=
  .cons (.pa (by first|rfl|simp[pa,pc,XN,jfC,je5,jaD,V9,H2,je2])) (.cons (.agg (.cons ((W2.top (by omega)).fz (QaM _) (Qh jaD _)) (.cons ((W4.top (by omega)).fz (QaM _) (Qh V9 _)) (.cons ((w6.top (Qag _)).fz (QaM _) (Qh H2 _)) .nil)))) .nil)
 obtain⟨ks,hF,_⟩:=F;have e10:srE (Ji A B)=[.lst (A.enums.length+B.enums.length) (fl enE (A.enums ++ B.enums)),.lst (A.vars.length+B.vars.length) (fl qo (A.vars ++ B.vars)),.lst (A.procs.length+B.procs.length) (fl prE (A.procs ++ B.procs))]:=by
  unfold srE Ji;simp only[Qat]
 have P:=Gh hb C (Ji A B) hC hW;rw[hs,e10] at P;have E10:=λK Kp=>P.xf hF (λst=>hb.no 10 (by decide) _ _) K Kp;refine Eq.mpr (E10 _ _) ?_;repeat'(first|(apply jb<;>intro _)|simp(disch:=first|exact dzE|fail) only[H7,jj,yq,yQ,yT,qI,yR,yO,rzZ,Qab,Qac,Qad,Qaa,Qae])
theorem KG {l:List Nat}(h:(qA l).2.1=0):(qA l).2=(0,0,0):=by
 obtain⟨c,j,e⟩:=VB h;rw[VD c e]
set_option maxHeartbeats 8000000 in
theorem jgg (hb:NB base)(h5:∀ st,base.run 5 [] st=.ok (.bool true) st)(hP:PI base)(l m:List Nat):XB Qaf base 4 [.str l,.str m] st0 (λv _=>v=.bool true) λ_ _=>False:=by
 have E5:=λ(st:St) (K Kp:AV->St->Prop)=>Vr (P:=Qaf) (base:=base) (h5 st) K Kp;refine Qz xL4 (by rfl) (hb.at0 4 (by decide) (by decide) _ _) ?_;simp only[yL4,jn,Qaj,Qam,Qah,Qai];rw[(by unfold zL4;simp only[qq];rfl:zL4=_)];by_cases c0:3000<l.length
 ·repeat'(first|(apply jb<;>intro _)|simp(disch:=first|exact dzE|fail) only[E5,c0,jj,yq,yQ,yT,qI,yR,yO,rzZ,Qab,Qac,Qad,Qaa,Qae])
 by_cases c0':3000<m.length
 ·repeat'(first|(apply jb<;>intro _)|simp(disch:=first|exact dzE|fail) only[E5,c0,c0',jj,yq,yQ,yT,qI,yR,yO,rzZ,Qab,Qac,Qad,Qaa,Qae])
 have hl:l.length<=3000:=by omega
 have hm:m.length<=3000:=by omega
 have EA:=We hb hP l (by omega) QS gN;have EB:=We hb hP m (by omega) QS gN;have EC:=We hb hP (l ++ 10 :: m) (by simp;omega) QS gN;have J:=λh=>jad hl hm h;have SA:=@VE l;have SB:=@VE m;have SC:=@VE (l ++ 10 :: m);have ZA:=@KG l;have ZB:=@KG m;have ZC:=@KG (l ++ 10 :: m);have el:l ++ [10] ++ m=l ++ 10 :: m:=by simp
 generalize qA (l ++ 10 :: m)=C at *;generalize qA l=A at *;generalize qA m=B at *;rw[<-el] at EC;have es:∀ (st:St) (K:AV->St->Prop),jd (wN .add (.str (l ++ [10])) (.str m) st) K=K (.str (l ++ [10] ++ m)) st:=λst K=>uR (by simp;omega);obtain⟨A,a1,a2,a3⟩:=A;obtain⟨B,b1,b2,b3⟩:=B;obtain⟨C,c1,c2,c3⟩:=C;dsimp only at J SA SB SC ZA ZB ZC;unfold QQ at EA EB EC;dsimp only at EA EB EC;by_cases k1:a1=0
 ·obtain⟨J1,J2⟩:=J k1;have:=ZA k1;simp only[Prod.mk.injEq] at this;obtain⟨_,rfl,rfl⟩:=this;subst k1;by_cases k2:b1=0
  ·have J2:=J2 k2;have:=ZB k2;simp only[Prod.mk.injEq] at this;obtain⟨_,rfl,rfl⟩:=this;subst k2;by_cases k3:c1=0
   ·have:=ZC k3;simp only[Prod.mk.injEq] at this;obtain⟨_,rfl,rfl⟩:=this;subst k3;repeat'(first|(apply jb<;>intro _)|simp(disch:=first|exact dzE|fail) only[E5,EA,EB,EC,es,jap,c0,c0',jj,yq,yQ,yT,qI,yR,yO,rzZ,Qab,Qac,Qad,Qaa,Qae])
    obtain⟨sa,sa1,sa2,sa3⟩:=SA rfl;obtain⟨sb,sb1,sb2,sb3⟩:=SB rfl;refine jiL hb (A:=A) (B:=B) (C:=C) (p5:=0) (p7:=2) (p9:=4) (SC rfl).1 (jhk sa sb sa1 sa2 sa3 sb1 sb2 sb3) ⟨sa1,sa2,sa3⟩ ⟨sb1,sb2,sb3⟩ ((J2 rfl).2 rfl) (by(first|exact cyE|fail)) (by(first|exact cyE|fail)) (by(first|exact cyE|fail)) ?_ ?_ ?_<;>simp(disch:=decide) only[jc,ji]
   ·have k3':¬ ((c1:Int)=0/\(c2:Int)=0/\(c3:Int)=0):=λh=>k3 (by omega);repeat'(first|(apply jb<;>intro _)|simp(disch:=first|exact dzE|fail) only[E5,EA,EB,EC,es,jap,c0,c0',k3',jj,yq,yQ,yT,qI,yR,yO,rzZ,Qab,Qac,Qad,Qaa,Qae])
    all_goals first|rfl|(refine congrArg AV.bool (decide_eq_true ?_);have:=(J2 rfl).1 k3;omega)
  ·have k2':¬ ((b1:Int)=0/\(b2:Int)=0/\(b3:Int)=0):=λh=>k2 (by omega);have k3':¬ ((c1:Int)=0/\(c2:Int)=0/\(c3:Int)=0):=λh=>J1 k2 (by omega);repeat'(first|(apply jb<;>intro _)|simp(disch:=first|exact dzE|fail) only[E5,EA,EB,EC,es,jap,c0,c0',k2',k3',jj,yq,yQ,yT,qI,yR,yO,rzZ,Qab,Qac,Qad,Qaa,Qae])
   all_goals rfl
 ·have k1':¬ ((a1:Int)=0/\(a2:Int)=0/\(a3:Int)=0):=λh=>k1 (by omega);repeat'(first|(apply jb<;>intro _)|simp(disch:=first|exact dzE|fail) only[E5,EA,EB,EC,es,jap,c0,c0',k1',jj,yq,yQ,yT,qI,yR,yO,rzZ,Qab,Qac,Qad,Qaa,Qae])
end Go.Sy
end
noncomputable section
namespace Go.Proofs
open Go.Shelf
def Tryd.laysC174_ren:Go.Shelf.Ren:=⟨λ|174=>46|247=>59|245=>60|287=>74|279=>75|280=>76|281=>77|282=>78|321=>83|322=>84|316=>85|171=>87|205=>86|243=>88|246=>89|283=>90|284=>91|285=>92|286=>93|129=>95|317=>94|318=>96|319=>97|320=>98|337=>99|338=>100|n=>n,λ|9=>9|3=>3|2=>2|75=>94|85=>95|4=>4|167=>112|5=>5|53=>113|175=>114|46=>116|168=>117|37=>106|0=>0|210=>127|21=>21|127=>129|145=>132|143=>130|171=>134|173=>137|212=>140|51=>141|20=>20|213=>142|232=>146|233=>147|80=>148|n=>n,λ|15=>0|16=>1|17=>2|18=>3|19=>4|n=>n⟩
theorem Tryd.laysC174:Go.Proofs.LaysC.n174 Qaf Tryd.laysC174_ren:={
 mixed:=by kernel_rfl
 f129:=Tryd.func95.trans (congrArg some (by kernel_rfl))
 f171:=Tryd.func87.trans (congrArg some (by kernel_rfl))
 f174:=Tryd.func46.trans (congrArg some (by kernel_rfl))
 f205:=Tryd.func86.trans (congrArg some (by kernel_rfl))
 f243:=Tryd.func88.trans (congrArg some (by kernel_rfl))
 f245:=Tryd.func60.trans (congrArg some (by kernel_rfl))
 f246:=Tryd.func89.trans (congrArg some (by kernel_rfl))
 f247:=Tryd.func59.trans (congrArg some (by kernel_rfl))
 f279:=Tryd.func75.trans (congrArg some (by kernel_rfl))
 f280:=Tryd.func76.trans (congrArg some (by kernel_rfl))
 f281:=Tryd.func77.trans (congrArg some (by kernel_rfl))
 f282:=Tryd.func78.trans (congrArg some (by kernel_rfl))
 f283:=Tryd.func90.trans (congrArg some (by kernel_rfl))
 f284:=Tryd.func91.trans (congrArg some (by kernel_rfl))
 f285:=Tryd.func92.trans (congrArg some (by kernel_rfl))
 f286:=Tryd.func93.trans (congrArg some (by kernel_rfl))
 f287:=Tryd.func74.trans (congrArg some (by kernel_rfl))
 f316:=Tryd.func85.trans (congrArg some (by kernel_rfl))
 f317:=Tryd.func94.trans (congrArg some (by kernel_rfl))
 f318:=Tryd.func96.trans (congrArg some (by kernel_rfl))
 f319:=Tryd.func97.trans (congrArg some (by kernel_rfl))
 f320:=Tryd.func98.trans (congrArg some (by kernel_rfl))
 f321:=Tryd.func83.trans (congrArg some (by kernel_rfl))
 f322:=Tryd.func84.trans (congrArg some (by kernel_rfl))
 f337:=Tryd.func99.trans (congrArg some (by kernel_rfl))
 f338:=Tryd.func100.trans (congrArg some (by kernel_rfl))
 t0:=Tryd.underlying0
 a0:=Tryd.isAgg0
 z0:=Tryd.sizeOf0
 v0:=Tryd.zeroValue0
 t2:=Tryd.underlying2
 a2:=Tryd.isAgg2
 z2:=Tryd.sizeOf2
 v2:=Tryd.zeroValue2
 t3:=Tryd.underlying3
 a3:=Tryd.isAgg3
 z3:=Tryd.sizeOf3
 v3:=Tryd.zeroValue3
 t4:=Tryd.underlying4
 a4:=Tryd.isAgg4
 z4:=Tryd.sizeOf4
 v4:=Tryd.zeroValue4
 t5:=Tryd.underlying5
 a5:=Tryd.isAgg5
 z5:=Tryd.sizeOf5
 v5:=Tryd.zeroValue5
 t9:=Tryd.underlying9
 a9:=Tryd.isAgg9
 z9:=Tryd.sizeOf9
 v9:=Tryd.zeroValue9
 t20:=Tryd.underlying20
 a20:=Tryd.isAgg20
 z20:=Tryd.sizeOf20
 v20:=Tryd.zeroValue20
 t21:=Tryd.underlying21
 a21:=Tryd.isAgg21
 z21:=Tryd.sizeOf21
 v21:=Tryd.zeroValue21
 t37:=Tryd.underlying106
 a37:=Tryd.isAgg106
 z37:=Tryd.sizeOf106
 v37:=Tryd.zeroValue106
 t46:=Tryd.underlying116
 a46:=Tryd.isAgg116
 z46:=Tryd.sizeOf116
 v46:=Tryd.zeroValue116
 t51:=Tryd.underlying141
 a51:=Tryd.isAgg141
 z51:=Tryd.sizeOf141
 v51:=Tryd.zeroValue141
 t53:=Tryd.underlying113
 a53:=Tryd.isAgg113
 z53:=Tryd.sizeOf113
 v53:=Tryd.zeroValue113
 t75:=Tryd.underlying94
 a75:=Tryd.isAgg94
 z75:=Tryd.sizeOf94
 v75:=Tryd.zeroValue94
 t85:=Tryd.underlying95
 a85:=Tryd.isAgg95
 z85:=Tryd.sizeOf95
 v85:=Tryd.zeroValue95
 t127:=Tryd.underlying129
 a127:=Tryd.isAgg129
 z127:=Tryd.sizeOf129
 v127:=Tryd.zeroValue129
 t143:=Tryd.underlying130
 a143:=Tryd.isAgg130
 z143:=Tryd.sizeOf130
 v143:=Tryd.zeroValue130
 t145:=Tryd.underlying132
 a145:=Tryd.isAgg132
 z145:=Tryd.sizeOf132
 v145:=Tryd.zeroValue132
 t167:=Tryd.underlying112
 a167:=Tryd.isAgg112
 z167:=Tryd.sizeOf112
 v167:=Tryd.zeroValue112
 t168:=Tryd.underlying117
 a168:=Tryd.isAgg117
 z168:=Tryd.sizeOf117
 v168:=Tryd.zeroValue117
 t171:=Tryd.underlying134
 a171:=Tryd.isAgg134
 z171:=Tryd.sizeOf134
 v171:=Tryd.zeroValue134
 t173:=Tryd.underlying137
 a173:=Tryd.isAgg137
 z173:=Tryd.sizeOf137
 v173:=Tryd.zeroValue137
 t175:=Tryd.underlying114
 a175:=Tryd.isAgg114
 z175:=Tryd.sizeOf114
 v175:=Tryd.zeroValue114
 t210:=Tryd.underlying127
 a210:=Tryd.isAgg127
 z210:=Tryd.sizeOf127
 v210:=Tryd.zeroValue127
 t212:=Tryd.underlying140
 a212:=Tryd.isAgg140
 z212:=Tryd.sizeOf140
 v212:=Tryd.zeroValue140
 t213:=Tryd.underlying142
 a213:=Tryd.isAgg142
 z213:=Tryd.sizeOf142
 t232:=Tryd.underlying146
 a232:=Tryd.isAgg146
 z232:=Tryd.sizeOf146
 v232:=Tryd.zeroValue146
 t233:=Tryd.underlying147
 a233:=Tryd.isAgg147
 z233:=Tryd.sizeOf147
 v233:=Tryd.zeroValue147
 g15:=by kernel_rfl
 g16:=by kernel_rfl
 g17:=by kernel_rfl
 g18:=by kernel_rfl
 g19:=by kernel_rfl
 t80:=Tryd.underlying148
 a80:=Tryd.isAgg148
 z80:=Tryd.sizeOf148
 v80:=Tryd.zeroValue148
 i0:=by kernel_rfl
 i2:=by kernel_rfl
 i3:=by kernel_rfl
 i4:=by kernel_rfl
 i5:=by kernel_rfl
 i9:=by kernel_rfl
 i20:=by kernel_rfl
 i21:=by kernel_rfl
 i37:=by kernel_rfl
 i46:=by kernel_rfl
 i51:=by kernel_rfl
 i53:=by kernel_rfl
 i75:=by kernel_rfl
 i80:=by kernel_rfl
 i85:=by kernel_rfl
 i127:=by kernel_rfl
 i143:=by kernel_rfl
 i145:=by kernel_rfl
 i167:=by kernel_rfl
 i168:=by kernel_rfl
 i171:=by kernel_rfl
 i173:=by kernel_rfl
 i175:=by kernel_rfl
 i210:=by kernel_rfl
 i212:=by kernel_rfl
 i232:=by kernel_rfl
 i233:=by kernel_rfl
 m15:=by kernel_rfl
 m16:=by kernel_rfl
 m17:=by kernel_rfl
 m18:=by kernel_rfl
 m19:=by kernel_rfl
 c0:=by kernel_rfl
 c2:=by kernel_rfl
 c3:=by kernel_rfl
 c4:=by kernel_rfl
 c5:=by kernel_rfl
 c9:=by kernel_rfl
 c20:=by kernel_rfl
 c21:=by kernel_rfl
 c37:=by kernel_rfl
 c46:=by kernel_rfl
 c51:=by kernel_rfl
 c53:=by kernel_rfl
 c75:=by kernel_rfl
 c80:=by kernel_rfl
 c85:=by kernel_rfl
 c127:=by kernel_rfl
 c143:=by kernel_rfl
 c145:=by kernel_rfl
 c167:=by kernel_rfl
 c168:=by kernel_rfl
 c171:=by kernel_rfl
 c173:=by kernel_rfl
 c175:=by kernel_rfl
 c210:=by kernel_rfl
 c212:=by kernel_rfl
 c213:=by kernel_rfl
 c232:=by kernel_rfl
 c233:=by kernel_rfl }
open Go.RowKit in
theorem Tryd.strconv_ParseInt_10_at64_ok (s:ByteArray)(hmax:s.size<=9223372036854775806)(v:Int)(h:Lib.parseIntB 64 s.data.toList=.ok v)(w:World) :
 Calls Qaf 46 #[.string s,.int .i64 10,.int .i64 64] w λe w'=>e=.returned (.tuple #[.int .i64 v,.nilIface])/\(w'=w\/∃ t,w'=Lib.bytesWorld w 5 t):=Any.strconv_ParseInt_10_at64_ok Tryd.laysC174 s hmax v h w
open Go.RowKit in
theorem Tryd.strconv_ParseInt_10_at64_range (s:ByteArray)(hlim:s.size<=281474976710656)(h:Lib.parseIntB 64 s.data.toList=.range)(ev:Value)(w:World)(hv:w.cell? ⟨1,0,none⟩=some ev)(hev:ev=.nilIface\/∃ te pe,ev=.iface te pe) :
 Calls Qaf 46 #[.string s,.int .i64 10,.int .i64 64] w λe w'=>∃ N,e=.returned (.tuple #[.int .i64 (Lib.intSat 64 s.data.toList),.iface 117 (.pointer (some ⟨N,0,none⟩))])/\w.heap.size<=N/\w'.heap[N]? = some (.cells #[.string ⟨#[80,97,114,115,101,73,110,116]⟩,.string s,ev] 127 (0,0))/\Below w.heap.size w w':=Any.strconv_ParseInt_10_at64_range Tryd.laysC174 s hlim h ev w hv hev
end Go.Proofs
end
noncomputable section
set_option maxRecDepth 100000
namespace Go.Sy
open Go.Ev Go.Proofs
open Go.RowKit (Below)
theorem Z4:okP Qaf=true:=by kernel_rfl
theorem Wm:Tryd.prog.follows .mixedOrders=true:=by kernel_rfl
theorem jiM:jcc (W6 Qaf 10000000 400 5 [] st0)=true:=by kernel_rfl
def V8 (l:List UInt8):Prop:=∀ c∈l,48<=c.toNat/\c.toNat<=57
theorem Uu:∀ (l:List UInt8) (acc:Nat),V8 l->(acc+1) * 10 ^ l.length<=100000000->Lib.parseUintM 18446744073709551615 acc l=.ok ((l.map UInt8.toNat).foldl (λv c=>10 * v+(c - 48)) acc)
 |[],acc,_,_=>rfl
 |c :: r,acc,hd,h=>by
  have hc:=hd c (by simp);rw[Qal,Nat.pow_succ] at h;have hp:1<=10 ^ r.length:=Nat.one_le_pow _ _ (by decide);have hacc:(acc+1) * 10<=100000000:=by
   have:(acc+1) * 10 * 1<=(acc+1) * 10 * 10 ^ r.length:=Nat.mul_le_mul_left _ hp;have e:(acc+1) * 10 * 10 ^ r.length=(acc+1) * (10 ^ r.length * 10):=by rw[Nat.mul_assoc,Nat.mul_comm 10]
   omega
  unfold Lib.parseUintM;rw[if_pos hc,if_neg (by omega),if_neg (by omega),Uu r _ (λd hd'=>hd d (by simp[hd']))]
  ·show _=Lib.NumEnd.ok ((r.map UInt8.toNat).foldl _ (10 * acc+(c.toNat - 48)));rw[Nat.mul_comm acc 10]
  ·refine Qas ?_ h;have e:(acc+1) * (10 ^ r.length * 10)=((acc+1) * 10) * 10 ^ r.length:=by rw[Nat.mul_comm (10 ^ r.length),Nat.mul_assoc]
   rw[e];exact Qbg _ (by omega)
theorem wH:∀ (l:List UInt8) (acc:Nat),V8 l->(∃ u,Lib.parseUintM 18446744073709551615 acc l=.ok u)\/Lib.parseUintM 18446744073709551615 acc l=.range
 |[],acc,_=>.inl ⟨acc,rfl⟩
 |c :: r,acc,hd=>by
  have hc:=hd c (by simp);unfold Lib.parseUintM;rw[if_pos hc];by_cases h1:1844674407370955162<=acc
  ·rw[if_pos h1];exact .inr rfl
  ·rw[if_neg h1];by_cases h2:18446744073709551615<acc * 10+(c.toNat - 48)
   ·rw[if_pos h2];exact .inr rfl
   ·rw[if_neg h2];exact wH r _ λd hd'=>hd d (by simp[hd'])
theorem Uv {l:List UInt8}(hne:l≠[])(hd:V8 l):Lib.parseIntB 64 l=Lib.signlessC (2 ^ 63) (Lib.parseUintM 18446744073709551615 0 l):=by
 obtain⟨c,r,rfl⟩:=List.exists_cons_of_ne_nil hne;have hc:=hd c (by simp);rw[Lib.parseIntB_plain 64 c r (by omega) (by omega)];unfold Lib.parseUintB;rw[if_neg (by simp)]
theorem jbY {l:List UInt8}(hne:l≠[])(hd:V8 l)(h7:l.length<=7):Lib.parseIntB 64 l=.ok (Q1 (l.map UInt8.toNat):Int):=by
 have hle:10 ^ l.length<=10 ^ 7:=Nat.pow_le_pow_right (by decide) h7;have e7:10 ^ 7=10000000:=by decide
 rw[Uv hne hd,Uu l 0 hd (by omega)];have hv:=jfO (s:=l.map UInt8.toNat) (n:=l.length) (by simp) h7 (λc hc=>by
  obtain⟨b,hb,rfl⟩:=List.mem_map.1 hc;have:=hd b hb;unfold jE;simp;omega)
 show Lib.signlessC _ (.ok (Q1 (l.map UInt8.toNat)))=_;generalize Q1 (l.map UInt8.toNat)=v at hv;unfold Lib.signlessC;simp;omega
end Go.Sy
end
noncomputable section
set_option maxRecDepth 100000
namespace Go.Sy
open Go.Ev Go.Proofs
open Go.RowKit (Below)
theorem H4 {l:List UInt8}(hne:l≠[])(hd:V8 l):(∃ v,Lib.parseIntB 64 l=.ok v)\/Lib.parseIntB 64 l=.range:=by
 rw[Uv hne hd];rcases wH l 0 hd with ⟨u,h⟩|h
 ·rw[h];unfold Lib.signlessC;by_cases hu:2 ^ 63<=u
  ·right;simp only[if_pos hu]
  ·left;exact⟨u,by simp only[if_neg hu]⟩
 ·rw[h];exact .inr rfl
def gH (s:List Nat):Bool:=decide (s≠[]) && s.all jE
theorem gG (s:List Nat):gH s=true↔ZT s:=by
 unfold gH ZT;simp
def Yc:qd:=λf args st=>match args with
 |[]=>if f=5 then .ok (.bool true) st else .no
 |[.str s,.int .i64 a,.int .i64 b]=>if f=46/\a=10/\b=64/\gH s=true/\s.length<=281474976710656 then(if s.length<=7 then .ok (.tup [.int .i64 (Q1 s:Int),.nilif]) st else .ok (.tup [.bad,.bad]) st) else .no
 |_=>.no
theorem jgp (st:St):Yc 5 [] st=.ok (.bool true) st:=rfl
def Yd:Bs:=⟨Yc,H1⟩
theorem hX:PI Yd:=λs st hd hl=>by
 have e:Yc 46 [.str s,.int .i64 10,.int .i64 64] st=if(46=46/\(10:Int)=10/\(64:Int)=64/\gH s=true/\s.length<=281474976710656) then(if s.length<=7 then .ok (.tup [.int .i64 (Q1 s:Int),.nilif]) st else .ok (.tup [.bad,.bad]) st) else .no:=rfl
 simp only[show Yd.run=Yc from rfl];rw[e,if_pos ⟨rfl,rfl,rfl,(gG s).2 hd,hl⟩];exact⟨λh=>if_pos h,λh=>if_neg (by omega)⟩
theorem uG (f:FuncId)(args:List AV)(st:St):Yc f args st=.no\/(f=5/\args=[])\/(f=46/\∃ s,args=[.str s,.int .i64 10,.int .i64 64]/\ZT s/\s.length<=281474976710656):=by
 unfold Yc;split
 ·by_cases h:f=5
  ·exact .inr (.inl ⟨h,rfl⟩)
  ·exact .inl (if_neg h)
 ·rename_i s a b;by_cases h:f=46/\a=10/\b=64/\gH s=true/\s.length<=281474976710656
  ·obtain⟨h1,rfl,rfl,h4,h5⟩:=h;exact .inr (.inr ⟨h1,s,rfl,(gG s).1 h4,h5⟩)
  ·exact .inl (if_neg h)
 ·exact .inl rfl
theorem jew (f:FuncId)(args:List AV)(st:St)(h9:f≠5)(h31:f≠46):Yc f args st=.no:=by
 rcases uG f args st with h|⟨h,_⟩|⟨h,_⟩
 ·exact h
 ·exact absurd h h9
 ·exact absurd h h31
theorem Qr {ι:Inj}{st:St}{w w':World}(hs:Sim ι st.h st.nx w)(b:Below w.heap.size w w'):Sim ι st.h st.nx w'/\Grew ι w ι w':=by
 have gr:Grew ι w ι w':=⟨b.os,b.tape,b.output,b.size,λk hk _=>b.block k hk,λb B S e=>.inl ⟨b,S,e⟩,λB vs h=>.inl h⟩;exact⟨⟨λc B S e=>by
  obtain⟨o,x,h1,h2,h3⟩:=hs.obj c B S e;exact⟨o,x,h1,(b.block B (hs.lt e)).trans h2,h3⟩,hs.gone,hs.inj,hs.born,hs.glob.grew gr⟩,gr⟩
theorem jex:zt Qaf Yd.run:=by
 intro f args st ι w vs hs hv;simp only[show Yd.run=Yc from rfl];rcases uG f args st with h|⟨rfl,rfl⟩|⟨rfl,s,rfl,hd,hl⟩
 ·rw[h];trivial
 ·rw[jgp];have hvs:vs = #[]:=by
   have:vs.toList=[]:=by simpa[VRs] using hv
   simpa using this
  subst hvs;have hb:Tryd.f5.body.isSome=true:=by kernel_rfl
  obtain⟨c,hc⟩:=Option.isSome_iff_exists.1 hb;refine⟨(YF Z4 Tryd.func5 hc).2,Calls.mono (jdK Z4 (Hp Wm) jiM w ⟨⟨hs.glob.1.1,λb S e=>by cases e⟩,λB vs e=>by cases e⟩) λe w' ⟨he,hos,ht,ho,hsz,hk⟩=>⟨_,he,ι,Le.refl ι,?_,?_,?_,Cleanly.refl ι st⟩⟩
  ·simp only[VR]
  ·exact(Qr hs ⟨hos,ht,ho,hsz,hk⟩).1
  ·exact(Qr hs ⟨hos,ht,ho,hsz,hk⟩).2
 ·simp only[VRs,VR] at hv;obtain⟨v1,l1,e1,⟨bs,rfl,hbs⟩,v2,l2,rfl,rfl,v3,l3,rfl,rfl,rfl⟩:=hv;have hvs:vs = #[.string bs,.int .i64 10,.int .i64 64]:=by
   cases vs;simpa using e1
  subst hvs;have hlen:bs.data.toList.length=s.length:=by rw[<-hbs,QaU]
  have hsz:bs.size=s.length:=by rw[<-hlen,Qau];rfl
  have hne:bs.data.toList≠[]:=λh=>hd.1 (by rw[<-hbs,h];rfl);have hd8:V8 bs.data.toList:=λc hc=>by
   have:=hd.2 c.toNat (by rw[<-hbs];exact List.mem_map.2 ⟨c,hc,rfl⟩);unfold jE at this;simp at this;omega
  have hent:Ev.Enters Qaf 46:=by
   have hb:Tryd.f46.body.isSome=true:=by kernel_rfl
   obtain⟨c,hc⟩:=Option.isSome_iff_exists.1 hb;exact(YF Z4 Tryd.func46 hc).2
  have okc:∀ v,Lib.parseIntB 64 bs.data.toList=.ok v->Calls Qaf 46 #[.string bs,.int .i64 10,.int .i64 64] w λe w'=>e=.returned (.tuple #[.int .i64 v,.nilIface])/\Below w.heap.size w w':=λv h=>
   (Tryd.strconv_ParseInt_10_at64_ok bs (by omega) v h w).mono λe w' ⟨he,hw⟩=>⟨he,by
    rcases hw with rfl|⟨t,rfl⟩
    ·exact⟨rfl,rfl,rfl,Qag _,λ_ _=>rfl⟩
    ·exact Lib.bytesWorld_below w 5 t⟩
  have hP:=hX s st hd hl;simp only[show Yd.run=Yc from rfl] at hP;by_cases h7:s.length<=7
  ·rw[hP.1 h7];refine⟨hent,(okc _ (jbY hne hd8 (by omega))).mono λe w' ⟨he,hb⟩=>⟨_,he,ι,Le.refl ι,?_,(Qr hs hb).1,(Qr hs hb).2,Cleanly.refl ι st⟩⟩;rw[hbs];simp only[VR,VRs];exact⟨_,rfl,_,_,rfl,rfl,_,_,rfl,rfl,rfl⟩
  ·rw[hP.2 (by omega)];refine⟨hent,?_⟩;have fin:∀ (x y:Value) (w':World),Below w.heap.size w w'->zi ι w st st (.tup [.bad,.bad]) (.tuple #[x,y]) w':=λx y w' hb=>by
    refine⟨ι,Le.refl ι,?_,(Qr hs hb).1,(Qr hs hb).2,Cleanly.refl ι st⟩;simp only[VR,VRs];exact⟨_,rfl,_,_,rfl,trivial,_,_,rfl,trivial,rfl⟩
   rcases H4 hne hd8 with ⟨v,h⟩|h
   ·exact(okc v h).mono λe w' ⟨he,hb⟩=>⟨_,he,fin _ _ w' hb⟩
   ·obtain⟨te,pe,hg⟩:=hs.glob.1.1;exact(Tryd.strconv_ParseInt_10_at64_range bs (by omega) h _ w hg (.inr ⟨te,pe,rfl⟩)).mono λe w' ⟨N,he,_,_,hb⟩=>⟨_,he,fin _ _ w' hb⟩
end Go.Sy
end
noncomputable section
set_option maxRecDepth 100000
namespace Go.Sy
open Go.Ev Go.Proofs
theorem jgq (st:St):Yd.run 5 [] st=.ok (.bool true) st:=rfl
theorem jey:PI Yd:=hX
theorem jez:NB Yd:=⟨λf h args st=>jew f args st (by rintro rfl;simp[uY] at h) (by rintro rfl;simp[uY] at h),rfl⟩
theorem jcb {f:FuncId}{xs:List AV}{vs:Array Value}{w:World}(h:XB Qaf Yd f xs st0 (λv _=>v=.bool true) λ_ _=>False)(hg:∃ te pe,w.cell? ⟨1,0,none⟩=some (.iface te pe))(hv:VRs (frW w) xs vs.toList) :
  Calls Qaf f vs w λe w'=>e=.returned (.bool true)/\w'.os=w.os/\w'.tape=w.tape/\w'.output=w.output/\w.heap.size<=w'.heap.size/\∀ k,k<w.heap.size->w'.heap[k]? = w.heap[k]?:=by
 have h2:=CW.calls Z4 (Hp Wm) jex (K:=λv _=>v=.bool true) h.cb (jfX hg) hv;refine Calls.mono h2 λe w' ⟨v,x,st',he,hK,ι',_,hv,_,hg,_⟩=>?_;rw[hK] at hv;simp only[VR] at hv;rw[hv] at he;exact⟨he,hg.os,hg.tape,hg.output,hg.size,λk hk=>hg.keep k hk (λb S e=>by cases e)⟩
theorem joins_calls (s t:ByteArray)(hs:s.size<=9223372036854775807)(ht:t.size<=9223372036854775807)(w:World)(hg:∃ te pe,w.cell? ⟨1,0,none⟩=some (.iface te pe)) :
  Calls Qaf 4 #[.string s,.string t] w λe w'=>e=.returned (.bool true)/\w'.os=w.os/\w'.tape=w.tape/\w'.output=w.output/\w.heap.size<=w'.heap.size/\∀ k,k<w.heap.size->w'.heap[k]? = w.heap[k]?:=
 jcb (jgg jez jgq jey (s.data.toList.map UInt8.toNat) (t.data.toList.map UInt8.toNat)) hg ⟨.string s,[.string t],rfl,⟨s,rfl,rfl⟩,.string t,[],rfl,⟨t,rfl,rfl⟩,rfl⟩
end Go.Sy
end
