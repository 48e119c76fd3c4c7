/-
  Contracts: the code lowered, what it does told by rules, and the contracts of the functions that the law reaches.
-/
import Derived.Test.YtbpohnnpklbmeaaGreatDoorPsSyD
import Derived.Shelf.LaysC
import Derived.Shelf.Strconv.ParseIntPublic10
import Derived.Test.YtbpohnnpklbmeaaGreatDoorProg
set_option linter.unusedVariables false
set_option linter.unusedSimpArgs false
open Nat renaming reduceAdd → γ, reduceSub → δ, reduceMul → ε, reduceBEq → η, le_refl → φ, le_trans → ω, zero_add → Qab, zero_le → Qaf, le_max_left → Qak, le_max_right → Qal, lt_or_ge → Qar, lt_of_lt_of_le → Qas, le_of_eq → QaA, add_mul → QaC, sub_zero → QaH, not_lt_zero → QaM, succ_pos → QaR, mul_le_mul_right → QaT, add_zero → QaV, zero_mul → Qba, succ_mul → Qbb, succ_lt_succ → Qbc, min_eq_left → Qbd, one_mul → Qbe, mod_eq_of_lt → Qbh, le_of_lt → Qbl, lt_succ_self → Qbm, ne_of_lt → Qbp, add_assoc → Qbt, lt_irrefl → Qbx, lt_trichotomy → QbQ, pow_le_pow_right → QbX, beq → Qcb, succ → Qcc, ble → Qcd, add → Qce, mul → Qcf, sub → Qcg
open Int renaming reduceToNat → ζ, natCast_zero → κ, zero_add → μ, ofNat → Qaq, eq_ofNat_of_zero_le → Qbq, natCast_nonneg → QbA, toNat_natCast → QbL
open Go.Proofs.Tryz renaming prog → θ
open List renaming map_cons → ν, map_nil → ξ, getD_cons_zero → τ, getD_cons_succ → υ, length_cons → χ, length_nil → ψ, range' → Qaa, getD → Qac, range → Qae, length_append → Qag, all_eq_true → Qah, getElem?_eq_getElem → Qaj, getElem_mem → Qam, length_drop → Qan, cons → Qao, getD_eq_getElem?_getD → Qap, length_take → Qav, take_length → Qaw, cons_append → Qay, all_cons → Qaz, mem_cons → QaF, nil_append → QaG, length_map → QaN, drop_zero → QaO, map_map → QaP, eq_nil_of_length_eq_zero → QaQ, mem_append → QaU, map_congr_left → QaW, drop_drop → QaX, range'_succ → QaY, take_zero → Qbf, append_nil → Qbj, mem_range → Qbk, mem_cons_of_mem → Qbn, mem_singleton → Qbo, ext_getElem → Qbr, take_take → Qbs, getElem?_map → Qbv, map_toArray → Qbw, drop_take → Qbz, foldr_cons → QbB, all_append → QbD, take_succ_cons → QbG, getElem_cons_succ → QbH, length_pos_iff → QbI, getElem?_take → QbJ, getElem?_drop → QbK, getElem?_append_left → QbN, getElem?_append_right → QbO, foldl_append → QbR, mem_append_left → QbT, countP_singleton → QbU, drop_eq_getElem_cons → QbV, getElem_cons_zero → QbW, mem_cons_self → QbY
open Bool renaming and_eq_true → Qad, eq_iff_iff → Qax, eq_false_iff → QaB, or_eq_true → QaE, false_eq_true → QaI, not_eq_true' → QaL, true_and → QaZ, false_and → Qbg, true_eq_false → Qby, or_eq_false_iff → QbC
open Array renaming length_toList → Qai, getElem?_eq_some_iff → Qau, replicate → QaD, toList_map → Qbi, getD_eq_getD_getElem? → QbE, getElem?_toList → QbF, toList_append → QbP, mem_toList_iff → QbS, getElem?_eq_getElem → QbZ, getElem?_setIfInBounds_ne → Qca
open Option renaming map_some → Qat, getD_some → QaJ, bind_some → QaK, map_none → QaS, map_eq_some_iff → Qbu
open Function renaming comp_def → QbM
noncomputable section
set_option maxRecDepth 100000
namespace Go.Sy
open Go.Ev Go.Proofs
variable {base:Bs}
def prS:PR->SR Ex
 |.ok x j=>.ok x j
 |.er t=>.er t
def exA (x:Ex):AV:=.agg (eE x)
def He (base:Bs)(ts:List Tk)(n:Nat):Prop:=∀ i d r,yW ts n i d=some r->i<ts.length->d<=60->AnC base 155 (oC ts i d) [] ts d exA (prS r)
def UT (base:Bs)(ts:List Tk)(n:Nat):Prop:=∀ k i d r,ze ts n k i d=some r->i<ts.length->d<=60->k<=9->AnC base 131 (oC ts i d) [.int .i64 (k:Int)] ts d exA (prS r)
theorem VK {ts:List Tk}(W:Wds ts):∀ n,(∀ k i d x j,ze ts n k i d=some (.ok x j)->i<ts.length->i+1<=j/\j<ts.length)/\(∀ c k x i d y j,yj ts n c k x i d=some (.ok y j)->i<ts.length->i<=j/\j<ts.length)/\(∀ i d x j,yW ts n i d=some (.ok x j)->i<ts.length->i+1<=j/\j<ts.length)
 |0=>⟨λk i d x j h=>by simp[ze] at h,λc k x i d y j h=>by simp[yj] at h,λi d x j h=>by simp[yW] at h⟩
 |n+1=>by
  obtain⟨h1,h2,h3⟩:=VK W n;refine⟨λk i d x j h hi=>?_,λc k x i d y j h hi=>?_,λi d x j h hi=>?_⟩
  ·unfold ze at h;cases he:yW ts n i d with
   |none=>rw[he] at h;cases h
   |some q=>cases q with
    |er t=>rw[he] at h;cases h
    |ok x0 j0=>
     rw[he] at h;have a:=h3 _ _ _ _ he hi;have b:=h2 _ _ _ _ _ _ _ h a.2;omega
  ·unfold yj at h;split at h
   ·cases h;exact⟨φ _,hi⟩
   ·rename_i hc;have hl:=(vO (t:=tk ts i) om).2.2;have hi1:=W.isM hi hl;cases he:ze ts n (if jY (tk ts i)=2\/jY (tk ts i)=5 then jY (tk ts i) else jY (tk ts i)+1) (i+1) d with
    |none=>rw[he] at h;cases h
    |some q=>cases q with
     |er t=>rw[he] at h;cases h
     |ok x0 j0=>
      rw[he] at h;have a:=h1 _ _ _ _ _ he hi1;have b:=h2 _ _ _ _ _ _ _ h a.2;omega
  ·unfold yW at h;split at h
   ·rename_i hp;have hi1:=W.isM hi hp;split at h
    ·cases h
    ·cases he:yW ts n (i+1) (d+1) with
     |none=>rw[he] at h;cases h
     |some q=>cases q with
      |er t=>rw[he] at h;cases h
      |ok x0 j0=>
       rw[he] at h;cases h;have a:=h3 _ _ _ _ he hi1;omega
   ·split at h
    ·rename_i hp;have hi1:=W.isM hi hp;split at h
     ·cases h
     ·cases he:ze ts n 1 (i+1) (d+1) with
      |none=>rw[he] at h;cases h
      |some q=>cases q with
       |er t=>rw[he] at h;cases h
       |ok x0 j0=>
        rw[he] at h;dsimp only at h;have a:=h1 _ _ _ _ _ he hi1;split at h
        ·rename_i hq;cases h;have:=W.isM a.2 hq;omega
        ·cases h
    ·split at h
     ·rename_i k2;cases h;exact⟨φ _,W.next i hi om⟩
     ·split at h
      ·rename_i k1;cases h;exact⟨φ _,W.next i hi om⟩
      ·split at h
       ·rename_i hq;cases h;exact⟨φ _,W.isM hi hq⟩
       ·split at h
        ·rename_i hq;cases h;exact⟨φ _,W.isM hi hq⟩
        ·cases h
theorem AnC.at {α:Type}{f:FuncId}{c xs:List AV}{ts:List Tk}{d:Nat}{enc:α->AV}{r:SR α}(h:AnC base f c xs ts d enc r)(hp:xs.all pa=true)(hb:∀ p st,base.run f (.ptr p 0 :: xs) st=.no) :
  (∃ y q a l e,At base f c xs (.ok (enc y)) (rC ts q a l e d)/\((∃ j,r=.ok y j/\rC ts q a l e d=oC ts j d)\/(∃ t,r=.er t/\rC ts q a l e d=fC ts t d))):=by
 cases r with
 |ok y j=>
  have h:PM _ _ _ _ _ _ _:=h;exact⟨y,j,0,0,0,λst p C K Kp=>h.xb C hp (hb _) K Kp,.inl ⟨j,rfl,rfl⟩⟩
 |er t=>
  obtain⟨y,h⟩:=h;exact⟨y,_,_,_,_,λst p C K Kp=>h.xb C hp (hb _) K Kp,.inr ⟨t,rfl,rfl⟩⟩
theorem jjc (t:Tk):opB t<=30:=by
 unfold opB;cases h:(Qae 17).find? λi=>jX t (sgn ((14+i:Nat):Int)) with
 |none=>exact Qaf _
 |some i=>
  have:=Qbk.1 (List.mem_of_find?_eq_some h);show 14+i<=30;omega
def jg1 (ts:List Tk)(n k d:Nat)(r:PR)(mm:Nat)(L:Sl)(s:St):Prop:=
 3<=s.nx/\Cl s 1 [.int .i64 0,.int .i64 0,.str [],.nils,.int .i64 0,.int .i64 0]/\(Has L 0 (.ptr 0 0)/\Has L 1 (.int .i64 (k:Int))/\Has L 4 (.ptr 1 0)/\Has L 5 (.ptr 2 0))/\∃ cs:List AV,cs.length=6/\lall AV.cell cs=true/\Cl s 2 cs /\
  ((∃ m c x i',mm=m+1/\(m<=n/\d<=60)/\yj ts m c k x i' d=some r/\i'<ts.length/\c<=8/\Cl s 0 (oC ts i' d)/\Has L 6 (.int .i64 (c:Int))/\Fr s.nx (i'+1) s cs (eE x)) \/
   (∃ t y,r=.er t/\Cl s 0 (fC ts t d)/\Fr s.nx (ts.length+1) s cs (eE y)))
theorem hX {ts:List Tk}{d:Nat}{r:PR}{q:Nat}{a l e:Int}{s s':St}{cs:List AV}{hi D:Nat}{y:Ex}(C:Cl s' 0 (rC ts q a l e d))(F:Fr hi D s cs (eE y))(hD:D<=9000008)(k:∀ b,3<=b->b<hi->jr s'.h b=jr s.h b)
  (h:(∃ j,r=.ok y j/\rC ts q a l e d=oC ts j d)\/(∃ t,r=.er t/\rC ts q a l e d=fC ts t d)):SC ts d exA (prS r) (.agg cs) s':=by
 have F2:=(F.keep (φ _) (φ _) k).fzd (d:=9000008) hD;rcases h with ⟨j,rfl,e⟩|⟨t,rfl,e⟩
 ·rw[e] at C;exact G1.done C rfl rfl F2
 ·rw[e] at C;exact⟨y,G1.done C rfl rfl F2⟩
theorem jc9 {ts:List Tk}{n k d:Nat}{r:PR}{m c:Nat}{x y:Ex}{i':Nat}{cs:List AV}{s s':St}{L':Sl}{op line col:Int}{q:Nat}{a l e:Int}(hm:m<=n)(hd:d<=60)(hl:cs.length=6)(F:Fr s.nx (i'+1) s cs (eE x))(n0:3<=s.nx)(hi':i'<ts.length)
  (next:(∃ j,rC ts q a l e d=oC ts j d/\yj ts m c k (.mk op 0 [] [x,y] line col) j d=some r/\i'+2<=j/\j<ts.length)\/∃ t,rC ts q a l e d=fC ts t d/\r=.er t) (hc:c<=8)
  (C0:Cl s' 0 (rC ts q a l e d)) (C1:Cl s' 1 [.int .i64 0,.int .i64 0,.str [],.nils,.int .i64 0,.int .i64 0]) (C2:Cl s' 2 [.int .i64 op,.int .i64 0,.str [],.slice (s.nx+1+1) 0 2 2 6 true,.int .i64 line,.int .i64 col]) (C3:Cl s' (s.nx+1+1) (cs ++ eE y))
  (hnx:s'.nx=s.nx+3) (hk:∀ b,3<=b->b<s.nx->jr s'.h b=jr s.h b) (H:Has L' 0 (.ptr 0 0)/\Has L' 1 (.int .i64 (k:Int))/\Has L' 4 (.ptr 1 0)/\Has L' 5 (.ptr 2 0)) (H6:Has L' 6 (.int .i64 (c:Int))) :
  ∃ mm,mm<m+1+1/\jg1 ts n k d r mm L' s':=by
 have F2:=(F.keep (φ _) (φ _) hk).two (b:=s.nx+1+1) (y:=y) (op:=op) (num:=0) (l:=line) (c:=col) (nm:=[]) (ex:=true) hl C3 om om;have F3:Fr s'.nx (i'+2) s' _ _:=F2.keep om (φ _) λ_ _ _=>rfl;rcases next with ⟨j,e1,e2,e3,e4⟩|⟨t,e1,rfl⟩
 ·exact⟨m+1,om,om,C1,H,_,rfl,rfl,C2,.inl ⟨m,c,_,j,rfl,⟨hm,hd⟩,e2,e4,hc,e1▸C0,H6,F3.keep (φ _) om λ_ _ _=>rfl⟩⟩
 ·exact⟨0,om,om,C1,H,_,rfl,rfl,C2,.inr ⟨t,_,rfl,e1▸C0,F3.keep (φ _) om λ_ _ _=>rfl⟩⟩
set_option maxHeartbeats 4000000 in
theorem jdy (hb:NB base){ts:List Tk}(W:Wds ts)(hn:ts≠[])(O:∀ i,i<ts.length->yN (tk ts i)){n:Nat}(ihE:∀ m,m<=n->UT base ts m){k d:Nat}{r:PR}(hk:k<=9){i0 qi:Nat}{a0 l0 e0 a l e:Int}{y0:Ex}
  (E:At base 155 (rC ts i0 a0 l0 e0 d) [] (.ok (.agg (eE y0))) (rC ts qi a l e d)) (start:(∃ j,d<=60/\rC ts qi a l e d=oC ts j d/\yj ts n 8 k y0 j d=some r/\j<ts.length)\/(∃ t,rC ts qi a l e d=fC ts t d/\r=.er t)) :
  AnC base 131 (rC ts i0 a0 l0 e0 d) [.int .i64 (k:Int)] ts d exA (prS r):=by
 have wl:=W.len;refine Zs jk6 (by rfl) (hb.pur 131 3 dc) ?_;simp only[jii,jn,ν,ξ,τ,υ];rw[(by unfold jek;simp only[qq];rfl:jek=_)];have E:∀ st p,Cl st p (rC ts i0 a0 l0 e0 d)->∀ K Kp,XB θ base 155 [.ptr p 0] st K Kp=K (.agg (eE y0)) (wr st p 0 (rC ts qi a l e d)):=E;unfold rC at E;have er:rC ts i0 a0 l0 e0 d=[.lst ts.length (fl Tk.cells ts),.int .i64 (i0:Int),.int .i64 a0,.int .i64 l0,.int .i64 e0,.int .i64 (d:Int)]:=rfl;rw[er];repeat'(first|apply jd<;>intro _|simp(disch:=first|exact dzD|fail) only[E,r6,γ,δ,ε,ζ,η])
 refine yF λu hu=>?_;have n0:u.nx=3:=by rw[hu];rfl
 have C0:Cl u 0 (rC ts qi a l e d):=by
  rw[hu];unfold rC
  (first|exact cyD|fail)
 have C1:Cl u 1 [.int .i64 0,.int .i64 0,.str [],.nils,.int .i64 0,.int .i64 0]:=by
  rw[hu]
  (first|exact cyD|fail)
 have C2:Cl u 2 (eE y0):=by
  rw[hu]
  (first|exact cyD|fail)
 clear hu E;refine qB (jg1 ts n k d r) ?_ (n+1) ?_
 ·clear C0 C1 C2 n0 u start;rintro mm L s ⟨n0,C1,⟨i0,i1,i4,i5⟩,cs,hl,hc,C2,hA⟩;have L1:=C1.lt;have L2:=C2.lt;have R2:rats s.h 2 0 6=cs:=(C2.ratsP 6 0 om).trans (by rw[QaO,<-hl,Qaw]);have l2:=C2.len;rw[hl] at l2;rcases hA with ⟨m,c,x,i',rfl,⟨hm,hd⟩,hlo,hi',hc8,C0,i6,F⟩|⟨t,y,rfl,C0,F⟩
  ·have L0:=C0.lt;cases m with
   |zero=>simp[yj] at hlo
   |succ m=>
   unfold yj at hlo;have FO:=λst p=>@qP base hb ts i' d st p;have BO:=λst p=>@jdT base hb ts i' d hi' st p;have BT:=jhQ hb (opB (tk ts i')) (jjc _);by_cases hst:jY (tk ts i')=0\/jY (tk ts i')<k\/c<jY (tk ts i')
   ·rw[if_pos hst] at hlo;cases hlo;have fin:=λs' (C:Cl s' 0 (oC ts i' d)) hk=>@hX ts d (.ok x i') i' 0 0 0 s s' cs _ _ x C F om hk (.inl ⟨i',rfl,rfl⟩);unfold oC rC at *;rcases jc0 (O i' hi') with ⟨l0,ob⟩|⟨idx,hidx,hop,ob,lv,l1,l8⟩
    ·rw[ob] at BO BT
     (have zz:=aI @hl (aI @R2 (aI @l2 (aI C0.r C1.r)));(repeat'(first|apply jd<;>intro _|simp(disch:=first|exact jK|fail) only[ja i0,ja i1,ja i4,ja i5,ja i6,FO,BO,BT,R2,C0.q,C1.q,hl,R2,l2,C0.r,C1.r,r6,γ,δ,ε,ζ,η]));all_goals clear zz)
     exact fin _ (by(have zz:=aI C0.q (aI C1.q (aI @hl (aI C0.r C1.r)));first|exact ju|fail)) (λb h1 h2=>by simp(disch:=first|omega|(simp only[jf,je];omega)) only[z8,y8,za])
    ·have hz:¬ ((opB (tk ts i'):Nat):Int)=0:=om
     rw[ob,<-lv,<-ob] at BT;by_cases hk1:jY (tk ts i')<k
     ·have hk1':((jY (tk ts i'):Nat):Int)<(k:Int):=om
      (have zz:=aI @hl (aI @R2 (aI @l2 (aI C0.r C1.r)));(repeat'(first|apply jd<;>intro _|simp(disch:=first|exact jK|fail) only[ja i0,ja i1,ja i4,ja i5,ja i6,FO,BO,BT,hz,hk1',R2,C0.q,C1.q,hl,R2,l2,C0.r,C1.r,r6,γ,δ,ε,ζ,η]));all_goals clear zz)
      exact fin _ (by(have zz:=aI C0.q (aI C1.q (aI @hl (aI C0.r C1.r)));first|exact ju|fail)) (λb h1 h2=>by simp(disch:=first|omega|(simp only[jf,je];omega)) only[z8,y8,za])
     ·have hk1':¬ ((jY (tk ts i'):Nat):Int)<(k:Int):=om
      have hk2':(c:Int)<((jY (tk ts i'):Nat):Int):=om
      (have zz:=aI @hl (aI @R2 (aI @l2 (aI C0.r C1.r)));(repeat'(first|apply jd<;>intro _|simp(disch:=first|exact jK|fail) only[ja i0,ja i1,ja i4,ja i5,ja i6,FO,BO,BT,hz,hk1',hk2',R2,C0.q,C1.q,hl,R2,l2,C0.r,C1.r,r6,γ,δ,ε,ζ,η]));all_goals clear zz)
      exact fin _ (by(have zz:=aI C0.q (aI C1.q (aI @hl (aI C0.r C1.r)));first|exact ju|fail)) (λb h1 h2=>by simp(disch:=first|omega|(simp only[jf,je];omega)) only[z8,y8,za])
   ·rw[if_neg hst] at hlo;rcases jc0 (O i' hi') with ⟨l0,_⟩|⟨idx,hidx,hop,ob,lv,l1,l8⟩
    ·exact absurd (.inl l0) hst
    have hz:¬ ((opB (tk ts i'):Nat):Int)=0:=om
    rw[ob,<-lv,<-ob] at BT;have hi1:=W.isM hi' (vO (t:=tk ts i') om).2.2;have NO:=λst p=>@X3 base hb ts i' hi' d st p;have hx:=zq i';have hk1':¬ ((jY (tk ts i'):Nat):Int)<(k:Int):=om
    have hk2':¬ (c:Int)<((jY (tk ts i'):Nat):Int):=om
    generalize jY (tk ts i')=b at *;have hb1:=zq b;obtain⟨q1,hq1⟩:∃ q1,ze ts m (if b=2\/b=5 then b else b+1) (i'+1) d=some q1:=by
     cases he:ze ts m (if b=2\/b=5 then b else b+1) (i'+1) d with
     |none=>rw[he] at hlo;cases hlo
     |some q=>exact⟨q,rfl⟩
    obtain⟨y1,qj,a1,l1',e1,E1,hE1⟩:=(ihE m om _ _ _ _ hq1 hi1 hd (by split<;>omega)).at rfl λ_ _=>hb.no 131 dc _ _;have tw:yp (tk ts i') x y1=.mk ((opB (tk ts i'):Nat):Int) 0 [] [x,y1] (tk ts i').line (tk ts i').col:=by unfold yp;rw[hop,ob]
    have next:(∃ j,rC ts qj a1 l1' e1 d=oC ts j d/\yj ts m (if b=6 then 5 else b) k (.mk ((opB (tk ts i'):Nat):Int) 0 [] [x,y1] (tk ts i').line (tk ts i').col) j d=some r/\i'+2<=j/\j<ts.length)\/∃ t,rC ts qj a1 l1' e1 d=fC ts t d/\r=.er t:=by
     rw[hq1] at hlo;cases q1 with
     |ok x2 j2=>
      rcases hE1 with ⟨j',e1,e2⟩|⟨t,e1,_⟩
      ·cases e1;have hj:=(VK W m).1 _ _ _ _ _ hq1 hi1;exact .inl ⟨j2,e2,tw▸hlo,om,hj.2⟩
      ·cases e1
     |er t=>
      rcases hE1 with ⟨j',e1,e2⟩|⟨t',e1,e2⟩
      ·cases e1
      ·cases e1;cases hlo;exact .inr ⟨t,e2,rfl⟩
    clear hE1 hlo hq1 tw;have nxt:=λs' L'=>@jc9 ts n k d r m (if b=6 then 5 else b) x y1 i' cs s s' L' _ _ _ qj a1 l1' e1 om hd hl F n0 hi' next (by split<;>omega)
    clear next F hst
    unfold exA oC rC at *;have h4:(b=2)\/(b=5)\/(b=6)\/(b≠2/\b≠5/\b≠6):=om
    rcases h4 with h4|h4|h4|h4
    ·have f2:((b:Int)=2)=True:=eq_true om;have f5:((b:Int)=5)=False:=eq_false om;have f6:((b:Int)=6)=False:=eq_false om;rw[if_pos (.inl h4)] at E1;rw[if_neg om] at nxt;clear h4
     (have zz:=aI @hl (aI @R2 (aI @l2 (aI @hc (aI C0.r C1.r))));(repeat'(first|apply jd<;>intro _|simp(disch:=first|exact jK|fail) only[ja i0,ja i1,ja i4,ja i5,ja i6,FO,BO,BT,hz,hk1',hk2',NO,hx,hb1,f2,f5,f6,E1,↓uq,R2,C0.q,C1.q,hl,R2,l2,hc,C0.r,C1.r,r6,γ,δ,ε,ζ,η]));all_goals clear zz)
     refine nxt _ _ (by(have zz:=aI C0.q (aI C1.q (aI @hl (aI C0.r C1.r)));first|exact ju|fail)) (by(have zz:=aI C0.q (aI C1.q (aI @hl (aI C0.r C1.r)));first|exact ju|fail)) (Cl.wr0 (c:=cs) ?_ (by rw[hl];rfl)) ?_ (by simp only[jf,je]) (λb h1 h2=>by simp(disch:=first|omega|(simp only[jf,je];omega)) only[z8,y8,za]) ?_ ?_
     ·simp(disch:=first|omega|(simp only[jf,je];omega)) only[jv,jA];exact C2
     ·rw[jv om];have:∀ X:St,X.nx=s.nx+1+1->Cl (nw X (cs ++ eE y1)) (s.nx+1+1) (cs ++ eE y1):=λX h=>h▸Cl.new X _;exact this _ (by simp only[jf,je])
     ·simp(disch:=decide) only[h12,i0,i1,i4,i5]
     ·simp(disch:=decide) only[h12]
    ·have f2:((b:Int)=2)=False:=eq_false om;have f5:((b:Int)=5)=True:=eq_true om;have f6:((b:Int)=6)=False:=eq_false om;rw[if_pos (.inr h4)] at E1;rw[if_neg om] at nxt;clear h4
     (have zz:=aI @hl (aI @R2 (aI @l2 (aI @hc (aI C0.r C1.r))));(repeat'(first|apply jd<;>intro _|simp(disch:=first|exact jK|fail) only[ja i0,ja i1,ja i4,ja i5,ja i6,FO,BO,BT,hz,hk1',hk2',NO,hx,hb1,f2,f5,f6,E1,↓uq,R2,C0.q,C1.q,hl,R2,l2,hc,C0.r,C1.r,r6,γ,δ,ε,ζ,η]));all_goals clear zz)
     refine nxt _ _ (by(have zz:=aI C0.q (aI C1.q (aI @hl (aI C0.r C1.r)));first|exact ju|fail)) (by(have zz:=aI C0.q (aI C1.q (aI @hl (aI C0.r C1.r)));first|exact ju|fail)) (Cl.wr0 (c:=cs) ?_ (by rw[hl];rfl)) ?_ (by simp only[jf,je]) (λb h1 h2=>by simp(disch:=first|omega|(simp only[jf,je];omega)) only[z8,y8,za]) ?_ ?_
     ·simp(disch:=first|omega|(simp only[jf,je];omega)) only[jv,jA];exact C2
     ·rw[jv om];have:∀ X:St,X.nx=s.nx+1+1->Cl (nw X (cs ++ eE y1)) (s.nx+1+1) (cs ++ eE y1):=λX h=>h▸Cl.new X _;exact this _ (by simp only[jf,je])
     ·simp(disch:=decide) only[h12,i0,i1,i4,i5]
     ·simp(disch:=decide) only[h12]
    ·have f2:((b:Int)=2)=False:=eq_false om;have f5:((b:Int)=5)=False:=eq_false om;have f6:((b:Int)=6)=True:=eq_true om;rw[if_neg om] at E1;rw[if_pos h4] at nxt;clear h4
     (have zz:=aI @hl (aI @R2 (aI @l2 (aI @hc (aI C0.r C1.r))));(repeat'(first|apply jd<;>intro _|simp(disch:=first|exact jK|fail) only[ja i0,ja i1,ja i4,ja i5,ja i6,FO,BO,BT,hz,hk1',hk2',NO,hx,hb1,f2,f5,f6,E1,↓uq,R2,C0.q,C1.q,hl,R2,l2,hc,C0.r,C1.r,r6,γ,δ,ε,ζ,η]));all_goals clear zz)
     refine nxt _ _ (by(have zz:=aI C0.q (aI C1.q (aI @hl (aI C0.r C1.r)));first|exact ju|fail)) (by(have zz:=aI C0.q (aI C1.q (aI @hl (aI C0.r C1.r)));first|exact ju|fail)) (Cl.wr0 (c:=cs) ?_ (by rw[hl];rfl)) ?_ (by simp only[jf,je]) (λb h1 h2=>by simp(disch:=first|omega|(simp only[jf,je];omega)) only[z8,y8,za]) ?_ ?_
     ·simp(disch:=first|omega|(simp only[jf,je];omega)) only[jv,jA];exact C2
     ·rw[jv om];have:∀ X:St,X.nx=s.nx+1+1->Cl (nw X (cs ++ eE y1)) (s.nx+1+1) (cs ++ eE y1):=λX h=>h▸Cl.new X _;exact this _ (by simp only[jf,je])
     ·simp(disch:=decide) only[h12,i0,i1,i4,i5]
     ·rw[show((5:Nat):Int)=5 from rfl];simp(disch:=decide) only[h12]
    ·have f2:((b:Int)=2)=False:=eq_false om;have f5:((b:Int)=5)=False:=eq_false om;have f6:((b:Int)=6)=False:=eq_false om;rw[if_neg om] at E1;rw[if_neg h4.2.2] at nxt;clear h4
     (have zz:=aI @hl (aI @R2 (aI @l2 (aI @hc (aI C0.r C1.r))));(repeat'(first|apply jd<;>intro _|simp(disch:=first|exact jK|fail) only[ja i0,ja i1,ja i4,ja i5,ja i6,FO,BO,BT,hz,hk1',hk2',NO,hx,hb1,f2,f5,f6,E1,↓uq,R2,C0.q,C1.q,hl,R2,l2,hc,C0.r,C1.r,r6,γ,δ,ε,ζ,η]));all_goals clear zz)
     refine nxt _ _ (by(have zz:=aI C0.q (aI C1.q (aI @hl (aI C0.r C1.r)));first|exact ju|fail)) (by(have zz:=aI C0.q (aI C1.q (aI @hl (aI C0.r C1.r)));first|exact ju|fail)) (Cl.wr0 (c:=cs) ?_ (by rw[hl];rfl)) ?_ (by simp only[jf,je]) (λb h1 h2=>by simp(disch:=first|omega|(simp only[jf,je];omega)) only[z8,y8,za]) ?_ ?_
     ·simp(disch:=first|omega|(simp only[jf,je];omega)) only[jv,jA];exact C2
     ·rw[jv om];have:∀ X:St,X.nx=s.nx+1+1->Cl (nw X (cs ++ eE y1)) (s.nx+1+1) (cs ++ eE y1):=λX h=>h▸Cl.new X _;exact this _ (by simp only[jf,je])
     ·simp(disch:=decide) only[h12,i0,i1,i4,i5]
     ·simp(disch:=decide) only[h12]
  ·have L0:=C0.lt;have FF:=λst p=>@yB base hb ts t d st p;have fin:=λs' (C:Cl s' 0 (fC ts t d)) hk=>@hX ts d (.er t) _ _ _ _ s s' cs _ _ y C F om hk (.inr ⟨t,rfl,rfl⟩);unfold fC rC at *
   (have zz:=aI @hl (aI @R2 (aI @l2 (aI C0.r C1.r)));(repeat'(first|apply jd<;>intro _|simp(disch:=first|exact jK|fail) only[ja i0,ja i1,ja i4,ja i5,FF,R2,C0.q,C1.q,hl,R2,l2,C0.r,C1.r,r6,γ,δ,ε,ζ,η]));all_goals clear zz)
   exact fin _ (by(have zz:=aI C0.q (aI C1.q (aI @hl (aI C0.r C1.r)));first|exact ju|fail)) (λb h1 h2=>by simp(disch:=first|omega|(simp only[jf,je];omega)) only[z8,y8,za])
 ·rcases start with ⟨j,hd,e1,e2,e3⟩|⟨t,e1,rfl⟩
  ·refine⟨QaA n0.symm,C1,?_,eE y0,Jr y0,UM y0,C2,.inl ⟨n,8,y0,j,rfl,⟨φ _,hd⟩,e2,e3,φ _,e1▸C0,?_,Fr.pc (Jc y0)⟩⟩
   ·simp(disch:=decide) only[h12]
   ·rw[show((8:Nat):Int)=8 from rfl];simp(disch:=decide) only[h12]
  ·refine⟨QaA n0.symm,C1,?_,eE y0,Jr y0,UM y0,C2,.inr ⟨t,y0,rfl,e1▸C0,Fr.pc (Jc y0)⟩⟩;simp(disch:=decide) only[h12]
theorem jjz (hb:NB base){ts:List Tk}(W:Wds ts)(hn:ts≠[])(O:∀ i,i<ts.length->yN (tk ts i)){n:Nat}(ihV:He base ts n)(ihE:∀ m,m<=n->UT base ts m):UT base ts (n+1):=by
 intro k i d r h hi hd hk;unfold ze at h;obtain⟨q0,hq0⟩:∃ q0,yW ts n i d=some q0:=by
  cases he:yW ts n i d with
  |none=>rw[he] at h;cases h
  |some q=>exact⟨q,rfl⟩
 obtain⟨y0,qi,a,l,e,E,hE⟩:=(ihV _ _ _ hq0 hi hd).at rfl λ_ _=>hb.no 155 dc _ _;refine jdy hb W hn O ihE hk E ?_;rw[hq0] at h;cases q0 with
 |ok x j=>
  rcases hE with ⟨j',e1,e2⟩|⟨t,e1,_⟩
  ·cases e1;exact .inl ⟨j,hd,e2,h,((VK W n).2.2 _ _ _ _ hq0 hi).2⟩
  ·cases e1
 |er t=>
  rcases hE with ⟨j',e1,e2⟩|⟨t',e1,e2⟩
  ·cases e1
  ·cases e1;cases h;exact .inr ⟨t,e2,rfl⟩
end Go.Sy
end
noncomputable section
set_option maxRecDepth 100000
namespace Go.Sy
open Go.Ev Go.Proofs
variable {base:Bs}
theorem Met.at {f:FuncId}{c xs:List AV}{o:Oc}{c':List AV}(h:Met θ base f c xs o c'):At base f c xs o c':=λ_ _ C K Kp=>h C K Kp
theorem jfY (hb:NB base){ts:List Tk}(W:Wds ts)(hn:ts≠[]):AnF base 155 [] ts exA:=by
 intro t d hd;have wl:=W.len;have hl:=W.last hn;refine⟨_,jfX hb (i:=ts.length - 1) om wl hd (λj _=>YO hl.2 _) (.non (YO hl.2 _) om om (YO hl.2 _) (YO hl.2 _) (Met.at (Gx hb W hn d t _)))⟩
theorem jjB (hb:NB base){ts:List Tk}(W:Wds ts)(hn:ts≠[])(O:∀ i,i<ts.length->yN (tk ts i)){k:Nat}(hk:k<=9){t:Tk}{d:Nat}(hd:d<=1000000):∃ y,PM θ base 131 (fC ts t d) [.int .i64 (k:Int)] (.ok (exA y)) (fC ts t d):=by
 obtain⟨y,A⟩:=jfY hb W hn t d hd;have E:At base 155 (fC ts t d) [] (.ok (.agg (eE y))) (fC ts t d):=λst p C K Kp=>A.xb C rfl (λst=>hb.no 155 dc _ _) K Kp;exact jdy hb W hn O (n:=0) (r:=.er t) (λm hm k i d r h=>by
  obtain rfl:m=0:=om
  simp[ze] at h) hk E (.inr ⟨t,rfl,rfl⟩)
theorem je3 {t:Tk}(h:yN t)(hp:isM t qT=true):qT.idxOf t.text<9/\jX t (sgn ((5+qT.idxOf t.text:Nat):Int))=true/\∀ j,j<qT.idxOf t.text->jX t (sgn ((5+j:Nat):Int))=false:=by
 obtain⟨k,m⟩:=q9 hp;obtain⟨x1,x2,x3⟩:=H5 m;refine⟨x1,?_,λj hj=>?_⟩
 ·unfold jX;rw[x2,decide_eq_true rfl,decide_eq_true (p:=t.kind≠1) om,decide_eq_true (p:=t.kind≠5) om];rfl
 ·unfold jX;rw[decide_eq_false λh=>x3 j hj h.symm,Qbg,Qbg]
theorem je4 {t:Tk}(h:yN t)(hp:isM t qT=false):∀ j,j<9->jX t (sgn ((5+j:Nat):Int))=false:=by
 intro j hj;refine QaB.2 λhs=>?_;have hx:∀ j,j<9->∃ x r,sgn ((5+j:Nat):Int)=x :: r/\jy x=false/\x :: r∈qT:=by
  intro j hj;rw[Uq j hj]
  match j,hj with
  |0,_|1,_|2,_|3,_|4,_|5,_|6,_|7,_|8,_=>exact⟨_,_,rfl,dc,dc⟩
 obtain⟨x,r,e,hd,hm⟩:=hx j hj;rw[e,qV h hd] at hs;have k:=q9 hs;have:isM t qT=true:=by
  unfold isM;rw[decide_eq_true k.1,QaZ,decide_eq_true_eq,Qbo.1 k.2];exact hm
 rw[hp] at this;cases this
theorem jkc (hb:NB base){ts:List Tk}(W:Wds ts)(hn:ts≠[])(O:∀ i,i<ts.length->yN (tk ts i)){n:Nat}(ihV:He base ts n)(ihE:UT base ts n):He base ts (n+1):=by
 intro i d r h hi hd;have wl:=W.len;unfold yW at h;have wx:∀ {i'} (hi':i'<ts.length),(60<d+1->At base 178 (oC ts i' d) [] (.ok (.tup [])) (fC ts (tk ts i') (d+1)))/\(¬ 60<d+1->At base 178 (oC ts i' d) [] (.ok (.tup [])) (oC ts i' (d+1))):=λ{i'} hi'=>⟨λh st p C K Kp=>by rw[gt hb W hn hi' om C];exact X5 (decide_eq_true h),λh st p C K Kp=>by rw[gt hb W hn hi' om C];exact X6 (by rw[decide_eq_true_eq];exact h)⟩;by_cases c1:isM (tk ts i) qT=true
 ·rw[if_pos c1] at h;have hi1:=W.isM hi c1;obtain⟨p1,p2,p3⟩:=je3 (O i hi) c1;by_cases h60:60<d+1
  ·rw[if_pos h60] at h;cases h;obtain⟨y,A⟩:=jfY hb W hn (tk ts (i+1)) (d+1) om;exact⟨_,ja5 hb hi wl hd _ (by have:=(W.last hn).1;omega) p1 p2 p3 ((wx hi1).1 h60) λst p C K Kp=>A.xb C rfl (λst=>hb.no 155 dc _ _) K Kp⟩
  ·rw[if_neg h60] at h;cases he:yW ts n (i+1) (d+1) with
   |none=>rw[he] at h;cases h
   |some q=>
    have A:=ihV _ _ _ he hi1 om;cases q with
    |er t=>
     rw[he] at h;cases h;obtain⟨y,A⟩:=A;exact⟨_,ja5 hb hi wl hd _ (by have:=(W.last hn).1;omega) p1 p2 p3 ((wx hi1).2 h60) λst p C K Kp=>A.xb C rfl (λst=>hb.no 155 dc _ _) K Kp⟩
    |ok x j=>
     rw[he] at h;cases h;have hj:=(VK W n).2.2 _ _ _ _ he hi1;have A:PM _ _ _ _ _ _ _:=A;exact ja5 hb hi wl hd j hj.2 p1 p2 p3 ((wx hi1).2 h60) λst p C K Kp=>A.xb C rfl (λst=>hb.no 155 dc _ _) K Kp
 ·rw[if_neg c1] at h;have pn:=je4 (O i hi) (QaB.2 c1);have s40:jX (tk ts i) [40]=isM (tk ts i) [[40]]:=qV (O i hi) dc;have sT:jX (tk ts i) [116,114,117,101]=isM (tk ts i) [[116,114,117,101]]:=qV (O i hi) dc;have sF:jX (tk ts i) [102,97,108,115,101]=isM (tk ts i) [[102,97,108,115,101]]:=qV (O i hi) dc;have V:=λ{y:Ex} {c':List AV} (H:ValN base ts i 0 0 0 d y c')=>jfX hb hi wl om pn H;by_cases hq:isM (tk ts i) [[40]]=true
  ·rw[if_pos hq] at h;rw[hq] at s40;have hi1:=W.isM hi hq;have e1:((d:Int)+1)=((d+1:Nat):Int):=zq d;have mf:∀ t,At base 87 (fC ts t d) [.str [41]] (.ok (.tup [])) (fC ts t d):=λt=>Met.at (zU hb W hn t d [41]);by_cases h60:60<d+1
   ·rw[if_pos h60] at h;cases h;obtain⟨y,A⟩:=jjB hb W hn O (k:=1) dc (t:=tk ts (i+1)) (d:=d+1) om;exact⟨_,V (.par s40 ((wx hi1).1 h60) (λst p C K Kp=>by rw[e1];exact A.xb C rfl (λst=>hb.no 131 dc _ _) K Kp) (mf _))⟩
   ·rw[if_neg h60] at h;cases he:ze ts n 1 (i+1) (d+1) with
    |none=>rw[he] at h;cases h
    |some q=>
     have A:=ihE _ _ _ _ he hi1 om dc;cases q with
     |er t=>
      rw[he] at h;cases h;obtain⟨y,A⟩:=A;exact⟨_,V (.par s40 ((wx hi1).2 h60) (λst p C K Kp=>by rw[e1];exact A.xb C rfl (λst=>hb.no 131 dc _ _) K Kp) (mf _))⟩
     |ok x j=>
      rw[he] at h;have hj:=(VK W n).1 _ _ _ _ _ he hi1;have A:PM _ _ _ _ _ _ _:=A;have s41:jX (tk ts j) [41]=isM (tk ts j) [[41]]:=qV (O j hj.2) dc;dsimp only at h;by_cases hr:isM (tk ts j) [[41]]=true
      ·rw[if_pos hr] at h;cases h;exact V (.par s40 ((wx hi1).2 h60) (λst p C K Kp=>by rw[e1];exact A.xb C rfl (λst=>hb.no 131 dc _ _) K Kp) (λst p C K Kp=>(jbE hb W hn hj.2 [41] C K Kp).trans (X5 (by rw[s41,hr]))))
      ·rw[if_neg hr] at h;cases h;exact⟨_,V (.par s40 ((wx hi1).2 h60) (λst p C K Kp=>by rw[e1];exact A.xb C rfl (λst=>hb.no 131 dc _ _) K Kp) (λst p C K Kp=>(jbE hb W hn hj.2 [41] C K Kp).trans (X6 (by rw[s41];exact hr))))⟩
  ·rw[if_neg hq] at h;rw[QaB.2 hq] at s40;by_cases k2:(tk ts i).kind=2
   ·rw[if_pos k2] at h;cases h;exact V (.num s40 k2)
   rw[if_neg k2] at h;by_cases k1:(tk ts i).kind=1
   ·rw[if_pos k1] at h;cases h;exact V (.nam s40 k1)
   rw[if_neg k1] at h;by_cases bT:isM (tk ts i) [[116,114,117,101]]=true
   ·rw[if_pos bT] at h;cases h;exact V (.tru s40 k2 k1 (sT.trans bT))
   rw[if_neg bT] at h;have bT':=sT.trans (QaB.2 bT);by_cases bF:isM (tk ts i) [[102,97,108,115,101]]=true
   ·rw[if_pos bF] at h;cases h;exact V (.fls s40 k2 k1 bT' (sF.trans bF))
   rw[if_neg bF] at h;cases h;exact⟨_,V (.non s40 k2 k1 bT' (sF.trans (QaB.2 bF)) (Met.at (Xg hb W hn i d _)))⟩
theorem ji3 (hb:NB base){ts:List Tk}(W:Wds ts)(hn:ts≠[])(O:∀ i,i<ts.length->yN (tk ts i)):∀ n,UT base ts n/\He base ts n:=by
 have key:∀ n,∀ m,m<=n->UT base ts m/\He base ts m:=by
  intro n;induction n with
  |zero=>
   intro m hm;obtain rfl:m=0:=om
   exact⟨λ_ _ _ _ h=>(by simp[ze] at h),λ_ _ _ h=>(by simp[yW] at h)⟩
  |succ n ih=>
   intro m hm;by_cases h:m<=n
   ·exact ih m h
   ·obtain rfl:m=n+1:=om
    obtain⟨h1,h2⟩:=ih n (φ _);exact⟨jjz hb W hn O h2 (λk hk=>(ih k hk).1),jkc hb W hn O h2 h1⟩
 exact λn=>key n n (φ _)
set_option maxHeartbeats 1000000 in
theorem Hz (hb:NB base){ts:List Tk}(W:Wds ts)(hn:ts≠[])(O:∀ i,i<ts.length->yN (tk ts i)){i:Nat}(hi:i<ts.length):AnC base 90 (oC ts i 0) [] ts 0 exA (prS (qM ts i)):=by
 have wl:=W.len;obtain⟨r,_,hr⟩:=evR W hi;rw[Yb hr];have hz:∀ x j,r=.ok x j->szE x<=BIG:=by
  rintro x j rfl;obtain⟨N,hr⟩:=hr;have hz:=(wG W N).1 _ _ _ _ (hr N (φ _)) hi;have h1:=hz.2.2;have h2:(j - i) * 65537<=1000000 * 65537:=QaT _ (by have:=W.len;have:=hz.2.1;omega);have h3:1000000 * 65537<=BIG:=dc
  exact ω h1 (by rw[Qab];exact ω h2 h3)
 obtain⟨N,hc⟩:=(jgU W ts.length).e i 0 1 r hi om om dc dc hr;have A:=(ji3 hb W hn O N).1 1 i 0 r (hc N (φ _)) hi om dc;have NO:=λst p=>@X3 base hb ts i hi 0 st p;cases r with
 |er t=>
  obtain⟨y,A⟩:=A;have E:∀ st p,Cl st p (oC ts i 0)->∀ K Kp,XB θ base 131 [.ptr p 0,.int .i64 1] st K Kp=K (.agg (eE y)) (wr st p 0 (fC ts t 0)):=λst p C K Kp=>A.xb C rfl (λst=>hb.no 131 dc _ _) K Kp;have FF:=λst p=>@yB base hb ts t 0 st p;refine⟨y,?_⟩;unfold exA oC fC rC at *;refine jC x90 (by rfl) (hb.pur 90 3 dc) rfl ?_;simp only[y90,jn,ν,ξ,τ,υ];rw[(by unfold z90;simp only[qq];rfl:z90=_)];repeat'(first|apply jd<;>intro _|simp(disch:=first|exact dzD|fail) only[NO,E,FF,<-qO,r6,γ,δ,ε,ζ,η])
  (refine G1.done ?_ (by rfl) (by rfl) ?_;(· (first|exact cyD|fail));(· first|exact vyD|skip))
 |ok x j=>
  have A:PM _ _ _ _ _ _ _:=A;have E:∀ st p,Cl st p (oC ts i 0)->∀ K Kp,XB θ base 131 [.ptr p 0,.int .i64 1] st K Kp=K (.agg (eE x)) (wr st p 0 (oC ts j 0)):=λst p C K Kp=>A.xb C rfl (λst=>hb.no 131 dc _ _) K Kp;have FO:=λst p=>@qP base hb ts j 0 st p;have FA:=λst p=>@Xg base hb ts W hn j 0 (tk ts i) st p;have hR:=jfM hb x (hz x j rfl);unfold Y2;dsimp only;by_cases c:zC 60 x=true
  ·rw[if_pos c];show PM _ _ _ _ _ _ _;unfold exA oC fC rC at *;refine jC x90 (by rfl) (hb.pur 90 3 dc) rfl ?_;simp only[y90,jn,ν,ξ,τ,υ];rw[(by unfold z90;simp only[qq];rfl:z90=_)];repeat'(first|apply jd<;>intro _|simp(disch:=first|exact dzD|fail) only[NO,E,FO,hR,c,<-qO,r6,γ,δ,ε,ζ,η])
   (refine G1.done ?_ (by rfl) (by rfl) ?_;(· (first|exact cyD|fail));(· first|exact vyD|skip))
  ·rw[if_neg c];refine⟨x,?_⟩;unfold exA oC fC rC at *;refine jC x90 (by rfl) (hb.pur 90 3 dc) rfl ?_;simp only[y90,jn,ν,ξ,τ,υ];rw[(by unfold z90;simp only[qq];rfl:z90=_)];repeat'(first|apply jd<;>intro _|simp(disch:=first|exact dzD|fail) only[NO,E,FO,hR,c,FA,<-qO,r6,γ,δ,ε,ζ,η])
   (refine G1.done ?_ (by rfl) (by rfl) ?_;(· (first|exact cyD|fail));(· first|exact vyD|skip))
end Go.Sy
end
noncomputable section
set_option maxRecDepth 100000
namespace Go.Sy
open Go.Ev Go.Proofs
variable {base:Bs}
def Fin {α:Type}(ts:List Tk)(d:Nat)(r:SR α)(x:α)(c:List AV):Prop:=(∃ j,r=.ok x j/\c=oC ts j d)\/(∃ t,r=.er t/\c=fC ts t d)
theorem zM {α:Type}{ts:List Tk}{d:Nat}{enc:α->AV}{r:SR α}{x:α}{c:List AV}{v:AV}{s:St}(h:Fin ts d r x c)(C:Cl s 0 c)(F:FzD 1 9000009 s v (enc x)):SC ts d enc r v s:=by
 rcases h with ⟨j,rfl,rfl⟩|⟨t,rfl,rfl⟩
 ·exact G1.done C rfl rfl F
 ·exact⟨x,G1.done C rfl rfl F⟩
theorem Qa (hb:NB base){ts:List Tk}(W:Wds ts)(hn:ts≠[]){i d:Nat}(hi:i<ts.length)(s:List Nat):At base 87 (oC ts i d) [.str s] (.ok (.tup [])) (if jX (tk ts i) s=true then oC ts (i+1) d else fC ts (tk ts i) d):=λst p C K Kp=>by
 rw[jbE hb W hn hi s C K Kp];by_cases h:jX (tk ts i) s=true
 ·rw[if_pos h,X5 h];rfl
 ·rw[if_neg h,X6 h];rfl
theorem QY (hb:NB base){ts:List Tk}(W:Wds ts)(hn:ts≠[]){i d:Nat}(hi:i<ts.length):At base 86 (oC ts i d) [] (.ok (.agg (tk ts i).cells)) (if(tk ts i).kind=1 then oC ts (i+1) d else fC ts (tk ts i) d):=λst p C K Kp=>by
 rw[jjg hb W hn hi C K Kp];by_cases h:(tk ts i).kind=1
 ·rw[if_pos h,X5 (decide_eq_true h)];rfl
 ·rw[if_neg h,X6 (by rw[decide_eq_true_eq];exact h)];rfl
theorem Xv (hb:NB base){ts:List Tk}(W:Wds ts)(hn:ts≠[])(i d n:Nat)(t:Tk):At base 41 (oC ts i d) [.int .i64 (n:Int),.agg t.cells] (.ok (.tup [])) (if 32<=n then fC ts t d else oC ts i d):=λst p C K Kp=>by
 rw[ji1 hb W hn i d n t C K Kp];by_cases h:32<=n
 ·rw[if_pos h,X5 (decide_eq_true h)];rfl
 ·rw[if_neg h,X6 (by rw[decide_eq_true_eq];exact h)];rfl
def enA (e:EnumT):AV:=.agg (enE e)
def EnI (base:Bs)(ts:List Tk)(d:Nat)(nm:List Nat)(ln co:Int)(r:SR EnumT)(mm:Nat)(L:Sl)(s:St):Prop:=
 4<=s.nx/\Cl s 1 [.str [],.nils,.int .i64 0,.int .i64 0]/\(Has L 0 (.ptr 0 0)/\Has L 2 (.ptr 1 0)/\Has L 4 (.ptr 3 0))/\∃ (vs:List (List Nat)) (v:AV),Cl s 3 [.str nm,v,.int .i64 ln,.int .i64 co]/\Lv 4 s.nx s v vs.length (vs.map .str) 1 /\
  ((∃ m i',mm=m+1/\(ts.length<=i'+m/\vs.length<=32)/\i'<ts.length/\Has L 5 (.bool true)/\(match JV ts m i' vs with | .ok vs j=>SR.ok ⟨nm,vs,ln,co⟩ j | .er t=>.er t:SR EnumT)=r/\Cl s 0 (oC ts i' d)) \/
   (∃ b q a l e q2 a2 l2 e2,Has L 5 (.bool b)/\Cl s 0 (rC ts q a l e d)/\(b=true->At base 39 (rC ts q a l e d) [] (.ok (.bool true)) (rC ts q a l e d))/\At base 87 (rC ts q a l e d) [.str [125]] (.ok (.tup [])) (rC ts q2 a2 l2 e2 d)/\Fin ts d r ⟨nm,vs,ln,co⟩ (rC ts q2 a2 l2 e2 d)))
set_option maxHeartbeats 4000000 in
theorem jjE (hb:NB base){ts:List Tk}(W:Wds ts)(hn:ts≠[])(O:∀ i,i<ts.length->yN (tk ts i)){i d:Nat}(hi:i<ts.length):AnC base 42 (oC ts i d) [] ts d enA (JI ts i):=by
 have wl:=W.len;obtain⟨r,hr⟩:∃ r,JI ts i=r:=⟨_,rfl⟩;rw[hr];unfold JI at hr;have N:=QY (d:=d) hb W hn hi;have start:∃ q a l e q2 a2 l2 e2,(if(tk ts i).kind=1 then oC ts (i+1) d else fC ts (tk ts i) d)=rC ts q a l e d/\At base 87 (rC ts q a l e d) [.str [123]] (.ok (.tup [])) (rC ts q2 a2 l2 e2 d) /\
   ((rC ts q2 a2 l2 e2 d=oC ts (i+2) d/\i+2<ts.length/\(match JV ts ts.length (i+2) [] with | .ok vs j=>SR.ok ⟨(tk ts i).text,vs,(tk ts i).line,(tk ts i).col⟩ j | .er t=>.er t:SR EnumT)=r)\/∃ t,rC ts q2 a2 l2 e2 d=fC ts t d/\r=.er t):=by
  by_cases k1:(tk ts i).kind=1
  ·rw[if_pos k1] at hr ⊢;have hi1:i+1<ts.length:=W.next i hi om
   have M:=Qa (d:=d) hb W hn hi1 [123];have sb:jX (tk ts (i+1)) [123]=isM (tk ts (i+1)) [[123]]:=qV (O _ hi1) dc;rw[sb] at M;by_cases c1:isM (tk ts (i+1)) [[123]]=true
   ·rw[if_pos c1] at M hr;exact⟨_,_,_,_,_,_,_,_,rfl,M,.inl ⟨rfl,W.isM hi1 c1,hr⟩⟩
   ·rw[if_neg c1] at M hr;exact⟨_,_,_,_,_,_,_,_,rfl,M,.inr ⟨_,rfl,hr.symm⟩⟩
  ·rw[if_neg k1] at hr ⊢;exact⟨_,_,_,_,_,_,_,_,rfl,Met.at (zU hb W hn _ d [123]),.inr ⟨_,rfl,hr.symm⟩⟩
 obtain⟨q,a,l,e,q2,a2,l2,e2,g1,M,start⟩:=start;rw[g1] at N;clear g1 hr;refine Zs x42 (by rfl) (hb.pur 42 3 dc) ?_;simp only[y42,jn,ν,ξ,τ,υ];rw[(by unfold z42;simp only[qq];rfl:z42=_)];have N:∀ st p,Cl st p (oC ts i d)->∀ K Kp,XB θ base 86 [.ptr p 0] st K Kp=K (.agg (tk ts i).cells) (wr st p 0 (rC ts q a l e d)):=N;have M:∀ st p,Cl st p (rC ts q a l e d)->∀ K Kp,XB θ base 87 [.ptr p 0,.str [123]] st K Kp=K (.tup []) (wr st p 0 (rC ts q2 a2 l2 e2 d)):=M;have er:rC ts i 0 0 0 d=[.lst ts.length (fl Tk.cells ts),.int .i64 (i:Int),.int .i64 0,.int .i64 0,.int .i64 0,.int .i64 (d:Int)]:=rfl;unfold oC rC at N M;rw[er];repeat'(first|apply jd<;>intro _|simp(disch:=first|exact dzD|fail) only[N,M,r6,γ,δ,ε,ζ,η])
 refine yF λu hu=>?_;have n0:u.nx=4:=by rw[hu];rfl
 have C0:Cl u 0 (rC ts q2 a2 l2 e2 d):=by
  rw[hu];unfold rC
  (first|exact cyD|fail)
 have C1:Cl u 1 [.str [],.nils,.int .i64 0,.int .i64 0]:=by
  rw[hu]
  (first|exact cyD|fail)
 have C3:Cl u 3 [.str (tk ts i).text,.nils,.int .i64 ((tk ts i).line:Int),.int .i64 ((tk ts i).col:Int)]:=by
  rw[hu]
  (first|exact cyD|fail)
 clear hu N M er;generalize (tk ts i).text=nm at *;generalize ((tk ts i).line:Int)=ln at *;generalize ((tk ts i).col:Int)=co at *;refine qB (EnI base ts d nm ln co r) ?_ (ts.length+1) ?_
 ·clear start C0 C1 C3 n0 u;rintro mm L s ⟨n0,C1,⟨i0,i2,i4⟩,vs,v,C3,V,hA⟩;have L1:=C1.lt;have L3:=C3.lt;have ve:=V.eqs;have g3:rat s.h 3 1=v:=C3.cell 1 (Qbc (QaR 2));have vl:=V.len;have vc:=V.cells;have vcl:∀ l,lall AV.cell (v :: l)=lall AV.cell l:=λl=>by rw[Jn,Jn,Qaz,V.cell,QaZ]
  have vp:=V.plain;rcases hA with ⟨m,i',rfl,⟨hm,h32⟩,hi',i5,hl,C0⟩|⟨b,q,a,l,e,q2,a2,l2,e2,i5,C0,hb1,E,hF⟩
  ·have L0:=C0.lt;cases m with
   |zero=>omega
   |succ m=>
   unfold JV at hl;have FO:=λst p=>@qP base hb ts i' d st p;have NO:=λst p=>@X3 base hb ts i' hi' d st p;have A:=λst bv xc xx K h hv=>@Qr 4 s.nx vs.length 1 st v (vs.map .str) K 16 bv xc xx h dc om om hv;have V2:∀ (tx:List Nat) st m',Lv 4 s.nx st v vs.length (vs.map .str) 1->4<=st.nx->m'=st.nx+1->Lv 4 m' (aps v st [.str tx]) (apv 1 v st) (vs ++ [tx]).length ((vs ++ [tx]).map .str) 1:=λtx st m' h h2 h3=>by
    rw[Qag,List.map_append];exact h.put rfl h2 h3
   by_cases k1:(tk ts i').kind=1
   ·rw[if_pos k1] at hl;have k1':((tk ts i').kind:Int)=1:=om
    have hi1:i'+1<ts.length:=W.next i' hi' om
    by_cases go:vs.length<32/\isM (tk ts (i'+1)) [[44]]=true
    ·have R:=Xv hb W hn i' d vs.length (tk ts i');rw[if_neg om] at R hl;have Nm:=QY (d:=d) hb W hn hi';rw[if_pos k1] at Nm;have Se:=λst p=>@zL base hb ts (i'+1) hi1 d [44] st p;rw[qV (O _ hi1) dc,go.2] at Se;rw[if_pos go.2] at hl;have hi2:=W.isM hi1 go.2;have hx:=zq (i'+1);have R:∀ st p,Cl st p (oC ts i' d)->∀ K Kp,XB θ base 41 [.ptr p 0,.int .i64 (vs.length:Int),.agg (tk ts i').cells] st K Kp=K (.tup []) (wr st p 0 (oC ts i' d)):=R;have Nm:∀ st p,Cl st p (oC ts i' d)->∀ K Kp,XB θ base 86 [.ptr p 0] st K Kp=K (.agg (tk ts i').cells) (wr st p 0 (oC ts (i'+1) d)):=Nm;unfold oC rC at *
     (have zz:=aI @g3 (aI V.ln (aI V.rts (aI @jp (aI @jt (aI @jx (aI @V (aI @ve (aI @jk (aI @jm (aI @jq (aI C0.r (aI C1.r C3.r))))))))))));(repeat'(first|apply jd<;>intro _|simp(disch:=first|exact jK|fail) only[ja i0,ja i2,ja i4,ja i5,FO,NO,Nm,Se,k1',vl,R,hx,vz,ve,A,V.at,jk,C0.q,C1.q,C3.q,g3,V.ln,V.rts,jp,jt,jx,V,ve,jk,jm,jq,C0.r,C1.r,C3.r,r6,γ,δ,ε,ζ,η]));all_goals clear zz)
     refine⟨m+1,om,by(first|omega|(simp only[jf,je,jg,jh,ji];first|done|omega)),?c1,?has,vs ++ [(tk ts i').text],?v,?c3,?lv,.inl ⟨m,i'+2,rfl,⟨om,by simp;omega⟩,hi2,?x1,hl,?x2⟩⟩;case lv=>
      refine Lv.up (hi:=s.nx+3) ?_ (by(first|omega|(simp only[jf,je,jg,jh,ji];first|done|omega)));simp(disch:=first|omega|(simp only[jf,je,jh,jg];omega)) only[jp,jt,jx];refine V2 _ _ _ ?_ ?_ ?_;all_goals first|(simp only[jf,je];done)|(simp only[jf,je];omega)|(simp(disch:=first|omega|(simp only[jf,je];omega)) only[jp,jt];exact V)
     case c1=>
      (have zz:=aI C0.q (aI C1.q (aI C3.q (aI @g3 (aI V.ln (aI V.rts (aI @jk (aI @jm (aI @jq (aI C0.r (aI C1.r C3.r))))))))));first|exact ju|fail)
     case has=>
      simp(disch:=decide) only[h12,i0,i2,i4]
     case c3=>
      (have zz:=aI C0.q (aI C1.q (aI C3.q (aI @g3 (aI V.ln (aI V.rts (aI @jk (aI @jm (aI @jq (aI C0.r (aI C1.r C3.r))))))))));first|exact ju|fail)
     case x1=>
      simp(disch:=decide) only[h12]
     case x2=>
      unfold oC rC
      (have zz:=aI C0.q (aI C1.q (aI C3.q (aI @g3 (aI V.ln (aI V.rts (aI @jk (aI @jm (aI @jq (aI C0.r (aI C1.r C3.r))))))))));first|exact ju|fail)
    ·have gen:∃ (q1:Nat) (a1 l1 e1:Int) (tc:Tk) (q:Nat) (a l e:Int) (q2:Nat) (a2 l2 e2:Int),At base 41 (oC ts i' d) [.int .i64 (vs.length:Int),.agg (tk ts i').cells] (.ok (.tup [])) (rC ts q1 a1 l1 e1 d)/\At base 86 (rC ts q1 a1 l1 e1 d) [] (.ok (.agg tc.cells)) (rC ts q a l e d)/\At base 88 (rC ts q a l e d) [.str [44]] (.ok (.bool false)) (rC ts q a l e d) /\
       At base 87 (rC ts q a l e d) [.str [125]] (.ok (.tup [])) (rC ts q2 a2 l2 e2 d)/\Fin ts d r ⟨nm,vs ++ [tc.text],ln,co⟩ (rC ts q2 a2 l2 e2 d):=by
      have R:=Xv hb W hn i' d vs.length (tk ts i');by_cases h32':32<=vs.length
      ·rw[if_pos h32'] at R hl;exact⟨_,_,_,_,_,_,_,_,_,_,_,_,_,R,Met.at (jc4 hb W hn (tk ts i') d),Met.at (gF hb W hn (tk ts i') d [44]),Met.at (zU hb W hn (tk ts i') d [125]),.inr ⟨_,hl.symm,rfl⟩⟩
      ·rw[if_neg h32'] at R hl;have Nm:=QY (d:=d) hb W hn hi';rw[if_pos k1] at Nm;have c44:¬ isM (tk ts (i'+1)) [[44]]=true:=λh=>go ⟨om,h⟩;have Se:=λ{st:St} {p:Nat}=>@zL base hb ts (i'+1) hi1 d [44] st p;rw[qV (O _ hi1) dc,QaB.2 c44] at Se;rw[if_neg c44] at hl;have E:=Qa (d:=d) hb W hn hi1 [125];have sb:jX (tk ts (i'+1)) [125]=isM (tk ts (i'+1)) [[125]]:=qV (O _ hi1) dc;rw[sb] at E;by_cases c1:isM (tk ts (i'+1)) [[125]]=true
       ·rw[if_pos c1] at E hl;exact⟨_,_,_,_,_,_,_,_,_,_,_,_,_,R,Nm,Met.at @Se,E,.inl ⟨_,hl.symm,rfl⟩⟩
       ·rw[if_neg c1] at E hl;exact⟨_,_,_,_,_,_,_,_,_,_,_,_,_,R,Nm,Met.at @Se,E,.inr ⟨_,hl.symm,rfl⟩⟩
     obtain⟨q1,a1,l1,e1,tc,q,a,l,e,q2,a2,l2,e2,R,Nm,Se,E,hF⟩:=gen;have R:∀ st p,Cl st p (oC ts i' d)->∀ K Kp,XB θ base 41 [.ptr p 0,.int .i64 (vs.length:Int),.agg (tk ts i').cells] st K Kp=K (.tup []) (wr st p 0 (rC ts q1 a1 l1 e1 d)):=R;have Nm:∀ st p,Cl st p (rC ts q1 a1 l1 e1 d)->∀ K Kp,XB θ base 86 [.ptr p 0] st K Kp=K (.agg tc.cells) (wr st p 0 (rC ts q a l e d)):=Nm;have Se:∀ st p,Cl st p (rC ts q a l e d)->∀ K Kp,XB θ base 88 [.ptr p 0,.str [44]] st K Kp=K (.bool false) (wr st p 0 (rC ts q a l e d)):=Se;clear hl go;unfold oC rC at *
     (have zz:=aI @g3 (aI V.ln (aI V.rts (aI @jp (aI @jt (aI @jx (aI @V (aI @ve (aI @jk (aI @jm (aI @jq (aI C0.r (aI C1.r C3.r))))))))))));(repeat'(first|apply jd<;>intro _|simp(disch:=first|exact jK|fail) only[ja i0,ja i2,ja i4,ja i5,FO,NO,Nm,Se,k1',vl,R,vz,ve,A,V.at,jk,C0.q,C1.q,C3.q,g3,V.ln,V.rts,jp,jt,jx,V,ve,jk,jm,jq,C0.r,C1.r,C3.r,r6,γ,δ,ε,ζ,η]));all_goals clear zz)
     refine⟨0,om,by(first|omega|(simp only[jf,je,jg,jh,ji];first|done|omega)),?c1,?has,vs ++ [tc.text],?v,?c3,?lv,.inr ⟨false,q,a,l,e,q2,a2,l2,e2,?x1,?x2,λh=>absurd h dc,E,hF⟩⟩;case lv=>
      refine Lv.up (hi:=s.nx+3) ?_ (by(first|omega|(simp only[jf,je,jg,jh,ji];first|done|omega)));simp(disch:=first|omega|(simp only[jf,je,jh,jg];omega)) only[jp,jt,jx];refine V2 _ _ _ ?_ ?_ ?_;all_goals first|(simp only[jf,je];done)|(simp only[jf,je];omega)|(simp(disch:=first|omega|(simp only[jf,je];omega)) only[jp,jt];exact V)
     case c1=>
      (have zz:=aI C0.q (aI C1.q (aI C3.q (aI @g3 (aI V.ln (aI V.rts (aI @jk (aI @jm (aI @jq (aI C0.r (aI C1.r C3.r))))))))));first|exact ju|fail)
     case has=>
      simp(disch:=decide) only[h12,i0,i2,i4]
     case c3=>
      (have zz:=aI C0.q (aI C1.q (aI C3.q (aI @g3 (aI V.ln (aI V.rts (aI @jk (aI @jm (aI @jq (aI C0.r (aI C1.r C3.r))))))))));first|exact ju|fail)
     case x1=>
      simp(disch:=decide) only[h12]
     case x2=>
      unfold rC
      (have zz:=aI C0.q (aI C1.q (aI C3.q (aI @g3 (aI V.ln (aI V.rts (aI @jk (aI @jm (aI @jq (aI C0.r (aI C1.r C3.r))))))))));first|exact ju|fail)
   ·rw[if_neg k1] at hl;have k1':¬ ((tk ts i').kind:Int)=1:=om
    have Nm:=QY (d:=d) hb W hn hi';rw[if_neg k1] at Nm;have Nm:∀ st p,Cl st p (oC ts i' d)->∀ K Kp,XB θ base 86 [.ptr p 0] st K Kp=K (.agg (tk ts i').cells) (wr st p 0 (fC ts (tk ts i') d)):=Nm;have Se:=λst p=>@gF base hb ts W hn (tk ts i') d [44] st p;have E:=Met.at (zU hb W hn (tk ts i') d [125]);have hF:Fin ts d r ⟨nm,vs ++ [(tk ts i').text],ln,co⟩ (fC ts (tk ts i') d):=.inr ⟨_,hl.symm,rfl⟩;clear hl;unfold fC oC rC at *
    (have zz:=aI @g3 (aI V.ln (aI V.rts (aI @jp (aI @jt (aI @jx (aI @V (aI @ve (aI @jk (aI @jm (aI @jq (aI C0.r (aI C1.r C3.r))))))))))));(repeat'(first|apply jd<;>intro _|simp(disch:=first|exact jK|fail) only[ja i0,ja i2,ja i4,ja i5,FO,NO,Nm,Se,k1',vl,vz,ve,A,V.at,jk,C0.q,C1.q,C3.q,g3,V.ln,V.rts,jp,jt,jx,V,ve,jk,jm,jq,C0.r,C1.r,C3.r,r6,γ,δ,ε,ζ,η]));all_goals clear zz)
    refine⟨0,om,by(first|omega|(simp only[jf,je,jg,jh,ji];first|done|omega)),?c1,?has,vs ++ [(tk ts i').text],?v,?c3,?lv,.inr ⟨false,_,_,_,_,_,_,_,_,?x1,?x2,λh=>absurd h dc,E,hF⟩⟩;case lv=>
     refine Lv.up (hi:=s.nx+3) ?_ (by(first|omega|(simp only[jf,je,jg,jh,ji];first|done|omega)));simp(disch:=first|omega|(simp only[jf,je,jh,jg];omega)) only[jp,jt,jx];refine V2 _ _ _ ?_ ?_ ?_;all_goals first|(simp only[jf,je];done)|(simp only[jf,je];omega)|(simp(disch:=first|omega|(simp only[jf,je];omega)) only[jp,jt];exact V)
    case c1=>
     (have zz:=aI C0.q (aI C1.q (aI C3.q (aI @g3 (aI V.ln (aI V.rts (aI @jk (aI @jm (aI @jq (aI C0.r (aI C1.r C3.r))))))))));first|exact ju|fail)
    case has=>
     simp(disch:=decide) only[h12,i0,i2,i4]
    case c3=>
     (have zz:=aI C0.q (aI C1.q (aI C3.q (aI @g3 (aI V.ln (aI V.rts (aI @jk (aI @jm (aI @jq (aI C0.r (aI C1.r C3.r))))))))));first|exact ju|fail)
    case x1=>
     simp(disch:=decide) only[h12]
    case x2=>
     unfold rC
     (have zz:=aI C0.q (aI C1.q (aI C3.q (aI @g3 (aI V.ln (aI V.rts (aI @jk (aI @jm (aI @jq (aI C0.r (aI C1.r C3.r))))))))));first|exact ju|fail)
  ·have L0:=C0.lt;have E:∀ st p,Cl st p (rC ts q a l e d)->∀ K Kp,XB θ base 87 [.ptr p 0,.str [125]] st K Kp=K (.tup []) (wr st p 0 (rC ts q2 a2 l2 e2 d)):=E;have fin:=λs' w (C:Cl s' 0 (rC ts q2 a2 l2 e2 d)) F=>@zM _ ts d enA r _ _ w s' hF C F;clear hF;cases b with
   |true=>
    have FF:∀ st p,Cl st p (rC ts q a l e d)->∀ K Kp,XB θ base 39 [.ptr p 0] st K Kp=K (.bool true) (wr st p 0 (rC ts q a l e d)):=hb1 rfl;unfold rC at *
    (have zz:=aI @g3 (aI @vc (aI @vcl (aI @vp (aI C0.r (aI C1.r C3.r)))));(repeat'(first|apply jd<;>intro _|simp(disch:=first|exact jK|fail) only[ja i0,ja i2,ja i4,ja i5,FF,E,vl,vz,ve,vc,C0.q,C1.q,C3.q,g3,vc,vcl,vp,C0.r,C1.r,C3.r,r6,γ,δ,ε,ζ,η]));all_goals clear zz)
    refine fin _ _ ?_ (FzD.agg (.cons (.pc rfl) (.cons (Lv.fz (lo:=4) (hi:=s.nx) (z:=1) ?_ dc (QU _)) (.cons (.pc rfl) (.cons (.pc rfl) .nil)))))
    ·(have zz:=aI C0.q (aI C1.q (aI C3.q (aI @g3 (aI @vc (aI @vcl (aI @vp (aI C0.r (aI C1.r C3.r))))))));first|exact ju|fail)
    ·simp(disch:=first|omega|(simp only[jf,je,jh,jg];omega)) only[jE,jp,jt,jx];exact V
   |false=>
    clear hb1;unfold rC at *
    (have zz:=aI @g3 (aI @vc (aI @vcl (aI @vp (aI C0.r (aI C1.r C3.r)))));(repeat'(first|apply jd<;>intro _|simp(disch:=first|exact jK|fail) only[ja i0,ja i2,ja i4,ja i5,E,vl,vz,ve,vc,C0.q,C1.q,C3.q,g3,vc,vcl,vp,C0.r,C1.r,C3.r,r6,γ,δ,ε,ζ,η]));all_goals clear zz)
    refine fin _ _ ?_ (FzD.agg (.cons (.pc rfl) (.cons (Lv.fz (lo:=4) (hi:=s.nx) (z:=1) ?_ dc (QU _)) (.cons (.pc rfl) (.cons (.pc rfl) .nil)))))
    ·(have zz:=aI C0.q (aI C1.q (aI C3.q (aI @g3 (aI @vc (aI @vcl (aI @vp (aI C0.r (aI C1.r C3.r))))))));first|exact ju|fail)
    ·simp(disch:=first|omega|(simp only[jf,je,jh,jg];omega)) only[jE,jp,jt,jx];exact V
 ·rcases start with ⟨e1,h2,h3⟩|⟨t,e1,rfl⟩
  ·refine⟨QaA n0.symm,C1,?_,[],.nils,C3,Lv.nil,.inl ⟨ts.length,i+2,rfl,⟨om,Qaf _⟩,h2,?_,h3,e1▸C0⟩⟩
   ·simp(disch:=decide) only[h12]
   ·simp(disch:=decide) only[h12]
  ·refine⟨QaA n0.symm,C1,?_,[],.nils,C3,Lv.nil,.inr ⟨true,_,_,_,_,_,_,_,_,?_,C0,?_,?_,.inr ⟨t,rfl,rfl⟩⟩⟩
   ·simp(disch:=decide) only[h12]
   ·simp(disch:=decide) only[h12]
   ·intro _;rw[e1];exact Met.at (yB hb ts t d)
   ·rw[e1];exact Met.at (zU hb W hn t d [125])
def dcA (x:DeclT):AV:=.agg (qk x)
theorem Fin.map {α β:Type}{ts:List Tk}{d:Nat}{r:SR α}{r':SR β}{x:α}{y:β}{c:List AV}(h:Fin ts d r x c)(f:∀ j,r=.ok x j->r'=.ok y j)(g:∀ t,r=.er t->r'=.er t):Fin ts d r' y c:=by
 rcases h with ⟨j,e1,e2⟩|⟨t,e1,e2⟩
 ·exact .inl ⟨j,f j e1,e2⟩
 ·exact .inr ⟨t,g t e1,e2⟩
theorem jbN (hb:NB base){ts:List Tk}(W:Wds ts)(hn:ts≠[])(O:∀ i,i<ts.length->yN (tk ts i)){j:Nat}(hj:j<ts.length) :
  (jX (tk ts j) [61]=true/\∃ x q a l e q2 a2 l2 e2,At base 90 (oC ts (j+1) 0) [] (.ok (.agg (eE x))) (rC ts q a l e ((0:Nat):Int))/\At base 87 (rC ts q a l e ((0:Nat):Int)) [.str [59]] (.ok (.tup [])) (rC ts q2 a2 l2 e2 ((0:Nat):Int))/\Fin ts 0 (Xl ts j) [x] (rC ts q2 a2 l2 e2 ((0:Nat):Int))) \/
  (jX (tk ts j) [61]=false/\∃ q2 a2 l2 e2,At base 87 (oC ts j 0) [.str [59]] (.ok (.tup [])) (rC ts q2 a2 l2 e2 ((0:Nat):Int))/\Fin ts 0 (Xl ts j) [] (rC ts q2 a2 l2 e2 ((0:Nat):Int))):=by
 have sq:jX (tk ts j) [61]=isM (tk ts j) [[61]]:=qV (O _ hj) dc;have s59:∀ j,j<ts.length->jX (tk ts j) [59]=isM (tk ts j) [[59]]:=λj hj=>qV (O _ hj) dc;unfold Xl;by_cases c:isM (tk ts j) [[61]]=true
 ·refine .inl ⟨sq.trans c,?_⟩;rw[if_pos c];have hj1:=W.isM hj c;obtain⟨x,q,a,l,e,E,hE⟩:=(Hz hb W hn O hj1).at rfl λ_ _=>hb.no 90 dc _ _;rcases hE with ⟨k,e1,e2⟩|⟨t,e1,e2⟩
  ·have hw:qM ts (j+1)=.ok x k:=by
    cases hw:qM ts (j+1) with
    |ok x' k'=>rw[hw] at e1;cases e1;rfl
    |er t=>rw[hw] at e1;cases e1
   rw[hw];dsimp only;have hk:k<ts.length:=by
    obtain⟨r,hg,hr⟩:=evR W hj1;rw[Yb hr] at hw;cases r with
    |er t=>cases hw
    |ok x' k'=>
     unfold Y2 at hw;dsimp only at hw;split at hw
     ·cases hw;exact hg.2.1
     ·cases hw
   have M:=Qa (d:=0) hb W hn hk [59];rw[s59 k hk] at M;rw[e2] at E;by_cases c2:isM (tk ts k) [[59]]=true
   ·rw[if_pos c2] at M;rw[if_pos c2];exact⟨x,_,_,_,_,_,_,_,_,E,M,.inl ⟨_,rfl,rfl⟩⟩
   ·rw[if_neg c2] at M;rw[if_neg c2];exact⟨x,_,_,_,_,_,_,_,_,E,M,.inr ⟨_,rfl,rfl⟩⟩
  ·have hw:qM ts (j+1)=.er t:=by
    cases hw:qM ts (j+1) with
    |ok x' k'=>rw[hw] at e1;cases e1
    |er t=>rw[hw] at e1;cases e1;rfl
   rw[hw];rw[e2] at E;exact⟨x,_,_,_,_,_,_,_,_,E,Met.at (zU hb W hn t 0 [59]),.inr ⟨_,rfl,rfl⟩⟩
 ·refine .inr ⟨sq.trans (QaB.2 c),?_⟩;rw[if_neg c];have M:=Qa (d:=0) hb W hn hj [59];rw[s59 j hj] at M;by_cases c2:isM (tk ts j) [[59]]=true
  ·rw[if_pos c2] at M;rw[if_pos c2];exact⟨_,_,_,_,M,.inl ⟨_,rfl,rfl⟩⟩
  ·rw[if_neg c2] at M;rw[if_neg c2];exact⟨_,_,_,_,M,.inr ⟨_,rfl,rfl⟩⟩
theorem jc3 (hb:NB base){ts:List Tk}(W:Wds ts)(hn:ts≠[])(O:∀ i,i<ts.length->yN (tk ts i))(N:Nbs ts){i:Nat}(hi:i<ts.length):∃ n q a l e,At base 89 (oC ts i 0) [] (.ok (.int .i64 n)) (rC ts q a l e ((0:Nat):Int))/\Fin ts 0 (QR ts i) n (rC ts q a l e ((0:Nat):Int)):=by
 have A:=jkB (d:=0) hb W hn O N hi;obtain⟨n,q,a,l,e,E,hE⟩:=A.at rfl λ_ _=>hb.no 89 dc _ _;exact⟨n,q,a,l,e,E,hE⟩
theorem gU {b:Nat}{s:St}{x:Ex}{nm ty:List Nat}{lo hi ln co:Int}(C:Cl s b (eE x))(hb:1<=b):FzD 1 9000009 s (.agg [.str nm,.str ty,.int .i64 lo,.int .i64 hi,.slice b 0 1 1 6 true,.int .i64 ln,.int .i64 co]) (dcA ⟨nm,ty,lo,hi,[x],ln,co⟩):=
 FzD.agg (.cons (.pc rfl) (.cons (.pc rfl) (.cons (.pc rfl) (.cons (.pc rfl) (.cons (jgw (ks:=[x]) C (by rw[zu]) hb) (.pc rfl))))))
theorem XL {s:St}{nm ty:List Nat}{lo hi ln co:Int}:FzD 1 9000009 s (.agg [.str nm,.str ty,.int .i64 lo,.int .i64 hi,.nils,.int .i64 ln,.int .i64 co]) (dcA ⟨nm,ty,lo,hi,[],ln,co⟩):=
 FzD.agg (.cons (.pc rfl) (.cons (.pc rfl) (.cons (.pc rfl) (.cons (.pc rfl) (.cons FzD.nils (.pc rfl))))))
set_option maxHeartbeats 4000000 in
theorem jjJ (hb:NB base){ts:List Tk}(W:Wds ts)(hn:ts≠[])(O:∀ i,i<ts.length->yN (tk ts i))(Nb:Nbs ts){i:Nat}(hi:i<ts.length):AnC base 43 (oC ts i 0) [] ts 0 dcA (JJ ts i):=by
 have wl:=W.len;obtain⟨r,hr⟩:∃ r,JJ ts i=r:=⟨_,rfl⟩;rw[hr];unfold JJ at hr;have N:=QY (d:=0) hb W hn hi;have start:∃ q a l e q2 a2 l2 e2,(if(tk ts i).kind=1 then oC ts (i+1) 0 else fC ts (tk ts i) 0)=rC ts q a l e ((0:Nat):Int)/\At base 87 (rC ts q a l e ((0:Nat):Int)) [.str [58]] (.ok (.tup [])) (rC ts q2 a2 l2 e2 ((0:Nat):Int)) /\
   ((rC ts q2 a2 l2 e2 ((0:Nat):Int)=oC ts (i+2) 0/\i+2<ts.length/\(match wD ts (i+2) with
   |.er t=>.er t
   |.ok y j=>(match Xl ts j with
    |.er t=>.er t
    |.ok bs k=>.ok ⟨(tk ts i).text,y.1,y.2.1,y.2.2,bs,(tk ts i).line,(tk ts i).col⟩ k):SR DeclT)=r)\/∃ t,rC ts q2 a2 l2 e2 ((0:Nat):Int)=fC ts t 0/\r=.er t):=by
  by_cases k1:(tk ts i).kind=1
  ·rw[if_pos k1] at hr ⊢;have hi1:i+1<ts.length:=W.next i hi om
   have M:=Qa (d:=0) hb W hn hi1 [58];have sb:jX (tk ts (i+1)) [58]=isM (tk ts (i+1)) [[58]]:=qV (O _ hi1) dc;rw[sb] at M;by_cases c1:isM (tk ts (i+1)) [[58]]=true
   ·rw[if_pos c1] at M hr;exact⟨_,_,_,_,_,_,_,_,rfl,M,.inl ⟨rfl,W.isM hi1 c1,hr⟩⟩
   ·rw[if_neg c1] at M hr;exact⟨_,_,_,_,_,_,_,_,rfl,M,.inr ⟨_,rfl,hr.symm⟩⟩
  ·rw[if_neg k1] at hr ⊢;exact⟨_,_,_,_,_,_,_,_,rfl,Met.at (zU hb W hn _ 0 [58]),.inr ⟨_,rfl,hr.symm⟩⟩
 obtain⟨q,a,l,e,q2,a2,l2,e2,g1,M,start⟩:=start;rw[g1] at N;clear g1 hr;have N:∀ st p,Cl st p (oC ts i 0)->∀ K Kp,XB θ base 86 [.ptr p 0] st K Kp=K (.agg (tk ts i).cells) (wr st p 0 (rC ts q a l e ((0:Nat):Int))):=N;have M:∀ st p,Cl st p (rC ts q a l e ((0:Nat):Int))->∀ K Kp,XB θ base 87 [.ptr p 0,.str [58]] st K Kp=K (.tup []) (wr st p 0 (rC ts q2 a2 l2 e2 ((0:Nat):Int))):=M;refine Zs x43 (by rfl) (hb.pur 43 3 dc) ?_;simp only[y43,jn,ν,ξ,τ,υ];rw[(by unfold z43;simp only[qq];rfl:z43=_)];rcases start with ⟨g2,hi2,hr⟩|⟨t,g2,g3⟩
 ·rw[g2] at M;clear g2;have FO:=λst p=>@qP base hb ts (i+2) 0 st p;have SB:=λst p=>@zL base hb ts (i+2) hi2 0 [98,111,111,108] st p;have NO:=λst p=>@X3 base hb ts (i+2) hi2 0 st p;rw[qV (O _ hi2) dc] at SB;have hx:=zq (i+2);unfold wD at hr;by_cases c1:isM (tk ts (i+2)) [[98,111,111,108]]=true
  ·rw[if_pos c1] at hr;rw[c1] at SB;have hi3:=W.isM hi2 c1;have ht:[98,111,111,108]=(tk ts (i+2)).text:=(Qbo.1 (q9 c1).2).symm;rw[ht] at hr;dsimp only at hr;rcases jbN hb W hn O hi3 with ⟨sq,x,q3,a3,l3,e3,q4,a4,l4,e4,E9,E7,hB⟩|⟨sq,q4,a4,l4,e4,E7,hB⟩
   ·have hF:Fin ts 0 r ⟨(tk ts i).text,(tk ts (i+2)).text,0,0,[x],(tk ts i).line,(tk ts i).col⟩ (rC ts q4 a4 l4 e4 ((0:Nat):Int)):=hB.map (λk h=>by rw[<-hr,h]) (λt h=>by rw[<-hr,h]);have SQ:=λst p=>@zL base hb ts (i+2+1) hi3 0 [61] st p;rw[sq] at SQ;have FO3:=λst p=>@qP base hb ts (i+2+1) 0 st p;have hx3:=zq (i+2+1);have E9:∀ st p,Cl st p (oC ts (i+2+1+1) 0)->∀ K Kp,XB θ base 90 [.ptr p 0] st K Kp=K (.agg (eE x)) (wr st p 0 (rC ts q3 a3 l3 e3 ((0:Nat):Int))):=E9;have E7:∀ st p,Cl st p (rC ts q3 a3 l3 e3 ((0:Nat):Int))->∀ K Kp,XB θ base 87 [.ptr p 0,.str [59]] st K Kp=K (.tup []) (wr st p 0 (rC ts q4 a4 l4 e4 ((0:Nat):Int))):=E7;clear hB hr;unfold fC oC rC at *;repeat'(first|apply jd<;>intro _|simp(disch:=first|exact dzD|fail) only[N,M,FO,SB,NO,hx,SQ,FO3,E7,E9,hx3,r6,γ,δ,ε,ζ,η])
    refine zM hF ?_ (gU (b:=4) ?_ dc)
    ·(first|exact cyD|fail)
    ·(first|exact cyD|fail)
   ·have hF:Fin ts 0 r ⟨(tk ts i).text,(tk ts (i+2)).text,0,0,[],(tk ts i).line,(tk ts i).col⟩ (rC ts q4 a4 l4 e4 ((0:Nat):Int)):=hB.map (λk h=>by rw[<-hr,h]) (λt h=>by rw[<-hr,h]);have SQ:=λst p=>@zL base hb ts (i+2+1) hi3 0 [61] st p;rw[sq] at SQ;have FO3:=λst p=>@qP base hb ts (i+2+1) 0 st p;have hx3:=zq (i+2+1);have E7:∀ st p,Cl st p (oC ts (i+2+1) 0)->∀ K Kp,XB θ base 87 [.ptr p 0,.str [59]] st K Kp=K (.tup []) (wr st p 0 (rC ts q4 a4 l4 e4 ((0:Nat):Int))):=E7;clear hB hr;unfold fC oC rC at *;repeat'(first|apply jd<;>intro _|simp(disch:=first|exact dzD|fail) only[N,M,FO,SB,NO,hx,SQ,FO3,E7,r6,γ,δ,ε,ζ,η])
    refine zM hF ?_ XL
    (first|exact cyD|fail)
  rw[if_neg c1] at hr;rw[QaB.2 c1] at SB;by_cases k1:(tk ts (i+2)).kind=1
  ·rw[if_pos k1] at hr;have k1':((tk ts (i+2)).kind:Int)=1:=om
   have hi3:i+2+1<ts.length:=W.next _ hi2 om
   dsimp only at hr;rcases jbN hb W hn O hi3 with ⟨sq,x,q3,a3,l3,e3,q4,a4,l4,e4,E9,E7,hB⟩|⟨sq,q4,a4,l4,e4,E7,hB⟩
   ·have hF:Fin ts 0 r ⟨(tk ts i).text,(tk ts (i+2)).text,0,0,[x],(tk ts i).line,(tk ts i).col⟩ (rC ts q4 a4 l4 e4 ((0:Nat):Int)):=hB.map (λk h=>by rw[<-hr,h]) (λt h=>by rw[<-hr,h]);have SQ:=λst p=>@zL base hb ts (i+2+1) hi3 0 [61] st p;rw[sq] at SQ;have FO3:=λst p=>@qP base hb ts (i+2+1) 0 st p;have hx3:=zq (i+2+1);have E9:∀ st p,Cl st p (oC ts (i+2+1+1) 0)->∀ K Kp,XB θ base 90 [.ptr p 0] st K Kp=K (.agg (eE x)) (wr st p 0 (rC ts q3 a3 l3 e3 ((0:Nat):Int))):=E9;have E7:∀ st p,Cl st p (rC ts q3 a3 l3 e3 ((0:Nat):Int))->∀ K Kp,XB θ base 87 [.ptr p 0,.str [59]] st K Kp=K (.tup []) (wr st p 0 (rC ts q4 a4 l4 e4 ((0:Nat):Int))):=E7;clear hB hr;unfold fC oC rC at *;repeat'(first|apply jd<;>intro _|simp(disch:=first|exact dzD|fail) only[N,M,FO,SB,NO,hx,k1',SQ,FO3,E7,E9,hx3,r6,γ,δ,ε,ζ,η])
    refine zM hF ?_ (gU (b:=4) ?_ dc)
    ·(first|exact cyD|fail)
    ·(first|exact cyD|fail)
   ·have hF:Fin ts 0 r ⟨(tk ts i).text,(tk ts (i+2)).text,0,0,[],(tk ts i).line,(tk ts i).col⟩ (rC ts q4 a4 l4 e4 ((0:Nat):Int)):=hB.map (λk h=>by rw[<-hr,h]) (λt h=>by rw[<-hr,h]);have SQ:=λst p=>@zL base hb ts (i+2+1) hi3 0 [61] st p;rw[sq] at SQ;have FO3:=λst p=>@qP base hb ts (i+2+1) 0 st p;have hx3:=zq (i+2+1);have E7:∀ st p,Cl st p (oC ts (i+2+1) 0)->∀ K Kp,XB θ base 87 [.ptr p 0,.str [59]] st K Kp=K (.tup []) (wr st p 0 (rC ts q4 a4 l4 e4 ((0:Nat):Int))):=E7;clear hB hr;unfold fC oC rC at *;repeat'(first|apply jd<;>intro _|simp(disch:=first|exact dzD|fail) only[N,M,FO,SB,NO,hx,k1',SQ,FO3,E7,r6,γ,δ,ε,ζ,η])
    refine zM hF ?_ XL
    (first|exact cyD|fail)
  rw[if_neg k1] at hr;have k1':¬ ((tk ts (i+2)).kind:Int)=1:=om
  obtain⟨lo,qa,aa,la,ea,E1,hL⟩:=jc3 hb W hn O Nb hi2;rcases hL with ⟨j,f1,f2⟩|⟨t,f1,f2⟩
  ·have hj:=wh W hi2 f1;rw[f1] at hr;rw[f2] at E1;have DD:=Qa (d:=0) hb W hn hj [46,46];have sb:jX (tk ts j) [46,46]=isM (tk ts j) [[46,46]]:=qV (O _ hj) dc;rw[sb] at DD;dsimp only at hr;by_cases c2:isM (tk ts j) [[46,46]]=true
   ·rw[if_pos c2] at DD hr;have hj1:=W.isM hj c2;obtain⟨up,qb,ab,lb,eb,E2,hU⟩:=jc3 hb W hn O Nb hj1;have FO2:=λst p=>@qP base hb ts (j+1) 0 st p;rcases hU with ⟨k,u1,u2⟩|⟨t,u1,u2⟩
    ·have hk:=wh W hj1 u1;rw[u1] at hr;rw[u2] at E2;dsimp only at hr;have E1:∀ st p,Cl st p (oC ts (i+2) 0)->∀ K Kp,XB θ base 89 [.ptr p 0] st K Kp=K (.int .i64 lo) (wr st p 0 (oC ts j 0)):=E1;have DD:∀ st p,Cl st p (oC ts j 0)->∀ K Kp,XB θ base 87 [.ptr p 0,.str [46,46]] st K Kp=K (.tup []) (wr st p 0 (oC ts (j+1) 0)):=DD;have E2:∀ st p,Cl st p (oC ts (j+1) 0)->∀ K Kp,XB θ base 89 [.ptr p 0] st K Kp=K (.int .i64 up) (wr st p 0 (oC ts k 0)):=E2;rcases jbN hb W hn O hk with ⟨sq,x,q3,a3,l3,e3,q4,a4,l4,e4,E9,E7,hB⟩|⟨sq,q4,a4,l4,e4,E7,hB⟩
     ·have hF:Fin ts 0 r ⟨(tk ts i).text,[],lo,up,[x],(tk ts i).line,(tk ts i).col⟩ (rC ts q4 a4 l4 e4 ((0:Nat):Int)):=hB.map (λk h=>by rw[<-hr,h]) (λt h=>by rw[<-hr,h]);have SQ:=λst p=>@zL base hb ts (k) hk 0 [61] st p;rw[sq] at SQ;have FO3:=λst p=>@qP base hb ts (k) 0 st p;have hx3:=zq (k);have E9:∀ st p,Cl st p (oC ts (k+1) 0)->∀ K Kp,XB θ base 90 [.ptr p 0] st K Kp=K (.agg (eE x)) (wr st p 0 (rC ts q3 a3 l3 e3 ((0:Nat):Int))):=E9;have E7:∀ st p,Cl st p (rC ts q3 a3 l3 e3 ((0:Nat):Int))->∀ K Kp,XB θ base 87 [.ptr p 0,.str [59]] st K Kp=K (.tup []) (wr st p 0 (rC ts q4 a4 l4 e4 ((0:Nat):Int))):=E7;clear hB hr;unfold fC oC rC at *;repeat'(first|apply jd<;>intro _|simp(disch:=first|exact dzD|fail) only[N,M,FO,SB,NO,k1',E1,DD,E2,FO2,SQ,FO3,E7,E9,hx3,r6,γ,δ,ε,ζ,η])
      refine zM hF ?_ (gU (b:=4) ?_ dc)
      ·(first|exact cyD|fail)
      ·(first|exact cyD|fail)
     ·have hF:Fin ts 0 r ⟨(tk ts i).text,[],lo,up,[],(tk ts i).line,(tk ts i).col⟩ (rC ts q4 a4 l4 e4 ((0:Nat):Int)):=hB.map (λk h=>by rw[<-hr,h]) (λt h=>by rw[<-hr,h]);have SQ:=λst p=>@zL base hb ts (k) hk 0 [61] st p;rw[sq] at SQ;have FO3:=λst p=>@qP base hb ts (k) 0 st p;have hx3:=zq (k);have E7:∀ st p,Cl st p (oC ts (k) 0)->∀ K Kp,XB θ base 87 [.ptr p 0,.str [59]] st K Kp=K (.tup []) (wr st p 0 (rC ts q4 a4 l4 e4 ((0:Nat):Int))):=E7;clear hB hr;unfold fC oC rC at *;repeat'(first|apply jd<;>intro _|simp(disch:=first|exact dzD|fail) only[N,M,FO,SB,NO,k1',E1,DD,E2,FO2,SQ,FO3,E7,r6,γ,δ,ε,ζ,η])
      refine zM hF ?_ XL
      (first|exact cyD|fail)
    ·rw[u1] at hr;rw[u2] at E2;have FF:=λst p=>@yB base hb ts t 0 st p;have FT:=λst p=>@zU base hb ts W hn t 0 [59] st p;have hF:Fin ts 0 r ⟨(tk ts i).text,[],lo,up,[],(tk ts i).line,(tk ts i).col⟩ (fC ts t 0):=.inr ⟨t,hr.symm,rfl⟩;clear hr;have E1:∀ st p,Cl st p (oC ts (i+2) 0)->∀ K Kp,XB θ base 89 [.ptr p 0] st K Kp=K (.int .i64 lo) (wr st p 0 (oC ts j 0)):=E1;have DD:∀ st p,Cl st p (oC ts j 0)->∀ K Kp,XB θ base 87 [.ptr p 0,.str [46,46]] st K Kp=K (.tup []) (wr st p 0 (oC ts (j+1) 0)):=DD;have E2:∀ st p,Cl st p (oC ts (j+1) 0)->∀ K Kp,XB θ base 89 [.ptr p 0] st K Kp=K (.int .i64 up) (wr st p 0 (fC ts t 0)):=E2;unfold fC oC rC at *;repeat'(first|apply jd<;>intro _|simp(disch:=first|exact dzD|fail) only[N,M,FO,SB,NO,k1',E1,DD,E2,FO2,FF,FT,r6,γ,δ,ε,ζ,η])
     refine zM hF ?_ XL
     (first|exact cyD|fail)
   ·rw[if_neg c2] at DD hr;have FF:=λst p=>@yB base hb ts (tk ts j) 0 st p;have FT:=λst p=>@zU base hb ts W hn (tk ts j) 0 [59] st p;have hF:Fin ts 0 r ⟨(tk ts i).text,[],lo,0,[],(tk ts i).line,(tk ts i).col⟩ (fC ts (tk ts j) 0):=.inr ⟨_,hr.symm,rfl⟩;clear hr;have E1:∀ st p,Cl st p (oC ts (i+2) 0)->∀ K Kp,XB θ base 89 [.ptr p 0] st K Kp=K (.int .i64 lo) (wr st p 0 (oC ts j 0)):=E1;have DD:∀ st p,Cl st p (oC ts j 0)->∀ K Kp,XB θ base 87 [.ptr p 0,.str [46,46]] st K Kp=K (.tup []) (wr st p 0 (fC ts (tk ts j) 0)):=DD;unfold fC oC rC at *;repeat'(first|apply jd<;>intro _|simp(disch:=first|exact dzD|fail) only[N,M,FO,SB,NO,k1',E1,DD,FF,FT,r6,γ,δ,ε,ζ,η])
    refine zM hF ?_ XL
    (first|exact cyD|fail)
  ·rw[f1] at hr;rw[f2] at E1;have DD:=λst p=>@zU base hb ts W hn t 0 [46,46] st p;have FF:=λst p=>@yB base hb ts t 0 st p;have FT:=λst p=>@zU base hb ts W hn t 0 [59] st p;have hF:Fin ts 0 r ⟨(tk ts i).text,[],lo,0,[],(tk ts i).line,(tk ts i).col⟩ (fC ts t 0):=.inr ⟨_,hr.symm,rfl⟩;clear hr;have E1:∀ st p,Cl st p (oC ts (i+2) 0)->∀ K Kp,XB θ base 89 [.ptr p 0] st K Kp=K (.int .i64 lo) (wr st p 0 (fC ts t 0)):=E1;unfold fC oC rC at *;repeat'(first|apply jd<;>intro _|simp(disch:=first|exact dzD|fail) only[N,M,FO,SB,NO,k1',E1,DD,FF,FT,r6,γ,δ,ε,ζ,η])
   refine zM hF ?_ XL
   (first|exact cyD|fail)
 ·rw[g2] at M;have FF:=λst p=>@yB base hb ts t 0 st p;have hF:Fin ts 0 r ⟨(tk ts i).text,[],0,0,[],(tk ts i).line,(tk ts i).col⟩ (fC ts t 0):=.inr ⟨t,g3,rfl⟩;clear g2 g3;unfold fC oC rC at *;repeat'(first|apply jd<;>intro _|simp(disch:=first|exact dzD|fail) only[N,M,FF,r6,γ,δ,ε,ζ,η])
  refine zM hF ?_ XL
  (first|exact cyD|fail)
abbrev Z0:Int:=((0:Nat):Int)
theorem gu (hb:NB base){ts:List Tk}(W:Wds ts)(hn:ts≠[])(O:∀ i,i<ts.length->yN (tk ts i)){i:Nat}(hi:i<ts.length):∃ x q a l e,At base 90 (oC ts i 0) [] (.ok (.agg (eE x))) (rC ts q a l e Z0) /\
  ((∃ j,qM ts i=.ok x j/\i+1<=j/\j<ts.length/\rC ts q a l e Z0=oC ts j 0)\/∃ t,qM ts i=.er t/\rC ts q a l e Z0=fC ts t 0):=by
 obtain⟨x,q,a,l,e,E,hE⟩:=(Hz hb W hn O hi).at rfl λ_ _=>hb.no 90 dc _ _;refine⟨x,q,a,l,e,E,?_⟩;rcases hE with ⟨k,e1,e2⟩|⟨t,e1,e2⟩
 ·have hw:qM ts i=.ok x k:=by
   cases hw:qM ts i with
   |ok x' k'=>rw[hw] at e1;cases e1;rfl
   |er t=>rw[hw] at e1;cases e1
  have:=yU W hi hw;exact .inl ⟨k,hw,this.1,this.2.1,e2⟩
 ·have hw:qM ts i=.er t:=by
   cases hw:qM ts i with
   |ok x' k'=>rw[hw] at e1;cases e1
   |er t=>rw[hw] at e1;cases e1;rfl
  exact .inr ⟨t,hw,e2⟩
def uo (ts:List Tk)(i n:Nat):Option Tk:=if(tk ts i).kind=1 then(if 32<=n then some (tk ts i) else if isM (tk ts (i+1)) [[58,61]]=true then none else some (tk ts (i+1))) else some (tk ts i)
theorem jjZ (hb:NB base){ts:List Tk}(W:Wds ts)(hn:ts≠[])(O:∀ i,i<ts.length->yN (tk ts i)){i n:Nat}(hi:i<ts.length):∃ q a l e v q2 a2 l2 e2 q3 a3 l3 e3,
  (((tk ts i).kind=1/\At base 41 (oC ts i 0) [.int .i64 (n:Int),.agg (tk ts i).cells] (.ok (.tup [])) (rC ts q a l e Z0))\/((tk ts i).kind≠1/\rC ts q a l e Z0=oC ts i 0)) /\
  At base 86 (rC ts q a l e Z0) [] (.ok (.agg (Tk.cells v))) (rC ts q2 a2 l2 e2 Z0)/\At base 87 (rC ts q2 a2 l2 e2 Z0) [.str [58,61]] (.ok (.tup [])) (rC ts q3 a3 l3 e3 Z0) /\
  ((uo ts i n=none/\i+2<ts.length/\rC ts q3 a3 l3 e3 Z0=oC ts (i+2) 0)\/∃ t,uo ts i n=some t/\rC ts q3 a3 l3 e3 Z0=fC ts t 0):=by
 unfold uo;by_cases k1:(tk ts i).kind=1
 ·have hi1:i+1<ts.length:=W.next i hi om
  have R:=Xv hb W hn i 0 n (tk ts i);by_cases h32:32<=n
  ·rw[if_pos h32] at R;exact⟨_,_,_,_,_,_,_,_,_,_,_,_,_,.inl ⟨k1,R⟩,Met.at (jc4 hb W hn (tk ts i) 0),Met.at (zU hb W hn (tk ts i) 0 [58,61]),.inr ⟨_,by rw[if_pos k1,if_pos h32],rfl⟩⟩
  ·rw[if_neg h32] at R;have Nm:=QY (d:=0) hb W hn hi;rw[if_pos k1] at Nm;have E:=Qa (d:=0) hb W hn hi1 [58,61];have sb:jX (tk ts (i+1)) [58,61]=isM (tk ts (i+1)) [[58,61]]:=qV (O _ hi1) dc;rw[sb] at E;by_cases c:isM (tk ts (i+1)) [[58,61]]=true
   ·rw[if_pos c] at E;exact⟨_,_,_,_,_,_,_,_,_,_,_,_,_,.inl ⟨k1,R⟩,Nm,E,.inl ⟨by rw[if_pos k1,if_neg h32,if_pos c],W.isM hi1 c,rfl⟩⟩
   ·rw[if_neg c] at E;exact⟨_,_,_,_,_,_,_,_,_,_,_,_,_,.inl ⟨k1,R⟩,Nm,E,.inr ⟨_,by rw[if_pos k1,if_neg h32,if_neg c],rfl⟩⟩
 ·have Nm:=QY (d:=0) hb W hn hi;rw[if_neg k1] at Nm;exact⟨_,_,_,_,_,_,_,_,_,_,_,_,_,.inr ⟨k1,rfl⟩,Nm,Met.at (zU hb W hn (tk ts i) 0 [58,61]),.inr ⟨_,by rw[if_neg k1],rfl⟩⟩
theorem jhU {ts:List Tk}{m i:Nat}{vs:List AsT}:(∀ t,uo ts i vs.length=some t->zf ts (m+1) i vs=.er t)/\(uo ts i vs.length=none->zf ts (m+1) i vs=(match qM ts (i+2) with
    |.er t=>.er t
    |.ok x j=>
     if isM (tk ts j) [[44]]=true then zf ts m (j+1) (vs ++ [⟨(tk ts i).text,x,(tk ts i).line,(tk ts i).col⟩])
     else if isM (tk ts j) [[59]]=true then .ok (vs ++ [⟨(tk ts i).text,x,(tk ts i).line,(tk ts i).col⟩]) (j+1)
     else .er (tk ts j))):=by
 unfold uo;by_cases k1:(tk ts i).kind=1
 ·by_cases h32:32<=vs.length
  ·refine⟨λt h=>?_,λh=>?_⟩
   ·rw[if_pos k1,if_pos h32] at h;cases h;rw[zf,if_pos k1,if_pos h32]
   ·rw[if_pos k1,if_pos h32] at h;cases h
  ·by_cases c:isM (tk ts (i+1)) [[58,61]]=true
   ·refine⟨λt h=>?_,λh=>?_⟩
    ·rw[if_pos k1,if_neg h32,if_pos c] at h;cases h
    ·rw[zf,if_pos k1,if_neg h32,if_pos c];cases qM ts (i+2)<;>rfl
   ·refine⟨λt h=>?_,λh=>?_⟩
    ·rw[if_pos k1,if_neg h32,if_neg c] at h;cases h;rw[zf,if_pos k1,if_neg h32,if_neg c]
    ·rw[if_pos k1,if_neg h32,if_neg c] at h;cases h
 ·refine⟨λt h=>?_,λh=>?_⟩
  ·rw[if_neg k1] at h;cases h;rw[zf,if_neg k1]
  ·rw[if_neg k1] at h;cases h
def ruA (r:RuleT):AV:=.agg (ruE r)
def RuI (base:Bs)(ts:List Tk)(x:Ex)(r:SR RuleT)(mm:Nat)(L:Sl)(s:St):Prop:=
 3<=s.nx/\Cl s 1 [.int .i64 0,.int .i64 0,.str [],.nils,.int .i64 0,.int .i64 0,.nils]/\(Has L 0 (.ptr 0 0)/\Has L 2 (.ptr 1 0)/\Has L 3 (.ptr 2 0))/\∃ (vs:List AsT) (v:AV),Cl s 2 [.int .i64 x.op,.int .i64 x.num,.str x.name,.lst x.kids.length (fl eE x.kids),.int .i64 x.line,.int .i64 x.col,v]/\Lv 3 s.nx s v vs.length (fl asE vs) 9 /\
  ((∃ m i',mm=m+1/\(ts.length<=i'+m/\vs.length<=32)/\i'<ts.length/\Has L 4 (.bool true)/\(match zf ts m i' vs with | .ok vs k=>SR.ok ⟨x,vs⟩ k | .er t=>.er t:SR RuleT)=r/\Cl s 0 (oC ts i' 0)) \/
   (∃ b q a l e q2 a2 l2 e2,Has L 4 (.bool b)/\Cl s 0 (rC ts q a l e Z0)/\(b=true->At base 39 (rC ts q a l e Z0) [] (.ok (.bool true)) (rC ts q a l e Z0))/\At base 87 (rC ts q a l e Z0) [.str [59]] (.ok (.tup [])) (rC ts q2 a2 l2 e2 Z0)/\Fin ts 0 r ⟨x,vs⟩ (rC ts q2 a2 l2 e2 Z0)))
theorem Ko {x:Ex}{vs:List AsT}{s:St}{v:AV}{hi:Nat}(V:Lv 3 hi s v vs.length (fl asE vs) 9):FzD 1 9000009 s (.agg [.int .i64 x.op,.int .i64 x.num,.str x.name,.lst x.kids.length (fl eE x.kids),.int .i64 x.line,.int .i64 x.col,v]) (ruA ⟨x,vs⟩):=by
 unfold ruA;rw[show ruE ⟨x,vs⟩=[.int .i64 x.op,.int .i64 x.num,.str x.name,.lst x.kids.length (fl eE x.kids),.int .i64 x.line,.int .i64 x.col,.lst vs.length (fl asE vs)] by unfold ruE;rw[qO];rfl];exact FzD.agg (.cons (.pc rfl) (.cons (.pc rfl) (.cons (.pc rfl) (.cons (.pc rfl) (.cons (.pc rfl) (.cons (.pc rfl) (.cons (Lv.fz (lo:=3) (hi:=hi) (z:=9) V dc (JH V4 _)) .nil)))))))
set_option maxHeartbeats 4000000 in
theorem jiZ (hb:NB base){ts:List Tk}(W:Wds ts)(hn:ts≠[])(O:∀ i,i<ts.length->yN (tk ts i)){i:Nat}(hi:i<ts.length):AnC base 91 (oC ts i 0) [] ts 0 ruA (JB ts i):=by
 have wl:=W.len;obtain⟨r,hr⟩:∃ r,JB ts i=r:=⟨_,rfl⟩;rw[hr];unfold JB at hr;obtain⟨x,q,a,l,e,E,hE⟩:=gu hb W hn O hi;have start:∃ q2 a2 l2 e2,At base 87 (rC ts q a l e Z0) [.str [100,111]] (.ok (.tup [])) (rC ts q2 a2 l2 e2 Z0)/\((∃ j,rC ts q2 a2 l2 e2 Z0=oC ts j 0/\j<ts.length/\(match zf ts ts.length j [] with
   |.ok vs k=>.ok ⟨x,vs⟩ k
   |.er t=>.er t:SR RuleT)=r)\/∃ t,rC ts q2 a2 l2 e2 Z0=fC ts t 0/\r=.er t):=by
  rcases hE with ⟨j,h1,h2,h3,h4⟩|⟨t,h1,h4⟩
  ·rw[h1] at hr;rw[h4];have M:=Qa (d:=0) hb W hn h3 [100,111];have sb:jX (tk ts j) [100,111]=isM (tk ts j) [[100,111]]:=qV (O _ h3) dc;rw[sb] at M;dsimp only at hr;by_cases c1:isM (tk ts j) [[100,111]]=true
   ·rw[if_pos c1] at M hr;exact⟨_,_,_,_,M,.inl ⟨_,rfl,W.isM h3 c1,hr⟩⟩
   ·rw[if_neg c1] at M hr;exact⟨_,_,_,_,M,.inr ⟨_,rfl,hr.symm⟩⟩
  ·rw[h1] at hr;rw[h4];exact⟨_,_,_,_,Met.at (zU hb W hn t 0 [100,111]),.inr ⟨_,rfl,hr.symm⟩⟩
 obtain⟨q2,a2,l2,e2,M,start⟩:=start;clear hr hE;refine Zs x91 (by rfl) (hb.pur 91 3 dc) ?_;simp only[y91,jn,ν,ξ,τ,υ];rw[(by unfold z91;simp only[qq];rfl:z91=_)];rw[qO] at E;have E:∀ st p,Cl st p (oC ts i 0)->∀ K Kp,XB θ base 90 [.ptr p 0] st K Kp=K (.agg [.int .i64 x.op,.int .i64 x.num,.str x.name,.lst x.kids.length (fl eE x.kids),.int .i64 x.line,.int .i64 x.col]) (wr st p 0 (rC ts q a l e Z0)):=E;have M:∀ st p,Cl st p (rC ts q a l e Z0)->∀ K Kp,XB θ base 87 [.ptr p 0,.str [100,111]] st K Kp=K (.tup []) (wr st p 0 (rC ts q2 a2 l2 e2 Z0)):=M;have er:rC ts i 0 0 0 Z0=[.lst ts.length (fl Tk.cells ts),.int .i64 (i:Int),.int .i64 0,.int .i64 0,.int .i64 0,.int .i64 Z0]:=rfl;unfold oC rC at E M;rw[er];repeat'(first|apply jd<;>intro _|simp(disch:=first|exact dzD|fail) only[E,M,r6,γ,δ,ε,ζ,η])
 refine yF λu hu=>?_;have n0:u.nx=3:=by rw[hu];rfl
 have C0:Cl u 0 (rC ts q2 a2 l2 e2 Z0):=by
  rw[hu];unfold rC
  (first|exact cyD|fail)
 have C1:Cl u 1 [.int .i64 0,.int .i64 0,.str [],.nils,.int .i64 0,.int .i64 0,.nils]:=by
  rw[hu]
  (first|exact cyD|fail)
 have C2:Cl u 2 [.int .i64 x.op,.int .i64 x.num,.str x.name,.lst x.kids.length (fl eE x.kids),.int .i64 x.line,.int .i64 x.col,.nils]:=by
  rw[hu]
  (first|exact cyD|fail)
 clear hu E M er;refine qB (RuI base ts x r) ?_ (ts.length+1) ?_
 ·clear start C0 C1 C2 n0 u;rintro mm L s ⟨n0,C1,⟨i0,i2,i3⟩,vs,v,C2,V,hA⟩;have L1:=C1.lt;have L2:=C2.lt;have ve:=V.eqs;have g3:rat s.h 2 6=v:=C2.cell 6 (by simp);have vl:=V.len;have vc:=V.cells;have vcl:∀ l,lall AV.cell (v :: l)=lall AV.cell l:=λl=>by rw[Jn,Jn,Qaz,V.cell,QaZ]
  have vp:=V.plain;rcases hA with ⟨m,i',rfl,⟨hm,h32⟩,hi',i4,hl,C0⟩|⟨b,q,a,l,e,q2,a2,l2,e2,i4,C0,hb1,E,hF⟩
  ·have L0:=C0.lt;cases m with
   |zero=>omega
   |succ m=>
   obtain⟨aE,aN⟩:=@jhU ts m i' vs;have FO:=λst p=>@qP base hb ts i' 0 st p;have NO:=λst p=>@X3 base hb ts i' hi' 0 st p;obtain⟨q,a,l,e,tv,q2,a2,l2,e2,q3,a3,l3,e3,Rk,Nm,Eq,nx⟩:=jjZ (n:=vs.length) hb W hn O hi';have Nm:∀ st p,Cl st p (rC ts q a l e Z0)->∀ K Kp,XB θ base 86 [.ptr p 0] st K Kp=K (.agg tv.cells) (wr st p 0 (rC ts q2 a2 l2 e2 Z0)):=Nm;have Eq:∀ st p,Cl st p (rC ts q2 a2 l2 e2 Z0)->∀ K Kp,XB θ base 87 [.ptr p 0,.str [58,61]] st K Kp=K (.tup []) (wr st p 0 (rC ts q3 a3 l3 e3 Z0)):=Eq;rcases nx with ⟨x1,x2,x3⟩|⟨t,x1,x3⟩
   ·rcases Rk with ⟨k1,R⟩|⟨k1,_⟩
    case inr=>unfold uo at x1;rw[if_neg k1] at x1;cases x1
    have hlt:vs.length<32:=by
     unfold uo at x1;rw[if_pos k1] at x1;by_cases h:32<=vs.length
     ·rw[if_pos h] at x1;cases x1
     ·omega
    have k1':((tk ts i').kind:Int)=1:=om
    have R:∀ st p,Cl st p (oC ts i' 0)->∀ K Kp,XB θ base 41 [.ptr p 0,.int .i64 (vs.length:Int),.agg (tk ts i').cells] st K Kp=K (.tup []) (wr st p 0 (rC ts q a l e Z0)):=R;rw[x3] at Eq;rw[aN x1] at hl;have FO3:=λst p=>@qP base hb ts (i'+2) 0 st p;obtain⟨y,q4,a4,l4,e4,Wh,hW⟩:=gu hb W hn O x2;rw[qO] at Wh;have Wh:∀ st p,Cl st p (oC ts (i'+2) 0)->∀ K Kp,XB θ base 90 [.ptr p 0] st K Kp=K (.agg [.int .i64 y.op,.int .i64 y.num,.str y.name,.lst y.kids.length (fl eE y.kids),.int .i64 y.line,.int .i64 y.col]) (wr st p 0 (rC ts q4 a4 l4 e4 Z0)):=Wh;have Ap:=λst bv xc xx K h hv=>@Qr 3 s.nx vs.length 9 st v (fl asE vs) K 104 bv xc xx h dc om om hv;obtain⟨aa,hav⟩:∃ a:AsT,a=⟨(tk ts i').text,y,(tk ts i').line,(tk ts i').col⟩:=⟨_,rfl⟩;have ea:asE aa=[.str (tk ts i').text,.int .i64 y.op,.int .i64 y.num,.str y.name,.lst y.kids.length (fl eE y.kids),.int .i64 y.line,.int .i64 y.col,.int .i64 ((tk ts i').line:Int),.int .i64 ((tk ts i').col:Int)]:=by rw[hav];unfold asE;rw[qO];rfl
    have V2:∀ st m',Lv 3 s.nx st v vs.length (fl asE vs) 9->3<=st.nx->m'=st.nx+1->Lv 3 m' (aps v st [.str (tk ts i').text,.int .i64 y.op,.int .i64 y.num,.str y.name,.lst y.kids.length (fl eE y.kids),.int .i64 y.line,.int .i64 y.col,.int .i64 ((tk ts i').line:Int),.int .i64 ((tk ts i').col:Int)]) (apv 9 v st) (vs ++ [aa]).length (fl asE (vs ++ [aa])) 9:=λst m' h h2 h3=>by
     rw[Qag,Jp,zu,ea];exact h.put rfl h2 h3
    have step:(∃ j,rC ts q4 a4 l4 e4 Z0=oC ts j 0/\jX (tk ts j) [44]=true/\j<ts.length/\i'+3<=j/\j+1<ts.length/\(match zf ts m (j+1) (vs ++ [aa]) with | .ok vs k=>SR.ok ⟨x,vs⟩ k | .er t=>.er t:SR RuleT)=r) \/
      (At base 88 (rC ts q4 a4 l4 e4 Z0) [.str [44]] (.ok (.bool false)) (rC ts q4 a4 l4 e4 Z0)/\∃ q5 a5 l5 e5,At base 87 (rC ts q4 a4 l4 e4 Z0) [.str [59]] (.ok (.tup [])) (rC ts q5 a5 l5 e5 Z0)/\Fin ts 0 r ⟨x,vs ++ [aa]⟩ (rC ts q5 a5 l5 e5 Z0)):=by
     rcases hW with ⟨j,h1,h2,h3,h4⟩|⟨t,h1,h4⟩
     ·rw[h1] at hl;dsimp only at hl;rw[<-hav] at hl;have s44:jX (tk ts j) [44]=isM (tk ts j) [[44]]:=qV (O _ h3) dc;have s59:jX (tk ts j) [59]=isM (tk ts j) [[59]]:=qV (O _ h3) dc;by_cases c:isM (tk ts j) [[44]]=true
      ·rw[if_pos c] at hl;exact .inl ⟨j,h4,s44.trans c,h3,h2,W.isM h3 c,hl⟩
      ·rw[if_neg c] at hl;refine .inr ?_;rw[h4];have Se:=λ{st:St} {p:Nat}=>@zL base hb ts j h3 0 [44] st p;rw[s44,QaB.2 c] at Se;have E:=Qa (d:=0) hb W hn h3 [59];rw[s59] at E;by_cases c1:isM (tk ts j) [[59]]=true
       ·rw[if_pos c1] at E hl;exact⟨Met.at @Se,_,_,_,_,E,.inl ⟨_,hl.symm,rfl⟩⟩
       ·rw[if_neg c1] at E hl;exact⟨Met.at @Se,_,_,_,_,E,.inr ⟨_,hl.symm,rfl⟩⟩
     ·rw[h1] at hl;rw[h4];exact .inr ⟨Met.at (gF hb W hn t 0 [44]),_,_,_,_,Met.at (zU hb W hn t 0 [59]),.inr ⟨_,hl.symm,rfl⟩⟩
    clear hW hl;rcases step with ⟨j,h4,sj,hj,h2,hj1,hl⟩|⟨Se,q5,a5,l5,e5,E,hF⟩
    ·rw[h4] at Wh;have Se:=λst p=>@zL base hb ts j hj 0 [44] st p;rw[sj] at Se;have FO4:=λst p=>@qP base hb ts j 0 st p;have hx:=zq j;unfold oC rC at *
     (have zz:=aI @g3 (aI @zx (aI @zY (aI V.ln (aI V.rts (aI @jp (aI @jt (aI @jx (aI @V (aI @jk (aI @jm (aI @jq (aI C0.r (aI C1.r C2.r)))))))))))));(repeat'(first|apply jd<;>intro _|simp(disch:=first|exact jK|fail) only[ja i0,ja i2,ja i3,ja i4,FO,NO,k1',vl,R,Nm,Eq,XZ,sm9,sm3,ve,FO3,Wh,Ap,V.at,jk,Se,FO4,hx,C0.q,C1.q,C2.q,g3,zx,zY,V.ln,V.rts,jp,jt,jx,V,jk,jm,jq,C0.r,C1.r,C2.r,r6,γ,δ,ε,ζ,η]));all_goals clear zz)
     refine⟨m+1,om,by(first|omega|(simp only[jf,je,jg,jh,ji];first|done|omega)),?c1,?has,vs ++ [aa],?v,?c3,?lv,.inl ⟨m,j+1,rfl,⟨om,by simp;omega⟩,hj1,?x1,hl,?x2⟩⟩;case lv=>
      refine Lv.up (hi:=s.nx+3) ?_ (by(first|omega|(simp only[jf,je,jg,jh,ji];first|done|omega)));simp(disch:=first|omega|(simp only[jf,je,jh,jg];omega)) only[jp,jt,jx];refine V2 _ _ ?_ ?_ ?_;all_goals first|(simp only[jf,je];done)|(simp only[jf,je];omega)|(simp(disch:=first|omega|(simp only[jf,je];omega)) only[jp,jt];exact V)
     case c1=>(have zz:=aI C0.q (aI C1.q (aI C2.q (aI @g3 (aI V.ln (aI V.rts (aI @jk (aI @jm (aI @jq (aI C0.r (aI C1.r C2.r))))))))));first|exact ju|fail)
     case has=>simp(disch:=decide) only[h12,i0,i2,i3]
     case c3=>(have zz:=aI C0.q (aI C1.q (aI C2.q (aI @g3 (aI V.ln (aI V.rts (aI @jk (aI @jm (aI @jq (aI C0.r (aI C1.r C2.r))))))))));first|exact ju|fail)
     case x1=>simp(disch:=decide) only[h12]
     case x2=>
      unfold oC rC
      (have zz:=aI C0.q (aI C1.q (aI C2.q (aI @g3 (aI V.ln (aI V.rts (aI @jk (aI @jm (aI @jq (aI C0.r (aI C1.r C2.r))))))))));first|exact ju|fail)
    ·have Se:∀ st p,Cl st p (rC ts q4 a4 l4 e4 Z0)->∀ K Kp,XB θ base 88 [.ptr p 0,.str [44]] st K Kp=K (.bool false) (wr st p 0 (rC ts q4 a4 l4 e4 Z0)):=Se;unfold oC rC at *
     (have zz:=aI @g3 (aI @zx (aI @zY (aI V.ln (aI V.rts (aI @jp (aI @jt (aI @jx (aI @V (aI @jk (aI @jm (aI @jq (aI C0.r (aI C1.r C2.r)))))))))))));(repeat'(first|apply jd<;>intro _|simp(disch:=first|exact jK|fail) only[ja i0,ja i2,ja i3,ja i4,FO,NO,k1',vl,R,Nm,Eq,XZ,sm9,sm3,ve,FO3,Wh,Ap,V.at,jk,Se,C0.q,C1.q,C2.q,g3,zx,zY,V.ln,V.rts,jp,jt,jx,V,jk,jm,jq,C0.r,C1.r,C2.r,r6,γ,δ,ε,ζ,η]));all_goals clear zz)
     refine⟨0,om,by(first|omega|(simp only[jf,je,jg,jh,ji];first|done|omega)),?c1b,?hasb,vs ++ [aa],?vb,?c3b,?lvb,.inr ⟨false,q4,a4,l4,e4,q5,a5,l5,e5,?x1b,?x2b,λh=>absurd h dc,E,hF⟩⟩;case lvb=>
      refine Lv.up (hi:=s.nx+3) ?_ (by(first|omega|(simp only[jf,je,jg,jh,ji];first|done|omega)));simp(disch:=first|omega|(simp only[jf,je,jh,jg];omega)) only[jp,jt,jx];refine V2 _ _ ?_ ?_ ?_;all_goals first|(simp only[jf,je];done)|(simp only[jf,je];omega)|(simp(disch:=first|omega|(simp only[jf,je];omega)) only[jp,jt];exact V)
     case c1b=>(have zz:=aI C0.q (aI C1.q (aI C2.q (aI @g3 (aI V.ln (aI V.rts (aI @jk (aI @jm (aI @jq (aI C0.r (aI C1.r C2.r))))))))));first|exact ju|fail)
     case hasb=>simp(disch:=decide) only[h12,i0,i2,i3]
     case c3b=>(have zz:=aI C0.q (aI C1.q (aI C2.q (aI @g3 (aI V.ln (aI V.rts (aI @jk (aI @jm (aI @jq (aI C0.r (aI C1.r C2.r))))))))));first|exact ju|fail)
     case x1b=>simp(disch:=decide) only[h12]
     case x2b=>
      unfold rC
      (have zz:=aI C0.q (aI C1.q (aI C2.q (aI @g3 (aI V.ln (aI V.rts (aI @jk (aI @jm (aI @jq (aI C0.r (aI C1.r C2.r))))))))));first|exact ju|fail)
   ·have hF:Fin ts 0 r ⟨x,vs⟩ (fC ts t 0):=.inr ⟨t,by rw[<-hl,aE t x1],rfl⟩;have fin:=λs' w (C:Cl s' 0 (fC ts t 0)) F=>@zM _ ts 0 ruA r _ _ w s' hF C F;rw[x3] at Eq;have FF:=λst p=>@yB base hb ts t 0 st p;clear hF hl aE aN;rcases Rk with ⟨k1,R⟩|⟨k1,R⟩
    ·have k1':((tk ts i').kind:Int)=1:=om
     have R:∀ st p,Cl st p (oC ts i' 0)->∀ K Kp,XB θ base 41 [.ptr p 0,.int .i64 (vs.length:Int),.agg (tk ts i').cells] st K Kp=K (.tup []) (wr st p 0 (rC ts q a l e Z0)):=R;unfold fC oC rC at *
     (have zz:=aI @g3 (aI @vc (aI @vcl (aI @vp (aI C0.r (aI C1.r C2.r)))));(repeat'(first|apply jd<;>intro _|simp(disch:=first|exact jK|fail) only[ja i0,ja i2,ja i3,ja i4,FO,NO,k1',vl,R,Nm,Eq,XZ,sm9,sm3,ve,FF,vc,C0.q,C1.q,C2.q,g3,vc,vcl,vp,C0.r,C1.r,C2.r,r6,γ,δ,ε,ζ,η]));all_goals clear zz)
     refine fin _ _ ?_ (Ko (hi:=s.nx) ?_)
     ·(have zz:=aI C0.q (aI C1.q (aI C2.q (aI @g3 (aI @vc (aI @vcl (aI @vp (aI C0.r (aI C1.r C2.r))))))));first|exact ju|fail)
     ·simp(disch:=first|omega|(simp only[jf,je,jh,jg];omega)) only[jE,jp,jt,jx];exact V
    ·have k1':¬ ((tk ts i').kind:Int)=1:=om
     rw[R] at Nm;unfold fC oC rC at *
     (have zz:=aI @g3 (aI @vc (aI @vcl (aI @vp (aI C0.r (aI C1.r C2.r)))));(repeat'(first|apply jd<;>intro _|simp(disch:=first|exact jK|fail) only[ja i0,ja i2,ja i3,ja i4,FO,NO,k1',vl,Nm,Eq,XZ,sm9,sm3,ve,FF,vc,C0.q,C1.q,C2.q,g3,vc,vcl,vp,C0.r,C1.r,C2.r,r6,γ,δ,ε,ζ,η]));all_goals clear zz)
     refine fin _ _ ?_ (Ko (hi:=s.nx) ?_)
     ·(have zz:=aI C0.q (aI C1.q (aI C2.q (aI @g3 (aI @vc (aI @vcl (aI @vp (aI C0.r (aI C1.r C2.r))))))));first|exact ju|fail)
     ·simp(disch:=first|omega|(simp only[jf,je,jh,jg];omega)) only[jE,jp,jt,jx];exact V
  ·have L0:=C0.lt;have E:∀ st p,Cl st p (rC ts q a l e Z0)->∀ K Kp,XB θ base 87 [.ptr p 0,.str [59]] st K Kp=K (.tup []) (wr st p 0 (rC ts q2 a2 l2 e2 Z0)):=E;have fin:=λs' w (C:Cl s' 0 (rC ts q2 a2 l2 e2 Z0)) F=>@zM _ ts 0 ruA r _ _ w s' hF C F;clear hF;cases b with
   |true=>
    have FF:∀ st p,Cl st p (rC ts q a l e Z0)->∀ K Kp,XB θ base 39 [.ptr p 0] st K Kp=K (.bool true) (wr st p 0 (rC ts q a l e Z0)):=hb1 rfl;unfold rC at *
    (have zz:=aI @g3 (aI @vc (aI @vcl (aI @vp (aI C0.r (aI C1.r C2.r)))));(repeat'(first|apply jd<;>intro _|simp(disch:=first|exact jK|fail) only[ja i0,ja i2,ja i3,ja i4,FF,E,vl,XZ,ve,vc,C0.q,C1.q,C2.q,g3,vc,vcl,vp,C0.r,C1.r,C2.r,r6,γ,δ,ε,ζ,η]));all_goals clear zz)
    refine fin _ _ ?_ (Ko (hi:=s.nx) ?_)
    ·(have zz:=aI C0.q (aI C1.q (aI C2.q (aI @g3 (aI @vc (aI @vcl (aI @vp (aI C0.r (aI C1.r C2.r))))))));first|exact ju|fail)
    ·simp(disch:=first|omega|(simp only[jf,je,jh,jg];omega)) only[jE,jp,jt,jx];exact V
   |false=>
    clear hb1;unfold rC at *
    (have zz:=aI @g3 (aI @vc (aI @vcl (aI @vp (aI C0.r (aI C1.r C2.r)))));(repeat'(first|apply jd<;>intro _|simp(disch:=first|exact jK|fail) only[ja i0,ja i2,ja i3,ja i4,E,vl,XZ,ve,vc,C0.q,C1.q,C2.q,g3,vc,vcl,vp,C0.r,C1.r,C2.r,r6,γ,δ,ε,ζ,η]));all_goals clear zz)
    refine fin _ _ ?_ (Ko (hi:=s.nx) ?_)
    ·(have zz:=aI C0.q (aI C1.q (aI C2.q (aI @g3 (aI @vc (aI @vcl (aI @vp (aI C0.r (aI C1.r C2.r))))))));first|exact ju|fail)
    ·simp(disch:=first|omega|(simp only[jf,je,jh,jg];omega)) only[jE,jp,jt,jx];exact V
 ·rcases start with ⟨j,e1,h2,h3⟩|⟨t,e1,e3⟩
  ·refine⟨QaA n0.symm,C1,?_,[],.nils,C2,Lv.nil,.inl ⟨ts.length,j,rfl,⟨om,Qaf _⟩,h2,?_,h3,e1▸C0⟩⟩
   ·simp(disch:=decide) only[h12]
   ·simp(disch:=decide) only[h12]
  ·refine⟨QaA n0.symm,C1,?_,[],.nils,C2,Lv.nil,.inr ⟨true,_,_,_,_,_,_,_,_,?_,C0,?_,?_,.inr ⟨t,e3,rfl⟩⟩⟩
   ·simp(disch:=decide) only[h12]
   ·simp(disch:=decide) only[h12]
   ·intro _;rw[e1];exact Met.at (yB hb ts t 0)
   ·rw[e1];exact Met.at (zU hb W hn t 0 [59])
def prA (p:ProcT):AV:=.agg (prE p)
theorem jhh (hb:NB base){ts:List Tk}(W:Wds ts)(hn:ts≠[])(O:∀ i,i<ts.length->yN (tk ts i)){i:Nat}(hi:i<ts.length):∃ y q a l e,At base 91 (oC ts i 0) [] (.ok (.agg (ruE y))) (rC ts q a l e Z0) /\
  ((∃ j,JB ts i=.ok y j/\i<j/\j<ts.length/\rC ts q a l e Z0=oC ts j 0)\/∃ t,JB ts i=.er t/\rC ts q a l e Z0=fC ts t 0):=by
 obtain⟨y,q,a,l,e,E,hE⟩:=(jiZ hb W hn O hi).at rfl λ_ _=>hb.no 91 dc _ _;refine⟨y,q,a,l,e,E,?_⟩;rcases hE with ⟨k,e1,e2⟩|⟨t,e1,e2⟩
 ·have:=uA W hi e1;exact .inl ⟨k,e1,this.1,this.2,e2⟩
 ·exact .inr ⟨t,e1,e2⟩
def PrI (ts:List Tk)(nm:List Nat)(ln co:Int)(r:SR ProcT)(mm:Nat)(L:Sl)(s:St):Prop:=
 4<=s.nx/\Cl s 1 [.str [],.nils,.int .i64 0,.int .i64 0]/\(Has L 0 (.ptr 0 0)/\Has L 2 (.ptr 1 0)/\Has L 4 (.ptr 3 0))/\∃ (vs:List RuleT) (v:AV),Cl s 3 [.str nm,v,.int .i64 ln,.int .i64 co]/\Lv 4 s.nx s v vs.length (fl ruE vs) 7 /\
  ((∃ m i',mm=m+1/\(ts.length<=i'+m/\vs.length<=32)/\i'<ts.length/\(match zO ts m i' vs with | .ok vs j=>SR.ok ⟨nm,vs,ln,co⟩ j | .er t=>.er t:SR ProcT)=r/\Cl s 0 (oC ts i' 0)) \/
   (∃ t,r=.er t/\Cl s 0 (fC ts t 0)))
theorem jgq {nm:List Nat}{vs:List RuleT}{ln co:Int}{s:St}{v:AV}{hi:Nat}(V:Lv 4 hi s v vs.length (fl ruE vs) 7):FzD 1 9000009 s (.agg [.str nm,v,.int .i64 ln,.int .i64 co]) (prA ⟨nm,vs,ln,co⟩):=
 FzD.agg (.cons (.pc rfl) (.cons (Lv.fz (lo:=4) (hi:=hi) (z:=7) V dc (JH Vb _)) (.cons (.pc rfl) (.cons (.pc rfl) .nil))))
set_option maxHeartbeats 4000000 in
theorem ji9 (hb:NB base){ts:List Tk}(W:Wds ts)(hn:ts≠[])(O:∀ i,i<ts.length->yN (tk ts i)){i:Nat}(hi:i<ts.length):AnC base 44 (oC ts i 0) [] ts 0 prA (JC ts i):=by
 have wl:=W.len;obtain⟨r,hr⟩:∃ r,JC ts i=r:=⟨_,rfl⟩;rw[hr];unfold JC at hr;have N:=QY (d:=0) hb W hn hi;have start:∃ q a l e q2 a2 l2 e2,(if(tk ts i).kind=1 then oC ts (i+1) 0 else fC ts (tk ts i) 0)=rC ts q a l e Z0/\At base 87 (rC ts q a l e Z0) [.str [123]] (.ok (.tup [])) (rC ts q2 a2 l2 e2 Z0) /\
   ((rC ts q2 a2 l2 e2 Z0=oC ts (i+2) 0/\i+2<ts.length/\(match zO ts ts.length (i+2) [] with | .ok vs j=>SR.ok ⟨(tk ts i).text,vs,(tk ts i).line,(tk ts i).col⟩ j | .er t=>.er t:SR ProcT)=r)\/∃ t,rC ts q2 a2 l2 e2 Z0=fC ts t 0/\r=.er t):=by
  by_cases k1:(tk ts i).kind=1
  ·rw[if_pos k1] at hr ⊢;have hi1:i+1<ts.length:=W.next i hi om
   have M:=Qa (d:=0) hb W hn hi1 [123];have sb:jX (tk ts (i+1)) [123]=isM (tk ts (i+1)) [[123]]:=qV (O _ hi1) dc;rw[sb] at M;by_cases c1:isM (tk ts (i+1)) [[123]]=true
   ·rw[if_pos c1] at M hr;exact⟨_,_,_,_,_,_,_,_,rfl,M,.inl ⟨rfl,W.isM hi1 c1,hr⟩⟩
   ·rw[if_neg c1] at M hr;exact⟨_,_,_,_,_,_,_,_,rfl,M,.inr ⟨_,rfl,hr.symm⟩⟩
  ·rw[if_neg k1] at hr ⊢;exact⟨_,_,_,_,_,_,_,_,rfl,Met.at (zU hb W hn _ 0 [123]),.inr ⟨_,rfl,hr.symm⟩⟩
 obtain⟨q,a,l,e,q2,a2,l2,e2,g1,M,start⟩:=start;rw[g1] at N;clear g1 hr;refine Zs x44 (by rfl) (hb.pur 44 3 dc) ?_;simp only[y44,jn,ν,ξ,τ,υ];rw[(by unfold z44;simp only[qq];rfl:z44=_)];have N:∀ st p,Cl st p (oC ts i 0)->∀ K Kp,XB θ base 86 [.ptr p 0] st K Kp=K (.agg (tk ts i).cells) (wr st p 0 (rC ts q a l e Z0)):=N;have M:∀ st p,Cl st p (rC ts q a l e Z0)->∀ K Kp,XB θ base 87 [.ptr p 0,.str [123]] st K Kp=K (.tup []) (wr st p 0 (rC ts q2 a2 l2 e2 Z0)):=M;have er:rC ts i 0 0 0 Z0=[.lst ts.length (fl Tk.cells ts),.int .i64 (i:Int),.int .i64 0,.int .i64 0,.int .i64 0,.int .i64 Z0]:=rfl;unfold oC rC at N M;rw[er];repeat'(first|apply jd<;>intro _|simp(disch:=first|exact dzD|fail) only[N,M,r6,γ,δ,ε,ζ,η])
 refine yF λu hu=>?_;have n0:u.nx=4:=by rw[hu];rfl
 have C0:Cl u 0 (rC ts q2 a2 l2 e2 Z0):=by
  rw[hu];unfold rC
  (first|exact cyD|fail)
 have C1:Cl u 1 [.str [],.nils,.int .i64 0,.int .i64 0]:=by
  rw[hu]
  (first|exact cyD|fail)
 have C3:Cl u 3 [.str (tk ts i).text,.nils,.int .i64 ((tk ts i).line:Int),.int .i64 ((tk ts i).col:Int)]:=by
  rw[hu]
  (first|exact cyD|fail)
 clear hu N M er;generalize (tk ts i).text=nm at *;generalize ((tk ts i).line:Int)=ln at *;generalize ((tk ts i).col:Int)=co at *;refine qB (PrI ts nm ln co r) ?_ (ts.length+1) ?_
 ·clear start C0 C1 C3 n0 u;rintro mm L s ⟨n0,C1,⟨i0,i2,i4⟩,vs,v,C3,V,hA⟩;have L1:=C1.lt;have L3:=C3.lt;have ve:=V.eqs;have g3:rat s.h 3 1=v:=C3.cell 1 (Qbc (QaR 2));have vl:=V.len;have vc:=V.cells;have vcl:∀ l,lall AV.cell (v :: l)=lall AV.cell l:=λl=>by rw[Jn,Jn,Qaz,V.cell,QaZ]
  have vp:=V.plain;rcases hA with ⟨m,i',rfl,⟨hm,h32⟩,hi',hl,C0⟩|⟨t,e9,C0⟩
  ·have L0:=C0.lt;cases m with
   |zero=>omega
   |succ m=>
   unfold zO at hl;have FO:=λst p=>@qP base hb ts i' 0 st p;have NO:=λst p=>@X3 base hb ts i' hi' 0 st p;have Se:=λst p=>@zL base hb ts i' hi' 0 [119,104,101,110] st p;rw[qV (O _ hi') dc] at Se;by_cases c2:isM (tk ts i') [[119,104,101,110]]=true
   ·rw[if_pos c2] at hl;rw[c2] at Se;have hi1:=W.isM hi' c2;have R:=Xv hb W hn i' 0 vs.length (tk ts i');by_cases h32':32<=vs.length
    ·rw[if_pos h32'] at R hl;have e9:r=.er (tk ts i'):=hl.symm;have R:∀ st p,Cl st p (oC ts i' 0)->∀ K Kp,XB θ base 41 [.ptr p 0,.int .i64 (vs.length:Int),.agg (tk ts i').cells] st K Kp=K (.tup []) (wr st p 0 (fC ts (tk ts i') 0)):=R;have FF:=λst p=>@yB base hb ts (tk ts i') 0 st p;unfold fC oC rC at *
     (have zz:=aI @g3 (aI @vc (aI @vcl (aI @vp (aI C0.r (aI C1.r C3.r)))));(repeat'(first|apply jd<;>intro _|simp(disch:=first|exact jK|fail) only[ja i0,ja i2,ja i4,FO,NO,Se,vl,R,FF,Up,ve,vc,C0.q,C1.q,C3.q,g3,vc,vcl,vp,C0.r,C1.r,C3.r,r6,γ,δ,ε,ζ,η]));all_goals clear zz)
     refine⟨0,om,by(first|omega|(simp only[jf,je,jg,jh,ji];first|done|omega)),?_,?_,vs,v,?_,?_,.inr ⟨tk ts i',e9,?_⟩⟩
     ·(have zz:=aI C0.q (aI C1.q (aI C3.q (aI @g3 (aI @vc (aI @vcl (aI @vp (aI C0.r (aI C1.r C3.r))))))));first|exact ju|fail)
     ·simp(disch:=decide) only[h12,i0,i2,i4]
     ·(have zz:=aI C0.q (aI C1.q (aI C3.q (aI @g3 (aI @vc (aI @vcl (aI @vp (aI C0.r (aI C1.r C3.r))))))));first|exact ju|fail)
     ·refine Lv.up (hi:=s.nx) ?_ (by(first|omega|(simp only[jf,je,jg,jh,ji];first|done|omega)));simp(disch:=first|omega|(simp only[jf,je,jh,jg];omega)) only[jE,jp,jt,jx];exact V
     ·unfold fC rC
      (have zz:=aI C0.q (aI C1.q (aI C3.q (aI @g3 (aI @vc (aI @vcl (aI @vp (aI C0.r (aI C1.r C3.r))))))));first|exact ju|fail)
    ·rw[if_neg h32'] at R hl;have R:∀ st p,Cl st p (oC ts i' 0)->∀ K Kp,XB θ base 41 [.ptr p 0,.int .i64 (vs.length:Int),.agg (tk ts i').cells] st K Kp=K (.tup []) (wr st p 0 (oC ts i' 0)):=R;obtain⟨a,q,aa,la,ea,Ru,hR⟩:=jhh hb W hn O hi1;rw[Yc] at Ru;have Ru:∀ st p,Cl st p (oC ts (i'+1) 0)->∀ K Kp,XB θ base 91 [.ptr p 0] st K Kp=K (.agg [.int .i64 a.when.op,.int .i64 a.when.num,.str a.when.name,.lst a.when.kids.length (fl eE a.when.kids),.int .i64 a.when.line,.int .i64 a.when.col,.lst a.acts.length (fl asE a.acts)]) (wr st p 0 (rC ts q aa la ea Z0)):=Ru;have nx:(∃ j,i'+1<j/\j<ts.length/\rC ts q aa la ea Z0=oC ts j 0/\(match zO ts m j (vs ++ [a]) with | .ok vs j=>SR.ok ⟨nm,vs,ln,co⟩ j | .er t=>.er t:SR ProcT)=r)\/∃ t,r=.er t/\rC ts q aa la ea Z0=fC ts t 0:=by
      rcases hR with ⟨j,h1,h2,h3,h4⟩|⟨t,h1,h4⟩
      ·rw[h1] at hl;exact .inl ⟨j,h2,h3,h4,hl⟩
      ·rw[h1] at hl;exact .inr ⟨t,hl.symm,h4⟩
     clear hR hl;have hx:=zq i';have Ap:=λst bv xc xx K h hv=>@Qr 4 s.nx vs.length 7 st v (fl ruE vs) K 96 bv xc xx h dc om om hv;have V2:∀ st m',Lv 4 s.nx st v vs.length (fl ruE vs) 7->4<=st.nx->m'=st.nx+1->Lv 4 m' (aps v st [.int .i64 a.when.op,.int .i64 a.when.num,.str a.when.name,.lst a.when.kids.length (fl eE a.when.kids),.int .i64 a.when.line,.int .i64 a.when.col,.lst a.acts.length (fl asE a.acts)]) (apv 7 v st) (vs ++ [a]).length (fl ruE (vs ++ [a])) 7:=λst m' h h2 h3=>by
      rw[Qag,Jp,zu,Yc a];exact h.put rfl h2 h3
     have key:∀ L' s',Cl s' 0 (rC ts q aa la ea Z0)->4<=s'.nx->Cl s' 1 [.str [],.nils,.int .i64 0,.int .i64 0]->(Has L' 0 (.ptr 0 0)/\Has L' 2 (.ptr 1 0)/\Has L' 4 (.ptr 3 0))->∀ w,Lv 4 s'.nx s' w (vs ++ [a]).length (fl ruE (vs ++ [a])) 7->Cl s' 3 [.str nm,w,.int .i64 ln,.int .i64 co]->∃ mm,mm<m+1+1/\PrI ts nm ln co r mm L' s':=by
      intro L' s' c0 cn c1 ch w cv c3;rcases nx with ⟨j,h2,h3,h4,hl⟩|⟨t,e9,h4⟩
      ·exact⟨m+1,om,cn,c1,ch,vs ++ [a],w,c3,cv,.inl ⟨m,j,rfl,⟨om,by simp;omega⟩,h3,hl,h4▸c0⟩⟩
      ·exact⟨0,om,cn,c1,ch,vs ++ [a],w,c3,cv,.inr ⟨t,e9,h4▸c0⟩⟩
     clear nx;unfold oC rC at *
     (have zz:=aI @g3 (aI V.ln (aI V.rts (aI @jp (aI @jt (aI @jx (aI @V (aI @jk (aI @jm (aI @jq (aI C0.r (aI C1.r C3.r)))))))))));(repeat'(first|apply jd<;>intro _|simp(disch:=first|exact jK|fail) only[ja i0,ja i2,ja i4,FO,NO,Se,vl,R,Ru,hx,g3,Up,ve,Ap,V.at,jk,C0.q,C1.q,C3.q,g3,V.ln,V.rts,jp,jt,jx,V,jk,jm,jq,C0.r,C1.r,C3.r,r6,γ,δ,ε,ζ,η]));all_goals clear zz)
     refine key _ _ ?c0 ?nx ?c1 ?has ?v ?lv ?c3;case lv=>
      refine Lv.up (hi:=s.nx+2) ?_ (by(first|omega|(simp only[jf,je,jg,jh,ji];first|done|omega)));simp(disch:=first|omega|(simp only[jf,je,jh,jg];omega)) only[jp,jt,jx];refine V2 _ _ ?_ ?_ ?_;all_goals first|(simp only[jf,je,jg];done)|(simp only[jf,je,jg];omega)|(simp(disch:=first|omega|(simp only[jf,je,jg];omega)) only[jp,jt,jx];exact V)
     case c0=>(have zz:=aI C0.q (aI C1.q (aI C3.q (aI @g3 (aI V.ln (aI V.rts (aI @jk (aI @jm (aI @jq (aI C0.r (aI C1.r C3.r))))))))));first|exact ju|fail)
     case nx=>(first|omega|(simp only[jf,je,jg,jh,ji];first|done|omega))
     case c1=>(have zz:=aI C0.q (aI C1.q (aI C3.q (aI @g3 (aI V.ln (aI V.rts (aI @jk (aI @jm (aI @jq (aI C0.r (aI C1.r C3.r))))))))));first|exact ju|fail)
     case has=>simp(disch:=decide) only[h12,i0,i2,i4]
     case c3=>(have zz:=aI C0.q (aI C1.q (aI C3.q (aI @g3 (aI V.ln (aI V.rts (aI @jk (aI @jm (aI @jq (aI C0.r (aI C1.r C3.r))))))))));first|exact ju|fail)
   ·rw[if_neg c2] at hl;rw[QaB.2 c2] at Se;have E:=Qa (d:=0) hb W hn hi' [125];have sb:jX (tk ts i') [125]=isM (tk ts i') [[125]]:=qV (O _ hi') dc;rw[sb] at E;obtain⟨q,aa,la,ea,hE,hF⟩:∃ q a l e,At base 87 (oC ts i' 0) [.str [125]] (.ok (.tup [])) (rC ts q a l e Z0)/\Fin ts 0 r ⟨nm,vs,ln,co⟩ (rC ts q a l e Z0):=by
     by_cases c1:isM (tk ts i') [[125]]=true
     ·rw[if_pos c1] at E hl;exact⟨_,_,_,_,E,.inl ⟨_,hl.symm,rfl⟩⟩
     ·rw[if_neg c1] at E hl;exact⟨_,_,_,_,E,.inr ⟨_,hl.symm,rfl⟩⟩
    have E:∀ st p,Cl st p (oC ts i' 0)->∀ K Kp,XB θ base 87 [.ptr p 0,.str [125]] st K Kp=K (.tup []) (wr st p 0 (rC ts q aa la ea Z0)):=hE;have fin:=λs' w (C:Cl s' 0 (rC ts q aa la ea Z0)) F=>@zM _ ts 0 prA r ⟨nm,vs,ln,co⟩ _ w s' hF C F;clear hE hF hl;unfold oC rC at *
    (have zz:=aI @g3 (aI @vc (aI @vcl (aI @vp (aI C0.r (aI C1.r C3.r)))));(repeat'(first|apply jd<;>intro _|simp(disch:=first|exact jK|fail) only[ja i0,ja i2,ja i4,FO,Se,E,vl,Up,ve,vc,C0.q,C1.q,C3.q,g3,vc,vcl,vp,C0.r,C1.r,C3.r,r6,γ,δ,ε,ζ,η]));all_goals clear zz)
    refine fin _ _ ?_ (jgq (hi:=s.nx) ?_)
    ·(have zz:=aI C0.q (aI C1.q (aI C3.q (aI @g3 (aI @vc (aI @vcl (aI @vp (aI C0.r (aI C1.r C3.r))))))));first|exact ju|fail)
    ·simp(disch:=first|omega|(simp only[jf,je,jh,jg];omega)) only[jE,jp,jt,jx];exact V
  ·have L0:=C0.lt;have FF:=λst p=>@yB base hb ts t 0 st p;have E:=λst p=>@zU base hb ts W hn t 0 [125] st p;have fin:=λs' w (C:Cl s' 0 (fC ts t 0)) F=>@zM _ ts 0 prA r ⟨nm,vs,ln,co⟩ _ w s' (.inr ⟨t,e9,rfl⟩) C F;unfold fC rC at *
   (have zz:=aI @g3 (aI @vc (aI @vcl (aI @vp (aI C0.r (aI C1.r C3.r)))));(repeat'(first|apply jd<;>intro _|simp(disch:=first|exact jK|fail) only[ja i0,ja i2,ja i4,FF,E,vl,Up,ve,vc,C0.q,C1.q,C3.q,g3,vc,vcl,vp,C0.r,C1.r,C3.r,r6,γ,δ,ε,ζ,η]));all_goals clear zz)
   refine fin _ _ ?_ (jgq (hi:=s.nx) ?_)
   ·(have zz:=aI C0.q (aI C1.q (aI C3.q (aI @g3 (aI @vc (aI @vcl (aI @vp (aI C0.r (aI C1.r C3.r))))))));first|exact ju|fail)
   ·simp(disch:=first|omega|(simp only[jf,je,jh,jg];omega)) only[jE,jp,jt,jx];exact V
 ·rcases start with ⟨e1,h2,h3⟩|⟨t,e1,e3⟩
  ·refine⟨QaA n0.symm,C1,?_,[],.nils,C3,Lv.nil,.inl ⟨ts.length,i+2,rfl,⟨om,Qaf _⟩,h2,h3,e1▸C0⟩⟩;simp(disch:=decide) only[h12]
  ·refine⟨QaA n0.symm,C1,?_,[],.nils,C3,Lv.nil,.inr ⟨t,e3,e1▸C0⟩⟩;simp(disch:=decide) only[h12]
end Go.Sy
end
noncomputable section
set_option maxRecDepth 100000
namespace Go.Sy
open Go.Ev Go.Proofs
variable {base:Bs}
def SrI (ts:List Tk)(r:SR SrcT)(mm:Nat)(L:Sl)(s:St):Prop:=
 5<=s.nx/\Cl s 0 [.nils,.nils,.nils]/\Cl s 1 [.int .i64 0,.int .i64 0,.int .i64 0]/\(Has L 2 (.ptr 0 0)/\Has L 3 (.ptr 1 0)/\Has L 6 (.ptr 3 0)/\Has L 7 (.ptr 4 0))/\∃ (x:SrcT) (v1 v2 v3:AV),Cl s 4 [v1,v2,v3] /\
  Lv 5 s.nx s v1 x.enums.length (fl enE x.enums) 4/\Lv 5 s.nx s v2 x.vars.length (fl qk x.vars) 7/\Lv 5 s.nx s v3 x.procs.length (fl prE x.procs) 4/\Df v1 v2/\Df v1 v3/\Df v2 v3 /\
  ((∃ m i',mm=m+1/\ts.length<=i'+m/\i'<ts.length/\zX ts m i' x=r/\Cl s 3 (oC ts i' 0))\/∃ t,r=.er t/\Cl s 3 (fC ts t 0))
theorem jhH (hb:NB base){ts:List Tk}(W:Wds ts)(hn:ts≠[])(O:∀ i,i<ts.length->yN (tk ts i)){i:Nat}(hi:i<ts.length):∃ y q a l e,At base 42 (oC ts i 0) [] (.ok (.agg (enE y))) (rC ts q a l e Z0) /\
  ((∃ j,JI ts i=.ok y j/\i<j/\j<ts.length/\rC ts q a l e Z0=oC ts j 0)\/∃ t,JI ts i=.er t/\rC ts q a l e Z0=fC ts t 0):=by
 obtain⟨y,q,a,l,e,E,hE⟩:=(jjE (d:=0) hb W hn O hi).at rfl λ_ _=>hb.no 42 dc _ _;refine⟨y,q,a,l,e,E,?_⟩;rcases hE with ⟨k,e1,e2⟩|⟨t,e1,e2⟩
 ·have:=UL W hi e1;exact .inl ⟨k,e1,this.1,this.2,e2⟩
 ·exact .inr ⟨t,e1,e2⟩
theorem jhI (hb:NB base){ts:List Tk}(W:Wds ts)(hn:ts≠[])(O:∀ i,i<ts.length->yN (tk ts i))(Nb:Nbs ts){i:Nat}(hi:i<ts.length):∃ y q a l e,At base 43 (oC ts i 0) [] (.ok (.agg (qk y))) (rC ts q a l e Z0) /\
  ((∃ j,JJ ts i=.ok y j/\i<j/\j<ts.length/\rC ts q a l e Z0=oC ts j 0)\/∃ t,JJ ts i=.er t/\rC ts q a l e Z0=fC ts t 0):=by
 obtain⟨y,q,a,l,e,E,hE⟩:=(jjJ hb W hn O Nb hi).at rfl λ_ _=>hb.no 43 dc _ _;refine⟨y,q,a,l,e,E,?_⟩;rcases hE with ⟨k,e1,e2⟩|⟨t,e1,e2⟩
 ·have:=UP W hi e1;exact .inl ⟨k,e1,this.1,this.2,e2⟩
 ·exact .inr ⟨t,e1,e2⟩
theorem jhp (hb:NB base){ts:List Tk}(W:Wds ts)(hn:ts≠[])(O:∀ i,i<ts.length->yN (tk ts i)){i:Nat}(hi:i<ts.length):∃ y q a l e,At base 44 (oC ts i 0) [] (.ok (.agg (prE y))) (rC ts q a l e Z0) /\
  ((∃ j,JC ts i=.ok y j/\i<j/\j<ts.length/\rC ts q a l e Z0=oC ts j 0)\/∃ t,JC ts i=.er t/\rC ts q a l e Z0=fC ts t 0):=by
 obtain⟨y,q,a,l,e,E,hE⟩:=(ji9 hb W hn O hi).at rfl λ_ _=>hb.no 44 dc _ _;refine⟨y,q,a,l,e,E,?_⟩;rcases hE with ⟨k,e1,e2⟩|⟨t,e1,e2⟩
 ·have:=Uu W hi e1;exact .inl ⟨k,e1,this.1,this.2,e2⟩
 ·exact .inr ⟨t,e1,e2⟩
set_option maxHeartbeats 4000000 in
theorem jkx (hb:NB base){ts:List Tk}(W:Wds ts)(hn:ts≠[])(O:∀ i,i<ts.length->yN (tk ts i))(Nb:Nbs ts){m i' tb:Nat}{x:SrcT}{v1 v2 v3:AV}{L:Sl}{s:St}{r:SR SrcT}(hm:ts.length<=i'+(m+1))(hi1:i'+1<ts.length)
  (hl:(if 32<=x.enums.length then SR.er (tk ts i') else match JI ts (i'+1) with | .er t=>.er t | .ok e j=>zX ts m j { x with enums:=x.enums ++ [e] })=r)
  (C0:Cl s 0 [.nils,.nils,.nils]) (C1:Cl s 1 [.int .i64 0,.int .i64 0,.int .i64 0]) (C3:Cl s 3 (oC ts (i'+1) 0)) (C4:Cl s 4 [v1,v2,v3]) (CT:Cl s tb (tk ts i').cells) (ht:5<=tb)
  (V1:Lv 5 tb s v1 x.enums.length (fl enE x.enums) 4) (V2:Lv 5 tb s v2 x.vars.length (fl qk x.vars) 7) (V3:Lv 5 tb s v3 x.procs.length (fl prE x.procs) 4) (D12:Df v1 v2) (D13:Df v1 v3) (D23:Df v2 v3)
  (i2:Has L 2 (.ptr 0 0)) (i3:Has L 3 (.ptr 1 0)) (i6:Has L 6 (.ptr 3 0)) (i7:Has L 7 (.ptr 4 0)) (i8:Has L 8 (.ptr tb 0)) {Q:Out->Prop} {Kp:AV->Sl->St->Prop}
  (hQ:∀ mm L' s',mm<m+1+1->SrI ts r mm L' s'->Q (.go L' s')):xC θ base Uc L s Q Kp:=by
 have wl:=W.len;have L0:=C0.lt;have L1:=C1.lt;have L3:=C3.lt;have L4:=C4.lt;have LT:=CT.lt;have ve1:=V1.eqs;have g1:rat s.h 4 0=v1:=C4.cell 0 (show 0<3 by decide);have vl1:=V1.len;have vc1:∀ l,lall AV.cell (v1 :: l)=lall AV.cell l:=λl=>by show cond v1.cell _ false=_;rw[V1.cell];rfl
 have vc2:∀ l,lall AV.cell (v2 :: l)=lall AV.cell l:=λl=>by show cond v2.cell _ false=_;rw[V2.cell];rfl
 have vc3:∀ l,lall AV.cell (v3 :: l)=lall AV.cell l:=λl=>by show cond v3.cell _ false=_;rw[V3.cell];rfl
 have vp1:=V1.plain;have vp2:=V2.plain;have vp3:=V3.plain;have R:=Xv hb W hn (i'+1) 0 x.enums.length (tk ts i');by_cases h32:32<=x.enums.length
 ·rw[if_pos h32] at R hl;have e9:r=.er (tk ts i'):=hl.symm;have R:∀ st p,Cl st p (oC ts (i'+1) 0)->∀ K Kp,XB θ base 41 [.ptr p 0,.int .i64 (x.enums.length:Int),.agg [.int .i64 ((tk ts i').kind:Int),.str (tk ts i').text,.int .i64 ((tk ts i').num:Int),.int .i64 ((tk ts i').line:Int),.int .i64 ((tk ts i').col:Int)]] st K Kp=K (.tup []) (wr st p 0 (fC ts (tk ts i') 0)):=R;have FF:=λst p=>@yB base hb ts (tk ts i') 0 st p;rw[(by unfold Uc;simp only[qq];rfl:Uc=_)];unfold fC oC rC at *
  (have zz:=aI @g1 (aI C0.r (aI C1.r (aI C3.r (aI C4.r @CT.r))));(repeat'(first|apply jd<;>intro _|simp(disch:=first|exact jK|fail) only[ja i6,ja i7,ja i8,vl1,R,FF,g1,C0.q,C1.q,C3.q,C4.q,CT.q,g1,C0.r,C1.r,C3.r,C4.r,CT.r,r6,γ,δ,ε,ζ,η]));all_goals clear zz)
  refine hQ 0 _ _ om ⟨?_,?c0,?c1,?has,x,v1,v2,v3,?c4,?_,?_,?_,D12,D13,D23,.inr ⟨tk ts i',e9,?c3⟩⟩;case c0=>(have zz:=aI C0.q (aI C1.q (aI C3.q (aI C4.q (aI @CT.q (aI C0.r (aI C1.r (aI C3.r (aI C4.r @CT.r))))))));first|exact ju|fail)
  case c1=>(have zz:=aI C0.q (aI C1.q (aI C3.q (aI C4.q (aI @CT.q (aI C0.r (aI C1.r (aI C3.r (aI C4.r @CT.r))))))));first|exact ju|fail)
  case c4=>(have zz:=aI C0.q (aI C1.q (aI C3.q (aI C4.q (aI @CT.q (aI C0.r (aI C1.r (aI C3.r (aI C4.r @CT.r))))))));first|exact ju|fail)
  case c3=>
   unfold fC rC
   (have zz:=aI C0.q (aI C1.q (aI C3.q (aI C4.q (aI @CT.q (aI C0.r (aI C1.r (aI C3.r (aI C4.r @CT.r))))))));first|exact ju|fail)
  case has=>simp(disch:=decide) only[h12,i2,i3,i6,i7]
  ·(first|omega|(simp only[jf,je,jg,jh,ji];first|done|omega))
  ·refine Lv.up (hi:=tb) ?_ ?_
   ·simp(disch:=omega) only[jp];exact V1
   ·(first|omega|(simp only[jf,je,jg,jh,ji];first|done|omega))
  ·refine Lv.up (hi:=tb) ?_ ?_
   ·simp(disch:=omega) only[jp];exact V2
   ·(first|omega|(simp only[jf,je,jg,jh,ji];first|done|omega))
  ·refine Lv.up (hi:=tb) ?_ ?_
   ·simp(disch:=omega) only[jp];exact V3
   ·(first|omega|(simp only[jf,je,jg,jh,ji];first|done|omega))
 ·rw[if_neg h32] at R hl;have R:∀ st p,Cl st p (oC ts (i'+1) 0)->∀ K Kp,XB θ base 41 [.ptr p 0,.int .i64 (x.enums.length:Int),.agg [.int .i64 ((tk ts i').kind:Int),.str (tk ts i').text,.int .i64 ((tk ts i').num:Int),.int .i64 ((tk ts i').line:Int),.int .i64 ((tk ts i').col:Int)]] st K Kp=K (.tup []) (wr st p 0 (oC ts (i'+1) 0)):=R;have FO:=λst p=>@qP base hb ts (i'+1) 0 st p;obtain⟨a,q,aa,la,ea,E,hE⟩:=jhH hb W hn O hi1;have E:∀ st p,Cl st p (oC ts (i'+1) 0)->∀ K Kp,XB θ base 42 [.ptr p 0] st K Kp=K (.agg [.str a.name,.lst a.vals.length (a.vals.map .str),.int .i64 (a.line:Int),.int .i64 (a.col:Int)]) (wr st p 0 (rC ts q aa la ea Z0)):=E;have nx:(∃ j,i'+1<j/\j<ts.length/\rC ts q aa la ea Z0=oC ts j 0/\zX ts m j { x with enums:=x.enums ++ [a] }=r)\/∃ t,r=.er t/\rC ts q aa la ea Z0=fC ts t 0:=by
   rcases hE with ⟨j,h1,h2,h3,h4⟩|⟨t,h1,h4⟩
   ·rw[h1] at hl;exact .inl ⟨j,h2,h3,h4,hl⟩
   ·rw[h1] at hl;exact .inr ⟨t,hl.symm,h4⟩
  clear hE hl;have Ap:=λst bv xc xx K h hv=>@Qr 5 tb x.enums.length 4 st v1 (fl enE x.enums) K 56 bv xc xx h dc om om hv;have VP:∀ st m',Lv 5 tb st v1 x.enums.length (fl enE x.enums) 4->5<=st.nx->m'=st.nx+1->Lv 5 m' (aps v1 st [.str a.name,.lst a.vals.length (a.vals.map .str),.int .i64 (a.line:Int),.int .i64 (a.col:Int)]) (apv 4 v1 st) (x.enums ++ [a]).length (fl enE (x.enums ++ [a])) 4:=λst m' h h2 h3=>by
   rw[Qag,Jp,zu];exact h.put rfl h2 h3
  have key:∀ L' s',Cl s' 3 (rC ts q aa la ea Z0)->5<=s'.nx->Cl s' 0 [.nils,.nils,.nils]->Cl s' 1 [.int .i64 0,.int .i64 0,.int .i64 0]->(Has L' 2 (.ptr 0 0)/\Has L' 3 (.ptr 1 0)/\Has L' 6 (.ptr 3 0)/\Has L' 7 (.ptr 4 0))->∀ w,Cl s' 4 [w,v2,v3]->
    Lv 5 s'.nx s' w (x.enums ++ [a]).length (fl enE (x.enums ++ [a])) 4->Lv 5 s'.nx s' v2 x.vars.length (fl qk x.vars) 7->Lv 5 s'.nx s' v3 x.procs.length (fl prE x.procs) 4->Df w v2->Df w v3->Q (.go L' s'):=by
   intro L' s' c3 cn c0 c1 ch w c4 cw co cp d d';rcases nx with ⟨j,h2,h3,h4,hl⟩|⟨t,e9,h4⟩
   ·exact hQ (m+1) L' s' om ⟨cn,c0,c1,ch,{ x with enums:=x.enums ++ [a] },w,v2,v3,c4,cw,co,cp,d,d',D23,.inl ⟨m,j,rfl,om,h3,hl,h4▸c3⟩⟩
   ·exact hQ 0 L' s' om ⟨cn,c0,c1,ch,{ x with enums:=x.enums ++ [a] },w,v2,v3,c4,cw,co,cp,d,d',D23,.inr ⟨t,e9,h4▸c3⟩⟩
  clear nx;rw[(by unfold Uc;simp only[qq];rfl:Uc=_)];unfold oC rC at *
  (have zz:=aI @g1 (aI V1.ln (aI V1.rts (aI @jp (aI @jt (aI @jx (aI @V1 (aI @jk (aI @jm (aI @jq (aI C0.r (aI C1.r (aI C3.r (aI C4.r @CT.r)))))))))))));(repeat'(first|apply jd<;>intro _|simp(disch:=first|exact jK|fail) only[ja i6,ja i7,ja i8,vl1,R,FO,E,g1,jeO,ve1,Ap,V1.at,jk,C0.q,C1.q,C3.q,C4.q,CT.q,g1,V1.ln,V1.rts,jp,jt,jx,V1,jk,jm,jq,C0.r,C1.r,C3.r,C4.r,CT.r,r6,γ,δ,ε,ζ,η]));all_goals clear zz)
  refine key _ _ ?c3 ?nx ?c0 ?c1 ?has ?w ?c4 ?lv ?lo ?lp ?d1 ?d2;case lv=>
   refine Lv.up (hi:=s.nx+2) ?_ (by(first|omega|(simp only[jf,je,jg,jh,ji];first|done|omega)));simp(disch:=first|omega|(simp only[jf,je,jh,jg];omega)) only[jp,jt,jx];refine VP _ _ ?_ ?_ ?_;all_goals first|(simp only[jf,je,jg];done)|(simp only[jf,je,jg];omega)|(simp(disch:=first|omega|(simp only[jf,je,jg];omega)) only[jp,jt,jx];exact V1)
  case lo=>
   refine Lv.up (hi:=tb) ?_ (by(first|omega|(simp only[jf,je,jg,jh,ji];first|done|omega)));simp(disch:=first|omega|(simp only[jf,je,jh,jg];omega)) only[jp,jt,jx];refine Lv.apsD ?_ D12;simp(disch:=first|omega|(simp only[jf,je,jg];omega)) only[jp,jt,jx];exact V2
  case d1=>exact(Df.put V2 (by simp only[jf,je,jg];omega)).1
  case lp=>
   refine Lv.up (hi:=tb) ?_ (by(first|omega|(simp only[jf,je,jg,jh,ji];first|done|omega)));simp(disch:=first|omega|(simp only[jf,je,jh,jg];omega)) only[jp,jt,jx];refine Lv.apsD ?_ D13;simp(disch:=first|omega|(simp only[jf,je,jg];omega)) only[jp,jt,jx];exact V3
  case d2=>exact(Df.put V3 (by simp only[jf,je,jg];omega)).1
  case c0=>(have zz:=aI C0.q (aI C1.q (aI C3.q (aI C4.q (aI @CT.q (aI @g1 (aI V1.ln (aI V1.rts (aI @jk (aI @jm (aI @jq (aI @vc1 (aI @vc2 (aI @vc3 (aI @vp1 (aI @vp2 (aI @vp3 (aI C0.r (aI C1.r (aI C3.r (aI C4.r @CT.r))))))))))))))))))));first|exact ju|fail)
  case c1=>(have zz:=aI C0.q (aI C1.q (aI C3.q (aI C4.q (aI @CT.q (aI @g1 (aI V1.ln (aI V1.rts (aI @jk (aI @jm (aI @jq (aI @vc1 (aI @vc2 (aI @vc3 (aI @vp1 (aI @vp2 (aI @vp3 (aI C0.r (aI C1.r (aI C3.r (aI C4.r @CT.r))))))))))))))))))));first|exact ju|fail)
  case c4=>(have zz:=aI C0.q (aI C1.q (aI C3.q (aI C4.q (aI @CT.q (aI @g1 (aI V1.ln (aI V1.rts (aI @jk (aI @jm (aI @jq (aI @vc1 (aI @vc2 (aI @vc3 (aI @vp1 (aI @vp2 (aI @vp3 (aI C0.r (aI C1.r (aI C3.r (aI C4.r @CT.r))))))))))))))))))));first|exact ju|fail)
  case c3=>(have zz:=aI C0.q (aI C1.q (aI C3.q (aI C4.q (aI @CT.q (aI @g1 (aI V1.ln (aI V1.rts (aI @jk (aI @jm (aI @jq (aI @vc1 (aI @vc2 (aI @vc3 (aI @vp1 (aI @vp2 (aI @vp3 (aI C0.r (aI C1.r (aI C3.r (aI C4.r @CT.r))))))))))))))))))));first|exact ju|fail)
  case nx=>(first|omega|(simp only[jf,je,jg,jh,ji];first|done|omega))
  case has=>simp(disch:=decide) only[h12,i2,i3,i6,i7]
set_option maxHeartbeats 4000000 in
theorem jkw (hb:NB base){ts:List Tk}(W:Wds ts)(hn:ts≠[])(O:∀ i,i<ts.length->yN (tk ts i))(Nb:Nbs ts){m i' tb:Nat}{x:SrcT}{v1 v2 v3:AV}{L:Sl}{s:St}{r:SR SrcT}(hm:ts.length<=i'+(m+1))(hi1:i'+1<ts.length)
  (hl:(if 32<=x.vars.length then SR.er (tk ts i') else match JJ ts (i'+1) with | .er t=>.er t | .ok e j=>zX ts m j { x with vars:=x.vars ++ [e] })=r)
  (C0:Cl s 0 [.nils,.nils,.nils]) (C1:Cl s 1 [.int .i64 0,.int .i64 0,.int .i64 0]) (C3:Cl s 3 (oC ts (i'+1) 0)) (C4:Cl s 4 [v1,v2,v3]) (CT:Cl s tb (tk ts i').cells) (ht:5<=tb)
  (V1:Lv 5 tb s v1 x.enums.length (fl enE x.enums) 4) (V2:Lv 5 tb s v2 x.vars.length (fl qk x.vars) 7) (V3:Lv 5 tb s v3 x.procs.length (fl prE x.procs) 4) (D12:Df v1 v2) (D13:Df v1 v3) (D23:Df v2 v3)
  (i2:Has L 2 (.ptr 0 0)) (i3:Has L 3 (.ptr 1 0)) (i6:Has L 6 (.ptr 3 0)) (i7:Has L 7 (.ptr 4 0)) (i8:Has L 8 (.ptr tb 0)) {Q:Out->Prop} {Kp:AV->Sl->St->Prop}
  (hQ:∀ mm L' s',mm<m+1+1->SrI ts r mm L' s'->Q (.go L' s')):xC θ base Ub L s Q Kp:=by
 have wl:=W.len;have L0:=C0.lt;have L1:=C1.lt;have L3:=C3.lt;have L4:=C4.lt;have LT:=CT.lt;have ve2:=V2.eqs;have g2:rat s.h 4 1=v2:=C4.cell 1 (show 1<3 by decide);have vl2:=V2.len;have vc1:∀ l,lall AV.cell (v1 :: l)=lall AV.cell l:=λl=>by show cond v1.cell _ false=_;rw[V1.cell];rfl
 have vc2:∀ l,lall AV.cell (v2 :: l)=lall AV.cell l:=λl=>by show cond v2.cell _ false=_;rw[V2.cell];rfl
 have vc3:∀ l,lall AV.cell (v3 :: l)=lall AV.cell l:=λl=>by show cond v3.cell _ false=_;rw[V3.cell];rfl
 have vp1:=V1.plain;have vp2:=V2.plain;have vp3:=V3.plain;have R:=Xv hb W hn (i'+1) 0 x.vars.length (tk ts i');by_cases h32:32<=x.vars.length
 ·rw[if_pos h32] at R hl;have e9:r=.er (tk ts i'):=hl.symm;have R:∀ st p,Cl st p (oC ts (i'+1) 0)->∀ K Kp,XB θ base 41 [.ptr p 0,.int .i64 (x.vars.length:Int),.agg [.int .i64 ((tk ts i').kind:Int),.str (tk ts i').text,.int .i64 ((tk ts i').num:Int),.int .i64 ((tk ts i').line:Int),.int .i64 ((tk ts i').col:Int)]] st K Kp=K (.tup []) (wr st p 0 (fC ts (tk ts i') 0)):=R;have FF:=λst p=>@yB base hb ts (tk ts i') 0 st p;rw[(by unfold Ub;simp only[qq];rfl:Ub=_)];unfold fC oC rC at *
  (have zz:=aI @g2 (aI C0.r (aI C1.r (aI C3.r (aI C4.r @CT.r))));(repeat'(first|apply jd<;>intro _|simp(disch:=first|exact jK|fail) only[ja i6,ja i7,ja i8,vl2,R,FF,g2,C0.q,C1.q,C3.q,C4.q,CT.q,g2,C0.r,C1.r,C3.r,C4.r,CT.r,r6,γ,δ,ε,ζ,η]));all_goals clear zz)
  refine hQ 0 _ _ om ⟨?_,?c0,?c1,?has,x,v1,v2,v3,?c4,?_,?_,?_,D12,D13,D23,.inr ⟨tk ts i',e9,?c3⟩⟩;case c0=>(have zz:=aI C0.q (aI C1.q (aI C3.q (aI C4.q (aI @CT.q (aI C0.r (aI C1.r (aI C3.r (aI C4.r @CT.r))))))));first|exact ju|fail)
  case c1=>(have zz:=aI C0.q (aI C1.q (aI C3.q (aI C4.q (aI @CT.q (aI C0.r (aI C1.r (aI C3.r (aI C4.r @CT.r))))))));first|exact ju|fail)
  case c4=>(have zz:=aI C0.q (aI C1.q (aI C3.q (aI C4.q (aI @CT.q (aI C0.r (aI C1.r (aI C3.r (aI C4.r @CT.r))))))));first|exact ju|fail)
  case c3=>
   unfold fC rC
   (have zz:=aI C0.q (aI C1.q (aI C3.q (aI C4.q (aI @CT.q (aI C0.r (aI C1.r (aI C3.r (aI C4.r @CT.r))))))));first|exact ju|fail)
  case has=>simp(disch:=decide) only[h12,i2,i3,i6,i7]
  ·(first|omega|(simp only[jf,je,jg,jh,ji];first|done|omega))
  ·refine Lv.up (hi:=tb) ?_ ?_
   ·simp(disch:=omega) only[jp];exact V1
   ·(first|omega|(simp only[jf,je,jg,jh,ji];first|done|omega))
  ·refine Lv.up (hi:=tb) ?_ ?_
   ·simp(disch:=omega) only[jp];exact V2
   ·(first|omega|(simp only[jf,je,jg,jh,ji];first|done|omega))
  ·refine Lv.up (hi:=tb) ?_ ?_
   ·simp(disch:=omega) only[jp];exact V3
   ·(first|omega|(simp only[jf,je,jg,jh,ji];first|done|omega))
 ·rw[if_neg h32] at R hl;have R:∀ st p,Cl st p (oC ts (i'+1) 0)->∀ K Kp,XB θ base 41 [.ptr p 0,.int .i64 (x.vars.length:Int),.agg [.int .i64 ((tk ts i').kind:Int),.str (tk ts i').text,.int .i64 ((tk ts i').num:Int),.int .i64 ((tk ts i').line:Int),.int .i64 ((tk ts i').col:Int)]] st K Kp=K (.tup []) (wr st p 0 (oC ts (i'+1) 0)):=R;have FO:=λst p=>@qP base hb ts (i'+1) 0 st p;obtain⟨a,q,aa,la,ea,E,hE⟩:=jhI hb W hn O Nb hi1;have E:∀ st p,Cl st p (oC ts (i'+1) 0)->∀ K Kp,XB θ base 43 [.ptr p 0] st K Kp=K (.agg [.str a.name,.str a.ty,.int .i64 a.lo,.int .i64 a.hi,.lst a.begins.length (fl eE a.begins),.int .i64 (a.line:Int),.int .i64 (a.col:Int)]) (wr st p 0 (rC ts q aa la ea Z0)):=E;have nx:(∃ j,i'+1<j/\j<ts.length/\rC ts q aa la ea Z0=oC ts j 0/\zX ts m j { x with vars:=x.vars ++ [a] }=r)\/∃ t,r=.er t/\rC ts q aa la ea Z0=fC ts t 0:=by
   rcases hE with ⟨j,h1,h2,h3,h4⟩|⟨t,h1,h4⟩
   ·rw[h1] at hl;exact .inl ⟨j,h2,h3,h4,hl⟩
   ·rw[h1] at hl;exact .inr ⟨t,hl.symm,h4⟩
  clear hE hl;have Ap:=λst bv xc xx K h hv=>@Qr 5 tb x.vars.length 7 st v2 (fl qk x.vars) K 88 bv xc xx h dc om om hv;have VP:∀ st m',Lv 5 tb st v2 x.vars.length (fl qk x.vars) 7->5<=st.nx->m'=st.nx+1->Lv 5 m' (aps v2 st [.str a.name,.str a.ty,.int .i64 a.lo,.int .i64 a.hi,.lst a.begins.length (fl eE a.begins),.int .i64 (a.line:Int),.int .i64 (a.col:Int)]) (apv 7 v2 st) (x.vars ++ [a]).length (fl qk (x.vars ++ [a])) 7:=λst m' h h2 h3=>by
   rw[Qag,Jp,zu];exact h.put rfl h2 h3
  have key:∀ L' s',Cl s' 3 (rC ts q aa la ea Z0)->5<=s'.nx->Cl s' 0 [.nils,.nils,.nils]->Cl s' 1 [.int .i64 0,.int .i64 0,.int .i64 0]->(Has L' 2 (.ptr 0 0)/\Has L' 3 (.ptr 1 0)/\Has L' 6 (.ptr 3 0)/\Has L' 7 (.ptr 4 0))->∀ w,Cl s' 4 [v1,w,v3]->
    Lv 5 s'.nx s' w (x.vars ++ [a]).length (fl qk (x.vars ++ [a])) 7->Lv 5 s'.nx s' v1 x.enums.length (fl enE x.enums) 4->Lv 5 s'.nx s' v3 x.procs.length (fl prE x.procs) 4->Df v1 w->Df w v3->Q (.go L' s'):=by
   intro L' s' c3 cn c0 c1 ch w c4 cw co cp d d';rcases nx with ⟨j,h2,h3,h4,hl⟩|⟨t,e9,h4⟩
   ·exact hQ (m+1) L' s' om ⟨cn,c0,c1,ch,{ x with vars:=x.vars ++ [a] },v1,w,v3,c4,co,cw,cp,d,D13,d',.inl ⟨m,j,rfl,om,h3,hl,h4▸c3⟩⟩
   ·exact hQ 0 L' s' om ⟨cn,c0,c1,ch,{ x with vars:=x.vars ++ [a] },v1,w,v3,c4,co,cw,cp,d,D13,d',.inr ⟨t,e9,h4▸c3⟩⟩
  clear nx;rw[(by unfold Ub;simp only[qq];rfl:Ub=_)];unfold oC rC at *
  (have zz:=aI @g2 (aI V2.ln (aI V2.rts (aI @jp (aI @jt (aI @jx (aI @V2 (aI @jk (aI @jm (aI @jq (aI C0.r (aI C1.r (aI C3.r (aI C4.r @CT.r)))))))))))));(repeat'(first|apply jd<;>intro _|simp(disch:=first|exact jK|fail) only[ja i6,ja i7,ja i8,vl2,R,FO,E,g2,jeN,ve2,Ap,V2.at,jk,C0.q,C1.q,C3.q,C4.q,CT.q,g2,V2.ln,V2.rts,jp,jt,jx,V2,jk,jm,jq,C0.r,C1.r,C3.r,C4.r,CT.r,r6,γ,δ,ε,ζ,η]));all_goals clear zz)
  refine key _ _ ?c3 ?nx ?c0 ?c1 ?has ?w ?c4 ?lv ?lo ?lp ?d1 ?d2;case lv=>
   refine Lv.up (hi:=s.nx+2) ?_ (by(first|omega|(simp only[jf,je,jg,jh,ji];first|done|omega)));simp(disch:=first|omega|(simp only[jf,je,jh,jg];omega)) only[jp,jt,jx];refine VP _ _ ?_ ?_ ?_;all_goals first|(simp only[jf,je,jg];done)|(simp only[jf,je,jg];omega)|(simp(disch:=first|omega|(simp only[jf,je,jg];omega)) only[jp,jt,jx];exact V2)
  case lo=>
   refine Lv.up (hi:=tb) ?_ (by(first|omega|(simp only[jf,je,jg,jh,ji];first|done|omega)));simp(disch:=first|omega|(simp only[jf,je,jh,jg];omega)) only[jp,jt,jx];refine Lv.apsD ?_ D12.symm;simp(disch:=first|omega|(simp only[jf,je,jg];omega)) only[jp,jt,jx];exact V1
  case d1=>exact(Df.put V1 (by simp only[jf,je,jg];omega)).2
  case lp=>
   refine Lv.up (hi:=tb) ?_ (by(first|omega|(simp only[jf,je,jg,jh,ji];first|done|omega)));simp(disch:=first|omega|(simp only[jf,je,jh,jg];omega)) only[jp,jt,jx];refine Lv.apsD ?_ D23;simp(disch:=first|omega|(simp only[jf,je,jg];omega)) only[jp,jt,jx];exact V3
  case d2=>exact(Df.put V3 (by simp only[jf,je,jg];omega)).1
  case c0=>(have zz:=aI C0.q (aI C1.q (aI C3.q (aI C4.q (aI @CT.q (aI @g2 (aI V2.ln (aI V2.rts (aI @jk (aI @jm (aI @jq (aI @vc1 (aI @vc2 (aI @vc3 (aI @vp1 (aI @vp2 (aI @vp3 (aI C0.r (aI C1.r (aI C3.r (aI C4.r @CT.r))))))))))))))))))));first|exact ju|fail)
  case c1=>(have zz:=aI C0.q (aI C1.q (aI C3.q (aI C4.q (aI @CT.q (aI @g2 (aI V2.ln (aI V2.rts (aI @jk (aI @jm (aI @jq (aI @vc1 (aI @vc2 (aI @vc3 (aI @vp1 (aI @vp2 (aI @vp3 (aI C0.r (aI C1.r (aI C3.r (aI C4.r @CT.r))))))))))))))))))));first|exact ju|fail)
  case c4=>(have zz:=aI C0.q (aI C1.q (aI C3.q (aI C4.q (aI @CT.q (aI @g2 (aI V2.ln (aI V2.rts (aI @jk (aI @jm (aI @jq (aI @vc1 (aI @vc2 (aI @vc3 (aI @vp1 (aI @vp2 (aI @vp3 (aI C0.r (aI C1.r (aI C3.r (aI C4.r @CT.r))))))))))))))))))));first|exact ju|fail)
  case c3=>(have zz:=aI C0.q (aI C1.q (aI C3.q (aI C4.q (aI @CT.q (aI @g2 (aI V2.ln (aI V2.rts (aI @jk (aI @jm (aI @jq (aI @vc1 (aI @vc2 (aI @vc3 (aI @vp1 (aI @vp2 (aI @vp3 (aI C0.r (aI C1.r (aI C3.r (aI C4.r @CT.r))))))))))))))))))));first|exact ju|fail)
  case nx=>(first|omega|(simp only[jf,je,jg,jh,ji];first|done|omega))
  case has=>simp(disch:=decide) only[h12,i2,i3,i6,i7]
set_option maxHeartbeats 4000000 in
theorem jkv (hb:NB base){ts:List Tk}(W:Wds ts)(hn:ts≠[])(O:∀ i,i<ts.length->yN (tk ts i))(Nb:Nbs ts){m i' tb:Nat}{x:SrcT}{v1 v2 v3:AV}{L:Sl}{s:St}{r:SR SrcT}(hm:ts.length<=i'+(m+1))(hi1:i'+1<ts.length)
  (hl:(if 32<=x.procs.length then SR.er (tk ts i') else match JC ts (i'+1) with | .er t=>.er t | .ok e j=>zX ts m j { x with procs:=x.procs ++ [e] })=r)
  (C0:Cl s 0 [.nils,.nils,.nils]) (C1:Cl s 1 [.int .i64 0,.int .i64 0,.int .i64 0]) (C3:Cl s 3 (oC ts (i'+1) 0)) (C4:Cl s 4 [v1,v2,v3]) (CT:Cl s tb (tk ts i').cells) (ht:5<=tb)
  (V1:Lv 5 tb s v1 x.enums.length (fl enE x.enums) 4) (V2:Lv 5 tb s v2 x.vars.length (fl qk x.vars) 7) (V3:Lv 5 tb s v3 x.procs.length (fl prE x.procs) 4) (D12:Df v1 v2) (D13:Df v1 v3) (D23:Df v2 v3)
  (i2:Has L 2 (.ptr 0 0)) (i3:Has L 3 (.ptr 1 0)) (i6:Has L 6 (.ptr 3 0)) (i7:Has L 7 (.ptr 4 0)) (i8:Has L 8 (.ptr tb 0)) {Q:Out->Prop} {Kp:AV->Sl->St->Prop}
  (hQ:∀ mm L' s',mm<m+1+1->SrI ts r mm L' s'->Q (.go L' s')):xC θ base Ua L s Q Kp:=by
 have wl:=W.len;have L0:=C0.lt;have L1:=C1.lt;have L3:=C3.lt;have L4:=C4.lt;have LT:=CT.lt;have ve3:=V3.eqs;have g3:rat s.h 4 2=v3:=C4.cell 2 (show 2<3 by decide);have vl3:=V3.len;have vc1:∀ l,lall AV.cell (v1 :: l)=lall AV.cell l:=λl=>by show cond v1.cell _ false=_;rw[V1.cell];rfl
 have vc2:∀ l,lall AV.cell (v2 :: l)=lall AV.cell l:=λl=>by show cond v2.cell _ false=_;rw[V2.cell];rfl
 have vc3:∀ l,lall AV.cell (v3 :: l)=lall AV.cell l:=λl=>by show cond v3.cell _ false=_;rw[V3.cell];rfl
 have vp1:=V1.plain;have vp2:=V2.plain;have vp3:=V3.plain;have R:=Xv hb W hn (i'+1) 0 x.procs.length (tk ts i');by_cases h32:32<=x.procs.length
 ·rw[if_pos h32] at R hl;have e9:r=.er (tk ts i'):=hl.symm;have R:∀ st p,Cl st p (oC ts (i'+1) 0)->∀ K Kp,XB θ base 41 [.ptr p 0,.int .i64 (x.procs.length:Int),.agg [.int .i64 ((tk ts i').kind:Int),.str (tk ts i').text,.int .i64 ((tk ts i').num:Int),.int .i64 ((tk ts i').line:Int),.int .i64 ((tk ts i').col:Int)]] st K Kp=K (.tup []) (wr st p 0 (fC ts (tk ts i') 0)):=R;have FF:=λst p=>@yB base hb ts (tk ts i') 0 st p;rw[(by unfold Ua;simp only[qq];rfl:Ua=_)];unfold fC oC rC at *
  (have zz:=aI @g3 (aI C0.r (aI C1.r (aI C3.r (aI C4.r @CT.r))));(repeat'(first|apply jd<;>intro _|simp(disch:=first|exact jK|fail) only[ja i6,ja i7,ja i8,vl3,R,FF,g3,C0.q,C1.q,C3.q,C4.q,CT.q,g3,C0.r,C1.r,C3.r,C4.r,CT.r,r6,γ,δ,ε,ζ,η]));all_goals clear zz)
  refine hQ 0 _ _ om ⟨?_,?c0,?c1,?has,x,v1,v2,v3,?c4,?_,?_,?_,D12,D13,D23,.inr ⟨tk ts i',e9,?c3⟩⟩;case c0=>(have zz:=aI C0.q (aI C1.q (aI C3.q (aI C4.q (aI @CT.q (aI C0.r (aI C1.r (aI C3.r (aI C4.r @CT.r))))))));first|exact ju|fail)
  case c1=>(have zz:=aI C0.q (aI C1.q (aI C3.q (aI C4.q (aI @CT.q (aI C0.r (aI C1.r (aI C3.r (aI C4.r @CT.r))))))));first|exact ju|fail)
  case c4=>(have zz:=aI C0.q (aI C1.q (aI C3.q (aI C4.q (aI @CT.q (aI C0.r (aI C1.r (aI C3.r (aI C4.r @CT.r))))))));first|exact ju|fail)
  case c3=>
   unfold fC rC
   (have zz:=aI C0.q (aI C1.q (aI C3.q (aI C4.q (aI @CT.q (aI C0.r (aI C1.r (aI C3.r (aI C4.r @CT.r))))))));first|exact ju|fail)
  case has=>simp(disch:=decide) only[h12,i2,i3,i6,i7]
  ·(first|omega|(simp only[jf,je,jg,jh,ji];first|done|omega))
  ·refine Lv.up (hi:=tb) ?_ ?_
   ·simp(disch:=omega) only[jp];exact V1
   ·(first|omega|(simp only[jf,je,jg,jh,ji];first|done|omega))
  ·refine Lv.up (hi:=tb) ?_ ?_
   ·simp(disch:=omega) only[jp];exact V2
   ·(first|omega|(simp only[jf,je,jg,jh,ji];first|done|omega))
  ·refine Lv.up (hi:=tb) ?_ ?_
   ·simp(disch:=omega) only[jp];exact V3
   ·(first|omega|(simp only[jf,je,jg,jh,ji];first|done|omega))
 ·rw[if_neg h32] at R hl;have R:∀ st p,Cl st p (oC ts (i'+1) 0)->∀ K Kp,XB θ base 41 [.ptr p 0,.int .i64 (x.procs.length:Int),.agg [.int .i64 ((tk ts i').kind:Int),.str (tk ts i').text,.int .i64 ((tk ts i').num:Int),.int .i64 ((tk ts i').line:Int),.int .i64 ((tk ts i').col:Int)]] st K Kp=K (.tup []) (wr st p 0 (oC ts (i'+1) 0)):=R;have FO:=λst p=>@qP base hb ts (i'+1) 0 st p;obtain⟨a,q,aa,la,ea,E,hE⟩:=jhp hb W hn O hi1;have E:∀ st p,Cl st p (oC ts (i'+1) 0)->∀ K Kp,XB θ base 44 [.ptr p 0] st K Kp=K (.agg [.str a.name,.lst a.rules.length (fl ruE a.rules),.int .i64 (a.line:Int),.int .i64 (a.col:Int)]) (wr st p 0 (rC ts q aa la ea Z0)):=E;have nx:(∃ j,i'+1<j/\j<ts.length/\rC ts q aa la ea Z0=oC ts j 0/\zX ts m j { x with procs:=x.procs ++ [a] }=r)\/∃ t,r=.er t/\rC ts q aa la ea Z0=fC ts t 0:=by
   rcases hE with ⟨j,h1,h2,h3,h4⟩|⟨t,h1,h4⟩
   ·rw[h1] at hl;exact .inl ⟨j,h2,h3,h4,hl⟩
   ·rw[h1] at hl;exact .inr ⟨t,hl.symm,h4⟩
  clear hE hl;have Ap:=λst bv xc xx K h hv=>@Qr 5 tb x.procs.length 4 st v3 (fl prE x.procs) K 56 bv xc xx h dc om om hv;have VP:∀ st m',Lv 5 tb st v3 x.procs.length (fl prE x.procs) 4->5<=st.nx->m'=st.nx+1->Lv 5 m' (aps v3 st [.str a.name,.lst a.rules.length (fl ruE a.rules),.int .i64 (a.line:Int),.int .i64 (a.col:Int)]) (apv 4 v3 st) (x.procs ++ [a]).length (fl prE (x.procs ++ [a])) 4:=λst m' h h2 h3=>by
   rw[Qag,Jp,zu];exact h.put rfl h2 h3
  have key:∀ L' s',Cl s' 3 (rC ts q aa la ea Z0)->5<=s'.nx->Cl s' 0 [.nils,.nils,.nils]->Cl s' 1 [.int .i64 0,.int .i64 0,.int .i64 0]->(Has L' 2 (.ptr 0 0)/\Has L' 3 (.ptr 1 0)/\Has L' 6 (.ptr 3 0)/\Has L' 7 (.ptr 4 0))->∀ w,Cl s' 4 [v1,v2,w]->
    Lv 5 s'.nx s' w (x.procs ++ [a]).length (fl prE (x.procs ++ [a])) 4->Lv 5 s'.nx s' v1 x.enums.length (fl enE x.enums) 4->Lv 5 s'.nx s' v2 x.vars.length (fl qk x.vars) 7->Df v1 w->Df v2 w->Q (.go L' s'):=by
   intro L' s' c3 cn c0 c1 ch w c4 cw co cp d d';rcases nx with ⟨j,h2,h3,h4,hl⟩|⟨t,e9,h4⟩
   ·exact hQ (m+1) L' s' om ⟨cn,c0,c1,ch,{ x with procs:=x.procs ++ [a] },v1,v2,w,c4,co,cp,cw,D12,d,d',.inl ⟨m,j,rfl,om,h3,hl,h4▸c3⟩⟩
   ·exact hQ 0 L' s' om ⟨cn,c0,c1,ch,{ x with procs:=x.procs ++ [a] },v1,v2,w,c4,co,cp,cw,D12,d,d',.inr ⟨t,e9,h4▸c3⟩⟩
  clear nx;rw[(by unfold Ua;simp only[qq];rfl:Ua=_)];unfold oC rC at *
  (have zz:=aI @g3 (aI V3.ln (aI V3.rts (aI @jp (aI @jt (aI @jx (aI @V3 (aI @jk (aI @jm (aI @jq (aI C0.r (aI C1.r (aI C3.r (aI C4.r @CT.r)))))))))))));(repeat'(first|apply jd<;>intro _|simp(disch:=first|exact jK|fail) only[ja i6,ja i7,ja i8,vl3,R,FO,E,g3,jeM,ve3,Ap,V3.at,jk,C0.q,C1.q,C3.q,C4.q,CT.q,g3,V3.ln,V3.rts,jp,jt,jx,V3,jk,jm,jq,C0.r,C1.r,C3.r,C4.r,CT.r,r6,γ,δ,ε,ζ,η]));all_goals clear zz)
  refine key _ _ ?c3 ?nx ?c0 ?c1 ?has ?w ?c4 ?lv ?lo ?lp ?d1 ?d2;case lv=>
   refine Lv.up (hi:=s.nx+2) ?_ (by(first|omega|(simp only[jf,je,jg,jh,ji];first|done|omega)));simp(disch:=first|omega|(simp only[jf,je,jh,jg];omega)) only[jp,jt,jx];refine VP _ _ ?_ ?_ ?_;all_goals first|(simp only[jf,je,jg];done)|(simp only[jf,je,jg];omega)|(simp(disch:=first|omega|(simp only[jf,je,jg];omega)) only[jp,jt,jx];exact V3)
  case lo=>
   refine Lv.up (hi:=tb) ?_ (by(first|omega|(simp only[jf,je,jg,jh,ji];first|done|omega)));simp(disch:=first|omega|(simp only[jf,je,jh,jg];omega)) only[jp,jt,jx];refine Lv.apsD ?_ D13.symm;simp(disch:=first|omega|(simp only[jf,je,jg];omega)) only[jp,jt,jx];exact V1
  case d1=>exact(Df.put V1 (by simp only[jf,je,jg];omega)).2
  case lp=>
   refine Lv.up (hi:=tb) ?_ (by(first|omega|(simp only[jf,je,jg,jh,ji];first|done|omega)));simp(disch:=first|omega|(simp only[jf,je,jh,jg];omega)) only[jp,jt,jx];refine Lv.apsD ?_ D23.symm;simp(disch:=first|omega|(simp only[jf,je,jg];omega)) only[jp,jt,jx];exact V2
  case d2=>exact(Df.put V2 (by simp only[jf,je,jg];omega)).2
  case c0=>(have zz:=aI C0.q (aI C1.q (aI C3.q (aI C4.q (aI @CT.q (aI @g3 (aI V3.ln (aI V3.rts (aI @jk (aI @jm (aI @jq (aI @vc1 (aI @vc2 (aI @vc3 (aI @vp1 (aI @vp2 (aI @vp3 (aI C0.r (aI C1.r (aI C3.r (aI C4.r @CT.r))))))))))))))))))));first|exact ju|fail)
  case c1=>(have zz:=aI C0.q (aI C1.q (aI C3.q (aI C4.q (aI @CT.q (aI @g3 (aI V3.ln (aI V3.rts (aI @jk (aI @jm (aI @jq (aI @vc1 (aI @vc2 (aI @vc3 (aI @vp1 (aI @vp2 (aI @vp3 (aI C0.r (aI C1.r (aI C3.r (aI C4.r @CT.r))))))))))))))))))));first|exact ju|fail)
  case c4=>(have zz:=aI C0.q (aI C1.q (aI C3.q (aI C4.q (aI @CT.q (aI @g3 (aI V3.ln (aI V3.rts (aI @jk (aI @jm (aI @jq (aI @vc1 (aI @vc2 (aI @vc3 (aI @vp1 (aI @vp2 (aI @vp3 (aI C0.r (aI C1.r (aI C3.r (aI C4.r @CT.r))))))))))))))))))));first|exact ju|fail)
  case c3=>(have zz:=aI C0.q (aI C1.q (aI C3.q (aI C4.q (aI @CT.q (aI @g3 (aI V3.ln (aI V3.rts (aI @jk (aI @jm (aI @jq (aI @vc1 (aI @vc2 (aI @vc3 (aI @vp1 (aI @vp2 (aI @vp3 (aI C0.r (aI C1.r (aI C3.r (aI C4.r @CT.r))))))))))))))))))));first|exact ju|fail)
  case nx=>(first|omega|(simp only[jf,je,jg,jh,ji];first|done|omega))
  case has=>simp(disch:=decide) only[h12,i2,i3,i6,i7]
theorem jkE {t:Tk}(S:jaS t)(h:isM t [[101,110,117,109],[118,97,114],[112,114,111,99,101,115,115]]=true):t.kind=4:=by
 obtain⟨h1,h2⟩:=q9 h;rcases h1 with h1|h1
 ·obtain⟨x,r,e,hx⟩:=S h1;rw[e] at h2;simp only[QaF,List.cons.injEq,List.not_mem_nil,or_false] at h2;rcases h2 with h2|h2|h2<;>(rw[h2.1] at hx;exact absurd hx dc)
 ·exact h1
theorem jkD {t:Tk}(h:¬ isM t [[101,110,117,109],[118,97,114],[112,114,111,99,101,115,115]]=true)(k:t.kind=4):t.text≠[101,110,117,109]/\t.text≠[118,97,114]/\t.text≠[112,114,111,99,101,115,115]:=by
 unfold isM at h;rw[decide_eq_true om,QaZ,decide_eq_true_eq] at h;simp only[QaF,List.not_mem_nil,or_false,not_or] at h;exact h
theorem jkz {b o:Nat}{x y z:Int}{h:T AO}(ho:o+3<=qz h b)(hv:rats h b o 3=[.int .i64 x,.int .i64 y,.int .i64 z]):(jW θ 30 (.ptr b o) (.agg [.int .i64 x,.int .i64 y,.int .i64 z]) h=true)=True:=eq_true (wa jgc jgb dc ho hv rfl)
theorem ji4 {s:St}{b:Nat}{a0 a1 a2 a3 a4 a5:AV}(C:Cl s b [a0,a1,a2,a3,a4,a5]):rats (wr s b 0 [a0,a1,a2,a3,a4,a5]).h b 2 3=[a2,a3,a4]:=(C.wr0 (c':=[a0,a1,a2,a3,a4,a5]) rfl).ratsP 3 2 (by simp)
theorem jgg (hb:NB base){ts:List Tk}{r:SR SrcT}{L:Sl}{s:St}{Q:Out->Prop}{Kp:AV->Sl->St->Prop}{x:SrcT}{v1 v2 v3:AV}(C0:Cl s 0 [.nils,.nils,.nils])(C1:Cl s 1 [.int .i64 0,.int .i64 0,.int .i64 0])(C4:Cl s 4 [v1,v2,v3])
  (i2:Has L 2 (.ptr 0 0)) (i3:Has L 3 (.ptr 1 0)) (i6:Has L 6 (.ptr 3 0)) (i7:Has L 7 (.ptr 4 0))
  (V1:Lv 5 s.nx s v1 x.enums.length (fl enE x.enums) 4) (V2:Lv 5 s.nx s v2 x.vars.length (fl qk x.vars) 7) (V3:Lv 5 s.nx s v3 x.procs.length (fl prE x.procs) 4)
  (hE:(∃ i',r=.ok x i'/\Cl s 3 (oC ts i' 0))\/∃ t,r=.er t/\Cl s 3 (fC ts t 0))
  (hQ:∀ L' s' m q c1 c2,(match r with | .ok x _=>(x,(0,0,0)) | .er t=>(QN,(151,t.line,t.col)):SrcT×(Nat×Nat×Nat))=(m,q)->Has L' 2 (.ptr 0 0)->Has L' 3 (.ptr 1 0)->Cl s' 0 c1->Cl s' 1 c2->c1.length=3->c2=zg q->FzD 0 9000008 s'.bare (.agg c1) (.agg (srE m))->Q (.rt L' s')):xC θ base jaD L s Q Kp:=by
 have L0:=C0.lt;have L1:=C1.lt;have L4:=C4.lt;have vc1:∀ l,lall AV.cell (v1 :: l)=lall AV.cell l:=λl=>by show cond v1.cell _ false=_;rw[V1.cell];rfl
 have vc2:∀ l,lall AV.cell (v2 :: l)=lall AV.cell l:=λl=>by show cond v2.cell _ false=_;rw[V2.cell];rfl
 have vc3:∀ l,lall AV.cell (v3 :: l)=lall AV.cell l:=λl=>by show cond v3.cell _ false=_;rw[V3.cell];rfl
 rw[(by unfold jaD;simp only[qq];rfl:jaD=_)];rcases hE with ⟨i',rfl,C3⟩|⟨t,rfl,C3⟩
 ·have L3:=C3.lt;have FO:=λst p=>@qP base hb ts i' 0 st p;unfold oC rC at *
  (have zz:=aI @vc1 (aI @vc2 (aI @vc3 (aI C0.r (aI C1.r (aI C3.r C4.r)))));(repeat'(first|apply jd<;>intro _|simp(disch:=first|exact jK|fail) only[ja i2,ja i3,ja i6,ja i7,FO,vc1,vc2,vc3,C0.q,C1.q,C3.q,C4.q,vc1,vc2,vc3,C0.r,C1.r,C3.r,C4.r,r6,γ,δ,ε,ζ,η]));all_goals clear zz)
  refine hQ _ _ x (0,0,0) [v1,v2,v3] _ rfl ?_ ?_ ?_ ?_ rfl rfl ?_
  ·simp(disch:=decide) only[h12,i2]
  ·simp(disch:=decide) only[h12,i3]
  ·(have zz:=aI C0.q (aI C1.q (aI C3.q (aI C4.q (aI @vc1 (aI @vc2 (aI @vc3 (aI C0.r (aI C1.r (aI C3.r C4.r)))))))));first|exact ju|fail)
  ·unfold zg
   (have zz:=aI C0.q (aI C1.q (aI C3.q (aI C4.q (aI @vc1 (aI @vc2 (aI @vc3 (aI C0.r (aI C1.r (aI C3.r C4.r)))))))));first|exact ju|fail)
  ·refine FzD.agg (.cons (Lv.fz (lo:=5) (hi:=s.nx) (z:=4) ?_ dc (JH VL _)) (.cons (Lv.fz (lo:=5) (hi:=s.nx) (z:=7) ?_ dc (JH wu _)) (.cons (Lv.fz (lo:=5) (hi:=s.nx) (z:=4) ?_ dc (JH Vi _)) .nil)));all_goals simp(disch:=first|omega|(simp only[jf,je,jg];omega)) only[jE,jp,jt,jx]
   ·exact V1
   ·exact V2
   ·exact V3
 ·have L3:=C3.lt;have FF:=λst p=>@yB base hb ts t 0 st p;unfold fC rC at *;have hr:=ji4 C3
  (have zz:=aI @hr (aI C0.r (aI C1.r (aI C3.r C4.r)));(repeat'(first|apply jd<;>intro _|simp(disch:=first|exact jK|fail) only[ja i2,ja i3,ja i6,ja i7,FF,hr,jkz,C0.q,C1.q,C3.q,C4.q,hr,C0.r,C1.r,C3.r,C4.r,r6,γ,δ,ε,ζ,η]));all_goals clear zz)
  refine hQ _ _ QN (151,t.line,t.col) [.nils,.nils,.nils] _ rfl ?_ ?_ ?_ ?_ rfl rfl ?_
  ·simp(disch:=decide) only[h12,i2]
  ·simp(disch:=decide) only[h12,i3]
  ·(have zz:=aI C0.q (aI C1.q (aI C3.q (aI C4.q (aI C0.r (aI C1.r (aI C3.r C4.r))))));first|exact ju|fail)
  ·unfold zg
   (have zz:=aI C0.q (aI C1.q (aI C3.q (aI C4.q (aI C0.r (aI C1.r (aI C3.r C4.r))))));first|exact ju|fail)
  ·exact FzD.agg (.cons FzD.nils (.cons FzD.nils (.cons FzD.nils .nil)))
theorem jge {s u:St}{c:List AV}(n0:5<=s.nx)(C3:Cl s 3 c)(hu:u=wr (wr s 3 0 c) 3 0 c\/u=wr s 3 0 c):u.nx=s.nx/\(∀ b cs,b≠3->Cl s b cs->Cl u b cs)/\Cl u 3 c/\(∀ n z v cs,Lv 5 s.nx s v n cs z->Lv 5 u.nx u v n cs z):=by
 rcases hu with rfl|rfl
 ·refine⟨by simp only[je],λb cs h C=>(C.wrO h _ _).wrO h _ _,(C3.wr0 rfl).wr0 rfl,λn z v cs V=>?_⟩;simp(disch:=omega) only[jp,je];exact V
 ·refine⟨by simp only[je],λb cs h C=>C.wrO h _ _,C3.wr0 rfl,λn z v cs V=>?_⟩;simp(disch:=omega) only[jp,je];exact V
theorem Kh {s u:St}{c z t:List AV}{w:AV}(n0:5<=s.nx)(C3:Cl s 3 c)(hz:t.length=z.length)(hu:u=wr (wr (nw (wr (wr (wr s 3 0 c) 3 0 c) 3 0 c) z) s.nx 0 t) 3 1 [w]):u.nx=s.nx+1/\(∀ b cs,b<s.nx->b≠3->Cl s b cs->Cl u b cs)/\Cl u 3 (upd c 1 [w])/\Cl u s.nx t/\(∀ n z v cs,Lv 5 s.nx s v n cs z->Lv 5 s.nx u v n cs z):=by
 subst hu;have N:=Cl.new (wr (wr (wr s 3 0 c) 3 0 c) 3 0 c) z;simp only[je] at N;refine⟨by simp only[je,jf],λb cs h1 h C=>((((((C.wrO h _ _).wrO h _ _).wrO h _ _).nw _).wrO om _ _).wrO h _ _),?_,?_,λn z v cs V=>?_⟩
 ·exact(((((C3.wr0 rfl).wr0 rfl).wr0 rfl).nw _).wrO om _ _).wr 1 _
 ·exact(N.wr0 hz).wrO om _ _
 ·simp(disch:=first|omega|(simp only[je];omega)) only[jp,jt];exact V
theorem jgf {ts:List Tk}{r:SR SrcT}{t:Tk}{x:SrcT}{v1 v2 v3 w:AV}{L:Sl}{s u:St}{i:Nat}{z tc:List AV}(n0:5<=s.nx)(C0:Cl s 0 [.nils,.nils,.nils])(C1:Cl s 1 [.int .i64 0,.int .i64 0,.int .i64 0])(C3:Cl s 3 (oC ts i 0))(C4:Cl s 4 [v1,v2,v3])
  (V1:Lv 5 s.nx s v1 x.enums.length (fl enE x.enums) 4) (V2:Lv 5 s.nx s v2 x.vars.length (fl qk x.vars) 7) (V3:Lv 5 s.nx s v3 x.procs.length (fl prE x.procs) 4) (D12:Df v1 v2) (D13:Df v1 v3) (D23:Df v2 v3) (e9:r=.er t) (hz:tc.length=z.length)
  (hu:u=wr (wr (nw (wr (wr (wr s 3 0 (oC ts i 0)) 3 0 (oC ts i 0)) 3 0 (oC ts i 0)) z) s.nx 0 tc) 3 1 [w]) (has:Has L 2 (.ptr 0 0)/\Has L 3 (.ptr 1 0)/\Has L 6 (.ptr 3 0)/\Has L 7 (.ptr 4 0)):SrI ts r 0 L (wr u 3 0 (fC ts t 0)):=by
 obtain⟨u1,u2,u3,u4,u5⟩:=Kh n0 C3 hz hu;clear hu;have lw:∀ n z v cs,Lv 5 s.nx s v n cs z->Lv 5 (wr u 3 0 (fC ts t 0)).nx (wr u 3 0 (fC ts t 0)) v n cs z:=λn z v cs V=>by
  rw[je,u1];simp(disch:=omega) only[jp];exact(u5 n z v cs V).up (Nat.le_succ _)
 exact⟨by rw[je];omega,(u2 0 _ om dc C0).wrO dc _ _,(u2 1 _ om dc C1).wrO dc _ _,has,x,v1,v2,v3,(u2 4 _ om dc C4).wrO dc _ _,lw _ _ _ _ V1,lw _ _ _ _ V2,lw _ _ _ _ V3,D12,D13,D23,.inr ⟨t,e9,u3.wr0 (by rfl)⟩⟩
set_option maxHeartbeats 8000000 in
theorem jky (hb:NB base){ts:List Tk}(W:Wds ts)(hn:ts≠[])(O:∀ i,i<ts.length->yN (tk ts i))(Nb:Nbs ts)(S:∀ i,i<ts.length->jaS (tk ts i)){r:SR SrcT}(hr:zX ts ts.length 0 QN=r){L:Sl}{s:St}{Q:Out->Prop}{Kp:AV->Sl->St->Prop}
  (C0:Cl s 0 [.nils,.nils,.nils]) (C1:Cl s 1 [.int .i64 0,.int .i64 0,.int .i64 0]) (C3:Cl s 3 (oC ts 0 0)) (hx:s.nx=4)
  (i2:Has L 2 (.ptr 0 0)) (i3:Has L 3 (.ptr 1 0)) (i6:Has L 6 (.ptr 3 0))
  (hQ:∀ L' s' m q c1 c2,(match r with | .ok x _=>(x,(0,0,0)) | .er t=>(QN,(151,t.line,t.col)):SrcT×(Nat×Nat×Nat))=(m,q)->Has L' 2 (.ptr 0 0)->Has L' 3 (.ptr 1 0)->Cl s' 0 c1->Cl s' 1 c2->c1.length=3->c2=zg q->FzD 0 9000008 s'.bare (.agg c1) (.agg (srE m))->Q (.rt L' s')):xC θ base jaE L s Q Kp:=by
 have wl:=W.len;have hl0:=QbI.2 hn;rw[(by unfold jaE;simp only[qq];rfl:jaE=_)]
 (have zz:=aI C0.r (aI C1.r C3.r);(repeat'(first|apply jd<;>intro _|simp(disch:=first|exact jK|fail) only[hx,C0.q,C1.q,C3.q,C0.r,C1.r,C3.r,r6,γ,δ,ε,ζ,η]));all_goals clear zz)
 refine yF λu hu=>?_;have n0:u.nx=5:=by rw[hu];simp only[je,jf];omega
 have D0:Cl u 0 [.nils,.nils,.nils]:=by rw[hu];(have zz:=aI C0.q C0.r;first|exact ju|fail)
 have D1:Cl u 1 [.int .i64 0,.int .i64 0,.int .i64 0]:=by rw[hu];(have zz:=aI C1.q C1.r;first|exact ju|fail)
 have D3:Cl u 3 (oC ts 0 0):=by rw[hu];exact(C3.nw _).wrO dc _ _
 have D4:Cl u 4 [.nils,.nils,.nils]:=by rw[hu];have N4:=Cl.new s [AV.nils,.nils,.nils];rw[hx] at N4;exact N4.wr0 rfl
 clear hu;refine qB (SrI ts r) ?_ (ts.length+1) ?_
 ·clear D0 D1 D3 D4 n0 C0 C1 C3 i2 i3 i6 hr hx;rintro mm L s ⟨n0,C0,C1,⟨i2,i3,i6,i7⟩,x,v1,v2,v3,C4,V1,V2,V3,D12,D13,D23,hA⟩;have L0:=C0.lt;have L1:=C1.lt;have L4:=C4.lt;rcases hA with ⟨m,i',rfl,hm,hi',hl,C3⟩|⟨t,e9,C3⟩
  ·have L3:=C3.lt;cases m with
   |zero=>omega
   |succ m=>
   unfold zX at hl;have FO:=λst p=>@qP base hb ts i' 0 st p;have NO:=λst p=>@X3 base hb ts i' hi' 0 st p;by_cases k5:(tk ts i').kind=5
   ·have k5':((tk ts i').kind:Int)=5:=om
    have c2:¬ isM (tk ts i') [[101,110,117,109],[118,97,114],[112,114,111,99,101,115,115]]=true:=λh=>by have:=(q9 h).1;omega
    rw[if_neg c2,if_pos k5] at hl;have C3':=C3;unfold oC rC at FO NO C3
    (have zz:=C3.r;(repeat'(first|apply jd<;>intro _|simp(disch:=first|exact jK|fail) only[ja i6,FO,NO,k5',C3.q,C3.r,r6,γ,δ,ε,ζ,η]));all_goals clear zz)
    refine yF λu hu=>?_;obtain⟨u1,u2,u3,u4⟩:=jge n0 C3 (.inl hu);refine jgg (ts:=ts) (x:=x) hb (u2 _ _ dc C0) (u2 _ _ dc C1) (u2 _ _ dc C4) ?_ ?_ ?_ ?_ (u4 _ _ _ _ V1) (u4 _ _ _ _ V2) (u4 _ _ _ _ V3) (.inl ⟨i',hl.symm,u3⟩) hQ
    ·simp(disch:=decide) only[h12,i2]
    ·simp(disch:=decide) only[h12,i3]
    ·simp(disch:=decide) only[h12,i6]
    ·simp(disch:=decide) only[h12,i7]
   ·have k5':¬ ((tk ts i').kind:Int)=5:=om
    have hi1:i'+1<ts.length:=W.next i' hi' om
    have hx1:=zq i';have ee:[AV.lst ts.length (fl Tk.cells ts),.int .i64 ((i'+1:Nat):Int),.int .i64 0,.int .i64 0,.int .i64 0,.int .i64 Z0]=oC ts (i'+1) 0:=rfl;have C3':=C3;unfold oC rC at FO NO C3;by_cases c2:isM (tk ts i') [[101,110,117,109],[118,97,114],[112,114,111,99,101,115,115]]=true
    ·rw[if_pos c2] at hl;have k4:=jkE (S i' hi') c2;have k4':((tk ts i').kind:Int)=4:=om
     have cm:=(q9 c2).2;by_cases t1:(tk ts i').text=[101,110,117,109]
     ·rw[if_pos t1] at hl
      (have zz:=C3.r;(repeat'(first|apply jd<;>intro _|simp(disch:=first|exact jK|fail) only[ja i6,FO,NO,k5',C3.q,C3.r,r6,γ,δ,ε,ζ,η]));all_goals clear zz)
      rw[(by unfold Y1;simp only[qq];rfl:Y1=_)]
      (have zz:=C3.r;(repeat'(first|apply jd<;>intro _|simp(disch:=first|exact jK|fail) only[ja i6,ja i7,FO,NO,k4',t1,hx1,C3.q,C3.r,r6,γ,δ,ε,ζ,η]));all_goals clear zz)
      refine yF λu hu=>?_;obtain⟨u1,u2,u3,u4,u5⟩:=Kh n0 C3 (by rfl) hu;refine jkx (m:=m) (i':=i') (x:=x) hb W hn O Nb om hi1 hl (u2 _ _ om dc C0) (u2 _ _ om dc C1) u3 (u2 _ _ om dc C4) u4 n0 (u5 _ _ _ _ V1) (u5 _ _ _ _ V2) (u5 _ _ _ _ V3) D12 D13 D23 ?_ ?_ ?_ ?_ ?_ (λmm L' s' h1 h2=>?_)
      ·simp(disch:=decide) only[h12,i2]
      ·simp(disch:=decide) only[h12,i3]
      ·simp(disch:=decide) only[h12,i6]
      ·simp(disch:=decide) only[h12,i7]
      ·simp(disch:=decide) only[h12]
      ·repeat'(first|apply jd<;>intro _|simp(disch:=first|exact dzD|fail) only[r6,γ,δ,ε,ζ,η])
       exact⟨mm,h1,h2⟩
     ·rw[if_neg t1] at hl;by_cases t2:(tk ts i').text=[118,97,114]
      ·rw[if_pos t2] at hl
       (have zz:=C3.r;(repeat'(first|apply jd<;>intro _|simp(disch:=first|exact jK|fail) only[ja i6,FO,NO,k5',C3.q,C3.r,r6,γ,δ,ε,ζ,η]));all_goals clear zz)
       rw[(by unfold Y1;simp only[qq];rfl:Y1=_)]
       (have zz:=C3.r;(repeat'(first|apply jd<;>intro _|simp(disch:=first|exact jK|fail) only[ja i6,ja i7,FO,NO,k4',t1,t2,hx1,C3.q,C3.r,r6,γ,δ,ε,ζ,η]));all_goals clear zz)
       refine yF λu hu=>?_;obtain⟨u1,u2,u3,u4,u5⟩:=Kh n0 C3 (by rfl) hu;refine jkw (m:=m) (i':=i') (x:=x) hb W hn O Nb om hi1 hl (u2 _ _ om dc C0) (u2 _ _ om dc C1) u3 (u2 _ _ om dc C4) u4 n0 (u5 _ _ _ _ V1) (u5 _ _ _ _ V2) (u5 _ _ _ _ V3) D12 D13 D23 ?_ ?_ ?_ ?_ ?_ (λmm L' s' h1 h2=>?_)
       ·simp(disch:=decide) only[h12,i2]
       ·simp(disch:=decide) only[h12,i3]
       ·simp(disch:=decide) only[h12,i6]
       ·simp(disch:=decide) only[h12,i7]
       ·simp(disch:=decide) only[h12]
       ·repeat'(first|apply jd<;>intro _|simp(disch:=first|exact dzD|fail) only[r6,γ,δ,ε,ζ,η])
        exact⟨mm,h1,h2⟩
      ·rw[if_neg t2] at hl;have t3:(tk ts i').text=[112,114,111,99,101,115,115]:=by
        simp only[QaF,List.not_mem_nil,or_false] at cm;exact(cm.resolve_left t1).resolve_left t2
       (have zz:=C3.r;(repeat'(first|apply jd<;>intro _|simp(disch:=first|exact jK|fail) only[ja i6,FO,NO,k5',C3.q,C3.r,r6,γ,δ,ε,ζ,η]));all_goals clear zz)
       rw[(by unfold Y1;simp only[qq];rfl:Y1=_)]
       (have zz:=C3.r;(repeat'(first|apply jd<;>intro _|simp(disch:=first|exact jK|fail) only[ja i6,ja i7,FO,NO,k4',t1,t2,t3,hx1,C3.q,C3.r,r6,γ,δ,ε,ζ,η]));all_goals clear zz)
       refine yF λu hu=>?_;obtain⟨u1,u2,u3,u4,u5⟩:=Kh n0 C3 (by rfl) hu;refine jkv (m:=m) (i':=i') (x:=x) hb W hn O Nb om hi1 hl (u2 _ _ om dc C0) (u2 _ _ om dc C1) u3 (u2 _ _ om dc C4) u4 n0 (u5 _ _ _ _ V1) (u5 _ _ _ _ V2) (u5 _ _ _ _ V3) D12 D13 D23 ?_ ?_ ?_ ?_ ?_ (λmm L' s' h1 h2=>?_)
       ·simp(disch:=decide) only[h12,i2]
       ·simp(disch:=decide) only[h12,i3]
       ·simp(disch:=decide) only[h12,i6]
       ·simp(disch:=decide) only[h12,i7]
       ·simp(disch:=decide) only[h12]
       ·repeat'(first|apply jd<;>intro _|simp(disch:=first|exact dzD|fail) only[r6,γ,δ,ε,ζ,η])
        exact⟨mm,h1,h2⟩
    ·rw[if_neg c2,if_neg k5] at hl;have FA:=λst p=>@Xg base hb ts W hn (i'+1) 0 (tk ts i') st p;unfold oC rC at FA;have e9:r=.er (tk ts i'):=hl.symm;by_cases k4:(tk ts i').kind=4
     ·have k4':((tk ts i').kind:Int)=4:=om
      obtain⟨t1,t2,t3⟩:=jkD c2 k4
      (have zz:=C3.r;(repeat'(first|apply jd<;>intro _|simp(disch:=first|exact jK|fail) only[ja i6,FO,NO,k5',C3.q,C3.r,r6,γ,δ,ε,ζ,η]));all_goals clear zz)
      rw[(by unfold Y1;simp only[qq];rfl:Y1=_)]
      (have zz:=C3.r;(repeat'(first|apply jd<;>intro _|simp(disch:=first|exact jK|fail) only[ja i6,ja i7,FO,NO,k4',t1,t2,t3,hx1,FA,C3.q,C3.r,r6,γ,δ,ε,ζ,η]));all_goals clear zz)
      refine⟨0,om,jgf n0 C0 C1 C3' C4 V1 V2 V3 D12 D13 D23 e9 (by rfl) rfl ?_⟩;simp(disch:=decide) only[h12,i2,i3,i6,i7]
     ·have k4':¬ ((tk ts i').kind:Int)=4:=om
      (have zz:=C3.r;(repeat'(first|apply jd<;>intro _|simp(disch:=first|exact jK|fail) only[ja i6,FO,NO,k5',C3.q,C3.r,r6,γ,δ,ε,ζ,η]));all_goals clear zz)
      rw[(by unfold Y1;simp only[qq];rfl:Y1=_)]
      (have zz:=C3.r;(repeat'(first|apply jd<;>intro _|simp(disch:=first|exact jK|fail) only[ja i6,ja i7,FO,NO,k4',hx1,FA,C3.q,C3.r,r6,γ,δ,ε,ζ,η]));all_goals clear zz)
      refine⟨0,om,jgf n0 C0 C1 C3' C4 V1 V2 V3 D12 D13 D23 e9 (by rfl) rfl ?_⟩;simp(disch:=decide) only[h12,i2,i3,i6,i7]
  ·have L3:=C3.lt;have FF:=λst p=>@yB base hb ts t 0 st p;have C3':=C3;unfold fC rC at FF C3
   (have zz:=C3.r;(repeat'(first|apply jd<;>intro _|simp(disch:=first|exact jK|fail) only[ja i6,FF,C3.q,C3.r,r6,γ,δ,ε,ζ,η]));all_goals clear zz)
   refine yF λu hu=>?_;obtain⟨u1,u2,u3,u4⟩:=jge n0 C3 (.inr hu);refine jgg (ts:=ts) (x:=x) hb (u2 _ _ dc C0) (u2 _ _ dc C1) (u2 _ _ dc C4) ?_ ?_ ?_ ?_ (u4 _ _ _ _ V1) (u4 _ _ _ _ V2) (u4 _ _ _ _ V3) (.inr ⟨t,e9,u3⟩) hQ
   ·simp(disch:=decide) only[h12,i2]
   ·simp(disch:=decide) only[h12,i3]
   ·simp(disch:=decide) only[h12,i6]
   ·simp(disch:=decide) only[h12,i7]
 ·refine⟨om,D0,D1,?_,QN,.nils,.nils,.nils,D4,Lv.nil,Lv.nil,Lv.nil,trivial,trivial,trivial,.inl ⟨ts.length,0,rfl,om,hl0,hr,D3⟩⟩;simp(disch:=decide) only[h12,i2,i3,i6]
set_option maxHeartbeats 4000000 in
theorem jdZ (hb:NB base)(l:List Nat)(hl:l.length<=9223372036854775807)(hW:(qc l).2.1=0->Wds (qc l).1/\(qc l).1≠[]/\(qc l).2=(0,0,0))(hN:(qc l).2.1=0->Nbs (qc l).1) :
  Tot base 10 [.str l] (.tup [.agg (srE (zJ l).1),.agg (zg (zJ l).2)]):=by
 refine hb.tot ?_ rfl rfl;have hC:=jj8 hb l hl;have f0:(zg (qc l).2)=[.int .i64 ((qc l).2.1:Int),.int .i64 ((qc l).2.2.1:Int),.int .i64 ((qc l).2.2.2:Int)]:=rfl;by_cases he:(qc l).2.1=0
 ·obtain⟨W,hne,hz⟩:=hW he;have NN:=hN he;have hO:=jhJ he;have hS:=jhK he;have er:zJ l=(match zX (qc l).1 (qc l).1.length 0 QN with | .ok x _=>(x,(0,0,0)) | .er t=>(QN,(151,t.line,t.col))):=by
   unfold zJ;rw[if_neg (by simp[he])];split<;>rename_i h<;>rw[h]
  rw[hz] at hC;have fz:zg (0,0,0)=[.int .i64 0,.int .i64 0,.int .i64 0]:=rfl;rw[fz] at hC;generalize (qc l).1=ts at *;refine jT x10 (by rfl) (hb.pur 10 1 dc) ?_;simp only[y10,jn,ν,ξ,τ,υ];rw[(by unfold z10;simp only[qq];rfl:z10=_)];repeat'(first|apply jd<;>intro _|simp(disch:=first|exact dzD|fail) only[hC,gNe,r6,γ,δ,ε,ζ,η])
  refine jky hb W hne hO NN hS rfl ?_ ?_ ?_ ?_ ?_ ?_ ?_ ?_
  ·(first|exact cyD|fail)
  ·(first|exact cyD|fail)
  ·exact Cl.new (wr _ _ _ _) _
  ·simp only[jf,je,qW]
  ·simp(disch:=decide) only[h12]
  ·simp(disch:=decide) only[h12]
  ·simp(disch:=decide) only[h12]
  ·intro L' s' m q c1 c2 hm g2 g3 D0 D1 h3 hq F;have hm:zJ l=(m,q):=er.trans hm;rw[hm];subst hq;unfold zg at D1
   match c1,h3 with
   |[a,b,c],_=>
    (have zz:=aI D0.r D1.r;(repeat'(first|apply jd<;>intro _|simp(disch:=first|exact jK|fail) only[ja g2,ja g3,D0.q,D1.q,D0.r,D1.r,r6,γ,δ,ε,ζ,η]));all_goals clear zz)
    exact FzD.tup (.cons F (.cons (.agg (.pc (by rfl))) .nil))
 ·have he':¬ ((qc l).2.1:Int)=0:=om
  unfold zJ;rw[if_pos he];rw[f0] at hC;generalize (qc l).1=ts at *;refine jT x10 (by rfl) (hb.pur 10 1 dc) ?_;simp only[y10,jn,ν,ξ,τ,υ];rw[(by unfold z10;simp only[qq];rfl:z10=_)];repeat'(first|apply jd<;>intro _|simp(disch:=first|exact dzD|fail) only[hC,gNe,he',jaQ,r6,γ,δ,ε,ζ,η])
  ·exact Uo rfl
  ·rename_i h;exact absurd (λh'=>h'.1) h
end Go.Sy
end
noncomputable section
set_option maxRecDepth 100000
namespace Go.Sy
open Go.Ev Go.Proofs
def SzX (x:Ex):Prop:=szE x<=BIG
theorem WN:1000000<=BIG:=dc
theorem Ws {ts:List Tk}(W:Wds ts){i j:Nat}{x:Ex}(hi:i<ts.length)(h:qM ts i=.ok x j):SzX x:=by
 obtain⟨r,_,hr⟩:=evR W hi;rw[Yb hr] at h;obtain⟨N,hr⟩:=hr;have hz:=(wG W N).1 _ _ _ _ (hr N (φ _)) hi;unfold Y2 at h;cases r with
 |er t=>cases h
 |ok y k=>
  dsimp only at h;split at h
  ·cases h;have h1:=hz.2.2;have h2:(j - i) * 65537<=1000000 * 65537:=QaT _ (by have:=W.len;have:=hz.2.1;omega);have h3:1000000 * 65537<=BIG:=dc
   exact ω h1 (by rw[Qab];exact ω h2 h3)
  ·cases h
def SmD (d:DeclT):Prop:=d.begins.length<=BIG/\∀ x∈d.begins,szE x<=BIG
def SmP (p:ProcT):Prop:=p.rules.length<=BIG/\∀ r∈p.rules,SmR r
theorem Ht:∀ {ts:List Tk} {n i j:Nat} {vs ws:List (List Nat)},vs.length<=32->JV ts n i vs=.ok ws j->vs.length<ws.length/\ws.length<=32
 |ts,0,i,j,vs,ws,hv,h=>by cases h
 |ts,n+1,i,j,vs,ws,hv,h=>by
  rw[JV] at h;split at h
  ·split at h
   ·cases h
   ·split at h
    ·have:=Ht (by simp;omega) h;simp at this;omega
    ·split at h
     ·cases h;simp;omega
     ·cases h
  ·cases h
theorem jg5 {ts:List Tk}{i j:Nat}{e:EnumT}(h:JI ts i=.ok e j):0<e.vals.length/\e.vals.length<=1000000:=by
 unfold JI at h;split at h
 ·split at h
  ·split at h
   ·rename_i vs k hv;cases h;have:=Ht (by simp) hv;dsimp only;omega
   ·cases h
  ·cases h
 ·cases h
theorem jh1 {ts:List Tk}(W:Wds ts){i j:Nat}{bs:List Ex}(hi:i<ts.length)(h:Xl ts i=.ok bs j):(∀ x∈bs,SzX x)/\bs.length<=1:=by
 unfold Xl at h;split at h
 ·rename_i c;have hi1:=W.isM hi c;split at h
  ·cases h
  ·rename_i x k hx;split at h
   ·cases h;exact⟨λy hy=>by simp at hy;rw[hy];exact Ws W hi1 hx,by simp⟩
   ·cases h
 ·split at h
  ·cases h;exact⟨(λy hy=>by cases hy),by simp⟩
  ·cases h
theorem jg6 {ts:List Tk}(W:Wds ts){i j:Nat}{d:DeclT}(hi:i<ts.length)(h:JJ ts i=.ok d j):SmD d:=by
 unfold JJ at h;split at h
 ·rename_i k1;have hi1:=W.next i hi om
  split at h
  ·rename_i c1;have hi2:=W.isM hi1 c1;split at h
   ·cases h
   ·rename_i y k hy;have hk:=jcw W hi2 hy;split at h
    ·cases h
    ·rename_i bs k2 hb;cases h;obtain⟨c,d⟩:=jh1 W hk.2 hb;exact⟨by have:=WN;dsimp only;omega,c⟩
  ·cases h
 ·cases h
theorem Hu {ts:List Tk}(W:Wds ts):∀ {n i j:Nat} {vs ws:List AsT},i<ts.length->(∀ a∈vs,SzX a.to)->vs.length<=32->zf ts n i vs=.ok ws j->(∀ a∈ws,SzX a.to)/\ws.length<=32
 |0,i,j,vs,ws,hi,hv,hl,h=>by cases h
 |n+1,i,j,vs,ws,hi,hv,hl,h=>by
  rw[zf] at h;by_cases k1:(tk ts i).kind=1
  ·simp only[if_pos k1] at h;have hi1:=W.next i hi om
   by_cases h32:32<=vs.length
   ·simp only[if_pos h32] at h;cases h
   simp only[if_neg h32] at h;by_cases c1:isM (tk ts (i+1)) [[58,61]]=true
   ·simp only[if_pos c1] at h;have hi2:=W.isM hi1 c1;cases h1:qM ts (i+2) with
    |er t=>rw[h1] at h;cases h
    |ok x k=>
     rw[h1] at h;dsimp only at h;have hj:=yU W hi2 h1;have hx:=Ws W hi2 h1;have hv2:∀ l c nm,∀ a∈vs ++ [(⟨nm,x,l,c⟩:AsT)],SzX a.to:=λl c nm a ha=>by
      rcases QaU.1 ha with ha|ha
      ·exact hv a ha
      ·simp at ha;rw[ha];exact hx
     by_cases c2:isM (tk ts k) [[44]]=true
     ·simp only[if_pos c2] at h;exact Hu W (W.isM hj.2.1 c2) (hv2 _ _ _) (by simp;omega) h
     ·simp only[if_neg c2] at h;split at h
      ·cases h;exact⟨hv2 _ _ _,by simp;omega⟩
      ·cases h
   ·simp only[if_neg c1] at h;cases h
  ·simp only[if_neg k1] at h;cases h
theorem jg3 {ts:List Tk}(W:Wds ts){i j:Nat}{r:RuleT}(hi:i<ts.length)(h:JB ts i=.ok r j):SzX r.when/\(∀ a∈r.acts,SzX a.to)/\r.acts.length<=1000000:=by
 unfold JB at h;cases h1:qM ts i with
 |er t=>rw[h1] at h;cases h
 |ok x k=>
  rw[h1] at h;dsimp only at h;have hj:=yU W hi h1;by_cases c1:isM (tk ts k) [[100,111]]=true
  ·simp only[if_pos c1] at h;cases h2:zf ts ts.length (k+1) [] with
   |er t=>rw[h2] at h;cases h
   |ok vs k2=>
    rw[h2] at h;cases h;have:=Hu (vs:=[]) W (W.isM hj.2.1 c1) (λa ha=>by cases ha) (Qaf _) h2;exact⟨Ws W hi h1,this.1,by dsimp only;omega⟩
  ·simp only[if_neg c1] at h;cases h
theorem K1 {ts:List Tk}(W:Wds ts):∀ {n i j:Nat} {vs ws:List RuleT},i<ts.length->(∀ r∈vs,SzX r.when/\(∀ a∈r.acts,SzX a.to)/\r.acts.length<=1000000)->vs.length<=32->zO ts n i vs=.ok ws j->(∀ r∈ws,SzX r.when/\(∀ a∈r.acts,SzX a.to)/\r.acts.length<=1000000)/\ws.length<=32
 |0,i,j,vs,ws,hi,hv,hl,h=>by cases h
 |n+1,i,j,vs,ws,hi,hv,hl,h=>by
  rw[zO] at h;by_cases c1:isM (tk ts i) [[119,104,101,110]]=true
  ·simp only[if_pos c1] at h;have hi1:=W.isM hi c1;by_cases h32:32<=vs.length
   ·simp only[if_pos h32] at h;cases h
   simp only[if_neg h32] at h;cases h1:JB ts (i+1) with
   |er t=>rw[h1] at h;cases h
   |ok r k=>
    rw[h1] at h;dsimp only at h;refine K1 W (uA W hi1 h1).2 (λa ha=>?_) (by simp;omega) h;rcases QaU.1 ha with ha|ha
    ·exact hv a ha
    ·simp at ha;rw[ha];exact jg3 W hi1 h1
  ·simp only[if_neg c1] at h;split at h
   ·cases h;exact⟨hv,hl⟩
   ·cases h
theorem jg4 {ts:List Tk}(W:Wds ts){i j:Nat}{p:ProcT}(hi:i<ts.length)(h:JC ts i=.ok p j):SmP p:=by
 unfold JC at h;split at h
 ·rename_i k1;have hi1:=W.next i hi om
  split at h
  ·rename_i c1;have hi2:=W.isM hi1 c1;split at h
   ·rename_i vs k hv;cases h;have:=K1 (vs:=[]) W hi2 (λa ha=>by cases ha) (Qaf _) hv;exact⟨by have:=WN;dsimp only;omega,λr hr=>have q:=this.1 r hr;⟨q.1,by have:=WN;omega,q.2.1⟩⟩
   ·cases h
  ·cases h
 ·cases h
theorem WP {ts:List Tk}(W:Wds ts):∀ {n i j:Nat} {m w:SrcT},i<ts.length->SmS m->m.enums.length<=32->m.vars.length<=32->m.procs.length<=32->zX ts n i m=.ok w j->SmS w/\w.enums.length<=32/\w.vars.length<=32/\w.procs.length<=32
 |0,i,j,m,w,hi,hm,h1,h2,h3,h=>by cases h
 |n+1,i,j,m,w,hi,hm,h1,h2,h3,h=>by
  rw[zX] at h;by_cases c:isM (tk ts i) [[101,110,117,109],[118,97,114],[112,114,111,99,101,115,115]]=true
  ·simp only[if_pos c] at h;have hi1:=W.isM hi c;by_cases c1:(tk ts i).text=[101,110,117,109]
   ·simp only[if_pos c1] at h;by_cases hr:32<=m.enums.length
    ·simp only[if_pos hr] at h;cases h
    simp only[if_neg hr] at h;cases he:JI ts (i+1) with
    |er t=>rw[he] at h;cases h
    |ok e k=>
     rw[he] at h;refine WP (m:={ m with enums:=m.enums ++ [e] }) W (UL W hi1 he).2 ⟨by have:=WN;simp;omega,λa ha=>?_,hm.vars,hm.begs,hm.procs,hm.rules⟩ (by simp;omega) h2 h3 h;rcases QaU.1 ha with ha|ha
     ·exact hm.vals a ha
     ·simp at ha;rw[ha];have:=jg5 he;have:=WN;omega
   simp only[if_neg c1] at h;by_cases c2:(tk ts i).text=[118,97,114]
   ·simp only[if_pos c2] at h;by_cases hr:32<=m.vars.length
    ·simp only[if_pos hr] at h;cases h
    simp only[if_neg hr] at h;cases he:JJ ts (i+1) with
    |er t=>rw[he] at h;cases h
    |ok e k=>
     rw[he] at h;refine WP (m:={ m with vars:=m.vars ++ [e] }) W (UP W hi1 he).2 ⟨hm.enums,hm.vals,by have:=WN;simp;omega,λa ha=>?_,hm.procs,hm.rules⟩ h1 (by simp;omega) h3 h;rcases QaU.1 ha with ha|ha
     ·exact hm.begs a ha
     ·simp at ha;rw[ha];exact jg6 W hi1 he
   ·simp only[if_neg c2] at h;by_cases hr:32<=m.procs.length
    ·simp only[if_pos hr] at h;cases h
    simp only[if_neg hr] at h;cases he:JC ts (i+1) with
    |er t=>rw[he] at h;cases h
    |ok e k=>
     rw[he] at h;refine WP (m:={ m with procs:=m.procs ++ [e] }) W (Uu W hi1 he).2 ⟨hm.enums,hm.vals,hm.vars,hm.begs,by have:=WN;simp;omega,λa ha=>?_⟩ h1 h2 (by simp;omega) h;rcases QaU.1 ha with ha|ha
     ·exact hm.rules a ha
     ·simp at ha;rw[ha];exact jg4 W hi1 he
  ·simp only[if_neg c] at h;split at h
   ·cases h;exact⟨hm,h1,h2,h3⟩
   ·cases h
theorem jhd {l:List Nat}(h:(zJ l).2.1=0):SmS (zJ l).1/\(zJ l).1.enums.length<=32/\(zJ l).1.vars.length<=32/\(zJ l).1.procs.length<=32:=by
 unfold zJ at h ⊢;by_cases c:(qc l).2.1≠0
 ·rw[if_pos c] at h;exact absurd h c
 ·rw[if_neg c] at h ⊢;have c0:(qc l).2.1=0:=by simpa using c
  obtain⟨W,ne,_⟩:=GO c0;cases hr:zX (qc l).1 (qc l).1.length 0 QN with
  |er t=>rw[hr] at h;exact absurd h (λh=>by cases h)
  |ok m j=>exact WP W (QbI.2 ne) ⟨dc,(λa ha=>by cases ha),dc,(λa ha=>by cases ha),dc,(λa ha=>by cases ha)⟩ dc dc dc hr
variable {base:Bs}
set_option maxHeartbeats 1000000 in
theorem WO (hb:NB base):∀ x:Ex,szE x<=BIG->Tot base 30 [.agg (eE x),.agg (eE x)] (.bool true):=by
 refine Ex.indk λx ih hx=>?_;refine hb.tot ?_ (by first|rfl|simp[pa,pc,Jc,V4,Vb,VL,wu,Vi,Kj]) rfl;have hz:=Y8 x;generalize hks:x.kids=ks at *;have hlen:=QM ks;unfold BIG at *;refine jT x30 (by rfl) (hb.pur 30 1 dc) ?_;simp only[y30,jn,ν,ξ,τ,υ];rw[(by unfold z30;simp only[qq];rfl:z30=_)];repeat'(first|apply jd<;>intro _|simp(disch:=first|exact dzE|fail) only[hks,r8,γ,δ,ε,ζ,η])
 refine qZ ks.length (λk L s=>Has L 2 (.ptr 0 0)/\Has L 3 (.ptr 1 0)/\2<=s.nx/\Cl s 0 (eE x)/\Cl s 1 (eE x)) (by first|assumption|omega) dc (by simp(disch:=decide) only[jc,jb]) (by simp(disch:=decide) only[jc,jb]) ?_ (λk L s v h=>by simp(disch:=decide) only[jb];exact h) (λk L s v h=>by simp(disch:=decide) only[jb];exact h) (λk L s hk hI hi hn=>?_) (λL s hI=>?_)
 ·simp(disch:=decide) only[h12];exact⟨by(first|omega|(simp only[jf,je,jg,jh,ji];first|done|omega)),by(first|exact cyE|fail),by(first|exact cyE|fail)⟩
 ·obtain⟨i2,i3,n0,C0,C1⟩:=hI;have g0:=Xt hk;have e:=ih ks[k] (Qam hk) om
  (have zz:=aI C0.r C1.r;(repeat'(first|apply jd<;>intro _|simp(disch:=first|exact JT|fail) only[ja i2,ja i3,ja hi,ja hn,e,hks,C0.q,C1.q,C0.r,C1.r,r8,γ,δ,ε,ζ,η]));all_goals clear zz)
  refine⟨?_,?_⟩
  ·simp(disch:=decide) only[h12,i2,i3];exact⟨by(first|omega|(simp only[jf,je,jg,jh,ji];first|done|omega)),ckX,ckX⟩
  ·simp(disch:=decide) only[h12,hi,hn]
 ·obtain⟨i2,i3,n0,C0,C1⟩:=hI;repeat'(first|apply jd<;>intro _|simp(disch:=first|exact dzE|fail) only[ja i2,r8,γ,δ,ε,ζ,η])
  exact G0.v rfl rfl
theorem vE:∀ x:Ex,JX x x=true:=by
 refine Ex.indk λx ih=>?_;rw[gG,decide_eq_true rfl,decide_eq_true rfl,decide_eq_true rfl];have h:∀ l:List Ex,(∀ y∈l,JX y y=true)->qL JX l l=true:=λl=>by
  induction l with
  |nil=>exact λ_=>rfl
  |cons y l ih=>exact λh=>by rw[qL,h y (QbY ..),ih λz hz=>h z (Qbn _ hz)];rfl
 rw[h _ ih];rfl
theorem Qd {α:Type}{f:α->α->Bool}(hf:∀ x,f x x=true):∀ l:List α,qL f l l=true
 |[]=>rfl
 |x :: l=>by rw[qL,hf,Qd hf l];rfl
theorem jcF (m:SrcT):W7 m m=true:=by
 have hA:∀ a:AsT,wH a a=true:=λa=>by unfold wH;rw[vE,decide_eq_true rfl];rfl
 have hR:∀ a:RuleT,uz a a=true:=λa=>by unfold uz;rw[vE,Qd hA];rfl
 have hP:∀ a:ProcT,Jk a a=true:=λa=>by unfold Jk;rw[decide_eq_true rfl,Qd hR];rfl
 have hD:∀ a:DeclT,Jf a a=true:=λa=>by unfold Jf;rw[Qd vE];simp
 have hE:∀ a:EnumT,Jl a a=true:=λa=>by unfold Jl;rw[Qd (λx=>by simp)];simp
 unfold W7;rw[Qd hE,Qd hD,Qd hP];rfl
theorem jka (y:RuleT)(h:T AO)(q:Nat):upd (rats h q 0 6) 0 (ruE y)=[.int .i64 y.when.op,.int .i64 y.when.num,.str y.when.name,.lst y.when.kids.length (fl eE y.when.kids),.int .i64 y.when.line,.int .i64 y.when.col]:=by
 have hl:=QP h q 6 0
 match rats h q 0 6,hl with
 |[a,b,c,d,e,f],_=>rw[Yc];rfl
theorem toV (z:AsT)(s:St)(b:Nat):rats (wr s b 0 (asE z)).h b 1 6=[.int .i64 z.to.op,.int .i64 z.to.num,.str z.to.name,.lst z.to.kids.length (fl eE z.to.kids),.int .i64 z.to.line,.int .i64 z.to.col]:=by
 refine XE rfl λi hi=>?_;have hl:=YM z;rw[uZ om om,KW]
 match i,hi with
 |0,_|1,_|2,_|3,_|4,_|5,_=>rfl
set_option maxHeartbeats 4000000 in
theorem jd1 (hb:NB base)(m:SrcT)(ha:SmS m):Tot base 11 [.agg (srE m),.agg (srE m)] (.bool true):=by
 refine hb.tot ?_ (by first|rfl|simp[pa,pc,Jc,V4,Vb,VL,wu,Vi,Kj]) rfl;have he:=ha.enums;have hv:=ha.vars;have hp:=ha.procs;have S:=Hb hb m m ha ha;rw[jcF] at S;unfold BIG at he hv hp;refine jT x11 (by rfl) (hb.pur 11 1 dc) ?_;simp only[y11,jn,ν,ξ,τ,υ];rw[(by unfold z11;simp only[qq];rfl:z11=_)];repeat'(first|apply jd<;>intro _|simp(disch:=first|exact dzE|fail) only[S,r8,γ,δ,ε,ζ,η])
 refine qZ m.enums.length (λk L s=>Has L 2 (.ptr 0 0)/\Has L 3 (.ptr 1 0)/\Has L 25 (.lst m.enums.length (fl enE m.enums))/\2<=s.nx/\Cl s 0 (srE m)/\Cl s 1 (srE m)) (by first|assumption|omega) dc (by simp(disch:=decide) only[jc,jb]) (by simp(disch:=decide) only[jc,jb]) ?_ (λk L s v h=>by simp(disch:=decide) only[jb];exact h) (λk L s v h=>by simp(disch:=decide) only[jb];exact h) (λko Lo so hko hIo hio hno=>?_) (λLo so hIo=>?_)
 ·simp(disch:=decide) only[h12];exact⟨by(first|omega|(simp only[jf,je,jg,jh,ji];first|done|omega)),by first|exact ckX|(first|exact cyE|fail),by first|exact ckX|(first|exact cyE|fail)⟩
 ·obtain⟨i2,i3,iL,n0,C0,C1⟩:=hIo;obtain⟨q,hq⟩:∃ q,q=so.nx:=⟨_,rfl⟩;obtain⟨x,hx⟩:∃ x,x=m.enums[ko]:=⟨_,rfl⟩
  (have zz:=aI C0.r C1.r;(repeat'(first|apply jd<;>intro _|simp(disch:=first|exact JT|fail) only[ja i2,ja i3,ja iL,ja hio,ja hno,<-hx,<-hq,C0.q,C1.q,C0.r,C1.r,r8,γ,δ,ε,ζ,η]));all_goals clear zz)
  refine⟨?_,?_⟩
  ·simp(disch:=decide) only[h12,i2,i3,iL];exact⟨by(first|omega|(simp only[jf,je,jg,jh,ji];first|done|omega)),ckX,ckX⟩
  ·simp(disch:=decide) only[h12,hio,hno]
 ·obtain⟨i2,i3,iL,n0,C0,C1⟩:=hIo
  (have zz:=aI C0.r C1.r;(repeat'(first|apply jd<;>intro _|simp(disch:=first|exact JT|fail) only[ja i2,ja i3,ja iL,C0.q,C1.q,C0.r,C1.r,r8,γ,δ,ε,ζ,η]));all_goals clear zz)
  refine qZ m.vars.length (λk L s=>Has L 2 (.ptr 0 0)/\Has L 3 (.ptr 1 0)/\Has L 51 (.lst m.vars.length (fl qk m.vars))/\2<=s.nx/\Cl s 0 (srE m)/\Cl s 1 (srE m)) (by first|assumption|omega) dc (by simp(disch:=decide) only[jc,jb]) (by simp(disch:=decide) only[jc,jb]) ?_ (λk L s v h=>by simp(disch:=decide) only[jb];exact h) (λk L s v h=>by simp(disch:=decide) only[jb];exact h) (λkv Lv sv hkv hIv hiv hnv=>?_) (λLv sv hIv=>?_)
  ·simp(disch:=decide) only[h12,i2,i3];exact⟨by(first|omega|(simp only[jf,je,jg,jh,ji];first|done|omega)),by first|exact ckX|(first|exact cyE|fail),by first|exact ckX|(first|exact cyE|fail)⟩
  ·clear i2 i3 iL n0 C0 C1;obtain⟨i2,i3,iL,n0,C0,C1⟩:=hIv;obtain⟨q,hq⟩:∃ q,q=sv.nx:=⟨_,rfl⟩;obtain⟨x,hx⟩:∃ x,x=m.vars[kv]:=⟨_,rfl⟩;have hxm:x∈m.vars:=hx▸Qam hkv;have hbg:=ha.begs x hxm;by_cases h1:x.begins.length=1
   ·have h1':(x.begins.length:Int)=1:=om
    obtain⟨b,hbb⟩:=List.length_eq_one_iff.1 h1;have e:=WO hb b (hbg.2 b (by rw[hbb];exact Qbo.2 rfl));have eL:∀ (s:St) (K:AV->St->Prop),jl (Jb 6 (.lptr (fl eE x.begins) 0) s) K=K (.agg (eE b)) s:=λs K=>by
     rw[hbb];exact Yq (i:=0) (xs:=[b]) Jr (Qbm 0)
    (have zz:=aI C0.r C1.r;(repeat'(first|apply jd<;>intro _|simp(disch:=first|exact JT|fail) only[ja i2,ja i3,ja iL,ja hiv,ja hnv,<-hx,<-hq,h1',e,eL,C0.q,C1.q,C0.r,C1.r,r8,γ,δ,ε,ζ,η]));all_goals clear zz)
    refine⟨?_,?_⟩
    ·simp(disch:=decide) only[h12,i2,i3,iL];exact⟨by(first|omega|(simp only[jf,je,jg,jh,ji];first|done|omega)),ckX,ckX⟩
    ·simp(disch:=decide) only[h12,hiv,hnv]
   ·have h1':¬ (x.begins.length:Int)=1:=om
    (have zz:=aI C0.r C1.r;(repeat'(first|apply jd<;>intro _|simp(disch:=first|exact JT|fail) only[ja i2,ja i3,ja iL,ja hiv,ja hnv,<-hx,<-hq,C0.q,C1.q,C0.r,C1.r,r8,γ,δ,ε,ζ,η]));all_goals clear zz)
    refine⟨?_,?_⟩
    ·simp(disch:=decide) only[h12,i2,i3,iL];exact⟨by(first|omega|(simp only[jf,je,jg,jh,ji];first|done|omega)),ckX,ckX⟩
    ·simp(disch:=decide) only[h12,hiv,hnv]
  ·clear i2 i3 iL n0 C0 C1;obtain⟨i2,i3,iL,n0,C0,C1⟩:=hIv
   (have zz:=aI C0.r C1.r;(repeat'(first|apply jd<;>intro _|simp(disch:=first|exact JT|fail) only[ja i2,ja i3,ja iL,C0.q,C1.q,C0.r,C1.r,r8,γ,δ,ε,ζ,η]));all_goals clear zz)
   refine qZ m.procs.length (λk L s=>Has L 2 (.ptr 0 0)/\Has L 3 (.ptr 1 0)/\Has L 95 (.lst m.procs.length (fl prE m.procs))/\2<=s.nx/\Cl s 0 (srE m)/\Cl s 1 (srE m)) (by first|assumption|omega) dc (by simp(disch:=decide) only[jc,jb]) (by simp(disch:=decide) only[jc,jb]) ?_ (λk L s v h=>by simp(disch:=decide) only[jb];exact h) (λk L s v h=>by simp(disch:=decide) only[jb];exact h) (λkp Lp sp hkp hIp hip hnp=>?_) (λLp sp hIp=>?_)
   ·simp(disch:=decide) only[h12,i2,i3];exact⟨by(first|omega|(simp only[jf,je,jg,jh,ji];first|done|omega)),by first|exact ckX|(first|exact cyE|fail),by first|exact ckX|(first|exact cyE|fail)⟩
   ·clear i2 i3 iL n0 C0 C1;obtain⟨i2,i3,iL,n0,C0,C1⟩:=hIp;obtain⟨q,hq⟩:∃ q,q=sp.nx:=⟨_,rfl⟩;obtain⟨x,hx⟩:∃ x,x=m.procs[kp]:=⟨_,rfl⟩;have hxm:x∈m.procs:=hx▸Qam hkp;have hru:=ha.rules x hxm;have hin:=hru.1;unfold BIG at hin
    (have zz:=aI C0.r C1.r;(repeat'(first|apply jd<;>intro _|simp(disch:=first|exact JT|fail) only[ja i2,ja i3,ja iL,ja hip,ja hnp,<-hx,<-hq,C0.q,C1.q,C0.r,C1.r,r8,γ,δ,ε,ζ,η]));all_goals clear zz)
    refine qZ x.rules.length (λj L s=>Has L 2 (.ptr 0 0)/\Has L 3 (.ptr 1 0)/\Has L 95 (.lst m.procs.length (fl prE m.procs))/\Has L 96 (.int .i64 (m.procs.length:Int))/\Has L 97 (.int .i64 (kp:Int))/\Has L 12 (.ptr q 0)/\Has L 13 (.ptr (q+1) 0)/\Has L 120 (.lst x.rules.length (fl ruE x.rules))/\q+2<=s.nx/\Cl s 0 (srE m)/\Cl s 1 (srE m)/\Cl s q (prE x)/\Cl s (q+1) (prE x)) (by first|assumption|omega) dc (by simp(disch:=decide) only[jc,jb]) (by simp(disch:=decide) only[jc,jb]) ?_ (λk L s v h=>by simp(disch:=decide) only[jb];exact h) (λk L s v h=>by simp(disch:=decide) only[jb];exact h) (λkr Lr sr hkr hIr hir hnr=>?_) (λLr sr hIr=>?_)
    ·simp(disch:=decide) only[h12,i2,i3,iL,hip,hnp];exact⟨by(first|omega|(simp only[jf,je,jg,jh,ji];first|done|omega)),ckX,ckX,by(first|exact cyE|fail),by(first|exact cyE|fail)⟩
    ·clear hip hnp i2 i3 iL C0 C1;obtain⟨i2,i3,iL,hnp,hip,iX,iY,iR,n1,C0,C1,C2,C3⟩:=hIr;obtain⟨q2,hq2⟩:∃ q2,q2=sr.nx:=⟨_,rfl⟩;obtain⟨y,hy⟩:∃ y,y=x.rules[kr]:=⟨_,rfl⟩;have sy:=hru.2 y (hy▸Qam hkr);have hac:=sy.acts;have e:=WO hb y.when sy.when;rw[qO] at e;unfold BIG at hac
     (have zz:=aI C0.r (aI C1.r (aI C2.r C3.r));(repeat'(first|apply jd<;>intro _|simp(disch:=first|exact JT|fail) only[ja i2,ja i3,ja iL,ja hir,ja hnr,ja iX,ja iY,ja iR,e,jka,<-hy,<-hq2,C0.q,C1.q,C2.q,C3.q,C0.r,C1.r,C2.r,C3.r,r8,γ,δ,ε,ζ,η]));all_goals clear zz)
     trace_state
     refine qZ y.acts.length (λj L s=>Has L 2 (.ptr 0 0)/\Has L 3 (.ptr 1 0)/\Has L 95 (.lst m.procs.length (fl prE m.procs))/\Has L 96 (.int .i64 (m.procs.length:Int))/\Has L 97 (.int .i64 (kp:Int))/\Has L 12 (.ptr q 0)/\Has L 13 (.ptr (q+1) 0)/\Has L 120 (.lst x.rules.length (fl ruE x.rules))/\Has L 121 (.int .i64 (x.rules.length:Int))/\Has L 122 (.int .i64 (kr:Int))/\Has L 15 (.ptr q2 0)/\Has L 16 (.ptr (q2+1) 0)/\Has L 139 (.lst y.acts.length (fl asE y.acts))/\q+2<=q2/\q2+2<=s.nx/\Cl s 0 (srE m)/\Cl s 1 (srE m)/\Cl s q (prE x)/\Cl s (q+1) (prE x)/\Cl s q2 (ruE y)/\Cl s (q2+1) (ruE y)) (by first|assumption|omega) dc (by simp(disch:=decide) only[jc,jb]) (by simp(disch:=decide) only[jc,jb]) ?_ (λk L s v h=>by simp(disch:=decide) only[jb];exact h) (λk L s v h=>by simp(disch:=decide) only[jb];exact h) (λk L s hk hI hi hn=>?_) (λL s hI=>?_)
     ·simp(disch:=decide) only[h12,i2,i3,iL,hip,hnp,iX,iY,iR,hir,hnr];exact⟨om,by(first|omega|(simp only[jf,je,jg,jh,ji];first|done|omega)),ckX,ckX,ckX,ckX,by(first|exact cyE|fail),by(first|exact cyE|fail)⟩
     ·clear hip hnp i2 i3 iL C0 C1 hir hnr iX iY iR C2 C3;obtain⟨i2,i3,iL,hnp,hip,iX,iY,iR,hnr,hir,iU,iV,iA,n1,n2,C0,C1,C2,C3,C4,C5⟩:=hI;obtain⟨z,hz⟩:∃ z,z=y.acts[k]:=⟨_,rfl⟩;have e:=WO hb z.to (sy.to z (hz▸Qam hk));rw[qO] at e
      (have zz:=aI C0.r (aI C1.r (aI C2.r (aI C3.r (aI C4.r C5.r))));(repeat'(first|apply jd<;>intro _|simp(disch:=first|exact JT|fail) only[ja i2,ja i3,ja iL,ja hi,ja hn,ja iU,ja iV,ja iA,e,toV,<-hz,C0.q,C1.q,C2.q,C3.q,C4.q,C5.q,C0.r,C1.r,C2.r,C3.r,C4.r,C5.r,r8,γ,δ,ε,ζ,η]));all_goals clear zz)
      refine⟨?_,?_⟩
      ·simp(disch:=decide) only[h12,i2,i3,iL,hip,hnp,iX,iY,iR,hir,hnr,iU,iV,iA];exact⟨n1,by(first|omega|(simp only[jf,je,jg,jh,ji];first|done|omega)),ckX,ckX,ckX,ckX,ckX,ckX⟩
      ·simp(disch:=decide) only[h12,hi,hn]
     ·clear hip hnp i2 i3 iL C0 C1 hir hnr iX iY iR C2 C3;obtain⟨i2,i3,iL,hnp,hip,iX,iY,iR,hnr,hir,iU,iV,iA,n1,n2,C0,C1,C2,C3,C4,C5⟩:=hI;repeat'(first|apply jd<;>intro _|simp(disch:=first|exact dzE|fail) only[ja hir,r8,γ,δ,ε,ζ,η])
      refine⟨?_,?_⟩
      ·simp(disch:=decide) only[h12,i2,i3,iL,hip,hnp,iX,iY,iR];exact⟨by(first|omega|(simp only[jf,je,jg,jh,ji];first|done|omega)),ckX,ckX,ckX,ckX⟩
      ·simp(disch:=decide) only[h12,hir,hnr]
    ·clear hip hnp i2 i3 iL C0 C1;obtain⟨i2,i3,iL,hnp,hip,iX,iY,iR,n1,C0,C1,C2,C3⟩:=hIr;repeat'(first|apply jd<;>intro _|simp(disch:=first|exact dzE|fail) only[ja hip,r8,γ,δ,ε,ζ,η])
     refine⟨?_,?_⟩
     ·simp(disch:=decide) only[h12,i2,i3,iL];exact⟨by(first|omega|(simp only[jf,je,jg,jh,ji];first|done|omega)),ckX,ckX⟩
     ·simp(disch:=decide) only[h12,hip,hnp]
   ·clear i2 i3 iL n0 C0 C1;obtain⟨i2,i3,iL,n0,C0,C1⟩:=hIp;repeat'(first|apply jd<;>intro _|simp(disch:=first|exact dzE|fail) only[ja i2,r8,γ,δ,ε,ζ,η])
    exact G0.v rfl rfl
end Go.Sy
end
noncomputable section
set_option maxRecDepth 100000
namespace Go.Sy
open Go.Ev Go.Proofs
variable {base:Bs}
set_option maxHeartbeats 4000000 in
theorem jhE (hb:NB base)(h8:∀ st,base.run 8 [] st=.ok (.bool true) st)(hP:PI base)(l:List Nat)(hl:l.length<=9223372036854775807):XB θ base 3 [.str l] st0 (λv _=>v=.bool true) λ_ _=>False:=by
 have E8:=λ(st:St) (K Kp:AV->St->Prop)=>Ue (P:=θ) (base:=base) (h8 st) K Kp;have EA:=jfK hb hP l hl GO jdN;have EB:=jdZ hb l hl GO jdN;have S:SmS (zJ l).1:=by
  by_cases h:(zJ l).2.1=0
  ·exact(jhd h).1
  ·have e:(zJ l).1=QN:=by
    unfold zJ at h ⊢;split
    ·rfl
    ·rename_i h1;rw[if_neg h1] at h;split at h
     ·rfl
     ·exact absurd rfl h
   rw[e];exact⟨Qaf _,(λ_ h=>by cases h),Qaf _,(λ_ h=>by cases h),Qaf _,(λ_ h=>by cases h)⟩
 have EC:=jd1 hb (zJ l).1 S;unfold zg at EA EB;generalize (zJ l).1=m at *;generalize (zJ l).2=q at *;obtain⟨a,b,c⟩:=q;dsimp only at EA EB;refine Q3 xL3 (by rfl) (hb.at0 3 dc dc _ _) ?_;simp only[yL3,jn,ν,ξ,τ,υ];rw[(by unfold zL3;simp only[qq];rfl:zL3=_)];repeat'(first|apply jd<;>intro _|simp(disch:=first|exact dzE|fail) only[E8,EA,EB,EC,gEq,r8,γ,δ,ε,ζ,η])
 all_goals first|rfl|trace_state
end Go.Sy
end
noncomputable section
namespace Go.Proofs
open Go.Shelf
def Tryz.laysC174_ren:Go.Shelf.Ren:=⟨λ|174=>123|247=>150|245=>151|287=>172|279=>173|280=>174|281=>175|282=>176|321=>185|322=>186|316=>187|171=>189|205=>188|243=>190|246=>113|283=>145|284=>146|285=>147|286=>148|129=>168|317=>167|318=>169|319=>170|320=>171|337=>183|338=>184|n=>n,λ|9=>9|3=>3|2=>2|75=>177|85=>178|4=>4|167=>219|5=>5|53=>131|175=>220|46=>217|168=>222|37=>203|0=>0|210=>233|21=>21|127=>237|145=>240|143=>238|171=>200|173=>204|212=>214|51=>215|20=>20|213=>216|232=>235|233=>236|80=>241|n=>n,λ|15=>1|16=>2|17=>0|18=>3|19=>4|n=>n⟩
theorem Tryz.laysC174:Go.Proofs.LaysC.n174 θ Tryz.laysC174_ren:={
 mixed:=by kernel_rfl
 f129:=Tryz.func168.trans (congrArg some (by kernel_rfl))
 f171:=Tryz.func189.trans (congrArg some (by kernel_rfl))
 f174:=Tryz.func123.trans (congrArg some (by kernel_rfl))
 f205:=Tryz.func188.trans (congrArg some (by kernel_rfl))
 f243:=Tryz.func190.trans (congrArg some (by kernel_rfl))
 f245:=Tryz.func151.trans (congrArg some (by kernel_rfl))
 f246:=Tryz.func113.trans (congrArg some (by kernel_rfl))
 f247:=Tryz.func150.trans (congrArg some (by kernel_rfl))
 f279:=Tryz.func173.trans (congrArg some (by kernel_rfl))
 f280:=Tryz.func174.trans (congrArg some (by kernel_rfl))
 f281:=Tryz.func175.trans (congrArg some (by kernel_rfl))
 f282:=Tryz.func176.trans (congrArg some (by kernel_rfl))
 f283:=Tryz.func145.trans (congrArg some (by kernel_rfl))
 f284:=Tryz.func146.trans (congrArg some (by kernel_rfl))
 f285:=Tryz.func147.trans (congrArg some (by kernel_rfl))
 f286:=Tryz.func148.trans (congrArg some (by kernel_rfl))
 f287:=Tryz.func172.trans (congrArg some (by kernel_rfl))
 f316:=Tryz.func187.trans (congrArg some (by kernel_rfl))
 f317:=Tryz.func167.trans (congrArg some (by kernel_rfl))
 f318:=Tryz.func169.trans (congrArg some (by kernel_rfl))
 f319:=Tryz.func170.trans (congrArg some (by kernel_rfl))
 f320:=Tryz.func171.trans (congrArg some (by kernel_rfl))
 f321:=Tryz.func185.trans (congrArg some (by kernel_rfl))
 f322:=Tryz.func186.trans (congrArg some (by kernel_rfl))
 f337:=Tryz.func183.trans (congrArg some (by kernel_rfl))
 f338:=Tryz.func184.trans (congrArg some (by kernel_rfl))
 t0:=Tryz.underlying0
 a0:=Tryz.isAgg0
 z0:=Tryz.sizeOf0
 v0:=Tryz.zeroValue0
 t2:=Tryz.underlying2
 a2:=Tryz.isAgg2
 z2:=Tryz.sizeOf2
 v2:=Tryz.zeroValue2
 t3:=Tryz.underlying3
 a3:=Tryz.isAgg3
 z3:=Tryz.sizeOf3
 v3:=Tryz.zeroValue3
 t4:=Tryz.underlying4
 a4:=Tryz.isAgg4
 z4:=Tryz.sizeOf4
 v4:=Tryz.zeroValue4
 t5:=Tryz.underlying5
 a5:=Tryz.isAgg5
 z5:=Tryz.sizeOf5
 v5:=Tryz.zeroValue5
 t9:=Tryz.underlying9
 a9:=Tryz.isAgg9
 z9:=Tryz.sizeOf9
 v9:=Tryz.zeroValue9
 t20:=Tryz.underlying20
 a20:=Tryz.isAgg20
 z20:=Tryz.sizeOf20
 v20:=Tryz.zeroValue20
 t21:=Tryz.underlying21
 a21:=Tryz.isAgg21
 z21:=Tryz.sizeOf21
 v21:=Tryz.zeroValue21
 t37:=Tryz.underlying203
 a37:=Tryz.isAgg203
 z37:=Tryz.sizeOf203
 v37:=Tryz.zeroValue203
 t46:=Tryz.underlying217
 a46:=Tryz.isAgg217
 z46:=Tryz.sizeOf217
 v46:=Tryz.zeroValue217
 t51:=Tryz.underlying215
 a51:=Tryz.isAgg215
 z51:=Tryz.sizeOf215
 v51:=Tryz.zeroValue215
 t53:=Tryz.underlying131
 a53:=Tryz.isAgg131
 z53:=Tryz.sizeOf131
 v53:=Tryz.zeroValue131
 t75:=Tryz.underlying177
 a75:=Tryz.isAgg177
 z75:=Tryz.sizeOf177
 v75:=Tryz.zeroValue177
 t85:=Tryz.underlying178
 a85:=Tryz.isAgg178
 z85:=Tryz.sizeOf178
 v85:=Tryz.zeroValue178
 t127:=Tryz.underlying237
 a127:=Tryz.isAgg237
 z127:=Tryz.sizeOf237
 v127:=Tryz.zeroValue237
 t143:=Tryz.underlying238
 a143:=Tryz.isAgg238
 z143:=Tryz.sizeOf238
 v143:=Tryz.zeroValue238
 t145:=Tryz.underlying240
 a145:=Tryz.isAgg240
 z145:=Tryz.sizeOf240
 v145:=Tryz.zeroValue240
 t167:=Tryz.underlying219
 a167:=Tryz.isAgg219
 z167:=Tryz.sizeOf219
 v167:=Tryz.zeroValue219
 t168:=Tryz.underlying222
 a168:=Tryz.isAgg222
 z168:=Tryz.sizeOf222
 v168:=Tryz.zeroValue222
 t171:=Tryz.underlying200
 a171:=Tryz.isAgg200
 z171:=Tryz.sizeOf200
 v171:=Tryz.zeroValue200
 t173:=Tryz.underlying204
 a173:=Tryz.isAgg204
 z173:=Tryz.sizeOf204
 v173:=Tryz.zeroValue204
 t175:=Tryz.underlying220
 a175:=Tryz.isAgg220
 z175:=Tryz.sizeOf220
 v175:=Tryz.zeroValue220
 t210:=Tryz.underlying233
 a210:=Tryz.isAgg233
 z210:=Tryz.sizeOf233
 v210:=Tryz.zeroValue233
 t212:=Tryz.underlying214
 a212:=Tryz.isAgg214
 z212:=Tryz.sizeOf214
 v212:=Tryz.zeroValue214
 t213:=Tryz.underlying216
 a213:=Tryz.isAgg216
 z213:=Tryz.sizeOf216
 t232:=Tryz.underlying235
 a232:=Tryz.isAgg235
 z232:=Tryz.sizeOf235
 v232:=Tryz.zeroValue235
 t233:=Tryz.underlying236
 a233:=Tryz.isAgg236
 z233:=Tryz.sizeOf236
 v233:=Tryz.zeroValue236
 g15:=by kernel_rfl
 g16:=by kernel_rfl
 g17:=by kernel_rfl
 g18:=by kernel_rfl
 g19:=by kernel_rfl
 t80:=Tryz.underlying241
 a80:=Tryz.isAgg241
 z80:=Tryz.sizeOf241
 v80:=Tryz.zeroValue241
 i0:=by kernel_rfl
 i2:=by kernel_rfl
 i3:=by kernel_rfl
 i4:=by kernel_rfl
 i5:=by kernel_rfl
 i9:=by kernel_rfl
 i20:=by kernel_rfl
 i21:=by kernel_rfl
 i37:=by kernel_rfl
 i46:=by kernel_rfl
 i51:=by kernel_rfl
 i53:=by kernel_rfl
 i75:=by kernel_rfl
 i80:=by kernel_rfl
 i85:=by kernel_rfl
 i127:=by kernel_rfl
 i143:=by kernel_rfl
 i145:=by kernel_rfl
 i167:=by kernel_rfl
 i168:=by kernel_rfl
 i171:=by kernel_rfl
 i173:=by kernel_rfl
 i175:=by kernel_rfl
 i210:=by kernel_rfl
 i212:=by kernel_rfl
 i232:=by kernel_rfl
 i233:=by kernel_rfl
 m15:=by kernel_rfl
 m16:=by kernel_rfl
 m17:=by kernel_rfl
 m18:=by kernel_rfl
 m19:=by kernel_rfl
 c0:=by kernel_rfl
 c2:=by kernel_rfl
 c3:=by kernel_rfl
 c4:=by kernel_rfl
 c5:=by kernel_rfl
 c9:=by kernel_rfl
 c20:=by kernel_rfl
 c21:=by kernel_rfl
 c37:=by kernel_rfl
 c46:=by kernel_rfl
 c51:=by kernel_rfl
 c53:=by kernel_rfl
 c75:=by kernel_rfl
 c80:=by kernel_rfl
 c85:=by kernel_rfl
 c127:=by kernel_rfl
 c143:=by kernel_rfl
 c145:=by kernel_rfl
 c167:=by kernel_rfl
 c168:=by kernel_rfl
 c171:=by kernel_rfl
 c173:=by kernel_rfl
 c175:=by kernel_rfl
 c210:=by kernel_rfl
 c212:=by kernel_rfl
 c213:=by kernel_rfl
 c232:=by kernel_rfl
 c233:=by kernel_rfl }
open Go.RowKit in
theorem Tryz.strconv_ParseInt_10_at64_ok (s:ByteArray)(hmax:s.size<=9223372036854775806)(v:Int)(h:Lib.parseIntB 64 s.data.toList=.ok v)(w:World) :
 Calls θ 123 #[.string s,.int .i64 10,.int .i64 64] w λe w'=>e=.returned (.tuple #[.int .i64 v,.nilIface])/\(w'=w\/∃ t,w'=Lib.bytesWorld w 5 t):=Any.strconv_ParseInt_10_at64_ok Tryz.laysC174 s hmax v h w
open Go.RowKit in
theorem Tryz.strconv_ParseInt_10_at64_range (s:ByteArray)(hlim:s.size<=281474976710656)(h:Lib.parseIntB 64 s.data.toList=.range)(ev:Value)(w:World)(hv:w.cell? ⟨2,0,none⟩=some ev)(hev:ev=.nilIface\/∃ te pe,ev=.iface te pe) :
 Calls θ 123 #[.string s,.int .i64 10,.int .i64 64] w λe w'=>∃ N,e=.returned (.tuple #[.int .i64 (Lib.intSat 64 s.data.toList),.iface 222 (.pointer (some ⟨N,0,none⟩))])/\w.heap.size<=N/\w'.heap[N]? = some (.cells #[.string ⟨#[80,97,114,115,101,73,110,116]⟩,.string s,ev] 233 (0,0))/\Below w.heap.size w w':=Any.strconv_ParseInt_10_at64_range Tryz.laysC174 s hlim h ev w hv hev
end Go.Proofs
end
noncomputable section
set_option maxRecDepth 100000
namespace Go.Sy
open Go.Ev Go.Proofs
open Go.RowKit (Below)
theorem wE:okP θ=true:=by kernel_rfl
theorem WX:Tryz.prog.follows .mixedOrders=true:=by kernel_rfl
theorem jkA:jdf (VG θ 10000000 400 8 [] st0)=true:=by kernel_rfl
def UO (l:List UInt8):Prop:=∀ c∈l,48<=c.toNat/\c.toNat<=57
theorem U7:∀ (l:List UInt8) (acc:Nat),UO l->(acc+1) * 10 ^ l.length<=100000000->Lib.parseUintM 18446744073709551615 acc l=.ok ((l.map UInt8.toNat).foldl (λv c=>10 * v+(c - 48)) acc)
 |[],acc,_,_=>rfl
 |c :: r,acc,hd,h=>by
  have hc:=hd c (by simp);rw[χ,Nat.pow_succ] at h;have hp:1<=10 ^ r.length:=Nat.one_le_pow _ _ dc;have hacc:(acc+1) * 10<=100000000:=by
   have:(acc+1) * 10 * 1<=(acc+1) * 10 * 10 ^ r.length:=Nat.mul_le_mul_left _ hp;have e:(acc+1) * 10 * 10 ^ r.length=(acc+1) * (10 ^ r.length * 10):=by rw[Nat.mul_assoc,Nat.mul_comm 10]
   omega
  unfold Lib.parseUintM;rw[if_pos hc,if_neg om,if_neg om,U7 r _ (λd hd'=>hd d (by simp[hd']))]
  ·show _=Lib.NumEnd.ok ((r.map UInt8.toNat).foldl _ (10 * acc+(c.toNat - 48)));rw[Nat.mul_comm acc 10]
  ·refine ω ?_ h;have e:(acc+1) * (10 ^ r.length * 10)=((acc+1) * 10) * 10 ^ r.length:=by rw[Nat.mul_comm (10 ^ r.length),Nat.mul_assoc]
   rw[e];exact QaT _ om
theorem vt:∀ (l:List UInt8) (acc:Nat),UO l->(∃ u,Lib.parseUintM 18446744073709551615 acc l=.ok u)\/Lib.parseUintM 18446744073709551615 acc l=.range
 |[],acc,_=>.inl ⟨acc,rfl⟩
 |c :: r,acc,hd=>by
  have hc:=hd c (by simp);unfold Lib.parseUintM;rw[if_pos hc];by_cases h1:1844674407370955162<=acc
  ·rw[if_pos h1];exact .inr rfl
  ·rw[if_neg h1];by_cases h2:18446744073709551615<acc * 10+(c.toNat - 48)
   ·rw[if_pos h2];exact .inr rfl
   ·rw[if_neg h2];exact vt r _ λd hd'=>hd d (by simp[hd'])
theorem U8 {l:List UInt8}(hne:l≠[])(hd:UO l):Lib.parseIntB 64 l=Lib.signlessC (2 ^ 63) (Lib.parseUintM 18446744073709551615 0 l):=by
 obtain⟨c,r,rfl⟩:=List.exists_cons_of_ne_nil hne;have hc:=hd c (by simp);rw[Lib.parseIntB_plain 64 c r om om];unfold Lib.parseUintB;rw[if_neg (by simp)]
theorem jcW {l:List UInt8}(hne:l≠[])(hd:UO l)(h7:l.length<=7):Lib.parseIntB 64 l=.ok (yG (l.map UInt8.toNat):Int):=by
 have hle:10 ^ l.length<=10 ^ 7:=QbX dc h7;have e7:10 ^ 7=10000000:=dc
 rw[U8 hne hd,U7 l 0 hd om];have hv:=jg8 (s:=l.map UInt8.toNat) (n:=l.length) (by simp) h7 (λc hc=>by
  obtain⟨b,hb,rfl⟩:=List.mem_map.1 hc;have:=hd b hb;unfold jy;simp;omega)
 show Lib.signlessC _ (.ok (yG (l.map UInt8.toNat)))=_;generalize yG (l.map UInt8.toNat)=v at hv;unfold Lib.signlessC;simp;omega
theorem ja7 {l:List UInt8}(hne:l≠[])(hd:UO l):(∃ v,Lib.parseIntB 64 l=.ok v)\/Lib.parseIntB 64 l=.range:=by
 rw[U8 hne hd];rcases vt l 0 hd with ⟨u,h⟩|h
 ·rw[h];unfold Lib.signlessC;by_cases hu:2 ^ 63<=u
  ·right;simp only[if_pos hu]
  ·left;exact⟨u,by simp only[if_neg hu]⟩
 ·rw[h];exact .inr rfl
def GJ (s:List Nat):Bool:=decide (s≠[]) && s.all jy
theorem GI (s:List Nat):GJ s=true↔wt s:=by
 unfold GJ wt;simp
def YK:qx:=λf args st=>match args with
 |[]=>if f=8 then .ok (.bool true) st else .no
 |[.str s,.int .i64 a,.int .i64 b]=>if f=123/\a=10/\b=64/\GJ s=true/\s.length<=281474976710656 then(if s.length<=7 then .ok (.tup [.int .i64 (yG s:Int),.nilif]) st else .ok (.tup [.bad,.bad]) st) else .no
 |_=>.no
theorem jhR (st:St):YK 8 [] st=.ok (.bool true) st:=rfl
def YL:Bs:=⟨YK,ja4⟩
theorem G2:PI YL:=λs st hd hl=>by
 have e:YK 123 [.str s,.int .i64 10,.int .i64 64] st=if(123=123/\(10:Int)=10/\(64:Int)=64/\GJ s=true/\s.length<=281474976710656) then(if s.length<=7 then .ok (.tup [.int .i64 (yG s:Int),.nilif]) st else .ok (.tup [.bad,.bad]) st) else .no:=rfl
 simp only[show YL.run=YK from rfl];rw[e,if_pos ⟨rfl,rfl,rfl,(GI s).2 hd,hl⟩];exact⟨λh=>if_pos h,λh=>if_neg om⟩
theorem Wj (f:FuncId)(args:List AV)(st:St):YK f args st=.no\/(f=8/\args=[])\/(f=123/\∃ s,args=[.str s,.int .i64 10,.int .i64 64]/\wt s/\s.length<=281474976710656):=by
 unfold YK;split
 ·by_cases h:f=8
  ·exact .inr (.inl ⟨h,rfl⟩)
  ·exact .inl (if_neg h)
 ·rename_i s a b;by_cases h:f=123/\a=10/\b=64/\GJ s=true/\s.length<=281474976710656
  ·obtain⟨h1,rfl,rfl,h4,h5⟩:=h;exact .inr (.inr ⟨h1,s,rfl,(GI s).1 h4,h5⟩)
  ·exact .inl (if_neg h)
 ·exact .inl rfl
theorem jfD (f:FuncId)(args:List AV)(st:St)(h9:f≠8)(h31:f≠123):YK f args st=.no:=by
 rcases Wj f args st with h|⟨h,_⟩|⟨h,_⟩
 ·exact h
 ·exact absurd h h9
 ·exact absurd h h31
theorem QV {ι:Inj}{st:St}{w w':World}(hs:Sim ι st.h st.nx w)(b:Below w.heap.size w w'):Sim ι st.h st.nx w'/\Grew ι w ι w':=by
 have gr:Grew ι w ι w':=⟨b.os,b.tape,b.output,b.size,λk hk _=>b.block k hk,λb B S e=>.inl ⟨b,S,e⟩,λB vs h=>.inl h⟩;exact⟨⟨λc B S e=>by
  obtain⟨o,x,h1,h2,h3⟩:=hs.obj c B S e;exact⟨o,x,h1,(b.block B (hs.lt e)).trans h2,h3⟩,hs.gone,hs.inj,hs.born,hs.glob.grew gr⟩,gr⟩
theorem jfE:zS θ YL.run:=by
 intro f args st ι w vs hs hv;simp only[show YL.run=YK from rfl];rcases Wj f args st with h|⟨rfl,rfl⟩|⟨rfl,s,rfl,hd,hl⟩
 ·rw[h];trivial
 ·rw[jhR];have hvs:vs = #[]:=by
   have:vs.toList=[]:=by simpa[VRs] using hv
   simpa using this
  subst hvs;have hb:Tryz.f8.body.isSome=true:=by kernel_rfl
  obtain⟨c,hc⟩:=Option.isSome_iff_exists.1 hb;refine⟨(Zb wE Tryz.func8 hc).2,Calls.mono (jeS wE (jak WX) jkA w ⟨⟨hs.glob.1.1,λb S e=>by cases e⟩,λB vs e=>by cases e⟩) λe w' ⟨he,hos,ht,ho,hsz,hk⟩=>⟨_,he,ι,Le.refl ι,?_,?_,?_,Cleanly.refl ι st⟩⟩
  ·simp only[VR]
  ·exact(QV hs ⟨hos,ht,ho,hsz,hk⟩).1
  ·exact(QV hs ⟨hos,ht,ho,hsz,hk⟩).2
 ·simp only[VRs,VR] at hv;obtain⟨v1,l1,e1,⟨bs,rfl,hbs⟩,v2,l2,rfl,rfl,v3,l3,rfl,rfl,rfl⟩:=hv;have hvs:vs = #[.string bs,.int .i64 10,.int .i64 64]:=by
   cases vs;simpa using e1
  subst hvs;have hlen:bs.data.toList.length=s.length:=by rw[<-hbs,QaN]
  have hsz:bs.size=s.length:=by rw[<-hlen,Qai];rfl
  have hne:bs.data.toList≠[]:=λh=>hd.1 (by rw[<-hbs,h];rfl);have hd8:UO bs.data.toList:=λc hc=>by
   have:=hd.2 c.toNat (by rw[<-hbs];exact List.mem_map.2 ⟨c,hc,rfl⟩);unfold jy at this;simp at this;omega
  have hent:Ev.Enters θ 123:=by
   have hb:Tryz.f123.body.isSome=true:=by kernel_rfl
   obtain⟨c,hc⟩:=Option.isSome_iff_exists.1 hb;exact(Zb wE Tryz.func123 hc).2
  have okc:∀ v,Lib.parseIntB 64 bs.data.toList=.ok v->Calls θ 123 #[.string bs,.int .i64 10,.int .i64 64] w λe w'=>e=.returned (.tuple #[.int .i64 v,.nilIface])/\Below w.heap.size w w':=λv h=>
   (Tryz.strconv_ParseInt_10_at64_ok bs om v h w).mono λe w' ⟨he,hw⟩=>⟨he,by
    rcases hw with rfl|⟨t,rfl⟩
    ·exact⟨rfl,rfl,rfl,φ _,λ_ _=>rfl⟩
    ·exact Lib.bytesWorld_below w 5 t⟩
  have hP:=G2 s st hd hl;simp only[show YL.run=YK from rfl] at hP;by_cases h7:s.length<=7
  ·rw[hP.1 h7];refine⟨hent,(okc _ (jcW hne hd8 om)).mono λe w' ⟨he,hb⟩=>⟨_,he,ι,Le.refl ι,?_,(QV hs hb).1,(QV hs hb).2,Cleanly.refl ι st⟩⟩;rw[hbs];simp only[VR,VRs];exact⟨_,rfl,_,_,rfl,rfl,_,_,rfl,rfl,rfl⟩
  ·rw[hP.2 om];refine⟨hent,?_⟩;have fin:∀ (x y:Value) (w':World),Below w.heap.size w w'->zH ι w st st (.tup [.bad,.bad]) (.tuple #[x,y]) w':=λx y w' hb=>by
    refine⟨ι,Le.refl ι,?_,(QV hs hb).1,(QV hs hb).2,Cleanly.refl ι st⟩;simp only[VR,VRs];exact⟨_,rfl,_,_,rfl,trivial,_,_,rfl,trivial,rfl⟩
   rcases ja7 hne hd8 with ⟨v,h⟩|h
   ·exact(okc v h).mono λe w' ⟨he,hb⟩=>⟨_,he,fin _ _ w' hb⟩
   ·obtain⟨te,pe,hg⟩:=hs.glob.1.1;exact(Tryz.strconv_ParseInt_10_at64_range bs om h _ w hg (.inr ⟨te,pe,rfl⟩)).mono λe w' ⟨N,he,_,_,hb⟩=>⟨_,he,fin _ _ w' hb⟩
end Go.Sy
end
noncomputable section
set_option maxRecDepth 100000
namespace Go.Sy
open Go.Ev Go.Proofs
theorem jhS (st:St):YL.run 8 [] st=.ok (.bool true) st:=rfl
theorem jfF:PI YL:=G2
theorem jfG:NB YL:=⟨λf h args st=>jfD f args st (by rintro rfl;simp[Wz] at h) (by rintro rfl;simp[Wz] at h),rfl⟩
theorem jde {f:FuncId}{xs:List AV}{vs:Array Value}{w:World}(h:XB θ YL f xs st0 (λv _=>v=.bool true) λ_ _=>False)(hg:∃ te pe,w.cell? ⟨2,0,none⟩=some (.iface te pe))(hv:VRs (frW w) xs vs.toList) :
  Calls θ f vs w λe w'=>e=.returned (.bool true)/\w'.os=w.os/\w'.tape=w.tape/\w'.output=w.output/\w.heap.size<=w'.heap.size/\∀ k,k<w.heap.size->w'.heap[k]? = w.heap[k]?:=by
 have h2:=CW.calls wE (jak WX) jfE (K:=λv _=>v=.bool true) h.cb (jhf hg) hv;refine Calls.mono h2 λe w' ⟨v,x,st',he,hK,ι',_,hv,_,hg,_⟩=>?_;rw[hK] at hv;simp only[VR] at hv;rw[hv] at he;exact⟨he,hg.os,hg.tape,hg.output,hg.size,λk hk=>hg.keep k hk (λb S e=>by cases e)⟩
theorem sources_calls (s:ByteArray)(hs:s.size<=9223372036854775807)(w:World)(hg:∃ te pe,w.cell? ⟨2,0,none⟩=some (.iface te pe)) :
  Calls θ 3 #[.string s] w λe w'=>e=.returned (.bool true)/\w'.os=w.os/\w'.tape=w.tape/\w'.output=w.output/\w.heap.size<=w'.heap.size/\∀ k,k<w.heap.size->w'.heap[k]? = w.heap[k]?:=
 jde (jhE jfG jhS jfF (s.data.toList.map UInt8.toNat) (by rw[QaN,Qai];exact hs)) hg ⟨.string s,[],rfl,⟨s,rfl,rfl⟩,rfl⟩
end Go.Sy
end
