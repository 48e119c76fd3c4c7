/-
  Contracts: the code lowered, what it does told by rules, and the contracts of the functions that the law reaches.
-/
import Derived.Test.YtndomfbgcaiijaaGreatDoorBrSyB
import Derived.Test.YtndomfbgcaiijaaGreatDoorProg
import Derived.KernelRfl
set_option linter.unusedVariables false
set_option linter.unusedSimpArgs false
open Go.Proofs.Tryz renaming prog → γ
open Nat renaming reduceAdd → δ, reduceSub → ε, le_refl → μ, le_trans → ψ, zero_le → Qaa, zero_add → Qag, le_max_left → Qao, le_max_right → Qap, lt_or_ge → Qar, lt_of_lt_of_le → Qat, mul_le_mul_right → Qax, mul_one → QaB, add_mul → QaD, sub_zero → QaG, not_lt_zero → QaJ, succ_pos → QaN, zero_mul → QaP, succ_mul → QaR, le_of_eq → QaS, lt_succ_self → Qbb, ne_of_lt → Qbe, add_zero → Qbf, le_succ → Qbg, add_assoc → Qbi, lt_irrefl → Qbk, mod_eq_of_lt → Qbm, add_comm → Qbo, pow_le_pow_right → Qbq, succ_lt_succ → Qbv, min_eq_left → Qby, le_of_lt → QbE, add_sub_cancel → QbY, lt_trichotomy → Qca, le_succ_of_le → Qcf, beq → Qci, succ → Qcj, ble → Qck, add → Qcl, mul → Qcm, sub → Qcn
open List renaming map_cons → ζ, map_nil → η, getD_cons_zero → θ, getD_cons_succ → κ, length_cons → ν, length_append → υ, length_nil → φ, getD → ω, range → Qab, range' → Qac, cons_append → Qad, all_eq_true → Qae, getElem_mem → Qaf, take_length → Qah, getElem?_eq_getElem → Qai, nil_append → Qaj, cons → Qal, length_take → Qam, getD_eq_getElem?_getD → Qan, length_map → Qaq, length_drop → Qau, all_cons → Qaz, take_zero → QaC, append_assoc → QaE, mem_map → QaL, all_append → QaM, append_nil → QaO, mem_append → QaQ, mem_cons → QaU, take_of_length_le → QaV, map_map → QaW, map_congr_left → QaX, eq_nil_of_length_eq_zero → QaY, drop_zero → Qba, range'_succ → Qbc, map_append → Qbd, ext_getElem → Qbh, getElem?_map → Qbj, drop_drop → Qbl, mem_range → Qbp, getElem_cons_zero → Qbs, take_append_drop → Qbt, take_succ_eq_append_getElem → Qbw, getElem?_take → Qbx, mem_iff_getElem → Qbz, getElem?_append_left → QbB, map_toArray → QbC, mem_singleton → QbF, getElem_cons_succ → QbG, getElem_cons_drop → QbH, getElem?_drop → QbI, mem_of_mem_take → QbJ, take_take → QbK, foldr_cons → QbM, take_add_one → QbO, getElem?_append_right → QbP, foldl_append → QbR, getElem?_range → QbS, mem_cons_of_mem → QbT, length_pos_iff → QbU, drop_length → QbV, flatMap_cons → QbX, countP_singleton → Qcc, take_succ_cons → Qcd
open Int renaming zero_add → ξ, natCast_zero → τ, ofNat → Qas, eq_ofNat_of_zero_le → Qbr, natCast_nonneg → QbL
open Bool renaming and_eq_true → χ, eq_iff_iff → Qay, or_eq_true → QaA, not_eq_true' → QaI, false_eq_true → QaK, true_eq_false → Qbu, or_eq_false_iff → QbN, eq_false_iff → Qce
open Array renaming length_toList → Qak, getElem?_eq_some_iff → Qav, replicate → QaF, toList_map → Qbn, getElem?_toList → QbD, getD_eq_getD_getElem? → QbQ, toList_append → QbZ, mem_toList_iff → Qcb, getElem?_eq_getElem → Qcg, getElem?_setIfInBounds_ne → Qch
open Option renaming map_some → Qaw, getD_some → QaH, bind_some → QaT, map_none → QaZ, map_eq_some_iff → QbA
open Function renaming comp_def → QbW
noncomputable section
namespace Go.Sy
open Go.Ev Go.RowKit
section
variable {P:Program} {base:Bs} {st:St} {K:AV->St->Prop} {e:En}
theorem joL {b o k:Nat}(hpos:0<k)(h:o+k<=qh st.h b):ji (Qz k (.ptr b o) st) K=K (.agg ((Qab k).map λi=>rat st.h b (o+i))) st:=by
 obtain⟨n,zl,z,cs,hg⟩:=Ya (h:=st.h) (b:=b) om;rw[zX hg] at h;have e1:Qck (Qcl o k) n=true:=qD h;simp only[Qz,q7,hg,yh,e1,cond_true,ji,X8 hg,qy]
theorem jrm {l:List Nat}{n:Nat}(h:n<=l.length)(k:IntKind):ji (Jk (.str l) (some (.int k (n:Int))) none st) K=K (.str (l.drop n)) st:=by
 have e:qp (.int k (n:Int))=λF=>F n:=by funext F;show(force n F)=F n;rw[jE]
 have e1:Qck n l.length=true:=qD h;have e2:Qck l.length l.length=true:=qD (μ _);simp only[Jk,zM,optA,e,jO,jE,e1,e2,cond_true,ji,qW,yR];rw[show Qcn l.length n=(l.drop n).length by rw[Qau];rfl,Qah]
theorem jrl {l:List Nat}{n:Nat}(h:n<=l.length)(k:IntKind):ji (Jk (.str l) none (some (.int k (n:Int))) st) K=K (.str (l.take n)) st:=by
 have e:qp (.int k (n:Int))=λF=>F n:=by funext F;show(force n F)=F n;rw[jE]
 have e1:Qck n l.length=true:=qD h;have e2:Qck 0 n=true:=qD (Qaa _);simp only[Jk,zM,optA,e,jO,jE,e1,e2,cond_true,ji,qW,yR];rfl
theorem jrk {l:List Nat}{a n:Nat}(h:a<=n)(h2:n<=l.length)(k k':IntKind):ji (Jk (.str l) (some (.int k (a:Int))) (some (.int k' (n:Int))) st) K=K (.str ((l.drop a).take (n - a))) st:=by
 have e:∀ (k:IntKind) (n:Nat),qp (.int k (n:Int))=λF=>F n:=λk n=>by funext F;show(force n F)=F n;rw[jE]
 have e1:Qck n l.length=true:=qD h2;have e2:Qck a n=true:=qD h;simp only[Jk,zM,optA,e,jO,jE,e1,e2,cond_true,ji,qW,yR];rfl
end
def nw (s:St)(cs:List AV):St:=⟨s.nx+1,(j1 (jK s.nx)).run (.row cs.length cs.length cs .e) s.h,s.dirty,s.fr⟩
def jeA (x:Option AO)(o:Nat)(vs:List AV):AO:=match x with|some (.row n zl z cs)=>.row n zl z (qj vs cs o)|_=>.row 0 1 [] (qj vs .e o)
def wr (s:St)(b o:Nat)(vs:List AV):St:=⟨s.nx,(j1 (jK b)).run (jeA (jx s.h b) o vs) s.h,min s.dirty b,s.fr⟩
def apO (x:Option AO)(vs:List AV):AO:=match x with|some (.row n zl z cs)=>.row (n+vs.length) zl z (qj vs cs n)|_=>.row vs.length 1 [] (qj vs .e 0)
def ap (s:St)(b:Nat)(vs:List AV):St:=⟨s.nx+1,(j1 (jK s.nx)).run (apO (jx s.h b) vs) ((j1 (jK b)).run .dead s.h),min s.dirty b,s.fr⟩
theorem je (s:St)(cs:List AV):(nw s cs).nx=s.nx+1:=nr rfl
theorem jg (s:St)(b o:Nat)(vs:List AV):(wr s b o vs).nx=s.nx:=nr rfl
theorem jj (s:St):s.bare.nx=s.nx:=nr rfl
theorem uK (s:St):s.bare.h=s.h:=nr rfl
theorem Zo (s:St)(cs:List AV):(nw s cs).fr=s.fr:=nr rfl
theorem KI (s:St)(b o:Nat)(vs:List AV):(wr s b o vs).fr=s.fr:=nr rfl
theorem jdn (s:St):s.bare.fr=[]:=nr rfl
theorem yn {s:St}{cs:List AV}{b:Nat}(h:b≠s.nx):jx (nw s cs).h b=jx s.h b:=by unfold nw;rw[jX,if_neg h]
theorem zI {s:St}{b o:Nat}{vs:List AV}{c:Nat}(h:c≠b):jx (wr s b o vs).h c=jx s.h c:=by unfold wr;rw[jX,if_neg h]
theorem gT {s:St}{b:Nat}{vs:List AV}{c:Nat}(h:c≠s.nx)(h2:c≠b):jx (ap s b vs).h c=jx s.h c:=by unfold ap;rw[jX,if_neg h,jX,if_neg h2]
theorem jg5 (s:St)(cs:List AV):qh (nw s cs).h s.nx=cs.length:=by unfold nw;rw[jaR,if_pos rfl]
theorem Xa {s:St}{cs:List AV}{b:Nat}(h:b≠s.nx):qh (nw s cs).h b=qh s.h b:=yC (yn h)
theorem jfB {s:St}{cs:List AV}{i:Nat}(h:i<cs.length):rat (nw s cs).h s.nx i=cs.getD i .bad:=by unfold nw;rw[jcY,if_pos rfl,yL,Xe,Qbm h];rfl
theorem vw {s:St}{cs:List AV}{b i:Nat}(h:b≠s.nx):rat (nw s cs).h b i=rat s.h b i:=yp (yn h) i
theorem wH {s:St}{cs:List AV}{b:Nat}(h:b=s.nx):qh (nw s cs).h b=cs.length:=by rw[h,jg5]
theorem K8 {s:St}{cs:List AV}{b i:Nat}(h:b=s.nx)(hi:i<cs.length):rat (nw s cs).h b i=cs.getD i .bad:=by rw[h,jfB hi]
theorem QT (s:St)(b o:Nat)(vs:List AV)(c:Nat):qh (wr s b o vs).h c=qh s.h c:=by
 by_cases h:c=b
 ·subst h;unfold wr jeA qh;rw[jX,if_pos rfl];cases jx s.h c with
  |none=>rfl
  |some x=>cases x<;>rfl
 ·exact yC (zI h)
theorem VE (s:St)(b o:Nat)(vs:List AV)(i:Nat):rat (wr s b o vs).h b i=if o<=i/\i<o+vs.length then vs.getD (i - o) .bad else rat s.h b i:=by
 unfold wr rat;rw[jX,if_pos rfl];unfold jeA;cases jx s.h b with
 |none=>simp only[yQ];congr 1;rw[yL,Xe];rfl
 |some x=>cases x<;>simp only[yQ]<;>(congr 1;rw[yL,Xe];rfl)
theorem Uv {s:St}{b o:Nat}{vs:List AV}{i:Nat}(h1:o<=i)(h2:i<o+vs.length):rat (wr s b o vs).h b i=vs.getD (i - o) .bad:=by rw[VE,if_pos ⟨h1,h2⟩]
theorem K6 {s:St}{b o:Nat}{vs:List AV}{i:Nat}(h:i<o):rat (wr s b o vs).h b i=rat s.h b i:=by rw[VE,if_neg om]
theorem K7 {s:St}{b o:Nat}{vs:List AV}{i:Nat}(h:o+vs.length<=i):rat (wr s b o vs).h b i=rat s.h b i:=by rw[VE,if_neg om]
theorem ZF {s:St}{b o c:Nat}{vs:List AV}{i:Nat}(h:c≠b):rat (wr s b o vs).h c i=rat s.h c i:=yp (zI h) i
theorem jkd {s:St}{b o:Nat}{vs:List AV}{c:Nat}(h:wx s.h c):wx (wr s b o vs).h c:=by
 by_cases hc:c=b
 ·subst hc;unfold wx wr;rw[jX,if_pos rfl];obtain⟨n,zl,z,cs,e⟩:=h;rw[e];exact⟨_,_,_,_,rfl⟩
 ·exact Jc (zI hc) h
structure Cl (s:St)(b:Nat)(cs:List AV):Prop where
 lt:b<s.nx
 row:wx s.h b
 len:qh s.h b=cs.length
 cell:∀ i,i<cs.length->rat s.h b i=cs.getD i .bad
theorem Cl.keep {s s':St}{b:Nat}{cs:List AV}(h:Cl s b cs)(hn:s.nx<=s'.nx)(k:jx s'.h b=jx s.h b):Cl s' b cs:=
 ⟨Qat h.lt hn,Jc k h.row,(yC k).trans h.len,λi hi=>(yp k i).trans (h.cell i hi)⟩
theorem Cl.new (s:St)(cs:List AV):Cl (nw s cs) s.nx cs:=
 ⟨Qbb _,⟨_,_,_,_,by unfold nw;rw[jX,if_pos rfl]⟩,jg5 s cs,λi hi=>jfB hi⟩
theorem Cl.nw {s:St}{b:Nat}{cs:List AV}(h:Cl s b cs)(ds:List AV):Cl (nw s ds) b cs:=h.keep (Qbg _) (yn (Qbe h.lt))
theorem Cl.wrO {s:St}{b:Nat}{cs:List AV}(h:Cl s b cs){c:Nat}(hc:b≠c)(o:Nat)(vs:List AV):Cl (wr s c o vs) b cs:=h.keep (μ _) (zI hc)
def upd:List AV->Nat->List AV->List AV
 |[],_,_=>[]
 |c :: cs,0,[]=>c :: cs
 |c :: cs,0,v :: vs=>v :: upd cs 0 vs
 |c :: cs,o+1,vs=>c :: upd cs o vs
theorem wz:∀ (cs:List AV) (o:Nat) (vs:List AV),(upd cs o vs).length=cs.length
 |[],_,_=>rfl
 |c :: cs,0,[]=>rfl
 |c :: cs,0,v :: vs=>by show(upd cs 0 vs).length+1=_;rw[wz cs 0 vs];rfl
 |c :: cs,o+1,vs=>by show(upd cs o vs).length+1=_;rw[wz cs o vs];rfl
theorem VN:∀ (cs:List AV) (o:Nat) (vs:List AV) (i:Nat),i<cs.length->(upd cs o vs).getD i .bad=if o<=i/\i<o+vs.length then vs.getD (i - o) .bad else cs.getD i .bad
 |[],_,_,_,h=>by simp at h
 |c :: cs,0,[],i,h=>by rw[if_neg (by simp)];rfl
 |c :: cs,0,v :: vs,0,h=>by rw[if_pos (by simp)];rfl
 |c :: cs,0,v :: vs,i+1,h=>by
  show(upd cs 0 vs).getD i .bad=_;rw[VN cs 0 vs i (by simpa using h)];by_cases hi:i<vs.length
  ·rw[if_pos om,if_pos (by simp;omega)];rfl
  ·rw[if_neg om,if_neg (by simp;omega)];rfl
 |c :: cs,o+1,vs,0,h=>by rw[if_neg om];rfl
 |c :: cs,o+1,vs,i+1,h=>by
  show(upd cs o vs).getD i .bad=_;rw[VN cs o vs i (by simpa using h)];by_cases hi:o<=i/\i<o+vs.length
  ·rw[if_pos hi,if_pos om,Nat.add_sub_add_right]
  ·rw[if_neg hi,if_neg om];rfl
theorem Cl.wr {s:St}{b:Nat}{cs:List AV}(h:Cl s b cs)(o:Nat)(vs:List AV):Cl (wr s b o vs) b (upd cs o vs):=
 ⟨h.lt,jkd h.row,by rw[QT,h.len,wz],λi hi=>by
  rw[wz] at hi;rw[VE,VN _ _ _ _ hi,h.cell i hi]⟩
theorem Cl.ap {s:St}{b:Nat}{cs:List AV}(h:Cl s b cs)(vs:List AV):Cl (ap s b vs) s.nx (cs ++ vs):=by
 obtain⟨n,zl,z,ks,e⟩:=h.row;have hl:=h.len;rw[zX e] at hl;have eo:jx (Go.Sy.ap s b vs).h s.nx=some (.row (n+vs.length) zl z (qj vs ks n)):=by unfold Go.Sy.ap;rw[jX,if_pos rfl,e];rfl
 refine⟨Qbb _,⟨_,_,_,_,eo⟩,by rw[zX eo,υ,hl],λi hi=>?_⟩;rw[X8 eo,yQ];rw[υ] at hi;by_cases hc:n<=i/\i<n+vs.length
 ·rw[if_pos hc,Qan,Qan,QbP om,hl]
 ·have hi':i<cs.length:=om
  rw[if_neg hc,<-X8 e,h.cell i hi',Qan,Qan,QbB hi']
theorem Ye (cs:List AV):(AV.agg cs).cells=cs:=nr rfl
theorem vZ (k:IntKind)(n:Int):(AV.int k n).cells=[.int k n]:=nr rfl
theorem vV (l:List Nat):(AV.str l).cells=[.str l]:=nr rfl
theorem wo (b:Bool):(AV.bool b).cells=[.bool b]:=nr rfl
theorem Zr (b o n c z:Nat)(x:Bool):(AV.slice b o n c z x).cells=[.slice b o n c z x]:=nr rfl
theorem wn:AV.nils.cells=[.nils]:=nr rfl
theorem vX (b o:Nat):(AV.ptr b o).cells=[.ptr b o]:=nr rfl
theorem jbr:lall AV.cell []=true:=nr rfl
theorem jbt (k:IntKind)(n:Int)(l:List AV):lall AV.cell (.int k n :: l)=lall AV.cell l:=nr rfl
theorem jbp (x:List Nat)(l:List AV):lall AV.cell (.str x :: l)=lall AV.cell l:=nr rfl
theorem GU (x:Bool)(l:List AV):lall AV.cell (.bool x :: l)=lall AV.cell l:=nr rfl
theorem Ks (b o n c z:Nat)(x:Bool)(l:List AV):lall AV.cell (.slice b o n c z x :: l)=lall AV.cell l:=nr rfl
theorem GT (l:List AV):lall AV.cell (.nils :: l)=lall AV.cell l:=nr rfl
theorem jbq (b o:Nat)(l:List AV):lall AV.cell (.ptr b o :: l)=lall AV.cell l:=nr rfl
theorem jj7 (a b:List AV)(h:lall AV.cell a=true):lall AV.cell (a ++ b)=lall AV.cell b:=by
 induction a with
 |nil=>rfl
 |cons c a ih=>
  have h':cond c.cell (lall AV.cell a) false=true:=h;cases hc:c.cell with
  |false=>rw[hc] at h';cases h'
  |true=>
   rw[hc] at h';show cond c.cell (lall AV.cell (a ++ b)) false=_;rw[hc];exact ih h'
section
variable {P:Program} {base:Bs} {st:St} {K:AV->St->Prop} {e:En}
theorem jfF (cs:List AV):ji (Ev.newRow st cs) K=K (.ptr st.nx 0) (nw st cs):=by
 simp only[Ev.newRow,jE,jO,St.alloc_eq,ji];rfl
theorem jl2 {v:AV}(h:lall AV.cell v.cells=true):ji (jkv v st) K=K (.ptr st.nx 0) (nw st v.cells):=by
 simp only[jkv,h,cond_true];exact jfF _
theorem jqF {k b o:Nat}{v:AV}(hk:0<k)(hc:v.cells.length=k)(hl:lall AV.cell v.cells=true)(ho:o+k<=qh st.h b):ji (stV k (.ptr b o) v st) K=K qd (wr st b o v.cells):=by
 obtain⟨n,zl,z,cs,hg⟩:=Ya (h:=st.h) (b:=b) om;rw[zX hg] at ho;have e1:Qci (jP v.cells) k=true:=YJ (by rw[jO];exact hc);have e2:Qck (Qcl o k) n=true:=qD ho;simp only[stV,q7,hg,yh,e1,e2,hl,cond_true,St.put_eq,ji];unfold wr jeA;rw[hg]
def rats (h:T AO)(b o:Nat):Nat->List AV
 |0=>[]
 |k+1=>rat h b o :: rats h b (o+1) k
theorem Y1 (h:T AO)(b:Nat):∀ (k o:Nat),rats h b o k=(Qab k).map λi=>rat h b (o+i)
 |0,o=>rfl
 |k+1,o=>by
  rw[List.range_succ_eq_map,ζ,QaW];show rat h b o :: rats h b (o+1) k=_;rw[Y1 h b k (o+1)]
  congr 1
  refine QaX λi _=>?_;show rat h b (o+1+i)=rat h b (o+(i+1));rw[Qbi,Qbo 1 i]
theorem jfG {k b o:Nat}(hk:0<k)(h:o+k<=qh st.h b):ji (Qz k (.ptr b o) st) K=K (.agg (rats st.h b o k)) st:=by rw[Y1];exact joL hk h
theorem rats0 (h:T AO)(b o:Nat):rats h b o 0=[]:=nr rfl
theorem HM (h:T AO)(b o k:Nat):rats h b o (k+1)=rat h b o :: rats h b (o+1) k:=nr rfl
theorem Cl.ratsP {s:St}{b:Nat}{cs:List AV}(h:Cl s b cs):∀ k o,o+k<=cs.length->rats s.h b o k=(cs.drop o).take k
 |0,o,_=>rfl
 |k+1,o,hk=>by
  show rat s.h b o :: Go.Sy.rats s.h b (o+1) k=_;rw[h.ratsP k (o+1) om,h.cell o om,List.drop_eq_getElem_cons (show o<cs.length by omega),Qcd,Qan,Qai om];rfl
theorem Zy {h h':T AO}{b:Nat}(e:jx h' b=jx h b):∀ k o,rats h' b o k=rats h b o k
 |0,_=>rfl
 |k+1,o=>by rw[HM,HM,yp e,Zy e k]
theorem QO (h:T AO)(b:Nat):∀ k o,(rats h b o k).length=k
 |0,_=>rfl
 |k+1,o=>by rw[HM,ν,QO h b k]
theorem Y0 {h:T AO}{b:Nat}:∀ {k o:Nat} {cs:List AV},cs.length=k->(∀ i,i<k->rat h b (o+i)=cs.getD i .bad)->rats h b o k=cs
 |0,o,[],_,_=>rfl
 |k+1,o,c :: cs,hl,h=>by
  rw[HM,Y0 (cs:=cs) (by simpa using hl) (λi hi=>by
   have:=h (i+1) om;rw[show o+1+i=o+(i+1) by omega,this];rfl)]
  have:=h 0 om;rw[Qbf] at this;rw[this];rfl
theorem jmu {s:St}{cs:List AV}{k:Nat}(h:cs.length=k):rats (nw s cs).h s.nx 0 k=cs:=Y0 h λi hi=>by rw[Qag];exact jfB om
theorem YZ {s:St}{cs:List AV}{b k:Nat}(hb:b=s.nx)(h:cs.length=k):rats (nw s cs).h b 0 k=cs:=by rw[hb,jmu h]
theorem YY {s:St}{cs:List AV}{b o k:Nat}(h:b≠s.nx):rats (nw s cs).h b o k=rats s.h b o k:=Zy (yn h) _ _
theorem wE {s:St}{b o k:Nat}{vs:List AV}(h:vs.length=k):rats (wr s b o vs).h b o k=vs:=Y0 h λi hi=>by
 rw[Uv om om,Nat.add_sub_cancel_left]
theorem YW {s:St}{b c o o' k:Nat}{vs:List AV}(h:b≠c):rats (wr s c o' vs).h b o k=rats s.h b o k:=Zy (zI h) _ _
theorem YX {s:St}{b o k:Nat}{vs:List AV}:rats (wr s b o vs).h b 0 k=upd (rats s.h b 0 k) o vs:=by
 refine Y0 (by rw[wz,QO]) λi hi=>?_;rw[Qag,VE,VN _ _ _ _ (by rw[QO];exact hi),Y1]
 congr 1
 simp[Qan,Qbj,hi]
theorem YQ (o:Nat)(vs:List AV):upd [] o vs=[]:=nr (by cases o<;>rfl)
theorem Ym (c:AV)(cs:List AV):upd (c :: cs) 0 []=c :: cs:=nr rfl
theorem Y8 (c:AV)(cs:List AV)(v:AV)(vs:List AV):upd (c :: cs) 0 (v :: vs)=v :: upd cs 0 vs:=nr rfl
theorem ZV (c:AV)(cs:List AV)(o:Nat)(vs:List AV):upd (c :: cs) (o+1) vs=c :: upd cs o vs:=nr rfl
theorem ZU:∀ (cs:List AV) ,upd cs 0 []=cs
 |[]=>rfl
 |c :: cs=>rfl
theorem Cl.of_rats {s:St}{b k:Nat}{cs:List AV}(h1:b<s.nx)(h2:qh s.h b=k)(h3:cs.length=k)(h4:0<k)(h5:Go.Sy.rats s.h b 0 k=cs):Cl s b cs:=by
 refine⟨h1,Ya om,om,λi hi=>?_⟩;have:=congrArg (λl=>l.getD i .bad) h5;rw[Y1] at this;have hi':i<k:=om
 simpa[Qan,Qbj,hi'] using this
theorem Cl.rats0 {s:St}{b k:Nat}{cs:List AV}(h:Cl s b cs)(hk:cs.length=k):Go.Sy.rats s.h b 0 k=cs:=Y0 hk λi hi=>by rw[Qag];exact h.cell i om
theorem Cl.ldA {s:St}{b k o:Nat}{cs:List AV}(h:Cl s b cs)(hk:0<k)(ho:o+k<=cs.length)(K:AV->St->Prop):ji (Qz k (.ptr b o) s) K=K (.agg ((cs.drop o).take k)) s:=by
 rw[jfG hk (by rw[h.len];exact ho),h.ratsP k o ho]
end
section
variable {P:Program} {base:Bs} {st:St} {K:AV->St->Prop} {e:En}
theorem uv:∀ (z:List AV) (off:Nat) (vs:List AV),off+vs.length<=z.length->z.take off ++ (vs ++ z.drop (off+vs.length))=upd z off vs
 |[],off,vs,h=>by
  have hv:vs=[]:=QaY (by have h':off+vs.length<=0:=h;omega);subst hv;simp[upd]
 |c :: z,0,[],_=>rfl
 |c :: z,0,v :: vs,h=>by
  show v :: (vs ++ (c :: z).drop (0+(vs.length+1)))=v :: upd z 0 vs;rw[<-uv z 0 vs (by simp at h ⊢;omega)];simp
 |c :: z,off+1,vs,h=>by
  show c :: z.take off ++ (vs ++ (c :: z).drop (off+1+vs.length))=c :: upd z off vs;rw[<-uv z off vs (by simp at h;omega),show off+1+vs.length=(off+vs.length)+1 by omega];rfl
theorem G7 {z:List AV}{off size:Nat}{v:AV}{ps:List ((Nat×Nat)×AV)}(h1:v.plain=true)(h2:v.cells.length=size)(h3:off+size<=z.length):XN z (((off,size),v) :: ps)=XN (upd z off v.cells) ps:=by
 have e1:Qci (jP v.cells) size=true:=YJ (by rw[jO];exact h2);have e2:Qck (Qcl off size) (jP z)=true:=qD (by rw[jO];exact h3);have e3:yS (yi z off) (yS v.cells (zj z (Qcl off size)))=upd z off v.cells:=by
  rw[yv,yv,qW,yR,<-uv z off v.cells om,h2];rfl
 show cond v.plain (cond (Qci (jP v.cells) size) (cond (Qck (Qcl off size) (jP z)) (XN (yS (yi z off) (yS v.cells (zj z (Qcl off size)))) ps) none) none) none=_;rw[h1,e1,e2,e3];rfl
theorem jci (z:List AV):ji (uP z [] st) K=K (.agg z) st:=nr rfl
theorem jch {z:List AV}{off size:Nat}{v:AV}{ps:List ((Nat×Nat)×AV)}(h1:v.plain=true)(h2:v.cells.length=size)(h3:off+size<=z.length):ji (uP z (((off,size),v) :: ps) st) K=ji (uP (upd z off v.cells) ps st) K:=by
 unfold uP;rw[G7 h1 h2 h3]
def bSV (len s:Nat)(z:List AV)(ps:List ((Nat×Nat)×AV))(st:St):ER:=jR (XN z ps) λcells=>
 cond (lall AV.cell cells) (force (jP cells) λn=>st.alloc (.row n n cells .e) λb st=>.ok (.slice b 0 len len s true) st) .no
theorem jkC (len s:Nat)(z:List AV)(ps:List ((Nat×Nat)×AV)):ji (Ge len s z ps st) K=ji (bSV len s (qM z len) ps st) K:=nr rfl
theorem jfH {len s:Nat}{z:List AV}(h:lall AV.cell z=true):ji (bSV len s z [] st) K=K (.slice st.nx 0 len len s true) (nw st z):=by
 have e:XN z []=some z:=rfl;simp only[bSV,e,jR,h,cond_true,jE,jO,St.alloc_eq,ji];rfl
theorem jah {len s:Nat}{z:List AV}{off size:Nat}{v:AV}{ps:List ((Nat×Nat)×AV)}(h1:v.plain=true)(h2:v.cells.length=size)(h3:off+size<=z.length):ji (bSV len s z (((off,size),v) :: ps) st) K=ji (bSV len s (upd z off v.cells) ps st) K:=by
 unfold bSV;rw[G7 h1 h2 h3]
theorem kX (z:List AV):qM z 0=[]:=nr rfl
theorem VW (z:List AV)(n:Nat):qM z (n+1)=z ++ qM z n:=nr (by first|rfl|(unfold qM;simp[yv]))
def Wk (e:En):List ((Nat×Nat)×A)->(F:List ((Nat×Nat)×AV)->Prop)->Res F
 |[],F=>F []
 |(p,a) :: l,F=>on1 e a λv=>Wk e l λvs=>F ((p,v) :: vs)
theorem gK (e:En):∀ (l:List ((Nat×Nat)×A)) (F:List ((Nat×Nat)×AV)->Prop),Wk e l F=((l.map (·.2)).all (okA e)=true/\F (l.map λp=>(p.1,vl e p.2)))
 |[],F=>by simp[Wk]
 |(p,a) :: l,F=>by simp[Wk,gK e l,on1,and_assoc]
theorem jbA (z:List AV)(ps:List ((Nat×Nat)×A)):wK P base (.i (.build z ps)) e st K=Wk e ps λvs=>ji (uP z vs st) K:=by
 rw[gK];rfl
theorem GY (len s:Nat)(z:List AV)(ps:List ((Nat×Nat)×A)):wK P base (.i (.buildS len s z ps)) e st K=Wk e ps λvs=>ji (Ge len s z vs st) K:=by
 rw[gK];rfl
theorem jlL (f:FuncId)(l:List A):wK P base (.i (.fn f l)) e st K=wZ e l λvs=>K (.fn f vs) st:=by
 rw[uF];rfl
theorem jlr (F:List ((Nat×Nat)×AV)->Prop):Wk e [] F=F []:=nr rfl
theorem jlq (p:Nat×Nat)(a:A)(l:List ((Nat×Nat)×A))(F:List ((Nat×Nat)×AV)->Prop):Wk e ((p,a) :: l) F=on1 e a λv=>Wk e l λvs=>F ((p,v) :: vs):=nr rfl
theorem GA (k:IntKind)(n:Int):(AV.int k n).plain=true:=nr rfl
theorem Gx (l:List Nat):(AV.str l).plain=true:=nr rfl
theorem k8 (b:Bool):(AV.bool b).plain=true:=nr rfl
theorem UD (b o n c z:Nat)(x:Bool):(AV.slice b o n c z x).plain=true:=nr rfl
theorem k7:AV.nils.plain=true:=nr rfl
theorem Gy (b o:Nat):(AV.ptr b o).plain=true:=nr rfl
theorem GB (cs:List AV):(AV.agg cs).plain=true:=nr rfl
theorem jcJ (t:TypeId)(x:A):wK P base (.i (.iface t x)) e st K=on1 e x λv=>K (.iface t v) st:=k_1 (V:=λv st=>.ok (.iface t v) st) rfl (λ_=>rfl) K
end
def eqs:AV->Bool
 |.bool _=>true | .int _ _=>true | .str _=>true | .ptr _ _=>true | .nilp=>true | .slice _ _ _ _ _ _=>true | .nils=>true | .map _=>true | .nilm=>true | .nilf=>true | .nilif=>true | .lst _ _=>true | .xlst _ _=>true | .lptr _ _=>true
 |_=>false
theorem jkn (a:Int):eqI a a=true:=by cases a<;>simp[eqI]
theorem Jp (a:Nat):Qci a a=true:=by rw[qH]
theorem Vp (l:List AV):ui l l=true:=by unfold ui;exact @decide_eq_true _ (_) rfl
theorem Vr {v:AV}(h:eqs v=true):Y5 v v=true:=by
 cases v<;>first|(cases h;done)|rfl|skip
 case bool b=>cases b<;>rfl
 case int k n=>show cond (eqK k k) (eqI n n) false=true;rw[Qk,jkn];rfl
 case str s=>show Y9 s s=true;rw[JH];simp
 case ptr b o=>show cond (Qci b b) (Qci o o) false=true;rw[Jp,Jp];rfl
 case slice b o n c z ex=>
  show cond (Qci b b) (cond (Qci o o) (cond (Qci n n) (cond (Qci c c) (cond (Qci z z) (cond ex ex (cond ex false true)) false) false) false) false) false=true;rw[Jp,Jp,Jp,Jp,Jp];cases ex<;>rfl
 case map r=>show Qci r r=true;exact Jp r
 case lst n cs=>show cond (Qci n n) (ui cs cs) false=true;rw[Jp,Vp];rfl
 case xlst n cs=>show cond (Qci n n) (ui cs cs) false=true;rw[Jp,Vp];rfl
 case lptr cs n=>show cond (Qci n n) (ui cs cs) false=true;rw[Jp,Vp];rfl
theorem Vq:∀ {l:List AV},l.all eqs=true->uN l l=true
 |[],_=>rfl
 |v :: l,h=>by
  simp only[Qaz,χ] at h;show cond (Y5 v v) (uN l l) false=true;rw[Vr h.1,Vq h.2];rfl
theorem jhH {v:AV}(h:eqs v=true):jff v v=true:=by
 cases v<;>first|(cases h;done)|exact Vr h
section
variable {P:Program}
theorem Qq {t:TypeId}{b o:Nat}{v:AV}{h:T AO}(h1:Go.Ev.isAgg P t=some false)(h2:Go.Ev.sizeOf P t=some 1)(ho:o<qh h b)(hv:rat h b o=v)(hc:eqs v=true):jY P t (.ptr b o) v h=true:=by
 obtain⟨n,zl,z,cs,hg⟩:=Ya (h:=h) (b:=b) om;rw[zX hg] at ho;rw[X8 hg] at hv;have e3:Qck (Qcj o) n=true:=qD ho;have e:(qQ P t).run (.ptr b o) h=some v:=by simp only[qQ,h1,h2,hg,e3,cond_true,hv]
 unfold jY;dsimp only;rw[e];exact jhH hc
theorem Yt {t:TypeId}{b o k:Nat}{cs:List AV}{h:T AO}(h1:Go.Ev.isAgg P t=some true)(h2:Go.Ev.sizeOf P t=some k)(hk:0<k)(ho:o+k<=qh h b)(hv:rats h b o k=cs)(hc:cs.all eqs=true):jY P t (.ptr b o) (.agg cs) h=true:=by
 obtain⟨n,zl,z,cs',hg⟩:=Ya (h:=h) (b:=b) om;rw[zX hg] at ho;have e3:Qck (Qcl o k) n=true:=qD ho;have e:(qQ P t).run (.ptr b o) h=some (.agg cs):=by
  simp only[qQ,h1,h2,hg,e3,cond_true];rw[<-hv,Y1,qy]
  congr 2
  refine QaX λi _=>?_;rw[X8 hg]
 unfold jY;dsimp only;rw[e];exact Vq hc
def XM (P:Program)(t u:TypeId)(x y:TE):Bool:=
 match x,y with
 |.rd a v,.wr pre post=>jY P t a v pre && jY P t a v post
 |.rd _ _,.rd _ _=>false
 |.wr pre post,.rd a v=>jY P u a v pre && jY P u a v post
 |.wr _ _,.wr _ _=>false
 |_,_=>true
theorem h_0 (t:TypeId)(x:TE)(tb:List TE):(held P t x tb []=true)=True:=by simp[held]
theorem h_1 (t:TypeId)(x:TE)(tb:List TE)(k:Nat)(u:TypeId)(l:List (Nat×TypeId)):(held P t x tb ((k,u) :: l)=true)=(XM P t u x (ym .none tb k)=true/\held P t x tb l=true):=by
 have e:held P t x tb ((k,u) :: l)=cond (XM P t u x (ym .none tb k)) (held P t x tb l) false:=by
  show cond _ _ false=cond _ _ false
  congr 1
  unfold XM;cases x<;>cases ym TE.none tb k<;>first|rfl|(simp only[Bool.cond_eq_ite];split<;>simp[*])
 rw[e];cases XM P t u x (ym .none tb k)<;>simp
theorem jpP (t u:TypeId)(a v:AV)(pre post:T AO):(XM P t u (.rd a v) (.wr pre post)=true)=(jY P t a v pre=true/\jY P t a v post=true):=by simp[XM]
theorem jpO (t u:TypeId)(a v:AV)(pre post:T AO):(XM P t u (.wr pre post) (.rd a v)=true)=(jY P u a v pre=true/\jY P u a v post=true):=by simp[XM]
theorem jpR (t u:TypeId)(y:TE):(XM P t u .none y=true)=True:=by simp[XM]
theorem jpQ (t u:TypeId)(x:TE):(XM P t u x .none=true)=True:=by cases x<;>simp[XM]
theorem jpB (d x:TE)(l:List TE):ym d (x :: l) 0=x:=nr rfl
theorem jpA (d x:TE)(l:List TE)(n:Nat):ym d (x :: l) (n+1)=ym d l n:=nr rfl
theorem joY (e:En)(v:AV)(st st':St):teW none e v st st'=.none:=nr rfl
theorem joX (e:En)(v:AV)(st st':St):teW (some none) e v st st'=.wr st.h st'.h:=nr rfl
theorem joW (a:A)(e:En)(v:AV)(st st':St):teW (some (some a)) e v st st'=.rd (vl e a) v:=nr rfl
theorem joH (e:En)(v:AV):vl e (.c v)=v:=nr rfl
theorem joF (x:Nat)(v:AV)(l g:Sl):vl ⟨(x,v) :: l,g⟩ (.t x)=v:=by simp[vl,En.look,yW,En.has,zH]
theorem jk2 {k x:Nat}(h:k≠x)(v:AV)(l g:Sl):vl ⟨(k,v) :: l,g⟩ (.t x)=vl ⟨l,g⟩ (.t x):=by simp[vl,En.look,yW,En.has,zH,h]
theorem joG (x:Nat)(v:AV)(g:Sl):vl ⟨[],(x,v) :: g⟩ (.t x)=v:=by simp[vl,En.look,yW,En.has,zH,has]
theorem jk3 {k x:Nat}(h:k≠x)(v:AV)(g:Sl):vl ⟨[],(k,v) :: g⟩ (.t x)=vl ⟨[],g⟩ (.t x):=by simp[vl,En.look,yW,En.has,zH,has,h]
theorem gn {L:Sl}{x:Nat}{v:AV}(h:Has L x v):vl ⟨[],L⟩ (.t x)=v:=by
 obtain⟨h1,h2⟩:=h;simp[vl,En.has,En.look,has,h2]
end
section
variable {P:Program} {base:Bs} {st:St} {K:AV->St->Prop} {e:En}
def YU (sz:Nat)(v:AV)(lo hi:Option AV)(st:St):ER:=match v with
 |.nils=>optA lo 0 λl=>optA hi 0 λh=>cond (Qci l 0) (cond (Qci h 0) (.ok .nils st) .no) .no
 |.slice b o len cap sz' ex=>optA lo 0 λl=>optA hi len λh=>
  cond (Qci sz' sz) (cond (Qck l h) (cond (Qck h cap) (force (Qcn h l) λk=>force (Qcl o (Qcm l sz)) λo=>force (Qcn cap l) λc=>.ok (.slice b o k c sz ex) st) .no) .no) .no
 |.lst n cs=>optA lo 0 λl=>optA hi n λh=>
  cond (Qck l h) (cond (Qck h n) (cond (Qck (Qcm h sz) (jP cs)) (.ok (.lst (Qcn h l) (yi (zj cs (Qcm l sz)) (Qcm (Qcn h l) sz))) st) .no) .no) .no
 |_=>.no
theorem jha (sz:Nat)(x lo:A):wK P base (.i (.slS sz x (some lo) none)) e st K=on1 e x λv=>on1 e lo λl=>ji (YU sz v (some l) none st) K:=k_2 (V:=λv l st=>YU sz v (some l) none st) rfl (λ_=>rfl) K
theorem jg9 (sz:Nat)(x hi:A):wK P base (.i (.slS sz x none (some hi))) e st K=on1 e x λv=>on1 e hi λh=>ji (YU sz v none (some h) st) K:=k_2 (V:=λv h st=>YU sz v none (some h) st) rfl (λ_=>rfl) K
theorem jg8 (sz:Nat)(x lo hi:A):wK P base (.i (.slS sz x (some lo) (some hi))) e st K=on1 e x λv=>on1 e lo λl=>on1 e hi λh=>ji (YU sz v (some l) (some h) st) K:=k_3 (V:=λv l h st=>YU sz v (some l) (some h) st) rfl (λ_=>rfl) K
end
def ifW (p:Prop)(a b:Prop):Res (a,b):=(p->a)/\(¬ p->b)
theorem jb {p a b:Prop}(h1:p->a)(h2:¬ p->b):ifW p a b:=⟨h1,h2⟩
theorem KA {p a b:Prop}(h:p):ifW p a b=a:=propext ⟨λk=>k.1 h,λk=>⟨λ_=>k,λn=>absurd h n⟩⟩
theorem KB {p a b:Prop}(h:¬ p):ifW p a b=b:=propext ⟨λk=>k.2 h,λk=>⟨λn=>absurd n h,λ_=>k⟩⟩
section
variable {P:Program} {base:Bs} {st:St} {K Kp:AV->St->Prop} {e:En}
theorem jdD (q:Bool)(a b:Prop):vU (.bool q) a b=ifW (q=true) a b:=by cases q<;>simp[vU,ifW]
theorem jqs (q:Bool)(a b:Prop):onG (.bool q) true a b=ifW (q=true) a b:=by cases q<;>simp[onG,ifW]
theorem jqt (q:Bool)(a b:Prop):onG (.bool q) false a b=ifW (q=true) b a:=by cases q<;>simp[onG,ifW]
theorem jhT (q:Bool)(a b:AV):ji (jeB (.bool q) a b st) K=ifW (q=true) (K a st) (K b st):=by cases q<;>simp[jeB,Zz,ji,ifW]
theorem jaE (a b:List Nat):ji (UP .neq (.str a) (.str b) st) K=K (.bool (decide (a≠b))) st:=by
 simp only[UP,vE,jR,ji,JH];by_cases h:a=b
 ·simp[h]
 ·simp[h]
theorem jaF {a b:List Nat}(h:a.length+b.length<=9223372036854775807):ji (UP .add (.str a) (.str b) st) K=K (.str (a ++ b)) st:=by
 have e1:Qck (Qcl (jP a) (jP b)) 9223372036854775807=true:=by rw[qg,jO,jO];exact h
 simp only[UP,vE,jR,ji,e1,cond_true,yv]
theorem vf {x:Int}(h1 : -9223372036854775808<=x)(h2:x<=9223372036854775807):qY .i64 x=x:=by
 rw[YO];exact IntWalk.i64_in x ⟨h1,om⟩
theorem jgi {a b:Int}(h1 : -9223372036854775808<=a+b)(h2:a+b<=9223372036854775807):ji (yJ .add (.int .i64 a) (.int .i64 b) st) K=K (.int .i64 (a+b)) st:=by
 have:(Q4 .add).run .i64 a b=some (.int .i64 (a+b)):=by show some (AV.int .i64 (qY .i64 (a+b)))=_;rw[vf h1 h2]
 simp only[yJ,Qk,cond_true,this,jR,ji]
theorem jfV {a b:Int}(h1 : -9223372036854775808<=a - b)(h2:a - b<=9223372036854775807):ji (yJ .sub (.int .i64 a) (.int .i64 b) st) K=K (.int .i64 (a - b)) st:=by
 have:(Q4 .sub).run .i64 a b=some (.int .i64 (a - b)):=by show some (AV.int .i64 (qY .i64 (a - b)))=_;rw[vf h1 h2]
 simp only[yJ,Qk,cond_true,this,jR,ji]
theorem jf4 {a b:Int}(h1 : -9223372036854775808<=a * b)(h2:a * b<=9223372036854775807):ji (yJ .mul (.int .i64 a) (.int .i64 b) st) K=K (.int .i64 (a * b)) st:=by
 have:(Q4 .mul).run .i64 a b=some (.int .i64 (a * b)):=by show some (AV.int .i64 (qY .i64 (a * b)))=_;rw[vf h1 h2]
 simp only[yJ,Qk,cond_true,this,jR,ji]
theorem jf3 {a:Int}(h1 : -9223372036854775808<=-a)(h2 : -a<=9223372036854775807):ji (unV .neg (.int .i64 a) st) K=K (.int .i64 (-a)) st:=by
 have e:IntKind.i64.wrap (0 - a)=-a:=by rw[<-YO,vf om om];omega
 simp only[unV,Yn,O,e,ji]
def biV (P:Program)(b:Builtin)(ts:Array TypeId)(l:List AV)(st:St):ER:=(qE P b ts (l.map λv=>O v)).run E0 st
theorem jlQ (b:Builtin)(ts:Array TypeId)(l:List A):wK P base (.i (.bi b ts l)) e st K=wZ e l λvs=>ji (biV P b ts vs st) K:=by
 rw[uF];simp only[wK,wI,ZL,jU,biV,QaW];rfl
theorem jf7 (ts:Array TypeId)(k:IntKind)(a b:Int):ji (biV P .max ts [.int k a,.int k b] st) K=K (.int k (max a b)) st:=by
 have:(qE P .max ts [O (.int k a),O (.int k b)]).run E0 st=jR (max2 (.int k a) (.int k b)) λv=>.ok v st:=by
  show jR (QH max2 (.int k a) [.int k b]) _=_;unfold QH;cases max2 (.int k a) (.int k b)<;>rfl
 show ji ((qE P .max ts [O (.int k a),O (.int k b)]).run E0 st) K=_;rw[this];simp only[max2,Qk,cond_true,jR,ji]
 congr 2
 rw[Xu];by_cases h:a<b
 ·rw[decide_eq_true h,Int.max_eq_right om];rfl
 ·rw[decide_eq_false h,Int.max_eq_left om];rfl
theorem jf6 (ts:Array TypeId)(k:IntKind)(a b:Int):ji (biV P .min ts [.int k a,.int k b] st) K=K (.int k (min a b)) st:=by
 have:(qE P .min ts [O (.int k a),O (.int k b)]).run E0 st=jR (min2 (.int k a) (.int k b)) λv=>.ok v st:=by
  show jR (QH min2 (.int k a) [.int k b]) _=_;unfold QH;cases min2 (.int k a) (.int k b)<;>rfl
 show ji ((qE P .min ts [O (.int k a),O (.int k b)]).run E0 st) K=_;rw[this];simp only[min2,Qk,cond_true,jR,ji]
 congr 2
 rw[Xu];by_cases h:b<a
 ·rw[decide_eq_true h,Int.min_eq_right om];rfl
 ·rw[decide_eq_false h,Int.min_eq_left om];rfl
theorem jf9 (n:Nat)(cs:List AV):ji (jbk (.lst n cs) st) K=K (.int .i64 (n:Int)) st:=nr rfl
theorem jc7 {k:IntKind}{i:Int}(h:0<=i)(F:Nat->ER):qp (.int k i) F=F i.toNat:=by
 obtain⟨n,rfl⟩:=Qbr h;exact uE
theorem jgc {n:Nat}{cs:List AV}{i:Int}(h0:0<=i)(h:i<n)(s:Nat)(k:IntKind):ji (Uk s (.lst n cs) (.int k i) st) K=K (.lptr cs (i.toNat * s)) st:=by
 simp only[Uk,jc7 h0];have:Qck (Qcj i.toNat) n=true:=by rw[qg];omega
 rw[this];rfl
theorem jgb {b o n c z:Nat}{x:Bool}{i:Int}(h0:0<=i)(h:i<n)(s:Nat)(k:IntKind):ji (Uk s (.slice b o n c z x) (.int k i) st) K=K (.ptr b (o+i.toNat * s)) st:=by
 obtain⟨m,rfl⟩:=Qbr h0;exact joM om s k
theorem jlc {s:List Nat}{i:Int}(h0:0<=i)(h:i<s.length)(k:IntKind):ji (Ky (.str s) (.int k i) st) K=K (.int .u8 ((s.getD i.toNat 0:Nat):Int)) st:=by
 obtain⟨m,rfl⟩:=Qbr h0;exact jme om k
theorem jga {k o:Nat}{cs:List AV}(h:o+k<=cs.length):ji (Qz k (.lptr cs o) st) K=K (.agg ((cs.drop o).take k)) st:=by
 have:Qck (Qcl o k) (jP cs)=true:=by rw[qg,jO];exact h
 simp only[Qz,this,cond_true,ji,qW,yR]
theorem qU {o:Nat}{cs:List AV}(h:o<cs.length):ji (XV (.lptr cs o) st) K=K (cs.getD o .bad) st:=by
 have:Qck (Qcj o) (jP cs)=true:=by rw[qg,jO];exact h
 simp only[XV,this,cond_true,ji,zC]
theorem jge (off o:Nat)(cs:List AV):ji (je4 off (.lptr cs o) st) K=K (.lptr cs (o+off)) st:=nr rfl
theorem jcI (o:Nat)(cs:List AV):ji (jeG (.lptr cs o) st) K=K (.lptr cs o) st:=nr rfl
def fl {α:Type}(enc:α->List AV)(xs:List α):List AV:=xs.flatMap enc
theorem JY {α:Type}(enc:α->List AV)(x:α)(xs:List α):fl enc (x :: xs)=enc x ++ fl enc xs:=rfl
theorem QY {α:Type}(enc:α->List AV)(xs ys:List α):fl enc (xs ++ ys)=fl enc xs ++ fl enc ys:=by simp[fl]
theorem JX {α:Type}(enc:α->List AV)(x:α):fl enc [x]=enc x:=by simp[fl]
theorem Jn {α:Type}{enc:α->List AV}{z:Nat}(hz:∀ x,(enc x).length=z):∀ xs:List α,(fl enc xs).length=xs.length * z
 |[]=>by simp[fl]
 |x :: xs=>by rw[JY,υ,hz,Jn hz xs,ν,QaR,Qbo]
theorem zN {α:Type}{enc:α->List AV}(hp:∀ x,(enc x).all pc=true):∀ xs:List α,(fl enc xs).all pc=true
 |[]=>rfl
 |x :: xs=>by rw[JY,QaM,hp,zN hp xs];rfl
theorem gY {α:Type}{enc:α->List AV}{z:Nat}(hz:∀ x,(enc x).length=z):∀ (xs:List α) (i:Nat),(fl enc xs).drop (i * z)=fl enc (xs.drop i)
 |xs,0=>by simp
 |[],i+1=>by simp[fl]
 |x :: xs,i+1=>by
  rw[JY,QaR,Qbo,List.drop_append,List.drop_eq_nil_of_le (by rw[hz];omega),hz,Nat.add_sub_cancel_left,gY hz xs i];rfl
theorem jdo {α:Type}{enc:α->List AV}{z:Nat}(hz:∀ x,(enc x).length=z):∀ (xs:List α) (i:Nat),(fl enc xs).take (i * z)=fl enc (xs.take i)
 |xs,0=>by simp[fl]
 |[],i+1=>by simp[fl]
 |x :: xs,i+1=>by
  rw[JY,QaR,Qbo,List.take_append,QaV (by rw[hz];omega),hz,Nat.add_sub_cancel_left,jdo hz xs i];rfl
theorem jeZ {α:Type}{enc:α->List AV}{z:Nat}(hz:∀ x,(enc x).length=z){xs:List α}{i:Nat}(h:i<xs.length):((fl enc xs).drop (i * z)).take z=enc xs[i]:=by
 rw[gY hz,List.drop_eq_getElem_cons h,JY,List.take_append,QaV (by rw[hz];omega),hz,Nat.sub_self,QaC,QaO]
theorem vi {α:Type}{enc:α->List AV}{z:Nat}(hz:∀ x,(enc x).length=z){xs:List α}{i:Nat}(h:i<xs.length){k:Nat}(hk:k<z):(fl enc xs).getD (i * z+k) .bad=(enc xs[i]).getD k .bad:=by
 rw[<-jeZ hz h];simp only[ω,Qbx,hk,if_true,QbI]
theorem jen {α:Type}{enc:α->List AV}{z:Nat}(hz:∀ x,(enc x).length=z){xs:List α}{i:Nat}(h:i<xs.length):ji (Qz z (.lptr (fl enc xs) (i * z)) st) K=K (.agg (enc xs[i])) st:=by
 have:(i+1) * z<=xs.length * z:=Qax z h;rw[QaR] at this;rw[jga (by rw[Jn hz];omega),jeZ hz h]
theorem jaI {α:Type}{enc:α->List AV}{z:Nat}(hz:∀ x,(enc x).length=z){xs:List α}{i:Nat}(h:i<xs.length){k:Nat}(hk:k<z):ji (XV (.lptr (fl enc xs) (i * z+k)) st) K=K ((enc xs[i]).getD k .bad) st:=by
 have:(i+1) * z<=xs.length * z:=Qax z h;rw[QaR] at this;rw[qU (by rw[Jn hz];omega),vi hz h hk]
theorem jgd {k:Nat}{cs:List AV}(h:k<cs.length):ji (jeY k (.agg cs) st) K=K (cs.getD k .bad) st:=by
 have:Qck (Qcj k) (jP cs)=true:=by rw[qg,jO];exact h
 simp only[jeY,Qh,this,cond_true,ji,zC]
theorem jcL (k n:Nat)(cs:List AV):ji (jeX k n (.agg cs) st) K=K (.agg ((cs.drop k).take n)) st:=by
 simp only[jeX,Qh,ji,qW,yR]
theorem gx (l:List AV):l.take 0=[]:=rfl
theorem gw (a:AV)(l:List AV)(n:Nat):(a :: l).take (n+1)=a :: l.take n:=rfl
theorem Gb (l:List AV):l.drop 0=l:=rfl
theorem jqa (a:AV)(l:List AV)(n:Nat):(a :: l).drop (n+1)=l.drop n:=rfl
theorem Cl.rw_ {b:Nat}{cs:List AV}(C:Cl st b cs):Rw st.h b cs:=by
 obtain⟨n,zl,z,c,hg⟩:=C.row;have hl:=C.len;rw[zX hg] at hl;refine⟨n,zl,z,c,hg,?_⟩;rw[qy];apply Qbh
 ·simp[hl]
 ·intro i h1 h2;have:=C.cell i h2;rw[X8 hg] at this;simp only[List.getElem_map,List.getElem_range,Qag,this];simp[ω,Qai h2]
end
section
variable {P:Program} {base:Bs}
theorem gM (cs:List AV):Y3 cs=nw st0 cs:=by unfold Y3 nw;rw[jO];rfl
def G0 (u v:AV)(s:St):Prop:=FzD 0 9 s v u
def G1 (n:Nat)(c':List AV)(u v:AV)(s:St):Prop:=FzD 1 9 s v u/\∃ c2,Rw s.h 0 c2/\c2.length=n/\FzsD 1 9 s c2 c'
theorem jF {f:FuncId}{F:XF}(hl:jv P f=some F)(hnd:F.body.nd=true)(hm:base.pur f=1){aZ:List AV}{o:Oc}
  (h:xC P base F.body (jh F.ps aZ) st0 (QZ P F.res (Qm G0 o)) λv _ s=>Qg G0 o v s.bare):PX P base f aZ o:=
 PX.of hm (XW hl hnd h)
theorem j2 {f:FuncId}{F:XF}(hl:jv P f=some F)(hnd:F.body.nd=true)(hm:base.pur f=3){c aZ:List AV}(hc:c.all pc=true){o:Oc}{c':List AV}
  (h:xC P base F.body (jh F.ps (.ptr 0 0 :: aZ)) (nw st0 c) (QZ P F.res (Qm (G1 c.length c') o)) λv _ s=>Qg (G1 c.length c') o v s.bare):PM P base f c aZ o c':=by
 rw[<-gM] at h;exact PM.of hm hc (XW hl hnd h)
theorem PM.xbk {f:FuncId}{c aZ aZ':List AV}{ks:List Nat}{o:Oc}{c':List AV}(h:PM P base f c aZ o c'){st:St}{p:Nat}(C:Cl (kills ks st) p c)(hf:fzs (fz 9 st.h) aZ'=some (aZ,ks))(hp:aZ.all pa=true)(hb:∀ st,base.run f (.ptr p 0 :: aZ') st=.no)(K Kp:AV->St->Prop) :
  XB P base f (.ptr p 0 :: aZ') st K Kp=XT o K Kp (wr (kills ks st) p 0 c'):=by
 obtain⟨N,D,h⟩:=h;have e0:∀ n,N<=n->∀ d,D<=d->evC P base n d f (.ptr p 0 :: aZ') st=o.er (wr (kills ks st) p 0 c'):=λn hn d hd=>by
  rw[h n hn d hd st p aZ' ks C.rw_ hf hp hb]
  congr 1
 refine propext ⟨λ⟨r,⟨N2,D2,h2⟩,h3⟩=>?_,λh3=>⟨_,⟨N,D,e0⟩,?_⟩⟩
 ·have e1:=e0 (max N N2) (Qao ..) (max D D2) (Qao ..);have e2:=h2 (max N N2) (Qap ..) (max D D2) (Qap ..);rw[e1] at e2;rw[<-e2] at h3;cases o<;>exact h3
 ·cases o<;>exact h3
theorem PM.xb {f:FuncId}{c aZ:List AV}{o:Oc}{c':List AV}(h:PM P base f c aZ o c'){st:St}{p:Nat}(C:Cl st p c)(hp:aZ.all pa=true)(hb:∀ st,base.run f (.ptr p 0 :: aZ) st=.no)(K Kp:AV->St->Prop) :
 XB P base f (.ptr p 0 :: aZ) st K Kp=XT o K Kp (wr st p 0 c'):=h.xbk (ks:=[]) C (KH (d:=7) hp) hp hb K Kp
theorem Wm (v:AV)(K Kp:AV->St->Prop)(st:St):XT (.ok v) K Kp st=K v st:=nr rfl
theorem jeE (v:AV)(K Kp:AV->St->Prop)(st:St):XT (.pn v) K Kp st=Kp v st:=nr rfl
theorem jhJ (G:AV->AV->St->Prop)(u v:AV)(s:St):Qm G (.ok u) v s=G u v s:=nr rfl
theorem jgQ (G:AV->AV->St->Prop)(u v:AV)(s:St):Qg G (.pn u) v s=G u v s:=nr rfl
def jev (b b2:Nat)(J:Sl->St->Prop)(Q:Out->Prop):Out->Res (J,Q)
 |.go L s=>J L s
 |.ex i L s=>cond (Qci i b2) (J L s) (cond (Qci i b) (Q (.go L s)) (Q (.ex i L s)))
 |.rt L s=>Q (.rt L s)
theorem jpl (b b2:Nat)(J:Sl->St->Prop)(Q:Out->Prop)(L:Sl)(s:St):jev b b2 J Q (.go L s)=J L s:=nr rfl
theorem jpk (b b2:Nat)(J:Sl->St->Prop)(Q:Out->Prop)(L:Sl)(s:St):jev b b2 J Q (.rt L s)=Q (.rt L s):=nr rfl
theorem jjR (b b2:Nat)(J:Sl->St->Prop)(Q:Out->Prop)(i:Nat)(L:Sl)(s:St):jev b b2 J Q (.ex i L s)=cond (Qci i b2) (J L s) (cond (Qci i b) (Q (.go L s)) (Q (.ex i L s))):=nr rfl
theorem hsX {p:Prop}(h:p:=by first|assumption|(simp(disch:=decide) only[jf,jn];done)|(simp(disch:=decide) only[jf];assumption)):p:=h
theorem jZ {b b2 i n c d:Nat}{body:XC}{L:Sl}{st:St}{Q:Out->Prop}{Kp:AV->Sl->St->Prop}(N:Nat)(I:Nat->Sl->St->Prop)(h0:I 0 L st)
  (step:∀ k L s,k<N->I k L s->Has L i (.int .i64 (k:Int))->Has L n (.int .i64 (N:Int))->VI (xC P base body L s (jev b b2 (λL' s'=>I (k+1) L' s'/\Has L' i (.int .i64 (k:Int))/\Has L' n (.int .i64 (N:Int))) Q) Kp))
  (fin:∀ L s,I N L s->VI (Q (.go L s))) (hN:N<=4611686018427387904:=by first|assumption|omega) (hne:c≠i/\c≠n/\i≠n/\d≠i/\b≠b2:=by decide)
  (hi:Has L i (.int .i64 0):=by exact hsX) (hn:Has L n (.int .i64 (N:Int)):=by exact hsX) (hc:∀ k L s v,I k L s->I k ((c,v) :: L) s:=by intro k L s v h;simp(disch:=decide) only[jf];exact h) (hI:∀ k L s v,I k L s->I k ((i,v) :: L) s:=by intro k L s v h;simp(disch:=decide) only[jf];exact h) :
  xC P base (.loop (.seq (.ops [⟨some c,true,none,.i (.bin .lss (.t i) (.t n))⟩]) (.seq (.cond (.t c) .skip (.exit b)) (.seq (.block b2 body) (.ops [⟨some d,false,none,.i (.bin .add (.t i) (.c (.int .i64 1)))⟩,⟨some i,true,none,.i (.mv (.t d))⟩]))))) L st (yt b Q) Kp:=by
 obtain⟨n1,n2,n3,n4,n5⟩:=hne;refine yz (λm L s=>∃ k,k<=N/\m=N - k/\I k L s/\Has L i (.int .i64 (k:Int))/\Has L n (.int .i64 (N:Int))) ?_ N ⟨0,Qaa _,rfl,h0,hi,hn⟩;rintro m L s ⟨k,hk,rfl,hk',h1,h2⟩;unfold VI;simp only[Hu,Hv,VK,x_i,H7,ja h1,ja h2,jel,Hw,VY,wG,jay,jey];by_cases hlt:k<N
 ·rw[decide_eq_true om,jmv,jat,wG,Hu,VL];refine jcF _ _ _ _ _ (step k ((c,.bool true) :: L) s hlt (hc k L s _ hk') (by rw[jf n1];exact h1) (by rw[jf n2];exact h2)) λo ho=>?_;have go:∀ L' s',(I (k+1) L' s'/\Has L' i (.int .i64 (k:Int))/\Has L' n (.int .i64 (N:Int)))->xO P base [⟨some d,false,none,.i (.bin .add (.t i) (.c (.int .i64 1)))⟩,⟨some i,true,none,.i (.mv (.t d))⟩] ⟨[],L'⟩ s' (λe st'=>Jv (λL' st'=>∃ k',k'<N - k/\∃ k,k<=N/\k'=N - k/\I k L' st'/\Has L' i (.int .i64 (k:Int))/\Has L' n (.int .i64 (N:Int))) (yt b Q) (.go e.g st')) Kp:=by
   intro L' s' ⟨h3,h4,h5⟩;simp only[VK,x_i,H7,ja h4,jez,joO (show k+1<=9223372036854775807 by omega),gH,jkf,jex,Hw,VY,wG];refine⟨N - (k+1),om,k+1,om,rfl,hI _ _ _ _ h3,Has.here _ _ _,by rw[jf n3];exact h5⟩
  cases o with
  |go L' s'=>exact go L' s' ho
  |rt L' s'=>exact ho
  |ex q L' s'=>
   rw[jjR] at ho;cases hq:Qci q b2
   ·rw[hq] at ho;have e1:yt b2 (Jv (λL' st'=>xC P base (.ops [⟨some d,false,none,.i (.bin .add (.t i) (.c (.int .i64 1)))⟩,⟨some i,true,none,.i (.mv (.t d))⟩]) L' st' (Jv (λL' st'=>∃ k',k'<N - k/\∃ k,k<=N/\k'=N - k/\I k L' st'/\Has L' i (.int .i64 (k:Int))/\Has L' n (.int .i64 (N:Int))) (yt b Q)) Kp) (Jv (λL' st'=>∃ k',k'<N - k/\∃ k,k<=N/\k'=N - k/\I k L' st'/\Has L' i (.int .i64 (k:Int))/\Has L' n (.int .i64 (N:Int))) (yt b Q))) (.ex q L' s')=yt b Q (.ex q L' s'):=by
     simp only[yt,hq,cond_false,Jv]
    show yt b2 _ _;rw[e1];exact ho
   ·rw[hq] at ho;have:=go L' s' ho;show yt b2 _ _;simp only[yt,hq,cond_true,wG,Hv];exact this
 ·have hkN:k=N:=om
  rw[decide_eq_false om,jmw,jav,VX,VX];subst hkN;show yt b Q (.ex b _ s);rw[W7];exact fin _ _ (hc _ _ _ _ hk')
theorem vY (n:Nat)(cs:List AV):(AV.lst n cs).cells=[.lst n cs]:=nr rfl
theorem jbs (n:Nat)(cs l:List AV):lall AV.cell (.lst n cs :: l)=lall AV.cell l:=nr rfl
theorem Gz (n:Nat)(cs:List AV):(AV.lst n cs).plain=true:=nr rfl
theorem yd:st0.nx=0:=nr rfl
theorem jgA (P:Program)(t:TypeId)(cs:List AV)(o:Nat)(v:AV)(h:T AO):(jY P t (.lptr cs o) v h=true)=True:=by simp[jY]
theorem G0.v {u v:AV}{s:St}(h:v=u)(hp:pa v=true):G0 u v s:=by subst h;exact FzD.pa hp
theorem jdj (p:Prop):VI p=p:=nr rfl
theorem jgM:zq []=.tup []:=nr rfl
theorem gu:∀ {c c':List AV},c'.length=c.length->upd c 0 c'=c'
 |[],[],_=>rfl
 |[],_ :: _,h=>by simp at h
 |_ :: _,[],h=>by simp at h
 |_ :: c,v :: c',h=>by rw[Y8,gu (by simpa using h)]
theorem YR {c c':List AV}(h:c'.length=c.length):upd c 0 c'=c':=gu h
theorem Cl.wr0 {s:St}{b:Nat}{c c':List AV}(C:Cl s b c)(h:c'.length=c.length):Cl (Go.Sy.wr s b 0 c') b c':=by
 have:=C.wr 0 c';rwa [gu h] at this
theorem G1.done {s:St}{n:Nat}{c':List AV}{u v:AV}(C:Cl s 0 c')(hl:c'.length=n)(hp:c'.all pc=true)(hv:FzD 1 9 s v u):G1 n c' u v s:=
 ⟨hv,c',C.rw_,hl,FzsD.pc hp⟩
theorem FzD.u {m d:Nat}{s:St}:FzD m (d+1) s (.tup []) (.tup []):=FzD.tup FzsD.nil
abbrev Met (P:Program)(base:Bs)(f:FuncId)(c xs:List AV)(o:Oc)(c':List AV):Prop:=∀ {st:St} {p:Nat},Cl st p c->∀ K Kp,XB P base f (.ptr p 0 :: xs) st K Kp=XT o K Kp (wr st p 0 c')
theorem PM.met {f:FuncId}{c xs:List AV}{o:Oc}{c':List AV}(h:PM P base f c xs o c')(hp:xs.all pa=true)(hb:∀ p st,base.run f (.ptr p 0 :: xs) st=.no):Met P base f c xs o c':=λC K Kp=>h.xb C hp (hb _) K Kp
theorem gj {f:FuncId}{xs:List AV}{st:St}{v:AV}{st':St}(h:base.run f xs st=.ok v st')(K Kp:AV->St->Prop):XB P base f xs st K Kp=K v (back st st'):=by
 have e0:∀ n,0<=n->∀ d,1<=d->evC P base n d f xs st=.ok v st':=λn _ d hd=>by
  obtain⟨d',rfl⟩:∃ d',d=d'+1:=⟨d - 1,om⟩;simp only[evC,h]
 refine propext ⟨λ⟨r,⟨N2,D2,h2⟩,h3⟩=>?_,λh3=>⟨_,⟨0,1,e0⟩,h3⟩⟩;have e1:=e0 N2 (Qaa _) (max 1 D2) (Qao ..);have e2:=h2 N2 (μ _) (max 1 D2) (Qap ..);rw[e1] at e2;rw[<-e2] at h3;exact h3
def cvV (P:Program)(s d:TypeId)(v:AV)(st:St):ER:=(JJ P s d (O v)).run E0 st
theorem jhl {e:En}{st:St}{K:AV->St->Prop}(s d:TypeId)(x:A):wK P base (.i (.conv s d x)) e st K=on1 e x λv=>ji (cvV P s d v st) K:=k_1 rfl (λ_=>rfl) K
theorem jnb {st:St}{K:AV->St->Prop}{s d e:TypeId}(h1:P.underlying s=some .string)(h2:P.underlying d=some (.slice e))(h3:P.underlying e=some (.int .u8))(l:List Nat) :
  ji (cvV P s d (.str l) st) K=K (.slice st.nx 0 l.length l.length 1 false) (nw st (l.map λ(c:Nat)=>.int .u8 (c:Int))):=by
 simp only[cvV,JJ,h1,h2,h3,O,zM,jO,jE,St.alloc_eq,ji];unfold nw;rw[Qaq,yE];rfl
theorem jgE {st:St}(x k:Nat)(l:List RV)(L:Sl)(F:List AV->Prop):yo P (.cA x k :: l) L st F=on1 ⟨[],L⟩ (.t x) λv=>ji (Qz k v st) λu _=>yo P l L st λvs=>F (u :: vs):=by
 simp only[yo,jaU,on1,okA,vl,En.has,En.look,has,cond_false];rfl
theorem jc0 {st:St}(x:Nat)(l:List RV)(L:Sl)(F:List AV->Prop):yo P (.c1 x :: l) L st F=on1 ⟨[],L⟩ (.t x) λv=>ji (XV v st) λu _=>yo P l L st λvs=>F (u :: vs):=by
 simp only[yo,jaU,on1,okA,vl,En.has,En.look,has,cond_false];rfl
def HG (n sz:Nat)(v:AV)(st:St):ER:=q7 v λb o=>optA none 0 λl=>optA none n λh=>
 cond (Qck l h) (cond (Qck h n)
  (force (Qcn h l) λk=>force (Qcl o (Qcm l sz)) λo=>force (Qcn n l) λc=>.ok (.slice b o k c sz true) st) .no) .no
theorem jhb {e:En}{st:St}{K:AV->St->Prop}(n sz:Nat)(x:A):wK P base (.i (.slA n sz x none none)) e st K=on1 e x λv=>ji (HG n sz v st) K:=k_1 (V:=λv st=>HG n sz v st) rfl (λ_=>rfl) K
theorem jf1 {st:St}{K:AV->St->Prop}(b n sz:Nat):ji (HG n sz (.ptr b 0) st) K=K (.slice b 0 n n sz true) st:=by
 have e1:Qck 0 n=true:=qD (Qaa _);have e2:Qck n n=true:=qD (μ _);have e3:Qcl 0 (Qcm 0 sz)=0:=by show 0+0 * sz=0;omega
 have e4:Qcn n 0=n:=rfl;simp only[HG,q7,optA,e1,e2,e3,e4,cond_true,jE,ji]
theorem jcK {st:St}{K:AV->St->Prop}{b n s:Nat}{i:Int}(h0:0<=i)(h:i<n)(k:IntKind):ji (jeR n s (.ptr b 0) (.int k i) st) K=K (.ptr b (i.toNat * s)) st:=by
 have e1:Qck (Qcj i.toNat) n=true:=qD om;have e2:Qcl 0 (Qcm i.toNat s)=i.toNat * s:=Qag _;simp only[jeR,q7,jc7 h0,e1,e2,cond_true,jE,ji]
theorem jf0 {st:St}{K:AV->St->Prop}{l:List Nat}{i:Int}(h0:0<=i)(h:i<=l.length)(k:IntKind):ji (Jk (.str l) (some (.int k i)) none st) K=K (.str (l.drop i.toNat)) st:=by
 obtain⟨m,rfl⟩:=Qbr h0;exact jrm om k
theorem jfZ {st:St}{K:AV->St->Prop}{l:List Nat}{i:Int}(h0:0<=i)(h:i<=l.length)(k:IntKind):ji (Jk (.str l) none (some (.int k i)) st) K=K (.str (l.take i.toNat)) st:=by
 obtain⟨m,rfl⟩:=Qbr h0;exact jrl om k
theorem jfY {st:St}{K:AV->St->Prop}{l:List Nat}{i j:Int}(h0:0<=i)(h1:i<=j)(h:j<=l.length)(k k':IntKind):ji (Jk (.str l) (some (.int k i)) (some (.int k' j)) st) K=K (.str ((l.drop i.toNat).take (j - i).toNat)) st:=by
 obtain⟨m,rfl⟩:=Qbr h0;obtain⟨n,rfl⟩:=Qbr (show 0<=j by omega);rw[jrk om om]
 congr 3
 omega
theorem jef {f:FuncId}{xs:List AV}{st s:St}{v:AV}(h:∀ K Kp,K v s->XB P base f xs st K Kp)(K Kp:AV->St->Prop):XB P base f xs st K Kp=K v s:=by
 refine propext ⟨λ⟨r2,⟨N2,D2,h2⟩,h3⟩=>?_,h K Kp⟩;obtain⟨r,⟨N,D,h1⟩,h4⟩:=h (λv' s'=>v'=v/\s'=s) (λ_ _=>False) ⟨rfl,rfl⟩;have e1:=h1 (max N N2) (Qao ..) (max D D2) (Qao ..);have e2:=h2 (max N N2) (Qap ..) (max D D2) (Qap ..);rw[e1] at e2;subst e2;cases r with
 |no=>exact h4.elim
 |pn v s=>exact h4.elim
 |ok v' s'=>
  obtain⟨rfl,rfl⟩:=h4;exact h3
theorem jdE (st:St):bk st st.bare=st:=nr rfl
theorem jcb (st:St):back st st.bare=st:=nr rfl
def fi {α:Type}(q:α->Bool):List α->Int
 |[]=>-1
 |x :: xs=>if q x=true then 0 else if fi q xs<0 then -1 else fi q xs+1
theorem WB {α:Type}{q:α->Bool}:∀ {xs:List α} {k:Nat} (h:k<xs.length),(∀ j (hj:j<k),q (xs[j]'(om))=false)->q xs[k]=true->fi q xs=k
 |x :: xs,0,h,h0,hk=>by simp only[Qbs] at hk;simp[fi,hk]
 |x :: xs,k+1,h,h0,hk=>by
  have:=WB (xs:=xs) (k:=k) (by simpa using h) (λj hj=>by have:=h0 (j+1) om;simpa only[QbG] using this) (by simpa only[QbG] using hk);have h1:=h0 0 om;simp only[Qbs] at h1;simp only[fi,h1,this];simp;omega
theorem Wz {α:Type}{q:α->Bool}:∀ {xs:List α},(∀ j (hj:j<xs.length),q xs[j]=false)->fi q xs=-1
 |[],_=>rfl
 |x :: xs,h=>by
  have h1:=h 0 (by simp);simp only[Qbs] at h1;have:=Wz (xs:=xs) λj hj=>by have:=h (j+1) (by simpa using hj);simpa only[QbG] using this
  simp[fi,h1,this]
theorem Cl.cv {s:St}{b:Nat}{c c':List AV}(h:Cl s b c)(e:c=c'):Cl s b c':=e▸h
theorem jA {s:St}{b c o:Nat}{vs cs:List AV}(h:c≠b):Cl (wr s b o vs) c cs=Cl s c cs:=
 propext ⟨λC=>⟨C.lt,Jc (zI h).symm C.row,(yC (zI h).symm).trans C.len,λi hi=>(yp (zI h).symm i).trans (C.cell i hi)⟩,λC=>C.wrO h o vs⟩
theorem jD {s:St}{c:Nat}{ds cs:List AV}(h:c<s.nx):Cl (nw s ds) c cs=Cl s c cs:=
 propext ⟨λC=>⟨h,Jc (yn (Qbe h)).symm C.row,(yC (yn (Qbe h)).symm).trans C.len,λi hi=>(yp (yn (Qbe h)).symm i).trans (C.cell i hi)⟩,λC=>C.nw ds⟩
theorem jz {s:St}{c:Nat}{cs:List AV}:Cl s.bare c cs=Cl s c cs:=propext ⟨λh=>⟨h.lt,h.row,h.len,h.cell⟩,λh=>⟨h.lt,h.row,h.len,h.cell⟩⟩
end
theorem gq {a b:List AV}(h:a=b)(k:Nat):a.getD k .bad=b.getD k .bad:=by rw[h]
theorem gd {a b:List AV}(h:a=b)(k:Nat):a.drop k=b.drop k:=by rw[h]
abbrev FR {α:Type}(enc:α->List AV)(z:Nat):Prop:=(∀ {st:St} {K:AV->St->Prop} {xs:List α} {i:Nat} (h:i<xs.length),ji (Qz z (.lptr (fl enc xs) (i * z)) st) K=K (.agg (enc xs[i])) st)/\(∀ {st:St} {K:AV->St->Prop} {xs:List α} {i:Nat} (h:i<xs.length),ji (XV (.lptr (fl enc xs) (i * z)) st) K=K ((enc xs[i]).getD 0 .bad) st)/\∀ {st:St} {K:AV->St->Prop} {xs:List α} {i:Nat} (h:i<xs.length) {k:Nat} (hk:k<z),ji (XV (.lptr (fl enc xs) (i * z+k)) st) K=K ((enc xs[i]).getD k .bad) st
theorem frE {α:Type}{enc:α->List AV}{z:Nat}(hl:∀ x,(enc x).length=z)(hz:0<z:=by decide):FR enc z:=⟨λh=>jen hl h,λh=>jaI (k:=0) hl h hz,λh _ hk=>jaI hl h hk⟩
def Lv (lo hi:Nat)(s:St)(v:AV)(n:Nat)(cs:List AV)(z:Nat):Prop:=(v=.nils/\n=0/\cs=[])\/∃ b,v=.slice b 0 n n z false/\0<n/\cs.length=n * z/\Cl s b cs/\lo<=b/\b<hi
def aps (v:AV)(s:St)(news:List AV):St:=match v with | .slice b _ _ _ _ _=>ap s b news|_=>nw s news
def apv (z:Nat)(v:AV)(s:St):AV:=match v with | .slice _ _ n _ _ _=>.slice s.nx 0 (n+1) (n+1) z false|_=>.slice s.nx 0 1 1 z false
section
variable {lo hi n z:Nat} {s:St} {v:AV} {cs:List AV}
theorem Lv.nil:Lv lo hi s .nils 0 [] z:=.inl ⟨rfl,rfl,rfl⟩
theorem jC {b o:Nat}{vs:List AV}(h:b<lo\/hi<=b):Lv lo hi (wr s b o vs) v n cs z=Lv lo hi s v n cs z:=by
 unfold Lv;refine propext ⟨λk=>k.imp id λ⟨c,h1,h2,h3,h4,h5,h6⟩=>⟨c,h1,h2,h3,?_,h5,h6⟩,λk=>k.imp id λ⟨c,h1,h2,h3,h4,h5,h6⟩=>⟨c,h1,h2,h3,?_,h5,h6⟩⟩
 ·rwa [jA om] at h4
 ·rwa [jA om]
theorem jG {ds:List AV}(h:hi<=s.nx):Lv lo hi (nw s ds) v n cs z=Lv lo hi s v n cs z:=by
 unfold Lv;refine propext ⟨λk=>k.imp id λ⟨c,h1,h2,h3,h4,h5,h6⟩=>⟨c,h1,h2,h3,?_,h5,h6⟩,λk=>k.imp id λ⟨c,h1,h2,h3,h4,h5,h6⟩=>⟨c,h1,h2,h3,?_,h5,h6⟩⟩
 ·rwa [jD om] at h4
 ·rwa [jD om]
theorem jH:Lv lo hi s.bare v n cs z=Lv lo hi s v n cs z:=by unfold Lv;simp only[jz]
theorem Lv.up {hi':Nat}(h:Lv lo hi s v n cs z)(h2:hi<=hi'):Lv lo hi' s v n cs z:=h.imp id λ⟨c,h1,h2,h3,h4,h5,h6⟩=>⟨c,h1,h2,h3,h4,h5,om⟩
theorem jk (v:AV)(s:St)(news:List AV):(aps v s news).nx=s.nx+1:=by unfold aps;split<;>rfl
theorem YA (v:AV)(s:St)(news:List AV):(aps v s news).fr=s.fr:=by unfold aps;split<;>rfl
theorem Lv.app {news:List AV}(h:Lv lo hi s v n cs z)(hl:news.length=z)(h1:lo<=s.nx):Lv lo (s.nx+1) (aps v s news) (apv z v s) (n+1) (cs ++ news) z:=by
 rcases h with ⟨rfl,rfl,rfl⟩|⟨b,rfl,h2,h3,h4,h5,h6⟩
 ·exact .inr ⟨s.nx,rfl,om,by simp[hl],Cl.new s news,h1,om⟩
 ·exact .inr ⟨s.nx,rfl,om,by rw[υ,h3,hl,QaR],h4.ap news,h1,om⟩
theorem Cl.apO {s:St}{b c:Nat}{cs vs:List AV}(h:Cl s c cs)(hb:c≠b):Cl (Go.Sy.ap s b vs) c cs:=
 have e:jx (Go.Sy.ap s b vs).h c=jx s.h c:=gT (Qbe h.lt) hb
 ⟨Nat.lt_succ_of_lt h.lt,Jc e h.row,(yC e).trans h.len,λi hi=>(yp e i).trans (h.cell i hi)⟩
theorem Cl.aps {c:Nat}{ds news:List AV}(C:Cl s c ds)(h:Lv lo hi s v n cs z)(hc:c<lo\/hi<=c):Cl (Go.Sy.aps v s news) c ds:=by
 rcases h with ⟨rfl,rfl,rfl⟩|⟨b,rfl,h2,h3,h4,h5,h6⟩
 ·exact C.nw news
 ·exact C.apO (b:=b) om
theorem Lv.aps {lo' hi' n' z':Nat}{v':AV}{cs' news:List AV}(V:Lv lo' hi' s v' n' cs' z')(h:Lv lo hi s v n cs z)(hc:hi'<=lo\/hi<=lo'):Lv lo' hi' (Go.Sy.aps v s news) v' n' cs' z':=
 V.imp id λ⟨c,h1,h2,h3,h4,h5,h6⟩=>⟨c,h1,h2,h3,h4.aps h om,h5,h6⟩
theorem Lv.fz {m d:Nat}(h:Lv lo hi s v n cs z)(hm:m<=lo)(hp:cs.all pc=true):FzD m (d+2) s v (.lst n cs):=by
 rcases h with ⟨rfl,rfl,rfl⟩|⟨b,rfl,h2,h3,h4,h5,h6⟩
 ·exact FzD.nils
 ·refine FzD.slice h4.rw_ (QaS h3.symm) om ?_;rw[<-h3,Qah];exact FzsD.pc hp
variable {K:AV->St->Prop}
theorem JR {bytes bv xc:Nat}{xx:Bool}(h:Lv lo hi s v n cs z)(hz:0<z)(hby:(n+1) * bytes<=140737488355328)(h63:n+1<=9223372036854775807)(hv:z<=qh s.h bv) :
  ji (Xo z bytes v (.slice bv 0 1 xc z xx) s) K=K (apv z v s) (aps v s (rats s.h bv 0 z)):=by
 obtain⟨m,zl,zz,ks,hg⟩:=Ya (h:=s.h) (b:=bv) om;rw[zX hg] at hv;have e0:Qcm 1 z=z:=Nat.one_mul z;have e1:Qck (Qcl 0 z) m=true:=qD (by show 0+z<=m;omega);have er:jT zl zz ks z 0=rats s.h bv 0 z:=by
  rw[Y1,qy];exact QaX λi _=>by rw[X8 hg]
 have el:(rats s.h bv 0 z).length=z:=QO _ _ _ _;have e3:Qci (jP (rats s.h bv 0 z)) z=true:=YJ (by rw[jO,el]);rcases h with ⟨rfl,rfl,rfl⟩|⟨b,rfl,h2,h3,h4,h5,h6⟩
 ·have e4:Qci 1 0=false:=rfl;have e5:Qck (Qcm 1 bytes) 140737488355328=true:=qD (by show 1 * bytes<=_;omega);have e6:Qck 1 9223372036854775807=true:=qD dc;simp only[Xo,JN,firstCells,hg,yh,jE,e0,e1,cond_true,er,qS,e3,e4,cond_false,e5,e6,St.alloc_eq,ji];unfold apv Go.Sy.aps nw;rw[el]
 ·obtain⟨m',zl',zz',ks',hg'⟩:=h4.row;have h4l:=h4.len;rw[zX hg'] at h4l;have e4:Qck (Qcl n 1) n=false:=jfw (Qbb _);have e5:Qck (Qcm (Qcl n 1) bytes) 140737488355328=true:=qD hby;have e6:Qck (Qcl n 1) 9223372036854775807=true:=qD h63;have e7:Qci z z=true:=YJ rfl;have e8:Qci 0 0=true:=rfl;have e9:Qci (Qcm n z) m'=true:=YJ (by rw[h4l,h3];rfl);simp only[Xo,JN,firstCells,hg,yh,jE,e0,e1,cond_true,er,qS,e3,hg',e4,cond_false,e5,e6,e7,e8,e9,St.put_eq,St.alloc_eq,ji];have e10:Qcm (Qcl n 1) z=m'+(rats s.h bv 0 z).length:=by rw[el,h4l,h3];exact QaR n z
  rw[e10];have ea:ap s b (rats s.h bv 0 z)=⟨s.nx+1,(j1 (jK s.nx)).run (.row (m'+(rats s.h bv 0 z).length) zl' zz' (qj (rats s.h bv 0 z) ks' m')) ((j1 (jK b)).run .dead s.h),min s.dirty b,s.fr⟩:=by
   unfold ap apO;rw[hg']
  show _=K (.slice s.nx 0 (n+1) (n+1) z false) (ap s b (rats s.h bv 0 z));rw[ea]
theorem Lv.get (h:Lv lo hi s v n cs z)(st:St)(news:List AV)(c:Nat)(hc:c<lo\/hi<=c)(hn:c<st.nx):jx (Go.Sy.aps v st news).h c=jx st.h c:=by
 rcases h with ⟨rfl,rfl,rfl⟩|⟨b,rfl,h2,h3,h4,h5,h6⟩
 ·exact yn (Qbe hn)
 ·exact gT (Qbe hn) om
theorem Lv.at (h:Lv lo hi s v n cs z)(st:St)(news:List AV)(c i:Nat)(hc:c<lo\/hi<=c)(hn:c<st.nx):rat (Go.Sy.aps v st news).h c i=rat st.h c i:=yp (h.get st news c hc hn) i
theorem Lv.ln (h:Lv lo hi s v n cs z)(st:St)(news:List AV)(c:Nat)(hc:c<lo\/hi<=c)(hn:c<st.nx):qh (Go.Sy.aps v st news).h c=qh st.h c:=yC (h.get st news c hc hn)
theorem Lv.rts (h:Lv lo hi s v n cs z)(st:St)(news:List AV)(c o k:Nat)(hc:c<lo\/hi<=c)(hn:c<st.nx):rats (Go.Sy.aps v st news).h c o k=rats st.h c o k:=Zy (h.get st news c hc hn) k o
theorem Lv.cl (h:Lv lo hi s v n cs z)(st:St)(news ds:List AV)(c:Nat)(hc:c<lo\/hi<=c)(hn:c<st.nx):Cl (Go.Sy.aps v st news) c ds=Cl st c ds:=
 propext ⟨λC=>have e:=h.get st news c hc hn;⟨hn,Jc e.symm C.row,(yC e.symm).trans C.len,λi hi=>(yp e.symm i).trans (C.cell i hi)⟩,λC=>have e:=h.get st news c hc hn;⟨by rw[jk];exact Nat.lt_succ_of_lt hn,Jc e C.row,(yC e).trans C.len,λi hi=>(yp e i).trans (C.cell i hi)⟩⟩
theorem Lv.put {news:List AV}(h:Lv lo hi s v n cs z)(hl:news.length=z)(h1:lo<=s.nx){m:Nat}(hm:m=s.nx+1):Lv lo m (Go.Sy.aps v s news) (apv z v s) (n+1) (cs ++ news) z:=by rw[hm];exact h.app hl h1
end
def kl (b:Nat)(s:St):St:=kills [b] s
section
variable {lo hi n z b c:Nat} {s:St} {v:AV} {cs:List AV}
theorem jo (b:Nat)(s:St):(kl b s).nx=s.nx:=nr rfl
theorem jab (b:Nat)(s:St):(kl b s).fr=s.fr:=nr rfl
theorem vg (h:c≠b):jx (kl b s).h c=jx s.h c:=by
 show jx ((j1 (jK b)).run .dead s.h) c=_;rw[jX,if_neg h]
theorem jag {i:Nat}(h:c≠b):rat (kl b s).h c i=rat s.h c i:=yp (vg h) i
theorem uI (h:c≠b):qh (kl b s).h c=qh s.h c:=yC (vg h)
theorem wF {o k:Nat}(h:c≠b):rats (kl b s).h c o k=rats s.h c o k:=Zy (vg h) _ _
theorem jS (h:c≠b):Cl (kl b s) c cs=Cl s c cs:=
 propext ⟨λC=>have e:=vg (s:=s) h;⟨C.lt,Jc e.symm C.row,(yC e.symm).trans C.len,λi hi=>(yp e.symm i).trans (C.cell i hi)⟩,λC=>have e:=vg (s:=s) h;⟨C.lt,Jc e C.row,(yC e).trans C.len,λi hi=>(yp e i).trans (C.cell i hi)⟩⟩
theorem jJ (h:b<lo\/hi<=b):Lv lo hi (kl b s) v n cs z=Lv lo hi s v n cs z:=by
 unfold Lv;refine propext ⟨λk=>k.imp id λ⟨c,h1,h2,h3,h4,h5,h6⟩=>⟨c,h1,h2,h3,?_,h5,h6⟩,λk=>k.imp id λ⟨c,h1,h2,h3,h4,h5,h6⟩=>⟨c,h1,h2,h3,?_,h5,h6⟩⟩
 ·rwa [jS om] at h4
 ·rwa [jS om]
theorem JQ (h0:0<cs.length)(h1:b<s.nx)(h2:qh s.h b=cs.length)(h3:rats s.h b 0 cs.length=cs):Cl s b cs:=Cl.of_rats h1 h2 rfl h0 h3
def df (x:FuncId×List AV)(s:St):St:=⟨s.nx,s.h,s.dirty,x :: s.fr⟩
theorem vM (x:FuncId×List AV)(s:St):(df x s).nx=s.nx:=nr rfl
theorem gS (x:FuncId×List AV)(s:St):(df x s).h=s.h:=nr rfl
theorem KJ (x:FuncId×List AV)(s:St):(df x s).fr=x :: s.fr:=nr rfl
theorem jse {x:FuncId×List AV}:Cl (df x s) c cs=Cl s c cs:=propext ⟨λh=>⟨h.lt,h.row,h.len,h.cell⟩,λh=>⟨h.lt,h.row,h.len,h.cell⟩⟩
theorem Yh (f:FuncId)(caps vs:List AV){K:AV->St->Prop}:Vv (.fn f caps) vs s K=K qd (df (f,vs ++ caps) s):=nr rfl
theorem jht:st0.fr=[]:=nr rfl
theorem jbB {m k:Nat}{x:Bool}{d:Nat}(C:Cl s b cs)(hl:n * z=cs.length)(hp:cs.all pc=true):fz (d+2) s.h (.slice b 0 n m z x)=some (.lst n cs,[b]):=by
 obtain⟨q,zl,zz,ct,h1,h2,h3⟩:=C.rw_.len;show(match jx s.h b with
  |some (.row n' zl z' cs)=>cond (Qck (Qcl 0 (Qcm n z)) n') ((fzs (fz (d+1) s.h) (jT zl z' cs (Qcm n z) 0)).map λ(p:List AV×List Nat)=>(AV.lst n p.1,b :: p.2)) none
  |_=>none)=_
 rw[h1];dsimp only;have e1:Qck (Qcl 0 (Qcm n z)) q=true:=by rw[qg];show 0+n * z<=q;omega
 have e2:jT zl zz ct (Qcm n z) 0=cs:=by
  rw[show Qcm n z=q by show n * z=q;omega];exact h2
 rw[e1,e2,Vi hp];rfl
def Fza (s:St)(aZ' aZ:List AV)(ks:List Nat):Prop:=fzs (fz 9 s.h) aZ'=some (aZ,ks)
theorem Fza.nil:Fza s [] [] []:=rfl
theorem Fza.pa {aZ' aZ:List AV}{ks:List Nat}(hv:pa v=true)(h:Fza s aZ' aZ ks):Fza s (v :: aZ') (v :: aZ) ks:=by
 unfold Fza at *;simp only[fzs];rw[jaa (d:=7) hv,h];rfl
theorem Fza.sl {aZ' aZ:List AV}{ks:List Nat}{m:Nat}{x:Bool}(C:Cl s b cs)(hl:n * z=cs.length)(hp:cs.all pc=true)(h:Fza s aZ' aZ ks):Fza s (.slice b 0 n m z x :: aZ') (.lst n cs :: aZ) (b :: ks):=by
 unfold Fza at *;simp only[fzs];rw[jbB (d:=7) (k:=0) C hl hp,h];rfl
variable {P:Program} {base:Bs}
theorem Wd {f:FuncId}{F:XF}(hl:jv P f=some F)(hm:base.pur f=1){aZ:List AV}{o:Oc}
 (h:xC P base F.body (jh F.ps aZ) st0 (U6 P base F.res (Qm G0 o) (Qg G0 o)) (uD P base F.res (Qm G0 o) (Qg G0 o))):PX P base f aZ o:=PX.of hm (jb8 hl h)
theorem PX.xf {f:FuncId}{aZ aZ':List AV}{ks:List Nat}{o:Oc}(h:PX P base f aZ o){st:St}(hf:Fza st aZ' aZ ks)(hb:∀ st,base.run f aZ' st=.no)(K Kp:AV->St->Prop):XB P base f aZ' st K Kp=XT o K Kp (kills ks st):=h.cxk hf hb K Kp
end
end Go.Sy
end
noncomputable section
namespace Go.Sy
open Go.Ev
theorem Cl.q {s:St}{b:Nat}{cs:List AV}(h:Cl s b cs):type_of% (aI h.len (aI h.cell h.ratsP)):=aI h.len (aI h.cell h.ratsP)
theorem Cl.r {s:St}{b:Nat}{cs:List AV}(h:Cl s b cs):type_of% (aI h.len h.ratsP):=aI h.len h.ratsP
theorem rzA:type_of% (a8 (@jdj) (@jat) (@Hv) (@jfP) (@jfN) (@Hu) (@VL) (a8 (@jav) (@jkY) (@jay) (@Hw) (@VK) (@jcE) (@jfQ) (a8 (@jaA) (@jaz) (@jfO) (@jax) (@jaw) (@jcC) (@x_i) (a8 (@jfR) (@jkZ) (@jcD) (@jas) (@jar) (@jfM) (@wG) (a8 (@VX) (@jcZ) (@Gv) (@Gt) (@W7) (@Gu) (@jpj) (a8 (@jez) (@jex) (@jgH) (@jey) (@jgI) (@jc1) (@gH) (a8 (@VY) (@jlt) (@jls) (@jc2) (@jc3) (@jgG) (@jgF) (a8 (@jgM) (@jgL) (@jgK) (@jgJ) (@Hl) (@Hm) (@Hn) (aI (@jdG) (@jdF)))))))))):=a8 (@jdj) (@jat) (@Hv) (@jfP) (@jfN) (@Hu) (@VL) (a8 (@jav) (@jkY) (@jay) (@Hw) (@VK) (@jcE) (@jfQ) (a8 (@jaA) (@jaz) (@jfO) (@jax) (@jaw) (@jcC) (@x_i) (a8 (@jfR) (@jkZ) (@jcD) (@jas) (@jar) (@jfM) (@wG) (a8 (@VX) (@jcZ) (@Gv) (@Gt) (@W7) (@Gu) (@jpj) (a8 (@jez) (@jex) (@jgH) (@jey) (@jgI) (@jc1) (@gH) (a8 (@VY) (@jlt) (@jls) (@jc2) (@jc3) (@jgG) (@jgF) (a8 (@jgM) (@jgL) (@jgK) (@jgJ) (@Hl) (@Hm) (@Hn) (aI (@jdG) (@jdF)))))))))
theorem rzB:type_of% (a8 (@jdE) (@jcb) (@jpl) (@jpk) (@jjR) (@jkf) (@jhc) (a8 (@jlP) (@jlK) (@jlJ) (@jpL) (@jhd) (@H7) (@jlH) (a8 (@jg7) (@jpK) (@jlO) (@jlM) (@jhk) (@jhj) (@jhi) (a8 (@jhh) (@jhg) (@jdh) (@jlN) (@jlI) (@jhf) (@jbz) (a8 (@jby) (@jbx) (@jha) (@jg9) (@jg8) (@jbA) (@GY) (a8 (@jlL) (@jdi) (@jlQ) (@jcJ) (@jhl) (@jhb) (@jeT) (a8 (@jlR) (@joI) (@jk8) (@jel) (@jld) (@jla) (@jle) (a8 (@jlg) (@jk9) (@jcH) (@jaE) (@jaF) (@jgi) (@jfV) (aI (@jf4) (@jf3)))))))))):=a8 (@jdE) (@jcb) (@jpl) (@jpk) (@jjR) (@jkf) (@jhc) (a8 (@jlP) (@jlK) (@jlJ) (@jpL) (@jhd) (@H7) (@jlH) (a8 (@jg7) (@jpK) (@jlO) (@jlM) (@jhk) (@jhj) (@jhi) (a8 (@jhh) (@jhg) (@jdh) (@jlN) (@jlI) (@jhf) (@jbz) (a8 (@jby) (@jbx) (@jha) (@jg9) (@jg8) (@jbA) (@GY) (a8 (@jlL) (@jdi) (@jlQ) (@jcJ) (@jhl) (@jhb) (@jeT) (a8 (@jlR) (@joI) (@jk8) (@jel) (@jld) (@jla) (@jle) (a8 (@jlg) (@jk9) (@jcH) (@jaE) (@jaF) (@jgi) (@jfV) (aI (@jf4) (@jf3)))))))))
theorem rzC:type_of% (a8 (@jf7) (@jf6) (@jf8) (@jem) (@jaH) (@jf9) (@jgc) (a8 (@jgb) (@jlc) (@jge) (@jcI) (@jf2) (@jlf) (@jgd) (a8 (@jcL) (@jgg) (@jgf) (@jlb) (@jf1) (@jcK) (@jf0) (a8 (@jfZ) (@jfY) (@jdD) (@jqs) (@jqt) (@jhT) (@KA) (a8 (@KB) (@Wm) (@jeE) (@jhJ) (@jgQ) (@jfF) (@jl2) (a8 (@jqF) (@jfG) (@YZ) (@YY) (@wE) (@YX) (@YR) (a8 (@YW) (@jag) (@uI) (@wF) (@vM) (@gS) (@KJ) (a8 (@jab) (@YA) (@jk) (@jo) (@YQ) (@Ym) (@Y8) (aI (@ZV) (@ZU)))))))))):=a8 (@jf7) (@jf6) (@jf8) (@jem) (@jaH) (@jf9) (@jgc) (a8 (@jgb) (@jlc) (@jge) (@jcI) (@jf2) (@jlf) (@jgd) (a8 (@jcL) (@jgg) (@jgf) (@jlb) (@jf1) (@jcK) (@jf0) (a8 (@jfZ) (@jfY) (@jdD) (@jqs) (@jqt) (@jhT) (@KA) (a8 (@KB) (@Wm) (@jeE) (@jhJ) (@jgQ) (@jfF) (@jl2) (a8 (@jqF) (@jfG) (@YZ) (@YY) (@wE) (@YX) (@YR) (a8 (@YW) (@jag) (@uI) (@wF) (@vM) (@gS) (@KJ) (a8 (@jab) (@YA) (@jk) (@jo) (@YQ) (@Ym) (@Y8) (aI (@ZV) (@ZU)))))))))
theorem rzD:type_of% (a8 (@je) (@jg) (@jk) (@jj) (@uK) (@wH) (@Xa) (a8 (@QT) (@K8) (@vw) (@Uv) (@K6) (@K7) (@ZF) (a8 (@Ye) (@vZ) (@vV) (@wo) (@Zr) (@wn) (@vX) (a8 (@vY) (@jci) (@jch) (@jkC) (@jfH) (@jah) (@kX) (a8 (@VW) (@jlr) (@jlq) (@Zo) (@KI) (@jdn) (@yd) (a8 (@jgE) (@jc0) (@h_0) (@h_1) (@jpP) (@jpO) (@jpR) (a8 (@jpQ) (@jpB) (@jpA) (@joY) (@joX) (@joW) (@joH) (a8 (@joF) (@jk2) (@joG) (@jk3) (@jgA) (@gx) (@gw) (aI (@Gb) (@jqa)))))))))):=a8 (@je) (@jg) (@jk) (@jj) (@uK) (@wH) (@Xa) (a8 (@QT) (@K8) (@vw) (@Uv) (@K6) (@K7) (@ZF) (a8 (@Ye) (@vZ) (@vV) (@wo) (@Zr) (@wn) (@vX) (a8 (@vY) (@jci) (@jch) (@jkC) (@jfH) (@jah) (@kX) (a8 (@VW) (@jlr) (@jlq) (@Zo) (@KI) (@jdn) (@yd) (a8 (@jgE) (@jc0) (@h_0) (@h_1) (@jpP) (@jpO) (@jpR) (a8 (@jpQ) (@jpB) (@jpA) (@joY) (@joX) (@joW) (@joH) (a8 (@joF) (@jk2) (@joG) (@jk3) (@jgA) (@gx) (@gw) (aI (@Gb) (@jqa)))))))))
theorem rzL:type_of% (a8 (@vM) (@gS) (@je) (@jg) (@jk) (@jo) (@jj) (a8 (@uK) (@yd) (@uI) (@wH) (@Xa) (@QT) (@YZ) (a8 (@YY) (@wE) (@YX) (@YR) (@YW) (@wF) (@YQ) (a4 (@Ym) (@Y8) (@ZV) (a4 (@ZU) (@Gb) (@gw) (@gx)))))):=a8 (@vM) (@gS) (@je) (@jg) (@jk) (@jo) (@jj) (a8 (@uK) (@yd) (@uI) (@wH) (@Xa) (@QT) (@YZ) (a8 (@YY) (@wE) (@YX) (@YR) (@YW) (@wF) (@YQ) (a4 (@Ym) (@Y8) (@ZV) (a4 (@ZU) (@Gb) (@gw) (@gx)))))
theorem rzN:type_of% (a8 (@je) (@jg) (@jk) (@jo) (@jj) (@yd) (@vM) (a4 (@Zo) (@KI) (@KJ) (aI (@jab) (aI (@YA) (@jht))))):=a8 (@je) (@jg) (@jk) (@jo) (@jj) (@yd) (@vM) (a4 (@Zo) (@KI) (@KJ) (aI (@jab) (aI (@YA) (@jht))))
theorem rzG:type_of% (a8 (@vM) (@gS) (@YZ) (@YY) (@wE) (@YX) (@YR) (a8 (@YW) (@wF) (@Gb) (@gw) (@gx) (@K8) (@vw) (a8 (@Uv) (@K6) (@K7) (@ZF) (@jag) (@je) (@jg) (a8 (@jk) (@jo) (@uI) (@jj) (@uK) (@yd) (@wH) (a8 (@Xa) (@QT) (@Ye) (@vZ) (@vV) (@wo) (@Zr) (a8 (@wn) (@vX) (@vY) (@jbt) (@jbp) (@GU) (@Ks) (a8 (@GT) (@jbq) (@jbs) (@jbr) (@GA) (@Gx) (@k8) (a8 (@UD) (@k7) (@Gy) (@Gz) (@GB) (@kX) (@VW) (a4 (@Y8) (@ZV) (@Ym) (@ZU)))))))))):=a8 (@vM) (@gS) (@YZ) (@YY) (@wE) (@YX) (@YR) (a8 (@YW) (@wF) (@Gb) (@gw) (@gx) (@K8) (@vw) (a8 (@Uv) (@K6) (@K7) (@ZF) (@jag) (@je) (@jg) (a8 (@jk) (@jo) (@uI) (@jj) (@uK) (@yd) (@wH) (a8 (@Xa) (@QT) (@Ye) (@vZ) (@vV) (@wo) (@Zr) (a8 (@wn) (@vX) (@vY) (@jbt) (@jbp) (@GU) (@Ks) (a8 (@GT) (@jbq) (@jbs) (@jbr) (@GA) (@Gx) (@k8) (a8 (@UD) (@k7) (@Gy) (@Gz) (@GB) (@kX) (@VW) (a4 (@Y8) (@ZV) (@Ym) (@ZU)))))))))
theorem rzP:type_of% (a8 (@Qag) (@Qbf) (@QaB) (@QaP) (@Nat.one_mul) (@Int.toNat_natCast) (@Int.toNat_zero) (a8 (@Int.toNat_one) (@true_and) (@and_true) (@and_self) (@Bool.not_true) (@Bool.not_false) (@QaI) (a4 (@QaK) (@decide_eq_true_eq) (@decide_eq_false_iff_not) (aI (@Nat.beq_eq) (@not_false_eq_true))))):=a8 (@Qag) (@Qbf) (@QaB) (@QaP) (@Nat.one_mul) (@Int.toNat_natCast) (@Int.toNat_zero) (a8 (@Int.toNat_one) (@true_and) (@and_true) (@and_self) (@Bool.not_true) (@Bool.not_false) (@QaI) (a4 (@QaK) (@decide_eq_true_eq) (@decide_eq_false_iff_not) (aI (@Nat.beq_eq) (@not_false_eq_true))))
theorem rzQ:type_of% (a8 (@eq_self.{1}) (@θ.{0}) (@κ.{0}) (@ν.{0}) (@φ.{0}) (@Qad.{0}) (@Qaj.{0}) (a4 (@QaO.{0}) (@cond_true.{1}) (@cond_false.{1}) (@ne_eq.{1}))):=a8 (@eq_self.{1}) (@θ.{0}) (@κ.{0}) (@ν.{0}) (@φ.{0}) (@Qad.{0}) (@Qaj.{0}) (a4 (@QaO.{0}) (@cond_true.{1}) (@cond_false.{1}) (@ne_eq.{1}))
theorem rzZ:type_of% (a4 (@rzA) (@rzB) (@rzC) (aI (@rzD) (aI (@rzP) (@rzQ)))):=a4 (@rzA) (@rzB) (@rzC) (aI (@rzD) (aI (@rzP) (@rzQ)))
instance iA (n:Nat):OfNat A n:=⟨.t n⟩
theorem nA (n:Nat):(@OfNat.ofNat A n (iA n))=A.t (@OfNat.ofNat Nat n _):=rfl
def oe(a:Nat)(b:Bool)(c:Option (Nat×Bool))(d:XK):XS:=⟨some a,b,c,d⟩
def oi(a:Nat)(b:Bool)(c:Option (Nat×Bool))(d:Ins):XS:=oe a b c (.i d)
def oj(a:Nat)(b:Bool)(c:Ins):XS:=oi a b none c
def ol(a:Nat)(b:Ins):XS:=oj a false b
def ou(a:List XS)(b:XC):XC:=.seq (.ops a) b
def ov(a:Int):AV:=.int .i64 a
def ow(a:Nat)(b:Ins):XS:=oj a true b
def oy(a:Nat)(b:A):XS:=ol a (.mv b)
def oz(a:Nat)(b:A):XS:=ow a (.mv b)
def oB:AV:=ov 0
def oD(a:Nat)(b:Nat)(c:A):XS:=ol a (.fad b c)
def oE(a:Nat)(b:Bool)(c:Option (Nat×Bool))(d:A)(e:List A):XS:=oe a b c (.call d e)
def oF(a:Nat)(b:A):XS:=ol a (.ld1 b)
def oG(a:BinOp)(b:A)(c:AV):Ins:=.bin a b (.c c)
def oH:AV:=.str []
def oI(a:Nat)(b:Bool)(c:Nat×Bool)(d:Ins):XS:=oi a b (some c) d
def oJ(a:XS)(b:Nat)(c:List (Nat×Nat)):XD:=⟨a,none,b,c⟩
def oK(a:Nat)(b:AV):XS:=oz a (.c b)
def oL(a:List XS)(b:A)(c:XC)(d:XC):XC:=ou a (.cond b c d)
def oM(a:Nat)(b:Nat×Bool)(c:Ins):XS:=oI a false b c
def oQ(a:Nat)(b:List AV):A:=.c (.fn a b)
def oR(a:Nat)(b:Option (Nat×Bool))(c:A)(d:List A):XS:=oE a false b c d
def oS(a:Option Nat)(b:Option (Nat×Bool))(c:XK):XS:=⟨a,false,b,c⟩
def oU(a:XS)(b:Option A)(c:Nat)(d:List (Nat×Nat)):XD:=⟨a,some b,c,d⟩
def oV:AV:=.bool false
def oW(a:Nat)(b:Option (Nat×Bool))(c:Nat)(d:List AV)(e:List A):XS:=oR a b (oQ c d) e
def oX(a:List XS)(b:XC)(c:XC):XC:=ou a (.seq b c)
def oY(a:List Nat):A:=.c (.str a)
def oZ(a:Nat)(b:A)(c:A):XK:=.i (.st a b c)
def o0(a:Nat)(b:Nat)(c:List AV)(d:List A):XS:=oW a none b c d
def o3(a:List XS):XC:=ou a .ret
def o4(a:Option (Nat×Bool))(b:XK):XS:=oS none a b
def o5(a:XK):XS:=o4 none a
def o6(a:Nat)(b:Nat)(c:A):XS:=ol a (.ldA b c)
def o7(a:Nat)(b:A)(c:A):XS:=o5 (oZ a b c)
def o8(a:BinOp)(b:A)(c:Int):Ins:=oG a b (ov c)
def o9(a:Nat)(b:List AV):XS:=ow a (.alloc b)
def Ia(a:Nat)(b:A)(c:Nat):XS:=ol a (.ext b c)
def Ib(a:XS)(b:Nat):XD:=oJ a b []
def Ic(a:List XS)(b:A)(c:XC):XC:=oL a b c .skip
def Id(a:Nat)(b:XC):XC:=.block a (.loop b)
def Ie(a:Nat)(b:Nat)(c:List A):XS:=o0 a b [] c
def If(a:XS)(b:A)(c:Nat)(d:List (Nat×Nat)):XD:=oU a (some b) c d
def Ig(a:Nat)(b:Nat)(c:A)(d:A):XS:=ol a (.idxS b c d)
def Ih(a:XD):XD×(Option (List XD)):=(a,none)
def Ii(a:XS)(b:Nat):XD×(Option (List XD)):=Ih (Ib a b)
def Ij(a:Nat)(b:BinOp)(c:A)(d:Int):XS:=ol a (o8 b c d)
def Ik:AV:=.bool true
def Il(a:Nat)(b:XC)(c:XC):XC:=.seq (.block a b) c
def Im(a:Nat)(b:Nat)(c:Nat)(d:List AV)(e:List ((Nat×Nat)×A)):XS:=ol a (.buildS b c d e)
def Io(a:Nat)(b:Nat)(c:Bool)(d:Ins):XS:=oM a (b,c) d
def Ip(a:Nat)(b:Nat)(c:Ins):XS:=Io a b false c
def Iq(a:Nat)(b:Nat)(c:Ins):XS:=Io a b true c
def Ir(a:A)(b:XC)(c:Nat):XC:=.cond a b (.exit c)
def Is(a:XS):XS×(Option (List XD)):=(a,none)
def Iu(a:Nat)(b:A):XS:=ol a (.nilc b)
def Iv(a:Nat)(b:BinOp)(c:A)(d:A):XS:=ol a (.strb b c d)
def Iw(a:XS)(b:Nat)(c:List (Nat×Nat)):XD:=oU a none b c
def Ix(a:Nat):XS:=oy a 0
def Iy(a:Nat)(b:A)(c:A)(d:A):XS:=ol a (.pick b c d)
def Iz:AV:=.tup []
def IA(a:Nat)(b:List AV)(c:List ((Nat×Nat)×A)):XS:=ol a (.build b c)
def IB(a:Int):AV:=.int .u32 a
def ID(a:List XS)(b:A)(c:List XS):XC:=Ic a b (o3 c)
def IE(a:XS)(b:A)(c:Nat)(d:List (Nat×Nat)):XD×(Option (List XD)):=Ih (If a b c d)
def IG(a:Nat)(b:BinOp)(c:A)(d:A):XS:=ow a (.bin b c d)
def IH(a:XS):XD×(Option (List XD)):=Ii a 0
def II(a:Nat)(b:XC)(c:List XS):XC:=Il a b (.ops c)
def IJ(a:Nat):XS:=oK a oB
def IK(a:Nat)(b:Nat)(c:A):XD×(Option (List XD)):=IH (oD a b c)
def IM(a:Int):A:=.c (ov a)
def IP(a:Nat)(b:A)(c:Int):XS:=Ij a .add b c
def IQ(a:Nat)(b:A):XS:=ow a (.len b)
def IR(a:Nat)(b:A):XS:=ol a (.len b)
def IS(a:Nat)(b:A):XS:=ow a (.box b)
def IT(a:A)(b:Nat):XC:=Ir a .skip b
def IU(a:Nat)(b:BinOp)(c:A)(d:A):XS:=ol a (.bin b c d)
def IV(a:List XS)(b:Nat)(c:XC):XC:=ou a (Id b c)
def IW:A:=.c Iz
def IX(a:List XS)(b:XC)(c:List XS):XC:=oX a b (o3 c)
def IY(a:XS)(b:Nat)(c:A):List XS:=[a,oz b c]
def IZ(a:XS)(b:Nat)(c:List (Nat×Nat)):XD×(Option (List XD)):=Ih (Iw a b c)
def I0(a:A):Ins:=.un .not a
def I1(a:Nat)(b:A)(c:Nat):XD:=Ib (oy a b) c
def I3(a:Nat)(b:A)(c:A):XS:=IG a .lss b c
def I4(a:Nat)(b:A)(c:A)(d:Nat)(e:List (Nat×Nat)):XD×(Option (List XD)):=IE (oF a b) c d e
def I5(a:Nat)(b:Nat)(c:A):XS:=Iq a b (.mv c)
def I6:Option (List XD):=some []
def I7:A:=.c Ik
def I8(a:Nat)(b:A)(c:Int)(d:Nat)(e:A):List XS:=IY (IP a b c) d e
def I9(a:Nat)(b:XC)(c:Nat)(d:A)(e:Int)(f:Nat)(g:A):XC:=II a b (I8 c d e f g)
def Oa(a:List XS)(b:A)(c:Nat)(d:XC):XC:=oX a (IT b c) d
def Ob(a:List XS)(b:A)(c:Nat)(d:Nat)(e:XC)(f:Nat)(g:A)(h:Int)(i:Nat)(j:A):XC:=Oa a b c (I9 d e f g h i j)
def Oe(a:Nat×Nat)(b:List Nat):(Nat×Nat)×A:=(a,oY b)
def Of(a:Nat)(b:Nat)(c:List Nat):(Nat×Nat)×A:=Oe (a,b) c
def Og(a:Nat)(b:List Nat):(Nat×Nat)×A:=Of a 1 b
def Oh(a:List XS)(b:Nat)(c:List XS)(d:A)(e:Nat)(f:Nat)(g:XC)(h:Nat)(i:A)(j:Int)(k:Nat)(l:A):XC:=IV a b (Ob c d e f g h i j k l)
def Oi(a:Nat)(b:A)(c:A)(d:Nat)(e:List (Nat×Nat)):XD×(Option (List XD)):=IZ (o7 a b c) d e
def Oj:A:=.c oV
def Ok(a:Nat)(b:Nat)(c:A):XS:=Ip a b (.mv c)
def Ol(a:Nat)(b:Int):XS:=oK a (ov b)
def Om(a:Nat)(b:A):XS×(Option (List XD)):=Is (oy a b)
def On(a:Nat)(b:A)(c:A)(d:A):XS:=ow a (.pick b c d)
def Oo(a:XS)(b:Nat)(c:A)(d:A)(e:XC)(f:XC):XC:=oL (IY a b c) d e f
def Oq(a:List XS)(b:List XS):XC:=ou a (o3 b)
def Or(a:List XS)(b:A)(c:List XS):XC:=Ic a b (.ops c)
def Os(a:Nat):XS:=oK a oV
def Ot(a:Nat)(b:A):XS:=ow a (.ld1 b)
def Ou(a:Nat)(b:Nat)(c:A):XS:=Ie a b [c]
def Ov:A:=.c oB
def Ow(a:Nat)(b:Nat)(c:Nat)(d:A)(e:A):XS:=ol a (.idxA b c d e)
def Ox:AV:=IB 0
def Oy(a:List XS)(b:Nat)(c:List XS)(d:A)(e:Nat)(f:Nat)(g:List XS)(h:XC)(i:Nat)(j:A)(k:Int)(l:Nat)(m:A):XC:=Oh a b c d e f (ou g h) i j k l m
def Oz(a:List XS)(b:List XS)(c:A)(d:List XS)(e:XC):XC:=oX a (ID b c d) e
def OA(a:Nat)(b:A)(c:Int):XS:=Ij a .eql b c
def OB(a:List (XD×(Option (List XD))))(b:XC):XC:=.seq (.dops a) b
def OC(a:Nat)(b:BinOp)(c:A)(d:AV):XS:=ow a (oG b c d)
def OE(a:Nat)(b:Nat)(c:A)(d:A):XS:=Ie a b [c,d]
def OG(a:Nat)(b:BinOp)(c:A)(d:AV):XS:=ol a (oG b c d)
def OH(a:Nat):XS:=oK a .nils
def OI(a:Nat)(b:Nat)(c:A):XS:=Ip a b (.ld1 c)
def OJ(a:Nat)(b:A)(c:A):XS:=Iv a .add b c
def OK(a:Nat)(b:Nat):(Nat×Nat)×A:=Og a [b]
def OL(a:Nat)(b:Nat)(c:Nat)(d:A):XS:=Ip a b (.fad c d)
def OM(a:Nat)(b:A):XS×(Option (List XD)):=Is (oF a b)
def ON(a:Nat)(b:A):XS:=oD a 0 b
def OO(a:Nat)(b:Nat):XD:=I1 a IW b
def OP(a:Nat):XS:=oy a 1
def OQ(a:XS)(b:Nat)(c:A)(d:A)(e:XC):XC:=Oo a b c d .skip e
def OS(a:Nat)(b:Nat×Bool)(c:Nat)(d:List AV)(e:List A):XS:=oW a (some b) c d e
def OT:A:=IM 1
def OU(a:Nat)(b:A)(c:Nat)(d:A):List XS:=IY (oy a b) c d
def OV(a:Nat)(b:Nat)(c:A)(d:A)(e:Nat)(f:List (Nat×Nat)):XD×(Option (List XD)):=IE (o6 a b c) d e f
def OW(a:Nat)(b:Nat)(c:Nat)(d:A)(e:A):XS:=ol a (.app b c d e)
def OY(a:AV)(b:AV)(c:AV)(d:AV)(e:AV):List AV:=[a,b,c,.nils,d,e]
def OZ(a:Nat)(b:AV)(c:AV)(d:AV)(e:AV)(f:AV):XS:=o9 a (OY b c d e f)
def O0(a:Nat)(b:A):XS:=Ia a b 0
def O1(a:Nat)(b:A):XS:=Ia a b 1
def O2(a:Nat)(b:Nat)(c:A):XS:=Iq a b (.ld1 c)
def O3(a:Nat)(b:A)(c:A):XS:=Iv a .eql b c
def O4(a:A):XS:=oz 2 a
def O5(a:Nat)(b:A)(c:A)(d:Nat):XD×(Option (List XD)):=I4 a b c d []
def O6(a:Nat)(b:BinOp)(c:A)(d:Int):XS:=ow a (o8 b c d)
def O7(a:List XS)(b:List XS)(c:XC):XC:=ou a (ou b c)
def O8(a:Nat)(b:Nat)(c:A)(d:Nat)(e:List (Nat×Nat)):XD:=Iw (Ou a b c) d e
def O9(a:Nat):XS×(Option (List XD)):=Is (Ix a)
def Ta(a:Nat)(b:A):XS:=oD a 1 b
def Tb(a:Nat)(b:BinOp)(c:A):XS:=OC a b c oB
def Tc(a:Nat):XS:=oy a 4
def Td(a:Nat)(b:Nat)(c:BinOp)(d:A)(e:Int):XS:=Ip a b (o8 c d e)
def Te(a:Nat)(b:Nat)(c:Nat)(d:A):XS:=Iq a b (.fad c d)
def Tf(a:Nat)(b:A):XS:=oD a 3 b
def Tg(a:Nat)(b:A):XS:=Tb a .neq b
def Th(a:Int):AV:=.int .u8 a
def Ti(a:Nat)(b:A):XS:=o6 a 6 b
def Tj(a:Nat):XD:=OO a 0
def Tl(a:A)(b:List XS)(c:XC):XC:=.cond a (o3 b) c
def Tm(a:List XS)(b:List XS)(c:Nat)(d:List XS)(e:A)(f:Nat)(g:Nat)(h:List XS)(i:XC)(j:Nat)(k:A)(l:Int)(m:Nat)(n:A)(p:List XS):XC:=IX a (Oy b c d e f g h i j k l m n) p
def Tn(a:Nat)(b:A):XS:=ow a (I0 b)
def To(a:Nat)(b:A)(c:List Nat):XS:=O3 a b (oY c)
def Tp(a:Nat)(b:A)(c:A):List XS:=[I3 a b c]
def Tq(a:List XS)(b:List XS)(c:Nat)(d:Nat)(e:A)(f:A)(g:A)(h:Nat)(i:Nat)(j:List XS)(k:XC)(l:Nat)(m:A)(n:Int)(p:Nat)(q:A)(r:List XS):XC:=Tm a b c (Tp d e f) g h i j k l m n p q r
def Tr(a:List XS)(b:Nat)(c:Nat)(d:A)(e:A)(f:A)(g:Nat)(h:Nat)(i:List XS)(j:XC)(k:Nat)(l:A)(m:Int)(n:Nat)(p:A):XC:=Oy a b (Tp c d e) f g h i j k l m n p
def Ts(a:Nat)(b:A)(c:A):XS:=Iy a b c Oj
def Tt(a:Nat)(b:A)(c:Int)(d:Nat)(e:A)(f:A)(g:XC)(h:XC):XC:=Oo (OA a b c) d e f g h
def Tu(a:Nat)(b:A):XD×(Option (List XD)):=IH (oy a b)
def Tv:XS:=Os 2
def Tw(a:A):XS:=oz 4 a
def Tx(a:Nat)(b:AV)(c:AV)(d:AV)(e:AV):XS:=OZ a oB b c d e
def Ty(a:Nat)(b:AV)(c:AV)(d:AV):XS:=Tx a oB b c d
def Tz(a:Nat)(b:AV)(c:AV):XS:=Ty a oH b c
def TA(a:Nat)(b:AV):XS:=Tz a oB b
def TB(a:Nat):XS:=TA a oB
def TC(a:Nat)(b:A)(c:A)(d:List (Nat×Nat)):XD×(Option (List XD)):=Oi a b c 0 d
def TF(a:Nat):XD×(Option (List XD)):=IH (Ix a)
def TG(a:XC)(b:List XS):XC:=.seq a (o3 b)
def TH(a:Nat)(b:Nat)(c:List AV)(d:List ((Nat×Nat)×A)):XS:=Im a b 1 c d
def TI(a:Nat)(b:Nat)(c:AV)(d:List ((Nat×Nat)×A)):XS:=TH a b [c] d
def TJ(a:Nat)(b:A)(c:A):XS:=Ig a 1 b c
def TK(a:A)(b:A):XS:=o7 1 a b
def TM(a:Nat)(b:A)(c:Int)(d:Nat)(e:A)(f:A)(g:List XS)(h:XC):XC:=Tt a b c d e f (o3 g) h
theorem qq:type_of% (a8 @nA @oe.eq_1 @oi.eq_1 @oj.eq_1 @ol.eq_1 @ou.eq_1 @ov.eq_1 (a8 @ow.eq_1 @oy.eq_1 @oz.eq_1 @oB.eq_1 @oD.eq_1 @oE.eq_1 @oF.eq_1 (a8 @oG.eq_1 @oH.eq_1 @oI.eq_1 @oJ.eq_1 @oK.eq_1 @oL.eq_1 @oM.eq_1 (a8 @oQ.eq_1 @oR.eq_1 @oS.eq_1 @oU.eq_1 @oV.eq_1 @oW.eq_1 @oX.eq_1 (a8 @oY.eq_1 @oZ.eq_1 @o0.eq_1 @o3.eq_1 @o4.eq_1 @o5.eq_1 @o6.eq_1 (a8 @o7.eq_1 @o8.eq_1 @o9.eq_1 @Ia.eq_1 @Ib.eq_1 @Ic.eq_1 @Id.eq_1 (a8 @Ie.eq_1 @If.eq_1 @Ig.eq_1 @Ih.eq_1 @Ii.eq_1 @Ij.eq_1 @Ik.eq_1 (a8 @Il.eq_1 @Im.eq_1 @Io.eq_1 @Ip.eq_1 @Iq.eq_1 @Ir.eq_1 @Is.eq_1 (a8 @Iu.eq_1 @Iv.eq_1 @Iw.eq_1 @Ix.eq_1 @Iy.eq_1 @Iz.eq_1 @IA.eq_1 (a8 @IB.eq_1 @ID.eq_1 @IE.eq_1 @IG.eq_1 @IH.eq_1 @II.eq_1 @IJ.eq_1 (a8 @IK.eq_1 @IM.eq_1 @IP.eq_1 @IQ.eq_1 @IR.eq_1 @IS.eq_1 @IT.eq_1 (a8 @IU.eq_1 @IV.eq_1 @IW.eq_1 @IX.eq_1 @IY.eq_1 @IZ.eq_1 @I0.eq_1 (a8 @I1.eq_1 @I3.eq_1 @I4.eq_1 @I5.eq_1 @I6.eq_1 @I7.eq_1 @I8.eq_1 (a8 @I9.eq_1 @Oa.eq_1 @Ob.eq_1 @Oe.eq_1 @Of.eq_1 @Og.eq_1 @Oh.eq_1 (a8 @Oi.eq_1 @Oj.eq_1 @Ok.eq_1 @Ol.eq_1 @Om.eq_1 @On.eq_1 @Oo.eq_1 (a8 @Oq.eq_1 @Or.eq_1 @Os.eq_1 @Ot.eq_1 @Ou.eq_1 @Ov.eq_1 @Ow.eq_1 (a8 @Ox.eq_1 @Oy.eq_1 @Oz.eq_1 @OA.eq_1 @OB.eq_1 @OC.eq_1 @OE.eq_1 (a8 @OG.eq_1 @OH.eq_1 @OI.eq_1 @OJ.eq_1 @OK.eq_1 @OL.eq_1 @OM.eq_1 (a8 @ON.eq_1 @OO.eq_1 @OP.eq_1 @OQ.eq_1 @OS.eq_1 @OT.eq_1 @OU.eq_1 (a8 @OV.eq_1 @OW.eq_1 @OY.eq_1 @OZ.eq_1 @O0.eq_1 @O1.eq_1 @O2.eq_1 (a8 @O3.eq_1 @O4.eq_1 @O5.eq_1 @O6.eq_1 @O7.eq_1 @O8.eq_1 @O9.eq_1 (a8 @Ta.eq_1 @Tb.eq_1 @Tc.eq_1 @Td.eq_1 @Te.eq_1 @Tf.eq_1 @Tg.eq_1 (a8 @Th.eq_1 @Ti.eq_1 @Tj.eq_1 @Tl.eq_1 @Tm.eq_1 @Tn.eq_1 @To.eq_1 (a8 @Tp.eq_1 @Tq.eq_1 @Tr.eq_1 @Ts.eq_1 @Tt.eq_1 @Tu.eq_1 @Tv.eq_1 (a8 @Tw.eq_1 @Tx.eq_1 @Ty.eq_1 @Tz.eq_1 @TA.eq_1 @TB.eq_1 @TC.eq_1 (a4 @TF.eq_1 @TG.eq_1 @TH.eq_1 (a4 @TI.eq_1 @TJ.eq_1 @TK.eq_1 @TM.eq_1))))))))))))))))))))))))))):=a8 @nA @oe.eq_1 @oi.eq_1 @oj.eq_1 @ol.eq_1 @ou.eq_1 @ov.eq_1 (a8 @ow.eq_1 @oy.eq_1 @oz.eq_1 @oB.eq_1 @oD.eq_1 @oE.eq_1 @oF.eq_1 (a8 @oG.eq_1 @oH.eq_1 @oI.eq_1 @oJ.eq_1 @oK.eq_1 @oL.eq_1 @oM.eq_1 (a8 @oQ.eq_1 @oR.eq_1 @oS.eq_1 @oU.eq_1 @oV.eq_1 @oW.eq_1 @oX.eq_1 (a8 @oY.eq_1 @oZ.eq_1 @o0.eq_1 @o3.eq_1 @o4.eq_1 @o5.eq_1 @o6.eq_1 (a8 @o7.eq_1 @o8.eq_1 @o9.eq_1 @Ia.eq_1 @Ib.eq_1 @Ic.eq_1 @Id.eq_1 (a8 @Ie.eq_1 @If.eq_1 @Ig.eq_1 @Ih.eq_1 @Ii.eq_1 @Ij.eq_1 @Ik.eq_1 (a8 @Il.eq_1 @Im.eq_1 @Io.eq_1 @Ip.eq_1 @Iq.eq_1 @Ir.eq_1 @Is.eq_1 (a8 @Iu.eq_1 @Iv.eq_1 @Iw.eq_1 @Ix.eq_1 @Iy.eq_1 @Iz.eq_1 @IA.eq_1 (a8 @IB.eq_1 @ID.eq_1 @IE.eq_1 @IG.eq_1 @IH.eq_1 @II.eq_1 @IJ.eq_1 (a8 @IK.eq_1 @IM.eq_1 @IP.eq_1 @IQ.eq_1 @IR.eq_1 @IS.eq_1 @IT.eq_1 (a8 @IU.eq_1 @IV.eq_1 @IW.eq_1 @IX.eq_1 @IY.eq_1 @IZ.eq_1 @I0.eq_1 (a8 @I1.eq_1 @I3.eq_1 @I4.eq_1 @I5.eq_1 @I6.eq_1 @I7.eq_1 @I8.eq_1 (a8 @I9.eq_1 @Oa.eq_1 @Ob.eq_1 @Oe.eq_1 @Of.eq_1 @Og.eq_1 @Oh.eq_1 (a8 @Oi.eq_1 @Oj.eq_1 @Ok.eq_1 @Ol.eq_1 @Om.eq_1 @On.eq_1 @Oo.eq_1 (a8 @Oq.eq_1 @Or.eq_1 @Os.eq_1 @Ot.eq_1 @Ou.eq_1 @Ov.eq_1 @Ow.eq_1 (a8 @Ox.eq_1 @Oy.eq_1 @Oz.eq_1 @OA.eq_1 @OB.eq_1 @OC.eq_1 @OE.eq_1 (a8 @OG.eq_1 @OH.eq_1 @OI.eq_1 @OJ.eq_1 @OK.eq_1 @OL.eq_1 @OM.eq_1 (a8 @ON.eq_1 @OO.eq_1 @OP.eq_1 @OQ.eq_1 @OS.eq_1 @OT.eq_1 @OU.eq_1 (a8 @OV.eq_1 @OW.eq_1 @OY.eq_1 @OZ.eq_1 @O0.eq_1 @O1.eq_1 @O2.eq_1 (a8 @O3.eq_1 @O4.eq_1 @O5.eq_1 @O6.eq_1 @O7.eq_1 @O8.eq_1 @O9.eq_1 (a8 @Ta.eq_1 @Tb.eq_1 @Tc.eq_1 @Td.eq_1 @Te.eq_1 @Tf.eq_1 @Tg.eq_1 (a8 @Th.eq_1 @Ti.eq_1 @Tj.eq_1 @Tl.eq_1 @Tm.eq_1 @Tn.eq_1 @To.eq_1 (a8 @Tp.eq_1 @Tq.eq_1 @Tr.eq_1 @Ts.eq_1 @Tt.eq_1 @Tu.eq_1 @Tv.eq_1 (a8 @Tw.eq_1 @Tx.eq_1 @Ty.eq_1 @Tz.eq_1 @TA.eq_1 @TB.eq_1 @TC.eq_1 (a4 @TF.eq_1 @TG.eq_1 @TH.eq_1 (a4 @TI.eq_1 @TJ.eq_1 @TK.eq_1 @TM.eq_1))))))))))))))))))))))))))
theorem dzA {p:Prop}(h:p:=by first|assumption|decide|omega|(simp only[rzN,ν,φ];first|done|omega)|(apply JQ<;>first|omega|((simp(disch:=first|assumption|omega|(simp only[rzN,ν,φ];first|done|omega)) only[rzL,ν,φ,Qag,δ ])<;>first|done|omega))|(simp(disch:=first|assumption|omega|(simp only[rzN,ν,φ];first|done|omega)) only[rzG,θ,κ,ε,QaG,ν,φ,Qad,Qaj];first|done|omega|decide)):p:=h
theorem vo {p:Prop}(h:p:=by first|assumption|decide|omega|(simp only[zz,rzN,ν,φ];first|done|omega)|(apply JQ<;>first|omega|((simp(disch:=first|assumption|omega|(simp only[zz,rzN,ν,φ];first|done|omega)) only[rzL,ν,φ,Qag,δ,zz ])<;>first|done|omega))|(simp(disch:=first|assumption|omega|(simp only[zz,rzN,ν,φ];first|done|omega)) only[zz,rzG,θ,κ,ε,QaG,ν,φ,Qad,Qaj];first|done|omega|decide)):p:=h
end Go.Sy
end
noncomputable section
namespace Go.Sy
open Go.Ev Go.Proofs
def jaZ (f:FuncId):Nat:=if f∈[65,24,26,25,67,102,37,36,68,66,88,54,29,98,140,141,101,69,70,71,72,56,57,123,103,105,104,83,137,138,100,130,127,131,132,30,55,27,151,152,153,154,167,156,157,158,159,161,162,142,114,172,173,175,176,177,58,180,185,188,189,190,194,200,201,147,148,129,135,169,9,10,17,12,39,41,43,53,47,145] then 1
 else if f∈[90,96,97,122,124,125,126,136,163,164,165,166,171,186,187,120,121,155] then 3 else if f∈[33,133,174,168,128,170,134,193,13,14,15,38,44,61,112,78,75,76,80,45,113,48,46,79,73,106,143,107,108,144,109,111,146] then 5 else if f∈[139,99,16] then 2 else 0
def Va (f:FuncId):Bool:=!(Qci f 8) && !(Qci f 160)
structure NB (base:Bs):Prop where
 nob:∀ f,Va f=true->∀ args st,base.run f args st=.no
 purE:base.pur=jaZ
theorem NB.pur {base:Bs}(h:NB base)(f m:Nat)(e:jaZ f=m):base.pur f=m:=by rw[h.purE];exact e
theorem NB.no {base:Bs}(h:NB base)(f:FuncId)(e:Va f=true)(args:List AV)(st:St):base.run f args st=.no:=h.nob f e args st
theorem NB.at0 {base:Bs}(h:NB base)(f:FuncId)(e:Va f=true)(e2:jaZ f=0)(args:List AV)(st:St):base.at0 f args st:=⟨h.nob f e args st,h.pur f 0 e2⟩
abbrev Ret (base:Bs)(f:FuncId)(xs:List AV)(o:Oc):Prop:=∀ st K Kp,XB γ base f xs st K Kp=XT o K Kp st
abbrev Tot (base:Bs)(f:FuncId)(xs:List AV)(v:AV):Prop:=∀ st K Kp,XB γ base f xs st K Kp=K v st
theorem NB.tot {base:Bs}(hb:NB base){f:FuncId}{xs:List AV}{v:AV}(h:PX γ base f xs (.ok v))(hp:xs.all pa=true)(e:Va f=true):Tot base f xs v:=λst K Kp=>h.xb hp (hb.no f e _) st K Kp
theorem NB.ret {base:Bs}(hb:NB base){f:FuncId}{xs:List AV}{o:Oc}(h:PX γ base f xs o)(hp:xs.all pa=true)(e:Va f=true):Ret base f xs o:=λst K Kp=>h.xb hp (hb.no f e _) st K Kp
inductive Ex where
 |mk (op num:Int) (name:List Nat) (kids:List Ex) (line col:Int)
def Ex.op:Ex->Int | .mk o _ _ _ _ _=>o
def Ex.num:Ex->Int | .mk _ n _ _ _ _=>n
def Ex.name:Ex->List Nat | .mk _ _ n _ _ _=>n
def Ex.kids:Ex->List Ex | .mk _ _ _ k _ _=>k
def Ex.line:Ex->Int | .mk _ _ _ _ l _=>l
def Ex.col:Ex->Int | .mk _ _ _ _ _ c=>c
theorem Ex.ind {p:Ex->Prop}(h:∀ op num name kids l c,(∀ k∈kids,p k)->p (.mk op num name kids l c)):∀ x,p x
 |.mk op num name kids l c=>h op num name kids l c (inds h kids)
where inds {p:Ex->Prop} (h:∀ op num name kids l c,(∀ k∈kids,p k)->p (.mk op num name kids l c)):∀ (xs:List Ex),∀ k∈xs,p k
 |[],k,hk=>by cases hk
 |x :: xs,k,hk=>by
  rcases QaU.1 hk with e|e
  ·exact e▸Ex.ind h x
  ·exact inds h xs k e
theorem Ex.indk {p:Ex->Prop}(h:∀ x:Ex,(∀ k∈x.kids,p k)->p x):∀ x,p x:=Ex.ind λop num name ks l c ih=>h (.mk op num name ks l c) ih
mutual
def eE:Ex->List AV
 |.mk op num name kids l c=>[.int .i64 op,.int .i64 num,.str name,.lst kids.length (eEs kids),.int .i64 l,.int .i64 c]
def eEs:List Ex->List AV
 |[]=>[]
 |x :: xs=>eE x ++ eEs xs
end
theorem jhK:∀ xs,eEs xs=fl eE xs
 |[]=>rfl
 |x :: xs=>by rw[JY,<-jhK xs];rfl
theorem qt (x:Ex):eE x=[.int .i64 x.op,.int .i64 x.num,.str x.name,.lst x.kids.length (fl eE x.kids),.int .i64 x.line,.int .i64 x.col]:=by
 cases x;simp only[eE,jhK];rfl
theorem Jd (x:Ex):(eE x).length=6:=by rw[qt];rfl
theorem jp9 (x:Ex)(k:Nat):(eE x).getD k .bad=([.int .i64 x.op,.int .i64 x.num,.str x.name,.lst x.kids.length (fl eE x.kids),.int .i64 x.line,.int .i64 x.col]:List AV).getD k .bad:=by rw[qt]
theorem q9 (x:Ex):(eE x).all pc=true:=by rw[qt];rfl
theorem jfk (x:Ex):lall AV.cell (eE x)=true:=by rw[qt];rfl
theorem jkq {st:St}{K:AV->St->Prop}{xs:List Ex}{i:Nat}(h:i<xs.length):ji (Qz 6 (.lptr (fl eE xs) (i * 6)) st) K=K (.agg (eE xs[i])) st:=jen Jd h
theorem jd:type_of% (a4 @Jd (λx=>gq (qt x)) (λx=>gd (qt x)) (aI @jfk (frE Jd))):=(a4 @Jd (λx=>gq (qt x)) (λx=>gd (qt x)) (aI @jfk (frE Jd)))
theorem qN:type_of% (aI @Jd (aI @jfk (λx=>gq (qt x)))):=(aI @Jd (aI @jfk (λx=>gq (qt x))))
theorem dzB {p:Prop}(h:p:=by first|assumption|decide|omega|(simp only[qN,rzN,ν,φ];first|done|omega)|(apply JQ<;>first|omega|((simp(disch:=first|assumption|omega|(simp only[qN,rzN,ν,φ];first|done|omega)) only[rzL,ν,φ,Qag,δ,qN ])<;>first|done|omega))|(simp(disch:=first|assumption|omega|(simp only[qN,rzN,ν,φ];first|done|omega)) only[qN,rzG,θ,κ,ε,QaG,ν,φ,Qad,Qaj];first|done|omega|decide)):p:=h
theorem jbO {p:Prop}(h:p:=by first|assumption|decide|omega|(simp only[qN,zz,rzN,ν,φ];first|done|omega)|(apply JQ<;>first|omega|((simp(disch:=first|assumption|omega|(simp only[qN,zz,rzN,ν,φ];first|done|omega)) only[rzL,ν,φ,Qag,δ,qN,zz ])<;>first|done|omega))|(simp(disch:=first|assumption|omega|(simp only[qN,zz,rzN,ν,φ];first|done|omega)) only[qN,zz,rzG,θ,κ,ε,QaG,ν,φ,Qad,Qaj];first|done|omega|decide)):p:=h
set_option maxRecDepth 100000
def z14:XC:=(ou [IS 1 0,IJ 2] (Tq [IJ 3] [Tf 6 1,Ot 7 6,IQ 8 7,IJ 9] 0 10 9 8 10 0 1 [Ig 11 6 7 9,Ti 12 11,TB 5,o7 6 5 12] (.ops [oy 13 3,Ti 14 5,Ou 15 25 14,ol 16 (.bi .max #[3,3] [13,15]),oz 3 16]) 17 9 1 9 17 [oy 18 3,IP 19 18 1,O4 19]))
def y14:XF:=⟨[0],z14,[(.t 2)]⟩
theorem x14:jv γ 25=some y14:=by kernel_rfl
def z47:XC:=(Oz [IS 2 0,Os 4] [ON 7 2,oF 8 7,OP 9,IG 10 .eql 8 9] 10 [oK 4 Ik] (TG (Tr [Tf 11 2,Ot 12 11,IQ 13 12,IJ 14] 0 15 14 13 15 0 1 [Ig 16 6 12 14,Ti 17 16,TB 6,o7 6 6 17] (ID [Ti 18 6,OP 19,oE 20 true none (oQ 29 []) [18,19]] 20 [oK 4 Ik]) 21 14 1 14 21) [Os 4]))
def y47:XF:=⟨[0,1],z47,[(.t 4)]⟩
theorem x47:jv γ 29=some y47:=by kernel_rfl
def ji4:XC:=(Oz [IJ 2] [Ix 3,Ij 4 .geq 3 1,Tc 5,I5 6 5 0,Iq 7 5 (o8 .leq 6 4),On 8 5 7 Oj] 8 [IJ 2] (.seq (ID [Ix 9,Ij 10 .geq 9 5,oy 11 10,I5 12 11 0,Iq 13 11 (o8 .leq 12 13),On 14 11 13 Oj] 14 [Ol 2 1]) (TG (ID [Ix 15,Ij 16 .geq 15 14,oy 17 16,I5 18 17 0,Iq 19 17 (o8 .leq 18 30),On 20 17 19 Oj] 20 [Ol 2 2]) [Ol 2 (-(0+1))])))
def joe:XF:=⟨[0],ji4,[(.t 2)]⟩
theorem jth:jv γ 114=some joe:=by kernel_rfl
def z52:XC:=(IX [oK 2 oH] (ID [Ix 3,Ij 4 .lss 3 5,Tc 5,Ok 6 5 0,Td 7 5 .gtr 6 30,On 8 5 I7 7] 8 [oK 2 oH]) [TI 9 26 oH [OK 0 45,OK 1 33,OK 2 88,OK 3 70,OK 4 71,OK 5 89,OK 6 90,OK 7 79,OK 8 72,OK 9 42,OK 10 43,OK 11 45,OK 12 61,Og 13 [33,61],OK 14 60,Og 15 [60,61],OK 16 62,Og 17 [62,61],OK 18 85,OK 19 82,OK 20 83,OK 21 84,OK 22 38,OK 23 124,Og 24 [45,62],Og 25 [60,45,62]],Ix 10,Ij 11 .sub 10 5,TJ 12 9 11,oF 13 12,O4 13])
def y52:XF:=⟨[0],z52,[(.t 2)]⟩
theorem x52:jv γ 141=some y52:=by kernel_rfl
def z92:XC:=(oX [IS 1 0,Tv] (OB [IK 5 0 1,O5 6 5 5 3,(O8 7 114 6 0 [],some [Tj 7,Ib (Tf 8 1) 0,If (oF 9 8) 8 63 [(1,0)],Ib (IR 10 9) 0,Ib (oK 11 Iz) 0]),IK 8 3 1,I4 9 8 8 63 [(1,0)],IH (IR 10 9),IH (IG 11 .neq 7 10)] (Tl 11 [Tv] .skip)) (.seq (Tr [Tf 12 1,Ot 13 12,IQ 14 13,IJ 15] 0 16 15 14 16 0 1 [Ig 17 6 13 15,Ti 18 17,TB 4,o7 6 4 18] (ID [Ti 19 4,Ou 20 83 19,Tn 21 20] 21 [Tv]) 22 15 1 15 22) (.seq (ID [ON 23 1,oF 24 23,Ij 25 .neq 24 3,oy 26 25,Te 27 26 2 1,O2 28 26 27,Iq 29 26 (.strb .neq 28 (.c oH)),On 30 26 29 Oj] 30 [Tv]) (TG (ou [ON 31 1,Ot 32 31] (.block 2 (TM 34 32 1 33 34 33 [Ta 35 1,oF 36 35,OG 37 .geq 36 oB,oy 38 37,Te 39 38 1 1,O2 40 38 39,Iq 41 38 (o8 .leq 40 1000000),Ts 42 38 41,O4 42] (TM 44 32 2 43 44 43 [Ta 45 1,oF 46 45,OG 47 .eql 46 oB,oy 48 47,OL 49 48 1 1,OI 50 48 49,Td 51 48 .eql 50 1,Iy 52 48 I7 51,O4 52] (TM 54 32 3 53 54 53 [Ta 55 1,oF 56 55,OG 57 .eql 56 oB,oy 58 57,Te 59 58 2 1,O2 60 58 59,OS 61 (58,true) 71 [] [60],Ts 62 58 61,O4 62] (ID (IY (OA 64 32 4) 63 64) 63 [oK 2 Ik])))))) [Ta 65 1,oF 66 65,OG 67 .eql 66 oB,O4 67]))))
def y92:XF:=⟨[0],z92,[(.t 2)]⟩
theorem x92:jv γ 83=some y92:=by kernel_rfl
def z46:XC:=(Oq [IS 1 0,Tv] [Ti 3 1,Ou 4 25 3,Ij 5 .leq 4 60,oy 6 5,Iq 7 6 (.ldA 6 1),OS 8 (6,true) 83 [] [7],Ts 9 6 8,O4 9])
def y46:XF:=⟨[0],z46,[(.t 2)]⟩
theorem x46:jv γ 54=some y46:=by kernel_rfl
def z12:XC:=(Oq [IS 1 0,Tv] [Ti 3 1,Ou 4 54 3,Tc 5,Iq 6 5 (.ldA 6 1),OS 7 (5,true) 29 [] [6,IM 4],Iq 8 5 (I0 7),Ts 9 5 8,O4 9])
def y12:XF:=⟨[0],z12,[(.t 2)]⟩
theorem x12:jv γ 24=some y12:=by kernel_rfl
def z96:XC:=(Oq [Tv] [Ix 3,Ij 4 .geq 3 (-(999999+1)),Tc 5,I5 6 5 0,Iq 7 5 (o8 .leq 6 1000000),Ts 8 5 7,O4 8])
def y96:XF:=⟨[0],z96,[(.t 2)]⟩
theorem x96:jv γ 100=some y96:=by kernel_rfl
variable {base:Bs}
def Zn (op:Int):Int:=if 1<=op/\op<=4 then 0 else if 5<=op/\op<=13 then 1 else if 14<=op/\op<=30 then 2 else -1
theorem r7:type_of%(aI @jd @rzZ):=aI @jd @rzZ
theorem jqN (hb:NB base)(op:Int):Tot base 114 [.int .i64 op] (.int .i64 (Zn op)):=by
 refine hb.tot ?_ rfl rfl;refine jF jth (by rfl) (hb.pur 114 1 dc) ?_;simp only[joe,jh,ζ,η,θ,κ];rw[(by unfold ji4;simp only[qq];rfl:ji4=_)];repeat'(first|apply jb<;>intro _|simp(disch:=first|exact dzB|fail) only[r7,δ,ε])
 all_goals(refine G0.v ?_ rfl;unfold Zn;repeat' split)<;>first|rfl|(exfalso;omega)|(simp_all;done)|(simp;omega)|(simp_all;omega)
theorem jcT (hb:NB base)(n:Int):Tot base 100 [.int .i64 n] (.bool (decide (-1000000<=n) && decide (n<=1000000))):=by
 refine hb.tot ?_ rfl rfl;refine jF x96 (by rfl) (hb.pur 100 1 dc) ?_;simp only[y96,jh,ζ,η,θ,κ];rw[(by unfold z96;simp only[qq];rfl:z96=_)];repeat'(first|apply jb<;>intro _|simp(disch:=first|exact dzB|fail) only[r7,δ,ε])
 all_goals(refine G0.v ?_ rfl;repeat' split)<;>first|rfl|(exfalso;omega)|(simp_all;done)|(simp;omega)|(simp_all;omega)
mutual
def szE:Ex->Nat
 |.mk _ _ nm ks _ _=>zg ks+nm.length+1
def zg:List Ex->Nat
 |[]=>0
 |x :: xs=>szE x+zg xs
end
mutual
def wk:Ex->Nat
 |.mk _ _ _ ks _ _=>yj ks+1
def yj:List Ex->Nat
 |[]=>0
 |x :: xs=>max (wk x) (yj xs)
end
mutual
def kP:Ex->Nat
 |.mk _ _ _ ks _ _=>uA ks+1
def uA:List Ex->Nat
 |[]=>0
 |x :: xs=>kP x+uA xs
end
mutual
def jeU (op:Int):Ex->Bool
 |.mk o _ _ ks _ _=>decide (o=op) ||Xd op ks
def Xd (op:Int):List Ex->Bool
 |[]=>false
 |x :: xs=>jeU op x ||Xd op xs
end
theorem Zu (x:Ex):szE x=zg x.kids+x.name.length+1:=by cases x;rfl
theorem U7 (x:Ex):wk x=yj x.kids+1:=by cases x;rfl
theorem jmR (op:Int)(x:Ex):jeU op x=(decide (x.op=op) ||Xd op x.kids):=by cases x;rfl
theorem wA:∀ {xs:List Ex} {k:Nat} (h:k<xs.length),szE xs[k]<=zg xs
 |x :: xs,0,h=>by simp[zg]
 |x :: xs,k+1,h=>by
  have:=wA (xs:=xs) (k:=k) (by simpa using h);simp[zg];omega
theorem wW:∀ xs:List Ex,xs.length<=zg xs
 |[]=>by simp
 |x :: xs=>by
  have:=wW xs;have:=Zu x;simp[zg];omega
theorem K0:∀ xs ys,yj (xs ++ ys)=max (yj xs) (yj ys)
 |[],ys=>by simp[yj]
 |x :: xs,ys=>by rw[Qad,yj,yj,K0,Nat.max_assoc]
theorem vQ (op:Int):∀ xs ys,Xd op (xs ++ ys)=(Xd op xs ||Xd op ys)
 |[],ys=>by simp[Xd]
 |x :: xs,ys=>by rw[Qad,Xd,Xd,vQ,Bool.or_assoc]
theorem zr {α:Type}{xs:List α}{k:Nat}(h:k<xs.length):xs.take (k+1)=xs.take k ++ [xs[k]]:=by rw[QbO,Qai h];rfl
mutual
theorem jks:∀ x,wk x<=kP x
 |.mk _ _ _ ks _ _=>by have:=Vw ks;simp only[wk,kP];omega
theorem Vw:∀ xs,yj xs<=uA xs
 |[]=>μ _
 |x :: xs=>by have:=jks x;have:=Vw xs;simp only[yj,uA];omega
end
mutual
theorem jjJ:∀ x,kP x<=szE x
 |.mk _ _ _ ks _ _=>by have:=W0 ks;simp only[szE,kP];omega
theorem W0:∀ xs,uA xs<=zg xs
 |[]=>μ _
 |x :: xs=>by have:=jjJ x;have:=W0 xs;simp only[zg,uA];omega
end
def BIG:Nat:=1099511627776
theorem h12:type_of%(a8 @τ @ξ @z0 @z1 @jn @jf @and_true @true_and):=a8 @τ @ξ @z0 @z1 @jn @jf @and_true @true_and
theorem jqX (hb:NB base):∀ x:Ex,szE x<=BIG->Tot base 25 [.agg (eE x)] (.int .i64 (wk x)):=by
 refine Ex.indk λx ih hx=>?_;refine hb.tot ?_ (by first|rfl|simp[pa,pc,q9]) rfl;have hd:=U7 x;have hz:=Zu x;generalize hks:x.kids=ks at *;have hlen:=wW ks;unfold BIG at *;have hle:=Vw ks;have hle2:=W0 ks;refine jF x14 (by rfl) (hb.pur 25 1 dc) ?_;simp only[y14,jh,ζ,η,θ,κ];rw[(by unfold z14;simp only[qq];rfl:z14=_)];repeat'(first|apply jb<;>intro _|simp(disch:=first|exact dzB|fail) only[hks,r7,δ,ε])
 refine jZ ks.length (λk L s=>Has L 3 (.int .i64 (yj (ks.take k):Nat))/\Has L 7 (.lst ks.length (fl eE ks))) ?_ (λk L s hk hI hi hn=>?_) (λL s hI=>?_)
 ·simp(disch:=decide) only[h12,QaC,yj]
 ·obtain⟨i3,i7⟩:=hI;have hk2:=wA hk;have e:=ih ks[k] (Qaf hk) om;repeat'(first|apply jb<;>intro _|simp(disch:=first|exact dzB|fail) only[ja i3,ja i7,ja hi,ja hn,e,r7,δ,ε])
  have e2:((yj (ks.take (k+1)):Nat):Int)=max (yj (ks.take k):Int) (wk ks[k]):=by rw[zr hk,K0];simp only[yj];omega
  simp(disch:=decide) only[h12,e2,i7,hi,hn]
 ·rw[Qah] at hI;repeat'(first|apply jb<;>intro _|simp(disch:=first|exact dzB|fail) only[ja hI.1,ja hI.2,r7,δ,ε])
  (refine G0.v ?_ rfl;repeat' split)<;>first|rfl|(exfalso;omega)|(simp_all;done)|(simp;omega)|(simp_all;omega)
theorem jsp (hb:NB base)(op:Int):∀ x:Ex,szE x<=BIG->Tot base 29 [.agg (eE x),.int .i64 op] (.bool (jeU op x)):=by
 refine Ex.indk λx ih hx=>?_;refine hb.tot ?_ (by first|rfl|simp[pa,pc,q9]) rfl;have hd:=jmR op x;have hz:=Zu x;generalize hks:x.kids=ks at *;have hlen:=wW ks;unfold BIG at *;refine jF x47 (by rfl) (hb.pur 29 1 dc) ?_;simp only[y47,jh,ζ,η,θ,κ];rw[(by unfold z47;simp only[qq];rfl:z47=_)];repeat'(first|apply jb<;>intro _|simp(disch:=first|exact dzB|fail) only[hks,r7,δ,ε])
 ·(refine G0.v ?_ rfl;repeat' split)<;>first|rfl|(exfalso;omega)|(simp_all;done)|(simp;omega)|(simp_all;omega)
 refine jZ ks.length (λk L s=>Xd op (ks.take k)=false/\Has L 1 (.int .i64 op)/\Has L 12 (.lst ks.length (fl eE ks))) ?_ (λk L s hk hI hi hn=>?_) (λL s hI=>?_)
 ·simp(disch:=decide) only[h12,QaC,Xd]
 ·obtain⟨h0,i1,i12⟩:=hI;have hk2:=wA hk;have e:=ih ks[k] (Qaf hk) om;repeat'(first|apply jb<;>intro _|simp(disch:=first|exact dzB|fail) only[ja i1,ja i12,ja hi,ja hn,e,r7,δ,ε])
  ·have e3:=vQ op (ks.take (k+1)) (ks.drop (k+1));rw[Qbt,zr hk,vQ] at e3;simp only[Xd] at e3
   (refine G0.v ?_ rfl;repeat' split)<;>first|rfl|(exfalso;omega)|(simp_all;done)|(simp;omega)|(simp_all;omega)
  ·simp(disch:=decide) only[h12,i1,i12,hi,hn];rw[zr hk,vQ,h0];simp_all [Xd]
 ·rw[Qah] at hI;repeat'(first|apply jb<;>intro _|simp(disch:=first|exact dzB|fail) only[ja hI.2.1,r7,δ,ε])
  (refine G0.v ?_ rfl;repeat' split)<;>first|rfl|(exfalso;omega)|(simp_all;done)|(simp;omega)|(simp_all;omega)
def zF (c:Nat):Bool:=(decide (97<=c) && decide (c<=122)) ||(decide (65<=c) && decide (c<=90))
def qc (c:Nat):Bool:=decide (48<=c) && decide (c<=57)
def zT (c:Nat):Bool:=zF c ||qc c ||decide (c=95)
def qX (p:Nat->Bool):List Nat->Nat
 |[]=>0
 |c :: l=>if p c then qX p l+1 else 0
theorem Y4 (p:Nat->Bool):∀ l,qX p l<=l.length
 |[]=>μ _
 |c :: l=>by simp only[qX,ν];have:=Y4 p l;split<;>omega
theorem Uf {p:Nat->Bool}:∀ {l:List Nat} {k:Nat},k<=l.length->(∀ j,j<k->p (l.getD j 0)=true)->(k=l.length\/p (l.getD k 0)=false)->qX p l=k
 |[],k,h,_,_=>by simp at h;simp[qX,h]
 |c :: l,0,h,h1,h2=>by
  simp only[qX];rcases h2 with h2|h2
  ·simp at h2
  ·simp at h2;simp[h2]
 |c :: l,k+1,h,h1,h2=>by
  have h0:=h1 0 om;simp at h0;simp only[qX,h0,if_true];have:=Uf (l:=l) (k:=k) (by simpa using h) (λj hj=>by simpa using h1 (j+1) om) (by simpa using h2);omega
def Ug:List (List Nat):=[[101,110,117,109],[118,97,114],[98,111,111,108],[112,114,111,99,101,115,115],[119,104,101,110],[100,111],[116,114,117,101],[102,97,108,115,101],[88],[70],[71],[85],[82],[89],[90],[79],[72],[83],[84]]
def gP (l:List Nat):Bool:=decide (l∈Ug)
def begins (p l:List Nat):Bool:=decide (l.take p.length=p)
theorem K5 {p l:List Nat}(h:l.length<p.length):begins p l=false:=by
 unfold begins;refine decide_eq_false λe=>?_;have:=congrArg List.length e;rw[Qam] at this;omega
def Yb (c:Nat):Bool:=decide (c=32) ||decide (c=9) ||decide (c=10)
def Ke (c:Nat):Bool:=decide (c≠10)
def Yq (p:Nat×Nat)(x:Nat):Nat×Nat:=if x=10 then(p.1+1,1) else(p.1,p.2+1)
def qa (p:Nat×Nat)(l:List Nat):Nat×Nat:=l.foldl Yq p
theorem uY (l:List Nat):∀ p:Nat×Nat,1<=p.2->(qa p l).1<=p.1+l.length/\(qa p l).2<=p.2+l.length/\1<=(qa p l).2:=by
 induction l with
 |nil=>exact λp h=>⟨μ _,μ _,h⟩
 |cons x l ih=>
  intro p h;have hs:(Yq p x).1<=p.1+1/\(Yq p x).2<=p.2+1/\1<=(Yq p x).2:=by
   unfold Yq;split<;>simp<;>omega
  have:=ih (Yq p x) hs.2.2;show(qa (Yq p x) l).1<=p.1+(l.length+1)/\(qa (Yq p x) l).2<=p.2+(l.length+1)/\_;exact⟨om,om,this.2.2⟩
theorem Gm (p:Nat×Nat)(l k:List Nat):qa p (l ++ k)=qa (qa p l) k:=QbR ..
def gap (r:List Nat):Nat:=if qX Yb r=0/\begins [47,47] r=true then qX Ke r else qX Yb r
theorem KG (r:List Nat):gap r<=r.length:=by
 unfold gap;split
 ·exact Y4 _ _
 ·exact Y4 _ _
def j9 (r:List Nat):Nat:=if h:gap r=0 then 0 else gap r+j9 (r.drop (gap r))
termination_by r.length
decreasing_by
 rw[Qau];have:=KG r;omega
theorem jhq {r:List Nat}(h:gap r=0):j9 r=0:=by rw[j9,dif_pos h]
theorem jhp {r:List Nat}(h:gap r≠0):j9 r=gap r+j9 (r.drop (gap r)):=by rw[j9,dif_neg h]
theorem Un (r:List Nat):j9 r<=r.length:=by
 by_cases h:gap r=0
 ·rw[jhq h];exact Qaa _
 ·have e:=KG r;have ih:=Un (r.drop (gap r));rw[Qau] at ih;rw[jhp h];omega
termination_by r.length
decreasing_by
 rw[Qau];have:=KG r;omega
def Ys:List (List Nat):=[[60,45,62],[46,46],[58,61],[33,61],[60,61],[62,61],[45,62],[123],[125],[40],[41],[58],[44],[59],[61],[60],[62],[43],[45],[42],[33],[38],[124]]
def YB (r:List Nat):List (List Nat)->Nat
 |[]=>0
 |x :: xs=>if begins x r=true then x.length else YB r xs
def VU (r:List Nat):Nat:=YB r Ys
structure Tk where
 kind:Nat
 text:List Nat
 num:Nat
 line:Nat
 col:Nat
def Tk.cells (t:Tk):List AV:=[.int .i64 (t.kind:Int),.str t.text,.int .i64 (t.num:Int),.int .i64 (t.line:Int),.int .i64 (t.col:Int)]
def wT (s:List Nat):Nat:=s.foldl (λv c=>10 * v+(c - 48)) 0
def yN (r:List Nat)(p:Nat×Nat):Nat×Tk×Nat:=
 match r with
 |[]=>(0,⟨5,[],0,p.1,p.2⟩,0)
 |x :: r'=>
  if zF x=true then
   let n:=qX zT (x :: r')
   if 32<n then(132,⟨1,[],0,p.1,p.2⟩,0) else(0,⟨if gP ((x :: r').take n)=true then 4 else 1,(x :: r').take n,0,p.1,p.2⟩,n)
  else if qc x=true then
   let n:=qX qc (x :: r')
   if 7<n\/1000000<wT ((x :: r').take n) then(132,⟨2,[],0,p.1,p.2⟩,0) else(0,⟨2,(x :: r').take n,wT ((x :: r').take n),p.1,p.2⟩,n)
  else
   let n:=VU (x :: r')
   if n=0 then(131,⟨3,[],0,p.1,p.2⟩,0) else(0,⟨3,(x :: r').take n,0,p.1,p.2⟩,n)
def uO (s:List Nat):Prop:=s≠[]/\∀ c∈s,qc c=true
theorem jbl (p:Nat->Bool):∀ l:List Nat,∀ c∈l.take (qX p l),p c=true
 |[],c,h=>by simp at h
 |y :: l,c,h=>by
  simp only[qX] at h;by_cases hy:p y=true
  ·rw[if_pos hy,Qcd] at h;rcases QaU.1 h with h|h
   ·rw[h];exact hy
   ·exact jbl p l c h
  ·rw[if_neg hy] at h;simp at h
theorem jct {x:Nat}{r:List Nat}(h:qc x=true):uO ((x :: r).take (qX qc (x :: r))):=by
 refine⟨?_,jbl qc _⟩;have:qX qc (x :: r)=qX qc r+1:=by simp only[qX,if_pos h]
 rw[this,Qcd];simp
theorem jjx (s:List Nat):∀ v,(∀ c∈s,qc c=true)->s.foldl (λv c=>10 * v+(c - 48)) v+1<=(v+1) * 10 ^ s.length:=by
 induction s with
 |nil=>exact λv _=>by simp
 |cons c s ih=>
  intro v h;have hc:=h c (by simp);have hc9:c - 48<=9:=by
   unfold qc at hc;simp at hc;omega
  have:=ih (10 * v+(c - 48)) λd hd=>h d (by simp[hd]);refine ψ this ?_;rw[ν,Nat.pow_succ,<-Nat.mul_assoc,Nat.mul_right_comm];exact Qax _ om
theorem jmb {s:List Nat}{n:Nat}(hn:s.length=n)(h7:n<=7)(h:∀ c∈s,qc c=true):wT s<=99999999:=by
 have:=jjx s 0 h;have e:10 ^ s.length<=10 ^ 7:=Qbq dc om;have e7:10 ^ 7=10000000:=dc
 unfold wT;omega
theorem G5 (r:List Nat):∀ xs,YB r xs<=r.length
 |[]=>Qaa _
 |y :: xs=>by
  show(if begins y r=true then y.length else YB r xs)<=r.length;by_cases h:begins y r=true
  ·rw[if_pos h];rcases Qar r.length y.length with h2|h2
   ·rw[K5 h2] at h;exact absurd h dc
   ·exact h2
  ·rw[if_neg h];exact G5 r xs
theorem jaM (r:List Nat):VU r<=r.length:=G5 r _
theorem UX {r:List Nat}{p:Nat×Nat}{e n:Nat}{t:Tk}(h:yN r p=(e,t,n)):n<=r.length:=by
 cases r with
 |nil=>simp[yN] at h;omega
 |cons x r'=>
  unfold yN at h;simp only at h;have h1:=Y4 zT (x :: r');have h2:=Y4 qc (x :: r');have h3:=jaM (x :: r');split at h
  ·split at h<;>simp only[Prod.mk.injEq] at h<;>omega
  ·split at h
   ·split at h<;>simp only[Prod.mk.injEq] at h<;>omega
   ·split at h<;>simp only[Prod.mk.injEq] at h<;>omega
theorem jbm {p:Nat->Bool}{x:Nat}{r:List Nat}(h:p x=true):0<qX p (x :: r):=by
 simp only[qX,if_pos h];omega
theorem Kf {r:List Nat}{p:Nat×Nat}{t:Tk}{n:Nat}(h:yN r p=(0,t,n)):(t.kind=5↔n=0)/\(n=0↔r=[]):=by
 cases r with
 |nil=>simp[yN] at h;obtain⟨h1,h2⟩:=h;subst h1 h2;simp
 |cons x r'=>
  unfold yN at h;simp only at h;split at h
  ·rename_i hL;have hp:=jbm (p:=zT) (r:=r') (show zT x=true by unfold zT;rw[hL];rfl);split at h
   ·simp at h
   ·simp only[Prod.mk.injEq] at h;obtain⟨_,h1,h2⟩:=h;subst h1 h2;refine⟨?_,?_⟩
    ·show((if _ then 4 else 1)=5↔_);split<;>constructor<;>intro h<;>omega
    ·constructor
     ·intro h;omega
     ·intro h;simp at h
  ·split at h
   ·rename_i hD;have hp:=jbm (p:=qc) (r:=r') hD;split at h
    ·simp at h
    ·simp only[Prod.mk.injEq] at h;obtain⟨_,h1,h2⟩:=h;subst h1 h2;refine⟨?_,?_⟩
     ·show(2=5↔_);constructor<;>intro h<;>omega
     ·constructor
      ·intro h;omega
      ·intro h;simp at h
   ·split at h
    ·simp at h
    ·rename_i hz;simp only[Prod.mk.injEq] at h;obtain⟨_,h1,h2⟩:=h;subst h1 h2;refine⟨?_,?_⟩
     ·show(3=5↔_);constructor<;>intro h<;>omega
     ·constructor
      ·intro h;exact absurd h hz
      ·intro h;simp at h
def Jo (r:List Nat)(p:Nat×Nat):List Tk×(Nat×Nat×Nat):=
 match h:yN (r.drop (j9 r)) (qa p (r.take (j9 r))) with
 |(e,t,n)=>
  if e≠0 then([],(e,t.line,t.col))
  else if hn:n=0 then([t],(0,0,0))
  else
   let q:=Jo ((r.drop (j9 r)).drop n) (qa (qa p (r.take (j9 r))) ((r.drop (j9 r)).take n))
   if q.2.1≠0 then([],q.2) else(t :: q.1,q.2)
termination_by r.length
decreasing_by
 have h1:=UX h;have h2:=Un r;rw[Qau] at h1;rw[Qau,Qau];omega
theorem wP (r:List Nat)(p:Nat×Nat){e n:Nat}{t:Tk}(h:yN (r.drop (j9 r)) (qa p (r.take (j9 r)))=(e,t,n)):Jo r p=if e≠0 then([],(e,t.line,t.col)) else if n=0 then([t],(0,0,0)) else if(Jo ((r.drop (j9 r)).drop n) (qa (qa p (r.take (j9 r))) ((r.drop (j9 r)).take n))).2.1≠0 then([],(Jo ((r.drop (j9 r)).drop n) (qa (qa p (r.take (j9 r))) ((r.drop (j9 r)).take n))).2) else(t :: (Jo ((r.drop (j9 r)).drop n) (qa (qa p (r.take (j9 r))) ((r.drop (j9 r)).take n))).1,(Jo ((r.drop (j9 r)).drop n) (qa (qa p (r.take (j9 r))) ((r.drop (j9 r)).take n))).2):=by
 rw[Jo];split
 rename_i e' t' n' h';rw[h] at h';simp only[Prod.mk.injEq] at h';obtain⟨rfl,rfl,rfl⟩:=h';split
 ·rfl
 ·split<;>rfl
def ahead (acc:List Tk)(q:List Tk×(Nat×Nat×Nat)):List Tk×(Nat×Nat×Nat):=if q.2.1≠0 then([],q.2) else(acc ++ q.1,q.2)
def qi (l:List Nat):List Tk×(Nat×Nat×Nat):=if 65536<l.length then([],(132,1,1)) else Jo l (1,1)
theorem jh1 (r:List Nat)(p:Nat×Nat):ahead [] (Jo r p)=Jo r p:=by
 unfold ahead;generalize hx:yN (r.drop (j9 r)) (qa p (r.take (j9 r)))=x;obtain⟨e,t,n⟩:=x;rw[wP r p hx];by_cases he:e≠0
 ·rw[if_pos he];simp[he]
 ·rw[if_neg he];by_cases hn:n=0
  ·rw[if_pos hn];simp
  ·rw[if_neg hn];generalize Jo _ _=q;by_cases hq:q.2.1≠0
   ·rw[if_pos hq];simp[hq]
   ·rw[if_neg hq];show(if q.2.1≠0 then _ else _)=_;rw[if_neg hq];rfl
theorem jh2 {acc:List Tk}{r:List Nat}{p:Nat×Nat}{e n:Nat}{t:Tk}(h:yN (r.drop (j9 r)) (qa p (r.take (j9 r)))=(e,t,n))(he:e≠0):ahead acc (Jo r p)=([],(e,t.line,t.col)):=by
 rw[wP r p h,if_pos he];unfold ahead;rw[if_pos he]
theorem jh3 {acc:List Tk}{r:List Nat}{p:Nat×Nat}{t:Tk}(h:yN (r.drop (j9 r)) (qa p (r.take (j9 r)))=(0,t,0)):ahead acc (Jo r p)=(acc ++ [t],(0,0,0)):=by
 rw[wP r p h,if_neg dc,if_pos rfl];rfl
theorem jfE {acc:List Tk}{r:List Nat}{p:Nat×Nat}{n:Nat}{t:Tk}(h:yN (r.drop (j9 r)) (qa p (r.take (j9 r)))=(0,t,n))(hn:n≠0):ahead acc (Jo r p)=ahead (acc ++ [t]) (Jo ((r.drop (j9 r)).drop n) (qa (qa p (r.take (j9 r))) ((r.drop (j9 r)).take n))):=by
 rw[wP r p h,if_neg dc,if_neg hn];generalize Jo _ _=q;unfold ahead;by_cases hq:q.2.1≠0
 ·rw[if_pos hq,if_pos hq];simp[hq]
 ·rw[if_neg hq,if_neg hq];show _=(if q.2.1≠0 then _ else _);rw[if_neg hq];simp
def jjb:XC:=(Oq [Tv] [Ix 3,IU 4 .leq (.c (Th 97)) 3,Tc 5,I5 6 5 0,Iq 7 5 (oG .leq 6 (Th 122)),Ts 8 5 7,oy 9 8,Ok 10 9 0,Ip 11 9 (.bin .leq (.c (Th 65)) 10),Ok 12 9 11,I5 13 12 0,Iq 14 12 (oG .leq 13 (Th 90)),Ip 15 9 (.pick 12 14 Oj),Iy 16 9 I7 15,O4 16])
def jol:XF:=⟨[0],jjb,[(.t 2)]⟩
theorem jto:jv γ 156=some jol:=by kernel_rfl
def ji8:XC:=(Oq [Tv] [Ix 3,IU 4 .leq (.c (Th 48)) 3,Tc 5,I5 6 5 0,Iq 7 5 (oG .leq 6 (Th 57)),Ts 8 5 7,O4 8])
def joi:XF:=⟨[0],ji8,[(.t 2)]⟩
theorem jtl:jv γ 159=some joi:=by kernel_rfl
def jja:XC:=(Oq [Tv] [Ix 3,Ou 4 156 3,Tc 5,Ok 6 5 0,OS 7 (5,false) 159 [] [6],Iy 8 5 I7 7,oy 9 8,Ok 10 9 0,Ip 11 9 (oG .eql 10 (Th 95)),Iy 12 9 I7 11,O4 12])
def jok:XF:=⟨[0],jja,[(.t 2)]⟩
theorem jtn:jv γ 157=some jok:=by kernel_rfl
def ji9:XC:=(IX [Tv] (ou [oz 3 0] (.block 0 (.seq (OQ (To 5 3 [101,110,117,109]) 4 5 4 (OQ (To 6 3 [118,97,114]) 4 6 4 (OQ (To 7 3 [98,111,111,108]) 4 7 4 (OQ (To 8 3 [112,114,111,99,101,115,115]) 4 8 4 (OQ (To 9 3 [119,104,101,110]) 4 9 4 (OQ (To 10 3 [100,111]) 4 10 4 (OQ (To 11 3 [116,114,117,101]) 4 11 4 (OQ (To 12 3 [102,97,108,115,101]) 4 12 4 (OQ (To 13 3 [88]) 4 13 4 (OQ (To 14 3 [70]) 4 14 4 (OQ (To 15 3 [71]) 4 15 4 (OQ (To 16 3 [85]) 4 16 4 (OQ (To 17 3 [82]) 4 17 4 (OQ (To 18 3 [89]) 4 18 4 (OQ (To 19 3 [90]) 4 19 4 (OQ (To 20 3 [79]) 4 20 4 (OQ (To 21 3 [72]) 4 21 4 (OQ (To 22 3 [83]) 4 22 4 (.ops (IY (To 23 3 [84]) 4 23)))))))))))))))))))) (Tl 4 [oK 2 Ik] .skip)))) [Tv])
def joj:XF:=⟨[0],ji9,[(.t 2)]⟩
theorem jtm:jv γ 158=some joj:=by kernel_rfl
def jjf:XC:=(Oq [Tv] [Ix 3,OG 4 .eql 3 (Th 32),Tc 5,Ok 6 5 0,Ip 7 5 (oG .eql 6 (Th 9)),Iy 8 5 I7 7,oy 9 8,Ok 10 9 0,Ip 11 9 (oG .eql 10 (Th 10)),Iy 12 9 I7 11,O4 12])
def jop:XF:=⟨[0],jjf,[(.t 2)]⟩
theorem jts:jv γ 152=some jop:=by kernel_rfl
def jjd:XC:=(Oq [Tv] [Ix 3,OG 4 .neq 3 (Th 10),O4 4])
def jon:XF:=⟨[0],jjd,[(.t 2)]⟩
theorem jtq:jv γ 154=some jon:=by kernel_rfl
def jjg:XC:=(Tq [IJ 4] [Ix 6,ow 7 (.lenS 6),IJ 8] 0 9 8 7 9 0 1 (OU 10 8 5 10) (ID [OP 11,Ix 12,oy 13 5,ol 14 (.ixStr 12 13),oR 15 none 11 [14],Tn 16 15] 16 (OU 17 5 4 17)) 18 8 1 8 18 [Ix 19,ol 20 (.lenS 19),Tw 20])
def joq:XF:=⟨[0,1],jjg,[(.t 4)]⟩
theorem jtt:jv γ 151=some joq:=by kernel_rfl
def jiW:XC:=(Oq [Os 4] [Ix 5,ol 6 (.lenS 5),OP 7,ol 8 (.lenS 7),IU 9 .geq 6 8,oy 10 9,I5 11 10 0,I5 12 10 1,Iq 13 10 (.lenS 12),Iq 14 10 (.slStr 11 none (some 13)),I5 15 10 1,Iq 16 10 (.strb .eql 14 15),Ts 17 10 16,Tw 17])
def jn5:XF:=⟨[0,1],jiW,[(.t 4)]⟩
theorem js8:jv γ 180=some jn5:=by kernel_rfl
def jje:XC:=(Oq [Os 4] [Ix 5,OP 6,OE 7 180 5 6,Tw 7])
def joo:XF:=⟨[0,1],jje,[(.t 4)]⟩
theorem jtr:jv γ 153=some joo:=by kernel_rfl
def jiU:XC:=(Oq [Os 3] [oF 4 1,Ix 5,OE 6 153 4 5,oz 3 6])
def jn3:XF:=⟨[0,1],jiU,[(.t 3)]⟩
theorem js6:jv γ 184=some jn3:=by kernel_rfl
def jiV:XC:=(Tq [IJ 4] [Ix 6,IQ 7 6,IJ 8] 0 9 8 7 9 0 1 (OU 10 8 5 10) (ID [OP 11,Ix 12,oy 13 5,TJ 14 12 13,oF 15 14,oE 16 true none 11 [15]] 16 (OU 17 5 4 17)) 18 8 1 8 18 [Ol 4 (-(0+1))])
def jn4:XF:=⟨[0,1],jiV,[(.t 4)]⟩
theorem js7:jv γ 183=some jn4:=by kernel_rfl
def ji7:XC:=(O7 [IS 1 0,IJ 2] [IA 5 [oH,oH,oH,oH,oH,oH,oH,oH,oH,oH,oH,oH,oH,oH,oH,oH,oH,oH,oH,oH,oH,oH,oH] [Og 0 [60,45,62],Og 1 [46,46],Og 2 [58,61],Og 3 [33,61],Og 4 [60,61],Og 5 [62,61],Og 6 [45,62],OK 7 123,OK 8 125,OK 9 40,OK 10 41,OK 11 58,OK 12 44,OK 13 59,OK 14 61,OK 15 60,OK 16 62,OK 17 43,OK 18 45,OK 19 42,OK 20 33,OK 21 38,OK 22 124],o9 3 [oH,oH,oH,oH,oH,oH,oH,oH,oH,oH,oH,oH,oH,oH,oH,oH,oH,oH,oH,oH,oH,oH,oH],o7 23 3 5] (IX [ol 6 (.slA 23 1 3 none none),ol 7 (.fn 184 [1]),OE 8 183 6 7,Tw 8] (ID [Tc 9,Tb 10 .lss 9] 10 [IJ 2]) [Tc 11,Ow 12 23 1 3 11,oF 13 12,ol 14 (.lenS 13),O4 14]))
def joh:XF:=⟨[0],ji7,[(.t 2)]⟩
theorem jtk:jv γ 161=some joh:=by kernel_rfl
def jjc:XC:=(.seq (.seq (.cops [O9 6,Is (Iu 7 6),Is (ON 8 7),OM 9 8,O9 10,Is (Iu 11 10),Is (Ta 12 11),OM 13 12,O9 14,Is (Iu 15 14),Is (Ta 16 15),OM 17 16,Om 18 1,Is (IU 19 .add 17 18),Is (ol 20 (.slStr 9 (some 13) (some 19))),Is (ow 21 (.conv 9 276 20)),Is (IQ 22 21),Is (IJ 23)]) (Id 0 (Ob (Tp 24 23 22) 24 0 1 (O7 [TJ 25 21 23,oF 26 25,oz 5 26] [Ix 27,Iu 28 27,Tf 29 28,oF 30 29,IP 31 30 1,Iu 32 27,Tf 33 32,TK 33 31] (Or [oy 34 5,OC 35 .eql 34 (Th 10)] 35 [Ix 36,Ix 37,Ix 38,Iu 39 38,oD 40 2 39,oF 41 40,IP 42 41 1,Iu 43 36,oD 44 2 43,TK 44 42,Iu 45 37,Tf 46 45,TK 46 OT])) 47 23 1 23 47))) (.ops [Ix 48,Iu 49 48,Ta 50 49,oF 51 50,OP 52,IU 53 .add 51 52,Iu 54 48,Ta 55 54,TK 55 53]))
def jom:XF:=⟨[0,1],jjc,[]⟩
theorem jtp:jv γ 155=some jom:=by kernel_rfl
def z74:XC:=(Id 0 (.block 1 (.seq (.cops [O9 4,Is (Iu 5 4),Is (ON 6 5),OM 7 6,O9 8,Is (Iu 9 8),Is (Ta 10 9),OM 11 10,Is (ol 12 (.slStr 7 (some 11) none)),Is (O4 12)]) (oX [oy 13 2,OE 14 151 13 (oQ 152 []),oz 3 14] (Or [oy 15 3,OG 16 .eql 15 oB,oy 17 16,I5 18 17 2,OS 19 (17,true) 153 [] [18,oY [47,47]],On 20 17 19 Oj] 20 [oy 21 2,OE 22 151 21 (oQ 154 []),oz 3 22]) (.seq (Ic [oy 23 3,Tb 24 .eql 23] 24 .ret) (.ops [Ix 25,oy 26 3,OE 27 155 25 26]))))))
def y74:XF:=⟨[0],z74,[]⟩
theorem x74:jv γ 120=some y74:=by kernel_rfl
def z75:XC:=(oX [o9 2 [oB,oH,oB,oB,oB],IJ 3] (.cops [O9 9,Is (Iu 10 9),Is (ON 11 10),OM 12 11,O9 13,Is (Iu 14 13),Is (Ta 15 14),OM 16 15,Is (ol 17 (.slStr 12 (some 16) none)),Is (Tw 17)]) (.seq (.cops [O9 18,Is (Iu 19 18),Is (oD 20 2 19),OM 21 20,O9 22,Is (Iu 23 22),Is (Tf 24 23),OM 25 24,Is (IA 26 [oB,oH,oB,oB,oB] [((0,1),IM 5),((3,1),21),((4,1),25)]),Is (o9 5 [oB,oH,oB,oB,oB]),Is (o7 5 5 26)]) (oX [IJ 6] (.block 0 (oL [Tc 34,O3 35 34 (.c oH),oz 33 35] 33 (o3 [o6 36 5 5,o7 5 2 36,IJ 3]) (oL [Tc 38,ol 39 (.ixStr 38 Ov),Ou 40 156 39,oz 37 40] 37 (Oz [Tc 41,OE 42 151 41 (oQ 157 []),oz 6 42,ON 43 5,TK 43 OT] [oy 44 6,O6 45 .gtr 44 32] 45 [o6 46 5 5,o7 5 2 46,Ol 3 132] (Or [Tc 47,oy 48 6,ol 49 (.slStr 47 none (some 48)),oE 50 true none (oQ 158 []) [49]] 50 [ON 51 5,TK 51 (IM 4)])) (oL [Tc 53,ol 54 (.ixStr 53 Ov),Ou 55 159 54,oz 52 55] 52 (ou [Tc 56,OE 57 151 56 (oQ 159 []),oz 6 57,ON 58 5,TK 58 (IM 2)] (Oz [Tc 60,oy 61 6,ol 62 (.slStr 60 none (some 61)),Ie 63 160 [62,IM 10,IM 64],oy 59 63,O0 64 59,O1 65 59,oz 7 64,oz 8 65] [oy 66 6,Ij 67 .gtr 66 7,oy 68 67,Ok 69 68 8,Ip 70 68 (.gen .neq 254 true 69 (.c .nilif)),Iy 71 68 I7 70,oy 72 71,Ok 73 72 7,Td 74 72 .gtr 73 1000000,On 75 72 I7 74] 75 [o6 76 5 5,o7 5 2 76,Ol 3 132] (.ops [oy 77 7,oD 78 2 5,TK 78 77]))) (ou [Tc 27,Ou 28 161 27,oz 6 28,ON 29 5,TK 29 (IM 3)] (ID [oy 30 6,Tb 31 .eql 30] 31 [o6 32 5 5,o7 5 2 32,Ol 3 131])))))) (ou [Tc 79,oy 80 6,ol 81 (.slStr 79 none (some 80)),Ta 82 5,TK 82 81] (Oq [Ix 83,oy 84 6,OE 85 155 83 84] [o6 86 5 5,o7 5 2 86,IJ 3])))))
def y75:XF:=⟨[0],z75,[(.cA 2 5),(.t 3)]⟩
theorem x75:jv γ 121=some y75:=by kernel_rfl
def z35:XC:=(Oz [OH 2,o9 3 [oB,oB,oB]] [Ix 8,ol 9 (.lenS 8),O6 10 .gtr 9 65536] 10 [IA 11 [oB,oB,oB] [((0,1),IM 132),((1,1),OT),((2,1),OT)],OH 2,o7 3 3 11] (ou [Ix 12,IA 13 [oH,oB,oB,oB] [((0,1),12),((2,1),OT),((3,1),OT)],ol 14 (.box 13),Tw 14] (IV [OH 5] 0 (.block 1 (ou [Tc 15,Ou 16 120 15] (oX [Tc 18,Ou 19 121 18,oy 17 19,O0 20 17,O1 21 17,o9 6 [oB,oH,oB,oB,oB],o7 5 6 20,oz 7 21] (Ic [oy 22 7,Tg 23 22] 23 (.seq (.cops [Om 24 7,Is (Tf 25 6),OM 26 25,Is (oD 27 4 6),OM 28 27,Is (IA 29 [oB,oB,oB] [((0,1),24),((1,1),26),((2,1),28)]),Is (OH 2),Is (o7 3 3 29)]) .ret)) (ou [oy 30 5,o6 31 5 6,Im 32 1 5 [oB,oH,oB,oB,oB] [((0,5),31)],OW 33 5 48 30 32,oz 5 33] (ID [ON 34 6,oF 35 34,O6 36 .eql 35 5] 36 [oy 37 5,IA 38 [oB,oB,oB] [],O4 37,o7 3 3 38]))))))))
def y35:XF:=⟨[0],z35,[(.t 2),(.cA 3 3)]⟩
theorem x35:jv γ 88=some y35:=by kernel_rfl
theorem UY (hb:NB base)(c:Nat):Tot base 156 [.int .u8 (c:Int)] (.bool (zF c)):=by
 refine hb.tot ?_ rfl rfl;refine jF jto (by rfl) (hb.pur 156 1 dc) ?_;simp only[jol,jh,ζ,η,θ,κ];rw[(by unfold jjb;simp only[qq];rfl:jjb=_)];repeat'(first|apply jb<;>intro _|simp(disch:=first|exact dzA|fail) only[rzZ,δ,ε])
 all_goals(refine G0.v (congrArg AV.bool ?_) rfl;rw[Qay];simp only[zF,QaA,χ,decide_eq_true_eq,QaK,Qbu,QaI,decide_eq_false_iff_not,true_iff,false_iff,iff_true,iff_false,not_true_eq_false,not_false_eq_true,ne_eq,eq_self]<;>omega)
theorem jdy (hb:NB base)(c:Nat):Tot base 159 [.int .u8 (c:Int)] (.bool (qc c)):=by
 refine hb.tot ?_ rfl rfl;refine jF jtl (by rfl) (hb.pur 159 1 dc) ?_;simp only[joi,jh,ζ,η,θ,κ];rw[(by unfold ji8;simp only[qq];rfl:ji8=_)];repeat'(first|apply jb<;>intro _|simp(disch:=first|exact dzA|fail) only[rzZ,δ,ε])
 all_goals(refine G0.v (congrArg AV.bool ?_) rfl;rw[Qay];simp only[qc,QaA,χ,decide_eq_true_eq,QaK,Qbu,QaI,decide_eq_false_iff_not,true_iff,false_iff,iff_true,iff_false,not_true_eq_false,not_false_eq_true,ne_eq,eq_self]<;>omega)
theorem jdg (hb:NB base)(c:Nat):Tot base 157 [.int .u8 (c:Int)] (.bool (zT c)):=by
 refine hb.tot ?_ rfl rfl;refine jF jtn (by rfl) (hb.pur 157 1 dc) ?_;simp only[jok,jh,ζ,η,θ,κ];rw[(by unfold jja;simp only[qq];rfl:jja=_)];repeat'(first|apply jb<;>intro _|simp(disch:=first|exact dzA|fail) only[UY hb,jdy hb,rzZ,δ,ε])
 all_goals(refine G0.v (congrArg AV.bool ?_) rfl;unfold zT;simp_all;try omega)
theorem jm4 (hb:NB base)(c:Nat):Tot base 152 [.int .u8 (c:Int)] (.bool (Yb c)):=by
 refine hb.tot ?_ rfl rfl;refine jF jts (by rfl) (hb.pur 152 1 dc) ?_;simp only[jop,jh,ζ,η,θ,κ];rw[(by unfold jjf;simp only[qq];rfl:jjf=_)];repeat'(first|apply jb<;>intro _|simp(disch:=first|exact dzA|fail) only[rzZ,δ,ε])
 all_goals(refine G0.v (congrArg AV.bool ?_) rfl;rw[Qay];simp only[Yb,QaA,χ,decide_eq_true_eq,QaK,Qbu,QaI,decide_eq_false_iff_not,true_iff,false_iff,iff_true,iff_false,not_true_eq_false,not_false_eq_true,ne_eq,eq_self]<;>omega)
theorem jjZ (hb:NB base)(c:Nat):Tot base 154 [.int .u8 (c:Int)] (.bool (Ke c)):=by
 refine hb.tot ?_ rfl rfl;refine jF jtq (by rfl) (hb.pur 154 1 dc) ?_;simp only[jon,jh,ζ,η,θ,κ];rw[(by unfold jjd;simp only[qq];rfl:jjd=_)];repeat'(first|apply jb<;>intro _|simp(disch:=first|exact dzA|fail) only[rzZ,δ,ε])
 all_goals(refine G0.v (congrArg AV.bool ?_) rfl;rw[Qay];simp only[Ke,QaA,χ,decide_eq_true_eq,QaK,Qbu,QaI,decide_eq_false_iff_not,true_iff,false_iff,iff_true,iff_false,not_true_eq_false,not_false_eq_true,ne_eq,eq_self]<;>omega)
theorem jic (hb:NB base)(l:List Nat):Tot base 158 [.str l] (.bool (gP l)):=by
 refine hb.tot ?_ rfl rfl;refine jF jtm (by rfl) (hb.pur 158 1 dc) ?_;simp only[joj,jh,ζ,η,θ,κ];rw[(by unfold ji9;simp only[qq];rfl:ji9=_)];repeat'(first|apply jb<;>intro _|simp(disch:=first|exact dzA|fail) only[rzZ,δ,ε])
 all_goals(refine G0.v ?_ rfl;unfold gP Ug;simp[*])
def Pt (base:Bs)(f:FuncId)(p:Nat->Bool):Prop:=∀ c:Nat,Tot base f [.int .u8 (c:Int)] (.bool (p c))
theorem kT (hb:NB base)(l:List Nat)(hl:l.length<=4611686018427387904){f:FuncId}{p:Nat->Bool}(hf:Pt base f p):Tot base 151 [.str l,.fn f []] (.int .i64 (qX p l)):=by
 refine hb.tot ?_ rfl rfl;refine jF jtt (by rfl) (hb.pur 151 1 dc) ?_;simp only[joq,jh,ζ,η,θ,κ];rw[(by unfold jjg;simp only[qq];rfl:jjg=_)];repeat'(first|apply jb<;>intro _|simp(disch:=first|exact dzA|fail) only[rzZ,δ,ε])
 refine jZ l.length (λk L s=>(∀ j,j<k->p (l.getD j 0)=true)/\Has L 0 (.str l)/\Has L 1 (.fn f [])) ?_ (λk L s hk hI hi hn=>?_) (λL s hI=>?_)
 ·refine⟨λj hj=>absurd hj (QaJ _),?_⟩;simp(disch:=decide) only[h12]
 ·obtain⟨h0,i0,i1⟩:=hI;repeat'(first|apply jb<;>intro _|simp(disch:=first|exact dzA|fail) only[ja i0,ja i1,ja hi,hf (l.getD k 0),rzZ,δ,ε])
  ·exact G0.v (by rw[Uf (QbE hk) h0 (.inr ‹_›)]) rfl
  ·refine⟨⟨λj hj=>?_,?_⟩,?_⟩
   ·rcases Qar j k with h|h
    ·exact h0 j h
    ·rw[show j=k by omega];simpa using ‹¬ p (l.getD k 0)=false›
   ·simp(disch:=decide) only[h12,i0,i1]
   ·simp(disch:=decide) only[h12,hi,hn]
 ·obtain⟨h0,i0,i1⟩:=hI;repeat'(first|apply jb<;>intro _|simp(disch:=first|exact dzA|fail) only[ja i0,rzZ,δ,ε])
  exact G0.v (by rw[Uf (μ _) h0 (.inl rfl)]) rfl
theorem jqS (hb:NB base)(l q:List Nat)(hl:l.length<=4611686018427387904):Tot base 180 [.str l,.str q] (.bool (begins q l)):=by
 refine hb.tot ?_ rfl rfl;refine jF js8 (by rfl) (hb.pur 180 1 dc) ?_;simp only[jn5,jh,ζ,η,θ,κ];rw[(by unfold jiW;simp only[qq];rfl:jiW=_)];repeat'(first|apply jb<;>intro _|simp(disch:=first|exact dzA|fail) only[rzZ,δ,ε])
 ·exact G0.v rfl rfl
 ·exact G0.v (by rw[K5 om]) rfl
theorem UJ (hb:NB base)(l q:List Nat)(hl:l.length<=4611686018427387904):Tot base 153 [.str l,.str q] (.bool (begins q l)):=by
 refine hb.tot ?_ rfl rfl;refine jF jtr (by rfl) (hb.pur 153 1 dc) ?_;simp only[joo,jh,ζ,η,θ,κ];rw[(by unfold jje;simp only[qq];rfl:jje=_)];repeat'(first|apply jb<;>intro _|simp(disch:=first|exact dzA|fail) only[jqS hb l q hl,rzZ,δ,ε])
 exact G0.v rfl rfl
theorem Cl.bar {s:St}{b:Nat}{cs:List AV}(h:Cl s b cs):Cl s.bare b cs:=⟨h.lt,h.row,h.len,h.cell⟩
theorem jgy (hb:NB base)(r x:List Nat)(hr:r.length<=4611686018427387904){st:St}{b:Nat}(C:Cl st b [.str r])(K Kp:AV->St->Prop):XB γ base 184 [.str x,.ptr b 0] st K Kp=K (.bool (begins x r)) st:=by
 refine jef (λK Kp hK=>?_) K Kp;refine yr js6 (by rfl) (hb.at0 184 dc dc _ _) ?_;simp only[jn3,jh,ζ,η,θ,κ];rw[(by unfold jiU;simp only[qq];rfl:jiU=_)];have C:=C.bar;have hbk:bk st st.bare=st:=rfl;have hbc:back st st.bare=st:=rfl;have hbb:st.bare.bare=st.bare:=rfl;generalize st.bare=s0 at *
 (have zz:=C.r;(repeat'(first|apply jb<;>intro _|simp(disch:=first|exact vo|fail) only[UJ hb r x hr,hbk,hbc,hbb,C.q,C.r,rzZ,δ,ε])))
 exact hK
theorem jnj (hb:NB base){xs:List (List Nat)}(hn:xs.length<=1000000)(f:FuncId)(caps:List AV)(q:List Nat->Bool){st:St}{b c:Nat}{x:Bool}(C:Cl st b (xs.map .str))
  (hq:∀ y K Kp,XB γ base f (.str y :: caps) st.bare K Kp=K (.bool (q y)) st.bare) (K Kp:AV->St->Prop):XB γ base 183 [.slice b 0 xs.length c 1 x,.fn f caps] st K Kp=K (.int .i64 (fi q xs)) st:=by
 refine jef (λK Kp hK=>?_) K Kp;refine yr js7 (by rfl) (hb.at0 183 dc dc _ _) ?_;simp only[jn4,jh,ζ,η,θ,κ];rw[(by unfold jiV;simp only[qq];rfl:jiV=_)];have C:=C.bar;have hbk:bk st st.bare=st:=rfl;have hbc:back st st.bare=st:=rfl;have hbb:st.bare.bare=st.bare:=rfl;generalize st.bare=s0 at *;have hl:(xs.map AV.str).length=xs.length:=Qaq ..;repeat'(first|apply jb<;>intro _|simp(disch:=first|exact dzA|fail) only[rzZ,δ,ε])
 refine jZ xs.length (λk L s=>s=s0/\(∀ j (h1:j<xs.length),j<k->q xs[j]=false)/\Has L 0 (.slice b 0 xs.length c 1 x)/\Has L 1 (.fn f caps)) ?_ (λk L s hk hI hi hn=>?_) (λL s hI=>?_)
 ·refine⟨rfl,λj _ hj=>absurd hj (QaJ _),?_⟩;simp(disch:=decide) only[h12]
 ·obtain⟨rfl,h0,i0,i1⟩:=hI;have e:(xs.map AV.str).getD k .bad=.str xs[k]:=by simp[ω,hk]
  (have zz:=C.r;(repeat'(first|apply jb<;>intro _|simp(disch:=first|exact vo|fail) only[ja i0,ja i1,ja hi,hq,hl,e,hbk,hbc,hbb,C.q,C.r,rzZ,δ,ε])))
  ·rw[WB hk (λj hj=>h0 j om hj) ‹_›] at hK;exact hK
  ·refine⟨⟨λj h1 hj=>?_,?_⟩,?_⟩
   ·rcases Qar j k with h|h
    ·exact h0 j h1 h
    ·have:j=k:=om
     subst this;simpa using ‹¬ q xs[j]=true›
   ·simp(disch:=decide) only[h12,i0,i1]
   ·simp(disch:=decide) only[h12,hi,hn]
 ·obtain⟨rfl,h0,i0,i1⟩:=hI;repeat'(first|apply jb<;>intro _|simp(disch:=first|exact dzA|fail) only[hbk,hbc,hbb,rzZ,δ,ε])
  rw[Wz λj hj=>h0 j hj hj] at hK;exact hK
theorem G6 (r:List Nat):∀ xs:List (List Nat),(fi (λx=>begins x r) xs<0/\YB r xs=0)\/∃ k,∃ h:k<xs.length,fi (λx=>begins x r) xs=k/\YB r xs=xs[k].length
 |[]=>.inl ⟨by show(-1:Int)<0;decide,rfl⟩
 |y :: xs=>by
  by_cases h:begins y r=true
  ·exact .inr ⟨0,by simp,by simp[fi,h],by simp[YB,h]⟩
  ·rcases G6 r xs with ⟨h1,h2⟩|⟨k,hk,h1,h2⟩
   ·exact .inl ⟨by simp[fi,h,h1],by simp[YB,h,h2]⟩
   ·exact .inr ⟨k+1,by simpa using hk,by simp[fi,h,h1];omega,by simp[YB,h,h2]⟩
theorem jjK {k:Nat}(h:k<Ys.length):(Ys.map AV.str).getD k .bad=.str Ys[k]:=by simp[ω,h]
theorem jo8 (hb:NB base)(r:List Nat)(hr:r.length<=4611686018427387904):Tot base 161 [.str r] (.int .i64 (VU r)):=by
 refine hb.tot ?_ rfl rfl;refine jF jtk (by rfl) (hb.pur 161 1 dc) ?_;simp only[joh,jh,ζ,η,θ,κ];rw[(by unfold ji7;simp only[qq];rfl:ji7=_)];repeat'(first|apply jb<;>intro _|simp(disch:=first|exact dzA|fail) only[rzZ,δ,ε])
 refine XB.gen λu hu=>?_;have C0:Cl u 0 [.str r]:=by rw[hu];exact((Cl.new st0 [.str r]).nw _).wrO dc _ _
 have C1:Cl u 1 (Ys.map .str):=by rw[hu];exact(Cl.new (nw st0 _) _).wr0 rfl
 clear hu;rw[show(23:Nat)=Ys.length from rfl,jnj hb (xs:=Ys) dc 184 [.ptr 0 0] (λx=>begins x r) C1 λy K Kp=>jgy hb r y hr C0.bar K Kp];unfold VU;rcases G6 r Ys with ⟨h1,h2⟩|⟨k,hk,h1,h2⟩
 ·repeat'(first|apply jb<;>intro _|simp(disch:=first|exact dzA|fail) only[rzZ,δ,ε])
  exact G0.v (by rw[h2];rfl) rfl
 ·have hk':k<23:=hk;have e:=jjK hk;have e2:qh u.h 1=23:=C1.len;have e3:rat u.h 1 k=.str Ys[k]:=(C1.cell k (by rw[Qaq];exact hk)).trans e;repeat'(first|apply jb<;>intro _|simp(disch:=first|exact dzA|fail) only[h1,e2,e3,rzZ,δ,ε])
  refine G0.v ?_ rfl;rw[h2]<;>rfl
def cC (l:List Nat)(a:Nat)(p:Nat×Nat):List AV:=[.str l,.int .i64 (a:Int),.int .i64 (p.1:Int),.int .i64 (p.2:Int)]
theorem u9:Tryz.prog.underlying 9=some .string:=by kernel_rfl
theorem jtC:Tryz.prog.underlying 276=some (.slice 5):=by kernel_rfl
theorem u5:Tryz.prog.underlying 5=some (.int .u8):=by kernel_rfl
theorem jgx (hb:NB base){l:List Nat}{a n:Nat}{p:Nat×Nat}(hn:a+n<=l.length)(hl:l.length<=1073741824)(h1:p.1<=1073741824)(h2:p.2<=1073741824)(hc:1<=p.2) :
  Met γ base 155 (cC l a p) [.int .i64 (n:Int)] (.ok (.tup [])) (cC l (a+n) (qa p ((l.drop a).take n))):=by
 refine PM.met ?_ rfl λp st=>hb.no 155 dc _ _;refine j2 jtp (by rfl) (hb.pur 155 3 dc) rfl ?_;simp only[jom,jh,ζ,η,θ,κ];rw[(by unfold jjc;simp only[qq];rfl:jjc=_)];have hbs:((l.drop a).take n).length=n:=by rw[Qam,Qau];omega
 have e1:((a:Int)+(n:Int) - (a:Int)).toNat=n:=om
 unfold cC at *;repeat'(first|apply jb<;>intro _|simp(disch:=first|exact dzA|fail) only[jnb u9 jtC u5,e1,hbs,rzZ,δ,ε])
 generalize (l.drop a).take n=bs at *;refine jZ n (λk L s=>Cl s 0 (cC l a (qa p (bs.take k)))/\Cl s 1 (bs.map λ(c:Nat)=>.int .u8 (c:Int))/\Has L 0 (.ptr 0 0)/\Has L 1 (.int .i64 (n:Int))/\Has L 21 (.slice 1 0 n n 1 false)) ?_ (λk L s hk hI hi hn=>?_) (λL s hI=>?_)
 ·refine⟨(Cl.new st0 (cC l a p)).nw _,Cl.new (nw st0 _) _,?_⟩;simp(disch:=decide) only[h12]
 ·obtain⟨C0,C1,i0,i1,i21⟩:=hI;have hk':k<bs.length:=om
  have e2:rat s.h 1 k=.int .u8 ((bs[k]:Nat):Int):=(C1.cell k (by rw[Qaq];exact hk')).trans (by simp[ω,hk']);have e3:qh s.h 1=n:=by rw[C1.len,Qaq];exact hbs
  have hw:=uY (bs.take k) p hc;have e4:qa p (bs.take (k+1))=Yq (qa p (bs.take k)) bs[k]:=by rw[zr hk',Gm];rfl
  rw[Qam] at hw;generalize qa p (bs.take k)=q at *;rw[e4];have L0:=C0.lt;have L1:=C1.lt;unfold cC at *
  (have zz:=C0.r;(repeat'(first|apply jb<;>intro _|simp(disch:=first|exact vo|fail) only[ja i0,ja i1,ja i21,ja hi,e2,e3,C0.q,C0.r,rzZ,δ,ε])))
  ·refine⟨⟨?_,?_,?_⟩,?_⟩
   ·have e5:bs[k]=10:=om
    rw[show Yq q bs[k]=(q.1+1,1) from if_pos e5]
    (apply Cl.cv;(· (repeat'(first|exact C0|apply Cl.wr|apply Cl.nw)));(· (simp only[YQ,Ym,Y8,ZV,ZU,ζ]<;>first|rfl|(simp;done)|(simp;omega))))
   ·simp(disch:=first|assumption|decide|omega|(simp only[je,jg,jk,jo,jj,yd,ν,φ];first|done|omega)) only[jA,jD,jz];exact C1
   ·simp(disch:=decide) only[h12,i0,i1,i21]
   ·simp(disch:=decide) only[h12,hi,hn]
  ·refine⟨⟨?_,?_,?_⟩,?_⟩
   ·have e5:¬ bs[k]=10:=om
    rw[show Yq q bs[k]=(q.1,q.2+1) from if_neg e5]
    (apply Cl.cv;(· (repeat'(first|exact C0|apply Cl.wr|apply Cl.nw)));(· (simp only[YQ,Ym,Y8,ZV,ZU,ζ]<;>first|rfl|(simp;done)|(simp;omega))))
   ·simp(disch:=first|assumption|decide|omega|(simp only[je,jg,jk,jo,jj,yd,ν,φ];first|done|omega)) only[jA,jD,jz];exact C1
   ·simp(disch:=decide) only[h12,i0,i1,i21]
   ·simp(disch:=decide) only[h12,hi,hn]
 ·obtain⟨C0,C1,i0,i1,i21⟩:=hI;rw[<-hbs,Qah] at C0;have L0:=C0.lt;unfold cC at *
  (have zz:=C0.r;(repeat'(first|apply jb<;>intro _|simp(disch:=first|exact vo|fail) only[ja i0,ja i1,C0.q,C0.r,rzZ,δ,ε])))
  refine G1.done ?_ rfl rfl FzD.u;simp(disch:=first|assumption|decide|omega|(simp only[je,jg,jk,jo,jj,yd,ν,φ];first|done|omega)) only[jA,jD,jz]
  (apply Cl.cv;(· (repeat'(first|exact C0|apply Cl.wr|apply Cl.nw)));(· (simp only[YQ,Ym,Y8,ZV,ZU,ζ]<;>first|rfl|(simp;done)|(simp;omega))))
theorem jkw (hb:NB base){l:List Nat}{a:Nat}{p:Nat×Nat}(ha:a<=l.length)(hl:l.length<=1048576)(hp1:p.1+(l.length - a)<=1073741824)(hp2:1<=p.2)(hp3:p.2+(l.length - a)<=1073741824) :
  Met γ base 120 (cC l a p) [] (.ok (.tup [])) (cC l (a+j9 (l.drop a)) (qa p ((l.drop a).take (j9 (l.drop a))))):=by
 refine PM.met ?_ rfl λp st=>hb.no 120 dc _ _;refine j2 x74 (by rfl) (hb.pur 120 3 dc) rfl ?_;simp only[y74,jh,ζ,η,θ,κ];rw[(by unfold z74;simp only[qq];rfl:z74=_)];rw[VL];refine yz (λmm L s=>∃ d:Nat,a+d<=l.length/\mm=l.length - (a+d)/\Cl s 0 (cC l (a+d) (qa p ((l.drop a).take d)))/\j9 (l.drop a)=d+j9 (l.drop (a+d))/\Has L 0 (.ptr 0 0)) ?_ (l.length - a) ?_
 ·rintro mm L s ⟨d,hd,rfl,C,hg,i0⟩;have W:=uY ((l.drop a).take d) p hp2;have hlt:((l.drop a).take d).length=d:=by rw[Qam,Qau];omega
  rw[hlt] at W;have hrl:(l.drop (a+d)).length=l.length - (a+d):=Qau;have hgap:gap (l.drop (a+d))=if qX Yb (l.drop (a+d))=0/\begins [47,47] (l.drop (a+d))=true then qX Ke (l.drop (a+d)) else qX Yb (l.drop (a+d)):=rfl
  have hgl:=KG (l.drop (a+d));have hwalk:qa (qa p ((l.drop a).take d)) ((l.drop (a+d)).take (gap (l.drop (a+d))))=qa p ((l.drop a).take (d+gap (l.drop (a+d)))):=by
   rw[<-Gm,List.take_add,Qbl]
  have hg1:=λ(h:gap (l.drop (a+d))≠0)=>jhp h;have hg0:=λ(h:gap (l.drop (a+d))=0)=>jhq h;have hdrop:(l.drop (a+d)).drop (gap (l.drop (a+d)))=l.drop (a+(d+gap (l.drop (a+d)))):=by rw[Qbl,Qbi]
  have S:=@jgx base hb l (a+d) (gap (l.drop (a+d))) (qa p ((l.drop a).take d)) om om om om om;have S1:=λK Kp=>S C K Kp;have L0:=C.lt;rw[hwalk] at S1;have R1:=kT hb (l.drop (a+d)) om (jm4 hb);have R2:=kT hb (l.drop (a+d)) om (jjZ hb);have R3:=UJ hb (l.drop (a+d)) [47,47] om;have fin:gap (l.drop (a+d))=0->G1 4 (cC l (a+j9 (l.drop a)) (qa p ((l.drop a).take (j9 (l.drop a))))) (.tup []) (.tup []) s.bare:=λh=>by
   rw[hg,hg0 h,Qbf];exact G1.done (jz.symm▸C) rfl rfl FzD.u
  have go:gap (l.drop (a+d))≠0->∀ L,Has L 0 (.ptr 0 0)->∃ k',k'<l.length - (a+d)/\∃ d2:Nat,a+d2<=l.length/\k'=l.length - (a+d2)/\Cl (wr s 0 0 (cC l (a+d+gap (l.drop (a+d))) (qa p ((l.drop a).take (d+gap (l.drop (a+d))))))) 0 (cC l (a+d2) (qa p ((l.drop a).take d2)))/\j9 (l.drop a)=d2+j9 (l.drop (a+d2))/\Has L 0 (.ptr 0 0):=λh L i=>by
   refine⟨l.length - (a+(d+gap (l.drop (a+d)))),om,d+gap (l.drop (a+d)),om,rfl,?_,by rw[hg,hg1 h,hdrop,Qbi],i⟩;rw[Qbi];exact C.wr0 rfl
  generalize hJ:(λ(L:Sl) (st':St)=>∃ k',k'<l.length - (a+d)/\∃ d2:Nat,a+d2<=l.length/\k'=l.length - (a+d2)/\Cl st' 0 (cC l (a+d2) (qa p ((l.drop a).take d2)))/\j9 (l.drop a)=d2+j9 (l.drop (a+d2))/\Has L 0 (.ptr 0 0))=J at *;have go2:gap (l.drop (a+d))≠0->∀ L,Has L 0 (.ptr 0 0)->J L (wr s 0 0 (cC l (a+d+gap (l.drop (a+d))) (qa p ((l.drop a).take (d+gap (l.drop (a+d))))))):=λh L i=>by rw[<-hJ];exact go h L i
  clear go;unfold cC at *;by_cases h1:qX Yb (l.drop (a+d))=0
  ·cases h2:begins [47,47] (l.drop (a+d)) with
   |true=>
    rw[if_pos ⟨h1,h2⟩] at hgap;rw[<-hgap] at R2;by_cases hz:gap (l.drop (a+d))=0
    ·(have zz:=C.r;(repeat'(first|apply jb<;>intro _|simp(disch:=first|exact vo|fail) only[ja i0,R1,R2,R3,h1,h2,hz,C.q,C.r,rzZ,δ,ε])))
     exact fin hz
    ·(have zz:=C.r;(repeat'(first|apply jb<;>intro _|simp(disch:=first|exact vo|fail) only[ja i0,R1,R2,R3,S1,h1,h2,hz,C.q,C.r,rzZ,δ,ε])))
     exact go2 hz _ (by simp(disch:=decide) only[h12,i0])
   |false=>
    have hz:gap (l.drop (a+d))=0:=by rw[hgap,if_neg (λh=>by rw[h2] at h;exact absurd h.2 dc)];exact h1
    (have zz:=C.r;(repeat'(first|apply jb<;>intro _|simp(disch:=first|exact vo|fail) only[ja i0,R1,R2,R3,h1,h2,C.q,C.r,rzZ,δ,ε])))
    exact fin hz
  ·have hz:gap (l.drop (a+d))=qX Yb (l.drop (a+d)):=by rw[hgap,if_neg (λh=>h1 h.1)]
   rw[<-hz] at h1 R1
   (have zz:=C.r;(repeat'(first|apply jb<;>intro _|simp(disch:=first|exact vo|fail) only[ja i0,R1,R2,R3,S1,h1,C.q,C.r,rzZ,δ,ε])))
   exact go2 h1 _ (by simp(disch:=decide) only[h12,i0])
 ·refine⟨0,om,rfl,?_,by rw[Qag,Qbf],?_⟩
  ·exact Cl.new st0 (cC l a p)
  ·simp(disch:=decide) only[h12]
def PI (base:Bs):Prop:=∀ (s:List Nat) (st:St),uO s->s.length<=281474976710656->(s.length<=7->base.run 160 [.str s,.int .i64 10,.int .i64 64] st=.ok (.tup [.int .i64 (wT s:Int),.nilif]) st)/\(7<s.length->base.run 160 [.str s,.int .i64 10,.int .i64 64] st=.ok (.tup [.bad,.bad]) st)
theorem jpu (s:St)(K:AV->St->Prop):ji (JI γ .neq 254 true .nilif .nilif s) K=K (.bool false) s:=by
 have:JI γ .neq 254 true .nilif .nilif s=.ok (.bool false) s:=by kernel_rfl
 rw[this];rfl
theorem FzD.nx {s:St}{t:Tk}{e e':Int}{cs:List AV}(h1:cs=t.cells)(h2:e'=e):FzD 1 9 s (.tup [.agg cs,.int .i64 e']) (.tup [.agg t.cells,.int .i64 e]):=by
 subst h1 h2;exact FzD.tup (.cons (.agg (.pc rfl)) (.pc rfl))
theorem jpt (hb:NB base)(hP:PI base){l:List Nat}{a e n:Nat}{t:Tk}{p:Nat×Nat}(ha:a<=l.length)(hl:l.length<=1048576)(hp1:p.1<=1073741824)(hp2:p.2<=1073741824)(hp3:1<=p.2)(h:yN (l.drop a) p=(e,t,n)) :
  Met γ base 121 (cC l a p) [] (.ok (.tup [.agg t.cells,.int .i64 (e:Int)])) (cC l (a+n) (qa p ((l.drop a).take n))):=by
 refine PM.met ?_ rfl λp st=>hb.no 121 dc _ _;refine j2 x75 (by rfl) (hb.pur 121 3 dc) rfl ?_;simp only[y75,jh,ζ,η,θ,κ];rw[(by unfold z75;simp only[qq];rfl:z75=_)];have hrl:(l.drop a).length=l.length - a:=Qau;have S:=λ(n:Nat) (h:a+n<=l.length)=>@jgx base hb l a n p h om hp1 hp2 hp3;have C0:Cl (nw st0 (cC l a p)) 0 (cC l a p):=Cl.new st0 _;unfold cC at *;generalize hr:l.drop a=r at *;have hL:=UY hb;have hD:=jdy hb;have hI:=jdg hb;have hR:=kT hb r om hI;have hR2:=kT hb r om hD;have hK:=jic hb;have hS:=jo8 hb r om;have l1:=Y4 zT r;have l2:=Y4 qc r;have l3:=jaM r;have S1:=λst q=>@S (qX zT r) om st q;have S2:=λst q=>@S (qX qc r) om st q;have S3:=λst q=>@S (VU r) om st q;clear S;rcases r with _|⟨x,r'⟩
 ·simp only[yN,Prod.mk.injEq] at h;repeat'(first|apply jb<;>intro _|simp(disch:=first|exact dzA|fail) only[hr,rzZ,δ,ε])
  obtain⟨rfl,rfl,rfl⟩:=h;refine G1.done (c':=[_,_,_,_]) ?_ rfl rfl (FzD.tup (.cons (.agg (.pc rfl)) (.pc rfl)));simp(disch:=first|assumption|decide|omega|(simp only[je,jg,jk,jo,jj,yd,ν,φ];first|done|omega)) only[jA,jD,jz];exact C0
 ·have e0:x :: r'≠[]:=by simp
  have e1:(0:Int)<((x :: r').length:Int):=by simp
  have P0:qc x=true->uO ((x :: r').take (qX qc (x :: r'))):=λh=>jct h;have P1:qc x=true->qX qc (x :: r')<=7->∀ st K Kp,XB γ base 160 [.str ((x :: r').take (qX qc (x :: r'))),.int .i64 10,.int .i64 64] st K Kp=K (.tup [.int .i64 (wT ((x :: r').take (qX qc (x :: r'))):Int),.nilif]) st:=λh h7 st K Kp=>by
   have e:((x :: r').take (qX qc (x :: r'))).length<=7:=by rw[Qam];omega
   exact gj ((hP _ st (P0 h) om).1 e) K Kp
  have P2:qc x=true->7<qX qc (x :: r')->∀ st K Kp,XB γ base 160 [.str ((x :: r').take (qX qc (x :: r'))),.int .i64 10,.int .i64 64] st K Kp=K (.tup [.bad,.bad]) st:=λh h7 st K Kp=>by
   have e:((x :: r').take (qX qc (x :: r'))).length=qX qc (x :: r'):=by rw[Qam];omega
   exact gj ((hP _ st (P0 h) om).2 om) K Kp
  unfold yN at h;simp only at h;generalize qX zT (x :: r')=n1 at *;generalize qX qc (x :: r')=n2 at *;generalize VU (x :: r')=n3 at *;by_cases c1:zF x=true
  ·rw[if_pos c1] at h
   (have zz:=aI @jA (aI @jD @C0);(repeat'(first|apply jb<;>intro _|simp(disch:=first|exact vo|fail) only[hr,e0,e1,hL,hR,hK,S1,jA,jD,c1,jA,jD,C0,rzZ,δ,ε])))
   all_goals((first|rw[if_pos om] at h|rw[if_neg om] at h);(first|rw[if_pos (by assumption)] at h|rw[if_neg (by assumption)] at h|skip);simp only[Prod.mk.injEq] at h;obtain⟨rfl,rfl,rfl⟩:=h;refine G1.done (c':=[_,_,_,_]) ?_ rfl rfl (FzD.nx rfl rfl);simp(disch:=first|assumption|decide|omega|(simp only[je,jg,jk,jo,jj,yd,ν,φ];first|done|omega)) only[jA,jD,jz];first|exact C0|(refine Cl.wr0 (c:=[.str l,.int .i64 (a:Int),.int .i64 (p.1:Int),.int .i64 (p.2:Int)]) ?_ rfl;simp(disch:=first|assumption|decide|omega|(simp only[je,jg,jk,jo,jj,yd,ν,φ];first|done|omega)) only[jA,jD,jz];exact C0))
  ·rw[if_neg c1] at h;by_cases c2:qc x=true
   ·rw[if_pos c2] at h;by_cases h7:7<n2
    ·repeat'(first|apply jb<;>intro _|simp(disch:=first|exact dzA|fail) only[hr,e0,e1,hL,hD,hR2,P2,c1,c2,rzZ,δ,ε])
     all_goals((first|rw[if_pos om] at h|rw[if_neg om] at h);(first|rw[if_pos (by assumption)] at h|rw[if_neg (by assumption)] at h|skip);simp only[Prod.mk.injEq] at h;obtain⟨rfl,rfl,rfl⟩:=h;refine G1.done (c':=[_,_,_,_]) ?_ rfl rfl (FzD.nx rfl rfl);simp(disch:=first|assumption|decide|omega|(simp only[je,jg,jk,jo,jj,yd,ν,φ];first|done|omega)) only[jA,jD,jz];first|exact C0|(refine Cl.wr0 (c:=[.str l,.int .i64 (a:Int),.int .i64 (p.1:Int),.int .i64 (p.2:Int)]) ?_ rfl;simp(disch:=first|assumption|decide|omega|(simp only[je,jg,jk,jo,jj,yd,ν,φ];first|done|omega)) only[jA,jD,jz];exact C0))
    ·(have zz:=aI @jA (aI @jD @C0);(repeat'(first|apply jb<;>intro _|simp(disch:=first|exact vo|fail) only[hr,e0,e1,hL,hD,hR2,P1,S2,c1,c2,jpu,jA,jD,C0,rzZ,δ,ε])))
     all_goals((first|rw[if_pos om] at h|rw[if_neg om] at h);(first|rw[if_pos (by assumption)] at h|rw[if_neg (by assumption)] at h|skip);simp only[Prod.mk.injEq] at h;obtain⟨rfl,rfl,rfl⟩:=h;refine G1.done (c':=[_,_,_,_]) ?_ rfl rfl (FzD.nx rfl rfl);simp(disch:=first|assumption|decide|omega|(simp only[je,jg,jk,jo,jj,yd,ν,φ];first|done|omega)) only[jA,jD,jz];first|exact C0|(refine Cl.wr0 (c:=[.str l,.int .i64 (a:Int),.int .i64 (p.1:Int),.int .i64 (p.2:Int)]) ?_ rfl;simp(disch:=first|assumption|decide|omega|(simp only[je,jg,jk,jo,jj,yd,ν,φ];first|done|omega)) only[jA,jD,jz];exact C0))
   ·rw[if_neg c2] at h
    (have zz:=aI @jA (aI @jD @C0);(repeat'(first|apply jb<;>intro _|simp(disch:=first|exact vo|fail) only[hr,e0,e1,hL,hD,hS,S3,c1,c2,jA,jD,C0,rzZ,δ,ε])))
    all_goals((first|rw[if_pos om] at h|rw[if_neg om] at h);(first|rw[if_pos (by assumption)] at h|rw[if_neg (by assumption)] at h|skip);simp only[Prod.mk.injEq] at h;obtain⟨rfl,rfl,rfl⟩:=h;refine G1.done (c':=[_,_,_,_]) ?_ rfl rfl (FzD.nx rfl rfl);simp(disch:=first|assumption|decide|omega|(simp only[je,jg,jk,jo,jj,yd,ν,φ];first|done|omega)) only[jA,jD,jz];first|exact C0|(refine Cl.wr0 (c:=[.str l,.int .i64 (a:Int),.int .i64 (p.1:Int),.int .i64 (p.2:Int)]) ?_ rfl;simp(disch:=first|assumption|decide|omega|(simp only[je,jg,jk,jo,jj,yd,ν,φ];first|done|omega)) only[jA,jD,jz];exact C0))
theorem Tk.cells_l (t:Tk):t.cells.length=5:=nr rfl
theorem Tk.cells_g (t:Tk)(k:Nat):t.cells.getD k .bad=([.int .i64 (t.kind:Int),.str t.text,.int .i64 (t.num:Int),.int .i64 (t.line:Int),.int .i64 (t.col:Int)]:List AV).getD k .bad:=nr rfl
theorem Tk.cells_d (t:Tk)(k:Nat):t.cells.drop k=([.int .i64 (t.kind:Int),.str t.text,.int .i64 (t.num:Int),.int .i64 (t.line:Int),.int .i64 (t.col:Int)]:List AV).drop k:=nr rfl
theorem Tk.cells_p (t:Tk):t.cells.all pc=true:=rfl
theorem Tk.cells_c (t:Tk):lall AV.cell t.cells=true:=nr rfl
theorem Tk.cells_R:type_of% (a4 @Tk.cells_l @Tk.cells_g @Tk.cells_d (aI @Tk.cells_c (frE Tk.cells_l))):=(a4 @Tk.cells_l @Tk.cells_g @Tk.cells_d (aI @Tk.cells_c (frE Tk.cells_l)))
theorem Tk.cells_E:type_of% (aI @Tk.cells_l (aI @Tk.cells_c @Tk.cells_g)):=(aI @Tk.cells_l (aI @Tk.cells_c @Tk.cells_g))
theorem dzC {p:Prop}(h:p:=by first|assumption|decide|omega|(simp only[Tk.cells_E,rzN,ν,φ];first|done|omega)|(apply JQ<;>first|omega|((simp(disch:=first|assumption|omega|(simp only[Tk.cells_E,rzN,ν,φ];first|done|omega)) only[rzL,ν,φ,Qag,δ,Tk.cells_E ])<;>first|done|omega))|(simp(disch:=first|assumption|omega|(simp only[Tk.cells_E,rzN,ν,φ];first|done|omega)) only[Tk.cells_E,rzG,θ,κ,ε,QaG,ν,φ,Qad,Qaj];first|done|omega|decide)):p:=h
theorem jkr {p:Prop}(h:p:=by first|assumption|decide|omega|(simp only[Tk.cells_E,zz,rzN,ν,φ];first|done|omega)|(apply JQ<;>first|omega|((simp(disch:=first|assumption|omega|(simp only[Tk.cells_E,zz,rzN,ν,φ];first|done|omega)) only[rzL,ν,φ,Qag,δ,Tk.cells_E,zz ])<;>first|done|omega))|(simp(disch:=first|assumption|omega|(simp only[Tk.cells_E,zz,rzN,ν,φ];first|done|omega)) only[Tk.cells_E,zz,rzG,θ,κ,ε,QaG,ν,φ,Qad,Qaj];first|done|omega|decide)):p:=h
def zu (q:Nat×Nat×Nat):List AV:=[.int .i64 (q.1:Int),.int .i64 (q.2.1:Int),.int .i64 (q.2.2:Int)]
theorem jj0 {r:List Nat}{p:Nat×Nat}{e n:Nat}{t:Tk}(h:yN r p=(e,t,n)):t.line=p.1/\t.col=p.2:=by
 cases r with
 |nil=>simp[yN] at h;rw[<-h.2.1];exact⟨rfl,rfl⟩
 |cons x r'=>
  unfold yN at h;simp only at h;split at h
  ·split at h<;>(simp only[Prod.mk.injEq] at h;rw[<-h.2.1];exact⟨rfl,rfl⟩)
  ·split at h
   ·split at h<;>(simp only[Prod.mk.injEq] at h;rw[<-h.2.1];exact⟨rfl,rfl⟩)
   ·split at h<;>(simp only[Prod.mk.injEq] at h;rw[<-h.2.1];exact⟨rfl,rfl⟩)
theorem jl5 (hb:NB base)(hP:PI base)(l:List Nat)(hl:l.length<=9223372036854775807):Tot base 88 [.str l] (.tup [.lst (qi l).1.length (fl Tk.cells (qi l).1),.agg (zu (qi l).2)]):=by
 refine hb.tot ?_ rfl rfl;refine jF x35 (by rfl) (hb.pur 88 1 dc) ?_;simp only[y35,jh,ζ,η,θ,κ];rw[(by unfold z35;simp only[qq];rfl:z35=_)];repeat'(first|apply jb<;>intro _|simp(disch:=first|exact dzC|fail) only[Tk.cells_R,rzZ,δ,ε])
 ·rw[show qi l=([],(132,1,1)) from if_pos om];exact FzD.tup (.cons .nils (.cons (.agg (.pc (by rfl))) .nil))
 ·have hl:l.length<=65536:=om
  rw[show qi l=Jo l (1,1) from if_neg om];refine yz (λmm L s=>∃ (a:Nat) (p:Nat×Nat) (acc:List Tk) (v:AV),a<=l.length/\mm=l.length - a/\p.1+(l.length - a)<=l.length+1/\p.2+(l.length - a)<=l.length+1/\1<=p.2/\acc.length<=a/\ahead acc (Jo (l.drop a) p)=Jo l (1,1)/\2<=s.nx/\Cl s 0 [.int .i64 0,.int .i64 0,.int .i64 0]/\Cl s 1 (cC l a p)/\Lv 2 s.nx s v acc.length (fl Tk.cells acc) 5/\Has L 3 (.ptr 0 0)/\Has L 4 (.ptr 1 0)/\Has L 5 v) ?_ l.length ?_
  ·rintro mm L s ⟨a,p,acc,v,ha,rfl,h1,h2,h3,h4,h5,h6,C0,C1,V,i3,i4,i5⟩;obtain⟨m,hm⟩:∃ m,m=s.nx:=⟨_,rfl⟩;rw[<-hm] at V;have hm':m<=s.nx:=QaS hm;have hgl:=Un (l.drop a);rw[Qau] at hgl;have W:=uY ((l.drop a).take (j9 (l.drop a))) p h3;have hlt:((l.drop a).take (j9 (l.drop a))).length=j9 (l.drop a):=by rw[Qam,Qau];omega
   rw[hlt] at W;have B:=λst q=>@jkw base hb l a p ha om om h3 om st q;rcases hx:yN ((l.drop a).drop (j9 (l.drop a))) (qa p ((l.drop a).take (j9 (l.drop a)))) with ⟨e,t,n⟩
   have hN:=hx;rw[Qbl] at hN;have hnl:=UX hN;rw[Qau] at hnl;have N:=λst q=>@jpt base hb hP l (a+j9 (l.drop a)) e n t (qa p ((l.drop a).take (j9 (l.drop a)))) om om om om W.2.2 hN st q;have B1:=λK Kp=>B s 1 C1 K Kp;have N1:=λK Kp=>N (wr s 1 0 (cC l (a+j9 (l.drop a)) (qa p ((l.drop a).take (j9 (l.drop a)))))) 1 (C1.wr0 rfl) K Kp;clear B N;have hT:t.line=(qa p ((l.drop a).take (j9 (l.drop a)))).1/\t.col=(qa p ((l.drop a).take (j9 (l.drop a)))).2:=jj0 hN;generalize hq:qa p ((l.drop a).take (j9 (l.drop a)))=q at *;generalize hg:j9 (l.drop a)=g at *;have aE:=λ(he:e≠0)=>jh2 (acc:=acc) (by rw[hg,hq];exact hx) he;have W2:=uY ((l.drop (a+g)).take n) q W.2.2;have hlt2:((l.drop (a+g)).take n).length=n:=by rw[Qam,Qau];omega
   rw[hlt2] at W2;have A:=λst bv xc xx K h hv=>@JR 2 m acc.length 5 st v (fl Tk.cells acc) K 48 bv xc xx h dc om om hv;have V2:∀ st m',Lv 2 m st v acc.length (fl Tk.cells acc) 5->2<=st.nx->m'=st.nx+1->Lv 2 m' (aps v st t.cells) (apv 5 v st) (acc ++ [t]).length (fl Tk.cells (acc ++ [t])) 5:=λst m' h h2 h3=>by
    rw[υ,QY,JX];exact h.put (Tk.cells_l t) h2 h3
   unfold cC at *;by_cases he:e=0
   ·subst he;have hk:=Kf hN;by_cases hn:n=0
    ·subst hn;have k5:t.kind=5:=hk.1.2 rfl
     (have zz:=a4 V.ln @jC @jG (aI @V (aI C0.r C1.r));(repeat'(first|apply jb<;>intro _|simp(disch:=first|exact jkr|fail) only[ja i3,ja i4,ja i5,B1,N1,A,V.at,C0.q,C1.q,V.ln,jC,jG,V,C0.r,C1.r,Tk.cells_R,rzZ,δ,ε])))
     rw[<-h5,jh3 (by rw[hg,hq];exact hx)];refine FzD.tup (.cons ((?_:Lv 2 (s.nx+3) _ _ _ _ 5).fz (Qaa _) (zN Tk.cells_p _)) (.cons (.agg (.pc (by rfl))) .nil));simp(disch:=first|decide|omega) only[jH,jC];refine V2 _ _ ?_ (by simp only[je,jg];omega) (by simp only[je,jg]);simp(disch:=first|decide|omega|(simp only[je,jg];omega)) only[jH,jC,jG];exact V
    ·have k5:¬ (t.kind:Int)=5:=λh=>hn (hk.1.1 om)
     (have zz:=a4 V.ln @jC @jG (aI @V (aI C0.r C1.r));(repeat'(first|apply jb<;>intro _|simp(disch:=first|exact jkr|fail) only[ja i3,ja i4,ja i5,B1,N1,A,V.at,C0.q,C1.q,V.ln,jC,jG,V,C0.r,C1.r,Tk.cells_R,rzZ,δ,ε])))
     have hA:=jfE (acc:=acc) (show yN ((l.drop a).drop (j9 (l.drop a))) (qa p ((l.drop a).take (j9 (l.drop a))))=(0,t,n) by rw[hg,hq];exact hx) hn;rw[hg,hq] at hA;simp only[Qbl,<-Qbi] at hA;refine⟨l.length - (a+g+n),om,a+g+n,qa q ((l.drop (a+g)).take n),acc ++ [t],?_,om,rfl,om,om,W2.2.2,by rw[υ,List.length_singleton];omega,by rw[<-h5,hA],om,?_,?_,?_,?_,?_,?_⟩;rotate_left
     ·simp(disch:=first|decide|omega|(simp only[je,jg];omega)) only[V.cl,jA,jD];exact C0
     ·simp(disch:=first|decide|omega|(simp only[je,jg];omega)) only[V.cl,jA,jD];exact(C1.wr0 (by rfl)).wr0 (by rfl)
     ·refine V2 _ _ ?_ ?_ ?_;all_goals first|(simp only[je,jg];done)|(simp only[je,jg];omega)|(simp(disch:=first|decide|omega|(simp only[je,jg];omega)) only[jH,jC,jG];exact V)
     ·simp(disch:=decide) only[h12,i3]
     ·simp(disch:=decide) only[h12,i4]
     ·simp(disch:=decide) only[h12]
   ·(have zz:=a4 V.ln @jC @jG (aI @V (aI C0.r C1.r));(repeat'(first|apply jb<;>intro _|simp(disch:=first|exact jkr|fail) only[ja i3,ja i4,ja i5,B1,N1,A,V.at,C0.q,C1.q,V.ln,jC,jG,V,C0.r,C1.r,Tk.cells_R,rzZ,δ,ε])))
    rw[<-h5,aE he];exact FzD.tup (.cons .nils (.cons (.agg (.pc (by rfl))) .nil))
  ·refine⟨0,(1,1),[],.nils,om,rfl,om,om,μ _,Qaa _,jh1 _ _,μ _,?_,?_,Lv.nil,?_⟩
   ·simp(disch:=first|assumption|decide|omega|(simp only[je,jg,jk,jo,jj,yd,ν,φ];first|done|omega)) only[jA,jD,jz];exact Cl.new st0 _
   ·exact Cl.new (nw st0 _) _
   ·simp(disch:=decide) only[h12]
def ji6:XC:=(Oq [IS 2 0,Os 4] [ON 5 2,oF 6 5,OA 7 6 3,oy 8 7,OL 9 8 0 2,OI 10 8 9,Td 11 8 .eql 10 4,Iy 12 8 I7 11,oy 13 12,I5 14 13 1,Te 15 13 1 2,O2 16 13 15,OS 17 (13,true) 185 [] [14,16],Ts 18 13 17,Tw 18])
def jog:XF:=⟨[0,1],ji6,[(.t 4)]⟩
theorem jtj:jv γ 162=some jog:=by kernel_rfl
def ji3:XC:=(IX [IS 3 0,IS 4 1,IS 5 2,TB 6] (IV [Ol 7 14] 0 (.seq (oL [oy 8 7,O6 9 .lss 8 31] 9 .skip (.exit 0)) (II 1 (OB [Tu 12 7,(O8 13 188 12 0 [],some [Tj 13,Ib (Ta 14 3) 0,If (oF 15 14) 14 9 [(1,0)],Ib (oK 16 Iz) 0]),IK 14 1 3,I4 15 14 14 9 [(1,0)],IH (ow 16 (.strb .eql 13 15))] (Tl 16 [oy 17 7,Ti 18 4,Ti 19 5,Im 20 2 6 (OY oB oB oH oB oB) [((0,6),18),((6,6),19)],Tf 21 3,oF 22 21,oD 23 4 3,oF 24 23,IA 25 (OY oB oB oH oB oB) [((0,1),17),((3,1),20),((4,1),22),((5,1),24)],o7 6 6 25] .skip)) [oy 10 7,IP 11 10 1,oz 7 11]))) [IA 26 (OY oB oB oH oB oB) [],o7 6 6 26])
def jod:XF:=⟨[0,1,2],ji3,[(.cA 6 6)]⟩
theorem jtg:jv γ 172=some jod:=by kernel_rfl
def z94:XC:=(Oq [OH 0] [TI 1 1 oH [Og 0 [60,45,62]],IA 2 [.nils,oB] [((0,1),1),((1,1),Ov)],TI 3 1 oH [Og 0 [45,62]],IA 4 [.nils,oB] [((0,1),3),((1,1),OT)],TI 5 1 oH [OK 0 124],IA 6 [.nils,oB] [((0,1),5),((1,1),Ov)],TI 7 1 oH [OK 0 38],IA 8 [.nils,oB] [((0,1),7),((1,1),Ov)],TI 9 4 oH [OK 0 85,OK 1 82,OK 2 83,OK 3 84],IA 10 [.nils,oB] [((0,1),9),((1,1),OT)],TI 11 6 oH [OK 0 61,Og 1 [33,61],OK 2 60,Og 3 [60,61],OK 4 62,Og 5 [62,61]],IA 12 [.nils,oB] [((0,1),11),((1,1),IM 2)],TI 13 2 oH [OK 0 43,OK 1 45],IA 14 [.nils,oB] [((0,1),13),((1,1),Ov)],TI 15 1 oH [OK 0 42],IA 16 [.nils,oB] [((0,1),15),((1,1),Ov)],Im 17 8 2 [.nils,oB] [((0,2),2),((2,2),4),((4,2),6),((6,2),8),((8,2),10),((10,2),12),((12,2),14),((14,2),16)],oz 0 17])
def y94:XF:=⟨[],z94,[(.t 0)]⟩
theorem x94:jv γ 137=some y94:=by kernel_rfl
def z77:XC:=(ou [IS 3 1] (Or [Ix 4,O6 5 .geq 4 32] 5 [o6 6 5 3,Ou 7 98 6]))
def y77:XF:=⟨[0,1],z77,[]⟩
theorem x77:jv γ 123=some y77:=by kernel_rfl
def z50:XC:=(ou [IS 1 0] (.ops [Tf 2 1,oF 3 2,oD 4 4 1,oF 5 4,IA 6 [oB,oB,oB] [((0,1),IM 151),((1,1),3),((2,1),5)],ol 7 (.iface 71 6),o5 (.pan 7)]))
def y50:XF:=⟨[0],z50,[]⟩
theorem x50:jv γ 98=some y50:=by kernel_rfl
def z49:XC:=(oX [o9 2 [oB,oH,oB,oB,oB]] (.cops [O9 3,Is (Iu 4 3),Is (ON 5 4),OM 6 5,O9 7,Is (Iu 8 7),Is (Ta 9 8),OM 10 9,Is (Ig 11 5 6 10),Is (o6 12 5 11),Is (o7 5 2 12)]) .ret)
def y49:XF:=⟨[0],z49,[(.cA 2 5)]⟩
theorem x49:jv γ 97=some y49:=by kernel_rfl
def z76:XC:=(ou [o9 4 [oB,oH,oB,oB,oB],Os 5] (Oz [Ix 7,Ou 8 97 7,o9 6 [oB,oH,oB,oB,oB],o7 5 6 8] [o6 9 5 6,OP 10,OE 11 162 9 10,Tn 12 11] 12 [o6 13 5 6,o7 5 4 13,Os 5] (Oq [Ix 14,Iu 15 14,Ta 16 15,oF 17 16,IP 18 17 1,Iu 19 14,Ta 20 19,TK 20 18] [o6 21 5 6,o7 5 4 21,oK 5 Ik])))
def y76:XF:=⟨[0,1],z76,[(.cA 4 5),(.t 5)]⟩
theorem x76:jv γ 122=some y76:=by kernel_rfl
def gg:XC:=(ou [Ix 7,OP 8,TI 9 1 oH [((0,1),8)],OE 10 122 7 9,oy 6 10,O0 11 6,O1 12 6,o9 4 [oB,oH,oB,oB,oB],o7 5 4 11,oz 5 12] (Or [oy 13 5,Tn 14 13] 14 [o6 15 5 4,Ou 16 98 15]))
def jjq:XF:=⟨[0,1],gg,[]⟩
theorem joC:jv γ 164=some jjq:=by kernel_rfl
def jap:XC:=(ou [o9 2 [oB,oH,oB,oB,oB]] (oX [Ix 4,Ou 5 97 4,o9 3 [oB,oH,oB,oB,oB],o7 5 3 5] (Or [ON 6 3,oF 7 6,O6 8 .neq 7 1] 8 [o6 9 5 3,Ou 10 98 9]) (Oq [Ix 11,Iu 12 11,Ta 13 12,oF 14 13,IP 15 14 1,Iu 16 11,Ta 17 16,TK 17 15] [o6 18 5 3,o7 5 2 18])))
def jjr:XF:=⟨[0],jap,[(.cA 2 5)]⟩
theorem joD:jv γ 163=some jjr:=by kernel_rfl
def uU:XC:=(O7 [IJ 2] [Ix 7,TI 8 1 oH [OK 0 45],OE 9 122 7 8,oy 6 9,O0 10 6,O1 11 6,ol 3 (.alloc [oB,oH,oB,oB,oB]),o7 5 3 10,Tw 11] (oX [Ix 12,Ou 13 97 12,o9 5 [oB,oH,oB,oB,oB],o7 5 5 13] (Or [ON 14 5,oF 15 14,O6 16 .neq 15 2] 16 [o6 17 5 5,Ou 18 98 17]) (IX [Ix 19,Iu 20 19,Ta 21 20,oF 22 21,IP 23 22 1,Iu 24 19,Ta 25 24,TK 25 23] (ID [oz 26 4] 26 [oD 27 2 5,oF 28 27,ol 29 (.un .neg 28),O4 29]) [oD 30 2 5,oF 31 30,O4 31])))
def jaq:XF:=⟨[0],uU,[(.t 2)]⟩
theorem jej:jv γ 165=some jaq:=by kernel_rfl
def jan:XC:=(ou [Ix 2,Iu 3 2,oD 4 2 3,oF 5 4,IP 6 5 1,Iu 7 2,oD 8 2 7,TK 8 6] (Or [Ix 9,Iu 10 9,oD 11 2 10,oF 12 11,O6 13 .gtr 12 60] 13 [Ix 14,Ou 15 97 14,Ou 16 98 15]))
def jjo:XF:=⟨[0],jan,[]⟩
theorem joA:jv γ 187=some jjo:=by kernel_rfl
def J9:XC:=(O7 [TB 2] [Ix 5,Ou 6 97 5,o9 3 [oB,oH,oB,oB,oB],o7 5 3 6] (oX [Tf 7 3,oF 8 7,oD 9 4 3,oF 10 9,IA 11 (OY oB oB oH oB oB) [((4,1),8),((5,1),10)],TB 4,o7 6 4 11] (.block 0 (oL [ON 15 3,oF 16 15,OA 17 16 2,oz 14 17] 14 (.dops [IK 18 2 3,O5 19 18 18 2,IK 20 0 4,TC 1 20 OT [(1,2)],IK 21 1 4,TC 1 21 19 []]) (oL [ON 23 3,oF 24 23,OA 25 24 1,oz 22 25] 22 (.dops [IK 26 1 3,O5 27 26 26 9,IK 28 0 4,TC 1 28 (IM 3) [(1,9)],IK 29 2 4,TC 1 29 27 []]) (oL [o6 31 5 3,TI 32 1 oH [Og 0 [116,114,117,101]],OE 33 162 31 32,oz 30 33] 30 (.ops [ON 34 4,TK 34 (IM 2),Ta 35 4,TK 35 OT]) (oL [o6 37 5 3,TI 38 1 oH [Og 0 [102,97,108,115,101]],OE 39 162 37 38,oz 36 39] 36 (.ops [ON 40 4,TK 40 (IM 2)]) (oL [o6 42 5 3,TI 43 1 oH [OK 0 40],OE 44 162 42 43,oz 41 44] 41 (O7 [Ix 45,Iu 46 45,Ta 47 46,oF 48 47,IP 49 48 1,Iu 50 45,Ta 51 50,TK 51 49] [Ix 52,Ou 53 187 52] (O7 [Ix 54,Ie 55 137 [],OE 56 136 54 55,o7 6 4 56] [Ix 57,Iu 58 57,oD 59 2 58,oF 60 59,Ij 61 .sub 60 1,Iu 62 57,oD 63 2 62,TK 63 61] (Oq [Ix 64,OE 65 164 64 (oY [41])] [Ti 66 4,o7 6 2 66]))) (.ops [o6 12 5 3,Ou 13 98 12]))))))) (Oq [Ix 67,Iu 68 67,Ta 69 68,oF 70 69,IP 71 70 1,Iu 72 67,Ta 73 72,TK 73 71] [Ti 74 4,o7 6 2 74])))
def uc:XF:=⟨[0],J9,[(.cA 2 6)]⟩
theorem uV:jv γ 186=some uc:=by kernel_rfl
def wQ:XC:=(ou [TB 2] (Oz [Ix 8,TI 9 9 oH [OK 0 45,OK 1 33,OK 2 88,OK 3 70,OK 4 71,OK 5 89,OK 6 90,OK 7 79,OK 8 72],OE 10 122 8 9,oy 7 10,O0 11 7,O1 12 7,o9 3 [oB,oH,oB,oB,oB],o7 5 3 11,Tw 12] [Tc 13,Tn 14 13] 14 [Ix 15,Ou 16 186 15,o7 6 2 16] (ou [Ix 17,Ou 18 187 17] (O7 [Ix 19,Ou 20 171 19,TB 5,o7 6 5 20] [Ix 21,Iu 22 21,oD 23 2 22,oF 24 23,Ij 25 .sub 24 1,Iu 26 21,oD 27 2 26,TK 27 25] (IX [Ol 6 5] (Id 0 (.seq (OB [Tu 28 6,(O8 29 188 28 0 [],some [Tj 29,Ib (Ta 30 3) 0,If (oF 31 30) 30 9 [(1,0)],Ib (oK 32 Iz) 0]),IK 30 1 3,I4 31 30 30 9 [(1,0)],IH (ow 32 (.strb .neq 29 31))] (IT 32 0)) (.block 1 (.ops [oy 33 6,IP 34 33 1,oz 6 34])))) [oy 35 6,Ti 36 5,Im 37 1 6 (OY oB oB oH oB oB) [((0,6),36)],Tf 38 3,oF 39 38,oD 40 4 3,oF 41 40,IA 42 (OY oB oB oH oB oB) [((0,1),35),((3,1),37),((4,1),39),((5,1),41)],o7 6 2 42])))))
def gi:XF:=⟨[0],wQ,[(.cA 2 6)]⟩
theorem jaB:jv γ 171=some gi:=by kernel_rfl
def z93:XC:=(Oz [TB 4] [OP 8,IR 9 8,Tb 10 .eql 9] 10 [Ix 11,Ou 12 171 11,o7 6 4 12] (IV [Ix 13,OP 14,ol 15 (.slS 2 14 (some OT) none),OE 16 136 13 15,TB 5,o7 6 5 16] 0 (.block 1 (Oz [Ix 18,OP 19,Ig 20 2 19 Ov,ON 21 20,oF 22 21,OE 23 122 18 22,oy 17 23,O0 24 17,O1 25 17,o9 6 [oB,oH,oB,oB,oB],o7 5 6 24,oz 7 25] [oy 26 7,Tn 27 26] 27 [Ti 28 5,o7 6 4 28] (.seq (Ic [OP 29,Ig 30 2 29 Ov,Ta 31 30,oF 32 31,O6 33 .eql 32 1] 33 (OB [OV 34 5 6 6 194 [],OV 35 6 5 5 65 [],TF 36,IH (OP 37),(Iw (OE 38 136 36 37) 0 [(2,65),(3,194)],I6),(Iw (Ie 39 172 [34,35,38]) 0 [],I6),TC 6 4 39 []] .ret)) (OB [OV 40 5 6 6 194 [],OV 41 6 5 5 65 [],TF 42,IH (OP 43),IH (ol 44 (.slS 2 43 (some OT) none)),(Iw (OE 45 136 42 44) 0 [(3,65),(4,194)],I6),(Iw (Ie 46 172 [40,41,45]) 0 [],I6),TC 6 5 46 []] (ID [OP 47,Ig 48 2 47 Ov,Ta 49 48,oF 50 49,O6 51 .eql 50 2] 51 [Ti 52 5,o7 6 4 52])))))))
def y93:XF:=⟨[0,1],z93,[(.cA 4 6)]⟩
theorem x93:jv γ 136=some y93:=by kernel_rfl
def z48:XC:=(O7 [TB 2] [Ix 5,Ou 6 97 5,o9 3 [oB,oH,oB,oB,oB],o7 5 3 6] (IX [Ix 7,Ie 8 137 [],OE 9 136 7 8,TB 4,o7 6 4 9] (Or [Ti 10 4,Ou 11 138 10,Tn 12 11] 12 [o6 13 5 3,Ou 14 98 13]) [Ti 15 4,o7 6 2 15]))
def y48:XF:=⟨[0],z48,[(.cA 2 6)]⟩
theorem x48:jv γ 96=some y48:=by kernel_rfl
def jiS:XC:=(ou [oK 2 oH] (IX [IA 4 [oH,oH,oH,oH,oH,oH,oH,oH,oH,oH,oH,oH,oH,oH,oH,oH,oH,oH,oH,oH,oH,oH,oH,oH,oH,oH] [OK 0 45,OK 1 33,OK 2 88,OK 3 70,OK 4 71,OK 5 89,OK 6 90,OK 7 79,OK 8 72,OK 9 42,OK 10 43,OK 11 45,OK 12 61,Og 13 [33,61],OK 14 60,Og 15 [60,61],OK 16 62,Og 17 [62,61],OK 18 85,OK 19 82,OK 20 83,OK 21 84,OK 22 38,OK 23 124,Og 24 [45,62],Og 25 [60,45,62]],o9 3 [oH,oH,oH,oH,oH,oH,oH,oH,oH,oH,oH,oH,oH,oH,oH,oH,oH,oH,oH,oH,oH,oH,oH,oH,oH,oH],o7 26 3 4] (ID [Ix 5,Ij 6 .lss 5 5,oy 7 6,Ok 8 7 0,Td 9 7 .geq 8 31,On 10 7 I7 9] 10 [oK 2 oH]) [Ix 11,Ij 12 .sub 11 5,Ow 13 26 1 3 12,oF 14 13,O4 14]))
def jn1:XF:=⟨[0],jiS,[(.t 2)]⟩
theorem js4:jv γ 188=some jn1:=by kernel_rfl
def jiR:XC:=(IX [IJ 2] (.block 0 (oL [Ix 4,Ij 5 .geq 4 5,oy 6 5,I5 7 6 0,Iq 8 6 (o8 .leq 7 13),Ts 9 6 8,oz 3 9] 3 (o3 [Ol 2 1]) (ID [Ix 11,Ij 12 .geq 11 14,oy 13 12,I5 14 13 0,Iq 15 13 (o8 .lss 14 31),Ts 16 13 15,oz 10 16] 10 [Ol 2 2]))) [IJ 2])
def jn0:XF:=⟨[0],jiR,[(.t 2)]⟩
theorem js3:jv γ 189=some jn0:=by kernel_rfl
def jiQ:XC:=(IX [IS 1 0,Tv] (ou [ON 3 1,Ot 4 3] (.block 0 (TM 6 4 1 5 6 5 [Ta 7 1,oF 8 7,OG 9 .geq 8 oB,oy 10 9,Te 11 10 1 1,O2 12 10 11,Iq 13 10 (o8 .leq 12 1000000),Ts 14 10 13,oy 15 14,Te 16 15 2 1,O2 17 15 16,Iq 18 15 (.strb .eql 17 (.c oH)),Ts 19 15 18,O4 19] (TM 21 4 2 20 21 20 [Ta 22 1,oF 23 22,OG 24 .eql 23 oB,oy 25 24,OL 26 25 1 1,OI 27 25 26,Td 28 25 .eql 27 1,Iy 29 25 I7 28,oy 30 29,Te 31 30 2 1,O2 32 30 31,Iq 33 30 (.strb .eql 32 (.c oH)),Ts 34 30 33,O4 34] (TM 36 4 3 35 36 35 [Ta 37 1,oF 38 37,OG 39 .eql 38 oB,oy 40 39,Te 41 40 2 1,O2 42 40 41,OS 43 (40,true) 201 [] [42],Ts 44 40 43,O4 44] (ID (IY (OA 46 4 4) 45 46) 45 [oD 47 2 1,oF 48 47,O3 49 48 (.c oH),O4 49])))))) [Ta 50 1,oF 51 50,OG 52 .eql 51 oB,oy 53 52,Te 54 53 2 1,O2 55 53 54,Iq 56 53 (.strb .eql 55 (.c oH)),Ts 57 53 56,O4 57])
def jnZ:XF:=⟨[0],jiQ,[(.t 2)]⟩
theorem js2:jv γ 190=some jnZ:=by kernel_rfl
def z95:XC:=(Oq [IS 1 0,Tv] [Ti 3 1,OE 4 173 3 (IM 60),O4 4])
def y95:XF:=⟨[0],z95,[(.t 2)]⟩
theorem x95:jv γ 138=some y95:=by kernel_rfl
def jao:XC:=(IX [IS 2 0,IS 3 1,Os 4] (OB [IK 5 0 2,O5 6 5 5 3,IH (Ij 7 .lss 6 1),Tu 8 7,IH (OL 9 8 0 2),IE (OI 10 8 9) 9 3 [],IH (Td 11 8 .geq 10 31),IH (Iy 12 8 I7 11),Tu 13 12,IE (OI 14 13 3) 3 3 [],IH (Td 15 13 .lss 14 1),IH (Iy 16 13 I7 15),Tu 17 16,IH (OL 18 17 3 2),IE (OI 19 17 18) 18 63 [],IH (Ip 20 17 (.len 19)),IH (OL 21 17 0 2),IE (OI 22 17 21) 21 3 [],(Iw (OS 23 (17,false) 189 [] [22]) 0 [(3,63)],I6),IH (Ip 24 17 (.bin .neq 20 23)),IH (Iy 25 17 I7 24),Tu 26 25,IE (Ip 27 26 (.ldA 6 2)) 2 65 [],(Iw (OS 28 (26,false) 190 [] [27]) 0 [],I6),IH (Ip 29 26 (I0 28)),IH (On 30 26 I7 29)] (Tl 30 [Os 4] .skip)) [Tf 31 2,oF 32 31,ol 33 (.fn 192 [3]),OE 34 191 32 33,ol 35 (I0 34),Tw 35])
def jjp:XF:=⟨[0,1],jao,[(.t 4)]⟩
theorem joB:jv γ 173=some jjp:=by kernel_rfl
def jiO:XC:=(Oq [IS 2 0,Os 3] [Ti 4 2,oF 5 1,Ij 6 .sub 5 1,OE 7 173 4 6,ol 8 (I0 7),oz 3 8])
def jnX:XF:=⟨[0,1],jiO,[(.t 3)]⟩
theorem js0:jv γ 192=some jnX:=by kernel_rfl
def jiP:XC:=(Oq [Os 4] [Ix 5,OP 6,OE 7 202 5 6,OG 8 .geq 7 oB,Tw 8])
def jnY:XF:=⟨[0,1],jiP,[(.t 4)]⟩
theorem js1:jv γ 191=some jnY:=by kernel_rfl
def jiJ:XC:=(Tq [IJ 4] [Ix 6,IQ 7 6,IJ 8] 0 9 8 7 9 0 1 (OU 10 8 5 10) (ID [OP 11,Ix 12,oy 13 5,Ig 14 6 12 13,Ti 15 14,oE 16 true none 11 [15]] 16 (OU 17 5 4 17)) 18 8 1 8 18 [Ol 4 (-(0+1))])
def jnS:XF:=⟨[0,1],jiJ,[(.t 4)]⟩
theorem jsV:jv γ 202=some jnS:=by kernel_rfl
def jiT:XC:=(Oq [Os 4] [Ix 5,OP 6,OE 7 200 5 6,OG 8 .geq 7 oB,Tw 8])
def jn2:XF:=⟨[0,1],jiT,[(.t 4)]⟩
theorem js5:jv γ 185=some jn2:=by kernel_rfl
def jiL:XC:=(Tq [IJ 4] [Ix 6,IQ 7 6,IJ 8] 0 9 8 7 9 0 1 (OU 10 8 5 10) (ID [OP 11,Ix 12,oy 13 5,TJ 14 12 13,oF 15 14,ow 16 (.strb .eql 11 15)] 16 (OU 17 5 4 17)) 18 8 1 8 18 [Ol 4 (-(0+1))])
def jnU:XF:=⟨[0,1],jiL,[(.t 4)]⟩
theorem jsX:jv γ 200=some jnU:=by kernel_rfl
def jiK:XC:=(IX [Tv] (ID [Ix 3,O3 4 3 (.c oH),Tc 5,Ok 6 5 0,Ip 7 5 (.lenS 6),Td 8 5 .gtr 7 32,Iy 9 5 I7 8,oy 10 9,Ok 11 10 0,Ip 12 10 (.ixStr 11 Ov),OS 13 (10,false) 156 [] [12],Ip 14 10 (I0 13),Iy 15 10 I7 14,oy 16 15,Ok 17 16 0,OS 18 (16,false) 158 [] [17],On 19 16 I7 18] 19 [Tv]) [Ix 20,OE 21 151 20 (oQ 157 []),Ix 22,ol 23 (.lenS 22),IU 24 .eql 21 23,O4 24])
def jnT:XF:=⟨[0],jiK,[(.t 2)]⟩
theorem jsW:jv γ 201=some jnT:=by kernel_rfl
theorem dzD {p:Prop}(h:p:=by first|assumption|decide|omega|(simp only[qN,Tk.cells_E,rzN,ν,φ];first|done|omega)|(apply JQ<;>first|omega|((simp(disch:=first|assumption|omega|(simp only[qN,Tk.cells_E,rzN,ν,φ];first|done|omega)) only[rzL,ν,φ,Qag,δ,qN,Tk.cells_E ])<;>first|done|omega))|(simp(disch:=first|assumption|omega|(simp only[qN,Tk.cells_E,rzN,ν,φ];first|done|omega)) only[qN,Tk.cells_E,rzG,θ,κ,ε,QaG,ν,φ,Qad,Qaj];first|done|omega|decide)):p:=h
theorem cyD {p:Prop}(h:p:=by apply JQ<;>first|omega|((simp(disch:=first|assumption|omega|(simp only[qN,Tk.cells_E,rzN,ν,φ];first|done|omega)) only[rzL,ν,φ,Qag,δ,qN,Tk.cells_E])<;>first|done|rfl|omega|(simp;done)|(simp;omega))):p:=h
theorem qO {p:Prop}(h:p:=by first|assumption|decide|omega|(simp only[qN,Tk.cells_E,zz,rzN,ν,φ];first|done|omega)|(apply JQ<;>first|omega|((simp(disch:=first|assumption|omega|(simp only[qN,Tk.cells_E,zz,rzN,ν,φ];first|done|omega)) only[rzL,ν,φ,Qag,δ,qN,Tk.cells_E,zz ])<;>first|done|omega))|(simp(disch:=first|assumption|omega|(simp only[qN,Tk.cells_E,zz,rzN,ν,φ];first|done|omega)) only[qN,Tk.cells_E,zz,rzG,θ,κ,ε,QaG,ν,φ,Qad,Qaj];first|done|omega|decide)):p:=h
theorem qf {p:Prop}(h:p:=by apply JQ<;>first|omega|((simp(disch:=first|assumption|omega|(simp only[qN,Tk.cells_E,zz,rzN,ν,φ];first|done|omega)) only[rzL,ν,φ,Qag,δ,qN,Tk.cells_E,zz])<;>first|done|rfl|omega|(simp;done)|(simp;omega))):p:=h
theorem vyD {p:Prop}(h:p:=by first|exact FzD.u|exact FzD.pa (by rfl)|exact FzD.agg (.pc (by rfl))|exact FzD.tup (.cons (FzD.agg (.pc (by rfl))) (.pc (by rfl)))|exact FzD.iface (FzD.agg (.pc (by rfl)))|exact XU|(rw[<-qt];exact FzD.agg (.pc (q9 _)))|exact FzD.agg (.pc (by simp only[q9,Tk.cells_p]))):p:=h
theorem WY {S:List (List Nat)}{k:Nat}(h:k<S.length):(S.map AV.str).getD k .bad=.str S[k]:=by simp[ω,h]
theorem r6:type_of%(aI @jd (aI @Tk.cells_R @rzZ)):=aI @jd (aI @Tk.cells_R @rzZ)
theorem jl3 (hb:NB base)(S:List (List Nat))(hn:S.length<=1000000)(x:List Nat):Tot base 200 [.lst S.length (S.map .str),.str x] (.int .i64 (fi (λy=>decide (x=y)) S)):=by
 refine hb.tot ?_ rfl rfl;refine jF jsX (by rfl) (hb.pur 200 1 dc) ?_;simp only[jnU,jh,ζ,η,θ,κ];rw[(by unfold jiL;simp only[qq];rfl:jiL=_)];repeat'(first|apply jb<;>intro _|simp(disch:=first|exact dzD|fail) only[r6,δ,ε])
 refine jZ S.length (λk L s=>(∀ j (h1:j<S.length),j<k->decide (x=S[j])=false)/\Has L 0 (.lst S.length (S.map .str))/\Has L 1 (.str x)) ?_ (λk L s hk hI hi hn=>?_) (λL s hI=>?_)
 ·refine⟨λj _ hj=>absurd hj (QaJ _),?_⟩;simp(disch:=decide) only[h12]
 ·obtain⟨h0,i0,i1⟩:=hI;have hl:(S.map AV.str).length=S.length:=Qaq ..;have e:=WY hk
  (have zz:=@hl;(repeat'(first|apply jb<;>intro _|simp(disch:=first|exact qO|fail) only[ja i0,ja i1,ja hi,qU,e,hl,r6,δ,ε])))
  ·exact G0.v (by rw[WB hk (λj hj=>h0 j om hj) (by simpa using ‹x=S[k]›)]) rfl
  ·refine⟨⟨λj h1 hj=>?_,?_⟩,?_⟩
   ·rcases Qar j k with h|h
    ·simpa using h0 j h1 h
    ·have:j=k:=om
     subst this;simpa using ‹¬ x=S[j]›
   ·simp(disch:=decide) only[h12,i0,i1]
   ·simp(disch:=decide) only[h12,hi,hn]
 ·obtain⟨h0,i0,i1⟩:=hI;repeat'(first|apply jb<;>intro _|simp(disch:=first|exact dzD|fail) only[r6,δ,ε])
  exact G0.v (by rw[Wz λj hj=>h0 j hj hj];rfl) rfl
theorem je3 {α:Type}(q:α->Bool):∀ xs:List α,decide (0<=fi q xs)=xs.any q
 |[]=>rfl
 |x :: xs=>by
  have ih:=je3 q xs;by_cases h:q x=true
  ·simp[fi,h]
  ·rw[List.any_cons,<-ih];simp only[fi,h,if_false,Bool.false_or];by_cases h2:fi q xs<0
   ·rw[if_pos h2];simp;omega
   ·rw[if_neg h2];simp;omega
theorem jna (x:List Nat)(S:List (List Nat)):(S.any λy=>decide (x=y))=decide (x∈S):=by
 induction S with
 |nil=>rfl
 |cons y S ih=>rw[List.any_cons,ih];simp
theorem jqY (hb:NB base)(S:List (List Nat))(hn:S.length<=1000000)(x:List Nat):Tot base 185 [.lst S.length (S.map .str),.str x] (.bool (decide (x∈S))):=by
 refine hb.tot ?_ rfl rfl;refine jF js5 (by rfl) (hb.pur 185 1 dc) ?_;simp only[jn2,jh,ζ,η,θ,κ];rw[(by unfold jiT;simp only[qq];rfl:jiT=_)];repeat'(first|apply jb<;>intro _|simp(disch:=first|exact dzD|fail) only[jl3 hb S hn x,r6,δ,ε])
 exact G0.v (by rw[je3,jna]) rfl
def isM (t:Tk)(S:List (List Nat)):Bool:=decide (t.kind=3\/t.kind=4) && decide (t.text∈S)
theorem jqP (hb:NB base)(t:Tk)(S:List (List Nat))(hn:S.length<=1000000):PX γ base 162 [.agg t.cells,.lst S.length (S.map .str)] (.ok (.bool (isM t S))):=by
 refine jF jtj (by rfl) (hb.pur 162 1 dc) ?_;simp only[jog,jh,ζ,η,θ,κ];rw[(by unfold ji6;simp only[qq];rfl:ji6=_)];repeat'(first|apply jb<;>intro _|simp(disch:=first|exact dzD|fail) only[jqY hb S hn,r6,δ,ε])
 all_goals(refine G0.v ?_ rfl;unfold isM;simp;try omega)
theorem jqO (hb:NB base)(t:Tk)(S:List (List Nat))(hn:S.length<=1000000):Tot base 162 [.agg t.cells,.lst S.length (S.map .str)] (.bool (isM t S)):=hb.tot (jqP hb t S hn) rfl rfl
def er (t:Tk):AV:=.iface 71 (.agg [.int .i64 151,.int .i64 (t.line:Int),.int .i64 (t.col:Int)])
theorem G0.er (t:Tk){s:St}:G0 (er t) (.iface 71 (.agg [.int .i64 151,.int .i64 (t.line:Int),.int .i64 (t.col:Int)])) s:=FzD.iface (FzD.agg (.pc rfl))
theorem JZ (hb:NB base)(t:Tk):Ret base 98 [.agg t.cells] (.pn (er t)):=by
 refine hb.ret ?_ rfl rfl;refine jF x50 (by rfl) (hb.pur 98 1 dc) ?_;simp only[y50,jh,ζ,η,θ,κ];rw[(by unfold z50;simp only[qq];rfl:z50=_)];repeat'(first|apply jb<;>intro _|simp(disch:=first|exact dzD|fail) only[r6,δ,ε])
 exact G0.er t
theorem jpF (hb:NB base)(op:Int):Tot base 189 [.int .i64 op] (.int .i64 (if 5<=op/\op<=13 then 1 else if 14<=op/\op<31 then 2 else 0)):=by
 refine hb.tot ?_ rfl rfl;refine jF js3 (by rfl) (hb.pur 189 1 dc) ?_;simp only[jn0,jh,ζ,η,θ,κ];rw[(by unfold jiR;simp only[qq];rfl:jiR=_)];repeat'(first|apply jb<;>intro _|simp(disch:=first|exact dzD|fail) only[r6,δ,ε])
 all_goals(refine G0.v ?_ rfl;repeat' split)<;>first|rfl|(exfalso;omega)|(simp_all;done)|(simp;omega)|(simp_all;omega)
def wB:List (List Nat):=[[45],[33],[88],[70],[71],[89],[90],[79],[72],[42],[43],[45],[61],[33,61],[60],[60,61],[62],[62,61],[85],[82],[83],[84],[38],[124],[45,62],[60,45,62]]
def sgn (op:Int):List Nat:=if 5<=op/\op<31 then wB.getD (op - 5).toNat [] else []
theorem jh7 (hb:NB base)(op:Int):Tot base 188 [.int .i64 op] (.str (sgn op)):=by
 refine hb.tot ?_ rfl rfl;refine jF js4 (by rfl) (hb.pur 188 1 dc) ?_;simp only[jn1,jh,ζ,η,θ,κ];rw[(by unfold jiS;simp only[qq];rfl:jiS=_)];repeat'(first|apply jb<;>intro _|simp(disch:=first|exact dzD|fail) only[r6,δ,ε])
 ·exact G0.v (by rw[sgn,if_neg om]) rfl
 ·exact G0.v (by rw[sgn,if_neg om]) rfl
 ·have h26:(op - 5).toNat<wB.length:=by show(op - 5).toNat<26;omega
  show G0 _ ((wB.map AV.str).getD _ _) _;rw[QaG,WY h26];exact G0.v (by rw[sgn,if_pos om,Qan,Qai h26];rfl) rfl
def nm (l:List Nat):Bool:=decide (l≠[]) && decide (l.length<=32) && zF (l.getD 0 0) && !gP l && decide (qX zT l=l.length)
theorem jqM (hb:NB base)(l:List Nat)(hl:l.length<=4611686018427387904):Tot base 201 [.str l] (.bool (nm l)):=by
 refine hb.tot ?_ rfl rfl;have e0:¬ l=[]->0<l.length:=λh=>by cases l<;>simp_all
 refine jF jsW (by rfl) (hb.pur 201 1 dc) ?_;simp only[jnT,jh,ζ,η,θ,κ];rw[(by unfold jiK;simp only[qq];rfl:jiK=_)];by_cases h:l=[]
 ·subst h;repeat'(first|apply jb<;>intro _|simp(disch:=first|exact dzD|fail) only[r6,δ,ε])
  exact G0.v rfl rfl
 ·have e1:(0:Int)<(l.length:Int):=by have:=e0 h;omega
  repeat'(first|apply jb<;>intro _|simp(disch:=first|exact dzD|fail) only[UY hb,jic hb,kT hb l hl (jdg hb),h,e1,r6,δ,ε])
  all_goals(refine G0.v (congrArg AV.bool ?_) rfl;rw[Qay];unfold nm;simp_all<;>omega)
def Ws (x:Ex):Bool:=
 if x.op=1 then decide (0<=x.num) && decide (x.num<=1000000) && decide (x.name=[])
 else if x.op=2 then(decide (x.num=0) ||decide (x.num=1)) && decide (x.name=[])
 else if x.op=3 then decide (x.num=0) && nm x.name
 else if x.op=4 then decide (x.name=[])
 else decide (x.num=0) && decide (x.name=[])
theorem jpE (hb:NB base)(x:Ex)(hl:x.name.length<=4611686018427387904):Tot base 190 [.agg (eE x)] (.bool (Ws x)):=by
 refine hb.tot ?_ (by first|rfl|simp[pa,pc,q9,Tk.cells_p]) rfl;refine jF js2 (by rfl) (hb.pur 190 1 dc) ?_;simp only[jnZ,jh,ζ,η,θ,κ];rw[(by unfold jiQ;simp only[qq];rfl:jiQ=_)];repeat'(first|apply jb<;>intro _|simp(disch:=first|exact dzD|fail) only[jqM hb _ hl,r6,δ,ε])
 all_goals(refine G0.v ?_ rfl;simp only[Ws];simp[*];try omega)
theorem jgC (hb:NB base)(n:Nat)(t:Tk):Ret base 123 [.int .i64 (n:Int),.agg t.cells] (if 32<=n then .pn (er t) else .ok (.tup [])):=by
 refine hb.ret ?_ rfl rfl;refine jF x77 (by rfl) (hb.pur 123 1 dc) ?_;simp only[y77,jh,ζ,η,θ,κ];rw[(by unfold z77;simp only[qq];rfl:z77=_)];repeat'(first|apply jb<;>intro _|simp(disch:=first|exact dzD|fail) only[JZ hb,r6,δ,ε])
 ·rw[if_pos om];exact FzD.iface (FzD.agg (.pc rfl))
 ·rw[if_neg om];exact FzD.u
def QQ (v:List (List Nat)×Nat):List AV:=[.lst v.1.length (v.1.map .str),.int .i64 (v.2:Int)]
def zS:List (List (List Nat)×Nat):=[([[60,45,62]],0),([[45,62]],1),([[124]],0),([[38]],0),([[85],[82],[83],[84]],1),([[61],[33,61],[60],[60,61],[62],[62,61]],2),([[43],[45]],0),([[42]],0)]
theorem jbg (hb:NB base):Tot base 137 [] (.lst 8 (fl QQ zS)):=by
 refine hb.tot ?_ rfl rfl;refine jF x94 (by rfl) (hb.pur 137 1 dc) ?_;simp only[y94,jh,ζ,η,θ,κ];rw[(by unfold z94;simp only[qq];rfl:z94=_)];repeat'(first|apply jb<;>intro _|simp(disch:=first|exact dzD|fail) only[r6,δ,ε])
 exact⟨[8,0,1,2,3,4,5,6,7],by kernel_rfl,λb _=>Qaa _⟩
theorem jc9 {m d b cap:Nat}{s:St}{ks:List Ex}{op num l c:Int}{nm:List Nat}{ex:Bool}{cs:List AV}(C:Cl s b cs)(hc:cs=fl eE ks)(hm:m<=b) :
  FzD m (d+4) s (.agg [.int .i64 op,.int .i64 num,.str nm,.slice b 0 ks.length cap 6 ex,.int .i64 l,.int .i64 c]) (.agg (eE (.mk op num nm ks l c))):=by
 subst hc;rw[qt];have hl:=Jn Jd ks;refine FzD.agg (.cons (.pc rfl) (.cons (.pc rfl) (.cons (.pc rfl) (.cons (FzD.slice C.rw_ (QaS hl.symm) hm ?_) (.pc rfl)))));rw[<-hl,Qah];exact .pc (zN q9 ks)
theorem XU {m d:Nat}{s:St}{op num l c:Int}{nm:List Nat}:FzD m (d+2) s (.agg [.int .i64 op,.int .i64 num,.str nm,.nils,.int .i64 l,.int .i64 c]) (.agg (eE (.mk op num nm [] l c))):=by
 rw[qt];exact FzD.agg (.cons (.pc rfl) (.cons (.pc rfl) (.cons (.pc rfl) (.cons .nils (.pc rfl)))))
theorem jjB:Go.Ev.isAgg γ 9=some false:=by kernel_rfl
theorem jjA:Go.Ev.sizeOf γ 9=some 1:=by kernel_rfl
theorem kS {t:TypeId}{b i:Nat}{cs:List AV}{v:AV}{s:St}(h1:Go.Ev.isAgg γ t=some false)(h2:Go.Ev.sizeOf γ t=some 1)(C:Cl s b cs)(hi:i<cs.length)(hv:cs.getD i .bad=v)(hc:eqs v=true):jY γ t (.ptr b i) v s.h=true:=
 Qq h1 h2 (by rw[C.len];exact hi) ((C.cell i hi).trans hv) hc
section
variable {st:St} {K:AV->St->Prop}
theorem joP {z vs:List AV}{o:Nat}{a:List AV}(ha:z.take o=a)(h:o+vs.length=z.length):upd z o vs=a ++ vs:=by
 rw[<-uv z o vs om,ha,h];simp
theorem jqH {cx cy:List AV}{z0 z1 z2 z3 z4 z5:AV}(hx:cx.length=6)(hy:cy.length=6)(hlx:lall AV.cell cx=true)(hly:lall AV.cell cy=true) :
  ji (Ge 2 6 [z0,z1,z2,z3,z4,z5] [((0,6),.agg cx),((6,6),.agg cy)] st) K=K (.slice st.nx 0 2 2 6 true) (nw st (cx ++ cy)):=by
 have e1:upd ([z0,z1,z2,z3,z4,z5] ++ [z0,z1,z2,z3,z4,z5]) 0 cx=cx ++ [z0,z1,z2,z3,z4,z5]:=by
  rw[<-uv _ 0 cx (by rw[hx];exact Nat.le_add_left _ _),hx];rfl
 have e2:upd (cx ++ [z0,z1,z2,z3,z4,z5]) 6 cy=cx ++ cy:=joP (by rw[<-hx,List.take_left]) (by rw[υ,hx,hy];rfl);rw[jkC,VW,VW,kX,QaO,jah (v:=.agg cx) rfl hx (Nat.le_add_left 6 6),Ye,e1,jah (v:=.agg cy) rfl hy (by rw[υ,hx];exact μ 12),Ye,e2,jfH (by rw[jj7 _ _ hlx,hly])]
end
def Z4 (text:List Nat):Option Nat:=(Qab 17).find? λi=>decide (sgn ((14+i:Nat):Int)=text)
def Qc (t:Tk)(x y:Ex):Ex:=match Z4 t.text with
 |some i=>.mk ((14+i:Nat):Int) 0 [] [x,y] t.line t.col
 |none=>.mk 0 0 [] [] 0 0
theorem jjX {text:List Nat}{i:Nat}(hi:i<17)(h:sgn ((14+i:Nat):Int)=text)(hj:∀ j,j<i->sgn ((14+j:Nat):Int)≠text):Z4 text=some i:=by
 unfold Z4;rw[List.find?_range_eq_some];exact⟨by simpa using h,by simpa using hi,λj hj'=>by simpa using hj j hj'⟩
theorem jjW {text:List Nat}(hj:∀ j,j<17->sgn ((14+j:Nat):Int)≠text):Z4 text=none:=by
 unfold Z4;rw[List.find?_range_eq_none];exact λj hj'=>by simpa using hj j hj'
def zE:List AV:=[.int .i64 0,.int .i64 0,.str [],.nils,.int .i64 0,.int .i64 0]
theorem jrK (hb:NB base)(t:Tk)(x y:Ex):Tot base 172 [.agg t.cells,.agg (eE x),.agg (eE y)] (.agg (eE (Qc t x y))):=by
 refine hb.tot ?_ (by first|rfl|simp[pa,pc,q9,Tk.cells_p]) rfl;refine jF jtg (by rfl) (hb.pur 172 1 dc) ?_;simp only[jod,jh,ζ,η,θ,κ];rw[(by unfold ji3;simp only[qq];rfl:ji3=_)];repeat'(first|apply jb<;>intro _|simp(disch:=first|exact dzD|fail) only[r6,δ,ε])
 have hC:=Cl.new st0 t.cells;have hs:jY γ 9 (.ptr 0 1) (.str t.text) (nw (nw (nw (nw st0 t.cells) (eE x)) (eE y)) zE).h=true:=kS jjB jjA (((hC.nw _).nw _).nw _) (Qbv (QaN 3)) rfl rfl;unfold zE at hs;refine yz (λmm L s=>∃ i:Nat,i<=17/\mm=17 - i/\s=nw (nw (nw (nw st0 t.cells) (eE x)) (eE y)) zE/\(∀ j,j<i->sgn ((14+j:Nat):Int)≠t.text)/\Has L 3 (.ptr 0 0)/\Has L 4 (.ptr 1 0)/\Has L 5 (.ptr 2 0)/\Has L 6 (.ptr 3 0)/\Has L 7 (.int .i64 ((14+i:Nat):Int))) ?_ 17 ?_
 ·rintro mm L s ⟨i,hi,rfl,rfl,hj,i3,i4,i5,i6,i7⟩;unfold zE;have hS:=jh7 hb ((14+i:Nat):Int);repeat'(first|apply jb<;>intro _|simp(disch:=first|exact dzD|fail) only[ja i3,ja i4,ja i5,ja i6,ja i7,hS,hs,↓jqH,r6,δ,ε])
  ·have e:Qc t x y=.mk ((14+i:Nat):Int) 0 [] [x,y] t.line t.col:=by unfold Qc;rw[jjX om ‹_› hj]
   rw[e];refine jc9 (ks:=[x,y]) (cs:=eE x ++ eE y) ?_ (by simp[fl]) (Qaa _);simp(disch:=first|assumption|decide|omega|(simp only[je,jg,jk,jo,jj,yd,ν,φ];first|done|omega)) only[jA,jD,jz];exact Cl.new _ _
  ·refine⟨17 - (i+1),om,i+1,om,rfl,λj hj'=>?_,?_⟩
   ·by_cases h:j=i
    ·rw[h];assumption
    ·exact hj j om
   ·rw[show((14+(i+1):Nat):Int)=((14+i:Nat):Int)+1 by omega];simp(disch:=decide) only[h12,i3,i4,i5,i6]
  ·have e:Qc t x y=.mk 0 0 [] [] 0 0:=by unfold Qc;rw[jjW λj hj'=>hj j om]
   rw[e];exact XU
 ·refine⟨0,om,rfl,rfl,λj hj=>absurd hj (QaJ _),?_⟩;rw[show((14+0:Nat):Int)=14 from rfl];simp(disch:=decide) only[h12]
theorem jkX {P:Program}{f:FuncId}{xs:List AV}{st:St}{v:AV}{R:St->Prop}(h:∀ K Kp:AV->St->Prop,(∀ s,R s->K v s)->XB P base f xs st K Kp):∃ s,R s/\∀ K Kp:AV->St->Prop,XB P base f xs st K Kp=K v s:=by
 obtain⟨r,⟨N,D,h1⟩,h4⟩:=h (λv' s'=>v'=v/\R s') (λ_ _=>False) λs hs=>⟨rfl,hs⟩;cases r with
 |no=>exact h4.elim
 |pn v s=>exact h4.elim
 |ok v' s'=>
  obtain⟨rfl,hR⟩:=h4;exact⟨_,hR,λK Kp=>propext ⟨λ⟨r2,⟨N2,D2,h2⟩,h3⟩=>by
   have e1:=h1 (max N N2) (Qao ..) (max D D2) (Qao ..);have e2:=h2 (max N N2) (Qap ..) (max D D2) (Qap ..);rw[e1] at e2;subst e2;exact h3,λh=>⟨_,⟨N,D,h1⟩,h⟩⟩⟩
theorem jmV (hb:NB base)(xs:List Ex)(hn:xs.length<=4611686018427387904)(f:FuncId)(caps:List AV)(q:Ex->Bool){R:St->Prop}(hR:∀ s t:St,R s->R (bk t s))(hR2:∀ s:St,R s->R s.bare)
  (hq:∀ y∈xs,∀ s:St,R s->∃ s',R s'/\∀ K Kp:AV->St->Prop,XB γ base f (.agg (eE y) :: caps) s K Kp=K (.bool (q y)) s') {st:St} (h0:R st) :
  ∃ s',R s'/\∀ K Kp:AV->St->Prop,XB γ base 202 [.lst xs.length (fl eE xs),.fn f caps] st K Kp=K (.int .i64 (fi q xs)) s':=by
 refine jkX λK Kp hK=>?_;refine yr jsV (by rfl) (hb.at0 202 dc dc _ _) ?_;simp only[jnS,jh,ζ,η,θ,κ];rw[(by unfold jiJ;simp only[qq];rfl:jiJ=_)];have h0:=hR2 _ h0;have hK:∀ s,R s->K (.int .i64 (fi q xs)) (bk st s):=λs h=>hK _ (hR _ _ h);have hbk:bk st st.bare=st:=rfl;have hbc:back st st.bare=st:=rfl;have hbb:st.bare.bare=st.bare:=rfl;generalize st.bare=s0 at *;repeat'(first|apply jb<;>intro _|simp(disch:=first|exact dzD|fail) only[r6,δ,ε])
 refine jZ xs.length (λk L s=>R s/\(∀ j (h1:j<xs.length),j<k->q xs[j]=false)/\Has L 0 (.lst xs.length (fl eE xs))/\Has L 1 (.fn f caps)) ?_ (λk L s hk hI hi hn=>?_) (λL s hI=>?_)
 ·refine⟨h0,λj _ hj=>absurd hj (QaJ _),?_⟩;simp(disch:=decide) only[h12]
 ·obtain⟨hs,h0,i0,i1⟩:=hI;obtain⟨s',hs',e⟩:=hq xs[k] (Qaf hk) s hs;repeat'(first|apply jb<;>intro _|simp(disch:=first|exact dzD|fail) only[ja i0,ja i1,ja hi,e,r6,δ,ε])
  ·have:=hK _ (hR2 _ hs');rw[WB hk (λj hj=>h0 j om hj) ‹_›] at this;exact this
  ·refine⟨⟨hs',λj h1 hj=>?_,?_⟩,?_⟩
   ·rcases Qar j k with h|h
    ·exact h0 j h1 h
    ·have:j=k:=om
     subst this;simpa using ‹¬ q xs[j]=true›
   ·simp(disch:=decide) only[h12,i0,i1]
   ·simp(disch:=decide) only[h12,hi,hn]
 ·obtain⟨hs,h0,i0,i1⟩:=hI;repeat'(first|apply jb<;>intro _|simp(disch:=first|exact dzD|fail) only[r6,δ,ε])
  have:=hK _ (hR2 _ hs);rw[Wz λj hj=>h0 j hj hj] at this;exact this
theorem jqC (hb:NB base)(xs:List Ex)(hn:xs.length<=4611686018427387904)(f:FuncId)(caps:List AV)(q:Ex->Bool){R:St->Prop}(hR:∀ s t:St,R s->R (bk t s))(hR2:∀ s:St,R s->R s.bare)
  (hq:∀ y∈xs,∀ s:St,R s->∃ s',R s'/\∀ K Kp:AV->St->Prop,XB γ base f (.agg (eE y) :: caps) s K Kp=K (.bool (q y)) s') {st:St} (h0:R st) :
  ∃ s',R s'/\∀ K Kp:AV->St->Prop,XB γ base 191 [.lst xs.length (fl eE xs),.fn f caps] st K Kp=K (.bool (xs.any q)) s':=by
 refine jkX λK Kp hK=>?_;refine yr js1 (by rfl) (hb.at0 191 dc dc _ _) ?_;simp only[jnY,jh,ζ,η,θ,κ];rw[(by unfold jiP;simp only[qq];rfl:jiP=_)];have h0:=hR2 _ h0;have hK:∀ s,R s->K (.bool (xs.any q)) (bk st s):=λs h=>hK _ (hR _ _ h);have hbk:bk st st.bare=st:=rfl;have hbc:back st st.bare=st:=rfl;have hbb:st.bare.bare=st.bare:=rfl;generalize st.bare=s0 at *;obtain⟨s',hs',e⟩:=jmV hb xs hn f caps q hR hR2 hq h0;repeat'(first|apply jb<;>intro _|simp(disch:=first|exact dzD|fail) only[e,r6,δ,ε])
 rw[je3];exact hK _ hs'
def zt:Nat->Ex->Bool
 |0,_=>false
 |d+1,x=>decide (1<=x.op) && decide (x.op<31) && decide ((x.kids.length:Int)=if 5<=x.op/\x.op<=13 then 1 else if 14<=x.op/\x.op<31 then 2 else 0) && Ws x && x.kids.all (zt d)
theorem joS:Go.Ev.isAgg γ 3=some false:=by kernel_rfl
theorem joR:Go.Ev.sizeOf γ 3=some 1:=by kernel_rfl
theorem jll:Go.Ev.isAgg γ 63=some false:=by kernel_rfl
theorem jlk:Go.Ev.sizeOf γ 63=some 1:=by kernel_rfl
theorem HB:Go.Ev.isAgg γ 65=some true:=by kernel_rfl
theorem Hz:Go.Ev.sizeOf γ 65=some 6:=by kernel_rfl
theorem jpb {t:TypeId}{b k:Nat}{cs:List AV}{s:St}(h1:Go.Ev.isAgg γ t=some true)(h2:Go.Ev.sizeOf γ t=some k)(C:Cl s b cs)(hi:cs.length=k)(hk:0<k)(hc:cs.all eqs=true):jY γ t (.ptr b 0) (.agg cs) s.h=true:=
 Yt h1 h2 hk (by rw[C.len];omega) (by rw[C.ratsP k 0 om,Qba,<-hi,Qah]) hc
theorem jtG (hb:NB base){y:Ex}{d b:Nat}{v:Bool}(hd:d<=60)(ih:Tot base 173 [.agg (eE y),.int .i64 (d:Int)] (.bool v)){st:St}(C:Cl st b [.int .i64 ((d+1:Nat):Int)])(K Kp:AV->St->Prop) :
  XB γ base 192 [.agg (eE y),.ptr b 0] st K Kp=K (.bool (!v)) (nw st (eE y)):=by
 refine jef (λK Kp hK=>?_) K Kp;refine yr js0 (by rfl) (hb.at0 192 dc dc _ _) ?_;simp only[jnX,jh,ζ,η,θ,κ];rw[(by unfold jiO;simp only[qq];rfl:jiO=_)];have hK:K (.bool (!v)) (bk st (nw st.bare (eE y))):=hK;have C:=C.bar;have hbk:bk st st.bare=st:=rfl;have hbc:back st st.bare=st:=rfl;have hbb:st.bare.bare=st.bare:=rfl;generalize st.bare=s0 at *;have L0:=C.lt;have e:((d+1:Nat):Int) - 1=(d:Int):=om
 (have zz:=C.r;(repeat'(first|apply jb<;>intro _|simp(disch:=first|exact qO|fail) only[ih,e,C.q,C.r,r6,δ,ε])))
 exact hK
theorem UR (d:Nat)(x:Ex):zt (d+1) x=(decide (1<=x.op) && decide (x.op<31) && decide ((x.kids.length:Int)=if 5<=x.op/\x.op<=13 then 1 else if 14<=x.op/\x.op<31 then 2 else 0) && Ws x && x.kids.all (zt d)):=rfl
theorem jdI {α:Type}(p:α->Bool):∀ xs:List α,xs.all p = !(xs.any λx=>!p x)
 |[]=>rfl
 |x :: xs=>by rw[Qaz,List.any_cons,jdI p xs];cases p x<;>simp
theorem jmn (hb:NB base):∀ (d:Nat),d<=60->∀ x:Ex,szE x<=BIG->Tot base 173 [.agg (eE x),.int .i64 (d:Int)] (.bool (zt d x)):=by
 intro d;induction d with
 |zero=>
  intro _ x hx;refine hb.tot ?_ (by first|rfl|simp[pa,pc,q9,Tk.cells_p]) rfl;refine jF joB (by rfl) (hb.pur 173 1 dc) ?_;simp only[jjp,jh,ζ,η,θ,κ];rw[(by unfold jao;simp only[qq];rfl:jao=_)];repeat'(first|apply jb<;>intro _|simp(disch:=first|exact dzD|fail) only[r6,δ,ε])
  all_goals exact G0.v rfl rfl
 |succ d ih=>
  intro hd x hx;refine hb.tot ?_ (by first|rfl|simp[pa,pc,q9,Tk.cells_p]) rfl;refine jF joB (by rfl) (hb.pur 173 1 dc) ?_;simp only[jjp,jh,ζ,η,θ,κ];rw[(by unfold jao;simp only[qq];rfl:jao=_)];have hs1:∀ k v,k<6->(eE x).getD k .bad=v->eqs v=true->jY γ 3 (.ptr 0 k) v (nw (nw st0 (eE x)) [.int .i64 ((d+1:Nat):Int)]).h=true:=λk v hk hv hc=>kS joS joR ((Cl.new st0 (eE x)).nw _) (by rw[Jd];exact hk) hv hc;have hs2:jY γ 63 (.ptr 0 3) (.lst x.kids.length (fl eE x.kids)) (nw (nw st0 (eE x)) [.int .i64 ((d+1:Nat):Int)]).h=true:=kS jll jlk ((Cl.new st0 (eE x)).nw _) (by rw[Jd];decide) (jp9 x 3) rfl;have hs3:jY γ 65 (.ptr 0 0) (.agg (eE x)) (nw (nw st0 (eE x)) [.int .i64 ((d+1:Nat):Int)]).h=true:=jpb HB Hz ((Cl.new st0 (eE x)).nw _) (Jd x) dc (by rw[qt];rfl);have hkl:=wW x.kids;have hsz:=Zu x;have hB:BIG=1099511627776:=rfl;have hs:=UR d x;obtain⟨s',_,e⟩:=jqC hb x.kids om 192 [.ptr 1 0] (λy=>!zt d y) (R:=λs=>Cl s 1 [.int .i64 ((d+1:Nat):Int)]) (λs t h=>⟨h.lt,h.row,h.len,h.cell⟩) (λs h=>h.bar)
   (λy hy s C=>⟨nw s (eE y),C.nw _,λK Kp=>jtG hb om (ih om y (by
    obtain⟨k,hk,rfl⟩:=List.getElem_of_mem hy;have:=wA hk;omega)) C K Kp⟩) (Cl.new (nw st0 (eE x)) [.int .i64 ((d+1:Nat):Int)])
  repeat'(first|apply jb<;>intro _|simp(disch:=first|exact dzD|fail) only[jpF hb,jpE hb x om,hs1,hs2,hs3,e,r6,δ,ε])
  ·refine G0.v ?_ rfl;rw[hs];simp;omega
  ·refine G0.v ?_ rfl;rw[hs];simp;omega
  ·refine G0.v ?_ rfl;rw[hs];simp[*]
  ·refine G0.v ?_ rfl;rw[hs];simp[*]
  ·refine G0.v ?_ rfl;rw[hs,jdI];first|(simp[*];done)|(simp[*];omega)|(simp;intro _;refine⟨⟨⟨om,om⟩,by simp_all⟩,by simp_all⟩)
theorem jng (hb:NB base)(x:Ex)(hx:szE x<=BIG):Tot base 138 [.agg (eE x)] (.bool (zt 60 x)):=by
 refine hb.tot ?_ (by first|rfl|simp[pa,pc,q9,Tk.cells_p]) rfl;refine jF x95 (by rfl) (hb.pur 138 1 dc) ?_;simp only[y95,jh,ζ,η,θ,κ];rw[(by unfold z95;simp only[qq];rfl:z95=_)];have:Tot base 173 [.agg (eE x),.int .i64 60] (.bool (zt 60 x)):=jmn hb 60 (μ _) x hx;repeat'(first|apply jb<;>intro _|simp(disch:=first|exact dzD|fail) only[this,r6,δ,ε])
 exact G0.v rfl rfl
def tk (ts:List Tk)(i:Nat):Tk:=ts.getD i ⟨0,[],0,0,0⟩
theorem jlo {ts:List Tk}{i:Nat}(h:i<ts.length):ts[i]=tk ts i:=by simp[tk,ω,h]
def pC (ts:List Tk)(i d:Nat):List AV:=[.lst ts.length (fl Tk.cells ts),.int .i64 (i:Int),.int .i64 (d:Int)]
theorem Yx (hb:NB base){ts:List Tk}{i d:Nat}(hi:i<ts.length):Met γ base 97 (pC ts i d) [] (.ok (.agg (tk ts i).cells)) (pC ts i d):=by
 refine PM.met ?_ rfl λp st=>hb.no 97 dc _ _;refine j2 x49 (by rfl) (hb.pur 97 3 dc) rfl ?_;simp only[y49,jh,ζ,η,θ,κ];rw[(by unfold z49;simp only[qq];rfl:z49=_)];unfold pC;repeat'(first|apply jb<;>intro _|simp(disch:=first|exact dzD|fail) only[hi,r6,δ,ε])
 rw[jlo hi];refine G1.done ?_ rfl rfl (FzD.agg (.pc (by rfl)));simp(disch:=first|assumption|decide|omega|(simp only[je,jg,jk,jo,jj,yd,ν,φ];first|done|omega)) only[jA,jD,jz];exact Cl.new _ _
theorem uz (S:List (List Nat)):(S.map AV.str).all pc=true:=by induction S with|nil=>rfl|cons x S ih=>simp[pc]
theorem jgt (hb:NB base){ts:List Tk}{i d:Nat}(hi:i<ts.length)(h2:i<=1000000)(S:List (List Nat))(hS:S.length<=1000000) :
  (isM (tk ts i) S=true->PM γ base 122 (pC ts i d) [.lst S.length (S.map .str)] (.ok (.tup [.agg (tk ts i).cells,.bool true])) (pC ts (i+1) d)) /\
  (isM (tk ts i) S=false->PM γ base 122 (pC ts i d) [.lst S.length (S.map .str)] (.ok (.tup [.agg (tk ts i).cells,.bool false])) (pC ts i d)):=by
 have N:=λst p=>@Yx base hb ts i d hi st p;unfold pC at *;constructor<;>intro h
 ·refine j2 x76 (by rfl) (hb.pur 122 3 dc) rfl ?_;simp only[y76,jh,ζ,η,θ,κ];rw[(by unfold z76;simp only[qq];rfl:z76=_)];repeat'(first|apply jb<;>intro _|simp(disch:=first|exact dzD|fail) only[N,jqO hb (tk ts i) S hS,h,r6,δ,ε])
  (refine G1.done ?_ (by rfl) (by rfl) ?_;(· (first|exact cyD|fail));(· first|exact vyD|skip))
 ·refine j2 x76 (by rfl) (hb.pur 122 3 dc) rfl ?_;simp only[y76,jh,ζ,η,θ,κ];rw[(by unfold z76;simp only[qq];rfl:z76=_)];repeat'(first|apply jb<;>intro _|simp(disch:=first|exact dzD|fail) only[N,jqO hb (tk ts i) S hS,h,r6,δ,ε])
  (refine G1.done ?_ (by rfl) (by rfl) ?_;(· (first|exact cyD|fail));(· first|exact vyD|skip))
theorem joZ (hb:NB base){ts:List Tk}{i d:Nat}(hi:i<ts.length)(h2:i<=1000000)(S:List (List Nat))(hS:S.length<=1000000){st:St}{p:Nat}(C:Cl st p (pC ts i d))(K Kp:AV->St->Prop) :
  XB γ base 122 [.ptr p 0,.lst S.length (S.map .str)] st K Kp=ifW (isM (tk ts i) S=true) (K (.tup [.agg (tk ts i).cells,.bool true]) (wr st p 0 (pC ts (i+1) d))) (K (.tup [.agg (tk ts i).cells,.bool false]) (wr st p 0 (pC ts i d))):=by
 have T:=jgt hb hi h2 (d:=d) S hS;cases h:isM (tk ts i) S with
 |true=>rw[KA rfl];exact(T.1 h).xb C rfl (λst=>hb.no 122 dc _ _) K Kp
 |false=>rw[KB dc];exact(T.2 h).xb C rfl (λst=>hb.no 122 dc _ _) K Kp
theorem Yp (hb:NB base){ts:List Tk}{i d:Nat}(hi:i<ts.length)(h2:i<=1000000)(S:List (List Nat)){cs:List AV}{n:Nat}(hc:S.map .str=cs)(hn:S.length=n)(hS:n<=1000000)(st:St)(p b m:Nat)(x:Bool)(C:Cl st p (pC ts i d))(D:Cl st b cs)(hne:p≠b)(K Kp:AV->St->Prop) :
  XB γ base 122 [.ptr p 0,.slice b 0 n m 1 x] st K Kp=ifW (isM (tk ts i) S=true) (K (.tup [.agg (tk ts i).cells,.bool true]) (wr (kl b st) p 0 (pC ts (i+1) d))) (K (.tup [.agg (tk ts i).cells,.bool false]) (wr (kl b st) p 0 (pC ts i d))):=by
 subst hc hn;have T:=jgt hb hi h2 (d:=d) S hS;have F:Fza st [.slice b 0 S.length m 1 x] [.lst S.length (S.map .str)] [b]:=Fza.sl D (by simp) (uz S) .nil;have C':Cl (kills [b] st) p (pC ts i d):=(jS hne).symm▸C;cases h:isM (tk ts i) S with
 |true=>rw[KA rfl];exact(T.1 h).xbk C' F rfl (λst=>hb.no 122 dc _ _) K Kp
 |false=>rw[KB dc];exact(T.2 h).xbk C' F rfl (λst=>hb.no 122 dc _ _) K Kp
theorem jkc (hb:NB base)(t:Tk)(S:List (List Nat)){cs:List AV}{n:Nat}(hc:S.map .str=cs)(hn:S.length=n)(hS:n<=1000000)(st:St)(b m:Nat)(x:Bool)(D:Cl st b cs)(K Kp:AV->St->Prop) :
  XB γ base 162 [.agg t.cells,.slice b 0 n m 1 x] st K Kp=K (.bool (isM t S)) (kl b st):=by
 subst hc hn;have F:Fza st [.agg t.cells,.slice b 0 S.length m 1 x] [.agg t.cells,.lst S.length (S.map .str)] [b]:=Fza.pa (by rfl) (Fza.sl D (by simp) (uz S) .nil);exact(jqP hb t S hS).xf F (λst=>hb.no 162 dc _ _) K Kp
theorem jpv (hb:NB base){ts:List Tk}{i d:Nat}(hi:i<ts.length)(h2:i<=1000000)(c:List Nat) :
  (isM (tk ts i) [c]=true->PM γ base 164 (pC ts i d) [.str c] (.ok (.tup [])) (pC ts (i+1) d)) /\
  (isM (tk ts i) [c]=false->PM γ base 164 (pC ts i d) [.str c] (.pn (er (tk ts i))) (pC ts i d)):=by
 have T:=Yp hb hi h2 (d:=d) [c] (cs:=[.str c]) (n:=1) rfl rfl dc;unfold pC at *;constructor<;>intro h
 ·refine j2 joC (by rfl) (hb.pur 164 3 dc) rfl ?_;simp only[jjq,jh,ζ,η,θ,κ];rw[(by unfold gg;simp only[qq];rfl:gg=_)];repeat'(first|apply jb<;>intro _|simp(disch:=first|exact dzD|fail) only[T,h,JZ hb,r6,δ,ε])
  (refine G1.done ?_ (by rfl) (by rfl) ?_;(· (first|exact cyD|fail));(· first|exact vyD|skip))
 ·refine j2 joC (by rfl) (hb.pur 164 3 dc) rfl ?_;simp only[jjq,jh,ζ,η,θ,κ];rw[(by unfold gg;simp only[qq];rfl:gg=_)];repeat'(first|apply jb<;>intro _|simp(disch:=first|exact dzD|fail) only[T,h,JZ hb,r6,δ,ε])
  (refine G1.done ?_ (by rfl) (by rfl) ?_;(· (first|exact cyD|fail));(· first|exact vyD|skip))
theorem PM.two {P:Program}{f:FuncId}{cs xs c1 c2:List AV}{o1 o2:Oc}{q:Bool}(h:(q=true->PM P base f cs xs o1 c1)/\(q=false->PM P base f cs xs o2 c2))(hp:xs.all pa=true)(hb:∀ p st,base.run f (.ptr p 0 :: xs) st=.no){st:St}{p:Nat}(C:Cl st p cs)(K Kp:AV->St->Prop) :
  XB P base f (.ptr p 0 :: xs) st K Kp=ifW (q=true) (XT o1 K Kp (wr st p 0 c1)) (XT o2 K Kp (wr st p 0 c2)):=by
 cases hq:q with
 |true=>rw[KA rfl];exact(h.1 hq).xb C hp (hb p) K Kp
 |false=>rw[KB dc];exact(h.2 hq).xb C hp (hb p) K Kp
theorem Qt (hb:NB base){ts:List Tk}{i d:Nat}(hi:i<ts.length)(h2:i<=1000000)(c:List Nat){st:St}{p:Nat}(C:Cl st p (pC ts i d))(K Kp:AV->St->Prop) :
  XB γ base 164 [.ptr p 0,.str c] st K Kp=ifW (isM (tk ts i) [c]=true) (K (.tup []) (wr st p 0 (pC ts (i+1) d))) (Kp (er (tk ts i)) (wr st p 0 (pC ts i d))):=
 PM.two (o1:=.ok _) (o2:=.pn _) (jpv hb hi h2 c) rfl (λ_ _=>hb.no 164 dc _ _) C K Kp
theorem uG (hb:NB base){ts:List Tk}{i d:Nat}(hi:i<ts.length)(h2:i<=1000000){st:St}{p:Nat}(C:Cl st p (pC ts i d))(K Kp:AV->St->Prop) :
  XB γ base 163 [.ptr p 0] st K Kp=ifW (decide ((tk ts i).kind=1)=true) (K (.agg (tk ts i).cells) (wr st p 0 (pC ts (i+1) d))) (Kp (er (tk ts i)) (wr st p 0 (pC ts i d))):=by
 refine PM.two (o1:=.ok _) (o2:=.pn _) ?_ rfl (λ_ _=>hb.no 163 dc _ _) C K Kp;have N:=λst p=>@Yx base hb ts i d hi st p;unfold pC at *;clear C;constructor<;>intro h
 ·have h':((tk ts i).kind:Int)=1:=by simp at h;omega
  refine j2 joD (by rfl) (hb.pur 163 3 dc) rfl ?_;simp only[jjr,jh,ζ,η,θ,κ];rw[(by unfold jap;simp only[qq];rfl:jap=_)];repeat'(first|apply jb<;>intro _|simp(disch:=first|exact dzD|fail) only[N,h',JZ hb,r6,δ,ε])
  (refine G1.done ?_ (by rfl) (by rfl) ?_;(· (first|exact cyD|fail));(· first|exact vyD|skip))
 ·have h':¬ ((tk ts i).kind:Int)=1:=by simp at h;omega
  refine j2 joD (by rfl) (hb.pur 163 3 dc) rfl ?_;simp only[jjr,jh,ζ,η,θ,κ];rw[(by unfold jap;simp only[qq];rfl:jap=_)];repeat'(first|apply jb<;>intro _|simp(disch:=first|exact dzD|fail) only[N,h',JZ hb,r6,δ,ε])
  (refine G1.done ?_ (by rfl) (by rfl) ?_;(· (first|exact cyD|fail));(· first|exact vyD|skip))
theorem jgR (hb:NB base){ts:List Tk}{i d:Nat}(hi:i<ts.length)(h2:d<=1000000){st:St}{p:Nat}(C:Cl st p (pC ts i d))(K Kp:AV->St->Prop) :
  XB γ base 187 [.ptr p 0] st K Kp=ifW (decide (60<d+1)=true) (Kp (er (tk ts i)) (wr st p 0 (pC ts i (d+1)))) (K (.tup []) (wr st p 0 (pC ts i (d+1)))):=by
 refine PM.two (o1:=.pn _) (o2:=.ok _) ?_ rfl (λ_ _=>hb.no 187 dc _ _) C K Kp;have N:=λst p=>@Yx base hb ts i (d+1) hi st p;have e:((d:Int)+1)=((d+1:Nat):Int):=om
 unfold pC at *;clear C;constructor<;>intro h
 ·have h':(60:Int)<((d+1:Nat):Int):=by simp at h;omega
  refine j2 joA (by rfl) (hb.pur 187 3 dc) rfl ?_;simp only[jjo,jh,ζ,η,θ,κ];rw[(by unfold jan;simp only[qq];rfl:jan=_)];repeat'(first|apply jb<;>intro _|simp(disch:=first|exact dzD|fail) only[N,h',JZ hb,e,r6,δ,ε])
  (refine G1.done ?_ (by rfl) (by rfl) ?_;(· (first|exact cyD|fail));(· first|exact vyD|skip))
 ·have h':¬ (60:Int)<((d+1:Nat):Int):=by simp at h;omega
  refine j2 joA (by rfl) (hb.pur 187 3 dc) rfl ?_;simp only[jjo,jh,ζ,η,θ,κ];rw[(by unfold jan;simp only[qq];rfl:jan=_)];repeat'(first|apply jb<;>intro _|simp(disch:=first|exact dzD|fail) only[N,h',JZ hb,e,r6,δ,ε])
  (refine G1.done ?_ (by rfl) (by rfl) ?_;(· (first|exact cyD|fail));(· first|exact vyD|skip))
abbrev Lev:=List (List Nat)×Nat
def zh:List (List Nat):=[[45],[33],[88],[70],[71],[89],[90],[79],[72]]
def V4 (text:List Nat):Nat:=5+zh.idxOf text
inductive PR where
 |ok (x:Ex) (j:Nat)
 |er (t:Tk)
mutual
def yO (ts:List Tk):Nat->List Lev->Nat->Nat->Option PR
 |0,_,_,_=>none
 |n+1,[],i,d=>Qf ts n i d
 |n+1,v :: l,i,d=>match yO ts n l i d with
  |some (.ok x j)=>QE ts n v l x j d
  |r=>r
def QE (ts:List Tk):Nat->Lev->List Lev->Ex->Nat->Nat->Option PR
 |0,_,_,_,_,_=>none
 |n+1,v,l,x,i,d=>
  if isM (tk ts i) v.1=true then
   (if v.2=1 then(match yO ts n (v :: l) (i+1) d with
    |some (.ok y j)=>some (.ok (Qc (tk ts i) x y) j)
    |r=>r)
   else(match yO ts n l (i+1) d with
    |some (.ok y j)=>if v.2=2 then some (.ok (Qc (tk ts i) x y) j) else QE ts n v l (Qc (tk ts i) x y) j d
    |r=>r))
  else some (.ok x i)
def Qf (ts:List Tk):Nat->Nat->Nat->Option PR
 |0,_,_=>none
 |n+1,i,d=>
  if isM (tk ts i) zh=true then
   (if 60<d+1 then some (.er (tk ts (i+1))) else(match Qf ts n (i+1) (d+1) with
    |some (.ok x j)=>some (.ok (.mk (V4 (tk ts i).text:Nat) 0 [] [x] (tk ts i).line (tk ts i).col) j)
    |r=>r))
  else XQ ts n i d
def XQ (ts:List Tk):Nat->Nat->Nat->Option PR
 |0,_,_=>none
 |n+1,i,d=>
  if(tk ts i).kind=2 then some (.ok (.mk 1 (tk ts i).num [] [] (tk ts i).line (tk ts i).col) (i+1))
  else if(tk ts i).kind=1 then some (.ok (.mk 3 0 (tk ts i).text [] (tk ts i).line (tk ts i).col) (i+1))
  else if isM (tk ts i) [[116,114,117,101]]=true then some (.ok (.mk 2 1 [] [] (tk ts i).line (tk ts i).col) (i+1))
  else if isM (tk ts i) [[102,97,108,115,101]]=true then some (.ok (.mk 2 0 [] [] (tk ts i).line (tk ts i).col) (i+1))
  else if isM (tk ts i) [[40]]=true then
   (if 60<d+1 then some (.er (tk ts (i+1))) else(match yO ts n zS (i+1) (d+1) with
    |some (.ok x j)=>if isM (tk ts j) [[41]]=true then some (.ok x (j+1)) else some (.er (tk ts j))
    |r=>r))
  else some (.er (tk ts i))
end
structure Wds (ts:List Tk):Prop where
 len:ts.length<=1000000
 next:∀ i,i<ts.length->(tk ts i).kind≠5->i+1<ts.length
 txt:∀ i,(tk ts i).text.length<=65536
theorem Wv {t:Tk}{S:List (List Nat)}(h:isM t S=true):(t.kind=3\/t.kind=4)/\t.text∈S:=by
 simpa[isM] using h
theorem Wds.isM {ts:List Tk}(W:Wds ts){i:Nat}(hi:i<ts.length){S:List (List Nat)}(h:isM (tk ts i) S=true):i+1<ts.length:=W.next i hi (by have:=(Wv h).1;omega)
def Sz (ts:List Tk)(i:Nat)(a:Nat)(r:PR):Prop:=match r with | .ok x j=>i<=j/\j<ts.length/\szE x<=a+(j - i) * 65537 | .er _=>True
theorem wX (op num:Int)(nm:List Nat)(ks:List Ex)(l c:Int):szE (.mk op num nm ks l c)=zg ks+nm.length+1:=rfl
theorem jmj (t:Tk)(x y:Ex):szE (Qc t x y)<=szE x+szE y+1:=by
 unfold Qc;split
 ·rw[wX];simp[zg]
 ·rw[wX];simp[zg]
theorem kN {ts:List Tk}(W:Wds ts):∀ n,(∀ lv i d r,yO ts n lv i d=some r->i<ts.length->Sz ts i 0 r)/\(∀ v l x i d r,QE ts n v l x i d=some r->i<ts.length->Sz ts i (szE x) r)/\(∀ i d r,Qf ts n i d=some r->i<ts.length->Sz ts i 0 r)/\(∀ i d r,XQ ts n i d=some r->i<ts.length->Sz ts i 0 r):=by
 intro n;induction n with
 |zero=>exact⟨λ_ _ _ _ h=>(by simp[yO] at h),λ_ _ _ _ _ _ h=>(by simp[QE] at h),λ_ _ _ h=>(by simp[Qf] at h),λ_ _ _ h=>(by simp[XQ] at h)⟩
 |succ n ih=>
  obtain⟨iE,iL,iP,iV⟩:=ih;refine⟨λlv i d r h hi=>?_,λv l x i d r h hi=>?_,λi d r h hi=>?_,λi d r h hi=>?_⟩
  ·cases lv with
   |nil=>unfold yO at h;exact iP i d r h hi
   |cons v l=>
    unfold yO at h;cases hx:yO ts n l i d with
    |none=>rw[hx] at h;cases h
    |some q=>cases q with
     |er t=>rw[hx] at h;cases h;trivial
     |ok x j=>
      rw[hx] at h;have h1:=iE l i d _ hx hi;have h2:=iL v l x j d r h h1.2.1;cases r with
      |er t=>trivial
      |ok y k=>
       simp only[Sz] at h1 h2 ⊢;obtain⟨a1,a2,a3⟩:=h1;obtain⟨b1,b2,b3⟩:=h2;refine⟨om,b2,?_⟩;have:(k - i) * 65537=(k - j) * 65537+(j - i) * 65537:=by rw[<-QaD];congr 1;omega
       omega
  ·unfold QE at h;by_cases c:isM (tk ts i) v.1=true
   ·rw[if_pos c] at h;have hi1:=W.isM hi c;have key:∀ lv y j,yO ts n lv (i+1) d=some (.ok y j)->i<=j/\j<ts.length/\szE (Qc (tk ts i) x y)<=szE x+(j - i) * 65537:=λlv y j he=>by
     have h1:=iE lv (i+1) d _ he hi1;simp only[Sz] at h1;obtain⟨a1,a2,a3⟩:=h1;have:=jmj (tk ts i) x y;have:(j - i) * 65537=(j - (i+1)) * 65537+65537:=by rw[<-QaR];congr 1;omega
     exact⟨om,a2,om⟩
    by_cases w1:v.2=1
    ·rw[if_pos w1] at h;cases he:yO ts n (v :: l) (i+1) d with
     |none=>rw[he] at h;cases h
     |some q=>cases q with
      |er t=>rw[he] at h;cases h;trivial
      |ok y j=>rw[he] at h;cases h;exact key _ y j he
    ·rw[if_neg w1] at h;cases he:yO ts n l (i+1) d with
     |none=>rw[he] at h;cases h
     |some q=>cases q with
      |er t=>rw[he] at h;cases h;trivial
      |ok y j=>
       rw[he] at h;have hk:=key _ y j he;by_cases w2:v.2=2
       ·simp only[w2,if_true] at h;cases h;exact hk
       ·simp only[w2,if_false] at h;have h2:=iL v l _ j d r h hk.2.1;cases r with
        |er t=>trivial
        |ok z k=>
         simp only[Sz] at h2 ⊢;obtain⟨b1,b2,b3⟩:=h2;refine⟨om,b2,?_⟩;have:(k - i) * 65537=(k - j) * 65537+(j - i) * 65537:=by rw[<-QaD];congr 1;omega
         omega
   ·rw[if_neg c] at h;cases h;exact⟨μ _,hi,om⟩
  ·unfold Qf at h;by_cases c:isM (tk ts i) zh=true
   ·rw[if_pos c] at h;have hi1:=W.isM hi c;by_cases hd:60<d+1
    ·rw[if_pos hd] at h;cases h;trivial
    ·rw[if_neg hd] at h;cases he:Qf ts n (i+1) (d+1) with
     |none=>rw[he] at h;cases h
     |some q=>cases q with
      |er t=>rw[he] at h;cases h;trivial
      |ok y j=>
       rw[he] at h;cases h;have h1:=iP (i+1) (d+1) _ he hi1;simp only[Sz] at h1 ⊢;obtain⟨a1,a2,a3⟩:=h1;have:(j - i) * 65537=(j - (i+1)) * 65537+65537:=by rw[<-QaR];congr 1;omega
       refine⟨om,a2,?_⟩;rw[wX];simp[zg];omega
   ·rw[if_neg c] at h;exact iV i d r h hi
  ·unfold XQ at h;have ht:=W.txt i;have leaf:∀ (x:Ex),szE x<=65537->i+1<ts.length->Sz ts i 0 (.ok x (i+1)):=λx hx h1=>⟨om,h1,om⟩;by_cases k2:(tk ts i).kind=2
   ·rw[if_pos k2] at h;cases h;exact leaf _ (by rw[wX];simp[zg]) (W.next i hi om)
   rw[if_neg k2] at h;by_cases k1:(tk ts i).kind=1
   ·rw[if_pos k1] at h;cases h;exact leaf _ (by rw[wX];simp[zg];omega) (W.next i hi om)
   rw[if_neg k1] at h;split at h
   ·cases h;exact leaf _ (by rw[wX];simp[zg]) (W.isM hi ‹_›)
   split at h
   ·cases h;exact leaf _ (by rw[wX];simp[zg]) (W.isM hi ‹_›)
   split at h
   ·rename_i c;have hi1:=W.isM hi c;by_cases hd:60<d+1
    ·rw[if_pos hd] at h;cases h;trivial
    ·rw[if_neg hd] at h;cases he:yO ts n zS (i+1) (d+1) with
     |none=>rw[he] at h;cases h
     |some q=>cases q with
      |er t=>rw[he] at h;cases h;trivial
      |ok y j=>
       rw[he] at h;have h1:=iE zS (i+1) (d+1) _ he hi1;simp only[Sz] at h1;obtain⟨a1,a2,a3⟩:=h1;dsimp only at h;by_cases c2:isM (tk ts j) [[41]]=true
       ·rw[if_pos c2] at h;cases h;have:=W.isM a2 c2;simp only[Sz];exact⟨om,this,ψ a3 (Nat.add_le_add_left (Qax _ om) _)⟩
       ·rw[if_neg c2] at h;cases h;trivial
   ·cases h;trivial
def Ans (base:Bs)(f:FuncId)(c xs:List AV)(ts:List Tk)(d:Nat):PR->Prop
 |.ok x j=>PM γ base f c xs (.ok (.agg (eE x))) (pC ts j d)
 |.er t=>∃ i' d',PM γ base f c xs (.pn (er t)) (pC ts i' d')
def okL (lv:List Lev):Prop:=lv.length<=8/\∀ v∈lv,v.1.length<=6
def IsE (base:Bs)(ts:List Tk)(n:Nat):Prop:=∀ lv i d r,yO ts n lv i d=some r->i<ts.length->d<=60->okL lv->Ans base 136 (pC ts i d) [.lst lv.length (fl QQ lv)] ts d r
def IsP (base:Bs)(ts:List Tk)(n:Nat):Prop:=∀ i d r,Qf ts n i d=some r->i<ts.length->d<=60->Ans base 171 (pC ts i d) [] ts d r
def IsV (base:Bs)(ts:List Tk)(n:Nat):Prop:=∀ i d r,XQ ts n i d=some r->i<ts.length->d<=60->Ans base 186 (pC ts i d) [] ts d r
theorem jtE:Go.Ev.isAgg γ 2=some false:=by kernel_rfl
theorem jtD:Go.Ev.sizeOf γ 2=some 1:=by kernel_rfl
theorem jrv:Go.Ev.isAgg γ 194=some true:=by kernel_rfl
theorem jru:Go.Ev.sizeOf γ 194=some 5:=by kernel_rfl
theorem sm2 {b o:Nat}{v:AV}{h:T AO}(ho:o<qh h b)(hv:rat h b o=v)(hc:eqs v=true):(jY γ 2 (.ptr b o) v h=true)=True:=eq_true (Qq jtE jtD ho hv hc)
theorem sm9 {b o:Nat}{v:AV}{h:T AO}(ho:o<qh h b)(hv:rat h b o=v)(hc:eqs v=true):(jY γ 9 (.ptr b o) v h=true)=True:=eq_true (Qq jjB jjA ho hv hc)
theorem yG (k:IntKind)(n:Int):eqs (.int k n)=true:=nr rfl
theorem yF (l:List Nat):eqs (.str l)=true:=nr rfl
set_option maxHeartbeats 4000000 in
theorem jl9 (hb:NB base){ts:List Tk}(W:Wds ts){n:Nat}(ihE:IsE base ts n):IsV base ts (n+1):=by
 intro i d r h hi hd;have hN:=λst p=>@Yx base hb ts i d hi st p;have wl:=W.len;have hx:(i:Int)+1=((i+1:Nat):Int):=om
 unfold XQ at h;by_cases k2:(tk ts i).kind=2
 ·rw[if_pos k2] at h;cases h;have k2':((tk ts i).kind:Int)=2:=om
  show PM _ _ _ _ _ _ _;unfold pC at *;refine j2 uV (by rfl) (hb.pur 186 3 dc) rfl ?_;simp only[uc,jh,ζ,η,θ,κ];rw[(by unfold J9;simp only[qq];rfl:J9=_)]
  (have zz:=aI @yG @yF;(repeat'(first|apply jb<;>intro _|simp(disch:=first|exact qO|fail) only[hN,k2',sm2,yG,yF,r6,δ,ε])))
  (refine G1.done ?_ (by rfl) (by rfl) ?_;(· (first|exact cyD|fail));(· first|exact vyD|skip))
 rw[if_neg k2] at h;have k2':¬ ((tk ts i).kind:Int)=2:=om
 by_cases k1:(tk ts i).kind=1
 ·rw[if_pos k1] at h;cases h;have k1':((tk ts i).kind:Int)=1:=om
  show PM _ _ _ _ _ _ _;unfold pC at *;refine j2 uV (by rfl) (hb.pur 186 3 dc) rfl ?_;simp only[uc,jh,ζ,η,θ,κ];rw[(by unfold J9;simp only[qq];rfl:J9=_)]
  (have zz:=aI @yG @yF;(repeat'(first|apply jb<;>intro _|simp(disch:=first|exact qO|fail) only[hN,k2',k1',sm9,yG,yF,r6,δ,ε])))
  (refine G1.done ?_ (by rfl) (by rfl) ?_;(· (first|exact cyD|fail));(· first|exact vyD|skip))
 rw[if_neg k1] at h;have k1':¬ ((tk ts i).kind:Int)=1:=om
 have T:=jkc hb (tk ts i) [[116,114,117,101]] (cs:=[.str [116,114,117,101]]) (n:=1) rfl rfl dc;have F:=jkc hb (tk ts i) [[102,97,108,115,101]] (cs:=[.str [102,97,108,115,101]]) (n:=1) rfl rfl dc;have B:=jkc hb (tk ts i) [[40]] (cs:=[.str [40]]) (n:=1) rfl rfl dc;by_cases c1:isM (tk ts i) [[116,114,117,101]]=true
 ·rw[if_pos c1] at h;cases h;show PM _ _ _ _ _ _ _;unfold pC at *;refine j2 uV (by rfl) (hb.pur 186 3 dc) rfl ?_;simp only[uc,jh,ζ,η,θ,κ];rw[(by unfold J9;simp only[qq];rfl:J9=_)];repeat'(first|apply jb<;>intro _|simp(disch:=first|exact dzD|fail) only[hN,k2',k1',T,c1,r6,δ,ε])
  (refine G1.done ?_ (by rfl) (by rfl) ?_;(· (first|exact cyD|fail));(· first|exact vyD|skip))
 rw[if_neg c1] at h;by_cases c2:isM (tk ts i) [[102,97,108,115,101]]=true
 ·rw[if_pos c2] at h;cases h;show PM _ _ _ _ _ _ _;unfold pC at *;refine j2 uV (by rfl) (hb.pur 186 3 dc) rfl ?_;simp only[uc,jh,ζ,η,θ,κ];rw[(by unfold J9;simp only[qq];rfl:J9=_)];repeat'(first|apply jb<;>intro _|simp(disch:=first|exact dzD|fail) only[hN,k2',k1',T,F,c1,c2,r6,δ,ε])
  (refine G1.done ?_ (by rfl) (by rfl) ?_;(· (first|exact cyD|fail));(· first|exact vyD|skip))
 rw[if_neg c2] at h;by_cases c3:isM (tk ts i) [[40]]=true
 ·rw[if_pos c3] at h;have hi1:=W.isM hi c3;have O:=λst p=>@jgR base hb ts (i+1) d hi1 om st p;by_cases hd2:60<d+1
  ·rw[if_pos hd2] at h;cases h;refine⟨i+1,d+1,?_⟩;unfold pC at *;refine j2 uV (by rfl) (hb.pur 186 3 dc) rfl ?_;simp only[uc,jh,ζ,η,θ,κ];rw[(by unfold J9;simp only[qq];rfl:J9=_)];repeat'(first|apply jb<;>intro _|simp(disch:=first|exact dzD|fail) only[hN,k2',k1',T,F,B,c1,c2,c3,O,hx,hd2,r6,δ,ε])
   (refine G1.done ?_ (by rfl) (by rfl) ?_;(· (first|exact cyD|fail));(· first|exact vyD|skip))
  ·rw[if_neg hd2] at h;cases he:yO ts n zS (i+1) (d+1) with
   |none=>rw[he] at h;cases h
   |some q=>
    have A:=ihE _ _ _ _ he hi1 om ⟨dc,dc⟩;have hL:=jbg hb;have hz:=(kN W n).1 _ _ _ _ he hi1;cases q with
    |er t=>
     rw[he] at h;cases h;obtain⟨i',d',A⟩:=A;have E:∀ st p,Cl st p (pC ts (i+1) (d+1))->∀ K Kp,XB γ base 136 [.ptr p 0,.lst 8 (fl QQ zS)] st K Kp=_:=λst p C K Kp=>A.xb C rfl (λst=>hb.no 136 dc _ _) K Kp;refine⟨i',d',?_⟩;unfold pC at *;refine j2 uV (by rfl) (hb.pur 186 3 dc) rfl ?_;simp only[uc,jh,ζ,η,θ,κ];rw[(by unfold J9;simp only[qq];rfl:J9=_)];repeat'(first|apply jb<;>intro _|simp(disch:=first|exact dzD|fail) only[hN,k2',k1',T,F,B,c1,c2,c3,O,hx,hd2,hL,E,r6,δ,ε])
     (refine G1.done ?_ (by rfl) (by rfl) ?_;(· (first|exact cyD|fail));(· first|exact vyD|skip))
    |ok x j=>
     rw[he] at h;dsimp only at h;have A:PM _ _ _ _ _ _ _:=A;have E:∀ st p,Cl st p (pC ts (i+1) (d+1))->∀ K Kp,XB γ base 136 [.ptr p 0,.lst 8 (fl QQ zS)] st K Kp=_:=λst p C K Kp=>A.xb C rfl (λst=>hb.no 136 dc _ _) K Kp;have hj:j<ts.length:=hz.2.1;have M:=λst p=>@Qt base hb ts j d hj om [41] st p;have e1:((d+1:Nat):Int) - 1=(d:Int):=om
     by_cases c4:isM (tk ts j) [[41]]=true
     ·rw[if_pos c4] at h;cases h;show PM _ _ _ _ _ _ _;unfold pC at *;refine j2 uV (by rfl) (hb.pur 186 3 dc) rfl ?_;simp only[uc,jh,ζ,η,θ,κ];rw[(by unfold J9;simp only[qq];rfl:J9=_)];repeat'(first|apply jb<;>intro _|simp(disch:=first|exact dzD|fail) only[hN,k2',k1',T,F,B,c1,c2,c3,O,hx,hd2,hL,E,e1,M,c4,r6,δ,ε])
      (refine G1.done ?_ (by rfl) (by rfl) ?_;(· (first|exact cyD|fail));(· first|exact vyD|skip))
     ·rw[if_neg c4] at h;cases h;refine⟨j,d,?_⟩;unfold pC at *;refine j2 uV (by rfl) (hb.pur 186 3 dc) rfl ?_;simp only[uc,jh,ζ,η,θ,κ];rw[(by unfold J9;simp only[qq];rfl:J9=_)];repeat'(first|apply jb<;>intro _|simp(disch:=first|exact dzD|fail) only[hN,k2',k1',T,F,B,c1,c2,c3,O,hx,hd2,hL,E,e1,M,c4,r6,δ,ε])
      (refine G1.done ?_ (by rfl) (by rfl) ?_;(· (first|exact cyD|fail));(· first|exact vyD|skip))
 ·rw[if_neg c3] at h;cases h;refine⟨i,d,?_⟩;unfold pC at *;refine j2 uV (by rfl) (hb.pur 186 3 dc) rfl ?_;simp only[uc,jh,ζ,η,θ,κ];rw[(by unfold J9;simp only[qq];rfl:J9=_)];repeat'(first|apply jb<;>intro _|simp(disch:=first|exact dzD|fail) only[hN,k2',k1',T,F,B,c1,c2,c3,JZ hb,r6,δ,ε])
  (refine G1.done ?_ (by rfl) (by rfl) ?_;(· (first|exact cyD|fail));(· first|exact vyD|skip))
theorem jcU:∀ k:Nat,k<9->sgn ((5+k:Nat):Int)=zh.getD k []:=dc
theorem jmQ {x:List Nat}(h:x∈zh):zh.idxOf x<9/\sgn ((5+zh.idxOf x:Nat):Int)=x/\∀ j,j<zh.idxOf x->sgn ((5+j:Nat):Int)≠x:=by
 have h9:zh.idxOf x<9:=List.idxOf_lt_length_of_mem h;refine⟨h9,?_,λj hj=>?_⟩
 ·rw[jcU _ h9,Qan,Qai (show zh.idxOf x<zh.length from h9)];simp
 ·rw[jcU _ om,Qan,Qai (show j<zh.length by show j<9;omega)];intro he;have hlt:j<zh.findIdx (· == x):=hj;have hno:=List.not_of_lt_findIdx hlt;have he':zh[j]'(show j<zh.length by show j<9;omega)=x:=he;rw[he'] at hno;simp at hno
set_option maxHeartbeats 4000000 in
theorem jjV (hb:NB base){ts:List Tk}(W:Wds ts){n:Nat}(ihP:IsP base ts n)(ihV:IsV base ts n):IsP base ts (n+1):=by
 intro i d r h hi hd;have wl:=W.len;have hx:(i:Int)+1=((i+1:Nat):Int):=om
 have T:=Yp hb hi (d:=d) om zh (cs:=[.str [45],.str [33],.str [88],.str [70],.str [71],.str [89],.str [90],.str [79],.str [72]]) (n:=9) rfl rfl dc;unfold Qf at h;by_cases c1:isM (tk ts i) zh=true
 ·rw[if_pos c1] at h;have hi1:=W.isM hi c1;have O:=λst p=>@jgR base hb ts (i+1) d hi1 om st p;by_cases hd2:60<d+1
  ·rw[if_pos hd2] at h;cases h;refine⟨i+1,d+1,?_⟩;unfold pC at *;refine j2 jaB (by rfl) (hb.pur 171 3 dc) rfl ?_;simp only[gi,jh,ζ,η,θ,κ];rw[(by unfold wQ;simp only[qq];rfl:wQ=_)];repeat'(first|apply jb<;>intro _|simp(disch:=first|exact dzD|fail) only[T,c1,O,hd2,r6,δ,ε])
   (refine G1.done ?_ (by rfl) (by rfl) ?_;(· (first|exact cyD|fail));(· first|exact vyD|skip))
  ·rw[if_neg hd2] at h;cases he:Qf ts n (i+1) (d+1) with
   |none=>rw[he] at h;cases h
   |some q=>
    have A:=ihP _ _ _ he hi1 om;have hz:=(kN W n).2.2.1 _ _ _ he hi1;cases q with
    |er t=>
     rw[he] at h;cases h;obtain⟨i',d',A⟩:=A;have E:∀ st p,Cl st p (pC ts (i+1) (d+1))->∀ K Kp,XB γ base 171 [.ptr p 0] st K Kp=_:=λst p C K Kp=>A.xb C rfl (λst=>hb.no 171 dc _ _) K Kp;refine⟨i',d',?_⟩;unfold pC at *;refine j2 jaB (by rfl) (hb.pur 171 3 dc) rfl ?_;simp only[gi,jh,ζ,η,θ,κ];rw[(by unfold wQ;simp only[qq];rfl:wQ=_)];repeat'(first|apply jb<;>intro _|simp(disch:=first|exact dzD|fail) only[T,c1,O,hd2,E,r6,δ,ε])
     (refine G1.done ?_ (by rfl) (by rfl) ?_;(· (first|exact cyD|fail));(· first|exact vyD|skip))
    |ok x j=>
     rw[he] at h;cases h;have A:PM _ _ _ _ _ _ _:=A;have E:∀ st p,Cl st p (pC ts (i+1) (d+1))->∀ K Kp,XB γ base 171 [.ptr p 0] st K Kp=_:=λst p C K Kp=>A.xb C rfl (λst=>hb.no 171 dc _ _) K Kp;have hj:j<ts.length:=hz.2.1;have e1:((d+1:Nat):Int) - 1=(d:Int):=om
     show PM _ _ _ _ _ _ _;unfold pC at *;refine j2 jaB (by rfl) (hb.pur 171 3 dc) rfl ?_;simp only[gi,jh,ζ,η,θ,κ];rw[(by unfold wQ;simp only[qq];rfl:wQ=_)];repeat'(first|apply jb<;>intro _|simp(disch:=first|exact dzD|fail) only[T,c1,O,hd2,E,e1,r6,δ,ε])
     obtain⟨x1,x2,x3⟩:=jmQ (Wv c1).2;refine ut λu hu=>?_;have n0:u.nx=5:=by rw[hu];rfl
     have C0:Cl u 0 [.lst ts.length (fl Tk.cells ts),.int .i64 (j:Int),.int .i64 (d:Int)]:=by
      rw[hu]
      (first|exact cyD|fail)
     have C1:Cl u 1 [.int .i64 0,.int .i64 0,.str [],.nils,.int .i64 0,.int .i64 0]:=by
      rw[hu]
      (first|exact cyD|fail)
     have C3:Cl u 3 (tk ts i).cells:=by
      rw[hu]
      (first|exact cyD|fail)
     have C4:Cl u 4 (eE x):=by
      rw[hu]
      (first|exact cyD|fail)
     clear hu;have hs:jY γ 9 (.ptr 3 1) (.str (tk ts i).text) u.h=true:=kS jjB jjA C3 (Qbv (QaN 3)) rfl rfl;refine yz (λmm L s=>∃ k:Nat,k<=zh.idxOf (tk ts i).text/\mm=zh.idxOf (tk ts i).text - k/\s=u/\Has L 0 (.ptr 0 0)/\Has L 2 (.ptr 1 0)/\Has L 3 (.ptr 3 0)/\Has L 5 (.ptr 4 0)/\Has L 6 (.int .i64 ((5+k:Nat):Int))) ?_ (zh.idxOf (tk ts i).text) ?_
     ·rintro mm L s ⟨k,hk,rfl,rfl,i0,i2,i3,i5,i6⟩;have hS:=jh7 hb ((5+k:Nat):Int);by_cases hk2:k=zh.idxOf (tk ts i).text
      ·rw[<-hk2] at x2
       (have zz:=a4 @n0 C0.r C1.r (aI C3.r C4.r);(repeat'(first|apply jb<;>intro _|simp(disch:=first|exact qO|fail) only[ja i0,ja i2,ja i3,ja i5,ja i6,hS,hs,x2,C0.q,C1.q,C3.q,C4.q,n0,C0.r,C1.r,C3.r,C4.r,r6,δ,ε])))
       rw[show V4 (tk ts i).text=5+k by unfold V4;rw[<-hk2],<-qt];refine G1.done ?_ (by rfl) (by rfl) (jc9 (ks:=[x]) (b:=5) (cs:=eE x) ?_ (by rw[JX]) dc)
       ·(have zz:=aI C0.q (aI @n0 C0.r);first|exact qf|fail)
       ·rw[jz,jA dc,<-n0];exact Cl.new s _
      ·have x3':=x3 k om
       (have zz:=a4 @n0 C0.r C1.r (aI C3.r C4.r);(repeat'(first|apply jb<;>intro _|simp(disch:=first|exact qO|fail) only[ja i0,ja i2,ja i3,ja i5,ja i6,hS,hs,x3',C0.q,C1.q,C3.q,C4.q,n0,C0.r,C1.r,C3.r,C4.r,r6,δ,ε])))
       refine⟨zh.idxOf (tk ts i).text - (k+1),om,k+1,om,rfl,?_⟩;rw[show((5+(k+1):Nat):Int)=((5+k:Nat):Int)+1 by omega];simp(disch:=decide) only[h12,i0,i2,i3,i5]
     ·refine⟨0,om,rfl,rfl,?_⟩;rw[show((5+0:Nat):Int)=5 from rfl];simp(disch:=decide) only[h12]
 ·rw[if_neg c1] at h;have A:=ihV _ _ _ h hi hd;cases r with
  |er t=>
   obtain⟨i',d',A⟩:=A;have E:∀ st p,Cl st p (pC ts i d)->∀ K Kp,XB γ base 186 [.ptr p 0] st K Kp=_:=λst p C K Kp=>A.xb C rfl (λst=>hb.no 186 dc _ _) K Kp;refine⟨i',d',?_⟩;unfold pC at *;refine j2 jaB (by rfl) (hb.pur 171 3 dc) rfl ?_;simp only[gi,jh,ζ,η,θ,κ];rw[(by unfold wQ;simp only[qq];rfl:wQ=_)];repeat'(first|apply jb<;>intro _|simp(disch:=first|exact dzD|fail) only[T,c1,E,r6,δ,ε])
   (refine G1.done ?_ (by rfl) (by rfl) ?_;(· (first|exact cyD|fail));(· first|exact vyD|skip))
  |ok x j=>
   have A:PM _ _ _ _ _ _ _:=A;have E:∀ st p,Cl st p (pC ts i d)->∀ K Kp,XB γ base 186 [.ptr p 0] st K Kp=_:=λst p C K Kp=>A.xb C rfl (λst=>hb.no 186 dc _ _) K Kp;show PM _ _ _ _ _ _ _;unfold pC at *;refine j2 jaB (by rfl) (hb.pur 171 3 dc) rfl ?_;simp only[gi,jh,ζ,η,θ,κ];rw[(by unfold wQ;simp only[qq];rfl:wQ=_)];repeat'(first|apply jb<;>intro _|simp(disch:=first|exact dzD|fail) only[T,c1,E,r6,δ,ε])
   (refine G1.done ?_ (by rfl) (by rfl) ?_;(· (first|exact cyD|fail));(· first|exact vyD|skip))
theorem kG {α:Type}{enc:α->List AV}{z:Nat}(hz:∀ x,(enc x).length=z)(x:α)(xs:List α){k:IntKind}{n:Nat}(hn:n=xs.length+1){st:St}{K:AV->St->Prop}:ji (YU z (.lst n (fl enc (x :: xs))) (some (.int k 1)) none st) K=K (.lst xs.length (fl enc xs)) st:=by
 subst hn;have e1:Qck 1 (xs.length+1)=true:=qD om;have e2:Qck (xs.length+1) (xs.length+1)=true:=qD (μ _);have e3:Qck (Qcm (xs.length+1) z) (jP (fl enc (x :: xs)))=true:=qD (by rw[jO,Jn hz];exact μ _);have e4:(AV.int k 1)=.int k ((1:Nat):Int):=rfl;have e5:yi (zj (fl enc (x :: xs)) (Qcm 1 z)) (Qcm (Qcn (xs.length+1) 1) z)=fl enc xs:=by
  rw[qW,yR];show((fl enc (x :: xs)).drop (1 * z)).take ((xs.length+1 - 1) * z)=_;rw[gY hz,QbY];show(fl enc xs).take _=_;rw[<-Jn hz,Qah]
 rw[e4];simp only[YU,optA,uE,e1,e2,e3,cond_true,ji];rw[e5];rfl
theorem w8 (v:Lev):(QQ v).length=2:=nr rfl
theorem Ue (v:Lev)(l:List Lev){st:St}{K:AV->St->Prop}:ji (XV (.lptr (fl QQ (v :: l)) 0) st) K=K (.lst v.1.length (v.1.map .str)) st:=qU (by rw[JY,υ,w8];omega)
theorem Ko (v:Lev)(l:List Lev){st:St}{K:AV->St->Prop}:ji (XV (.lptr (fl QQ (v :: l)) 1) st) K=K (.int .i64 (v.2:Int)) st:=qU (by rw[JY,υ,w8];omega)
theorem jaL {b:Nat}{cs:List AV}{h:T AO}(ho:0+5<=qh h b)(hv:rats h b 0 5=cs)(hc:cs.all eqs=true):(jY γ 194 (.ptr b 0) (.agg cs) h=true)=True:=eq_true (Yt jrv jru dc ho hv hc)
theorem Qy {b:Nat}{cs:List AV}{h:T AO}(ho:0+6<=qh h b)(hv:rats h b 0 6=cs)(hc:cs.all eqs=true):(jY γ 65 (.ptr b 0) (.agg cs) h=true)=True:=eq_true (Yt HB Hz dc ho hv hc)
theorem QB (x:Ex):(eE x).all eqs=true:=nr (by rw[qt];rfl)
theorem ur (t:Tk):t.cells.all eqs=true:=nr rfl
def EK (ts:List Tk)(d:Nat)(r:PR)(v:AV)(s:St):Prop:=match r with | .ok y j=>G1 3 (pC ts j d) (.agg (eE y)) v s | .er _=>False
def EP (ts:List Tk)(r:PR)(v:AV)(s:St):Prop:=match r with | .ok _ _=>False | .er t=>∃ i' d',G1 3 (pC ts i' d') (er t) v s
theorem jfj (ts:List Tk)(d:Nat)(y:Ex)(j:Nat)(v:AV)(s:St):EK ts d (.ok y j) v s=G1 3 (pC ts j d) (.agg (eE y)) v s:=nr rfl
theorem jlW (ts:List Tk)(t:Tk)(v:AV)(s:St):EP ts (.er t) v s = ∃ i' d',G1 3 (pC ts i' d') (er t) v s:=nr rfl
theorem jkB {f:FuncId}{F:XF}(hl:jv γ f=some F)(hnd:F.body.nd=true)(hm:base.pur f=3){xs:List AV}{ts:List Tk}{i d:Nat}{r:PR}
  (h:xC γ base F.body (jh F.ps (.ptr 0 0 :: xs)) (nw st0 (pC ts i d)) (QZ γ F.res (EK ts d r)) λv _ s=>EP ts r v s.bare):Ans base f (pC ts i d) xs ts d r:=by
 rw[<-gM] at h;obtain⟨q,he,hq⟩:=XW (st:=Y3 (pC ts i d)) (K:=EK ts d r) (Kp:=EP ts r) hl hnd h;cases r with
 |ok y j=>
  refine PM.of hm rfl ⟨q,he,?_⟩;cases q<;>first|exact hq|exact hq.elim
 |er t=>
  cases q with
  |no=>exact hq.elim
  |ok v s=>exact(hq:False).elim
  |pn v s=>
   obtain⟨i',d',hq⟩:=(hq:∃ i' d',G1 3 (pC ts i' d') (er t) v s);exact⟨i',d',PM.of hm rfl ⟨_,he,hq⟩⟩
set_option maxHeartbeats 4000000 in
theorem jpU (hb:NB base){ts:List Tk}(W:Wds ts){n:Nat}(ihE:∀ m,m<=n->IsE base ts m)(ihP:IsP base ts n):IsE base ts (n+1):=by
 intro lv i d r h hi hd ok;have wl:=W.len;unfold yO at h;cases lv with
 |nil=>
  dsimp only at h;have A:=ihP _ _ _ h hi hd;cases r with
  |er t=>
   obtain⟨i',d',A⟩:=A;have E:∀ st p,Cl st p (pC ts i d)->∀ K Kp,XB γ base 171 [.ptr p 0] st K Kp=_:=λst p C K Kp=>A.xb C rfl (λst=>hb.no 171 dc _ _) K Kp;refine⟨i',d',?_⟩;unfold pC at *;refine j2 x93 (by rfl) (hb.pur 136 3 dc) rfl ?_;simp only[y93,jh,ζ,η,θ,κ];rw[(by unfold z93;simp only[qq];rfl:z93=_)];repeat'(first|apply jb<;>intro _|simp(disch:=first|exact dzD|fail) only[E,r6,δ,ε])
   (refine G1.done ?_ (by rfl) (by rfl) ?_;(· (first|exact cyD|fail));(· first|exact vyD|skip))
  |ok x j=>
   have A:PM _ _ _ _ _ _ _:=A;have E:∀ st p,Cl st p (pC ts i d)->∀ K Kp,XB γ base 171 [.ptr p 0] st K Kp=_:=λst p C K Kp=>A.xb C rfl (λst=>hb.no 171 dc _ _) K Kp;show PM _ _ _ _ _ _ _;unfold pC at *;refine j2 x93 (by rfl) (hb.pur 136 3 dc) rfl ?_;simp only[y93,jh,ζ,η,θ,κ];rw[(by unfold z93;simp only[qq];rfl:z93=_)];repeat'(first|apply jb<;>intro _|simp(disch:=first|exact dzD|fail) only[E,r6,δ,ε])
   (refine G1.done ?_ (by rfl) (by rfl) ?_;(· (first|exact cyD|fail));(· first|exact vyD|skip))
 |cons v l=>
  dsimp only at h;have hlen:(0:Int)<((l.length+1:Nat):Int):=om
  have hlen2:¬ ((l.length+1:Nat):Int)=0:=om
  cases he:yO ts n l i d with
  |none=>rw[he] at h;cases h
  |some q=>
   have A:=ihE n (μ _) _ _ _ _ he hi hd ⟨by have:=ok.1;simp at this;omega,λw hw=>ok.2 w (QbT _ hw)⟩;have hz:=(kN W n).1 _ _ _ _ he hi;cases q with
   |er t=>
    rw[he] at h;cases h;obtain⟨i',d',A⟩:=A;have E:∀ st p,Cl st p (pC ts i d)->∀ K Kp,XB γ base 136 [.ptr p 0,.lst l.length (fl QQ l)] st K Kp=_:=λst p C K Kp=>A.xb C rfl (λst=>hb.no 136 dc _ _) K Kp;refine⟨i',d',?_⟩;unfold pC at *;refine j2 x93 (by rfl) (hb.pur 136 3 dc) rfl ?_;simp only[y93,jh,ζ,η,θ,κ];rw[(by unfold z93;simp only[qq];rfl:z93=_)];repeat'(first|apply jb<;>intro _|simp(disch:=first|exact dzD|fail) only[E,hlen2,kG w8 v l,r6,δ,ε])
    (refine G1.done ?_ (by rfl) (by rfl) ?_;(· (first|exact cyD|fail));(· first|exact vyD|skip))
   |ok x j=>
    rw[he] at h;dsimp only at h;have A:PM _ _ _ _ _ _ _:=A;have E:∀ st p,Cl st p (pC ts i d)->∀ K Kp,XB γ base 136 [.ptr p 0,.lst l.length (fl QQ l)] st K Kp=_:=λst p C K Kp=>A.xb C rfl (λst=>hb.no 136 dc _ _) K Kp;have hj:j<ts.length:=hz.2.1;show Ans base 136 (pC ts i d) [.lst (v :: l).length (fl QQ (v :: l))] ts d r;refine jkB x93 (by rfl) (hb.pur 136 3 dc) ?_;simp only[y93,jh,ζ,η,θ,κ];rw[(by unfold z93;simp only[qq];rfl:z93=_)];unfold pC at *;repeat'(first|apply jb<;>intro _|simp(disch:=first|exact dzD|fail) only[E,hlen2,kG w8 v l,r6,δ,ε])
    refine ut λu hu=>?_;have n0:3<=u.nx:=by rw[hu];exact μ _
    have C0:Cl u 0 (pC ts j d):=by
     rw[hu];unfold pC
     (first|exact cyD|fail)
    have C1:Cl u 1 [.int .i64 0,.int .i64 0,.str [],.nils,.int .i64 0,.int .i64 0]:=by
     rw[hu]
     (first|exact cyD|fail)
    have C2:Cl u 2 (eE x):=by
     rw[hu]
     (first|exact cyD|fail)
    clear hu E A;refine yz (λmm L s=>∃ (m i':Nat) (x':Ex),m<=n/\mm=m/\QE ts m v l x' i' d=some r/\i'<ts.length/\3<=s.nx/\Cl s 0 (pC ts i' d)/\Cl s 1 [.int .i64 0,.int .i64 0,.str [],.nils,.int .i64 0,.int .i64 0]/\Cl s 2 (eE x')/\Has L 0 (.ptr 0 0)/\Has L 1 (.lst (l.length+1) (fl QQ (v :: l)))/\Has L 4 (.ptr 1 0)/\Has L 5 (.ptr 2 0)) ?_ n ?_
    ·rintro m L s ⟨_,i',x',hm,rfl,hl,hi',n0,C0,C1,C2,i0,i1,i4,i5⟩;cases m with
     |zero=>simp[QE] at hl
     |succ m=>
     unfold QE at hl;have hx:(i':Int)+1=((i'+1:Nat):Int):=om
     have T:=λst p=>@joZ base hb ts i' d hi' om v.1 (by have:=ok.2 v (by simp);omega) st p;have R2:rats s.h 2 0 6=eE x':=(C2.ratsP 6 0 (by rw[Jd];decide)).trans (by rw[Qba,<-Jd x',Qah]);have l2:=C2.len;rw[Jd] at l2;have L0:=C0.lt;have L1:=C1.lt;have L2:=C2.lt;by_cases c1:isM (tk ts i') v.1=true
     ·rw[if_pos c1] at hl;have hi1:=W.isM hi' c1;have hw:=λy=>jrK hb (tk ts i') x' y;by_cases w1:v.2=1
      ·rw[if_pos w1] at hl;have w1':(v.2:Int)=1:=om
       cases he2:yO ts m (v :: l) (i'+1) d with
       |none=>rw[he2] at hl;cases hl
       |some q=>
        have A:=ihE m om _ _ _ _ he2 hi1 hd ok;cases q with
        |er t=>
         rw[he2] at hl;cases hl;obtain⟨i2,d2,A⟩:=A;have E:∀ st p,Cl st p (pC ts (i'+1) d)->∀ K Kp,XB γ base 136 [.ptr p 0,.lst (l.length+1) (fl QQ (v :: l))] st K Kp=_:=λst p C K Kp=>A.xb C rfl (λst=>hb.no 136 dc _ _) K Kp;unfold pC at *
         (have zz:=a4 @QB @ur @R2 (aI @l2 (aI C0.r C1.r));(repeat'(first|apply jb<;>intro _|simp(disch:=first|exact qO|fail) only[ja i0,ja i1,ja i4,ja i5,T,c1,E,w1',Ue,Ko,jaL,Qy,gn i5,jlW,R2,C0.q,C1.q,QB,ur,R2,l2,C0.r,C1.r,r6,δ,ε])))
         refine⟨i2,d2,?_⟩;unfold pC
         (refine G1.done ?_ (by rfl) (by rfl) ?_;(· (have zz:=a4 C0.q C1.q C2.q (aI C0.r (aI C1.r C2.r));first|exact qf|fail));(· first|exact vyD|skip))
        |ok y j=>
         rw[he2] at hl;cases hl;have A:PM _ _ _ _ _ _ _:=A;have E:∀ st p,Cl st p (pC ts (i'+1) d)->∀ K Kp,XB γ base 136 [.ptr p 0,.lst (l.length+1) (fl QQ (v :: l))] st K Kp=_:=λst p C K Kp=>A.xb C rfl (λst=>hb.no 136 dc _ _) K Kp;unfold pC at *
         (have zz:=a4 @QB @ur @R2 (aI @l2 (aI C0.r C1.r));(repeat'(first|apply jb<;>intro _|simp(disch:=first|exact qO|fail) only[ja i0,ja i1,ja i4,ja i5,T,c1,E,w1',Ue,Ko,jaL,Qy,gn i5,jfj,<-qt,hw,R2,C0.q,C1.q,QB,ur,R2,l2,C0.r,C1.r,r6,δ,ε])))
         unfold pC
         (refine G1.done ?_ (by rfl) (by rfl) ?_;(· (have zz:=a4 C0.q C1.q C2.q (aI C0.r (aI C1.r C2.r));first|exact qf|fail));(· first|exact vyD|skip))
      ·rw[if_neg w1] at hl;have w1':¬ (v.2:Int)=1:=om
       cases he2:yO ts m l (i'+1) d with
       |none=>rw[he2] at hl;cases hl
       |some q=>
        have A:=ihE m om _ _ _ _ he2 hi1 hd ⟨by have:=ok.1;simp at this;omega,λw hw=>ok.2 w (QbT _ hw)⟩;have hz2:=(kN W m).1 _ _ _ _ he2 hi1;cases q with
        |er t=>
         rw[he2] at hl;cases hl;obtain⟨i2,d2,A⟩:=A;have E:∀ st p,Cl st p (pC ts (i'+1) d)->∀ K Kp,XB γ base 136 [.ptr p 0,.lst l.length (fl QQ l)] st K Kp=_:=λst p C K Kp=>A.xb C rfl (λst=>hb.no 136 dc _ _) K Kp;unfold pC at *
         (have zz:=a4 @QB @ur @R2 (aI @l2 (aI C0.r C1.r));(repeat'(first|apply jb<;>intro _|simp(disch:=first|exact qO|fail) only[ja i0,ja i1,ja i4,ja i5,T,c1,E,w1',Ue,Ko,jaL,Qy,gn i5,jlW,kG w8 v l,R2,C0.q,C1.q,QB,ur,R2,l2,C0.r,C1.r,r6,δ,ε])))
         refine⟨i2,d2,?_⟩;unfold pC
         (refine G1.done ?_ (by rfl) (by rfl) ?_;(· (have zz:=a4 C0.q C1.q C2.q (aI C0.r (aI C1.r C2.r));first|exact qf|fail));(· first|exact vyD|skip))
        |ok y j=>
         rw[he2] at hl;dsimp only at hl;have A:PM _ _ _ _ _ _ _:=A;have hj2:j<ts.length:=hz2.2.1;have E:∀ st p,Cl st p (pC ts (i'+1) d)->∀ K Kp,XB γ base 136 [.ptr p 0,.lst l.length (fl QQ l)] st K Kp=_:=λst p C K Kp=>A.xb C rfl (λst=>hb.no 136 dc _ _) K Kp;by_cases w2:v.2=2
         ·rw[if_pos w2] at hl;cases hl;have w2':(v.2:Int)=2:=om
          unfold pC at *
          (have zz:=a4 @QB @ur @R2 (aI @l2 (aI C0.r C1.r));(repeat'(first|apply jb<;>intro _|simp(disch:=first|exact qO|fail) only[ja i0,ja i1,ja i4,ja i5,T,c1,E,w1',w2',Ue,Ko,jaL,Qy,gn i5,jfj,<-qt,hw,kG w8 v l,R2,C0.q,C1.q,QB,ur,R2,l2,C0.r,C1.r,r6,δ,ε])))
          unfold pC
          (refine G1.done ?_ (by rfl) (by rfl) ?_;(· (have zz:=a4 C0.q C1.q C2.q (aI C0.r (aI C1.r C2.r));first|exact qf|fail));(· first|exact vyD|skip))
         ·rw[if_neg w2] at hl;have w2':¬ (v.2:Int)=2:=om
          unfold pC at *
          (have zz:=a4 @QB @ur @R2 (aI @l2 (aI C0.r C1.r));(repeat'(first|apply jb<;>intro _|simp(disch:=first|exact qO|fail) only[ja i0,ja i1,ja i4,ja i5,T,c1,E,w1',w2',Ue,Ko,jaL,Qy,gn i5,<-qt,hw,kG w8 v l,R2,C0.q,C1.q,QB,ur,R2,l2,C0.r,C1.r,r6,δ,ε])))
          refine⟨m,om,m,j,Qc (tk ts i') x' y,om,rfl,hl,hj2,om,?_,?_,?_,?_⟩
          ·(have zz:=a4 C0.q C1.q C2.q (aI C0.r (aI C1.r C2.r));first|exact qf|fail)
          ·(have zz:=a4 C0.q C1.q C2.q (aI C0.r (aI C1.r C2.r));first|exact qf|fail)
          ·(have zz:=a4 C0.q C1.q C2.q (aI C0.r (aI C1.r C2.r));first|exact qf|fail)
          ·simp(disch:=decide) only[h12,i0,i1,i4,i5]
     ·rw[if_neg c1] at hl;cases hl;unfold pC at *
      (have zz:=a4 @R2 @l2 C0.r C1.r;(repeat'(first|apply jb<;>intro _|simp(disch:=first|exact qO|fail) only[ja i0,ja i1,ja i4,ja i5,T,c1,Ue,jfj,<-qt,R2,C0.q,C1.q,R2,l2,C0.r,C1.r,r6,δ,ε])))
      unfold pC
      (refine G1.done ?_ (by rfl) (by rfl) ?_;(· (have zz:=a4 C0.q C1.q C2.q (aI C0.r (aI C1.r C2.r));first|exact qf|fail));(· first|exact vyD|skip))
    ·refine⟨n,j,x,μ _,rfl,h,hj,n0,C0,C1,C2,?_⟩;simp(disch:=decide) only[h12]
mutual
def Ex.ev (q:Ex->Prop):Ex->Prop
 |.mk o n nm ks l c=>q (.mk o n nm ks l c)/\Ex.evs q ks
def Ex.evs (q:Ex->Prop):List Ex->Prop
 |[]=>True
 |x :: xs=>x.ev q/\Ex.evs q xs
end
def atW (ts:List Tk)(x:Ex):Prop:=x.op≠4/\∃ k,k<ts.length/\(tk ts k).kind≠5/\x.line=(tk ts k).line/\x.col=(tk ts k).col
def GoodR (ts:List Tk)(i:Nat):PR->Prop
 |.ok x j=>i<=j/\j<ts.length/\x.ev (atW ts)
 |.er t=>∃ k,k<ts.length/\t=tk ts k
theorem GoodR.le {ts:List Tk}{i j:Nat}{r:PR}(h:GoodR ts j r)(hij:i<=j):GoodR ts i r:=by
 cases r with
 |ok x k=>exact⟨ψ hij h.1,h.2⟩
 |er t=>exact h
def okT (l:List Lev):Prop:=∀ v∈l,∀ s∈v.1,(Z4 s).isSome=true
theorem Kc:okT zS:=by
 have:(zS.all λv=>v.1.all λs=>(Z4 s).isSome)=true:=by decide +kernel
 intro v hv s hs;rw[Qae] at this;have h:=this v hv;rw[Qae] at h;exact h s hs
theorem uC {ts:List Tk}{k:Nat}(hk:k<ts.length)(h5:(tk ts k).kind≠5){o n:Int}{nm:List Nat}{ks:List Ex}(ho:o≠4)(h:Ex.evs (atW ts) ks):(Ex.mk o n nm ks (tk ts k).line (tk ts k).col).ev (atW ts):=
 ⟨⟨ho,k,hk,h5,rfl,rfl⟩,h⟩
theorem jgp {ts:List Tk}{k:Nat}(hk:k<ts.length)(h5:(tk ts k).kind≠5){x y:Ex}(hx:x.ev (atW ts))(hy:y.ev (atW ts))(ht:(Z4 (tk ts k).text).isSome=true):(Qc (tk ts k) x y).ev (atW ts):=by
 unfold Qc;split
 ·refine uC hk h5 om ⟨hx,hy,trivial⟩
 ·rename_i h;rw[h] at ht;cases ht
theorem Kz {t:Tk}{S:List (List Nat)}(h:isM t S=true):t.kind≠5:=by have:=(Wv h).1;omega
def Anw (f:Nat->Option PR)(Q:PR->Prop):Prop:=∃ N r,Q r/\∀ n,N<=n->f n=some r
theorem Anw.mono {f:Nat->Option PR}{Q R:PR->Prop}(h:Anw f Q)(k:∀ r,Q r->R r):Anw f R:=by
 obtain⟨N,r,h1,h2⟩:=h;exact⟨N,r,k r h1,h2⟩
theorem jl1 {f g:Nat->Option PR}{Q:PR->Prop}(h:Anw f Q)(k:∀ n,g (n+1)=f n):Anw g Q:=by
 obtain⟨N,r,h1,h2⟩:=h;refine⟨N+1,r,h1,λn hn=>?_⟩;obtain⟨m,rfl⟩:∃ m,n=m+1:=⟨n - 1,om⟩;rw[k,h2 m om]
theorem ub {g:Nat->Option PR}{Q:PR->Prop}(r:PR)(hQ:Q r)(k:∀ n,g (n+1)=some r):Anw g Q:=by
 refine⟨1,r,hQ,λn hn=>?_⟩;obtain⟨m,rfl⟩:∃ m,n=m+1:=⟨n - 1,om⟩;exact k m
theorem gc {f g:Nat->Option PR}{Q R:PR->Prop}(F:Ex->Nat->Nat->Option PR)(h:Anw f Q)(k:∀ n,g (n+1)=(match f n with|some (.ok x j)=>F x j n|r=>r))(he:∀ t,Q (.er t)->R (.er t))(ho:∀ x j,Q (.ok x j)->Anw (F x j) R):Anw g R:=by
 obtain⟨N,r,h1,h2⟩:=h;cases r with
 |er t=>
  refine⟨N+1,.er t,he t h1,λn hn=>?_⟩;obtain⟨m,rfl⟩:∃ m,n=m+1:=⟨n - 1,om⟩;rw[k,h2 m om]
 |ok x j=>
  obtain⟨M,r,h3,h4⟩:=ho x j h1;refine⟨max N M+1,r,h3,λn hn=>?_⟩;obtain⟨m,rfl⟩:∃ m,n=m+1:=⟨n - 1,om⟩;rw[k,h2 m om];exact h4 m om
theorem gb {f:Nat->Option PR}{Q:PR->Prop}(r:PR)(hQ:Q r)(k:∀ n,f n=some r):Anw f Q:=⟨0,r,hQ,λn _=>k n⟩
structure AnsM (ts:List Tk)(m:Nat):Prop where
 e:∀ i d l,i<ts.length->ts.length<=i+m->d<=60->okT l->Anw (λn=>yO ts n l i d) (GoodR ts (i+1))
 p:∀ i d,i<ts.length->ts.length<=i+m->d<=60->Anw (λn=>Qf ts n i d) (GoodR ts (i+1))
 o:∀ i d v l x,i<ts.length->ts.length<=i+m->d<=60->okT (v :: l)->x.ev (atW ts)->Anw (λn=>QE ts n v l x i d) (GoodR ts i)
theorem jqD {ts:List Tk}(W:Wds ts):∀ m,AnsM ts m
 |0=>⟨λi d l h1 h2=>by omega,λi d h1 h2=>by omega,λi d v l x h1 h2=>by omega⟩
 |m+1=>by
  have ih:=jqD W m;have hv:∀ i d,i<ts.length->ts.length<=i+(m+1)->d<=60->Anw (λn=>XQ ts n i d) (GoodR ts (i+1)):=by
   intro i d hi hm hd;by_cases h2:(tk ts i).kind=2
   ·exact ub (.ok (.mk 1 (tk ts i).num [] [] (tk ts i).line (tk ts i).col) (i+1)) ⟨μ _,W.next i hi om,uC hi om dc (ks:=[]) trivial⟩ λn=>by simp only[XQ];rw[if_pos h2]
   by_cases h1:(tk ts i).kind=1
   ·exact ub (.ok (.mk 3 0 (tk ts i).text [] (tk ts i).line (tk ts i).col) (i+1)) ⟨μ _,W.next i hi om,uC hi om dc (ks:=[]) trivial⟩ λn=>by simp only[XQ];rw[if_neg h2,if_pos h1]
   by_cases ht:isM (tk ts i) [[116,114,117,101]]=true
   ·exact ub (.ok (.mk 2 1 [] [] (tk ts i).line (tk ts i).col) (i+1)) ⟨μ _,W.isM hi ht,uC hi (Kz ht) dc (ks:=[]) trivial⟩ λn=>by simp only[XQ];rw[if_neg h2,if_neg h1,if_pos ht]
   by_cases hf:isM (tk ts i) [[102,97,108,115,101]]=true
   ·exact ub (.ok (.mk 2 0 [] [] (tk ts i).line (tk ts i).col) (i+1)) ⟨μ _,W.isM hi hf,uC hi (Kz hf) dc (ks:=[]) trivial⟩ λn=>by simp only[XQ];rw[if_neg h2,if_neg h1,if_neg ht,if_pos hf]
   by_cases hp:isM (tk ts i) [[40]]=true
   ·have hi1:=W.isM hi hp;by_cases h60:60<d+1
    ·exact ub (.er _) ⟨i+1,hi1,rfl⟩ λn=>by simp only[XQ];rw[if_neg h2,if_neg h1,if_neg ht,if_neg hf,if_pos hp,if_pos h60]
    ·refine gc (λx j n=>if isM (tk ts j) [[41]]=true then some (.ok x (j+1)) else some (.er (tk ts j))) (ih.e (i+1) (d+1) zS hi1 om om Kc) (λn=>by simp only[XQ];rw[if_neg h2,if_neg h1,if_neg ht,if_neg hf,if_pos hp,if_neg h60]<;>rfl) (λt h=>h) λx j h=>?_;by_cases hq:isM (tk ts j) [[41]]=true
     ·exact gb (.ok x (j+1)) ⟨by have:=h.1;omega,W.isM h.2.1 hq,h.2.2⟩ λn=>if_pos hq
     ·exact gb (.er (tk ts j)) ⟨j,h.2.1,rfl⟩ λn=>if_neg hq
   ·exact ub (.er _) ⟨i,hi,rfl⟩ λn=>by simp only[XQ];rw[if_neg h2,if_neg h1,if_neg ht,if_neg hf,if_neg hp]
  have hp:∀ i d,i<ts.length->ts.length<=i+(m+1)->d<=60->Anw (λn=>Qf ts n i d) (GoodR ts (i+1)):=by
   intro i d hi hm hd;by_cases hp:isM (tk ts i) zh=true
   ·have hi1:=W.isM hi hp;by_cases h60:60<d+1
    ·exact ub (.er _) ⟨i+1,hi1,rfl⟩ λn=>by simp only[Qf];rw[if_pos hp,if_pos h60]
    ·refine gc (λx j n=>some (.ok (.mk (V4 (tk ts i).text:Nat) 0 [] [x] (tk ts i).line (tk ts i).col) j)) (ih.p (i+1) (d+1) hi1 om om) (λn=>by simp only[Qf];rw[if_pos hp,if_neg h60]<;>rfl) (λt h=>h) λx j h=>?_;exact gb (.ok (.mk (V4 (tk ts i).text:Nat) 0 [] [x] (tk ts i).line (tk ts i).col) j) ⟨by have:=h.1;omega,h.2.1,uC hi (Kz hp) (by unfold V4;omega) (ks:=[x]) ⟨h.2.2,trivial⟩⟩ λn=>rfl
   ·exact jl1 (hv i d hi hm hd) λn=>by simp only[Qf];rw[if_neg hp]
  have he:∀ l i d,i<ts.length->ts.length<=i+(m+1)->d<=60->okT l->Anw (λn=>yO ts n l i d) (GoodR ts (i+1)):=by
   intro l;induction l with
   |nil=>intro i d hi hm hd hl;exact jl1 (hp i d hi hm hd) λn=>by simp only[yO]
   |cons v l ihl=>
    intro i d hi hm hd hl;refine gc (λx j n=>QE ts n v l x j d) (ihl i d hi hm hd λw hw=>hl w (QbT _ hw)) (λn=>by simp only[yO]<;>rfl) (λt h=>h) λx j h=>?_;exact(ih.o j d v l x h.2.1 (by have:=h.1;omega) hd hl h.2.2).mono λr hr=>hr.le h.1
  refine⟨λi d l h1 h2 h3 h4=>he l i d h1 h2 h3 h4,hp,λi d v l x hi hm hd hl hx=>?_⟩;by_cases hs:isM (tk ts i) v.1=true
  ·have hi1:=W.isM hi hs;have ht:(Z4 (tk ts i).text).isSome=true:=hl v (List.mem_cons_self ..) _ (Wv hs).2;have hl':okT l:=λw hw=>hl w (QbT _ hw);by_cases hw:v.2=1
   ·refine gc (λy j n=>some (.ok (Qc (tk ts i) x y) j)) (ih.e (i+1) d (v :: l) hi1 om hd hl) (λn=>by simp only[QE];rw[if_pos hs,if_pos hw]<;>rfl) (λt h=>h) λy j h=>?_;exact gb (.ok (Qc (tk ts i) x y) j) ⟨by have:=h.1;omega,h.2.1,jgp hi (Kz hs) hx h.2.2 ht⟩ λn=>rfl
   ·refine gc (λy j n=>if v.2=2 then some (.ok (Qc (tk ts i) x y) j) else QE ts n v l (Qc (tk ts i) x y) j d) (ih.e (i+1) d l hi1 om hd hl') (λn=>by simp only[QE];rw[if_pos hs,if_neg hw]<;>rfl) (λt h=>h) λy j h=>?_;have hxy:=jgp hi (Kz hs) hx h.2.2 ht;by_cases h2:v.2=2
    ·exact gb (.ok (Qc (tk ts i) x y) j) ⟨by have:=h.1;omega,h.2.1,hxy⟩ λn=>if_pos h2
    ·obtain⟨N,r,h3,h4⟩:=ih.o j d v l _ h.2.1 (by have:=h.1;omega) hd hl hxy;exact⟨N,r,h3.le (by have:=h.1;omega),λn hn=>(if_neg h2).trans (h4 n hn)⟩
  ·exact ub (.ok x i) ⟨μ _,hi,hx⟩ λn=>by simp only[QE];rw[if_neg hs]
theorem reads (hb:NB base){ts:List Tk}(W:Wds ts):∀ n,IsE base ts n/\IsP base ts n/\IsV base ts n:=by
 have key:∀ n,∀ m,m<=n->IsE base ts m/\IsP base ts m/\IsV base ts m:=by
  intro n;induction n with
  |zero=>
   intro m hm;obtain rfl:m=0:=om
   exact⟨λ_ _ _ _ h=>(by simp[yO] at h),λ_ _ _ h=>(by simp[Qf] at h),λ_ _ _ h=>(by simp[XQ] at h)⟩
  |succ n ih=>
   intro m hm;by_cases h:m<=n
   ·exact ih m h
   ·obtain rfl:m=n+1:=om
    obtain⟨h1,h2,h3⟩:=ih n (μ _);exact⟨jpU hb W (λk hk=>(ih k hk).1) h2,jjV hb W h2 h3,jl9 hb W h1⟩
 exact λn=>key n n (μ _)
def kD (ts:List Tk)(i:Nat)(r0:PR):PR:=match r0 with
 |.er t=>.er t
 |.ok x j=>if zt 60 x=true then .ok x j else .er (tk ts i)
def EvR (ts:List Tk)(i:Nat)(r:PR):Prop:=∃ N,∀ n,N<=n->yO ts n zS i 0=some r
theorem EvR.uniq {ts:List Tk}{i:Nat}{r q:PR}(h:EvR ts i r)(k:EvR ts i q):r=q:=by
 obtain⟨N,h⟩:=h;obtain⟨M,k⟩:=k;have:=(h (max N M) (Qao ..)).symm.trans (k (max N M) (Qap ..));exact Option.some.inj this
open Classical in
def yT (ts:List Tk)(i:Nat):PR:=if h:∃ r,EvR ts i r then kD ts i h.choose else .er (tk ts i)
theorem Gk {ts:List Tk}{i:Nat}{r:PR}(h:EvR ts i r):yT ts i=kD ts i r:=by
 unfold yT;rw[dif_pos ⟨r,h⟩];have:=(⟨r,h⟩:∃ r,EvR ts i r).choose_spec;rw[this.uniq h]
theorem evR {ts:List Tk}(W:Wds ts){i:Nat}(hi:i<ts.length):∃ r,GoodR ts (i+1) r/\EvR ts i r:=by
 obtain⟨N,r,hg,hr⟩:=(jqD W ts.length).e i 0 zS hi om dc Kc;exact⟨r,hg,N,hr⟩
theorem VM (hb:NB base){ts:List Tk}(W:Wds ts){i:Nat}(hi:i<ts.length):Ans base 96 (pC ts i 0) [] ts 0 (yT ts i):=by
 obtain⟨r,_,hr⟩:=evR W hi;rw[Gk hr];obtain⟨N,hr⟩:=hr;have he:=hr N (μ _);have A:=(reads hb W N).1 _ _ _ _ he hi om ⟨dc,dc⟩;have hz:=(kN W N).1 _ _ _ _ he hi;have hN:=λst p=>@Yx base hb ts i 0 hi st p;have hL:=jbg hb;cases r with
 |er t=>
  obtain⟨i',d',A⟩:=A;have E:∀ st p,Cl st p (pC ts i 0)->∀ K Kp,XB γ base 136 [.ptr p 0,.lst 8 (fl QQ zS)] st K Kp=_:=λst p C K Kp=>A.xb C rfl (λst=>hb.no 136 dc _ _) K Kp;refine⟨i',d',?_⟩;unfold pC at *;refine j2 x48 (by rfl) (hb.pur 96 3 dc) rfl ?_;simp only[y48,jh,ζ,η,θ,κ];rw[(by unfold z48;simp only[qq];rfl:z48=_)];repeat'(first|apply jb<;>intro _|simp(disch:=first|exact dzD|fail) only[hN,hL,E,r6,δ,ε])
  (refine G1.done ?_ (by rfl) (by rfl) ?_;(· (first|exact cyD|fail));(· first|exact vyD|skip))
 |ok x j=>
  have A:PM _ _ _ _ _ _ _:=A;have E:∀ st p,Cl st p (pC ts i 0)->∀ K Kp,XB γ base 136 [.ptr p 0,.lst 8 (fl QQ zS)] st K Kp=_:=λst p C K Kp=>A.xb C rfl (λst=>hb.no 136 dc _ _) K Kp;have hx:szE x<=BIG:=by
   have h1:=hz.2.2;have h2:(j - i) * 65537<=1000000 * 65537:=Qax _ (by have:=W.len;have:=hz.2.1;omega);have h3:1000000 * 65537<=BIG:=dc
   exact ψ h1 (by rw[Qag];exact ψ h2 h3)
  have hR:=jng hb x hx;unfold kD;dsimp only;by_cases c:zt 60 x=true
  ·rw[if_pos c];show PM _ _ _ _ _ _ _;unfold pC at *;refine j2 x48 (by rfl) (hb.pur 96 3 dc) rfl ?_;simp only[y48,jh,ζ,η,θ,κ];rw[(by unfold z48;simp only[qq];rfl:z48=_)];repeat'(first|apply jb<;>intro _|simp(disch:=first|exact dzD|fail) only[hN,hL,E,hR,c,<-qt,r6,δ,ε])
   (refine G1.done ?_ (by rfl) (by rfl) ?_;(· (first|exact cyD|fail));(· first|exact vyD|skip))
  ·rw[if_neg c];refine⟨j,0,?_⟩;unfold pC at *;refine j2 x48 (by rfl) (hb.pur 96 3 dc) rfl ?_;simp only[y48,jh,ζ,η,θ,κ];rw[(by unfold z48;simp only[qq];rfl:z48=_)];repeat'(first|apply jb<;>intro _|simp(disch:=first|exact dzD|fail) only[hN,hL,E,hR,c,JZ hb,r6,δ,ε])
   (refine G1.done ?_ (by rfl) (by rfl) ?_;(· (first|exact cyD|fail));(· first|exact vyD|skip))
def z15:XC:=(ou [TB 2,o9 3 [oB,oB,oB]] (oX [Ix 9,Ou 10 88 9,oy 8 10,O0 11 8,O1 12 8,Tw 11,o7 3 3 12] (Ic [ON 13 3,oF 14 13,Tg 15 14] 15 (OB [OV 16 6 2 2 65 [],OV 17 3 3 3 71 [],TC 6 2 16 [(0,71)],TC 3 3 17 []] .ret)) (O7 [o5 (.defer (oQ 89 []) [3])] [Tc 18,IA 19 [.nils,oB,oB] [((0,1),18)],ol 20 (.box 19),oz 5 20] (oX [oy 21 5,Ou 22 96 21,TB 6,o7 6 6 22] (ou [oy 23 5,Ou 24 97 23,o9 7 [oB,oH,oB,oB,oB],o7 5 7 24] (Or [ON 25 7,oF 26 25,O6 27 .neq 26 5] 27 [o6 28 5 7,Ou 29 98 28])) (OB [OV 30 6 6 6 65 [],OV 31 3 3 3 71 [],TC 6 2 30 [(0,71)],TC 3 3 31 []] .ret)))))
def y15:XF:=⟨[0],z15,[(.cA 2 6),(.cA 3 3)]⟩
theorem x15:jv γ 67=some y15:=by kernel_rfl
def z9:XC:=(ou [o9 2 [.nils,.nils,.nils],o9 3 [oB,oB,oB]] (oX [Ix 7,Ou 8 88 7,oy 6 8,O0 9 6,O1 10 6,Tw 9,o7 3 3 10] (Ic [ON 11 3,oF 12 11,Tg 13 12] 13 (OB [OV 14 3 2 2 26 [],OV 15 3 3 3 71 [],TC 3 2 14 [(0,71)],TC 3 3 15 []] .ret)) (ou [o5 (.defer (oQ 89 []) [3])] (oX [Tc 16,IA 17 [.nils,oB,oB] [((0,1),16)],ol 18 (.box 17),oz 5 18] (.dops [Tu 19 5,(O8 20 90 19 0 [],some [Tj 20,If (o6 21 3 3) 3 71 [(0,0)],Ib (o5 (.i (.mv IW))) 0,Ib (o5 (.i (.mv IW))) 0]),OV 21 3 3 3 71 [(0,0)],TC 3 2 20 [(0,71)],TC 3 3 21 []]) .ret))))
def y9:XF:=⟨[0],z9,[(.cA 2 3),(.cA 3 3)]⟩
theorem x9:jv γ 65=some y9:=by kernel_rfl
def z78:XC:=(ou [o9 2 [oH,.nils,oB,oB]] (O7 [Ix 7,Ou 8 163 7,o9 3 [oB,oH,oB,oB,oB],o7 5 3 8] [Ta 9 3,oF 10 9,Tf 11 3,oF 12 11,oD 13 4 3,oF 14 13,IA 15 [oH,.nils,oB,oB] [((0,1),10),((2,1),12),((3,1),14)],o9 4 [oH,.nils,oB,oB],o7 4 4 15] (IV [Ix 16,OE 17 164 16 (oY [123])] 0 (.block 1 (.seq (Ic [Ix 18,Ou 19 97 18,ol 20 (.fld1 0 19),O6 21 .eql 20 1] 21 (.dops [IK 22 1 4,O5 23 22 22 141,IH (IR 24 23),TF 25,(O8 26 97 25 0 [(2,141)],I6),(Iw (OE 27 123 24 26) 0 [],I6)])) (OB [IK 28 1 4,O5 29 28 28 141,TF 30,(O8 31 163 30 0 [(1,141)],I6),IH (ol 32 (.fld1 1 31)),IH (TI 33 1 oH [((0,1),32)]),IZ (OW 34 1 16 29 33) 0 [],IK 35 1 4,TC 1 35 34 []] (ou [Ix 37,TI 38 1 oH [OK 0 44],OE 39 122 37 38,oy 36 39,O0 40 36,O1 41 36,ol 5 (.alloc [oB,oH,oB,oB,oB]),o7 5 5 40,oz 6 41] (Ic [oy 42 6,Tn 43 42] 43 (Oq [Ix 44,OE 45 164 44 (oY [125])] [o6 46 4 4,o7 4 2 46])))))))))
def y78:XF:=⟨[0],z78,[(.cA 2 4)]⟩
theorem x78:jv γ 124=some y78:=by kernel_rfl
def jd2:XC:=(.seq (ou [Ix 45,TI 46 1 oH [OK 0 61],OE 47 122 45 46,oy 44 47,O0 48 44,O1 49 44,ol 7 (.alloc [oB,oH,oB,oB,oB]),o7 5 7 48,oz 8 49] (Or [oz 50 8] 50 [Ix 51,Ou 52 96 51,Im 53 1 6 (OY oB oB oH oB oB) [((0,6),52)],oD 54 4 4,TK 54 53])) (Oq [Ix 55,OE 56 164 55 (oY [59])] [o6 57 7 4,o7 7 2 57]))
def jd3:XC:=(.seq (ou [Ix 21,TI 22 1 oH [Og 0 [98,111,111,108]],OE 23 122 21 22,oy 20 23,O0 24 20,O1 25 20,ol 5 (.alloc [oB,oH,oB,oB,oB]),o7 5 5 24,oz 6 25] (oL [oz 26 6] 26 (.ops [Ta 27 4,TK 27 (oY [98,111,111,108])]) (oL [Ix 28,Ou 29 97 28,ol 30 (.fld1 0 29),O6 31 .eql 30 1] 31 (.ops [Ix 32,Ou 33 163 32,ol 34 (.fld1 1 33),Ta 35 4,TK 35 34]) (O7 [Ix 36,Ou 37 165 36,oD 38 2 4,TK 38 37] [Ix 39,OE 40 164 39 (oY [46,46])] (.ops [Ix 41,Ou 42 165 41,Tf 43 4,TK 43 42]))))) jd2)
def z79:XC:=(O7 [o9 2 [oH,oH,oB,oB,.nils,oB,oB]] [Ix 9,Ou 10 163 9,o9 3 [oB,oH,oB,oB,oB],o7 5 3 10] (O7 [Ta 11 3,oF 12 11,Tf 13 3,oF 14 13,oD 15 4 3,oF 16 15,IA 17 [oH,oH,oB,oB,.nils,oB,oB] [((0,1),12),((5,1),14),((6,1),16)],o9 4 [oH,oH,oB,oB,.nils,oB,oB],o7 7 4 17] [Ix 18,OE 19 164 18 (oY [58])] jd3))
def y79:XF:=⟨[0],z79,[(.cA 2 7)]⟩
theorem x79:jv γ 125=some y79:=by kernel_rfl
def UL:XC:=(O7 [o9 2 [oB,oB,oH,.nils,oB,oB,.nils]] [Ix 7,Ou 8 96 7,IA 9 [oB,oB,oH,.nils,oB,oB,.nils] [((0,6),8)],o9 3 [oB,oB,oH,.nils,oB,oB,.nils],o7 7 3 9] (IV [Ix 10,OE 11 164 10 (oY [100,111])] 0 (.block 1 (.seq (Ic [Ix 12,Ou 13 97 12,ol 14 (.fld1 0 13),O6 15 .eql 14 1] 15 (.dops [IK 16 6 3,O5 17 16 16 153,IH (IR 18 17),TF 19,(O8 20 97 19 0 [(2,153)],I6),(Iw (OE 21 123 18 20) 0 [],I6)])) (ou [Ix 22,Ou 23 163 22,o9 4 [oB,oH,oB,oB,oB],o7 5 4 23] (oX [Ix 24,OE 25 164 24 (oY [58,61])] (.dops [IK 26 6 3,O5 27 26 26 153,IK 28 1 4,O5 29 28 28 9,TF 30,(O8 31 96 30 0 [(1,9),(3,153)],some [Tj 31,Ib (Tf 32 4) 0,If (oF 33 32) 32 3 [(1,0)],Ib (oD 34 4 4) 0,If (oF 35 34) 34 3 [(3,0)],Tj 36,Tj 37,Tj 38,Tj 39,Ib (o5 (.i (.mv IW))) 0]),IK 32 3 4,I4 33 32 32 3 [(1,0)],IK 34 4 4,I4 35 34 34 3 [(3,0)],IH (IA 36 [oH,oB,oB,oH,.nils,oB,oB,oB,oB] [((0,1),29),((1,6),31),((7,1),33),((8,1),35)]),IH (Im 37 1 9 [oH,oB,oB,oH,.nils,oB,oB,oB,oB] [((0,9),36)]),IZ (OW 38 9 104 27 37) 0 [],IK 39 6 3,TC 1 39 38 []]) (ou [Ix 41,TI 42 1 oH [OK 0 44],OE 43 122 41 42,oy 40 43,O0 44 40,O1 45 40,ol 5 (.alloc [oB,oH,oB,oB,oB]),o7 5 5 44,oz 6 45] (Ic [oy 46 6,Tn 47 46] 47 (Oq [Ix 48,OE 49 164 48 (oY [59])] [o6 50 7 3,o7 7 2 50])))))))))
def jee:XF:=⟨[0],UL,[(.cA 2 7)]⟩
theorem jjt:jv γ 166=some jee:=by kernel_rfl
def z80:XC:=(ou [o9 2 [oH,.nils,oB,oB]] (O7 [Ix 7,Ou 8 163 7,o9 3 [oB,oH,oB,oB,oB],o7 5 3 8] [Ta 9 3,oF 10 9,Tf 11 3,oF 12 11,oD 13 4 3,oF 14 13,IA 15 [oH,.nils,oB,oB] [((0,1),10),((2,1),12),((3,1),14)],o9 4 [oH,.nils,oB,oB],o7 4 4 15] (IV [Ix 16,OE 17 164 16 (oY [123])] 0 (.block 1 (oX [Ix 19,TI 20 1 oH [Og 0 [119,104,101,110]],OE 21 122 19 20,oy 18 21,O0 22 18,O1 23 18,o9 5 [oB,oH,oB,oB,oB],o7 5 5 22,oz 6 23] (Ic [oy 24 6,Tn 25 24] 25 (Oq [Ix 26,OE 27 164 26 (oY [125])] [o6 28 4 4,o7 4 2 28])) (ou [Ta 29 4,oF 30 29,IR 31 30,o6 32 5 5,OE 33 123 31 32] (.dops [IK 34 1 4,O5 35 34 34 149,TF 36,(O8 37 166 36 0 [(1,149)],I6),IH (Im 38 1 7 [oB,oB,oH,.nils,oB,oB,.nils] [((0,7),37)]),IZ (OW 39 7 96 35 38) 0 [],IK 40 1 4,TC 1 40 39 []])))))))
def y80:XF:=⟨[0],z80,[(.cA 2 4)]⟩
theorem x80:jv γ 126=some y80:=by kernel_rfl
def z37:XC:=(ou [o9 2 [.nils,.nils,.nils]] (IV [o9 3 [.nils,.nils,.nils]] 0 (.block 1 (ou [Ix 7,TI 8 3 oH [Og 0 [101,110,117,109],Og 1 [118,97,114],Og 2 [112,114,111,99,101,115,115]],OE 9 122 7 8,oy 6 9,O0 10 6,O1 11 6,o9 4 [oB,oH,oB,oB,oB],o7 5 4 10,oz 5 11] (.block 2 (oL [oy 25 5,ol 26 (I0 25),oy 27 26,Te 28 27 0 4,O2 29 27 28,Iq 30 27 (o8 .neq 29 5),Ts 31 27 30,oz 24 31] 24 (.ops [o6 32 5 4,Ou 33 98 32]) (oL [oy 35 5,ol 36 (I0 35),oz 34 36] 34 (o3 [o6 37 3 3,o7 3 2 37]) (oL [Ta 39 4,oF 40 39,To 41 40 [101,110,117,109],oz 38 41] 38 (ou [ON 42 3,oF 43 42,IR 44 43,o6 45 5 4,OE 46 123 44 45] (.dops [IK 47 0 3,O5 48 47 47 22,TF 49,(O8 50 124 49 0 [(1,22)],I6),IH (Im 51 1 4 [oH,.nils,oB,oB] [((0,4),50)]),IZ (OW 52 4 56 48 51) 0 [],IK 53 0 3,TC 1 53 52 []])) (oL [Ta 55 4,oF 56 55,To 57 56 [118,97,114],oz 54 57] 54 (ou [Ta 58 3,oF 59 58,IR 60 59,o6 61 5 4,OE 62 123 60 61] (.dops [IK 63 1 3,O5 64 63 63 23,TF 65,(O8 66 125 65 0 [(1,23)],I6),IH (Im 67 1 7 [oH,oH,oB,oB,.nils,oB,oB] [((0,7),66)]),IZ (OW 68 7 88 64 67) 0 [],IK 69 1 3,TC 1 69 68 []])) (ou [oD 12 2 3,oF 13 12,IR 14 13,o6 15 5 4,OE 16 123 14 15] (.dops [IK 17 2 3,O5 18 17 17 24,TF 19,(O8 20 126 19 0 [(1,24)],I6),IH (Im 21 1 4 [oH,.nils,oB,oB] [((0,4),20)]),IZ (OW 22 4 56 18 21) 0 [],IK 23 2 3,TC 1 23 22 []])))))))))))
def y37:XF:=⟨[0],z37,[(.cA 2 3)]⟩
theorem x37:jv γ 90=some y37:=by kernel_rfl
def uT:XC:=(.block 0 (oL [ow 7 (.gen .eql 20 true 5 (.c .nilif))] 7 (.ops [oy 2 5]) (oL [ol 8 (.assert 5 71),ow 9 (.ext 8 1),ow 10 (.ext 8 0)] 9 (ou [o9 3 [oB,oB,oB],o7 3 3 10] (.ops [Ix 11,o6 12 3 3,Iu 13 11,o7 3 13 12])) (ou [Tw 5] (.ops [Tc 6,o5 (.pan 6)])))))
def gh:XH:=⟨[0],(some 5),true,[],uT,[]⟩
theorem joz:Kl γ 89=some gh:=by kernel_rfl
section
variable {P:Program} {e:En} {st:St} {K:AV->St->Prop}
def K9 (P:Program)(t:TypeId)(v:AV)(st:St):ER:=(Yg P (O v) t).run E0 st
theorem jhm (x:A)(t:TypeId):wK P base (.i (.assert x t)) e st K=on1 e x λv=>ji (K9 P t v st) K:=k_1 rfl (λ_=>rfl) K
end
theorem wR {P:Program}(res:List RV)(m:Md)(K:Md->St->Prop)(L:Sl)(st:St):jfh P res m K (.go L st)=yo P res L st λ_=>K m st:=nr rfl
theorem jqA (t:Tk)(st:St)(K:AV->St->Prop):ji (K9 γ 71 (er t) st) K=K (.tup [.agg [.int .i64 151,.int .i64 (t.line:Int),.int .i64 (t.col:Int)],.bool true]) st:=by
 have:K9 γ 71 (er t) st=.ok (.tup [.agg [.int .i64 151,.int .i64 (t.line:Int),.int .i64 (t.col:Int)],.bool true]) st:=by kernel_rfl
 rw[this];rfl
theorem jbJ (st:St)(K:AV->St->Prop):ji (JI γ .eql 20 true .nilif .nilif st) K=K (.bool true) st:=by
 have:JI γ .eql 20 true .nilif .nilif st=.ok (.bool true) st:=by kernel_rfl
 rw[this];rfl
theorem jp4 (t:Tk)(st:St)(K:AV->St->Prop):ji (JI γ .eql 20 true (er t) .nilif st) K=K (.bool false) st:=by
 have:JI γ .eql 20 true (er t) .nilif st=.ok (.bool false) st:=by kernel_rfl
 rw[this];rfl
theorem KX {P:Program}{f:FuncId}{xs:List AV}{m m1:Md}{st s1:St}(h:∀ K:Md->St->Prop,K m1 s1->DX P base f xs m st K)(K:Md->St->Prop):DX P base f xs m st K=K m1 s1:=by
 refine propext ⟨λ⟨m2,s2,⟨N2,D2,h2⟩,h3⟩=>?_,h K⟩;obtain⟨m',s',⟨N,D,h1⟩,rfl,rfl⟩:=h (λm' s'=>m'=m1/\s'=s1) ⟨rfl,rfl⟩;have e1:=h1 (max N N2) (Qao ..) (max D D2) (Qao ..);have e2:=h2 (max N N2) (Qap ..) (max D D2) (Qap ..);rw[e1] at e2;cases e2;exact h3
theorem jcy {fb:Nat}(st:St)(hfr:st.fr=[])(K:Md->St->Prop):DX γ base 89 [.ptr fb 0] .calm st K=K .calm st:=by
 refine KX (λK hK=>?_) K;refine ZD joz (by rfl) hfr ?_;simp only[gh,jh,ζ,η,θ,QN,Xl];rw[(by unfold uT;simp only[qq];rfl:uT=_)];repeat'(first|apply jb<;>intro _|simp(disch:=first|exact dzD|fail) only[jbJ,wR,r6,δ,ε])
 exact hK
theorem jfs {fb:Nat}(t:Tk){cs:List AV}(st:St)(hfr:st.fr=[])(C:Cl st fb cs)(hcs:cs.length=3)(K:Md->St->Prop) :
  DX γ base 89 [.ptr fb 0] (.pan (er t)) st K=K .done (wr (wr (nw st [.int .i64 0,.int .i64 0,.int .i64 0]) st.nx 0 [.int .i64 151,.int .i64 (t.line:Int),.int .i64 (t.col:Int)]) fb 0 [.int .i64 151,.int .i64 (t.line:Int),.int .i64 (t.col:Int)]):=by
 refine KX (λK hK=>?_) K;refine ZD joz (by rfl) hfr ?_;simp only[gh,jh,ζ,η,θ,QN,Xl];rw[(by unfold uT;simp only[qq];rfl:uT=_)];have hl:=C.lt;have l0:=C.len;have hne:¬ fb=st.nx:=om
 (have zz:=aI @l0 @hcs;(repeat'(first|apply jb<;>intro _|simp(disch:=first|exact qO|fail) only[jp4,jhm,jqA,wR,l0,hcs,r6,δ,ε])))
 exact hK
theorem vv {fb:Nat}(st:St)(K:Md->St->Prop):DX γ base 89 [.ptr fb 0] .calm st.bare K=K .calm st.bare:=jcy st.bare rfl K
theorem Wh {fb:Nat}(t:Tk)(st:St)(h:qh st.h fb=3)(hn:fb<st.nx)(K:Md->St->Prop) :
  DX γ base 89 [.ptr fb 0] (.pan (er t)) st.bare K=K .done (wr (wr (nw st.bare [.int .i64 0,.int .i64 0,.int .i64 0]) st.nx 0 [.int .i64 151,.int .i64 (t.line:Int),.int .i64 (t.col:Int)]) fb 0 [.int .i64 151,.int .i64 (t.line:Int),.int .i64 (t.col:Int)]):=
 have C:Cl st fb (rats st.h fb 0 3):=Cl.of_rats hn h (QO _ _ _ _) dc rfl
 jfs t st.bare rfl C.bar (QO _ _ _ _) K
theorem jrB:Go.Ev.isAgg γ 71=some true:=by kernel_rfl
theorem jrA:Go.Ev.sizeOf γ 71=some 3:=by kernel_rfl
theorem Yr {b:Nat}{x y z:Int}{h:T AO}(ho:0+3<=qh h b)(hv:rats h b 0 3=[.int .i64 x,.int .i64 y,.int .i64 z]):(jY γ 71 (.ptr b 0) (.agg [.int .i64 x,.int .i64 y,.int .i64 z]) h=true)=True:=eq_true (Yt jrB jrA dc ho hv rfl)
theorem vG {b:Nat}{x y z w:Int}{n:List Nat}{h:T AO}(ho:0+6<=qh h b)(hv:rats h b 0 6=[.int .i64 x,.int .i64 y,.str n,.nils,.int .i64 z,.int .i64 w]):(jY γ 65 (.ptr b 0) (.agg [.int .i64 x,.int .i64 y,.str n,.nils,.int .i64 z,.int .i64 w]) h=true)=True:=eq_true (Yt HB Hz dc ho hv rfl)
section
variable {P:Program} {st:St} {K Kp:AV->St->Prop}
theorem Jh {f:FuncId}{vs:List AV}(h:st.fr=[(f,vs)])(res:List RV)(v:AV)(L:Sl):uD P base res K Kp v L st=DX P base f vs (.pan v) st.bare λm' st'=>(match m' with
  |.calm=>yo P res L st'.bare λvs=>K (zq vs) st'.bare
  |.pan v=>Kp v st'.bare
  |.done=>yo P res L st'.bare λvs=>K (zq vs) st'.bare):=by
 have:uD P base res K Kp v L st=yI P base res K Kp [(f,vs)] L st.bare (.pan v):=by show yI P base res K Kp st.fr L st.bare (.pan v)=_;rw[h]
 rw[this,jau];rfl
theorem zd {f:FuncId}{vs:List AV}(h:st.fr=[(f,vs)])(res:List RV)(L:Sl):U6 P base res K Kp (.rt L st)=DX P base f vs .calm st.bare λm' st'=>(match m' with
  |.calm=>yo P res L st'.bare λvs=>K (zq vs) st'.bare
  |.pan v=>Kp v st'.bare
  |.done=>yo P res L st'.bare λvs=>K (zq vs) st'.bare):=by
 have:U6 P base res K Kp (.rt L st)=yI P base res K Kp [(f,vs)] L st.bare .calm:=by show yI P base res K Kp st.fr L st.bare .calm=_;rw[h]
 rw[this,jau];rfl
theorem Qa (h:st.fr=[])(res:List RV)(L:Sl):U6 P base res K Kp (.rt L st)=yo P res L st.bare λvs=>K (zq vs) st.bare:=by
 show yI P base res K Kp st.fr L st.bare .calm=_;rw[h];rfl
end
theorem jp2 {s:St}{x:Ex}{q:Nat×Nat×Nat}{cs ds:List AV}(h:cs=eE x)(h2:ds=zu q):G0 (.tup [.agg (eE x),.agg (zu q)]) (.tup [.agg cs,.agg ds]) s:=by
 subst h h2;exact FzD.tup (.cons (.agg (.pc (q9 x))) (.cons (.agg (.pc (by rfl))) .nil))
theorem jbI {s:St}{q:Nat×Nat×Nat}{ds:List AV}(h2:ds=zu q):G0 (.tup [.agg (eE (.mk 0 0 [] [] 0 0)),.agg (zu q)]) (.tup [.agg [.int .i64 0,.int .i64 0,.str [],.nils,.int .i64 0,.int .i64 0],.agg ds]) s:=by
 subst h2;exact FzD.tup (.cons XU (.cons (.agg (.pc (by rfl))) .nil))
def ex0:Ex:=.mk 0 0 [] [] 0 0
def yD (l:List Nat):Ex×(Nat×Nat×Nat):=
 if(qi l).2.1≠0 then(ex0,(qi l).2) else match yT (qi l).1 0 with
  |.er t=>(ex0,(151,t.line,t.col))
  |.ok x j=>if(tk (qi l).1 j).kind=5 then(x,(0,0,0)) else(ex0,(151,(tk (qi l).1 j).line,(tk (qi l).1 j).col))
theorem yH {ts:List Tk}(W:Wds ts){i j:Nat}{x:Ex}(hi:i<ts.length)(h:yT ts i=.ok x j):i+1<=j/\j<ts.length/\x.ev (atW ts)/\zt 60 x=true:=by
 obtain⟨r,hg,hr⟩:=evR W hi;rw[Gk hr] at h;unfold kD at h;cases r with
 |er t=>cases h
 |ok y k=>
  dsimp only at h;by_cases c:zt 60 y=true
  ·rw[if_pos c] at h;cases h;exact⟨hg.1,hg.2.1,hg.2.2,c⟩
  ·rw[if_neg c] at h;cases h
set_option maxHeartbeats 4000000 in
theorem jqV (hb:NB base)(hP:PI base)(l:List Nat)(hl:l.length<=9223372036854775807)(hW:(qi l).2.1=0->Wds (qi l).1/\(qi l).1≠[]/\(qi l).2=(0,0,0)) :
  Tot base 67 [.str l] (.tup [.agg (eE (yD l).1),.agg (zu (yD l).2)]):=by
 refine hb.tot ?_ rfl rfl;refine Wd x15 (hb.pur 67 1 dc) ?_;simp only[y15,jh,ζ,η,θ,κ];rw[(by unfold z15;simp only[qq];rfl:z15=_)];have hC:=jl5 hb hP l hl;have f0:(zu (qi l).2)=[.int .i64 ((qi l).2.1:Int),.int .i64 ((qi l).2.2.1:Int),.int .i64 ((qi l).2.2.2:Int)]:=rfl;by_cases he:(qi l).2.1=0
 ·obtain⟨W,hne,hz⟩:=hW he;have hi:0<(qi l).1.length:=QbU.2 hne;have A:=VM hb W hi;unfold yD;rw[if_neg (by simp[he])];rw[hz] at hC;generalize (qi l).1=ts at *;have fz:zu (0,0,0)=[.int .i64 0,.int .i64 0,.int .i64 0]:=rfl;rw[fz] at hC;cases hr:yT ts 0 with
  |er t=>
   rw[hr] at A;obtain⟨i',d',A⟩:=A;have E:∀ st p,Cl st p [.lst ts.length (fl Tk.cells ts),.int .i64 0,.int .i64 0]->∀ K Kp,XB γ base 96 [.ptr p 0] st K Kp=_:=λst p C K Kp=>A.xb C rfl (λst=>hb.no 96 dc _ _) K Kp;unfold pC at *;repeat'(first|apply jb<;>intro _|simp(disch:=first|exact dzD|fail) only[hC,E,Yh,Jh (f:=89) (vs:=[.ptr 1 0]),zd (f:=89) (vs:=[.ptr 1 0]),Qa,vv,Wh,r6,δ,ε])
   exact jbI rfl
  |ok x j=>
   rw[hr] at A;have A:PM _ _ _ _ _ _ _:=A;have hj:j<ts.length:=(yH W hi hr).2.1;have hN:=λst p=>@Yx base hb ts j 0 hj st p;have E:∀ st p,Cl st p [.lst ts.length (fl Tk.cells ts),.int .i64 0,.int .i64 0]->∀ K Kp,XB γ base 96 [.ptr p 0] st K Kp=_:=λst p C K Kp=>A.xb C rfl (λst=>hb.no 96 dc _ _) K Kp;dsimp only;by_cases k5:(tk ts j).kind=5
   ·rw[if_pos k5];have k5':((tk ts j).kind:Int)=5:=om
    unfold pC at *
    (have zz:=@QB;(repeat'(first|apply jb<;>intro _|simp(disch:=first|exact qO|fail) only[hC,E,hN,k5',Yh,Jh (f:=89) (vs:=[.ptr 1 0]),zd (f:=89) (vs:=[.ptr 1 0]),Qa,vv,Wh,Qy,vG,Yr,<-qt,QB,r6,δ,ε])))
    exact jp2 rfl rfl
   ·rw[if_neg k5];have k5':¬ ((tk ts j).kind:Int)=5:=om
    unfold pC at *;repeat'(first|apply jb<;>intro _|simp(disch:=first|exact dzD|fail) only[hC,E,hN,k5',JZ hb,Yh,Jh (f:=89) (vs:=[.ptr 1 0]),zd (f:=89) (vs:=[.ptr 1 0]),Qa,vv,Wh,Qy,vG,Yr,r6,δ,ε])
    exact jbI rfl
 ·have he':¬ ((qi l).2.1:Int)=0:=om
  unfold yD;rw[if_pos he];rw[f0] at hC;generalize (qi l).1=ts at *;repeat'(first|apply jb<;>intro _|simp(disch:=first|exact dzD|fail) only[hC,he',Yh,Jh (f:=89) (vs:=[.ptr 1 0]),zd (f:=89) (vs:=[.ptr 1 0]),Qa,vv,Wh,Qy,vG,Yr,r6,δ,ε])
  exact jbI rfl
inductive SR (α:Type) where
 |ok (x:α) (j:Nat)
 |er (t:Tk)
def Nbs (ts:List Tk):Prop:=∀ i,(tk ts i).num<=1000000
def AnS {α:Type}(base:Bs)(f:FuncId)(c xs:List AV)(ts:List Tk)(d:Nat)(enc:α->AV):SR α->Prop
 |.ok x j=>PM γ base f c xs (.ok (enc x)) (pC ts j d)
 |.er t=>∃ i' d',PM γ base f c xs (.pn (er t)) (pC ts i' d')
def SK {α:Type}(ts:List Tk)(d:Nat)(enc:α->AV)(r:SR α)(v:AV)(s:St):Prop:=match r with | .ok y j=>G1 3 (pC ts j d) (enc y) v s | .er _=>False
def SP {α:Type}(ts:List Tk)(r:SR α)(v:AV)(s:St):Prop:=match r with | .ok _ _=>False | .er t=>∃ i' d',G1 3 (pC ts i' d') (er t) v s
theorem HH {α:Type}(ts:List Tk)(d:Nat)(enc:α->AV)(y:α)(j:Nat)(v:AV)(s:St):SK ts d enc (.ok y j) v s=G1 3 (pC ts j d) (enc y) v s:=nr rfl
theorem zo {α:Type}(ts:List Tk)(t:Tk)(v:AV)(s:St):SP (α:=α) ts (.er t) v s = ∃ i' d',G1 3 (pC ts i' d') (er t) v s:=nr rfl
theorem vB {α:Type}{f:FuncId}{F:XF}(hl:jv γ f=some F)(hnd:F.body.nd=true)(hm:base.pur f=3){xs:List AV}{ts:List Tk}{i d:Nat}{enc:α->AV}{r:SR α}
  (h:xC γ base F.body (jh F.ps (.ptr 0 0 :: xs)) (nw st0 (pC ts i d)) (QZ γ F.res (SK ts d enc r)) λv _ s=>SP ts r v s.bare):AnS base f (pC ts i d) xs ts d enc r:=by
 rw[<-gM] at h;obtain⟨q,he,hq⟩:=XW (st:=Y3 (pC ts i d)) (K:=SK ts d enc r) (Kp:=SP ts r) hl hnd h;cases r with
 |ok y j=>
  refine PM.of hm rfl ⟨q,he,?_⟩;cases q<;>first|exact hq|exact hq.elim
 |er t=>
  cases q with
  |no=>exact hq.elim
  |ok v s=>exact(hq:False).elim
  |pn v s=>
   obtain⟨i',d',hq⟩:=(hq:∃ i' d',G1 3 (pC ts i' d') (er t) v s);exact⟨i',d',PM.of hm rfl ⟨_,he,hq⟩⟩
def Yw (ts:List Tk)(i:Nat):SR Int:=
 if isM (tk ts i) [[45]]=true then(if(tk ts (i+1)).kind=2 then .ok (-((tk ts (i+1)).num:Int)) (i+2) else .er (tk ts (i+1)))
 else(if(tk ts i).kind=2 then .ok ((tk ts i).num:Int) (i+1) else .er (tk ts i))
theorem jba (hb:NB base){ts:List Tk}(W:Wds ts)(N:Nbs ts){i d:Nat}(hi:i<ts.length):AnS base 165 (pC ts i d) [] ts d (λn=>.int .i64 n) (Yw ts i):=by
 have wl:=W.len;have T:=Yp hb hi (d:=d) om [[45]] (cs:=[.str [45]]) (n:=1) rfl rfl dc;unfold Yw;by_cases c1:isM (tk ts i) [[45]]=true
 ·rw[if_pos c1];have hi1:=W.isM hi c1;have hN:=λst p=>@Yx base hb ts (i+1) d hi1 st p;have hn:=N (i+1);by_cases k2:(tk ts (i+1)).kind=2
  ·rw[if_pos k2];have k2':((tk ts (i+1)).kind:Int)=2:=om
   show PM _ _ _ _ _ _ _;unfold pC at *;refine j2 jej (by rfl) (hb.pur 165 3 dc) rfl ?_;simp only[jaq,jh,ζ,η,θ,κ];rw[(by unfold uU;simp only[qq];rfl:uU=_)];repeat'(first|apply jb<;>intro _|simp(disch:=first|exact dzD|fail) only[T,c1,hN,k2',r6,δ,ε])
   (refine G1.done ?_ (by rfl) (by rfl) ?_;(· (first|exact cyD|fail));(· first|exact vyD|skip))
  ·rw[if_neg k2];have k2':¬ ((tk ts (i+1)).kind:Int)=2:=om
   refine⟨i+1,d,?_⟩;unfold pC at *;refine j2 jej (by rfl) (hb.pur 165 3 dc) rfl ?_;simp only[jaq,jh,ζ,η,θ,κ];rw[(by unfold uU;simp only[qq];rfl:uU=_)];repeat'(first|apply jb<;>intro _|simp(disch:=first|exact dzD|fail) only[T,c1,hN,k2',JZ hb,r6,δ,ε])
   (refine G1.done ?_ (by rfl) (by rfl) ?_;(· (first|exact cyD|fail));(· first|exact vyD|skip))
 ·rw[if_neg c1];have hN:=λst p=>@Yx base hb ts i d hi st p;have hn:=N i;by_cases k2:(tk ts i).kind=2
  ·rw[if_pos k2];have k2':((tk ts i).kind:Int)=2:=om
   show PM _ _ _ _ _ _ _;unfold pC at *;refine j2 jej (by rfl) (hb.pur 165 3 dc) rfl ?_;simp only[jaq,jh,ζ,η,θ,κ];rw[(by unfold uU;simp only[qq];rfl:uU=_)];repeat'(first|apply jb<;>intro _|simp(disch:=first|exact dzD|fail) only[T,c1,hN,k2',r6,δ,ε])
   (refine G1.done ?_ (by rfl) (by rfl) ?_;(· (first|exact cyD|fail));(· first|exact vyD|skip))
  ·rw[if_neg k2];have k2':¬ ((tk ts i).kind:Int)=2:=om
   refine⟨i,d,?_⟩;unfold pC at *;refine j2 jej (by rfl) (hb.pur 165 3 dc) rfl ?_;simp only[jaq,jh,ζ,η,θ,κ];rw[(by unfold uU;simp only[qq];rfl:uU=_)];repeat'(first|apply jb<;>intro _|simp(disch:=first|exact dzD|fail) only[T,c1,hN,k2',JZ hb,r6,δ,ε])
   (refine G1.done ?_ (by rfl) (by rfl) ?_;(· (first|exact cyD|fail));(· first|exact vyD|skip))
structure EnumT where
 name:List Nat
 vals:List (List Nat)
 line:Int
 col:Int
def enE (e:EnumT):List AV:=[.str e.name,.lst e.vals.length (e.vals.map .str),.int .i64 (e.line:Int),.int .i64 (e.col:Int)]
def Yj (ts:List Tk):Nat->Nat->List (List Nat)->SR (List (List Nat))
 |0,i,_=>.er (tk ts i)
 |n+1,i,vs=>if(tk ts i).kind=1 then
   (if 32<=vs.length then .er (tk ts i)
    else if isM (tk ts (i+1)) [[44]]=true then Yj ts n (i+2) (vs ++ [(tk ts i).text])
    else if isM (tk ts (i+1)) [[125]]=true then .ok (vs ++ [(tk ts i).text]) (i+2)
    else .er (tk ts (i+1)))
  else .er (tk ts i)
def wi (ts:List Tk)(i:Nat):SR EnumT:=
 if(tk ts i).kind=1 then
  (if isM (tk ts (i+1)) [[123]]=true then(match Yj ts ts.length (i+2) [] with
    |.ok vs j=>.ok ⟨(tk ts i).text,vs,(tk ts i).line,(tk ts i).col⟩ j
    |.er t=>.er t)
   else .er (tk ts (i+1)))
 else .er (tk ts i)
theorem wC (hb:NB base){n:Nat}(h:n<32)(t:Tk):Tot base 123 [.int .i64 (n:Int),.agg t.cells] (.tup []):=by
 have:=jgC hb n t;rw[if_neg om] at this;exact this
theorem wD (hb:NB base){n:Nat}(h:32<=n)(t:Tk):Ret base 123 [.int .i64 (n:Int),.agg t.cells] (.pn (er t)):=by
 have:=jgC hb n t;rw[if_pos h] at this;exact this
theorem jrt:Go.Ev.isAgg γ 141=some false:=by kernel_rfl
theorem jrs:Go.Ev.sizeOf γ 141=some 1:=by kernel_rfl
theorem gB {b o:Nat}{v:AV}{h:T AO}(ho:o<qh h b)(hv:rat h b o=v)(hc:eqs v=true):(jY γ 141 (.ptr b o) v h=true)=True:=eq_true (Qq jrt jrs ho hv hc)
theorem Lv.eqs {lo hi n z:Nat}{s:St}{v:AV}{cs:List AV}(h:Lv lo hi s v n cs z):Go.Sy.eqs v=true:=by
 rcases h with ⟨rfl,_⟩|⟨b,rfl,_⟩<;>rfl
theorem Lv.cell {lo hi n z:Nat}{s:St}{v:AV}{cs:List AV}(h:Lv lo hi s v n cs z):v.cell=true:=by
 rcases h with ⟨rfl,_⟩|⟨b,rfl,_⟩<;>rfl
theorem Lv.cells {lo hi n z:Nat}{s:St}{v:AV}{cs:List AV}(h:Lv lo hi s v n cs z):v.cells=[v]:=by
 rcases h with ⟨rfl,_⟩|⟨b,rfl,_⟩<;>rfl
theorem Lv.plain {lo hi n z:Nat}{s:St}{v:AV}{cs:List AV}(h:Lv lo hi s v n cs z):v.plain=true:=by
 rcases h with ⟨rfl,_⟩|⟨b,rfl,_⟩<;>rfl
theorem Lv.len {lo hi n z:Nat}{s:St}{v:AV}{cs:List AV}(h:Lv lo hi s v n cs z)(st:St)(K:AV->St->Prop):ji (jbk v st) K=K (.int .i64 (n:Int)) st:=by
 rcases h with ⟨rfl,rfl,_⟩|⟨b,rfl,_⟩
 ·exact jaH
 ·exact jem ..
theorem jB (z:Nat)(v:AV)(s:St):(apv z v s).cells=[apv z v s]:=by unfold apv;split<;>rfl
theorem jI (z:Nat)(v:AV)(s:St):(apv z v s).plain=true:=by unfold apv;split<;>rfl
theorem jM (z:Nat)(v:AV)(s:St)(l:List AV):lall AV.cell (apv z v s :: l)=lall AV.cell l:=by unfold apv;split<;>rfl
set_option maxHeartbeats 4000000 in
theorem jp6 (hb:NB base){ts:List Tk}(W:Wds ts){i d:Nat}(hi:i<ts.length):AnS base 124 (pC ts i d) [] ts d (λe=>.agg (enE e)) (wi ts i):=by
 have wl:=W.len;have N:=λst p=>@uG base hb ts i d hi om st p;unfold wi;by_cases k1:(tk ts i).kind=1
 ·rw[if_pos k1];have hi1:i+1<ts.length:=W.next i hi om
  have M:=λst p=>@Qt base hb ts (i+1) d hi1 om [123] st p;by_cases c1:isM (tk ts (i+1)) [[123]]=true
  ·rw[if_pos c1];have hi2:=W.isM hi1 c1;suffices h:∀ r:SR EnumT,(match Yj ts ts.length (i+2) [] with
    |.ok vs j=>SR.ok ⟨(tk ts i).text,vs,(tk ts i).line,(tk ts i).col⟩ j
    |.er t=>.er t:SR EnumT)=r->AnS base 124 (pC ts i d) [] ts d (λe=>.agg (enE e)) r from h _ rfl
   intro r hr;refine vB x78 (by rfl) (hb.pur 124 3 dc) ?_;simp only[y78,jh,ζ,η,θ,κ];rw[(by unfold z78;simp only[qq];rfl:z78=_)];unfold pC at *;repeat'(first|apply jb<;>intro _|simp(disch:=first|exact dzD|fail) only[N,k1,M,c1,r6,δ,ε])
   refine ut λu hu=>?_;have n0:u.nx=4:=by rw[hu];rfl
   have C0:Cl u 0 (pC ts (i+2) d):=by
    rw[hu];unfold pC
    (first|exact cyD|fail)
   have C1:Cl u 1 [.str [],.nils,.int .i64 0,.int .i64 0]:=by
    rw[hu]
    (first|exact cyD|fail)
   have C3:Cl u 3 [.str (tk ts i).text,.nils,.int .i64 ((tk ts i).line:Int),.int .i64 ((tk ts i).col:Int)]:=by
    rw[hu]
    (first|exact cyD|fail)
   clear hu N M;generalize (tk ts i).text=nm at *;generalize (tk ts i).line=ln at *;generalize (tk ts i).col=co at *;refine yz (λmm L s=>∃ (m i':Nat) (vs:List (List Nat)) (v:AV),mm=m/\ts.length<=i'+m/\i'<ts.length/\(match Yj ts m i' vs with | .ok vs j=>SR.ok ⟨nm,vs,ln,co⟩ j | .er t=>.er t:SR EnumT)=r/\4<=s.nx/\Cl s 0 (pC ts i' d)/\Cl s 1 [.str [],.nils,.int .i64 0,.int .i64 0]/\Cl s 3 [.str nm,v,.int .i64 (ln:Int),.int .i64 (co:Int)]/\Lv 4 s.nx s v vs.length (vs.map .str) 1/\Has L 0 (.ptr 0 0)/\Has L 2 (.ptr 1 0)/\Has L 4 (.ptr 3 0)) ?_ ts.length ?_
   ·rintro m L s ⟨_,i',vs,v,rfl,hm,hi',hl,n0,C0,C1,C3,V,i0,i2,i4⟩;clear hr;cases m with
    |zero=>omega
    |succ m=>
    unfold Yj at hl;obtain⟨q,hq⟩:∃ q,q=s.nx:=⟨_,rfl⟩;rw[<-hq] at V;have hq':q<=s.nx:=QaS hq;have hN:=λst p=>@Yx base hb ts i' d hi' st p;have hM:=λst p=>@uG base hb ts i' d hi' om st p;have L0:=C0.lt;have L1:=C1.lt;have L3:=C3.lt;have ve:=V.eqs;have g3:rat s.h 3 1=v:=C3.cell 1 (Qbv (QaN 2));have vl:=V.len;by_cases k1:(tk ts i').kind=1
    ·rw[if_pos k1] at hl;have k1':((tk ts i').kind:Int)=1:=om
     have hi1:i'+1<ts.length:=W.next i' hi' om
     by_cases h32:32<=vs.length
     ·rw[if_pos h32] at hl;subst hl;have R:=wD hb h32 (tk ts i');unfold pC at *
      (have zz:=a4 @g3 C0.r C1.r C3.r;(repeat'(first|apply jb<;>intro _|simp(disch:=first|exact qO|fail) only[ja i0,ja i2,ja i4,hN,k1',vl,R,gB,ve,zo,C0.q,C1.q,C3.q,g3,C0.r,C1.r,C3.r,r6,δ,ε])))
      refine⟨i',d,?_⟩;unfold pC
      (refine G1.done ?_ (by rfl) (by rfl) ?_;(· (have zz:=a4 C0.q C1.q C3.q (aI C0.r (aI C1.r C3.r));first|exact qf|fail));(· first|exact vyD|skip))
     ·rw[if_neg h32] at hl;have R:=wC hb (show vs.length<32 by omega) (tk ts i');have T:=Yp hb hi1 (d:=d) om [[44]] (cs:=[.str [44]]) (n:=1) rfl rfl dc;have M:=λst p=>@Qt base hb ts (i'+1) d hi1 om [125] st p;have A:=λst bv xc xx K h hv=>@JR 4 q vs.length 1 st v (vs.map .str) K 16 bv xc xx h dc om om hv;have V2:∀ st m',Lv 4 q st v vs.length (vs.map .str) 1->4<=st.nx->m'=st.nx+1->Lv 4 m' (aps v st [.str (tk ts i').text]) (apv 1 v st) (vs ++ [(tk ts i').text]).length ((vs ++ [(tk ts i').text]).map .str) 1:=λst m' h h2 h3=>by
       rw[υ,Qbd];exact h.put rfl h2 h3
      unfold pC at *
      (have zz:=a8 @g3 V.ln V.rts @jC @jG @jJ @V (a4 @ve @jB @jI (a4 @jM C0.r C1.r C3.r));(repeat'(first|apply jb<;>intro _|simp(disch:=first|exact qO|fail) only[ja i0,ja i2,ja i4,hN,hM,k1,k1',vl,R,gB,ve,A,V.at,jB,C0.q,C1.q,C3.q,g3,V.ln,V.rts,jC,jG,jJ,V,ve,jB,jI,jM,C0.r,C1.r,C3.r,r6,δ,ε])))
      rw[T _ 0 (s.nx+1+1) 1 true (by(have zz:=a8 C0.q C1.q C3.q @g3 V.ln V.rts C0.r (aI C1.r C3.r);first|exact qf|fail)) (by(have zz:=a8 C0.q C1.q C3.q @g3 V.ln V.rts C0.r (aI C1.r C3.r);first|exact qf|fail)) om]
      (have zz:=a8 @g3 V.ln V.rts @jB @jI @jM C0.r (aI C1.r C3.r);(repeat'(first|apply jb<;>intro _|simp(disch:=first|exact qO|fail) only[ja i0,ja i2,ja i4,M,V.at,jB,HH,zo,C0.q,C1.q,C3.q,g3,V.ln,V.rts,jB,jI,jM,C0.r,C1.r,C3.r,r6,δ,ε])))
      ·rename_i c;rw[if_pos c] at hl;have hi2:=W.isM hi1 c;refine⟨m,om,m,i'+1+1,vs ++ [(tk ts i').text],?v,rfl,om,hi2,hl,om,?c0,?c1,?c3,?lv,?has⟩;case lv=>
        refine Lv.up (hi:=s.nx+2) ?_ om;simp(disch:=first|omega|(simp only[je,jg,jk,jo];omega)) only[jC,jG,jJ];refine V2 _ _ ?_ ?_ ?_;all_goals first|(simp only[je,jg];done)|(simp only[je,jg];omega)|(simp(disch:=first|omega|(simp only[je,jg];omega)) only[jC,jG];exact V)
       case c0=>(have zz:=a8 C0.q C1.q C3.q @g3 V.ln V.rts @jB (a4 @jI @jM C0.r (aI C1.r C3.r));first|exact qf|fail)
       case c1=>(have zz:=a8 C0.q C1.q C3.q @g3 V.ln V.rts @jB (a4 @jI @jM C0.r (aI C1.r C3.r));first|exact qf|fail)
       case c3=>(have zz:=a8 C0.q C1.q C3.q @g3 V.ln V.rts @jB (a4 @jI @jM C0.r (aI C1.r C3.r));first|exact qf|fail)
       case has=>simp(disch:=decide) only[h12,i0,i2,i4]
      ·rename_i c c2;rw[if_neg c,if_pos c2] at hl;have hl:SR.ok (⟨nm,vs ++ [(tk ts i').text],ln,co⟩:EnumT) (i'+2)=r:=hl;subst hl;show G1 3 (pC ts (i'+2) d) (.agg (enE ⟨nm,vs ++ [(tk ts i').text],ln,co⟩)) _ _;refine G1.done ?_ (by rfl) (by rfl) (FzD.agg (.cons (.pc rfl) (.cons (Lv.fz (lo:=4) (hi:=s.nx+2) (z:=1) ?_ dc (uz _)) (.cons (.pc rfl) (.cons (.pc rfl) .nil)))))
       ·unfold pC
        (have zz:=a8 C0.q C1.q C3.q @g3 V.ln V.rts @jB (a4 @jI @jM C0.r (aI C1.r C3.r));first|exact qf|fail)
       ·simp(disch:=first|omega|(simp only[je,jg,jk,jo];omega)) only[jH,jC,jG,jJ];refine V2 _ _ ?_ ?_ ?_;all_goals first|(simp only[je,jg];done)|(simp only[je,jg];omega)|(simp(disch:=first|omega|(simp only[je,jg];omega)) only[jC,jG];exact V)
      ·rename_i c c2;rw[if_neg c,if_neg c2] at hl;have hl:SR.er (tk ts (i'+1))=r:=hl;subst hl;refine⟨i'+1,d,?_⟩;unfold pC
       (refine G1.done ?_ (by rfl) (by rfl) ?_;(· (have zz:=a8 C0.q C1.q C3.q @g3 V.ln V.rts @jB (a4 @jI @jM C0.r (aI C1.r C3.r));first|exact qf|fail));(· first|exact vyD|skip))
    ·rw[if_neg k1] at hl;have k1':¬ ((tk ts i').kind:Int)=1:=om
     subst hl;unfold pC at *
     (have zz:=a4 @g3 C0.r C1.r C3.r;(repeat'(first|apply jb<;>intro _|simp(disch:=first|exact qO|fail) only[ja i0,ja i2,ja i4,hN,hM,k1,k1',gB,ve,zo,C0.q,C1.q,C3.q,g3,C0.r,C1.r,C3.r,r6,δ,ε])))
     refine⟨i',d,?_⟩;unfold pC
     (refine G1.done ?_ (by rfl) (by rfl) ?_;(· (have zz:=a4 C0.q C1.q C3.q (aI C0.r (aI C1.r C3.r));first|exact qf|fail));(· first|exact vyD|skip))
   ·refine⟨ts.length,i+2,[],.nils,rfl,om,hi2,hr,om,C0,C1,C3,Lv.nil,?_⟩;simp(disch:=decide) only[h12]
  ·rw[if_neg c1];refine⟨i+1,d,?_⟩;unfold pC at *;refine j2 x78 (by rfl) (hb.pur 124 3 dc) rfl ?_;simp only[y78,jh,ζ,η,θ,κ];rw[(by unfold z78;simp only[qq];rfl:z78=_)];repeat'(first|apply jb<;>intro _|simp(disch:=first|exact dzD|fail) only[N,k1,M,c1,r6,δ,ε])
   (refine G1.done ?_ (by rfl) (by rfl) ?_;(· (first|exact cyD|fail));(· first|exact vyD|skip))
 ·rw[if_neg k1];refine⟨i,d,?_⟩;unfold pC at *;refine j2 x78 (by rfl) (hb.pur 124 3 dc) rfl ?_;simp only[y78,jh,ζ,η,θ,κ];rw[(by unfold z78;simp only[qq];rfl:z78=_)];repeat'(first|apply jb<;>intro _|simp(disch:=first|exact dzD|fail) only[N,k1,r6,δ,ε])
  (refine G1.done ?_ (by rfl) (by rfl) ?_;(· (first|exact cyD|fail));(· first|exact vyD|skip))
structure DeclT where
 name:List Nat
 ty:List Nat
 lo:Int
 hi:Int
 begins:List Ex
 line:Int
 col:Int
def qo (d:DeclT):List AV:=[.str d.name,.str d.ty,.int .i64 d.lo,.int .i64 d.hi,.lst d.begins.length (fl eE d.begins),.int .i64 (d.line:Int),.int .i64 (d.col:Int)]
def u0 (ts:List Tk)(i:Nat):SR (List Nat×Int×Int):=
 if isM (tk ts i) [[98,111,111,108]]=true then .ok ([98,111,111,108],0,0) (i+1)
 else if(tk ts i).kind=1 then .ok ((tk ts i).text,0,0) (i+1)
 else match Yw ts i with
  |.er t=>.er t
  |.ok lo j=>if isM (tk ts j) [[46,46]]=true then(match Yw ts (j+1) with
   |.er t=>.er t
   |.ok hi k=>.ok ([],lo,hi) k) else .er (tk ts j)
def um (ts:List Tk)(i:Nat):SR (List Ex):=
 if isM (tk ts i) [[61]]=true then(match yT ts (i+1) with
  |.er t=>.er t
  |.ok x j=>if isM (tk ts j) [[59]]=true then .ok [x] (j+1) else .er (tk ts j))
 else if isM (tk ts i) [[59]]=true then .ok [] (i+1) else .er (tk ts i)
def wm (ts:List Tk)(i:Nat):SR DeclT:=
 if(tk ts i).kind=1 then
  (if isM (tk ts (i+1)) [[58]]=true then(match u0 ts (i+2) with
    |.er t=>.er t
    |.ok y j=>(match um ts j with
     |.er t=>.er t
     |.ok bs k=>.ok ⟨(tk ts i).text,y.1,y.2.1,y.2.2,bs,(tk ts i).line,(tk ts i).col⟩ k))
   else .er (tk ts (i+1)))
 else .er (tk ts i)
def zD:List AV:=[.str [],.str [],.int .i64 0,.int .i64 0,.nils,.int .i64 0,.int .i64 0]
theorem jrX {m d b cap:Nat}{s:St}{ks:List Ex}{ex:Bool}{cs:List AV}(C:Cl s b cs)(hc:cs=fl eE ks)(hm:m<=b):FzD m (d+3) s (.slice b 0 ks.length cap 6 ex) (.lst ks.length (fl eE ks)):=by
 subst hc;have hl:=Jn Jd ks;refine FzD.slice C.rw_ (QaS hl.symm) hm ?_;rw[<-hl,Qah];exact .pc (zN q9 ks)
set_option maxHeartbeats 4000000 in
theorem jfm (hb:NB base){ts:List Tk}(W:Wds ts){j:Nat}(hj:j<ts.length){nm ty:List Nat}{lo hi:Int}{ln co:Nat}{r:SR DeclT}
  (hr:(match um ts j with | .er t=>SR.er t | .ok bs k=>.ok ⟨nm,ty,lo,hi,bs,ln,co⟩ k)=r) {L:Sl} {s:St} (n0:4<=s.nx) (C0:Cl s 0 (pC ts j 0)) (C1:Cl s 1 zD)
  (C3:Cl s 3 [.str nm,.str ty,.int .i64 lo,.int .i64 hi,.nils,.int .i64 (ln:Int),.int .i64 (co:Int)]) (i0:Has L 0 (.ptr 0 0)) (i2:Has L 2 (.ptr 1 0)) (i4:Has L 4 (.ptr 3 0)) :
  xC γ base jd2 L s (QZ γ y79.res (SK ts 0 (λd=>.agg (qo d)) r)) λv _ s=>SP ts r v s.bare:=by
 have wl:=W.len;have L0:=C0.lt;have L1:=C1.lt;have L3:=C3.lt;have T:=Yp hb hj (d:=0) om [[61]] (cs:=[.str [61]]) (n:=1) rfl rfl dc;unfold um at hr;unfold zD pC at *;rw[(by unfold jd2;simp only[qq];rfl:jd2=_)];simp only[y79];by_cases c1:isM (tk ts j) [[61]]=true
 ·rw[if_pos c1] at hr;have hj1:=W.isM hj c1;have A:=VM hb W hj1;cases hw:yT ts (j+1) with
  |er t=>
   rw[hw] at hr A;have hr:SR.er t=r:=hr;subst hr;obtain⟨i',d',A⟩:=A;have E:∀ st p,Cl st p (pC ts (j+1) 0)->∀ K Kp,XB γ base 96 [.ptr p 0] st K Kp=_:=λst p C K Kp=>A.xb C rfl (λst=>hb.no 96 dc _ _) K Kp;unfold pC at *
   (have zz:=aI C0.r (aI C1.r C3.r);(repeat'(first|apply jb<;>intro _|simp(disch:=first|exact qO|fail) only[ja i0,ja i2,ja i4,T,c1,E,zo,C0.q,C1.q,C3.q,C0.r,C1.r,C3.r,r6,δ,ε])))
   refine⟨i',d',?_⟩;unfold pC
   (refine G1.done ?_ (by rfl) (by rfl) ?_;(· (have zz:=a4 C0.q C1.q C3.q (aI C0.r (aI C1.r C3.r));first|exact qf|fail));(· first|exact vyD|skip))
  |ok x q=>
   rw[hw] at hr A;have A:PM _ _ _ _ _ _ _:=A;have E:∀ st p,Cl st p (pC ts (j+1) 0)->∀ K Kp,XB γ base 96 [.ptr p 0] st K Kp=_:=λst p C K Kp=>A.xb C rfl (λst=>hb.no 96 dc _ _) K Kp;have hq:q<ts.length:=(yH W hj1 hw).2.1;have M:=λst p=>@Qt base hb ts q 0 hq om [59] st p;unfold pC at *
   (have zz:=aI C0.r (aI C1.r C3.r);(repeat'(first|apply jb<;>intro _|simp(disch:=first|exact qO|fail) only[ja i0,ja i2,ja i4,T,c1,E,M,zo,HH,C0.q,C1.q,C3.q,C0.r,C1.r,C3.r,r6,δ,ε])))
   ·rename_i c2;dsimp only at hr;rw[if_pos c2] at hr;have hr:SR.ok (⟨nm,ty,lo,hi,[x],ln,co⟩:DeclT) (q+1)=r:=hr;subst hr;show G1 3 (pC ts (q+1) 0) (.agg (qo ⟨nm,ty,lo,hi,[x],ln,co⟩)) _ _;refine G1.done ?_ (by rfl) (by rfl) (FzD.agg (.cons (.pc rfl) (.cons (.pc rfl) (.cons (.pc rfl) (.cons (.pc rfl) (.cons (jrX (ks:=[x]) (cs:=eE x) ?_ (by rw[JX]) om) (.pc rfl)))))))
    ·unfold pC
     (have zz:=a4 C0.q C1.q C3.q (aI C0.r (aI C1.r C3.r));first|exact qf|fail)
    ·(have zz:=a4 C0.q C1.q C3.q (aI C0.r (aI C1.r C3.r));first|exact qf|fail)
   ·rename_i c2;dsimp only at hr;rw[if_neg c2] at hr;have hr:SR.er (tk ts q)=r:=hr;subst hr;refine⟨q,0,?_⟩;unfold pC
    (refine G1.done ?_ (by rfl) (by rfl) ?_;(· (have zz:=a4 C0.q C1.q C3.q (aI C0.r (aI C1.r C3.r));first|exact qf|fail));(· first|exact vyD|skip))
 ·rw[if_neg c1] at hr;have M:=λst p=>@Qt base hb ts j 0 hj om [59] st p;unfold pC at *
  (have zz:=aI C0.r (aI C1.r C3.r);(repeat'(first|apply jb<;>intro _|simp(disch:=first|exact qO|fail) only[ja i0,ja i2,ja i4,T,c1,M,zo,HH,C0.q,C1.q,C3.q,C0.r,C1.r,C3.r,r6,δ,ε])))
  ·rename_i c2;rw[if_pos c2] at hr;have hr:SR.ok (⟨nm,ty,lo,hi,[],ln,co⟩:DeclT) (j+1)=r:=hr;subst hr;show G1 3 (pC ts (j+1) 0) (.agg (qo ⟨nm,ty,lo,hi,[],ln,co⟩)) _ _;refine G1.done ?_ (by rfl) (by rfl) (FzD.agg (.cons (.pc rfl) (.cons (.pc rfl) (.cons (.pc rfl) (.cons (.pc rfl) (.cons .nils (.pc rfl)))))));unfold pC
   (have zz:=a4 C0.q C1.q C3.q (aI C0.r (aI C1.r C3.r));first|exact qf|fail)
  ·rename_i c2;rw[if_neg c2] at hr;have hr:SR.er (tk ts j)=r:=hr;subst hr;refine⟨j,0,?_⟩;unfold pC
   (refine G1.done ?_ (by rfl) (by rfl) ?_;(· (have zz:=a4 C0.q C1.q C3.q (aI C0.r (aI C1.r C3.r));first|exact qf|fail));(· first|exact vyD|skip))
theorem Kd {ts:List Tk}(W:Wds ts){i j:Nat}{n:Int}(hi:i<ts.length)(h:Yw ts i=.ok n j):j<ts.length:=by
 unfold Yw at h;by_cases c:isM (tk ts i) [[45]]=true
 ·rw[if_pos c] at h;have h1:=W.isM hi c;by_cases k:(tk ts (i+1)).kind=2
  ·rw[if_pos k] at h;cases h;exact W.next _ h1 om
  ·rw[if_neg k] at h;cases h
 ·rw[if_neg c] at h;by_cases k:(tk ts i).kind=2
  ·rw[if_pos k] at h;cases h;exact W.next _ hi om
  ·rw[if_neg k] at h;cases h
set_option maxHeartbeats 4000000 in
theorem jsd (hb:NB base){ts:List Tk}(W:Wds ts)(N:Nbs ts){i:Nat}(hi:i<ts.length){nm:List Nat}{ln co:Nat}{r:SR DeclT}
  (hr:(match u0 ts i with | .er t=>SR.er t | .ok y j=>(match um ts j with | .er t=>.er t | .ok bs k=>.ok ⟨nm,y.1,y.2.1,y.2.2,bs,ln,co⟩ k))=r) {L:Sl} {s:St} (n0:4<=s.nx) (C0:Cl s 0 (pC ts i 0)) (C1:Cl s 1 zD)
  (C3:Cl s 3 [.str nm,.str [],.int .i64 0,.int .i64 0,.nils,.int .i64 (ln:Int),.int .i64 (co:Int)]) (i0:Has L 0 (.ptr 0 0)) (i2:Has L 2 (.ptr 1 0)) (i4:Has L 4 (.ptr 3 0)) :
  xC γ base jd3 L s (QZ γ y79.res (SK ts 0 (λd=>.agg (qo d)) r)) λv _ s=>SP ts r v s.bare:=by
 have wl:=W.len;have L0:=C0.lt;have L1:=C1.lt;have L3:=C3.lt;have T:=Yp hb hi (d:=0) om [[98,111,111,108]] (cs:=[.str [98,111,111,108]]) (n:=1) rfl rfl dc;have hN:=λst p=>@Yx base hb ts i 0 hi st p;have hM:=λst p=>@uG base hb ts i 0 hi om st p;unfold u0 at hr;unfold zD pC at *;rw[(by unfold jd3;simp only[qq];rfl:jd3=_)];by_cases c1:isM (tk ts i) [[98,111,111,108]]=true
 ·rw[if_pos c1] at hr;have hi1:=W.isM hi c1
  (have zz:=aI C0.r (aI C1.r C3.r);(repeat'(first|apply jb<;>intro _|simp(disch:=first|exact qO|fail) only[ja i0,ja i2,ja i4,T,c1,C0.q,C1.q,C3.q,C0.r,C1.r,C3.r,r6,δ,ε])))
  refine jfm hb W hi1 hr ?_ ?_ ?_ ?_ ?_ ?_ ?_
  ·simp only[je,jg,jo];omega
  ·unfold pC
   (have zz:=a4 C0.q C1.q C3.q (aI C0.r (aI C1.r C3.r));first|exact qf|fail)
  ·unfold zD
   (have zz:=a4 C0.q C1.q C3.q (aI C0.r (aI C1.r C3.r));first|exact qf|fail)
  ·(have zz:=a4 C0.q C1.q C3.q (aI C0.r (aI C1.r C3.r));first|exact qf|fail)
  ·simp(disch:=decide) only[h12,i0]
  ·simp(disch:=decide) only[h12,i2]
  ·simp(disch:=decide) only[h12,i4]
 rw[if_neg c1] at hr;by_cases k1:(tk ts i).kind=1
 ·rw[if_pos k1] at hr;have k1':((tk ts i).kind:Int)=1:=om
  have hi1:i+1<ts.length:=W.next i hi om
  (have zz:=aI C0.r (aI C1.r C3.r);(repeat'(first|apply jb<;>intro _|simp(disch:=first|exact qO|fail) only[ja i0,ja i2,ja i4,T,c1,k1,k1',hN,hM,C0.q,C1.q,C3.q,C0.r,C1.r,C3.r,r6,δ,ε])))
  refine jfm hb W hi1 hr ?_ ?_ ?_ ?_ ?_ ?_ ?_
  ·simp only[je,jg,jo];omega
  ·unfold pC
   (have zz:=a4 C0.q C1.q C3.q (aI C0.r (aI C1.r C3.r));first|exact qf|fail)
  ·unfold zD
   (have zz:=a4 C0.q C1.q C3.q (aI C0.r (aI C1.r C3.r));first|exact qf|fail)
  ·(have zz:=a4 C0.q C1.q C3.q (aI C0.r (aI C1.r C3.r));first|exact qf|fail)
  ·simp(disch:=decide) only[h12,i0]
  ·simp(disch:=decide) only[h12,i2]
  ·simp(disch:=decide) only[h12,i4]
 rw[if_neg k1] at hr;have k1':¬ ((tk ts i).kind:Int)=1:=om
 have A:=jba hb W N hi (d:=0);cases hn:Yw ts i with
 |er t=>
  rw[hn] at hr A;have hr:SR.er t=r:=hr;subst hr;obtain⟨i',d',A⟩:=A;have E:∀ st p,Cl st p (pC ts i 0)->∀ K Kp,XB γ base 165 [.ptr p 0] st K Kp=_:=λst p C K Kp=>A.xb C rfl (λst=>hb.no 165 dc _ _) K Kp;unfold pC at *
  (have zz:=aI C0.r (aI C1.r C3.r);(repeat'(first|apply jb<;>intro _|simp(disch:=first|exact qO|fail) only[ja i0,ja i2,ja i4,T,c1,k1',hN,E,zo,C0.q,C1.q,C3.q,C0.r,C1.r,C3.r,r6,δ,ε])))
  refine⟨i',d',?_⟩;unfold pC
  (refine G1.done ?_ (by rfl) (by rfl) ?_;(· (have zz:=a4 C0.q C1.q C3.q (aI C0.r (aI C1.r C3.r));first|exact qf|fail));(· first|exact vyD|skip))
 |ok lo j=>
  rw[hn] at hr A;dsimp only at hr;have A:PM _ _ _ _ _ _ _:=A;have hj:j<ts.length:=Kd W hi hn;have E:∀ st p,Cl st p (pC ts i 0)->∀ K Kp,XB γ base 165 [.ptr p 0] st K Kp=_:=λst p C K Kp=>A.xb C rfl (λst=>hb.no 165 dc _ _) K Kp;have M:=λst p=>@Qt base hb ts j 0 hj om [46,46] st p;by_cases c2:isM (tk ts j) [[46,46]]=true
  ·rw[if_pos c2] at hr;have hj1:=W.isM hj c2;have B:=jba hb W N hj1 (d:=0);cases hn2:Yw ts (j+1) with
   |er t=>
    rw[hn2] at hr B;have hr:SR.er t=r:=hr;subst hr;obtain⟨i',d',B⟩:=B;have F:∀ st p,Cl st p (pC ts (j+1) 0)->∀ K Kp,XB γ base 165 [.ptr p 0] st K Kp=_:=λst p C K Kp=>B.xb C rfl (λst=>hb.no 165 dc _ _) K Kp;unfold pC at *
    (have zz:=aI C0.r (aI C1.r C3.r);(repeat'(first|apply jb<;>intro _|simp(disch:=first|exact qO|fail) only[ja i0,ja i2,ja i4,T,c1,k1',hN,E,F,M,c2,zo,C0.q,C1.q,C3.q,C0.r,C1.r,C3.r,r6,δ,ε])))
    refine⟨i',d',?_⟩;unfold pC
    (refine G1.done ?_ (by rfl) (by rfl) ?_;(· (have zz:=a4 C0.q C1.q C3.q (aI C0.r (aI C1.r C3.r));first|exact qf|fail));(· first|exact vyD|skip))
   |ok h2 k=>
    rw[hn2] at hr B;have hk:k<ts.length:=Kd W hj1 hn2;have B:PM _ _ _ _ _ _ _:=B;have F:∀ st p,Cl st p (pC ts (j+1) 0)->∀ K Kp,XB γ base 165 [.ptr p 0] st K Kp=_:=λst p C K Kp=>B.xb C rfl (λst=>hb.no 165 dc _ _) K Kp;unfold pC at *
    (have zz:=aI C0.r (aI C1.r C3.r);(repeat'(first|apply jb<;>intro _|simp(disch:=first|exact qO|fail) only[ja i0,ja i2,ja i4,T,c1,k1',hN,E,F,M,c2,C0.q,C1.q,C3.q,C0.r,C1.r,C3.r,r6,δ,ε])))
    refine jfm hb W hk hr ?_ ?_ ?_ ?_ ?_ ?_ ?_
    ·simp only[je,jg,jo];omega
    ·unfold pC
     (have zz:=a4 C0.q C1.q C3.q (aI C0.r (aI C1.r C3.r));first|exact qf|fail)
    ·unfold zD
     (have zz:=a4 C0.q C1.q C3.q (aI C0.r (aI C1.r C3.r));first|exact qf|fail)
    ·(have zz:=a4 C0.q C1.q C3.q (aI C0.r (aI C1.r C3.r));first|exact qf|fail)
    ·simp(disch:=decide) only[h12,i0]
    ·simp(disch:=decide) only[h12,i2]
    ·simp(disch:=decide) only[h12,i4]
  ·rw[if_neg c2] at hr;have hr:SR.er (tk ts j)=r:=hr;subst hr;unfold pC at *
   (have zz:=aI C0.r (aI C1.r C3.r);(repeat'(first|apply jb<;>intro _|simp(disch:=first|exact qO|fail) only[ja i0,ja i2,ja i4,T,c1,k1',hN,E,M,c2,zo,C0.q,C1.q,C3.q,C0.r,C1.r,C3.r,r6,δ,ε])))
   refine⟨j,0,?_⟩;unfold pC
   (refine G1.done ?_ (by rfl) (by rfl) ?_;(· (have zz:=a4 C0.q C1.q C3.q (aI C0.r (aI C1.r C3.r));first|exact qf|fail));(· first|exact vyD|skip))
set_option maxHeartbeats 4000000 in
theorem jqd (hb:NB base){ts:List Tk}(W:Wds ts)(N:Nbs ts){i:Nat}(hi:i<ts.length):AnS base 125 (pC ts i 0) [] ts 0 (λd=>.agg (qo d)) (wm ts i):=by
 have wl:=W.len;have hM:=λst p=>@uG base hb ts i 0 hi om st p;unfold wm;by_cases k1:(tk ts i).kind=1
 ·rw[if_pos k1];have hi1:i+1<ts.length:=W.next i hi om
  have M:=λst p=>@Qt base hb ts (i+1) 0 hi1 om [58] st p;by_cases c1:isM (tk ts (i+1)) [[58]]=true
  ·rw[if_pos c1];have hi2:=W.isM hi1 c1;suffices h:∀ r:SR DeclT,(match u0 ts (i+2) with | .er t=>SR.er t | .ok y j=>(match um ts j with | .er t=>.er t | .ok bs k=>.ok ⟨(tk ts i).text,y.1,y.2.1,y.2.2,bs,(tk ts i).line,(tk ts i).col⟩ k))=r->AnS base 125 (pC ts i 0) [] ts 0 (λd=>.agg (qo d)) r from h _ rfl
   intro r hr;refine vB x79 (by rfl) (hb.pur 125 3 dc) ?_;simp only[y79,jh,ζ,η,θ,κ];rw[(by unfold z79;simp only[qq];rfl:z79=_)];unfold pC at *;repeat'(first|apply jb<;>intro _|simp(disch:=first|exact dzD|fail) only[hM,k1,M,c1,r6,δ,ε])
   refine jsd hb W N hi2 hr ?_ ?_ ?_ ?_ ?_ ?_ ?_
   ·simp only[je,jg,jo,yd];omega
   ·unfold pC
    (first|exact cyD|fail)
   ·unfold zD
    (first|exact cyD|fail)
   ·(first|exact cyD|fail)
   ·simp(disch:=decide) only[h12]
   ·simp(disch:=decide) only[h12]
   ·simp(disch:=decide) only[h12]
  ·rw[if_neg c1];refine⟨i+1,0,?_⟩;unfold pC at *;refine j2 x79 (by rfl) (hb.pur 125 3 dc) rfl ?_;simp only[y79,jh,ζ,η,θ,κ];rw[(by unfold z79;simp only[qq];rfl:z79=_)];repeat'(first|apply jb<;>intro _|simp(disch:=first|exact dzD|fail) only[hM,k1,M,c1,r6,δ,ε])
   (refine G1.done ?_ (by rfl) (by rfl) ?_;(· (first|exact cyD|fail));(· first|exact vyD|skip))
 ·rw[if_neg k1];refine⟨i,0,?_⟩;unfold pC at *;refine j2 x79 (by rfl) (hb.pur 125 3 dc) rfl ?_;simp only[y79,jh,ζ,η,θ,κ];rw[(by unfold z79;simp only[qq];rfl:z79=_)];repeat'(first|apply jb<;>intro _|simp(disch:=first|exact dzD|fail) only[hM,k1,r6,δ,ε])
  (refine G1.done ?_ (by rfl) (by rfl) ?_;(· (first|exact cyD|fail));(· first|exact vyD|skip))
end Go.Sy
end
