/-
  Contracts: the code lowered, what it does told by rules, and the contracts of the functions that the law reaches.
-/
import Derived.Test.YthkfaeaceekmkaaDoorCnSyB
import Derived.Test.YthkfaeaceekmkaaDoorProg
import Derived.KernelRfl
set_option linter.unusedVariables false
set_option linter.unusedSimpArgs false
open Nat renaming reduceAdd → γ, reduceSub → ε, reduceMul → ζ, reduceBEq → θ, le_refl → ν, le_trans → ω, zero_le → Qaa, zero_add → Qan, le_max_left → Qap, le_max_right → Qaq, lt_of_lt_of_le → Qat, lt_or_ge → Qau, add_mul → QaF, not_lt_zero → QaP, zero_mul → QaT, lt_succ_self → QaY, succ_mul → QaZ, mul_one → Qbf, lt_irrefl → Qbh, le_succ_of_le → Qbi, mod_eq_of_lt → Qbn, one_mul → Qbq, min_eq_left → Qbv, add_comm → Qbx, sub_zero → Qby, ne_of_lt → QbC, le_of_eq → QbE, lt_trichotomy → QbT, beq → Qcb, succ → Qcc, ble → Qcd, add → Qce, mul → Qcf, sub → Qcg
open Go.Proofs.Tryd renaming prog → δ
open Int renaming reduceToNat → η, natCast_zero → κ, zero_add → μ, ofNat → Qas, eq_ofNat_of_zero_le → Qbr, natCast_nonneg → QbJ
open List renaming map_cons → ξ, map_nil → τ, length_append → υ, getD_cons_succ → χ, getD_cons_zero → ψ, range' → Qab, getElem?_eq_getElem → Qac, length_cons → Qad, getD → Qae, getElem_mem → Qaf, getD_eq_getElem?_getD → Qag, length_nil → Qah, range → Qak, all_eq_true → Qal, cons → Qam, all_cons → Qaw, nil_append → Qax, take_length → Qay, append_nil → Qaz, mem_append → QaA, length_map → QaC, map_map → QaD, mem_singleton → QaG, map_congr_left → QaH, map_append → QaI, flatMap_cons → QaJ, length_take → QaL, mem_cons → QaM, append_assoc → QaN, length_drop → QaO, length_singleton → QaR, cons_append → QaS, length → QaX, range'_succ → Qba, flatMap_append → Qbb, take_zero → Qbc, eq_nil_of_length_eq_zero → Qbd, getElem?_map → Qbe, any_eq_false → Qbj, drop_of_length_le → Qbk, getElem?_take → Qbl, ext_getElem → Qbm, take_of_length_le → Qbs, take_append_drop → Qbt, getElem?_drop → Qbu, all_append → Qbz, map_toArray → QbA, drop_eq_getElem_cons → QbD, length_eq_zero_iff → QbG, take_take → QbI, foldr_cons → QbK, take_add_one → QbL, drop_zero → QbM, mem_iff_getElem → QbO, getElem?_append_left → QbQ, getElem?_append_right → QbR, mem_append_left → QbV, countP_singleton → QbW, getElem_cons_zero → QbX
open Array renaming length_toList → Qai, getElem?_eq_some_iff → Qao, replicate → QaB, toList_map → Qbo, getElem?_toList → QbB, getD_eq_getD_getElem? → QbN, toList_append → QbS, mem_toList_iff → QbU, getElem?_eq_getElem → QbY, getElem?_setIfInBounds_ne → QbZ, getElem?_append_left → Qca
open Bool renaming and_eq_true → Qaj, eq_iff_iff → QaK, false_eq_true → QaU, or_eq_true → QaV, not_eq_true' → Qbg, or_eq_false_iff → Qbp, and_false → QbF
open Option renaming getD_some → Qar, map_some → Qav, bind_some → QaE, map_none → QaW, map_eq_some_iff → Qbw, isSome_some → QbH
open Decidable renaming not_not → QaQ
open Function renaming comp_def → QbP
noncomputable section
namespace Go.Sy
open Go.Ev Go.RowKit
section
variable {P:Program} {base:Bs} {st:St} {K:AV->St->Prop} {e:En}
theorem jd4 {b o k:Nat}(hpos:0<k)(h:o+k<=qh st.h b):jd (Ym k (.ptr b o) st) K=K (.agg ((Qak k).map λi=>rat st.h b (o+i))) st:=by
 obtain⟨n,zl,z,cs,hg⟩:=zF (h:=st.h) (b:=b) om;rw[qW hg] at h;have e1:Qcd (Qce o k) n=true:=jW h;simp only[Ym,qk,hg,qz,e1,cond_true,jd,zq hg,jE]
theorem jeX {l:List Nat}{n:Nat}(h:n<=l.length)(k:IntKind):jd (yU (.str l) (some (.int k (n:Int))) none st) K=K (.str (l.drop n)) st:=by
 have e:jQ (.int k (n:Int))=λF=>F n:=by funext F;show(force n F)=F n;rw[ji]
 have e1:Qcd n l.length=true:=jW h;have e2:Qcd l.length l.length=true:=jW (ν _);simp only[yU,yH,optA,e,jp,ji,e1,e2,cond_true,jd,qt,ym];rw[show Qcg l.length n=(l.drop n).length by rw[QaO];rfl,Qay]
theorem jeW {l:List Nat}{n:Nat}(h:n<=l.length)(k:IntKind):jd (yU (.str l) none (some (.int k (n:Int))) st) K=K (.str (l.take n)) st:=by
 have e:jQ (.int k (n:Int))=λF=>F n:=by funext F;show(force n F)=F n;rw[ji]
 have e1:Qcd n l.length=true:=jW h;have e2:Qcd 0 n=true:=jW (Qaa _);simp only[yU,yH,optA,e,jp,ji,e1,e2,cond_true,jd,qt,ym];rfl
theorem jeV {l:List Nat}{a n:Nat}(h:a<=n)(h2:n<=l.length)(k k':IntKind):jd (yU (.str l) (some (.int k (a:Int))) (some (.int k' (n:Int))) st) K=K (.str ((l.drop a).take (n - a))) st:=by
 have e:∀ (k:IntKind) (n:Nat),jQ (.int k (n:Int))=λF=>F n:=λk n=>by funext F;show(force n F)=F n;rw[ji]
 have e1:Qcd n l.length=true:=jW h2;have e2:Qcd a n=true:=jW h;simp only[yU,yH,optA,e,jp,ji,e1,e2,cond_true,jd,qt,ym];rfl
end
def nw (s:St)(cs:List AV):St:=⟨s.nx+1,(jz (jk s.nx)).run (.row cs.length cs.length cs .e) s.h,s.dirty,s.fr⟩
def UC (x:Option AO)(o:Nat)(vs:List AV):AO:=match x with|some (.row n zl z cs)=>.row n zl z (jI vs cs o)|_=>.row 0 1 [] (jI vs .e o)
def wr (s:St)(b o:Nat)(vs:List AV):St:=⟨s.nx,(jz (jk b)).run (UC (jh s.h b) o vs) s.h,min s.dirty b,s.fr⟩
def apO (x:Option AO)(vs:List AV):AO:=match x with|some (.row n zl z cs)=>.row (n+vs.length) zl z (jI vs cs n)|_=>.row vs.length 1 [] (jI vs .e 0)
def ap (s:St)(b:Nat)(vs:List AV):St:=⟨s.nx+1,(jz (jk s.nx)).run (apO (jh s.h b) vs) ((jz (jk b)).run .dead s.h),min s.dirty b,s.fr⟩
theorem jP (s:St)(cs:List AV):(nw s cs).nx=s.nx+1:=nr rfl
theorem yJ (s:St)(b o:Nat)(vs:List AV):(wr s b o vs).nx=s.nx:=nr rfl
theorem qG (s:St):s.bare.nx=s.nx:=nr rfl
theorem YF (s:St):s.bare.h=s.h:=nr rfl
theorem JF (s:St)(cs:List AV):(nw s cs).fr=s.fr:=nr rfl
theorem VV (s:St)(b o:Nat)(vs:List AV):(wr s b o vs).fr=s.fr:=nr rfl
theorem gb (s:St):s.bare.fr=[]:=nr rfl
theorem Xm {s:St}{cs:List AV}{b:Nat}(h:b≠s.nx):jh (nw s cs).h b=jh s.h b:=by unfold nw;rw[jy,if_neg h]
theorem Xl {s:St}{b o:Nat}{vs:List AV}{c:Nat}(h:c≠b):jh (wr s b o vs).h c=jh s.h c:=by unfold wr;rw[jy,if_neg h]
theorem K8 {s:St}{b:Nat}{vs:List AV}{c:Nat}(h:c≠s.nx)(h2:c≠b):jh (ap s b vs).h c=jh s.h c:=by unfold ap;rw[jy,if_neg h,jy,if_neg h2]
theorem jag (s:St)(cs:List AV):qh (nw s cs).h s.nx=cs.length:=by unfold nw;rw[jbo,if_pos rfl]
theorem Xg {s:St}{cs:List AV}{b:Nat}(h:b≠s.nx):qh (nw s cs).h b=qh s.h b:=zh (Xm h)
theorem GX {s:St}{cs:List AV}{i:Nat}(h:i<cs.length):rat (nw s cs).h s.nx i=cs.getD i .bad:=by unfold nw;rw[jds,if_pos rfl,yj,JD,Qbn h];rfl
theorem uC {s:St}{cs:List AV}{b i:Nat}(h:b≠s.nx):rat (nw s cs).h b i=rat s.h b i:=yy (Xm h) i
theorem Xh {s:St}{cs:List AV}{b:Nat}(h:b=s.nx):qh (nw s cs).h b=cs.length:=by rw[h,jag]
theorem uD {s:St}{cs:List AV}{b i:Nat}(h:b=s.nx)(hi:i<cs.length):rat (nw s cs).h b i=cs.getD i .bad:=by rw[h,GX hi]
theorem XA (s:St)(b o:Nat)(vs:List AV)(c:Nat):qh (wr s b o vs).h c=qh s.h c:=by
 by_cases h:c=b
 ·subst h;unfold wr UC qh;rw[jy,if_pos rfl];cases jh s.h c with
  |none=>rfl
  |some x=>cases x<;>rfl
 ·exact zh (Xl h)
theorem Z3 (s:St)(b o:Nat)(vs:List AV)(i:Nat):rat (wr s b o vs).h b i=if o<=i/\i<o+vs.length then vs.getD (i - o) .bad else rat s.h b i:=by
 unfold wr rat;rw[jy,if_pos rfl];unfold UC;cases jh s.h b with
 |none=>simp only[qV];congr 1;rw[yj,JD];rfl
 |some x=>cases x<;>simp only[qV]<;>(congr 1;rw[yj,JD];rfl)
theorem uB {s:St}{b o:Nat}{vs:List AV}{i:Nat}(h1:o<=i)(h2:i<o+vs.length):rat (wr s b o vs).h b i=vs.getD (i - o) .bad:=by rw[Z3,if_pos ⟨h1,h2⟩]
theorem uz {s:St}{b o:Nat}{vs:List AV}{i:Nat}(h:i<o):rat (wr s b o vs).h b i=rat s.h b i:=by rw[Z3,if_neg om]
theorem uA {s:St}{b o:Nat}{vs:List AV}{i:Nat}(h:o+vs.length<=i):rat (wr s b o vs).h b i=rat s.h b i:=by rw[Z3,if_neg om]
theorem uw {s:St}{b o c:Nat}{vs:List AV}{i:Nat}(h:c≠b):rat (wr s b o vs).h c i=rat s.h c i:=yy (Xl h) i
theorem jbM {s:St}{b o:Nat}{vs:List AV}{c:Nat}(h:Yi s.h c):Yi (wr s b o vs).h c:=by
 by_cases hc:c=b
 ·subst hc;unfold Yi wr;rw[jy,if_pos rfl];obtain⟨n,zl,z,cs,e⟩:=h;rw[e];exact⟨_,_,_,_,rfl⟩
 ·exact J2 (Xl hc) h
structure Cl (s:St)(b:Nat)(cs:List AV):Prop where
 lt:b<s.nx
 row:Yi s.h b
 len:qh s.h b=cs.length
 cell:∀ i,i<cs.length->rat s.h b i=cs.getD i .bad
theorem Cl.keep {s s':St}{b:Nat}{cs:List AV}(h:Cl s b cs)(hn:s.nx<=s'.nx)(k:jh s'.h b=jh s.h b):Cl s' b cs:=
 ⟨Qat h.lt hn,J2 k h.row,(zh k).trans h.len,λi hi=>(yy k i).trans (h.cell i hi)⟩
theorem Cl.new (s:St)(cs:List AV):Cl (nw s cs) s.nx cs:=
 ⟨QaY _,⟨_,_,_,_,by unfold nw;rw[jy,if_pos rfl]⟩,jag s cs,λi hi=>GX hi⟩
theorem Cl.nw {s:St}{b:Nat}{cs:List AV}(h:Cl s b cs)(ds:List AV):Cl (nw s ds) b cs:=h.keep (Nat.le_succ _) (Xm (QbC h.lt))
theorem Cl.wrO {s:St}{b:Nat}{cs:List AV}(h:Cl s b cs){c:Nat}(hc:b≠c)(o:Nat)(vs:List AV):Cl (wr s c o vs) b cs:=h.keep (ν _) (Xl hc)
def upd:List AV->Nat->List AV->List AV
 |[],_,_=>[]
 |c :: cs,0,[]=>c :: cs
 |c :: cs,0,v :: vs=>v :: upd cs 0 vs
 |c :: cs,o+1,vs=>c :: upd cs o vs
theorem Yv:∀ (cs:List AV) (o:Nat) (vs:List AV),(upd cs o vs).length=cs.length
 |[],_,_=>rfl
 |c :: cs,0,[]=>rfl
 |c :: cs,0,v :: vs=>by show(upd cs 0 vs).length+1=_;rw[Yv cs 0 vs];rfl
 |c :: cs,o+1,vs=>by show(upd cs o vs).length+1=_;rw[Yv cs o vs];rfl
theorem Z7:∀ (cs:List AV) (o:Nat) (vs:List AV) (i:Nat),i<cs.length->(upd cs o vs).getD i .bad=if o<=i/\i<o+vs.length then vs.getD (i - o) .bad else cs.getD i .bad
 |[],_,_,_,h=>by simp at h
 |c :: cs,0,[],i,h=>by rw[if_neg (by simp)];rfl
 |c :: cs,0,v :: vs,0,h=>by rw[if_pos (by simp)];rfl
 |c :: cs,0,v :: vs,i+1,h=>by
  show(upd cs 0 vs).getD i .bad=_;rw[Z7 cs 0 vs i (by simpa using h)];by_cases hi:i<vs.length
  ·rw[if_pos om,if_pos (by simp;omega)];rfl
  ·rw[if_neg om,if_neg (by simp;omega)];rfl
 |c :: cs,o+1,vs,0,h=>by rw[if_neg om];rfl
 |c :: cs,o+1,vs,i+1,h=>by
  show(upd cs o vs).getD i .bad=_;rw[Z7 cs o vs i (by simpa using h)];by_cases hi:o<=i/\i<o+vs.length
  ·rw[if_pos hi,if_pos om,Nat.add_sub_add_right]
  ·rw[if_neg hi,if_neg om];rfl
theorem Cl.wr {s:St}{b:Nat}{cs:List AV}(h:Cl s b cs)(o:Nat)(vs:List AV):Cl (wr s b o vs) b (upd cs o vs):=
 ⟨h.lt,jbM h.row,by rw[XA,h.len,Yv],λi hi=>by
  rw[Yv] at hi;rw[Z3,Z7 _ _ _ _ hi,h.cell i hi]⟩
theorem Cl.ap {s:St}{b:Nat}{cs:List AV}(h:Cl s b cs)(vs:List AV):Cl (ap s b vs) s.nx (cs ++ vs):=by
 obtain⟨n,zl,z,ks,e⟩:=h.row;have hl:=h.len;rw[qW e] at hl;have eo:jh (Go.Sy.ap s b vs).h s.nx=some (.row (n+vs.length) zl z (jI vs ks n)):=by unfold Go.Sy.ap;rw[jy,if_pos rfl,e];rfl
 refine⟨QaY _,⟨_,_,_,_,eo⟩,by rw[qW eo,υ,hl],λi hi=>?_⟩;rw[zq eo,qV];rw[υ] at hi;by_cases hc:n<=i/\i<n+vs.length
 ·rw[if_pos hc,Qag,Qag,QbR om,hl]
 ·have hi':i<cs.length:=om
  rw[if_neg hc,<-zq e,h.cell i hi',Qag,Qag,QbQ hi']
theorem Yg (cs:List AV):(AV.agg cs).cells=cs:=nr rfl
theorem Yf (k:IntKind)(n:Int):(AV.int k n).cells=[.int k n]:=nr rfl
theorem Yb (l:List Nat):(AV.str l).cells=[.str l]:=nr rfl
theorem Q9 (b:Bool):(AV.bool b).cells=[.bool b]:=nr rfl
theorem Qx (b o n c z:Nat)(x:Bool):(AV.slice b o n c z x).cells=[.slice b o n c z x]:=nr rfl
theorem Q8:AV.nils.cells=[.nils]:=nr rfl
theorem Yd (b o:Nat):(AV.ptr b o).cells=[.ptr b o]:=nr rfl
theorem UZ:lall AV.cell []=true:=nr rfl
theorem U1 (k:IntKind)(n:Int)(l:List AV):lall AV.cell (.int k n :: l)=lall AV.cell l:=nr rfl
theorem UX (x:List Nat)(l:List AV):lall AV.cell (.str x :: l)=lall AV.cell l:=nr rfl
theorem W4 (x:Bool)(l:List AV):lall AV.cell (.bool x :: l)=lall AV.cell l:=nr rfl
theorem ub (b o n c z:Nat)(x:Bool)(l:List AV):lall AV.cell (.slice b o n c z x :: l)=lall AV.cell l:=nr rfl
theorem W3 (l:List AV):lall AV.cell (.nils :: l)=lall AV.cell l:=nr rfl
theorem UY (b o:Nat)(l:List AV):lall AV.cell (.ptr b o :: l)=lall AV.cell l:=nr rfl
section
variable {P:Program} {base:Bs} {st:St} {K:AV->St->Prop} {e:En}
theorem GZ (cs:List AV):jd (Ev.newRow st cs) K=K (.ptr st.nx 0) (nw st cs):=by
 simp only[Ev.newRow,ji,jp,St.alloc_eq,jd];rfl
theorem jc5 {v:AV}(h:lall AV.cell v.cells=true):jd (jb5 v st) K=K (.ptr st.nx 0) (nw st v.cells):=by
 simp only[jb5,h,cond_true];exact GZ _
theorem jeN {k b o:Nat}{v:AV}(hk:0<k)(hc:v.cells.length=k)(hl:lall AV.cell v.cells=true)(ho:o+k<=qh st.h b):jd (stV k (.ptr b o) v st) K=K jF (wr st b o v.cells):=by
 obtain⟨n,zl,z,cs,hg⟩:=zF (h:=st.h) (b:=b) om;rw[qW hg] at ho;have e1:Qcb (jm v.cells) k=true:=Qb (by rw[jp];exact hc);have e2:Qcd (Qce o k) n=true:=jW ho;simp only[stV,qk,hg,qz,e1,e2,hl,cond_true,St.put_eq,jd];unfold wr UC;rw[hg]
def rats (h:T AO)(b o:Nat):Nat->List AV
 |0=>[]
 |k+1=>rat h b o :: rats h b (o+1) k
theorem zU (h:T AO)(b:Nat):∀ (k o:Nat),rats h b o k=(Qak k).map λi=>rat h b (o+i)
 |0,o=>rfl
 |k+1,o=>by
  rw[List.range_succ_eq_map,ξ,QaD];show rat h b o :: rats h b (o+1) k=_;rw[zU h b k (o+1)]
  congr 1
  refine QaH λi _=>?_;show rat h b (o+1+i)=rat h b (o+(i+1));rw[Nat.add_assoc,Qbx 1 i]
theorem G3 {k b o:Nat}(hk:0<k)(h:o+k<=qh st.h b):jd (Ym k (.ptr b o) st) K=K (.agg (rats st.h b o k)) st:=by rw[zU];exact jd4 hk h
theorem rats0 (h:T AO)(b o:Nat):rats h b o 0=[]:=nr rfl
theorem VH (h:T AO)(b o k:Nat):rats h b o (k+1)=rat h b o :: rats h b (o+1) k:=nr rfl
theorem Cl.ratsP {s:St}{b:Nat}{cs:List AV}(h:Cl s b cs):∀ k o,o+k<=cs.length->rats s.h b o k=(cs.drop o).take k
 |0,o,_=>rfl
 |k+1,o,hk=>by
  show rat s.h b o :: Go.Sy.rats s.h b (o+1) k=_;rw[h.ratsP k (o+1) om,h.cell o om,QbD (show o<cs.length by omega),List.take_succ_cons,Qag,Qac om];rfl
theorem X1 {h h':T AO}{b:Nat}(e:jh h' b=jh h b):∀ k o,rats h' b o k=rats h b o k
 |0,_=>rfl
 |k+1,o=>by rw[VH,VH,yy e,X1 e k]
theorem zk (h:T AO)(b:Nat):∀ k o,(rats h b o k).length=k
 |0,_=>rfl
 |k+1,o=>by rw[VH,Qad,zk h b k]
theorem Xu {h:T AO}{b:Nat}:∀ {k o:Nat} {cs:List AV},cs.length=k->(∀ i,i<k->rat h b (o+i)=cs.getD i .bad)->rats h b o k=cs
 |0,o,[],_,_=>rfl
 |k+1,o,c :: cs,hl,h=>by
  rw[VH,Xu (cs:=cs) (by simpa using hl) (λi hi=>by
   have:=h (i+1) om;rw[show o+1+i=o+(i+1) by omega,this];rfl)]
  have:=h 0 om;rw[Nat.add_zero] at this;rw[this];rfl
theorem jdr {s:St}{cs:List AV}{k:Nat}(h:cs.length=k):rats (nw s cs).h s.nx 0 k=cs:=Xu h λi hi=>by rw[Qan];exact GX om
theorem Qk {s:St}{cs:List AV}{b k:Nat}(hb:b=s.nx)(h:cs.length=k):rats (nw s cs).h b 0 k=cs:=by rw[hb,jdr h]
theorem Qj {s:St}{cs:List AV}{b o k:Nat}(h:b≠s.nx):rats (nw s cs).h b o k=rats s.h b o k:=X1 (Xm h) _ _
theorem Xc {s:St}{b o k:Nat}{vs:List AV}(h:vs.length=k):rats (wr s b o vs).h b o k=vs:=Xu h λi hi=>by
 rw[uB om om,Nat.add_sub_cancel_left]
theorem Qh {s:St}{b c o o' k:Nat}{vs:List AV}(h:b≠c):rats (wr s c o' vs).h b o k=rats s.h b o k:=X1 (Xl h) _ _
theorem Qi {s:St}{b o k:Nat}{vs:List AV}:rats (wr s b o vs).h b 0 k=upd (rats s.h b 0 k) o vs:=by
 refine Xu (by rw[Yv,zk]) λi hi=>?_;rw[Qan,Z3,Z7 _ _ _ _ (by rw[zk];exact hi),zU]
 congr 1
 simp[Qag,Qbe,hi]
theorem Z6 (o:Nat)(vs:List AV):upd [] o vs=[]:=nr (by cases o<;>rfl)
theorem Yw (c:AV)(cs:List AV):upd (c :: cs) 0 []=c :: cs:=nr rfl
theorem YS (c:AV)(cs:List AV)(v:AV)(vs:List AV):upd (c :: cs) 0 (v :: vs)=v :: upd cs 0 vs:=nr rfl
theorem Z9 (c:AV)(cs:List AV)(o:Nat)(vs:List AV):upd (c :: cs) (o+1) vs=c :: upd cs o vs:=nr rfl
theorem Z8:∀ (cs:List AV) ,upd cs 0 []=cs
 |[]=>rfl
 |c :: cs=>rfl
theorem Cl.of_rats {s:St}{b k:Nat}{cs:List AV}(h1:b<s.nx)(h2:qh s.h b=k)(h3:cs.length=k)(h4:0<k)(h5:Go.Sy.rats s.h b 0 k=cs):Cl s b cs:=by
 refine⟨h1,zF om,om,λi hi=>?_⟩;have:=congrArg (λl=>l.getD i .bad) h5;rw[zU] at this;have hi':i<k:=om
 simpa[Qag,Qbe,hi'] using this
theorem Cl.rats0 {s:St}{b k:Nat}{cs:List AV}(h:Cl s b cs)(hk:cs.length=k):Go.Sy.rats s.h b 0 k=cs:=Xu hk λi hi=>by rw[Qan];exact h.cell i om
theorem Cl.ldA {s:St}{b k o:Nat}{cs:List AV}(h:Cl s b cs)(hk:0<k)(ho:o+k<=cs.length)(K:AV->St->Prop):jd (Ym k (.ptr b o) s) K=K (.agg ((cs.drop o).take k)) s:=by
 rw[G3 hk (by rw[h.len];exact ho),h.ratsP k o ho]
end
section
variable {P:Program} {base:Bs} {st:St} {K:AV->St->Prop} {e:En}
theorem uK:∀ (z:List AV) (off:Nat) (vs:List AV),off+vs.length<=z.length->z.take off ++ (vs ++ z.drop (off+vs.length))=upd z off vs
 |[],off,vs,h=>by
  have hv:vs=[]:=Qbd (by have h':off+vs.length<=0:=h;omega);subst hv;simp[upd]
 |c :: z,0,[],_=>rfl
 |c :: z,0,v :: vs,h=>by
  show v :: (vs ++ (c :: z).drop (0+(vs.length+1)))=v :: upd z 0 vs;rw[<-uK z 0 vs (by simp at h ⊢;omega)];simp
 |c :: z,off+1,vs,h=>by
  show c :: z.take off ++ (vs ++ (c :: z).drop (off+1+vs.length))=c :: upd z off vs;rw[<-uK z off vs (by simp at h;omega),show off+1+vs.length=(off+vs.length)+1 by omega];rfl
theorem Vb {z:List AV}{off size:Nat}{v:AV}{ps:List ((Nat×Nat)×AV)}(h1:v.plain=true)(h2:v.cells.length=size)(h3:off+size<=z.length):JH z (((off,size),v) :: ps)=JH (upd z off v.cells) ps:=by
 have e1:Qcb (jm v.cells) size=true:=Qb (by rw[jp];exact h2);have e2:Qcd (Qce off size) (jm z)=true:=jW (by rw[jp];exact h3);have e3:qY (qD z off) (qY v.cells (yn z (Qce off size)))=upd z off v.cells:=by
  rw[qN,qN,qt,ym,<-uK z off v.cells om,h2];rfl
 show cond v.plain (cond (Qcb (jm v.cells) size) (cond (Qcd (Qce off size) (jm z)) (JH (qY (qD z off) (qY v.cells (yn z (Qce off size)))) ps) none) none) none=_;rw[h1,e1,e2,e3];rfl
theorem kT (z:List AV):jd (ZY z [] st) K=K (.agg z) st:=nr rfl
theorem kS {z:List AV}{off size:Nat}{v:AV}{ps:List ((Nat×Nat)×AV)}(h1:v.plain=true)(h2:v.cells.length=size)(h3:off+size<=z.length):jd (ZY z (((off,size),v) :: ps) st) K=jd (ZY (upd z off v.cells) ps st) K:=by
 unfold ZY;rw[Vb h1 h2 h3]
def bSV (len s:Nat)(z:List AV)(ps:List ((Nat×Nat)×AV))(st:St):ER:=ju (JH z ps) λcells=>
 cond (lall AV.cell cells) (force (jm cells) λn=>st.alloc (.row n n cells .e) λb st=>.ok (.slice b 0 len len s true) st) .no
theorem jeO (len s:Nat)(z:List AV)(ps:List ((Nat×Nat)×AV)):jd (gt len s z ps st) K=jd (bSV len s (yc z len) ps st) K:=nr rfl
theorem jc7 {len s:Nat}{z:List AV}(h:lall AV.cell z=true):jd (bSV len s z [] st) K=K (.slice st.nx 0 len len s true) (nw st z):=by
 have e:JH z []=some z:=rfl;simp only[bSV,e,ju,h,cond_true,ji,jp,St.alloc_eq,jd];rfl
theorem jc6 {len s:Nat}{z:List AV}{off size:Nat}{v:AV}{ps:List ((Nat×Nat)×AV)}(h1:v.plain=true)(h2:v.cells.length=size)(h3:off+size<=z.length):jd (bSV len s z (((off,size),v) :: ps) st) K=jd (bSV len s (upd z off v.cells) ps st) K:=by
 unfold bSV;rw[Vb h1 h2 h3]
theorem VG (z:List AV):yc z 0=[]:=nr rfl
theorem VE (z:List AV)(n:Nat):yc z (n+1)=z ++ yc z n:=nr (by first|rfl|(unfold yc;simp[qN]))
def Y1 (e:En):List ((Nat×Nat)×A)->(F:List ((Nat×Nat)×AV)->Prop)->Res F
 |[],F=>F []
 |(p,a) :: l,F=>on1 e a λv=>Y1 e l λvs=>F ((p,v) :: vs)
theorem uS (e:En):∀ (l:List ((Nat×Nat)×A)) (F:List ((Nat×Nat)×AV)->Prop),Y1 e l F=((l.map (·.2)).all (okA e)=true/\F (l.map λp=>(p.1,vl e p.2)))
 |[],F=>by simp[Y1]
 |(p,a) :: l,F=>by simp[Y1,uS e l,on1,and_assoc]
theorem U9 (z:List AV)(ps:List ((Nat×Nat)×A)):wK P base (.i (.build z ps)) e st K=Y1 e ps λvs=>jd (ZY z vs st) K:=by
 rw[uS];rfl
theorem W5 (len s:Nat)(z:List AV)(ps:List ((Nat×Nat)×A)):wK P base (.i (.buildS len s z ps)) e st K=Y1 e ps λvs=>jd (gt len s z vs st) K:=by
 rw[uS];rfl
theorem jcP (f:FuncId)(l:List A):wK P base (.i (.fn f l)) e st K=Xw e l λvs=>K (.fn f vs) st:=by
 rw[YB];rfl
theorem jcC (F:List ((Nat×Nat)×AV)->Prop):Y1 e [] F=F []:=nr rfl
theorem jcB (p:Nat×Nat)(a:A)(l:List ((Nat×Nat)×A))(F:List ((Nat×Nat)×AV)->Prop):Y1 e ((p,a) :: l) F=on1 e a λv=>Y1 e l λvs=>F ((p,v) :: vs):=nr rfl
theorem WL (k:IntKind)(n:Int):(AV.int k n).plain=true:=nr rfl
theorem WH (l:List Nat):(AV.str l).plain=true:=nr rfl
theorem vQ (b:Bool):(AV.bool b).plain=true:=nr rfl
theorem wL (b o n c z:Nat)(x:Bool):(AV.slice b o n c z x).plain=true:=nr rfl
theorem vP:AV.nils.plain=true:=nr rfl
theorem WJ (b o:Nat):(AV.ptr b o).plain=true:=nr rfl
theorem WM (cs:List AV):(AV.agg cs).plain=true:=nr rfl
theorem KB (t:TypeId)(x:A):wK P base (.i (.iface t x)) e st K=on1 e x λv=>K (.iface t v) st:=k_1 (V:=λv st=>.ok (.iface t v) st) rfl (λ_=>rfl) K
end
def eqs:AV->Bool
 |.bool _=>true | .int _ _=>true | .str _=>true | .ptr _ _=>true | .nilp=>true | .slice _ _ _ _ _ _=>true | .nils=>true | .map _=>true | .nilm=>true | .nilf=>true | .nilif=>true | .lst _ _=>true | .xlst _ _=>true | .lptr _ _=>true
 |_=>false
theorem jb1 (a:Int):eqI a a=true:=by cases a<;>simp[eqI]
theorem za (a:Nat):Qcb a a=true:=by rw[jU]
theorem ZQ (l:List AV):Yo l l=true:=by unfold Yo;exact @decide_eq_true _ (_) rfl
theorem ZS {v:AV}(h:eqs v=true):Qo v v=true:=by
 cases v<;>first|(cases h;done)|rfl|skip
 case bool b=>cases b<;>rfl
 case int k n=>show cond (eqK k k) (eqI n n) false=true;rw[zm,jb1];rfl
 case str s=>show Qr s s=true;rw[zH];simp
 case ptr b o=>show cond (Qcb b b) (Qcb o o) false=true;rw[za,za];rfl
 case slice b o n c z ex=>
  show cond (Qcb b b) (cond (Qcb o o) (cond (Qcb n n) (cond (Qcb c c) (cond (Qcb z z) (cond ex ex (cond ex false true)) false) false) false) false) false=true;rw[za,za,za,za,za];cases ex<;>rfl
 case map r=>show Qcb r r=true;exact za r
 case lst n cs=>show cond (Qcb n n) (Yo cs cs) false=true;rw[za,ZQ];rfl
 case xlst n cs=>show cond (Qcb n n) (Yo cs cs) false=true;rw[za,ZQ];rfl
 case lptr cs n=>show cond (Qcb n n) (Yo cs cs) false=true;rw[za,ZQ];rfl
theorem ZR:∀ {l:List AV},l.all eqs=true->YJ l l=true
 |[],_=>rfl
 |v :: l,h=>by
  simp only[Qaw,Qaj] at h;show cond (Qo v v) (YJ l l) false=true;rw[ZS h.1,ZR h.2];rfl
theorem jaN {v:AV}(h:eqs v=true):GH v v=true:=by
 cases v<;>first|(cases h;done)|exact ZS h
section
variable {P:Program}
theorem HS {t:TypeId}{b o:Nat}{v:AV}{h:T AO}(h1:Go.Ev.isAgg P t=some false)(h2:Go.Ev.sizeOf P t=some 1)(ho:o<qh h b)(hv:rat h b o=v)(hc:eqs v=true):jM P t (.ptr b o) v h=true:=by
 obtain⟨n,zl,z,cs,hg⟩:=zF (h:=h) (b:=b) om;rw[qW hg] at ho;rw[zq hg] at hv;have e3:Qcd (Qcc o) n=true:=jW ho;have e:(qa P t).run (.ptr b o) h=some v:=by simp only[qa,h1,h2,hg,e3,cond_true,hv]
 unfold jM;dsimp only;rw[e];exact jaN hc
theorem jed {t:TypeId}{b o k:Nat}{cs:List AV}{h:T AO}(h1:Go.Ev.isAgg P t=some true)(h2:Go.Ev.sizeOf P t=some k)(hk:0<k)(ho:o+k<=qh h b)(hv:rats h b o k=cs)(hc:cs.all eqs=true):jM P t (.ptr b o) (.agg cs) h=true:=by
 obtain⟨n,zl,z,cs',hg⟩:=zF (h:=h) (b:=b) om;rw[qW hg] at ho;have e3:Qcd (Qce o k) n=true:=jW ho;have e:(qa P t).run (.ptr b o) h=some (.agg cs):=by
  simp only[qa,h1,h2,hg,e3,cond_true];rw[<-hv,zU,jE]
  congr 2
  refine QaH λi _=>?_;rw[zq hg]
 unfold jM;dsimp only;rw[e];exact ZR hc
def JC (P:Program)(t u:TypeId)(x y:TE):Bool:=
 match x,y with
 |.rd a v,.wr pre post=>jM P t a v pre && jM P t a v post
 |.rd _ _,.rd _ _=>false
 |.wr pre post,.rd a v=>jM P u a v pre && jM P u a v post
 |.wr _ _,.wr _ _=>false
 |_,_=>true
theorem h_0 (t:TypeId)(x:TE)(tb:List TE):(held P t x tb []=true)=True:=by simp[held]
theorem h_1 (t:TypeId)(x:TE)(tb:List TE)(k:Nat)(u:TypeId)(l:List (Nat×TypeId)):(held P t x tb ((k,u) :: l)=true)=(JC P t u x (qF .none tb k)=true/\held P t x tb l=true):=by
 have e:held P t x tb ((k,u) :: l)=cond (JC P t u x (qF .none tb k)) (held P t x tb l) false:=by
  show cond _ _ false=cond _ _ false
  congr 1
  unfold JC;cases x<;>cases qF TE.none tb k<;>first|rfl|(simp only[Bool.cond_eq_ite];split<;>simp[*])
 rw[e];cases JC P t u x (qF .none tb k)<;>simp
theorem jeB (t u:TypeId)(a v:AV)(pre post:T AO):(JC P t u (.rd a v) (.wr pre post)=true)=(jM P t a v pre=true/\jM P t a v post=true):=by simp[JC]
theorem jeA (t u:TypeId)(a v:AV)(pre post:T AO):(JC P t u (.wr pre post) (.rd a v)=true)=(jM P u a v pre=true/\jM P u a v post=true):=by simp[JC]
theorem jeD (t u:TypeId)(y:TE):(JC P t u .none y=true)=True:=by simp[JC]
theorem jeC (t u:TypeId)(x:TE):(JC P t u x .none=true)=True:=by cases x<;>simp[JC]
theorem jeq (d x:TE)(l:List TE):qF d (x :: l) 0=x:=nr rfl
theorem jep (d x:TE)(l:List TE)(n:Nat):qF d (x :: l) (n+1)=qF d l n:=nr rfl
theorem jea (e:En)(v:AV)(st st':St):teW none e v st st'=.none:=nr rfl
theorem jd9 (e:En)(v:AV)(st st':St):teW (some none) e v st st'=.wr st.h st'.h:=nr rfl
theorem jd8 (a:A)(e:En)(v:AV)(st st':St):teW (some (some a)) e v st st'=.rd (vl e a) v:=nr rfl
theorem jd1 (e:En)(v:AV):vl e (.c v)=v:=nr rfl
theorem jdZ (x:Nat)(v:AV)(l g:Sl):vl ⟨(x,v) :: l,g⟩ (.t x)=v:=by simp[vl,En.look,ye,En.has,yC]
theorem jcn {k x:Nat}(h:k≠x)(v:AV)(l g:Sl):vl ⟨(k,v) :: l,g⟩ (.t x)=vl ⟨l,g⟩ (.t x):=by simp[vl,En.look,ye,En.has,yC,h]
theorem jd0 (x:Nat)(v:AV)(g:Sl):vl ⟨[],(x,v) :: g⟩ (.t x)=v:=by simp[vl,En.look,ye,En.has,yC,has]
theorem jco {k x:Nat}(h:k≠x)(v:AV)(g:Sl):vl ⟨[],(k,v) :: g⟩ (.t x)=vl ⟨[],g⟩ (.t x):=by simp[vl,En.look,ye,En.has,yC,has,h]
end
section
variable {P:Program} {base:Bs} {st:St} {K:AV->St->Prop} {e:En}
def Yj (sz:Nat)(v:AV)(lo hi:Option AV)(st:St):ER:=match v with
 |.nils=>optA lo 0 λl=>optA hi 0 λh=>cond (Qcb l 0) (cond (Qcb h 0) (.ok .nils st) .no) .no
 |.slice b o len cap sz' ex=>optA lo 0 λl=>optA hi len λh=>
  cond (Qcb sz' sz) (cond (Qcd l h) (cond (Qcd h cap) (force (Qcg h l) λk=>force (Qce o (Qcf l sz)) λo=>force (Qcg cap l) λc=>.ok (.slice b o k c sz ex) st) .no) .no) .no
 |.lst n cs=>optA lo 0 λl=>optA hi n λh=>
  cond (Qcd l h) (cond (Qcd h n) (cond (Qcd (Qcf h sz) (jm cs)) (.ok (.lst (Qcg h l) (qD (yn cs (Qcf l sz)) (Qcf (Qcg h l) sz))) st) .no) .no) .no
 |_=>.no
theorem jam (sz:Nat)(x lo:A):wK P base (.i (.slS sz x (some lo) none)) e st K=on1 e x λv=>on1 e lo λl=>jd (Yj sz v (some l) none st) K:=k_2 (V:=λv l st=>Yj sz v (some l) none st) rfl (λ_=>rfl) K
theorem jal (sz:Nat)(x hi:A):wK P base (.i (.slS sz x none (some hi))) e st K=on1 e x λv=>on1 e hi λh=>jd (Yj sz v none (some h) st) K:=k_2 (V:=λv h st=>Yj sz v none (some h) st) rfl (λ_=>rfl) K
theorem jak (sz:Nat)(x lo hi:A):wK P base (.i (.slS sz x (some lo) (some hi))) e st K=on1 e x λv=>on1 e lo λl=>on1 e hi λh=>jd (Yj sz v (some l) (some h) st) K:=k_3 (V:=λv l h st=>Yj sz v (some l) (some h) st) rfl (λ_=>rfl) K
end
def ifW (p:Prop)(a b:Prop):Res (a,b):=(p->a)/\(¬ p->b)
theorem je {p a b:Prop}(h1:p->a)(h2:¬ p->b):ifW p a b:=⟨h1,h2⟩
theorem jcI {p a b:Prop}(h:p):ifW p a b=a:=propext ⟨λk=>k.1 h,λk=>⟨λ_=>k,λn=>absurd h n⟩⟩
theorem jcJ {p a b:Prop}(h:¬ p):ifW p a b=b:=propext ⟨λk=>k.2 h,λk=>⟨λn=>absurd n h,λ_=>k⟩⟩
section
variable {P:Program} {base:Bs} {st:St} {K Kp:AV->St->Prop} {e:En}
theorem gq (q:Bool)(a b:Prop):Ya (.bool q) a b=ifW (q=true) a b:=by cases q<;>simp[Ya,ifW]
theorem jeJ (q:Bool)(a b:Prop):onG (.bool q) true a b=ifW (q=true) a b:=by cases q<;>simp[onG,ifW]
theorem jeK (q:Bool)(a b:Prop):onG (.bool q) false a b=ifW (q=true) b a:=by cases q<;>simp[onG,ifW]
theorem jaX (q:Bool)(a b:AV):jd (Ga (.bool q) a b st) K=ifW (q=true) (K a st) (K b st):=by cases q<;>simp[Ga,QB,jd,ifW]
theorem Us (a b:List Nat):jd (wY .neq (.str a) (.str b) st) K=K (.bool (decide (a≠b))) st:=by
 simp only[wY,XX,ju,jd,zH];by_cases h:a=b
 ·simp[h]
 ·simp[h]
theorem Ut {a b:List Nat}(h:a.length+b.length<=9223372036854775807):jd (wY .add (.str a) (.str b) st) K=K (.str (a ++ b)) st:=by
 have e1:Qcd (Qce (jm a) (jm b)) 9223372036854775807=true:=by rw[jC,jp,jp];exact h
 simp only[wY,XX,ju,jd,e1,cond_true,qN]
theorem Qn {x:Int}(h1 : -9223372036854775808<=x)(h2:x<=9223372036854775807):yG .i64 x=x:=by
 rw[Jd];exact IntWalk.i64_in x ⟨h1,om⟩
theorem HD {a b:Int}(h1 : -9223372036854775808<=a+b)(h2:a+b<=9223372036854775807):jd (yZ .add (.int .i64 a) (.int .i64 b) st) K=K (.int .i64 (a+b)) st:=by
 have:(zR .add).run .i64 a b=some (.int .i64 (a+b)):=by show some (AV.int .i64 (yG .i64 (a+b)))=_;rw[Qn h1 h2]
 simp only[yZ,zm,cond_true,this,ju,jd]
theorem Hj {a b:Int}(h1 : -9223372036854775808<=a - b)(h2:a - b<=9223372036854775807):jd (yZ .sub (.int .i64 a) (.int .i64 b) st) K=K (.int .i64 (a - b)) st:=by
 have:(zR .sub).run .i64 a b=some (.int .i64 (a - b)):=by show some (AV.int .i64 (yG .i64 (a - b)))=_;rw[Qn h1 h2]
 simp only[yZ,zm,cond_true,this,ju,jd]
theorem Hq {a b:Int}(h1 : -9223372036854775808<=a * b)(h2:a * b<=9223372036854775807):jd (yZ .mul (.int .i64 a) (.int .i64 b) st) K=K (.int .i64 (a * b)) st:=by
 have:(zR .mul).run .i64 a b=some (.int .i64 (a * b)):=by show some (AV.int .i64 (yG .i64 (a * b)))=_;rw[Qn h1 h2]
 simp only[yZ,zm,cond_true,this,ju,jd]
theorem Hp {a:Int}(h1 : -9223372036854775808<=-a)(h2 : -a<=9223372036854775807):jd (unV .neg (.int .i64 a) st) K=K (.int .i64 (-a)) st:=by
 have e:IntKind.i64.wrap (0 - a)=-a:=by rw[<-Jd,Qn om om];omega
 simp only[unV,JU,O,e,jd]
def biV (P:Program)(b:Builtin)(ts:Array TypeId)(l:List AV)(st:St):ER:=(jS P b ts (l.map λv=>O v)).run E0 st
theorem jcU (b:Builtin)(ts:Array TypeId)(l:List A):wK P base (.i (.bi b ts l)) e st K=Xw e l λvs=>jd (biV P b ts vs st) K:=by
 rw[YB];simp only[wK,wI,QR,jq,biV,QaD];rfl
theorem Hs (ts:Array TypeId)(k:IntKind)(a b:Int):jd (biV P .max ts [.int k a,.int k b] st) K=K (.int k (max a b)) st:=by
 have:(jS P .max ts [O (.int k a),O (.int k b)]).run E0 st=ju (max2 (.int k a) (.int k b)) λv=>.ok v st:=by
  show ju (Ja max2 (.int k a) [.int k b]) _=_;unfold Ja;cases max2 (.int k a) (.int k b)<;>rfl
 show jd ((jS P .max ts [O (.int k a),O (.int k b)]).run E0 st) K=_;rw[this];simp only[max2,zm,cond_true,ju,jd]
 congr 2
 rw[Jy];by_cases h:a<b
 ·rw[decide_eq_true h,Int.max_eq_right om];rfl
 ·rw[decide_eq_false h,Int.max_eq_left om];rfl
theorem Hr (ts:Array TypeId)(k:IntKind)(a b:Int):jd (biV P .min ts [.int k a,.int k b] st) K=K (.int k (min a b)) st:=by
 have:(jS P .min ts [O (.int k a),O (.int k b)]).run E0 st=ju (min2 (.int k a) (.int k b)) λv=>.ok v st:=by
  show ju (Ja min2 (.int k a) [.int k b]) _=_;unfold Ja;cases min2 (.int k a) (.int k b)<;>rfl
 show jd ((jS P .min ts [O (.int k a),O (.int k b)]).run E0 st) K=_;rw[this];simp only[min2,zm,cond_true,ju,jd]
 congr 2
 rw[Jy];by_cases h:b<a
 ·rw[decide_eq_true h,Int.min_eq_right om];rfl
 ·rw[decide_eq_false h,Int.min_eq_left om];rfl
theorem Uu (n:Nat)(cs:List AV):jd (lenV (.lst n cs) st) K=K (.int .i64 (n:Int)) st:=nr rfl
theorem KS {k:IntKind}{i:Int}(h:0<=i)(F:Nat->ER):jQ (.int k i) F=F i.toNat:=by
 obtain⟨n,rfl⟩:=Qbr h;exact KT
theorem Hx {n:Nat}{cs:List AV}{i:Int}(h0:0<=i)(h:i<n)(s:Nat)(k:IntKind):jd (wq s (.lst n cs) (.int k i) st) K=K (.lptr cs (i.toNat * s)) st:=by
 simp only[wq,KS h0];have:Qcd (Qcc i.toNat) n=true:=by rw[jC];omega
 rw[this];rfl
theorem Hw {b o n c z:Nat}{x:Bool}{i:Int}(h0:0<=i)(h:i<n)(s:Nat)(k:IntKind):jd (wq s (.slice b o n c z x) (.int k i) st) K=K (.ptr b (o+i.toNat * s)) st:=by
 obtain⟨m,rfl⟩:=Qbr h0;exact jd6 om s k
theorem jcw {s:List Nat}{i:Int}(h0:0<=i)(h:i<s.length)(k:IntKind):jd (ud (.str s) (.int k i) st) K=K (.int .u8 ((s.getD i.toNat 0:Nat):Int)) st:=by
 obtain⟨m,rfl⟩:=Qbr h0;exact jdj om k
theorem jd5 {k o:Nat}{cs:List AV}(h:o+k<=cs.length):jd (Ym k (.lptr cs o) st) K=K (.agg ((cs.drop o).take k)) st:=by
 have:Qcd (Qce o k) (jm cs)=true:=by rw[jC,jp];exact h
 simp only[Ym,this,cond_true,jd,qt,ym]
theorem Yu {o:Nat}{cs:List AV}(h:o<cs.length):jd (qX (.lptr cs o) st) K=K (cs.getD o .bad) st:=by
 have:Qcd (Qcc o) (jm cs)=true:=by rw[jC,jp];exact h
 simp only[qX,this,cond_true,jd,yA]
theorem Hz (off o:Nat)(cs:List AV):jd (Gv off (.lptr cs o) st) K=K (.lptr cs (o+off)) st:=nr rfl
theorem Kz (o:Nat)(cs:List AV):jd (Ge (.lptr cs o) st) K=K (.lptr cs o) st:=nr rfl
def fl {α:Type}(enc:α->List AV)(xs:List α):List AV:=xs.flatMap enc
theorem YG {α:Type}(enc:α->List AV)(x:α)(xs:List α):fl enc (x :: xs)=enc x ++ fl enc xs:=rfl
theorem ui {α:Type}{enc:α->List AV}{z:Nat}(hz:∀ x,(enc x).length=z):∀ xs:List α,(fl enc xs).length=xs.length * z
 |[]=>by simp[fl]
 |x :: xs=>by rw[YG,υ,hz,ui hz xs,Qad,QaZ,Qbx]
theorem Gs {α:Type}{enc:α->List AV}(hp:∀ x,(enc x).all pc=true):∀ xs:List α,(fl enc xs).all pc=true
 |[]=>rfl
 |x :: xs=>by rw[YG,Qbz,hp,Gs hp xs];rfl
theorem gd {α:Type}{enc:α->List AV}{z:Nat}(hz:∀ x,(enc x).length=z):∀ (xs:List α) (i:Nat),(fl enc xs).drop (i * z)=fl enc (xs.drop i)
 |xs,0=>by simp
 |[],i+1=>by simp[fl]
 |x :: xs,i+1=>by
  rw[YG,QaZ,Qbx,List.drop_append,List.drop_eq_nil_of_le (by rw[hz];omega),hz,Nat.add_sub_cancel_left,gd hz xs i];rfl
theorem jcY {α:Type}{enc:α->List AV}{z:Nat}(hz:∀ x,(enc x).length=z){xs:List α}{i:Nat}(h:i<xs.length):((fl enc xs).drop (i * z)).take z=enc xs[i]:=by
 rw[gd hz,QbD h,YG,List.take_append,Qbs (by rw[hz];omega),hz,Nat.sub_self,Qbc,Qaz]
theorem jaC {α:Type}{enc:α->List AV}{z:Nat}(hz:∀ x,(enc x).length=z){xs:List α}{i:Nat}(h:i<xs.length){k:Nat}(hk:k<z):(fl enc xs).getD (i * z+k) .bad=(enc xs[i]).getD k .bad:=by
 rw[<-jcY hz h];simp only[Qae,Qbl,hk,if_true,Qbu]
theorem jeY {α:Type}{enc:α->List AV}{z:Nat}(hz:∀ x,(enc x).length=z){xs:List α}{i:Nat}(h:i<xs.length):jd (Ym z (.lptr (fl enc xs) (i * z)) st) K=K (.agg (enc xs[i])) st:=by
 have:(i+1) * z<=xs.length * z:=Nat.mul_le_mul_right z h;rw[QaZ] at this;rw[jd5 (by rw[ui hz];omega),jcY hz h]
theorem Hv {α:Type}{enc:α->List AV}{z:Nat}(hz:∀ x,(enc x).length=z){xs:List α}{i:Nat}(h:i<xs.length){k:Nat}(hk:k<z):jd (qX (.lptr (fl enc xs) (i * z+k)) st) K=K ((enc xs[i]).getD k .bad) st:=by
 have:(i+1) * z<=xs.length * z:=Nat.mul_le_mul_right z h;rw[QaZ] at this;rw[Yu (by rw[ui hz];omega),jaC hz h hk]
theorem Hy {k:Nat}{cs:List AV}(h:k<cs.length):jd (Gr k (.agg cs) st) K=K (cs.getD k .bad) st:=by
 have:Qcd (Qcc k) (jm cs)=true:=by rw[jC,jp];exact h
 simp only[Gr,zI,this,cond_true,jd,yA]
theorem KD (k n:Nat)(cs:List AV):jd (Gq k n (.agg cs) st) K=K (.agg ((cs.drop k).take n)) st:=by
 simp only[Gq,zI,jd,qt,ym]
theorem uM (l:List AV):l.take 0=[]:=rfl
theorem uL (a:AV)(l:List AV)(n:Nat):(a :: l).take (n+1)=a :: l.take n:=rfl
theorem Wm (l:List AV):l.drop 0=l:=rfl
theorem jeF (a:AV)(l:List AV)(n:Nat):(a :: l).drop (n+1)=l.drop n:=rfl
theorem Cl.rw_ {b:Nat}{cs:List AV}(C:Cl st b cs):Rw st.h b cs:=by
 obtain⟨n,zl,z,c,hg⟩:=C.row;have hl:=C.len;rw[qW hg] at hl;refine⟨n,zl,z,c,hg,?_⟩;rw[jE];apply Qbm
 ·simp[hl]
 ·intro i h1 h2;have:=C.cell i h2;rw[zq hg] at this;simp only[List.getElem_map,List.getElem_range,Qan,this];simp[Qae,Qac h2]
end
section
variable {P:Program} {base:Bs}
def G0 (u v:AV)(s:St):Prop:=FzD 0 9 s v u
def G1 (n:Nat)(c':List AV)(u v:AV)(s:St):Prop:=FzD 1 9 s v u/\∃ c2,Rw s.h 0 c2/\c2.length=n/\FzsD 1 9 s c2 c'
theorem jH {f:FuncId}{F:XF}(hl:jG P f=some F)(hnd:F.body.nd=true)(hm:base.pur f=1){aZ:List AV}{o:Oc}
  (h:xC P base F.body (jv F.ps aZ) st0 (Zf P F.res (J6 G0 o)) λv _ s=>JZ G0 o v s.bare):PX P base f aZ o:=
 PX.of hm (vz hl hnd h)
theorem PM.xbk {f:FuncId}{c aZ aZ':List AV}{ks:List Nat}{o:Oc}{c':List AV}(h:PM P base f c aZ o c'){st:St}{p:Nat}(C:Cl (kills ks st) p c)(hf:fzs (fz 9 st.h) aZ'=some (aZ,ks))(hp:aZ.all pa=true)(hb:∀ st,base.run f (.ptr p 0 :: aZ') st=.no)(K Kp:AV->St->Prop) :
  XB P base f (.ptr p 0 :: aZ') st K Kp=QP o K Kp (wr (kills ks st) p 0 c'):=by
 obtain⟨N,D,h⟩:=h;have e0:∀ n,N<=n->∀ d,D<=d->evC P base n d f (.ptr p 0 :: aZ') st=o.er (wr (kills ks st) p 0 c'):=λn hn d hd=>by
  rw[h n hn d hd st p aZ' ks C.rw_ hf hp hb]
  congr 1
 refine propext ⟨λ⟨r,⟨N2,D2,h2⟩,h3⟩=>?_,λh3=>⟨_,⟨N,D,e0⟩,?_⟩⟩
 ·have e1:=e0 (max N N2) (Qap ..) (max D D2) (Qap ..);have e2:=h2 (max N N2) (Qaq ..) (max D D2) (Qaq ..);rw[e1] at e2;rw[<-e2] at h3;cases o<;>exact h3
 ·cases o<;>exact h3
theorem PM.xb {f:FuncId}{c aZ:List AV}{o:Oc}{c':List AV}(h:PM P base f c aZ o c'){st:St}{p:Nat}(C:Cl st p c)(hp:aZ.all pa=true)(hb:∀ st,base.run f (.ptr p 0 :: aZ) st=.no)(K Kp:AV->St->Prop) :
 XB P base f (.ptr p 0 :: aZ) st K Kp=QP o K Kp (wr st p 0 c'):=h.xbk (ks:=[]) C (uf (d:=7) hp) hp hb K Kp
theorem yI (v:AV)(K Kp:AV->St->Prop)(st:St):QP (.ok v) K Kp st=K v st:=nr rfl
theorem Qv (v:AV)(K Kp:AV->St->Prop)(st:St):QP (.pn v) K Kp st=Kp v st:=nr rfl
theorem jaO (G:AV->AV->St->Prop)(u v:AV)(s:St):J6 G (.ok u) v s=G u v s:=nr rfl
theorem H7 (G:AV->AV->St->Prop)(u v:AV)(s:St):JZ G (.pn u) v s=G u v s:=nr rfl
def gV (b b2:Nat)(J:Sl->St->Prop)(Q:Out->Prop):Out->Res (J,Q)
 |.go L s=>J L s
 |.ex i L s=>cond (Qcb i b2) (J L s) (cond (Qcb i b) (Q (.go L s)) (Q (.ex i L s)))
 |.rt L s=>Q (.rt L s)
theorem jei (b b2:Nat)(J:Sl->St->Prop)(Q:Out->Prop)(L:Sl)(s:St):gV b b2 J Q (.go L s)=J L s:=nr rfl
theorem jeh (b b2:Nat)(J:Sl->St->Prop)(Q:Out->Prop)(L:Sl)(s:St):gV b b2 J Q (.rt L s)=Q (.rt L s):=nr rfl
theorem jbt (b b2:Nat)(J:Sl->St->Prop)(Q:Out->Prop)(i:Nat)(L:Sl)(s:St):gV b b2 J Q (.ex i L s)=cond (Qcb i b2) (J L s) (cond (Qcb i b) (Q (.go L s)) (Q (.ex i L s))):=nr rfl
theorem ya {b b2 i n c d:Nat}{body:XC}{L:Sl}{st:St}{Q:Out->Prop}{Kp:AV->Sl->St->Prop}(N:Nat)(I:Nat->Sl->St->Prop)(hN:N<=4611686018427387904)(hne:c≠i/\c≠n/\i≠n/\d≠i/\b≠b2)
  (hi:Has L i (.int .i64 0)) (hn:Has L n (.int .i64 (N:Int))) (h0:I 0 L st) (hc:∀ k L s v,I k L s->I k ((c,v) :: L) s) (hI:∀ k L s v,I k L s->I k ((i,v) :: L) s)
  (step:∀ k L s,k<N->I k L s->Has L i (.int .i64 (k:Int))->Has L n (.int .i64 (N:Int))->Zo (xC P base body L s (gV b b2 (λL' s'=>I (k+1) L' s'/\Has L' i (.int .i64 (k:Int))/\Has L' n (.int .i64 (N:Int))) Q) Kp))
  (fin:∀ L s,I N L s->Zo (Q (.go L s))) :
  xC P base (.loop (.seq (.ops [⟨some c,true,none,.i (.bin .lss (.t i) (.t n))⟩]) (.seq (.cond (.t c) .skip (.exit b)) (.seq (.block b2 body) (.ops [⟨some d,false,none,.i (.bin .add (.t i) (.c (.int .i64 1)))⟩,⟨some i,true,none,.i (.mv (.t d))⟩]))))) L st (qK b Q) Kp:=by
 obtain⟨n1,n2,n3,n4,n5⟩:=hne;refine Xq (λm L s=>∃ k,k<=N/\m=N - k/\I k L s/\Has L i (.int .i64 (k:Int))/\Has L n (.int .i64 (N:Int))) ?_ N ⟨0,Qaa _,rfl,h0,hi,hn⟩;rintro m L s ⟨k,hk,rfl,hk',h1,h2⟩;unfold Zo;simp only[Vz,VA,Z5,x_i,VQ,jb h1,jb h2,gN,VB,wg,Xe,Um,gZ];by_cases hlt:k<N
 ·rw[decide_eq_true om,jdt,Uf,Xe,Vz,uG];refine Kt _ _ _ _ _ (step k ((c,.bool true) :: L) s hlt (hc k L s _ hk') (by rw[ja n1];exact h1) (by rw[ja n2];exact h2)) λo ho=>?_;have go:∀ L' s',(I (k+1) L' s'/\Has L' i (.int .i64 (k:Int))/\Has L' n (.int .i64 (N:Int)))->xO P base [⟨some d,false,none,.i (.bin .add (.t i) (.c (.int .i64 1)))⟩,⟨some i,true,none,.i (.mv (.t d))⟩] ⟨[],L'⟩ s' (λe st'=>Js (λL' st'=>∃ k',k'<N - k/\∃ k,k<=N/\k'=N - k/\I k L' st'/\Has L' i (.int .i64 (k:Int))/\Has L' n (.int .i64 (N:Int))) (qK b Q) (.go e.g st')) Kp:=by
   intro L' s' ⟨h3,h4,h5⟩;simp only[Z5,x_i,VQ,jb h4,hY,jd7 (show k+1<=9223372036854775807 by omega),uQ,jbN,gY,VB,wg,Xe];refine⟨N - (k+1),om,k+1,om,rfl,hI _ _ _ _ h3,Has.here _ _ _,by rw[ja n3];exact h5⟩
  cases o with
  |go L' s'=>exact go L' s' ho
  |rt L' s'=>exact ho
  |ex q L' s'=>
   rw[jbt] at ho;cases hq:Qcb q b2
   ·rw[hq] at ho;have e1:qK b2 (Js (λL' st'=>xC P base (.ops [⟨some d,false,none,.i (.bin .add (.t i) (.c (.int .i64 1)))⟩,⟨some i,true,none,.i (.mv (.t d))⟩]) L' st' (Js (λL' st'=>∃ k',k'<N - k/\∃ k,k<=N/\k'=N - k/\I k L' st'/\Has L' i (.int .i64 (k:Int))/\Has L' n (.int .i64 (N:Int))) (qK b Q)) Kp) (Js (λL' st'=>∃ k',k'<N - k/\∃ k,k<=N/\k'=N - k/\I k L' st'/\Has L' i (.int .i64 (k:Int))/\Has L' n (.int .i64 (N:Int))) (qK b Q))) (.ex q L' s')=qK b Q (.ex q L' s'):=by
     simp only[qK,hq,cond_false,Js]
    show qK b2 _ _;rw[e1];exact ho
   ·rw[hq] at ho;have:=go L' s' ho;show qK b2 _ _;simp only[qK,hq,cond_true,Xe,VA];exact this
 ·have hkN:k=N:=om
  rw[decide_eq_false om,jdu,Uh,we,we];subst hkN;show qK b Q (.ex b _ s);rw[ZA];exact fin _ _ (hc _ _ _ _ hk')
theorem Ye (n:Nat)(cs:List AV):(AV.lst n cs).cells=[.lst n cs]:=nr rfl
theorem U0 (n:Nat)(cs l:List AV):lall AV.cell (.lst n cs :: l)=lall AV.cell l:=nr rfl
theorem WK (n:Nat)(cs:List AV):(AV.lst n cs).plain=true:=nr rfl
theorem QC:st0.nx=0:=nr rfl
theorem HR (P:Program)(t:TypeId)(cs:List AV)(o:Nat)(v:AV)(h:T AO):(jM P t (.lptr cs o) v h=true)=True:=by simp[jM]
theorem G0.v {u v:AV}{s:St}(h:v=u)(hp:pa v=true):G0 u v s:=by subst h;exact FzD.pa hp
theorem K5 (p:Prop):Zo p=p:=nr rfl
theorem H5:yD []=.tup []:=nr rfl
theorem KG:∀ {c c':List AV},c'.length=c.length->upd c 0 c'=c'
 |[],[],_=>rfl
 |[],_ :: _,h=>by simp at h
 |_ :: _,[],h=>by simp at h
 |_ :: c,v :: c',h=>by rw[YS,KG (by simpa using h)]
theorem Qe {c c':List AV}(h:c'.length=c.length):upd c 0 c'=c':=KG h
theorem G1.done {s:St}{n:Nat}{c':List AV}{u v:AV}(C:Cl s 0 c')(hl:c'.length=n)(hp:c'.all pc=true)(hv:FzD 1 9 s v u):G1 n c' u v s:=
 ⟨hv,c',C.rw_,hl,FzsD.pc hp⟩
theorem FzD.u {m d:Nat}{s:St}:FzD m (d+1) s (.tup []) (.tup []):=FzD.tup FzsD.nil
theorem Ys {f:FuncId}{xs:List AV}{st:St}{v:AV}{st':St}(h:base.run f xs st=.ok v st')(K Kp:AV->St->Prop):XB P base f xs st K Kp=K v (back st st'):=by
 have e0:∀ n,0<=n->∀ d,1<=d->evC P base n d f xs st=.ok v st':=λn _ d hd=>by
  obtain⟨d',rfl⟩:∃ d',d=d'+1:=⟨d - 1,om⟩;simp only[evC,h]
 refine propext ⟨λ⟨r,⟨N2,D2,h2⟩,h3⟩=>?_,λh3=>⟨_,⟨0,1,e0⟩,h3⟩⟩;have e1:=e0 N2 (Qaa _) (max 1 D2) (Qap ..);have e2:=h2 N2 (ν _) (max 1 D2) (Qaq ..);rw[e1] at e2;rw[<-e2] at h3;exact h3
def cvV (P:Program)(s d:TypeId)(v:AV)(st:St):ER:=(zN P s d (O v)).run E0 st
theorem jaw {e:En}{st:St}{K:AV->St->Prop}(s d:TypeId)(x:A):wK P base (.i (.conv s d x)) e st K=on1 e x λv=>jd (cvV P s d v st) K:=k_1 rfl (λ_=>rfl) K
theorem HX {st:St}(x k:Nat)(l:List RV)(L:Sl)(F:List AV->Prop):qL P (.cA x k :: l) L st F=on1 ⟨[],L⟩ (.t x) λv=>jd (Ym k v st) λu _=>qL P l L st λvs=>F (u :: vs):=by
 simp only[qL,Uy,on1,okA,vl,En.has,En.look,has,cond_false];rfl
theorem KM {st:St}(x:Nat)(l:List RV)(L:Sl)(F:List AV->Prop):qL P (.c1 x :: l) L st F=on1 ⟨[],L⟩ (.t x) λv=>jd (qX v st) λu _=>qL P l L st λvs=>F (u :: vs):=by
 simp only[qL,Uy,on1,okA,vl,En.has,En.look,has,cond_false];rfl
def VD (n sz:Nat)(v:AV)(st:St):ER:=qk v λb o=>optA none 0 λl=>optA none n λh=>
 cond (Qcd l h) (cond (Qcd h n)
  (force (Qcg h l) λk=>force (Qce o (Qcf l sz)) λo=>force (Qcg n l) λc=>.ok (.slice b o k c sz true) st) .no) .no
theorem jan {e:En}{st:St}{K:AV->St->Prop}(n sz:Nat)(x:A):wK P base (.i (.slA n sz x none none)) e st K=on1 e x λv=>jd (VD n sz v st) K:=k_1 (V:=λv st=>VD n sz v st) rfl (λ_=>rfl) K
theorem Hn {st:St}{K:AV->St->Prop}(b n sz:Nat):jd (VD n sz (.ptr b 0) st) K=K (.slice b 0 n n sz true) st:=by
 have e1:Qcd 0 n=true:=jW (Qaa _);have e2:Qcd n n=true:=jW (ν _);have e3:Qce 0 (Qcf 0 sz)=0:=by show 0+0 * sz=0;omega
 have e4:Qcg n 0=n:=rfl;simp only[VD,qk,optA,e1,e2,e3,e4,cond_true,ji,jd]
theorem KC {st:St}{K:AV->St->Prop}{b n s:Nat}{i:Int}(h0:0<=i)(h:i<n)(k:IntKind):jd (Gk n s (.ptr b 0) (.int k i) st) K=K (.ptr b (i.toNat * s)) st:=by
 have e1:Qcd (Qcc i.toNat) n=true:=jW om;have e2:Qce 0 (Qcf i.toNat s)=i.toNat * s:=Qan _;simp only[Gk,qk,KS h0,e1,e2,cond_true,ji,jd]
theorem Hm {st:St}{K:AV->St->Prop}{l:List Nat}{i:Int}(h0:0<=i)(h:i<=l.length)(k:IntKind):jd (yU (.str l) (some (.int k i)) none st) K=K (.str (l.drop i.toNat)) st:=by
 obtain⟨m,rfl⟩:=Qbr h0;exact jeX om k
theorem Hl {st:St}{K:AV->St->Prop}{l:List Nat}{i:Int}(h0:0<=i)(h:i<=l.length)(k:IntKind):jd (yU (.str l) none (some (.int k i)) st) K=K (.str (l.take i.toNat)) st:=by
 obtain⟨m,rfl⟩:=Qbr h0;exact jeW om k
theorem Hk {st:St}{K:AV->St->Prop}{l:List Nat}{i j:Int}(h0:0<=i)(h1:i<=j)(h:j<=l.length)(k k':IntKind):jd (yU (.str l) (some (.int k i)) (some (.int k' j)) st) K=K (.str ((l.drop i.toNat).take (j - i).toNat)) st:=by
 obtain⟨m,rfl⟩:=Qbr h0;obtain⟨n,rfl⟩:=Qbr (show 0<=j by omega);rw[jeV om om]
 congr 3
 omega
theorem gu (st:St):bk st st.bare=st:=nr rfl
theorem kO (st:St):back st st.bare=st:=nr rfl
def fi {α:Type}(q:α->Bool):List α->Int
 |[]=>-1
 |x :: xs=>if q x=true then 0 else if fi q xs<0 then -1 else fi q xs+1
theorem V3 {α:Type}{q:α->Bool}:∀ {xs:List α} {k:Nat} (h:k<xs.length),(∀ j (hj:j<k),q (xs[j]'(om))=false)->q xs[k]=true->fi q xs=k
 |x :: xs,0,h,h0,hk=>by simp only[QbX] at hk;simp[fi,hk]
 |x :: xs,k+1,h,h0,hk=>by
  have:=V3 (xs:=xs) (k:=k) (by simpa using h) (λj hj=>by have:=h0 (j+1) om;simpa only[List.getElem_cons_succ] using this) (by simpa only[List.getElem_cons_succ] using hk);have h1:=h0 0 om;simp only[QbX] at h1;simp only[fi,h1,this];simp;omega
theorem V1 {α:Type}{q:α->Bool}:∀ {xs:List α},(∀ j (hj:j<xs.length),q xs[j]=false)->fi q xs=-1
 |[],_=>rfl
 |x :: xs,h=>by
  have h1:=h 0 (by simp);simp only[QbX] at h1;have:=V1 (xs:=xs) λj hj=>by have:=h (j+1) (by simpa using hj);simpa only[List.getElem_cons_succ] using this
  simp[fi,h1,this]
theorem Cl.cv {s:St}{b:Nat}{c c':List AV}(h:Cl s b c)(e:c=c'):Cl s b c':=e▸h
theorem jdS {s:St}{c:Nat}{cs:List AV}:Cl s.bare c cs=Cl s c cs:=propext ⟨λh=>⟨h.lt,h.row,h.len,h.cell⟩,λh=>⟨h.lt,h.row,h.len,h.cell⟩⟩
end
def Lv (lo hi:Nat)(s:St)(v:AV)(n:Nat)(cs:List AV)(z:Nat):Prop:=(v=.nils/\n=0/\cs=[])\/∃ b,v=.slice b 0 n n z false/\0<n/\cs.length=n * z/\Cl s b cs/\lo<=b/\b<hi
def aps (v:AV)(s:St)(news:List AV):St:=match v with | .slice b _ _ _ _ _=>ap s b news|_=>nw s news
def apv (z:Nat)(v:AV)(s:St):AV:=match v with | .slice _ _ n _ _ _=>.slice s.nx 0 (n+1) (n+1) z false|_=>.slice s.nx 0 1 1 z false
section
variable {lo hi n z:Nat} {s:St} {v:AV} {cs:List AV}
theorem Lv.nil:Lv lo hi s .nils 0 [] z:=.inl ⟨rfl,rfl,rfl⟩
theorem qo (v:AV)(s:St)(news:List AV):(aps v s news).nx=s.nx+1:=by unfold aps;split<;>rfl
theorem XJ (v:AV)(s:St)(news:List AV):(aps v s news).fr=s.fr:=by unfold aps;split<;>rfl
theorem Lv.app {news:List AV}(h:Lv lo hi s v n cs z)(hl:news.length=z)(h1:lo<=s.nx):Lv lo (s.nx+1) (aps v s news) (apv z v s) (n+1) (cs ++ news) z:=by
 rcases h with ⟨rfl,rfl,rfl⟩|⟨b,rfl,h2,h3,h4,h5,h6⟩
 ·exact .inr ⟨s.nx,rfl,om,by simp[hl],Cl.new s news,h1,om⟩
 ·exact .inr ⟨s.nx,rfl,om,by rw[υ,h3,hl,QaZ],h4.ap news,h1,om⟩
theorem Cl.apO {s:St}{b c:Nat}{cs vs:List AV}(h:Cl s c cs)(hb:c≠b):Cl (Go.Sy.ap s b vs) c cs:=
 have e:jh (Go.Sy.ap s b vs).h c=jh s.h c:=K8 (QbC h.lt) hb
 ⟨Nat.lt_succ_of_lt h.lt,J2 e h.row,(zh e).trans h.len,λi hi=>(yy e i).trans (h.cell i hi)⟩
theorem Cl.aps {c:Nat}{ds news:List AV}(C:Cl s c ds)(h:Lv lo hi s v n cs z)(hc:c<lo\/hi<=c):Cl (Go.Sy.aps v s news) c ds:=by
 rcases h with ⟨rfl,rfl,rfl⟩|⟨b,rfl,h2,h3,h4,h5,h6⟩
 ·exact C.nw news
 ·exact C.apO (b:=b) om
theorem Lv.aps {lo' hi' n' z':Nat}{v':AV}{cs' news:List AV}(V:Lv lo' hi' s v' n' cs' z')(h:Lv lo hi s v n cs z)(hc:hi'<=lo\/hi<=lo'):Lv lo' hi' (Go.Sy.aps v s news) v' n' cs' z':=
 V.imp id λ⟨c,h1,h2,h3,h4,h5,h6⟩=>⟨c,h1,h2,h3,h4.aps h om,h5,h6⟩
theorem Lv.fz {m d:Nat}(h:Lv lo hi s v n cs z)(hm:m<=lo)(hp:cs.all pc=true):FzD m (d+2) s v (.lst n cs):=by
 rcases h with ⟨rfl,rfl,rfl⟩|⟨b,rfl,h2,h3,h4,h5,h6⟩
 ·exact FzD.nils
 ·refine FzD.slice h4.rw_ (QbE h3.symm) om ?_;rw[<-h3,Qay];exact FzsD.pc hp
variable {K:AV->St->Prop}
theorem jc8 {bytes bv xc:Nat}{xx:Bool}(h:Lv lo hi s v n cs z)(hz:0<z)(hby:(n+1) * bytes<=140737488355328)(h63:n+1<=9223372036854775807)(hv:z<=qh s.h bv) :
  jd (yQ z bytes v (.slice bv 0 1 xc z xx) s) K=K (apv z v s) (aps v s (rats s.h bv 0 z)):=by
 obtain⟨m,zl,zz,ks,hg⟩:=zF (h:=s.h) (b:=bv) om;rw[qW hg] at hv;have e0:Qcf 1 z=z:=Qbq z;have e1:Qcd (Qce 0 z) m=true:=jW (by show 0+z<=m;omega);have er:jo zl zz ks z 0=rats s.h bv 0 z:=by
  rw[zU,jE];exact QaH λi _=>by rw[zq hg]
 have el:(rats s.h bv 0 z).length=z:=zk _ _ _ _;have e3:Qcb (jm (rats s.h bv 0 z)) z=true:=Qb (by rw[jp,el]);rcases h with ⟨rfl,rfl,rfl⟩|⟨b,rfl,h2,h3,h4,h5,h6⟩
 ·have e4:Qcb 1 0=false:=rfl;have e5:Qcd (Qcf 1 bytes) 140737488355328=true:=jW (by show 1 * bytes<=_;omega);have e6:Qcd 1 9223372036854775807=true:=jW dc;simp only[yQ,yP,firstCells,hg,qz,ji,e0,e1,cond_true,er,qd,e3,e4,cond_false,e5,e6,St.alloc_eq,jd];unfold apv Go.Sy.aps nw;rw[el]
 ·obtain⟨m',zl',zz',ks',hg'⟩:=h4.row;have h4l:=h4.len;rw[qW hg'] at h4l;have e4:Qcd (Qce n 1) n=false:=GS (QaY _);have e5:Qcd (Qcf (Qce n 1) bytes) 140737488355328=true:=jW hby;have e6:Qcd (Qce n 1) 9223372036854775807=true:=jW h63;have e7:Qcb z z=true:=Qb rfl;have e8:Qcb 0 0=true:=rfl;have e9:Qcb (Qcf n z) m'=true:=Qb (by rw[h4l,h3];rfl);simp only[yQ,yP,firstCells,hg,qz,ji,e0,e1,cond_true,er,qd,e3,hg',e4,cond_false,e5,e6,e7,e8,e9,St.put_eq,St.alloc_eq,jd];have e10:Qcf (Qce n 1) z=m'+(rats s.h bv 0 z).length:=by rw[el,h4l,h3];exact QaZ n z
  rw[e10];have ea:ap s b (rats s.h bv 0 z)=⟨s.nx+1,(jz (jk s.nx)).run (.row (m'+(rats s.h bv 0 z).length) zl' zz' (jI (rats s.h bv 0 z) ks' m')) ((jz (jk b)).run .dead s.h),min s.dirty b,s.fr⟩:=by
   unfold ap apO;rw[hg']
  show _=K (.slice s.nx 0 (n+1) (n+1) z false) (ap s b (rats s.h bv 0 z));rw[ea]
theorem Lv.get (h:Lv lo hi s v n cs z)(st:St)(news:List AV)(c:Nat)(hc:c<lo\/hi<=c)(hn:c<st.nx):jh (Go.Sy.aps v st news).h c=jh st.h c:=by
 rcases h with ⟨rfl,rfl,rfl⟩|⟨b,rfl,h2,h3,h4,h5,h6⟩
 ·exact Xm (QbC hn)
 ·exact K8 (QbC hn) om
theorem Lv.at (h:Lv lo hi s v n cs z)(st:St)(news:List AV)(c i:Nat)(hc:c<lo\/hi<=c)(hn:c<st.nx):rat (Go.Sy.aps v st news).h c i=rat st.h c i:=yy (h.get st news c hc hn) i
theorem Lv.cl (h:Lv lo hi s v n cs z)(st:St)(news ds:List AV)(c:Nat)(hc:c<lo\/hi<=c)(hn:c<st.nx):Cl (Go.Sy.aps v st news) c ds=Cl st c ds:=
 propext ⟨λC=>have e:=h.get st news c hc hn;⟨hn,J2 e.symm C.row,(zh e.symm).trans C.len,λi hi=>(yy e.symm i).trans (C.cell i hi)⟩,λC=>have e:=h.get st news c hc hn;⟨by rw[qo];exact Nat.lt_succ_of_lt hn,J2 e C.row,(zh e).trans C.len,λi hi=>(yy e i).trans (C.cell i hi)⟩⟩
theorem Lv.put {news:List AV}(h:Lv lo hi s v n cs z)(hl:news.length=z)(h1:lo<=s.nx){m:Nat}(hm:m=s.nx+1):Lv lo m (Go.Sy.aps v s news) (apv z v s) (n+1) (cs ++ news) z:=by rw[hm];exact h.app hl h1
end
def kl (b:Nat)(s:St):St:=kills [b] s
section
variable {lo hi n z b c:Nat} {s:St} {v:AV} {cs:List AV}
theorem yK (b:Nat)(s:St):(kl b s).nx=s.nx:=nr rfl
theorem VW (b:Nat)(s:St):(kl b s).fr=s.fr:=nr rfl
theorem ue (h:c≠b):jh (kl b s).h c=jh s.h c:=by
 show jh ((jz (jk b)).run .dead s.h) c=_;rw[jy,if_neg h]
theorem V9 {i:Nat}(h:c≠b):rat (kl b s).h c i=rat s.h c i:=yy (ue h) i
theorem YD (h:c≠b):qh (kl b s).h c=qh s.h c:=zh (ue h)
theorem Xd {o k:Nat}(h:c≠b):rats (kl b s).h c o k=rats s.h c o k:=X1 (ue h) _ _
theorem V6 (h0:0<cs.length)(h1:b<s.nx)(h2:qh s.h b=cs.length)(h3:rats s.h b 0 cs.length=cs):Cl s b cs:=Cl.of_rats h1 h2 rfl h0 h3
def df (x:FuncId×List AV)(s:St):St:=⟨s.nx,s.h,s.dirty,x :: s.fr⟩
theorem X4 (x:FuncId×List AV)(s:St):(df x s).nx=s.nx:=nr rfl
theorem Wc (x:FuncId×List AV)(s:St):(df x s).h=s.h:=nr rfl
theorem VX (x:FuncId×List AV)(s:St):(df x s).fr=x :: s.fr:=nr rfl
theorem jck (f:FuncId)(caps vs:List AV){K:AV->St->Prop}:ZU (.fn f caps) vs s K=K jF (df (f,vs ++ caps) s):=nr rfl
theorem jaA:st0.fr=[]:=nr rfl
theorem ke {m k:Nat}{x:Bool}{d:Nat}(C:Cl s b cs)(hl:n * z=cs.length)(hp:cs.all pc=true):fz (d+2) s.h (.slice b 0 n m z x)=some (.lst n cs,[b]):=by
 obtain⟨q,zl,zz,ct,h1,h2,h3⟩:=C.rw_.len;show(match jh s.h b with
  |some (.row n' zl z' cs)=>cond (Qcd (Qce 0 (Qcf n z)) n') ((fzs (fz (d+1) s.h) (jo zl z' cs (Qcf n z) 0)).map λ(p:List AV×List Nat)=>(AV.lst n p.1,b :: p.2)) none
  |_=>none)=_
 rw[h1];dsimp only;have e1:Qcd (Qce 0 (Qcf n z)) q=true:=by rw[jC];show 0+n * z<=q;omega
 have e2:jo zl zz ct (Qcf n z) 0=cs:=by
  rw[show Qcf n z=q by show n * z=q;omega];exact h2
 rw[e1,e2,ZK hp];rfl
def Fza (s:St)(aZ' aZ:List AV)(ks:List Nat):Prop:=fzs (fz 9 s.h) aZ'=some (aZ,ks)
theorem Fza.nil:Fza s [] [] []:=rfl
theorem Fza.pa {aZ' aZ:List AV}{ks:List Nat}(hv:pa v=true)(h:Fza s aZ' aZ ks):Fza s (v :: aZ') (v :: aZ) ks:=by
 unfold Fza at *;simp only[fzs];rw[VU (d:=7) hv,h];rfl
theorem Fza.sl {aZ' aZ:List AV}{ks:List Nat}{m:Nat}{x:Bool}(C:Cl s b cs)(hl:n * z=cs.length)(hp:cs.all pc=true)(h:Fza s aZ' aZ ks):Fza s (.slice b 0 n m z x :: aZ') (.lst n cs :: aZ) (b :: ks):=by
 unfold Fza at *;simp only[fzs];rw[ke (d:=7) (k:=0) C hl hp,h];rfl
variable {P:Program} {base:Bs}
theorem jbu {f:FuncId}{F:XF}(hl:jG P f=some F)(hm:base.pur f=1){aZ:List AV}{o:Oc}
 (h:xC P base F.body (jv F.ps aZ) st0 (GJ P base F.res (J6 G0 o) (JZ G0 o)) (vS P base F.res (J6 G0 o) (JZ G0 o))):PX P base f aZ o:=PX.of hm (jb7 hl h)
theorem PX.xf {f:FuncId}{aZ aZ':List AV}{ks:List Nat}{o:Oc}(h:PX P base f aZ o){st:St}(hf:Fza st aZ' aZ ks)(hb:∀ st,base.run f aZ' st=.no)(K Kp:AV->St->Prop):XB P base f aZ' st K Kp=QP o K Kp (kills ks st):=h.cxk hf hb K Kp
end
end Go.Sy
end
noncomputable section
namespace Go.Sy
open Go.Ev
theorem Cl.q {s:St}{b:Nat}{cs:List AV}(h:Cl s b cs):type_of% (aI h.len (aI h.cell h.ratsP)):=aI h.len (aI h.cell h.ratsP)
theorem Cl.r {s:St}{b:Nat}{cs:List AV}(h:Cl s b cs):type_of% (aI h.len h.ratsP):=aI h.len h.ratsP
theorem rzA:type_of% (aI (@K5) (aI (@Uf) (aI (@VA) (aI (@Hd) (aI (@Hb) (aI (@Vz) (aI (@uG) (aI (@Uh) (aI (@jci) (aI (@Um) (aI (@VB) (aI (@Z5) (aI (@Ks) (aI (@He) (aI (@Uo) (aI (@Un) (aI (@Hc) (aI (@Ul) (aI (@Uk) (aI (@Ko) (aI (@x_i) (aI (@Hf) (aI (@jcj) (aI (@Kr) (aI (@Ue) (aI (@Ud) (aI (@Ha) (aI (@Xe) (aI (@we) (aI (@KL) (aI (@WE) (aI (@WC) (aI (@ZA) (aI (@WD) (aI (@jeg) (aI (@hY) (aI (@gY) (aI (@H0) (aI (@gZ) (aI (@H1) (aI (@KN) (aI (@uQ) (aI (@wg) (aI (@jcE) (aI (@jcD) (aI (@KO) (aI (@KP) (aI (@HZ) (aI (@HY) (aI (@H5) (aI (@H4) (aI (@H3) (aI (@H2) (aI (@Vp) (aI (@Vq) (aI (@Vr) (aI (@gx) (@gw)))))))))))))))))))))))))))))))))))))))))))))))))))))))))):=aI (@K5) (aI (@Uf) (aI (@VA) (aI (@Hd) (aI (@Hb) (aI (@Vz) (aI (@uG) (aI (@Uh) (aI (@jci) (aI (@Um) (aI (@VB) (aI (@Z5) (aI (@Ks) (aI (@He) (aI (@Uo) (aI (@Un) (aI (@Hc) (aI (@Ul) (aI (@Uk) (aI (@Ko) (aI (@x_i) (aI (@Hf) (aI (@jcj) (aI (@Kr) (aI (@Ue) (aI (@Ud) (aI (@Ha) (aI (@Xe) (aI (@we) (aI (@KL) (aI (@WE) (aI (@WC) (aI (@ZA) (aI (@WD) (aI (@jeg) (aI (@hY) (aI (@gY) (aI (@H0) (aI (@gZ) (aI (@H1) (aI (@KN) (aI (@uQ) (aI (@wg) (aI (@jcE) (aI (@jcD) (aI (@KO) (aI (@KP) (aI (@HZ) (aI (@HY) (aI (@H5) (aI (@H4) (aI (@H3) (aI (@H2) (aI (@Vp) (aI (@Vq) (aI (@Vr) (aI (@gx) (@gw)))))))))))))))))))))))))))))))))))))))))))))))))))))))))
theorem rzB:type_of% (aI (@gu) (aI (@kO) (aI (@jei) (aI (@jeh) (aI (@jbt) (aI (@jbN) (aI (@jao) (aI (@jcT) (aI (@jcN) (aI (@jcM) (aI (@jex) (aI (@jap) (aI (@VQ) (aI (@jcK) (aI (@jaj) (aI (@jew) (aI (@jcS) (aI (@jcQ) (aI (@jav) (aI (@jau) (aI (@jat) (aI (@jas) (aI (@jar) (aI (@K3) (aI (@jcR) (aI (@jcL) (aI (@jaq) (aI (@U8) (aI (@U7) (aI (@U6) (aI (@jam) (aI (@jal) (aI (@jak) (aI (@U9) (aI (@W5) (aI (@jcP) (aI (@K4) (aI (@jcU) (aI (@KB) (aI (@jaw) (aI (@jan) (aI (@jcO) (aI (@jcV) (aI (@jd3) (aI (@jcr) (aI (@gN) (aI (@jcx) (aI (@jct) (aI (@jcy) (aI (@jcA) (aI (@jcs) (aI (@Ky) (aI (@Us) (aI (@Ut) (aI (@HD) (aI (@Hj) (aI (@Hq) (@Hp)))))))))))))))))))))))))))))))))))))))))))))))))))))))))):=aI (@gu) (aI (@kO) (aI (@jei) (aI (@jeh) (aI (@jbt) (aI (@jbN) (aI (@jao) (aI (@jcT) (aI (@jcN) (aI (@jcM) (aI (@jex) (aI (@jap) (aI (@VQ) (aI (@jcK) (aI (@jaj) (aI (@jew) (aI (@jcS) (aI (@jcQ) (aI (@jav) (aI (@jau) (aI (@jat) (aI (@jas) (aI (@jar) (aI (@K3) (aI (@jcR) (aI (@jcL) (aI (@jaq) (aI (@U8) (aI (@U7) (aI (@U6) (aI (@jam) (aI (@jal) (aI (@jak) (aI (@U9) (aI (@W5) (aI (@jcP) (aI (@K4) (aI (@jcU) (aI (@KB) (aI (@jaw) (aI (@jan) (aI (@jcO) (aI (@jcV) (aI (@jd3) (aI (@jcr) (aI (@gN) (aI (@jcx) (aI (@jct) (aI (@jcy) (aI (@jcA) (aI (@jcs) (aI (@Ky) (aI (@Us) (aI (@Ut) (aI (@HD) (aI (@Hj) (aI (@Hq) (@Hp)))))))))))))))))))))))))))))))))))))))))))))))))))))))))
theorem rzC:type_of% (aI (@Hs) (aI (@Hr) (aI (@Ht) (aI (@jcu) (aI (@Hu) (aI (@Uu) (aI (@Hx) (aI (@Hw) (aI (@jcw) (aI (@Hz) (aI (@Kz) (aI (@Ho) (aI (@jcz) (aI (@Hy) (aI (@KD) (aI (@HB) (aI (@HA) (aI (@jcv) (aI (@Hn) (aI (@KC) (aI (@Hm) (aI (@Hl) (aI (@Hk) (aI (@gq) (aI (@jeJ) (aI (@jeK) (aI (@jaX) (aI (@jcI) (aI (@jcJ) (aI (@yI) (aI (@Qv) (aI (@jaO) (aI (@H7) (aI (@GZ) (aI (@jc5) (aI (@jeN) (aI (@G3) (aI (@Qk) (aI (@Qj) (aI (@Xc) (aI (@Qi) (aI (@Qe) (aI (@Qh) (aI (@V9) (aI (@YD) (aI (@Xd) (aI (@X4) (aI (@Wc) (aI (@VX) (aI (@VW) (aI (@XJ) (aI (@qo) (aI (@yK) (aI (@Z6) (aI (@Yw) (aI (@YS) (aI (@Z9) (@Z8)))))))))))))))))))))))))))))))))))))))))))))))))))))))))):=aI (@Hs) (aI (@Hr) (aI (@Ht) (aI (@jcu) (aI (@Hu) (aI (@Uu) (aI (@Hx) (aI (@Hw) (aI (@jcw) (aI (@Hz) (aI (@Kz) (aI (@Ho) (aI (@jcz) (aI (@Hy) (aI (@KD) (aI (@HB) (aI (@HA) (aI (@jcv) (aI (@Hn) (aI (@KC) (aI (@Hm) (aI (@Hl) (aI (@Hk) (aI (@gq) (aI (@jeJ) (aI (@jeK) (aI (@jaX) (aI (@jcI) (aI (@jcJ) (aI (@yI) (aI (@Qv) (aI (@jaO) (aI (@H7) (aI (@GZ) (aI (@jc5) (aI (@jeN) (aI (@G3) (aI (@Qk) (aI (@Qj) (aI (@Xc) (aI (@Qi) (aI (@Qe) (aI (@Qh) (aI (@V9) (aI (@YD) (aI (@Xd) (aI (@X4) (aI (@Wc) (aI (@VX) (aI (@VW) (aI (@XJ) (aI (@qo) (aI (@yK) (aI (@Z6) (aI (@Yw) (aI (@YS) (aI (@Z9) (@Z8)))))))))))))))))))))))))))))))))))))))))))))))))))))))))
theorem rzD:type_of% (aI (@jP) (aI (@yJ) (aI (@qo) (aI (@qG) (aI (@YF) (aI (@Xh) (aI (@Xg) (aI (@XA) (aI (@uD) (aI (@uC) (aI (@uB) (aI (@uz) (aI (@uA) (aI (@uw) (aI (@Yg) (aI (@Yf) (aI (@Yb) (aI (@Q9) (aI (@Qx) (aI (@Q8) (aI (@Yd) (aI (@Ye) (aI (@kT) (aI (@kS) (aI (@jeO) (aI (@jc7) (aI (@jc6) (aI (@VG) (aI (@VE) (aI (@jcC) (aI (@jcB) (aI (@JF) (aI (@VV) (aI (@gb) (aI (@QC) (aI (@HX) (aI (@KM) (aI (@h_0) (aI (@h_1) (aI (@jeB) (aI (@jeA) (aI (@jeD) (aI (@jeC) (aI (@jeq) (aI (@jep) (aI (@jea) (aI (@jd9) (aI (@jd8) (aI (@jd1) (aI (@jdZ) (aI (@jcn) (aI (@jd0) (aI (@jco) (aI (@HR) (aI (@uM) (aI (@uL) (aI (@Wm) (@jeF)))))))))))))))))))))))))))))))))))))))))))))))))))))))))):=aI (@jP) (aI (@yJ) (aI (@qo) (aI (@qG) (aI (@YF) (aI (@Xh) (aI (@Xg) (aI (@XA) (aI (@uD) (aI (@uC) (aI (@uB) (aI (@uz) (aI (@uA) (aI (@uw) (aI (@Yg) (aI (@Yf) (aI (@Yb) (aI (@Q9) (aI (@Qx) (aI (@Q8) (aI (@Yd) (aI (@Ye) (aI (@kT) (aI (@kS) (aI (@jeO) (aI (@jc7) (aI (@jc6) (aI (@VG) (aI (@VE) (aI (@jcC) (aI (@jcB) (aI (@JF) (aI (@VV) (aI (@gb) (aI (@QC) (aI (@HX) (aI (@KM) (aI (@h_0) (aI (@h_1) (aI (@jeB) (aI (@jeA) (aI (@jeD) (aI (@jeC) (aI (@jeq) (aI (@jep) (aI (@jea) (aI (@jd9) (aI (@jd8) (aI (@jd1) (aI (@jdZ) (aI (@jcn) (aI (@jd0) (aI (@jco) (aI (@HR) (aI (@uM) (aI (@uL) (aI (@Wm) (@jeF)))))))))))))))))))))))))))))))))))))))))))))))))))))))))
theorem rzL:type_of% (aI (@X4) (aI (@Wc) (aI (@jP) (aI (@yJ) (aI (@qo) (aI (@yK) (aI (@qG) (aI (@YF) (aI (@QC) (aI (@YD) (aI (@Xh) (aI (@Xg) (aI (@XA) (aI (@Qk) (aI (@Qj) (aI (@Xc) (aI (@Qi) (aI (@Qe) (aI (@Qh) (aI (@Xd) (aI (@Z6) (aI (@Yw) (aI (@YS) (aI (@Z9) (aI (@Z8) (aI (@Wm) (aI (@uL) (@uM)))))))))))))))))))))))))))):=aI (@X4) (aI (@Wc) (aI (@jP) (aI (@yJ) (aI (@qo) (aI (@yK) (aI (@qG) (aI (@YF) (aI (@QC) (aI (@YD) (aI (@Xh) (aI (@Xg) (aI (@XA) (aI (@Qk) (aI (@Qj) (aI (@Xc) (aI (@Qi) (aI (@Qe) (aI (@Qh) (aI (@Xd) (aI (@Z6) (aI (@Yw) (aI (@YS) (aI (@Z9) (aI (@Z8) (aI (@Wm) (aI (@uL) (@uM)))))))))))))))))))))))))))
theorem rzN:type_of% (aI (@jP) (aI (@yJ) (aI (@qo) (aI (@yK) (aI (@qG) (aI (@QC) (aI (@X4) (aI (@JF) (aI (@VV) (aI (@VX) (aI (@VW) (aI (@XJ) (@jaA))))))))))))):=aI (@jP) (aI (@yJ) (aI (@qo) (aI (@yK) (aI (@qG) (aI (@QC) (aI (@X4) (aI (@JF) (aI (@VV) (aI (@VX) (aI (@VW) (aI (@XJ) (@jaA))))))))))))
theorem rzG:type_of% (aI (@X4) (aI (@Wc) (aI (@Qk) (aI (@Qj) (aI (@Xc) (aI (@Qi) (aI (@Qe) (aI (@Qh) (aI (@Xd) (aI (@Wm) (aI (@uL) (aI (@uM) (aI (@uD) (aI (@uC) (aI (@uB) (aI (@uz) (aI (@uA) (aI (@uw) (aI (@V9) (aI (@jP) (aI (@yJ) (aI (@qo) (aI (@yK) (aI (@YD) (aI (@qG) (aI (@YF) (aI (@QC) (aI (@Xh) (aI (@Xg) (aI (@XA) (aI (@Yg) (aI (@Yf) (aI (@Yb) (aI (@Q9) (aI (@Qx) (aI (@Q8) (aI (@Yd) (aI (@Ye) (aI (@U1) (aI (@UX) (aI (@W4) (aI (@ub) (aI (@W3) (aI (@UY) (aI (@U0) (aI (@UZ) (aI (@WL) (aI (@WH) (aI (@vQ) (aI (@wL) (aI (@vP) (aI (@WJ) (aI (@WK) (aI (@WM) (aI (@VG) (aI (@VE) (aI (@YS) (aI (@Z9) (aI (@Yw) (@Z8)))))))))))))))))))))))))))))))))))))))))))))))))))))))))))):=aI (@X4) (aI (@Wc) (aI (@Qk) (aI (@Qj) (aI (@Xc) (aI (@Qi) (aI (@Qe) (aI (@Qh) (aI (@Xd) (aI (@Wm) (aI (@uL) (aI (@uM) (aI (@uD) (aI (@uC) (aI (@uB) (aI (@uz) (aI (@uA) (aI (@uw) (aI (@V9) (aI (@jP) (aI (@yJ) (aI (@qo) (aI (@yK) (aI (@YD) (aI (@qG) (aI (@YF) (aI (@QC) (aI (@Xh) (aI (@Xg) (aI (@XA) (aI (@Yg) (aI (@Yf) (aI (@Yb) (aI (@Q9) (aI (@Qx) (aI (@Q8) (aI (@Yd) (aI (@Ye) (aI (@U1) (aI (@UX) (aI (@W4) (aI (@ub) (aI (@W3) (aI (@UY) (aI (@U0) (aI (@UZ) (aI (@WL) (aI (@WH) (aI (@vQ) (aI (@wL) (aI (@vP) (aI (@WJ) (aI (@WK) (aI (@WM) (aI (@VG) (aI (@VE) (aI (@YS) (aI (@Z9) (aI (@Yw) (@Z8)))))))))))))))))))))))))))))))))))))))))))))))))))))))))))
theorem rzP:type_of% (aI (@Qan) (aI (@Nat.add_zero) (aI (@Qbf) (aI (@QaT) (aI (@Qbq) (aI (@Int.toNat_natCast) (aI (@Int.toNat_zero) (aI (@Int.toNat_one) (aI (@true_and) (aI (@and_true) (aI (@and_self) (aI (@Bool.not_true) (aI (@Bool.not_false) (aI (@Qbg) (aI (@QaU) (aI (@decide_eq_true_eq) (aI (@decide_eq_false_iff_not) (aI (@Nat.beq_eq) (@not_false_eq_true))))))))))))))))))):=aI (@Qan) (aI (@Nat.add_zero) (aI (@Qbf) (aI (@QaT) (aI (@Qbq) (aI (@Int.toNat_natCast) (aI (@Int.toNat_zero) (aI (@Int.toNat_one) (aI (@true_and) (aI (@and_true) (aI (@and_self) (aI (@Bool.not_true) (aI (@Bool.not_false) (aI (@Qbg) (aI (@QaU) (aI (@decide_eq_true_eq) (aI (@decide_eq_false_iff_not) (aI (@Nat.beq_eq) (@not_false_eq_true))))))))))))))))))
theorem rzQ:type_of% (aI (@eq_self.{1}) (aI (@ψ.{0}) (aI (@χ.{0}) (aI (@Qad.{0}) (aI (@Qah.{0}) (aI (@QaS.{0}) (aI (@Qax.{0}) (aI (@Qaz.{0}) (aI (@cond_true.{1}) (aI (@cond_false.{1}) (@ne_eq.{1}))))))))))):=aI (@eq_self.{1}) (aI (@ψ.{0}) (aI (@χ.{0}) (aI (@Qad.{0}) (aI (@Qah.{0}) (aI (@QaS.{0}) (aI (@Qax.{0}) (aI (@Qaz.{0}) (aI (@cond_true.{1}) (aI (@cond_false.{1}) (@ne_eq.{1}))))))))))
theorem rzZ:type_of% (aI (@rzA) (aI (@rzB) (aI (@rzC) (aI (@rzD) (aI (@rzP) (@rzQ)))))):=aI (@rzA) (aI (@rzB) (aI (@rzC) (aI (@rzD) (aI (@rzP) (@rzQ)))))
instance iA (n:Nat):OfNat A n:=⟨.t n⟩
theorem nA (n:Nat):(@OfNat.ofNat A n (iA n))=A.t (@OfNat.ofNat Nat n _):=rfl
def oe(a:Nat)(b:Bool)(c:Option (Nat×Bool))(d:XK):XS:=⟨some a,b,c,d⟩
def oi(a:Nat)(b:Bool)(c:Option (Nat×Bool))(d:Ins):XS:=oe a b c (.i d)
def oj(a:Nat)(b:Option (Nat×Bool))(c:Ins):XS:=oi a false b c
def ol(a:Nat)(b:Ins):XS:=oj a none b
def ou(a:List XS)(b:XC):XC:=.seq (.ops a) b
def ov(a:Nat)(b:Option (Nat×Bool))(c:Ins):XS:=oi a true b c
def ow(a:Nat)(b:Ins):XS:=ov a none b
def oy(a:Nat)(b:A):XS:=ol a (.mv b)
def oz(a:Nat)(b:A):XS:=ow a (.mv b)
def oB(a:Nat)(b:Nat×Bool)(c:Ins):XS:=oj a (some b) c
def oC(a:IntKind)(b:Int):A:=.c (.int a b)
def oD(a:Bool):A:=.c (.bool a)
def oE(a:XS)(b:Nat)(c:List (Nat×Nat)):XD:=⟨a,none,b,c⟩
def oF(a:Int):A:=oC .i64 a
def oG:A:=oD false
def oH(a:Nat)(b:Bool)(c:Option (Nat×Bool))(d:A)(e:List A):XS:=oe a b c (.call d e)
def oI(a:BinOp)(b:A)(c:Int):Ins:=.bin a b (oF c)
def oJ(a:Nat)(b:Nat×Bool)(c:A):XS:=oB a b (.mv c)
def oK(a:Nat)(b:List AV):A:=.c (.fn a b)
def oL(a:A)(b:XC):XC:=.cond a b .skip
def oM(a:Nat)(b:Option (Nat×Bool))(c:A)(d:List A):XS:=oH a false b c d
def oQ(a:List XS)(b:XC)(c:XC):XC:=.seq (ou a b) c
def oR(a:Nat):Nat×Bool:=(a,false)
def oS(a:Nat)(b:Nat)(c:Ins):XS:=oB a (oR b) c
def oU(a:List XS):XC:=ou a .ret
def oV(a:XS)(b:Nat):XD:=oE a b []
def oW(a:Nat)(b:Option (Nat×Bool))(c:Nat)(d:List AV)(e:List A):XS:=oM a b (oK c d) e
def oX(a:Nat)(b:A)(c:A)(d:A):XS:=ol a (.pick b c d)
def oY:AV:=.tup []
def oZ:A:=oD true
def o0(a:Nat)(b:A)(c:Nat):XS:=ol a (.ext b c)
def o3(a:Nat)(b:Nat)(c:List AV)(d:List A):XS:=oW a none b c d
def o4(a:Nat)(b:A):XS:=ol a (.ld1 b)
def o5(a:Nat)(b:A)(c:Nat):XD:=oV (oy a b) c
def o6:A:=.c oY
def o7(a:XS)(b:Option A)(c:Nat)(d:List (Nat×Nat)):XD:=⟨a,some b,c,d⟩
def o8(a:Nat)(b:Int):XS:=oz a (oF b)
def o9(a:Nat)(b:BinOp)(c:A)(d:Int):XS:=ol a (oI b c d)
def Ia(a:Nat):Nat×Bool:=(a,true)
def Ib(a:Nat)(b:Nat)(c:Ins):XS:=oB a (Ia b) c
def Ic(a:Nat)(b:Nat)(c:A):XS:=oJ a (Ia b) c
def Id(a:List Nat):A:=.c (.str a)
def Ie(a:Nat)(b:XC):XC:=.block a (.loop b)
def Ig(a:Nat)(b:Nat)(c:A):XS:=ol a (.ldA b c)
def Ih(a:Nat)(b:XC)(c:XC):XC:=.seq (.block a b) c
def Ii(a:A)(b:List XS):XC:=oL a (oU b)
def Ij(a:A)(b:XC)(c:Nat):XC:=.cond a b (.exit c)
def Ik(a:Nat)(b:Nat)(c:A):XS:=ol a (.fad b c)
def Il(a:Nat)(b:Nat)(c:A)(d:A):XS:=ol a (.idxS b c d)
def Im(a:Nat)(b:Nat)(c:List A):XS:=o3 a b [] c
def Io(a:Option Nat)(b:Option (Nat×Bool))(c:XK):XS:=⟨a,false,b,c⟩
def Ip(a:Nat)(b:Nat)(c:A):XS:=oJ a (oR b) c
def Iq(a:List XS)(b:List XS)(c:XC)(d:XC):XC:=ou a (oQ b c d)
def Ir(a:XD):XD×(Option (List XD)):=(a,none)
def Is(a:XS)(b:Nat):XD×(Option (List XD)):=Ir (oV a b)
def Iu(a:Nat)(b:A)(c:A)(d:A):XS:=ow a (.pick b c d)
def Iv(a:Nat)(b:BinOp)(c:A)(d:A):XS:=ow a (.bin b c d)
def Iw(a:List XS)(b:XC)(c:XC):XC:=ou a (.seq b c)
def Ix(a:BinOp)(b:A)(c:IntKind)(d:Int):Ins:=.bin a b (oC c d)
def Iy(a:Int):AV:=.int .i64 a
def Iz(a:Nat)(b:Nat):XD:=o5 a o6 b
def IA(a:Nat):XS:=oz a oG
def IB(a:A):Ins:=.un .not a
def ID(a:XS)(b:A)(c:Nat)(d:List (Nat×Nat)):XD:=o7 a (some b) c d
def IE(a:Option (Nat×Bool))(b:XK):XS:=Io none a b
def IG(a:XK):XS:=IE none a
def IH(a:Nat)(b:Nat)(c:Nat)(d:List AV)(e:List ((Nat×Nat)×A)):XS:=ol a (.buildS b c d e)
def II(a:Nat)(b:XC)(c:List XS):XC:=Ih a b (.ops c)
def IJ(a:Nat)(b:A)(c:A):XK:=.i (.st a b c)
def IK(a:Nat)(b:Nat)(c:A):XS:=oS a b (.ld1 c)
def IM(a:Nat):XS:=oy a 0
def IO(a:XS):XD×(Option (List XD)):=Is a 0
def IP(a:Nat)(b:List AV)(c:List ((Nat×Nat)×A)):XS:=ol a (.build b c)
def IQ(a:Nat)(b:A)(c:Int):XS:=o9 a .add b c
def IR(a:A)(b:Nat):XC:=Ij a .skip b
def IU(a:Nat)(b:A):XS:=ow a (.len b)
def IV(a:Nat)(b:A)(c:A):XS:=IG (IJ a b c)
def IW(a:List XS)(b:List XS)(c:XC):XC:=ou a (ou b c)
def IX(a:Nat)(b:A)(c:A):XS:=oX a b c oG
def IY(a:Nat)(b:A):XS:=ow a (.box b)
def IZ(a:BinOp)(b:A)(c:List Nat):Ins:=.strb a b (Id c)
def I1(a:Nat)(b:A):XS:=ol a (.len b)
def I2(a:List XS)(b:List XS)(c:A)(d:List XS)(e:XC):XC:=Iq a b (Ii c d) e
def I3(a:Nat)(b:List AV):XS:=ow a (.alloc b)
def I4(a:Nat):XD:=Iz a 0
def I5(a:XS):XS×(Option (List XD)):=(a,none)
def I6(a:Nat)(b:Nat×Bool)(c:Nat)(d:List AV)(e:List A):XS:=oW a (some b) c d e
def I7(a:Nat)(b:A):XS:=ol a (.lenS b)
def I8(a:Nat)(b:A)(c:A):XS:=Iv a .lss b c
def I9(a:Nat)(b:Nat)(c:Nat)(d:A):XS:=oS a b (.fad c d)
def Oa(a:Nat):XS:=o8 a 0
theorem qq:type_of% (aI @nA (aI @oe.eq_1 (aI @oi.eq_1 (aI @oj.eq_1 (aI @ol.eq_1 (aI @ou.eq_1 (aI @ov.eq_1 (aI @ow.eq_1 (aI @oy.eq_1 (aI @oz.eq_1 (aI @oB.eq_1 (aI @oC.eq_1 (aI @oD.eq_1 (aI @oE.eq_1 (aI @oF.eq_1 (aI @oG.eq_1 (aI @oH.eq_1 (aI @oI.eq_1 (aI @oJ.eq_1 (aI @oK.eq_1 (aI @oL.eq_1 (aI @oM.eq_1 (aI @oQ.eq_1 (aI @oR.eq_1 (aI @oS.eq_1 (aI @oU.eq_1 (aI @oV.eq_1 (aI @oW.eq_1 (aI @oX.eq_1 (aI @oY.eq_1 (aI @oZ.eq_1 (aI @o0.eq_1 (aI @o3.eq_1 (aI @o4.eq_1 (aI @o5.eq_1 (aI @o6.eq_1 (aI @o7.eq_1 (aI @o8.eq_1 (aI @o9.eq_1 (aI @Ia.eq_1 (aI @Ib.eq_1 (aI @Ic.eq_1 (aI @Id.eq_1 (aI @Ie.eq_1 (aI @Ig.eq_1 (aI @Ih.eq_1 (aI @Ii.eq_1 (aI @Ij.eq_1 (aI @Ik.eq_1 (aI @Il.eq_1 (aI @Im.eq_1 (aI @Io.eq_1 (aI @Ip.eq_1 (aI @Iq.eq_1 (aI @Ir.eq_1 (aI @Is.eq_1 (aI @Iu.eq_1 (aI @Iv.eq_1 (aI @Iw.eq_1 (aI @Ix.eq_1 (aI @Iy.eq_1 (aI @Iz.eq_1 (aI @IA.eq_1 (aI @IB.eq_1 (aI @ID.eq_1 (aI @IE.eq_1 (aI @IG.eq_1 (aI @IH.eq_1 (aI @II.eq_1 (aI @IJ.eq_1 (aI @IK.eq_1 (aI @IM.eq_1 (aI @IO.eq_1 (aI @IP.eq_1 (aI @IQ.eq_1 (aI @IR.eq_1 (aI @IU.eq_1 (aI @IV.eq_1 (aI @IW.eq_1 (aI @IX.eq_1 (aI @IY.eq_1 (aI @IZ.eq_1 (aI @I1.eq_1 (aI @I2.eq_1 (aI @I3.eq_1 (aI @I4.eq_1 (aI @I5.eq_1 (aI @I6.eq_1 (aI @I7.eq_1 (aI @I8.eq_1 (aI @I9.eq_1 @Oa.eq_1))))))))))))))))))))))))))))))))))))))))))))))))))))))))))))))))))))))))))))))))))))))))))):=aI @nA (aI @oe.eq_1 (aI @oi.eq_1 (aI @oj.eq_1 (aI @ol.eq_1 (aI @ou.eq_1 (aI @ov.eq_1 (aI @ow.eq_1 (aI @oy.eq_1 (aI @oz.eq_1 (aI @oB.eq_1 (aI @oC.eq_1 (aI @oD.eq_1 (aI @oE.eq_1 (aI @oF.eq_1 (aI @oG.eq_1 (aI @oH.eq_1 (aI @oI.eq_1 (aI @oJ.eq_1 (aI @oK.eq_1 (aI @oL.eq_1 (aI @oM.eq_1 (aI @oQ.eq_1 (aI @oR.eq_1 (aI @oS.eq_1 (aI @oU.eq_1 (aI @oV.eq_1 (aI @oW.eq_1 (aI @oX.eq_1 (aI @oY.eq_1 (aI @oZ.eq_1 (aI @o0.eq_1 (aI @o3.eq_1 (aI @o4.eq_1 (aI @o5.eq_1 (aI @o6.eq_1 (aI @o7.eq_1 (aI @o8.eq_1 (aI @o9.eq_1 (aI @Ia.eq_1 (aI @Ib.eq_1 (aI @Ic.eq_1 (aI @Id.eq_1 (aI @Ie.eq_1 (aI @Ig.eq_1 (aI @Ih.eq_1 (aI @Ii.eq_1 (aI @Ij.eq_1 (aI @Ik.eq_1 (aI @Il.eq_1 (aI @Im.eq_1 (aI @Io.eq_1 (aI @Ip.eq_1 (aI @Iq.eq_1 (aI @Ir.eq_1 (aI @Is.eq_1 (aI @Iu.eq_1 (aI @Iv.eq_1 (aI @Iw.eq_1 (aI @Ix.eq_1 (aI @Iy.eq_1 (aI @Iz.eq_1 (aI @IA.eq_1 (aI @IB.eq_1 (aI @ID.eq_1 (aI @IE.eq_1 (aI @IG.eq_1 (aI @IH.eq_1 (aI @II.eq_1 (aI @IJ.eq_1 (aI @IK.eq_1 (aI @IM.eq_1 (aI @IO.eq_1 (aI @IP.eq_1 (aI @IQ.eq_1 (aI @IR.eq_1 (aI @IU.eq_1 (aI @IV.eq_1 (aI @IW.eq_1 (aI @IX.eq_1 (aI @IY.eq_1 (aI @IZ.eq_1 (aI @I1.eq_1 (aI @I2.eq_1 (aI @I3.eq_1 (aI @I4.eq_1 (aI @I5.eq_1 (aI @I6.eq_1 (aI @I7.eq_1 (aI @I8.eq_1 (aI @I9.eq_1 @Oa.eq_1))))))))))))))))))))))))))))))))))))))))))))))))))))))))))))))))))))))))))))))))))))))))))
end Go.Sy
end
noncomputable section
namespace Go.Sy
open Go.Ev Go.RowKit
theorem zt {v:AV}{h:T AO}(hv:pa v=true):lend h v=some v:=by
 have key:∀ v:AV,pa v=true->(fz 9 h v).map (·.1)=some v:=λv hv=>by rw[VU (d:=7) hv];rfl
 cases v<;>first|exact key _ hv|(cases hv;done)|skip
 case fn f caps=>
  cases caps with
  |nil=>rfl
  |cons c l=>cases hv
theorem qI {h:T AO}:zL h []=some []:=rfl
theorem jD {h:T AO}{v u:AV}{l r:List AV}(h1:lend h v=some u)(h2:zL h l=some r):zL h (v :: l)=some (u :: r):=by
 simp only[zL,h1,h2]
theorem jbG {h:T AO}{v:AV}{l r:List AV}(h1:pa v=true)(h2:zL h l=some r):zL h (v :: l)=some (v :: r):=jD (zt h1) h2
theorem WZ {h:T AO}:∀ {l:List AV},l.all Go.Sy.pa=true->zL h l=some l
 |[],_=>rfl
 |v :: l,hp=>by
  simp only[Qaw,Qaj] at hp;exact jbG hp.1 (WZ hp.2)
theorem K9 {s:St}{d b n m z:Nat}{x:Bool}{cs:List AV}(C:Cl s b cs)(hl:n * z=cs.length)(hp:cs.all pc=true):fz (d+2) s.h (.slice b 0 n m z x)=some (.lst n cs,[b]):=ke (k:=0) C hl hp
theorem vZ {s:St}{b n m z:Nat}{x:Bool}{cs:List AV}(C:Cl s b cs)(hl:n * z=cs.length)(hp:cs.all pc=true):lend s.h (.slice b 0 n m z x)=some (.lst n cs):=by
 show(fz 9 s.h _).map (·.1)=_;rw[K9 (d:=7) C hl hp];rfl
def Lr (s:St)(v:AV)(n:Nat)(cs:List AV):Prop:=v=.lst n cs\/(v=.nils/\n=0/\cs=[])\/∃ b m z x,v=.slice b 0 n m z x/\n * z=cs.length/\Cl s b cs
theorem Lv.lr {lo hi n z:Nat}{s:St}{v:AV}{cs:List AV}(h:Lv lo hi s v n cs z):Lr s v n cs:=by
 rcases h with ⟨rfl,rfl,rfl⟩|⟨b,rfl,h2,h3,h4,h5,h6⟩
 ·exact .inr (.inl ⟨rfl,rfl,rfl⟩)
 ·exact .inr (.inr ⟨b,n,z,false,rfl,h3.symm,h4⟩)
theorem Lr.fz {s:St}{v:AV}{n:Nat}{cs:List AV}{d:Nat}(h:Lr s v n cs)(hp:cs.all pc=true):∃ ks,fz (d+2) s.h v=some (.lst n cs,ks):=by
 rcases h with rfl|⟨rfl,rfl,rfl⟩|⟨b,m,z,x,rfl,h1,h2⟩
 ·exact⟨[],rfl⟩
 ·exact⟨[],rfl⟩
 ·exact⟨[b],K9 h2 h1 hp⟩
theorem Lr.lend {s:St}{v:AV}{n:Nat}{cs:List AV}(h:Lr s v n cs)(hp:cs.all pc=true):lend s.h v=some (.lst n cs):=by
 have key:(Go.Ev.fz 9 s.h v).map (·.1)=some (.lst n cs):=by
  obtain⟨ks,e⟩:=h.fz (d:=7) hp;rw[e];rfl
 rcases h with rfl|⟨rfl,rfl,rfl⟩|⟨b,m,z,x,rfl,h1,h2⟩<;>exact key
theorem jaf {s:St}{l r:List AV}(h:∃ ks,fzs (fz 8 s.h) l=some (r,ks)):lend s.h (.agg l)=some (.agg r):=by
 obtain⟨ks,e⟩:=h;show(fz 9 s.h (.agg l)).map (·.1)=_;show((fzs (fz 8 s.h) l).map λp=>(AV.agg p.1,p.2)).map (·.1)=_;rw[e];rfl
theorem jbH {s:St}{b o:Nat}{cs r:List AV}(C:Cl s b cs)(h:JE (fz 9 s.h) cs=r):lend s.h (.ptr b o)=some (.lptr r o):=by
 obtain⟨n,zl,z,ct,hrow,hn,hcs⟩:=C.rw_.len;show Za s.h (.ptr b o)=_;unfold Za;dsimp only;rw[hrow];dsimp only;rw[hn,h]
theorem jdK {f:AV->Option (AV×List Nat)}{v u:AV}{l r:List AV}(h1:∃ ks,f v=some (u,ks))(hc:u.cell=true)(h2:JE f l=r):JE f (v :: l)=u :: r:=by
 obtain⟨ks,e⟩:=h1;simp only[JE,e,hc,cond_true,h2]
theorem jdJ {f:AV->Option (AV×List Nat)}:JE f []=[]:=rfl
theorem jfr {h:T AO}{v:AV}(d:Nat)(hv:pc v=true):∃ ks,fz (d+1) h v=some (v,ks):=⟨[],VT hv d _⟩
section
variable {P:Program} {base:Bs}
theorem PL.xb {f:FuncId}{aZ aZ':List AV}{o:Oc}(h:PL P base f aZ o){st:St}(hf:zL st.h aZ'=some aZ)(hb:∀ st,base.run f aZ' st=.no)(K Kp:AV->St->Prop):XB P base f aZ' st K Kp=QP o K Kp st:=h.cx hf hb K Kp
theorem PL.pa {f:FuncId}{aZ:List AV}{o:Oc}(h:PL P base f aZ o)(hp:aZ.all Go.Sy.pa=true)(hb:∀ st,base.run f aZ st=.no)(st:St)(K Kp:AV->St->Prop):XB P base f aZ st K Kp=QP o K Kp st:=by
 exact h.xb (WZ hp) hb K Kp
theorem Xf {f:FuncId}{F:XF}(hl:jG P f=some F)(hnd:F.body.nd=true)(hm:base.pur f=5){aZ:List AV}{o:Oc}(ho:o.flat=true)
  (h:xC P base F.body (jv F.ps aZ) st0 (Zf P F.res (J6 G0 o)) λv _ s=>JZ G0 o v s.bare):PL P base f aZ o:=
 PL.of hm ho (vz hl hnd h)
def jev (r:ER):ER:=match r with
 |.ok v s=>(match fz 9 s.h v with|some (v',ks)=>.ok v' (kills ks s)|none=>.no)
 |r=>r
theorem BX.ice {f:FuncId}{args:List AV}{st:St}{K Kp:AV->St->Prop}(hm:base.pur f=2)(hb:base.run f args st=.no)(h:BX P base f args st (λv s=>∃ u ks,fz 9 s.h v=some (u,ks)/\K u (kills ks s)) Kp):CX P base f args st K Kp:=by
 obtain⟨r,⟨N,D,h1⟩,h2⟩:=h;have e:∀ n,N<=n->∀ d,D+1<=d->evC P base n d f args st=jev r:=λn hn d hd=>by
  obtain⟨d',rfl⟩:∃ d',d=d'+1:=⟨d - 1,om⟩;have h3:=h1 n hn d' om;simp only[evC,hb,hm,X5,Gm,h3];rfl
 refine⟨_,⟨N,D+1,e⟩,?_⟩;cases r with
 |no=>exact h2.elim
 |pn v s=>exact h2
 |ok v s=>
  obtain⟨u,ks,e1,e2⟩:=(h2:∃ u ks,fz 9 s.h v=some (u,ks)/\K u (kills ks s));unfold jev;dsimp only;rw[e1];exact e2
end
structure Keep (p:Nat)(s s':St):Prop where
 nx:s.nx<=s'.nx
 fr:s'.fr=s.fr
 get:∀ b,b<s.nx->b≠p->jh s'.h b=jh s.h b
section
variable {p b:Nat} {s s' t:St} {cs:List AV}
theorem Keep.refl:Keep p s s:=⟨ν _,rfl,λ_ _ _=>rfl⟩
theorem Keep.trans (h:Keep p s t)(k:Keep p t s'):Keep p s s':=⟨ω h.nx k.nx,k.fr.trans h.fr,λb hb hp=>(k.get b (Qat hb h.nx) hp).trans (h.get b hb hp)⟩
theorem Keep.nw (h:Keep p s t)(ds:List AV):Keep p s (nw t ds):=⟨Qbi h.nx,h.fr,λb hb hp=>(Xm (by have:=h.nx;omega)).trans (h.get b hb hp)⟩
theorem Keep.wr (h:Keep p s t){c:Nat}(hc:c=p\/s.nx<=c)(o:Nat)(vs:List AV):Keep p s (wr t c o vs):=⟨h.nx,h.fr,λb hb hp=>(Xl om).trans (h.get b hb hp)⟩
theorem Keep.kl (h:Keep p s t){c:Nat}(hc:s.nx<=c):Keep p s (kl c t):=⟨h.nx,h.fr,λb hb hp=>(ue om).trans (h.get b hb hp)⟩
theorem Keep.kills (h:Keep p s t){ks:List Nat}(hc:∀ c∈ks,s.nx<=c):Keep p s (kills ks t):=⟨h.nx,h.fr,λb hb hp=>by
 show jh (ks.foldr _ t.h) b=_;rw[QH,if_neg (λhm=>by have:=hc b hm;omega)];exact h.get b hb hp⟩
theorem Keep.aps {lo hi n z:Nat}{v:AV}{ds:List AV}{u:St}(h:Keep p s t)(V:Lv lo hi u v n ds z)(hlo:s.nx<=lo)(news:List AV):Keep p s (aps v t news):=⟨by rw[qo];exact Qbi h.nx,by rw[XJ];exact h.fr,λb hb hp=>(V.get t news b om (by have:=h.nx;omega)).trans (h.get b hb hp)⟩
theorem Keep.cl (h:Keep p s t)(C:Cl s b cs)(hb:b≠p):Cl t b cs:=C.keep h.nx (h.get b C.lt hb)
theorem Keep.lr {v:AV}{n:Nat}(h:Keep p s t)(V:Lr s v n cs)(hb:∀ b m z x,v=.slice b 0 n m z x->b≠p):Lr t v n cs:=by
 rcases V with e|e|⟨b,m,z,x,e,h1,h2⟩
 ·exact .inl e
 ·exact .inr (.inl e)
 ·exact .inr (.inr ⟨b,m,z,x,e,h1,h.cl h2 (hb b m z x e)⟩)
theorem Keep.back (h:Keep p s t):Keep p s (back s t):=⟨h.nx,rfl,h.get⟩
theorem Keep.bare (h:Keep p s.bare t)(u:St):Keep p s (Go.Ev.back s t):=⟨h.nx,rfl,h.get⟩
end
end Go.Sy
end
noncomputable section
set_option maxRecDepth 100000
namespace Go.Sy
open Go.Ev Go.Proofs
def z3:XC:=(I2 [IY 2 0,IY 3 1,IA 4] [Im 9 9 [],ow 10 (IB 9)] 10 [IA 4] (oQ [Ig 11 2 2,Im 12 10 [11],oy 13 12,oS 14 13 (.ldA 2 3),I6 15 (oR 13) 10 [] [14],Iu 16 13 oZ 15] (Ii 16 [oz 4 oZ]) (Iw [Ig 18 2 2,Im 19 11 [18],oy 17 19,o0 20 17 0,o0 21 17 1,oz 5 20,oz 6 21] (.seq (.dops [Ir (ID (Ig 22 2 2) 2 24 []),Ir (ID (Ig 23 2 3) 3 24 []),(o7 (Im 24 12 [22,23]) none 0 [],some [I4 24,ID (Ig 25 2 2) 2 24 [(0,0)],ID (Ig 26 2 3) 3 24 [(1,0)],I4 27,oV (oz 28 o6) 0]),Ir (ID (Ig 25 2 2) 2 24 [(0,0)]),Ir (ID (Ig 26 2 3) 3 24 [(1,0)]),(o7 (Im 27 13 [25,26]) none 0 [],some []),IO (ow 28 (.gen .neq 4 false 24 27))]) (Ii 28 [IA 4])) (oQ [oy 29 6,ow 30 (oI .neq 29 0)] (Ii 30 [oy 31 5,ol 32 (IZ .eql 31 []),oy 33 32,Ib 34 33 (.ldA 2 2),I6 35 (Ia 33) 14 [] [34],Ib 36 33 (IB 35),IX 37 33 36,oz 4 37]) (ou [oy 39 5,Im 40 15 [39],oy 38 40,o0 41 38 0,o0 42 38 1,I3 7 [Iy 0,.nils],IV 2 7 41,oz 8 42] (oU [oy 43 8,o9 44 .eql 43 0,oy 45 44,Ib 46 45 (.ldA 2 7),Ib 47 45 (.ldA 2 2),I6 48 (Ia 45) 12 [] [46,47],IX 49 45 48,oz 4 49]))))))
def y3:XF:=⟨[0,1],z3,[(.t 4)]⟩
theorem x3:jG δ 3=some y3:=by kernel_rfl
def z4:XC:=(I2 [IY 3 0,IA 6] [Im 17 9 [],ow 18 (IB 17)] 18 [IA 6] (oQ [Ig 19 2 3,Im 20 10 [19],oy 21 20,Ip 22 21 1,oS 23 21 (.len 22),oS 24 21 (oI .gtr 23 50),oX 25 21 oZ 24,oy 26 25,Ip 27 26 2,oS 28 26 (.len 27),oS 29 26 (oI .gtr 28 100),Iu 30 26 oZ 29] (Ii 30 [oz 6 oZ]) (.seq (.dops [IO (Ik 31 0 3),Ir (ID (o4 32 31) 31 3 []),IO (IH 33 0 1 [.nils] []),IO (Ik 34 1 3),Ir (ID (o4 35 34) 34 22 []),Ir (o7 (ol 36 (.app 1 24 33 35)) none 0 [(3,3)]),Ir (o5 37 1 0),IO (IH 38 1 1 [.nils] [((0,1),37)]),Ir (o7 (ol 39 (.app 1 24 36 38)) none 0 [(6,3)]),IO (IP 40 [Iy 0,.nils] [((0,1),32),((1,1),39)]),IO (I3 7 [Iy 0,.nils]),Ir (o7 (IV 2 7 40) none 0 [])]) (.seq (.dops [IO (Ik 41 0 3),Ir (ID (o4 42 41) 41 3 []),IO (IH 43 0 1 [.nils] []),IO (Ik 44 1 3),Ir (ID (o4 45 44) 44 22 []),Ir (o7 (ol 46 (.app 1 24 43 45)) none 0 [(3,3)]),IO (IH 47 1 1 [.nils] [((0,1),.c .nils)]),Ir (o7 (ol 48 (.app 1 24 46 47)) none 0 [(5,3)]),IO (IP 49 [Iy 0,.nils] [((0,1),42),((1,1),48)]),IO (I3 8 [Iy 0,.nils]),Ir (o7 (IV 2 8 49) none 0 [])]) (IW [Ig 51 2 3,oy 52 2,Im 53 16 [51,52],oy 50 53,o0 54 50 0,o0 55 50 1,oz 9 54,oz 10 55] [Ig 57 2 7,oy 58 2,Im 59 16 [57,58],oy 56 59,o0 60 56 0,o0 61 56 1,oz 11 60,oz 12 61] (IW [Ig 63 2 8,oy 64 2,Im 65 16 [63,64],oy 62 65,o0 66 62 0,o0 67 62 1,oz 13 66,oz 14 67] [Ik 69 0 3,o4 70 69,IP 71 [Iy 0,.nils] [((0,1),70)],oy 72 2,Im 73 16 [71,72],oy 68 73,o0 74 68 0,o0 75 68 1,oz 15 74,oz 16 75] (oU [oy 76 10,o9 77 .neq 76 0,oy 78 77,Ip 79 78 16,oS 80 78 (oI .eql 79 0),Ip 81 78 80,Ic 82 81 15,oS 83 78 (.pick 81 82 oG),Ip 84 78 83,Ic 85 84 14,Ib 86 84 (oI .eql 85 0),oS 87 78 (.pick 84 86 oG),Ip 88 78 87,Ic 89 88 13,Ib 90 88 (IB 89),oS 91 78 (.pick 88 90 oG),oX 92 78 oZ 91,oy 93 92,Ic 94 93 12,Ib 95 93 (oI .neq 94 0),Ic 96 93 95,Ip 97 96 10,oS 98 96 (oI .eql 97 0),Ip 99 96 98,Ic 100 99 11,Ib 101 99 (IB 100),Ic 102 99 101,Ip 103 102 9,Ib 104 99 (.pick 102 oZ 103),oS 105 96 (.pick 99 104 oG),Ib 106 93 (.pick 96 oZ 105),IX 107 93 106,oz 6 107])))))))
def y4:XF:=⟨[0,1,2],z4,[(.t 6)]⟩
theorem x4:jG δ 4=some y4:=by kernel_rfl
def z5:XC:=(IW [IA 0] [IP 8 [Iy 0,.nils] [((0,1),oF 1)],Im 9 16 [8,.c .nils],oy 7 9,o0 10 7 0,o0 11 7 1,oy 1 10,oz 2 11] (IW [IP 13 [Iy 0,.nils] [((0,1),oF (-(0+1)))],Im 14 11 [13],oy 12 14,o0 15 12 0,o0 16 12 1,oy 3 15,oz 4 16] [Im 18 15 [Id []],oy 17 18,o0 19 17 0,o0 20 17 1,ol 5 (.alloc [Iy 0,.nils]),IV 2 5 19,oz 6 20] (oU [Im 21 9 [],oy 22 21,IX 23 22 oZ,oy 24 23,IX 25 24 oZ,oy 26 25,IX 27 26 oZ,oy 28 27,IX 29 28 oZ,oy 30 29,Ic 31 30 2,Ib 32 30 (oI .eql 31 21),IX 33 30 32,oy 34 33,Ic 35 34 4,Ib 36 34 (oI .eql 35 21),IX 37 34 36,oy 38 37,Ic 39 38 6,Ib 40 38 (oI .eql 39 22),IX 41 38 40,oz 0 41])))
def y5:XF:=⟨[],z5,[(.t 0)]⟩
theorem x5:jG δ 5=some y5:=by kernel_rfl
def z6:XC:=(I2 [IA 2] [Im 11 9 [],ow 12 (IB 11)] 12 [IA 2] (oQ [IM 13,I7 14 13,ow 15 (oI .gtr 14 3000)] (Ii 15 [oz 2 oZ]) (I2 [IM 17,Im 18 15 [17],oy 16 18,o0 19 16 0,o0 20 16 1,I3 3 [Iy 0,.nils],IV 2 3 19,oz 4 20] [oy 21 4,ow 22 (oI .neq 21 0)] 22 [Ik 23 1 3,o4 24 23,I1 25 24,o9 26 .eql 25 0,oz 2 26] (ou [Ig 28 2 3,Im 29 11 [28],oy 27 29,o0 30 27 0,o0 31 27 1,oz 5 30,oz 6 31] (IW [oy 33 5,Im 34 15 [33],oy 32 34,o0 35 32 0,o0 36 32 1,I3 7 [Iy 0,.nils],IV 2 7 35,oz 8 36] [Ig 38 2 7,Im 39 11 [38],oy 37 39,o0 40 37 0,o0 41 37 1,oz 9 40,oz 10 41] (oU [oy 42 6,o9 43 .eql 42 0,oy 44 43,Ic 45 44 8,Ib 46 44 (oI .eql 45 0),IX 47 44 46,oy 48 47,Ic 49 48 10,Ib 50 48 (oI .eql 49 0),IX 51 48 50,oy 52 51,Ic 53 52 5,Ic 54 52 9,Ib 55 52 (.strb .eql 53 54),IX 56 52 55,oy 57 56,Ib 58 57 (.ldA 2 3),Ib 59 57 (.ldA 2 7),I6 60 (Ia 57) 12 [] [58,59],IX 61 57 60,oy 62 61,Ib 63 62 (.ldA 2 3),I6 64 (Ia 62) 14 [] [63],IX 65 62 64,oz 2 65]))))))
def y6:XF:=⟨[0],z6,[(.t 2)]⟩
theorem x6:jG δ 6=some y6:=by kernel_rfl
def z7:XC:=(I2 [IA 2] [Im 7 9 [],ow 8 (IB 7)] 8 [IA 2] (oQ [IM 9,I7 10 9,ow 11 (oI .gtr 10 3000)] (Ii 11 [oz 2 oZ]) (IW [IM 13,Im 14 15 [13],oy 12 14,o0 15 12 0,o0 16 12 1,I3 3 [Iy 0,.nils],IV 2 3 15,oz 4 16] [IM 18,Im 19 17 [18],oy 17 19,o0 20 17 0,o0 21 17 1,I3 5 [Iy 0,.nils],IV 2 5 20,oz 6 21] (oU [Ig 22 2 3,Ig 23 2 5,Im 24 13 [22,23],oy 25 24,Ic 26 25 4,Ic 27 25 6,Ib 28 25 (.bin .eql 26 27),IX 29 25 28,oz 2 29]))))
def y7:XF:=⟨[0],z7,[(.t 2)]⟩
theorem x7:jG δ 7=some y7:=by kernel_rfl
def z8:XC:=(I2 [IY 2 0,IA 4] [Im 15 9 [],ow 16 (IB 15)] 16 [IA 4] (oQ [Ig 17 2 2,Im 18 10 [17],oy 19 18,Ip 20 19 1,oS 21 19 (.len 20),oS 22 19 (oI .gtr 21 200),Iu 23 19 oZ 22] (Ii 23 [oz 4 oZ]) (IW [Ig 25 2 2,oy 26 1,Im 27 18 [25,26],oy 24 27,o0 28 24 0,o0 29 24 1,oz 5 28,oz 6 29] [Ig 31 2 2,oy 32 1,Im 33 19 [31,32],oy 30 33,o0 34 30 0,o0 35 30 1,oz 7 34,oz 8 35] (IW [Ig 37 2 2,oy 38 1,Im 39 16 [37,38],oy 36 39,o0 40 36 0,o0 41 36 1,oz 9 40,oz 10 41] [Ig 43 2 2,Im 44 11 [43],oy 42 44,o0 45 42 0,o0 46 42 1,oz 11 45,oz 12 46] (Iw [Ig 48 2 2,Im 49 20 [48],oy 47 49,o0 50 47 0,o0 51 47 1,oz 13 50,oz 14 51] (.dops [Ir (ID (Ig 52 2 2) 2 24 []),(o7 (Im 53 14 [52]) none 0 [],some [I4 53,ID (Ig 54 2 2) 2 24 [(0,0)],I4 55,I4 56,I4 57,I4 58,I4 59,I4 60,I4 61,I4 62,I4 63,I4 64,I4 65,I4 66,I4 67,I4 68,I4 69,I4 70,I4 71,I4 72,I4 73,I4 74,I4 75,I4 76,I4 77,I4 78,I4 79,I4 80,I4 81,I4 82,I4 83,I4 84,I4 85,I4 86,I4 87,I4 88,I4 89,I4 90,I4 91,oV (oz 4 o6) 0]),Ir (ID (Ig 54 2 2) 2 24 [(0,0)]),(o7 (Im 55 21 [54]) none 0 [],some []),IO (ol 56 (.gen .eql 4 false 53 55)),Ir (o5 57 56 0),IO (Ic 58 57 5),IO (Ic 59 57 7),IO (Ib 60 57 (.bin .eql 58 59)),IO (IX 61 57 60),Ir (o5 62 61 0),IO (Ic 63 62 6),IO (Ic 64 62 8),IO (Ib 65 62 (.bin .eql 63 64)),IO (IX 66 62 65),Ir (o5 67 66 0),IO (Ic 68 67 10),IO (Ic 69 67 6),IO (Ib 70 67 (.bin .eql 68 69)),IO (IX 71 67 70),Ir (o5 72 71 0),IO (Ic 73 72 9),IO (Ic 74 72 8),IO (Ib 75 72 (oI .eql 74 0)),IO (Ic 76 72 75),IO (Ic 77 76 7),IO (Ib 78 76 (oI .lss 77 0)),IO (Ib 79 72 (.pick 76 78 oG)),IO (Ib 80 72 (.gen .eql 4 false 73 79)),IO (IX 81 72 80),Ir (o5 82 81 0),IO (Ic 83 82 11),IO (Ic 84 82 13),IO (Ib 85 82 (.strb .eql 83 84)),IO (IX 86 82 85),Ir (o5 87 86 0),IO (Ic 88 87 12),IO (Ic 89 87 14),IO (Ib 90 87 (.bin .eql 88 89)),IO (IX 91 87 90),IO (oz 4 91)]) .ret)))))
def y8:XF:=⟨[0,1],z8,[(.t 4)]⟩
theorem x8:jG δ 8=some y8:=by kernel_rfl
def z9:XC:=(ou [IA 0] (IW [Im 10 15 [Id [112,32,99,110,102,32,50,32,49,10,49,32,45,50,32,48,10]],oy 9 10,o0 11 9 0,o0 12 9 1,I3 1 [Iy 0,.nils],IV 2 1 11,oz 2 12] [Ig 14 2 1,Im 15 11 [14],oy 13 15,o0 16 13 0,o0 17 13 1,oz 3 16,oz 4 17] (IW [Ig 19 2 1,IH 20 2 1 [.bool false] [((0,1),oG),((1,1),oZ)],Im 21 16 [19,20],oy 18 21,o0 22 18 0,o0 23 18 1,oz 5 22,oz 6 23] [Ig 25 2 1,IH 26 2 1 [.bool false] [((0,1),oG),((1,1),oG)],Im 27 16 [25,26],oy 24 27,o0 28 24 0,o0 29 24 1,oz 7 28,oz 8 29] (oU [oy 30 2,o9 31 .eql 30 0,oy 32 31,Ic 33 32 4,Ib 34 32 (oI .eql 33 0),IX 35 32 34,oy 36 35,Ic 37 36 6,Ib 38 36 (oI .eql 37 0),IX 39 36 38,oy 40 39,Ic 41 40 8,Ib 42 40 (oI .eql 41 0),IX 43 40 42,oy 44 43,Ic 45 44 5,Ib 46 44 (IB 45),IX 47 44 46,oy 48 47,Ic 49 48 7,IX 50 48 49,oy 51 50,Ic 52 51 3,Ib 53 51 (IZ .eql 52 [112,32,99,110,102,32,50,32,49,10,49,32,45,50,32,48,10]),IX 54 51 53,oz 0 54]))))
def y9:XF:=⟨[],z9,[(.t 0)]⟩
theorem x9:jG δ 9=some y9:=by kernel_rfl
def z10:XC:=(I2 [IY 1 0,IA 2] [Ik 5 1 1,o4 6 5,I1 7 6,ow 8 (oI .gtr 7 100)] 8 [oz 2 oZ] (oQ [Ik 9 1 1,ow 10 (.ld1 9),IU 11 10,Oa 12] (Ie 0 (Iw [I8 13 12 11] (IR 13 0) (II 1 (IW [Il 14 1 10 12,o4 15 14,oz 4 15] [oy 16 4,I1 17 16,ow 18 (oI .gtr 17 50)] (Ii 18 [oz 2 oZ])) [IQ 19 12 1,oz 12 19]))) (oU [IA 2])))
def y10:XF:=⟨[0],z10,[(.t 2)]⟩
theorem x10:jG δ 10=some y10:=by kernel_rfl
def z12:XC:=(ou [IY 2 0,IY 3 1,IA 4] (oU [Ik 5 0 2,o4 6 5,Ik 7 0 3,o4 8 7,ol 9 (.bin .eql 6 8),oy 10 9,Ib 11 10 (.fad 1 2),Ib 12 10 (.ld1 11),Ib 13 10 (.fad 1 3),Ib 14 10 (.ld1 13),I6 15 (Ia 10) 25 [] [12,14,oK 26 []],IX 16 10 15,oz 4 16]))
def y12:XF:=⟨[0,1],z12,[(.t 4)]⟩
theorem x12:jG δ 12=some y12:=by kernel_rfl
def z13:XC:=(I2 [IY 2 0,IY 3 1,IA 4] [Ik 6 0 2,o4 7 6,Ik 8 0 3,o4 9 8,ol 10 (.bin .neq 7 9),oy 11 10,I9 12 11 1 2,IK 13 11 12,oS 14 11 (.len 13),I9 15 11 1 3,IK 16 11 15,oS 17 11 (.len 16),oS 18 11 (.bin .neq 14 17),Iu 19 11 oZ 18] 19 [IA 4] (oQ [Ik 20 1 2,o4 21 20,IU 22 21,Oa 23] (Ie 0 (Iw [I8 24 23 22] (IR 24 0) (II 1 (Iw [oy 25 23,oz 5 25] (.cops [I5 (Ik 26 1 2),I5 (o4 27 26),I5 (oy 28 5),I5 (Il 29 1 27 28),I5 (o4 30 29),I5 (Ik 31 1 3),I5 (o4 32 31),I5 (oy 33 5),I5 (Il 34 1 32 33),I5 (o4 35 34),(Im 36 28 [30,35],some []),I5 (ow 37 (IB 36))]) (Ii 37 [IA 4])) [IQ 38 23 1,oz 23 38]))) (oU [oz 4 oZ])))
def y13:XF:=⟨[0,1],z13,[(.t 4)]⟩
theorem x13:jG δ 13=some y13:=by kernel_rfl
def z14:XC:=(I2 [IY 1 0,IA 2] [Ik 6 0 1,o4 7 6,o9 8 .lss 7 0,oy 9 8,I9 10 9 0 1,IK 11 9 10,oS 12 9 (oI .gtr 11 262144),oX 13 9 oZ 12,oy 14 13,I9 15 14 1 1,IK 16 14 15,oS 17 14 (.len 16),oS 18 14 (oI .gtr 17 1048576),Iu 19 14 oZ 18] 19 [IA 2] (Iq [Oa 3] [Ik 20 1 1,ow 21 (.ld1 20),IU 22 21,Oa 23] (Ie 0 (Iw [I8 24 23 22] (IR 24 0) (II 1 (ou [Il 25 1 21 23,o4 26 25,oz 5 26] (IW [oy 27 3,oy 28 5,I1 29 28,ol 30 (.bin .add 27 29),oz 3 30] [oy 31 3,o9 32 .gtr 31 4194304,oy 33 32,Ip 34 33 5,oS 35 33 (.fn 30 [1]),I6 36 (oR 33) 29 [] [34,35],Iu 37 33 oZ 36] (Ii 37 [IA 2]))) [IQ 38 23 1,oz 23 38]))) (oU [oz 2 oZ])))
def y14:XF:=⟨[0],z14,[(.t 2)]⟩
theorem x14:jG δ 14=some y14:=by kernel_rfl
def jba:XC:=(ou [oy 30 4,Il 31 1 30 (oF 2),o4 32 31,Im 33 34 [32],Ik 34 0 2,IV 1 34 33] (IW [oy 35 4,Il 36 1 35 (oF 3),o4 37 36,Im 38 34 [37],oz 5 38] [oz 6 (.c .nils)] (Iq [oz 7 oZ] [oy 39 4,ow 40 (.slS 1 39 (some (oF 4)) none),IU 41 40,Oa 42] (Ie 0 (Iw [I8 43 42 41] (IR 43 0) (II 1 (ou [Il 44 1 40 42,o4 45 44,oz 9 45] (Iq [oy 46 9,Im 47 34 [46],oz 10 47] [oy 48 10,o9 49 .eql 48 0,oz 7 49] (ou [oz 50 7] (oL 50 (IW [Ik 51 1 2,o4 52 51,oy 53 6,IH 54 1 1 [.nils] [((0,1),53)],ol 55 (.app 1 24 52 54),Ik 56 1 2,IV 1 56 55] [oz 6 (.c .nils)] (.exit 1)))) (oQ [oy 57 10,o9 58 .gtr 57 262144,oy 59 58,Ip 60 59 10,oS 61 59 (oI .lss 60 (-(262143+1))),Iu 62 59 oZ 61] (oL 62 (.ops [IP 63 [] [],ol 64 (.iface 65 63),IG (.pan 64)])) (.ops [oy 65 6,oy 66 10,ol 67 (.cvt .i32 66),IH 68 1 1 [.int .i32 0] [((0,1),67)],ol 69 (.app 1 4 65 68),oz 6 69])))) [IQ 70 42 1,oz 42 70]))) (oQ [oy 71 7,ol 72 (IB 71),oy 73 72,I9 74 73 1 2,IK 75 73 74,oS 76 73 (.len 75),Ip 77 73 5,oS 78 73 (.bin .neq 76 77),oX 79 73 oZ 78,oy 80 79,oS 81 80 (.ldA 2 2),I6 82 (oR 80) 14 [] [81],oS 83 80 (IB 82),Iu 84 80 oZ 83] (oL 84 (.ops [IP 85 [] [],ol 86 (.iface 65 85),IG (.pan 86)])) (oU [Ig 87 2 2,IV 2 2 87,IV 1 3 (oF 0)])))))
def z15:XC:=(IW [I3 2 [Iy 0,.nils],I3 3 [Iy 0]] [ol 11 (.fn 32 [2,3]),IG (.defer 11 [])] (Iw [IM 12,Im 13 33 [12],oz 4 13] (.seq (.cops [I5 (oy 14 4),I5 (I1 15 14),I5 (o9 16 .lss 15 4),I5 (oy 17 16),I5 (Ip 18 17 4),I5 (oS 19 17 (.idxS 1 18 (oF 0))),I5 (IK 20 17 19),I5 (oS 21 17 (IZ .add 20 [32])),I5 (Ip 22 17 4),I5 (oS 23 17 (.idxS 1 22 (oF 1))),I5 (IK 24 17 23),I5 (oS 25 17 (.strb .add 21 24)),I5 (oS 26 17 (IZ .neq 25 [112,32,99,110,102])),I5 (Iu 27 17 oZ 26)]) (oL 27 (.ops [IP 28 [] [],ol 29 (.iface 65 28),IG (.pan 29)]))) jba))
def y15:XF:=⟨[0],z15,[(.cA 2 2),(.c1 3)]⟩
theorem x15:jG δ 15=some y15:=by kernel_rfl
def z16:XC:=(IW [IY 2 0,IA 4,Oa 5] [Ig 9 2 2,oy 10 1,Im 11 18 [9,10],oy 8 11,o0 12 8 0,o0 13 8 1,oz 6 12,oz 7 13] (oU [oy 14 7,o9 15 .eql 14 0,oy 16 15,Ic 17 16 6,Ib 18 16 (oI .lss 17 0),IX 19 16 18,oy 20 7,oz 4 19,oz 5 20]))
def y16:XF:=⟨[0,1],z16,[(.t 4),(.t 5)]⟩
theorem x16:jG δ 16=some y16:=by kernel_rfl
def gH:XC:=(IW [IP 30 [Iy 0,.nils] [],I3 5 [Iy 0,.nils],IV 2 5 30] [Oa 6] (Iq [IH 31 0 1 [.int .i32 0] [],oz 7 31] [oy 32 4,ow 33 (.slS 1 32 (some (oF 2)) none),IU 34 33,Oa 35] (Ie 0 (Iw [I8 36 35 34] (IR 36 0) (II 1 (ou [oy 37 35,Il 38 1 33 35,o4 39 38,oz 8 37,oz 9 39] (I2 [oy 41 9,Im 42 36 [41],oy 40 42,o0 43 40 0,o0 44 40 1,oz 10 43,oz 11 44] [oy 45 11,ol 46 (IB 45),oy 47 46,Ip 48 47 8,oS 49 47 (oI .gtr 48 1),Ip 50 47 49,Ic 51 50 10,Ib 52 50 (oI .gtr 51 262144),Ic 53 50 52,Ip 54 53 10,oS 55 53 (oI .lss 54 (-(262143+1))),Ib 56 50 (.pick 53 oZ 55),oS 57 47 (.pick 50 56 oG),Iu 58 47 oZ 57] 58 [IP 59 [Iy 0,.nils] [],IV 2 2 59,o8 3 22] (.block 2 (ou [oy 66 8,o9 67 .eql 66 0,oz 65 67] (.cond 65 (.ops [oy 68 10,Ik 69 0 5,IV 1 69 68]) (ou [oy 71 8,o9 72 .eql 71 1,oz 70 72] (.cond 70 (.ops [oy 73 10,oz 6 73]) (ou [oy 75 10,o9 76 .eql 75 0,oz 74 76] (.cond 74 (ou [Ik 77 1 5,o4 78 77,oy 79 7,IH 80 1 1 [.nils] [((0,1),79)],ol 81 (.app 1 24 78 80),Ik 82 1 5,IV 1 82 81] (.ops [IH 83 0 1 [.int .i32 0] [],oz 7 83])) (.ops [oy 60 7,oy 61 10,ol 62 (.cvt .i32 61),IH 63 1 1 [.int .i32 0] [((0,1),62)],ol 64 (.app 1 4 60 63),oz 7 64])))))))))) [IQ 84 35 1,oz 35 84]))) (oQ [oy 85 7,I1 86 85,o9 87 .gtr 86 0,oy 88 87,I9 89 88 1 5,IK 90 88 89,oS 91 88 (.len 90),Ip 92 88 6,oS 93 88 (.bin .neq 91 92),oX 94 88 oZ 93,oy 95 94,oS 96 95 (.ldA 2 5),I6 97 (oR 95) 21 [] [96],oS 98 95 (IB 97),Iu 99 95 oZ 98] (Ii 99 [IP 100 [Iy 0,.nils] [],IV 2 2 100,o8 3 22]) (oU [Ig 101 2 5,IV 2 2 101,Oa 3]))))
def z17:XC:=(ou [I3 2 [Iy 0,.nils],Oa 3] (I2 [IM 12,Im 13 35 [12],oz 4 13] [oy 14 4,I1 15 14,o9 16 .lss 15 4,oy 17 16,Ip 18 17 4,oS 19 17 (.idxS 1 18 (oF 0)),IK 20 17 19,oS 21 17 (IZ .neq 20 [112]),oX 22 17 oZ 21,oy 23 22,Ip 24 23 4,oS 25 23 (.idxS 1 24 (oF 1)),IK 26 23 25,oS 27 23 (IZ .neq 26 [99,110,102]),Iu 28 23 oZ 27] 28 [IP 29 [Iy 0,.nils] [],IV 2 2 29,o8 3 22] gH))
def y17:XF:=⟨[0],z17,[(.cA 2 2),(.t 3)]⟩
theorem x17:jG δ 17=some y17:=by kernel_rfl
def z18:XC:=(I2 [IY 2 0,IY 3 1,Oa 4,Oa 5] [Ig 6 2 2,Im 7 14 [6],ol 8 (IB 7),oy 9 8,IK 10 9 3,oS 11 9 (.len 10),I9 12 9 0 2,IK 13 9 12,oS 14 9 (.bin .neq 11 13),Iu 15 9 oZ 14] 15 [Oa 4,o8 5 21] (oU [Ik 16 1 2,o4 17 16,ol 18 (.fn 38 [3]),Im 19 37 [17,18],oz 4 19,Oa 5]))
def y18:XF:=⟨[0,1],z18,[(.t 4),(.t 5)]⟩
theorem x18:jG δ 18=some y18:=by kernel_rfl
def z19:XC:=(I2 [IY 2 0,Oa 4,Oa 5] [Ig 11 2 2,Im 12 21 [11],ol 13 (IB 12),oy 14 13,Ip 15 14 1,oS 16 14 (.len 15),I9 17 14 0 2,IK 18 14 17,oS 19 14 (.bin .neq 16 18),Iu 20 14 oZ 19] 20 [Oa 4,o8 5 21] (oQ [Ik 21 1 2,ow 22 (.ld1 21),IU 23 22,Oa 24] (Ie 0 (Iw [I8 25 24 23] (IR 25 0) (II 1 (ou [oy 26 24,Il 27 1 22 24,o4 28 27,oz 6 26,oz 7 28] (Iq [IA 8] [oz 29 7,IU 30 29,Oa 31] (Ie 2 (Iw [I8 32 31 30] (IR 32 2) (II 3 (ou [Il 33 1 29 31,o4 34 33,oz 10 34] (.ops [oy 35 8,oy 36 35,Ip 37 36 10,Ip 38 36 1,I6 39 (oR 36) 41 [] [37,38],oX 40 36 oZ 39,oz 8 40])) [IQ 41 31 1,oz 31 41]))) (ou [oy 42 8,ow 43 (IB 42)] (Ii 43 [oy 44 6,oz 4 44,Oa 5])))) [IQ 45 24 1,oz 24 45]))) (oU [o8 4 (-(0+1)),Oa 5])))
def y19:XF:=⟨[0,1],z19,[(.t 4),(.t 5)]⟩
theorem x19:jG δ 19=some y19:=by kernel_rfl
def z20:XC:=(I2 [IY 1 0,oz 2 (Id []),Oa 3] [Ig 9 2 1,Im 10 21 [9],ow 11 (IB 10)] 11 [oz 2 (Id []),o8 3 21] (.seq (.dops [IO (Ik 12 0 1),Ir (ID (o4 13 12) 12 3 []),(o7 (Im 14 42 [13]) none 0 [],some [I4 14,I4 15,I4 16,oV (Ik 17 1 1) 0,ID (o4 18 17) 17 22 [(3,0)],oV (I1 19 18) 0,I4 20,I4 21,I4 22,oV (oz 4 o6) 0]),IO (ol 15 (.strb .add (Id [112,32,99,110,102,32]) 14)),IO (ol 16 (IZ .add 15 [32])),IO (Ik 17 1 1),Ir (ID (o4 18 17) 17 22 [(3,0)]),IO (I1 19 18),(o7 (Im 20 42 [19]) none 0 [],some []),IO (ol 21 (.strb .add 16 20)),IO (ol 22 (IZ .add 21 [10])),IO (oz 4 22)]) (oQ [Ik 23 1 1,ow 24 (.ld1 23),IU 25 24,Oa 26] (Ie 0 (Iw [I8 27 26 25] (IR 27 0) (II 1 (Iq [Il 28 1 24 26,o4 29 28,oz 6 29] [oz 30 6,IU 31 30,Oa 32] (Ie 2 (Iw [I8 33 32 31] (IR 33 2) (II 3 (ou [Il 34 1 30 32,o4 35 34,oz 8 35] (.ops [oy 36 4,oy 37 8,ol 38 (.cvt .i64 37),Im 39 42 [38],ol 40 (IZ .add 39 [32]),ol 41 (.strb .add 36 40),oz 4 41])) [IQ 42 32 1,oz 32 42]))) (.ops [oy 43 4,ol 44 (IZ .add 43 [48,10]),oz 4 44])) [IQ 45 26 1,oz 26 45]))) (oU [oy 46 4,oz 2 46,Oa 3]))))
def y20:XF:=⟨[0],z20,[(.t 2),(.t 3)]⟩
theorem x20:jG δ 20=some y20:=by kernel_rfl
def z21:XC:=(I2 [IY 1 0,IA 2] [Ik 8 0 1,o4 9 8,o9 10 .lss 9 0,oy 11 10,I9 12 11 0 1,IK 13 11 12,oS 14 11 (oI .gtr 13 262144),oX 15 11 oZ 14,oy 16 15,I9 17 16 1 1,IK 18 16 17,oS 19 16 (.len 18),oS 20 16 (oI .gtr 19 1048576),Iu 21 16 oZ 20] 21 [IA 2] (Iq [Oa 3] [Ik 22 1 1,ow 23 (.ld1 22),IU 24 23,Oa 25] (Ie 0 (Iw [I8 26 25 24] (IR 26 0) (II 1 (ou [Il 27 1 23 25,o4 28 27,oz 5 28] (IW [oy 29 3,oy 30 5,I1 31 30,ol 32 (.bin .add 29 31),oz 3 32] [oz 33 5,IU 34 33,Oa 35] (Ie 2 (Iw [I8 36 35 34] (IR 36 2) (II 3 (Iw [Il 37 1 33 35,o4 38 37,oz 7 38] (.dops [Ir (o5 39 7 0),(o7 (Im 40 43 [39]) none 0 [],some []),IO (ol 41 (IB 40)),Ir (o5 42 41 0),IO (Ip 43 42 7),(o7 (I6 44 (oR 42) 44 [] [43]) none 0 [],some [I4 44,oV (I9 45 42 0 1) 0,ID (IK 46 42 45) 45 3 [(1,0)],I4 47,oV (oz 48 o6) 0]),IO (I9 45 42 0 1),Ir (ID (IK 46 42 45) 45 3 [(1,0)]),IO (oS 47 42 (.bin .gtr 44 46)),IO (Iu 48 42 oZ 47)]) (Ii 48 [IA 2])) [IQ 49 35 1,oz 35 49]))))) [IQ 50 25 1,oz 25 50]))) (oU [oy 51 3,o9 52 .leq 51 4194304,oz 2 52])))
def y21:XF:=⟨[0],z21,[(.t 2)]⟩
theorem x21:jG δ 21=some y21:=by kernel_rfl
def z25:XC:=(I2 [IA 6] [IM 10,I1 11 10,oy 12 1,I1 13 12,Iv 14 .neq 11 13] 14 [IA 6] (oQ [oz 15 0,IU 16 15,Oa 17] (Ie 0 (Iw [I8 18 17 16] (IR 18 0) (II 1 (ou [oy 19 17,Il 20 1 15 17,o4 21 20,oz 7 19,oz 8 21] (IW [oy 22 1,oy 23 7,Il 24 1 22 23,o4 25 24,oz 9 25] [oy 26 2,oy 27 8,oy 28 9,oM 29 none 26 [27,28],ow 30 (IB 29)] (Ii 30 [IA 6]))) [IQ 31 17 1,oz 17 31]))) (oU [oz 6 oZ])))
def y25:XF:=⟨[0,1,2],z25,[(.t 6)]⟩
theorem x25:jG δ 25=some y25:=by kernel_rfl
def z26:XC:=(ou [IA 4] (oU [IM 5,oy 6 1,Im 7 27 [5,6],oz 4 7]))
def y26:XF:=⟨[0,1],z26,[(.t 4)]⟩
theorem x26:jG δ 26=some y26:=by kernel_rfl
def z27:XC:=(I2 [IA 4] [IM 6,I1 7 6,oy 8 1,I1 9 8,Iv 10 .neq 7 9] 10 [IA 4] (oQ [IM 11,IU 12 11,Oa 13] (Ie 0 (Iw [I8 14 13 12] (IR 14 0) (II 1 (Iw [oy 15 13,oz 5 15] (.cops [I5 (IM 16),I5 (oy 17 5),I5 (Il 18 1 16 17),I5 (o4 19 18),I5 (oy 20 1),I5 (oy 21 5),I5 (Il 22 1 20 21),I5 (o4 23 22),I5 (Iv 24 .neq 19 23)]) (Ii 24 [IA 4])) [IQ 25 13 1,oz 13 25]))) (oU [oz 4 oZ])))
def y27:XF:=⟨[0,1],z27,[(.t 4)]⟩
theorem x27:jG δ 27=some y27:=by kernel_rfl
def z28:XC:=(I2 [IA 4] [IM 6,I1 7 6,oy 8 1,I1 9 8,Iv 10 .neq 7 9] 10 [IA 4] (oQ [IM 11,IU 12 11,Oa 13] (Ie 0 (Iw [I8 14 13 12] (IR 14 0) (II 1 (Iw [oy 15 13,oz 5 15] (.cops [I5 (IM 16),I5 (oy 17 5),I5 (Il 18 1 16 17),I5 (o4 19 18),I5 (oy 20 1),I5 (oy 21 5),I5 (Il 22 1 20 21),I5 (o4 23 22),I5 (Iv 24 .neq 19 23)]) (Ii 24 [IA 4])) [IQ 25 13 1,oz 13 25]))) (oU [oz 4 oZ])))
def y28:XF:=⟨[0,1],z28,[(.t 4)]⟩
theorem x28:jG δ 28=some y28:=by kernel_rfl
def z29:XC:=(ou [IA 4] (oU [IM 5,oy 6 1,Im 7 47 [5,6],o9 8 .geq 7 0,oz 4 8]))
def y29:XF:=⟨[0,1],z29,[(.t 4)]⟩
theorem x29:jG δ 29=some y29:=by kernel_rfl
def z30:XC:=(Iw [IA 3] (.dops [Ir (o5 4 0 0),(o7 (Im 5 31 [4]) none 0 [],some []),IO (o9 6 .eql 5 0),Ir (o5 7 6 0),IO (Ip 8 7 0),(o7 (I6 9 (oR 7) 31 [] [8]) none 0 [],some [I4 9,oV (I9 10 7 0 1) 0,ID (IK 11 7 10) 10 3 [(1,0)],I4 12,I4 13,oV (oz 3 o6) 0]),IO (I9 10 7 0 1),Ir (ID (IK 11 7 10) 10 3 [(1,0)]),IO (oS 12 7 (.bin .gtr 9 11)),IO (oX 13 7 oZ 12),IO (oz 3 13)]) .ret)
def y30:XF:=⟨[0,1],z30,[(.t 3)]⟩
theorem x30:jG δ 30=some y30:=by kernel_rfl
def z31:XC:=(ou [Oa 2] (Ih 0 (ou [IM 4,Im 5 48 [4],ol 6 (IB 5),oz 3 6] (.cond 3 (oU [Oa 2]) (ou [IM 8,ol 9 (Ix .lss 8 .i32 0),oz 7 9] (Ii 7 [IM 10,ol 11 (.un .neg 10),ol 12 (.cvt .i64 11),oz 2 12])))) (oU [IM 13,ol 14 (.cvt .i64 13),oz 2 14])))
def y31:XF:=⟨[0],z31,[(.t 2)]⟩
theorem x31:jG δ 31=some y31:=by kernel_rfl
def z32:XC:=(IW [ol 5 (.bi .recover #[] []),ol 6 (.assert 5 65),oy 4 6,o0 7 4 0,o0 8 4 1,ol 2 (.alloc []),IV 0 2 7,oz 3 8] [oz 9 3] (oL 9 (.ops [IP 10 [Iy 0,.nils] [],IV 2 0 10,IV 1 1 (oF 22)])))
def z33:XC:=(ou [oz 2 (.c .nils)] (Iq [oz 3 (.c .nils)] [IM 6,oH 7 true none (oK 49 []) [6,Id [10]],IU 8 7,Oa 9] (Ie 0 (Iw [I8 10 9 8] (IR 10 0) (II 1 (Iq [Il 11 1 7 9,o4 12 11,oz 5 12] [oy 13 5,ol 14 (IZ .eql 13 [99]),oy 15 14,Ip 16 15 5,I6 17 (oR 15) 50 [] [16,Id [99,32]],oX 18 15 oZ 17,oy 19 18,Ip 20 19 5,I6 21 (oR 19) 50 [] [20,Id [99,9]],Iu 22 19 oZ 21] (oL 22 (.exit 1)) (.ops [oy 23 3,oy 24 5,Im 25 51 [24,oK 52 []],ol 26 (.app 1 16 23 25),oz 3 26])) [IQ 27 9 1,oz 9 27]))) (oU [oy 28 3,oz 2 28])))
def y33:XF:=⟨[0],z33,[(.t 2)]⟩
theorem x33:jG δ 33=some y33:=by kernel_rfl
def z34:XC:=(ou [Oa 2] (Iq [IM 6,Im 7 53 [6,Id [45]],oz 3 7] [oy 8 3,ol 9 (IZ .eql 8 []),oy 10 9,Ip 11 10 3,oS 12 10 (.lenS 11),oS 13 10 (oI .gtr 12 9),oX 14 10 oZ 13,oy 15 14,Ip 16 15 3,I6 17 (oR 15) 54 [] [16,Id [48,49,50,51,52,53,54,55,56,57]],oS 18 15 (IZ .neq 17 []),Iu 19 15 oZ 18] (oL 19 (.ops [IP 20 [] [],ol 21 (.iface 65 20),IG (.pan 21)])) (ou [IM 23,Im 24 55 [23],oy 22 24,o0 25 22 0,o0 26 22 1,oz 4 25,oy 5 26] (oU [oy 27 4,oz 2 27]))))
def y34:XF:=⟨[0],z34,[(.t 2)]⟩
theorem x34:jG δ 34=some y34:=by kernel_rfl
def Uc:XC:=(Iq [oz 7 (Id [])] [Oa 8] (Ie 2 (oQ [oy 56 8,oy 57 4,I7 58 57,ol 59 (.bin .leq 56 58),oy 60 59,Ic 61 60 6,Ib 62 60 (IB 61),Iu 63 60 62 oG] (IR 63 2) (II 3 (oQ [oy 66 8,oy 67 4,I7 68 67,ol 69 (.bin .lss 66 68),oy 70 69,Ic 71 70 4,Ic 72 70 8,Ib 73 70 (.ixStr 71 72),Ib 74 70 (Ix .neq 73 .u8 32),IX 75 70 74,oy 76 75,Ic 77 76 4,Ic 78 76 8,Ib 79 76 (.ixStr 77 78),Ib 80 76 (Ix .neq 79 .u8 9),Iu 81 76 80 oG] (oL 81 (ou [oy 82 7,oy 83 4,oy 84 8,oy 85 8,IQ 86 85 1,ol 87 (.slStr 83 (some 84) (some 86)),ol 88 (.strb .add 82 87),oz 7 88] (.exit 3))) (oQ [oy 89 7,ow 90 (IZ .neq 89 [])] (oL 90 (.ops [oy 91 3,oy 92 7,IH 93 1 1 [.str []] [((0,1),92)],ol 94 (.app 1 16 91 93),oz 3 94])) (.ops [oz 7 (Id [])]))) [oy 64 8,IQ 65 64 1,oz 8 65]))) (.ops [oz 4 (Id [])]))
def gG:XC:=(ou [oy 33 4,I7 34 33,o9 35 .gtr 34 0,oy 36 35,Ic 37 36 4,Ib 38 36 (.ixStr 37 (oF 0)),Ib 39 36 (Ix .eql 38 .u8 99),IX 40 36 39,oy 41 40,Ic 42 41 4,Ib 43 41 (.lenS 42),Ib 44 41 (oI .eql 43 1),Ic 45 41 44,Ip 46 45 4,oS 47 45 (.ixStr 46 (oF 1)),oS 48 45 (Ix .eql 47 .u8 32),Ib 49 41 (.pick 45 oZ 48),Ic 50 41 49,Ip 51 50 4,oS 52 50 (.ixStr 51 (oF 1)),oS 53 50 (Ix .eql 52 .u8 9),Ib 54 41 (.pick 50 oZ 53),IX 55 41 54,oz 6 55] Uc)
def z35:XC:=(IW [oz 2 (.c .nils)] [IH 9 0 1 [.str []] [],oz 3 9] (Iq [oz 4 (Id [])] [Oa 5] (Ie 0 (oQ [oy 10 5,IM 11,I7 12 11,Iv 13 .leq 10 12] (IR 13 0) (II 1 (oQ [oy 16 5,IM 17,I7 18 17,ol 19 (.bin .lss 16 18),oy 20 19,Ic 21 20 0,Ic 22 20 5,Ib 23 20 (.ixStr 21 22),Ib 24 20 (Ix .neq 23 .u8 10),Iu 25 20 24 oG] (oL 25 (ou [oy 26 4,IM 27,oy 28 5,oy 29 5,IQ 30 29 1,ol 31 (.slStr 27 (some 28) (some 30)),ol 32 (.strb .add 26 31),oz 4 32] (.exit 1))) gG) [oy 14 5,IQ 15 14 1,oz 5 15]))) (oU [oy 95 3,oz 2 95])))
def y35:XF:=⟨[0],z35,[(.t 2)]⟩
theorem x35:jG δ 35=some y35:=by kernel_rfl
def gF:XC:=(oQ [IM 18,I7 19 18,o9 20 .lss 19 1,oy 21 20,Ip 22 21 0,oS 23 21 (.lenS 22),oS 24 21 (oI .gtr 23 9),Iu 25 21 oZ 24] (Ii 25 [Oa 2,IA 3]) (Iq [Oa 5] [Oa 6] (Ie 0 (oQ [oy 26 6,IM 27,I7 28 27,I8 29 26 28] (IR 29 0) (II 1 (oQ [IM 32,oy 33 6,ol 34 (.ixStr 32 33),ol 35 (Ix .lss 34 .u8 48),oy 36 35,Ip 37 36 0,Ip 38 36 6,oS 39 36 (.ixStr 37 38),oS 40 36 (Ix .gtr 39 .u8 57),Iu 41 36 oZ 40] (Ii 41 [Oa 2,IA 3]) (.ops [oy 42 5,ol 43 (.bin .mul (oF 10) 42),IM 44,oy 45 6,ol 46 (.ixStr 44 45),ol 47 (Ix .sub 46 .u8 48),ol 48 (.cvt .i64 47),ol 49 (.bin .add 43 48),oz 5 49])) [oy 30 6,IQ 31 30 1,oz 6 31]))) (oQ [oz 50 4] (oL 50 (.ops [oy 51 5,ol 52 (.un .neg 51),oz 5 52])) (oU [oy 53 5,oz 2 53,oz 3 oZ]))))
def z36:XC:=(ou [Oa 2,IA 3] (Iq [IM 7,I7 8 7,o9 9 .gtr 8 0,oy 10 9,Ic 11 10 0,Ib 12 10 (.ixStr 11 (oF 0)),Ib 13 10 (Ix .eql 12 .u8 45),IX 14 10 13,oz 4 14] [oz 15 4] (oL 15 (.ops [IM 16,ol 17 (.slStr 16 (some (oF 1)) none),oz 0 17])) gF))
def y36:XF:=⟨[0],z36,[(.t 2),(.t 3)]⟩
theorem x36:jG δ 36=some y36:=by kernel_rfl
def z37:XC:=(Iq [Oa 4] [IM 6,IU 7 6,Oa 8] (Ie 0 (Iw [I8 9 8 7] (IR 9 0) (II 1 (IW [oy 10 8,oz 5 10] [oy 11 1,IM 12,oy 13 5,Il 14 1 12 13,o4 15 14,oH 16 true none 11 [15]] (Ii 16 [oy 17 5,oz 4 17])) [IQ 18 8 1,oz 8 18]))) (oU [o8 4 (-(0+1))]))
def y37:XF:=⟨[0,1],z37,[(.t 4)]⟩
theorem x37:jG δ 37=some y37:=by kernel_rfl
def z38:XC:=(ou [IA 3] (oU [IM 4,ol 5 (.fn 39 [1]),Im 6 29 [4,5],ol 7 (IB 6),oz 3 7]))
def y38:XF:=⟨[0,1],z38,[(.t 3)]⟩
theorem x38:jG δ 38=some y38:=by kernel_rfl
def z39:XC:=(ou [IA 3] (oU [IM 4,o4 5 1,Im 6 40 [4,5],oz 3 6]))
def y39:XF:=⟨[0,1],z39,[(.t 3)]⟩
theorem x39:jG δ 39=some y39:=by kernel_rfl
def z40:XC:=(ou [IA 4] (oU [oy 5 1,IM 6,Im 7 31 [6],o9 8 .sub 7 1,Il 9 1 5 8,o4 10 9,IM 11,ol 12 (Ix .gtr 11 .i32 0),ol 13 (.gen .eql 4 false 10 12),oz 4 13]))
def y40:XF:=⟨[0,1],z40,[(.t 4)]⟩
theorem x40:jG δ 40=some y40:=by kernel_rfl
def z41:XC:=(I2 [IA 4] [IM 5,I8 6 5 (oC .i32 0)] 6 [oy 7 1,IM 8,ol 9 (.un .neg 8),ol 10 (Ix .sub 9 .i32 1),Il 11 1 7 10,o4 12 11,ol 13 (IB 12),oz 4 13] (oU [oy 14 1,IM 15,ol 16 (Ix .sub 15 .i32 1),Il 17 1 14 16,o4 18 17,oz 4 18]))
def y41:XF:=⟨[0,1],z41,[(.t 4)]⟩
theorem x41:jG δ 41=some y41:=by kernel_rfl
def z42:XC:=(I2 [oz 2 (Id [])] [IM 3,ow 4 (oI .lss 3 0)] 4 [IM 5,ol 6 (.un .neg 5),Im 7 42 [6],ol 8 (.strb .add (Id [45]) 7),oz 2 8] (oQ [IM 9,ow 10 (oI .lss 9 10)] (Ii 10 [IM 11,IM 12,IQ 13 12 1,ol 14 (.slStr (Id [48,49,50,51,52,53,54,55,56,57]) (some 11) (some 13)),oz 2 14]) (.seq (.cops [I5 (IM 15),I5 (o9 16 .quo 15 10),(Im 17 42 [16],some [I4 17,o5 18 0 0,oV (o9 19 .rem 18 10) 0,o5 20 0 0,oV (o9 21 .rem 20 10) 0,oV (IQ 22 21 1) 0,oV (ol 23 (.slStr (Id [48,49,50,51,52,53,54,55,56,57]) (some 19) (some 22))) 0,I4 24,oV (oz 2 o6) 0]),I5 (IM 18),I5 (o9 19 .rem 18 10),I5 (IM 20),I5 (o9 21 .rem 20 10),I5 (IQ 22 21 1),I5 (ol 23 (.slStr (Id [48,49,50,51,52,53,54,55,56,57]) (some 19) (some 22))),I5 (ol 24 (.strb .add 17 23)),I5 (oz 2 24)]) .ret)))
def y42:XF:=⟨[0],z42,[(.t 2)]⟩
theorem x42:jG δ 42=some y42:=by kernel_rfl
def z43:XC:=(ou [IA 2] (oU [IM 3,ol 4 (Ix .geq 3 .i32 1),oy 5 4,Ic 6 5 0,Ib 7 5 (Ix .leq 6 .i32 262144),IX 8 5 7,oy 9 8,Ip 10 9 0,oS 11 9 (Ix .leq 10 .i32 (-(0+1))),Ip 12 9 11,Ic 13 12 0,Ib 14 12 (Ix .geq 13 .i32 (-(262143+1))),oS 15 9 (.pick 12 14 oG),oX 16 9 oZ 15,oz 2 16]))
def y43:XF:=⟨[0],z43,[(.t 2)]⟩
theorem x43:jG δ 43=some y43:=by kernel_rfl
def z44:XC:=(I2 [Oa 2] [IM 3,Im 4 43 [3],ow 5 (IB 4)] 5 [Oa 2] (oQ [IM 6,I8 7 6 (oC .i32 0)] (Ii 7 [IM 8,ol 9 (.cvt .i64 8),ol 10 (.un .neg 9),oz 2 10]) (oU [IM 11,ol 12 (.cvt .i64 11),oz 2 12])))
def y44:XF:=⟨[0],z44,[(.t 2)]⟩
theorem x44:jG δ 44=some y44:=by kernel_rfl
def z47:XC:=(Iq [Oa 4] [IM 6,IU 7 6,Oa 8] (Ie 0 (Iw [I8 9 8 7] (IR 9 0) (II 1 (IW [oy 10 8,oz 5 10] [oy 11 1,IM 12,oy 13 5,Il 14 1 12 13,o4 15 14,oH 16 true none 11 [15]] (Ii 16 [oy 17 5,oz 4 17])) [IQ 18 8 1,oz 8 18]))) (oU [o8 4 (-(0+1))]))
def y47:XF:=⟨[0,1],z47,[(.t 4)]⟩
theorem x47:jG δ 47=some y47:=by kernel_rfl
def z48:XC:=(ou [IA 2] (oU [IM 3,ol 4 (Ix .neq 3 .i32 0),oy 5 4,Ic 6 5 0,Ib 7 5 (Ix .geq 6 .i32 (-(262143+1))),IX 8 5 7,oy 9 8,Ic 10 9 0,Ib 11 9 (Ix .leq 10 .i32 262144),IX 12 9 11,oz 2 12]))
def y48:XF:=⟨[0],z48,[(.t 2)]⟩
theorem x48:jG δ 48=some y48:=by kernel_rfl
def z50:XC:=(ou [IA 4] (oU [IM 5,oy 6 1,Im 7 59 [5,6],oz 4 7]))
def y50:XF:=⟨[0,1],z50,[(.t 4)]⟩
theorem x50:jG δ 50=some y50:=by kernel_rfl
def z53:XC:=(ou [oz 4 (Id [])] (oU [IM 5,oy 6 1,Im 7 60 [5,6],oz 4 7]))
def y53:XF:=⟨[0,1],z53,[(.t 4)]⟩
theorem x53:jG δ 53=some y53:=by kernel_rfl
def z59:XC:=(ou [IA 4] (oU [IM 5,I7 6 5,oy 7 1,I7 8 7,ol 9 (.bin .geq 6 8),oy 10 9,Ic 11 10 0,Ic 12 10 1,Ib 13 10 (.lenS 12),Ib 14 10 (.slStr 11 none (some 13)),Ic 15 10 1,Ib 16 10 (.strb .eql 14 15),IX 17 10 16,oz 4 17]))
def y59:XF:=⟨[0,1],z59,[(.t 4)]⟩
theorem x59:jG δ 59=some y59:=by kernel_rfl
def z60:XC:=(I2 [oz 4 (Id [])] [IM 5,oy 6 1,oH 7 true none (oK 59 []) [5,6]] 7 [IM 8,oy 9 1,I7 10 9,ol 11 (.slStr 8 (some 10) none),oz 4 11] (oU [IM 12,oz 4 12]))
def y60:XF:=⟨[0,1],z60,[(.t 4)]⟩
theorem x60:jG δ 60=some y60:=by kernel_rfl
def z11:XC:=(.seq (.ops [⟨(some 1),true,none,(.i (.box (.t 0)))⟩,⟨(some 2),true,none,(.i (.mv (.c (.str []))))⟩,⟨(some 3),true,none,(.i (.mv (.c (.int .i64 0))))⟩]) (.seq (.seq (.ops [⟨(some 9),false,none,(.i (.ldA 2 (.t 1)))⟩,⟨(some 10),false,none,(.call (.c (.fn 14 [])) [(.t 9)])⟩,⟨(some 11),true,none,(.i (.un .not (.t 10)))⟩]) (.cond (.t 11) (.seq (.ops [⟨(some 2),true,none,(.i (.mv (.c (.str []))))⟩,⟨(some 3),true,none,(.i (.mv (.c (.int .i64 21))))⟩]) .ret) .skip)) (.seq (.ops [⟨(some 4),true,none,(.i (.alloc [.nilp,.nils]))⟩]) (.seq (.dops [(⟨⟨(some 12),false,none,(.i (.fad 0 (.t 1)))⟩,none,0,[]⟩,none),(⟨⟨(some 13),false,none,(.i (.ld1 (.t 12)))⟩,(some (some (.t 12))),3,[]⟩,none),(⟨⟨(some 14),false,none,(.call (.c (.fn 23 [])) [(.t 13)])⟩,(some none),0,[]⟩,(some [⟨⟨(some 14),false,none,(.i (.mv (.c (.tup []))))⟩,none,0,[]⟩,⟨⟨(some 15),false,none,(.i (.mv (.c (.tup []))))⟩,none,0,[]⟩,⟨⟨(some 16),false,none,(.i (.mv (.c (.tup []))))⟩,none,0,[]⟩,⟨⟨(some 17),false,none,(.i (.fad 1 (.t 1)))⟩,none,0,[]⟩,⟨⟨(some 18),false,none,(.i (.ld1 (.t 17)))⟩,(some (some (.t 17))),22,[(3,0)]⟩,⟨⟨(some 19),false,none,(.i (.len (.t 18)))⟩,none,0,[]⟩,⟨⟨(some 20),false,none,(.i (.mv (.c (.tup []))))⟩,none,0,[]⟩,⟨⟨(some 21),false,none,(.i (.mv (.c (.tup []))))⟩,none,0,[]⟩,⟨⟨(some 22),false,none,(.i (.mv (.c (.tup []))))⟩,none,0,[]⟩,⟨⟨(some 23),false,none,(.i (.mv (.c (.tup []))))⟩,none,0,[]⟩])),(⟨⟨(some 15),false,none,(.i (.strb .add (.c (.str [112,32,99,110,102,32])) (.t 14)))⟩,none,0,[]⟩,none),(⟨⟨(some 16),false,none,(.i (.strb .add (.t 15) (.c (.str [32]))))⟩,none,0,[]⟩,none),(⟨⟨(some 17),false,none,(.i (.fad 1 (.t 1)))⟩,none,0,[]⟩,none),(⟨⟨(some 18),false,none,(.i (.ld1 (.t 17)))⟩,(some (some (.t 17))),22,[(3,0)]⟩,none),(⟨⟨(some 19),false,none,(.i (.len (.t 18)))⟩,none,0,[]⟩,none),(⟨⟨(some 20),false,none,(.call (.c (.fn 23 [])) [(.t 19)])⟩,(some none),0,[]⟩,(some [])),(⟨⟨(some 21),false,none,(.i (.strb .add (.t 16) (.t 20)))⟩,none,0,[]⟩,none),(⟨⟨(some 22),false,none,(.i (.strb .add (.t 21) (.c (.str [10]))))⟩,none,0,[]⟩,none),(⟨⟨(some 23),false,none,(.call (.c (.fn 22 [])) [(.t 4),(.t 22)])⟩,(some none),0,[]⟩,(some []))]) (.seq (.seq (.ops [⟨(some 24),false,none,(.i (.fad 1 (.t 1)))⟩,⟨(some 25),true,none,(.i (.ld1 (.t 24)))⟩,⟨(some 26),true,none,(.i (.len (.t 25)))⟩,⟨(some 27),true,none,(.i (.mv (.c (.int .i64 0))))⟩]) (.block 0 (.loop (.seq (.ops [⟨(some 28),true,none,(.i (.bin .lss (.t 27) (.t 26)))⟩]) (.seq (.cond (.t 28) .skip (.exit 0)) (.seq (.block 1 (.seq (.ops [⟨(some 29),false,none,(.i (.idxS 1 (.t 25) (.t 27)))⟩,⟨(some 30),false,none,(.i (.ld1 (.t 29)))⟩,⟨(some 6),true,none,(.i (.mv (.t 30)))⟩]) (.seq (.seq (.ops [⟨(some 31),true,none,(.i (.mv (.t 6)))⟩,⟨(some 32),true,none,(.i (.len (.t 31)))⟩,⟨(some 33),true,none,(.i (.mv (.c (.int .i64 0))))⟩]) (.block 2 (.loop (.seq (.ops [⟨(some 34),true,none,(.i (.bin .lss (.t 33) (.t 32)))⟩]) (.seq (.cond (.t 34) .skip (.exit 2)) (.seq (.block 3 (.seq (.ops [⟨(some 35),false,none,(.i (.idxS 1 (.t 31) (.t 33)))⟩,⟨(some 36),false,none,(.i (.ld1 (.t 35)))⟩,⟨(some 8),true,none,(.i (.mv (.t 36)))⟩]) (.ops [⟨(some 37),false,none,(.i (.mv (.t 8)))⟩,⟨(some 38),false,none,(.i (.cvt .i64 (.t 37)))⟩,⟨(some 39),false,none,(.call (.c (.fn 23 [])) [(.t 38)])⟩,⟨(some 40),false,none,(.i (.strb .add (.t 39) (.c (.str [32]))))⟩,⟨(some 41),false,none,(.call (.c (.fn 22 [])) [(.t 4),(.t 40)])⟩]))) (.ops [⟨(some 42),false,none,(.i (.bin .add (.t 33) (.c (.int .i64 1))))⟩,⟨(some 33),true,none,(.i (.mv (.t 42)))⟩]))))))) (.ops [⟨(some 43),false,none,(.call (.c (.fn 22 [])) [(.t 4),(.c (.str [48,10]))])⟩])))) (.ops [⟨(some 44),false,none,(.i (.bin .add (.t 27) (.c (.int .i64 1))))⟩,⟨(some 27),true,none,(.i (.mv (.t 44)))⟩]))))))) (.seq (.ops [⟨(some 45),false,none,(.call (.c (.fn 24 [])) [(.t 4)])⟩,⟨(some 2),true,none,(.i (.mv (.t 45)))⟩,⟨(some 3),true,none,(.i (.mv (.c (.int .i64 0))))⟩]) .ret))))))
def y11:XF:=⟨[0],z11,[(.t 2),(.t 3)]⟩
theorem x11:jG δ 11=some y11:=by kernel_rfl
def UD (f:FuncId):Nat:=if f∈[9,10,11,12,13,15,17,18,19,20,25,26,27,28,30,31,33,34,35,36,38,39,40,41,42,43,44,48,50,52,53,59,60] then 1 else if f∈[14,16,21,29,37,47] then 5 else 0
def uV (f:FuncId):Bool:=!(Qcb f 11) && !(Qcb f 49) && !(Qcb f 51) && !(Qcb f 54) && !(Qcb f 55)
structure NB (base:Bs):Prop where
 nob:∀ f,uV f=true->∀ args st,base.run f args st=.no
 purE:base.pur=UD
theorem NB.pur {base:Bs}(h:NB base)(f m:Nat)(e:UD f=m):base.pur f=m:=by rw[h.purE];exact e
theorem NB.no {base:Bs}(h:NB base)(f:FuncId)(e:uV f=true)(args:List AV)(st:St):base.run f args st=.no:=h.nob f e args st
theorem NB.at0 {base:Bs}(h:NB base)(f:FuncId)(e:uV f=true)(e2:UD f=0)(args:List AV)(st:St):base.at0 f args st:=⟨h.nob f e args st,h.pur f 0 e2⟩
abbrev Ret (base:Bs)(f:FuncId)(xs:List AV)(o:Oc):Prop:=∀ st K Kp,XB δ base f xs st K Kp=QP o K Kp st
abbrev Tot (base:Bs)(f:FuncId)(xs:List AV)(v:AV):Prop:=∀ st K Kp,XB δ base f xs st K Kp=K v st
theorem NB.tot {base:Bs}(hb:NB base){f:FuncId}{xs:List AV}{v:AV}(h:PX δ base f xs (.ok v))(hp:xs.all pa=true)(e:uV f=true):Tot base f xs v:=λst K Kp=>h.xb hp (hb.no f e _) st K Kp
theorem NB.ret {base:Bs}(hb:NB base){f:FuncId}{xs:List AV}{o:Oc}(h:PX δ base f xs o)(hp:xs.all pa=true)(e:uV f=true):Ret base f xs o:=λst K Kp=>h.xb hp (hb.no f e _) st K Kp
def BIG:Nat:=1099511627776
theorem W7 {s:St}:∀ {cs:List AV},cs.all pc=true->lall AV.cell cs=true->JE (fz 9 s.h) cs=cs
 |[],_,_=>jdJ
 |v :: l,hp,hc=>by
  rw[Qaw,Qaj] at hp;have h1:v.cell=true/\lall AV.cell l=true:=by
   have:cond v.cell (lall AV.cell l) false=true:=hc;cases h:v.cell with
   |true=>rw[h] at this;exact⟨rfl,this⟩
   |false=>rw[h] at this;cases this
  exact jdK (jfr 8 hp.1) h1.1 (W7 hp.2 h1.2)
abbrev ClT:=List Int
structure FmT where
 vars:Int
 cls:List ClT
def clV (c:ClT):AV:=.lst c.length (c.map (.int .i32))
theorem wm:∀ l:List Int,(l.map (AV.int .i32)).all pc=true
 |[]=>rfl
 |x :: xs=>by rw[ξ,Qaw,wm xs];rfl
theorem Z1:∀ l:List Bool,(l.map AV.bool).all pc=true
 |[]=>rfl
 |x :: xs=>by rw[ξ,Qaw,Z1 xs];rfl
theorem jaT (c:ClT):pc (clV c)=true:=by simp[clV,pc,wm]
theorem XP (c:ClT):pa (clV c)=true:=by simp[clV,pa,pc,wm]
def clE (c:ClT):List AV:=[clV c]
theorem Zh (s:ClT):(clE s).length=1:=nr rfl
theorem V7 (s:ClT)(k:Nat):(clE s).getD k .bad=([clV s]:List AV).getD k .bad:=nr rfl
theorem jc2 (s:ClT)(k:Nat):(clE s).drop k=([clV s]:List AV).drop k:=nr rfl
theorem jc0 (s:ClT):(clE s).all pc=true:=by simp[clE,jaT]
theorem V8 (s:ClT):lall AV.cell (clE s)=true:=nr rfl
theorem jc1 {st:St}{K:AV->St->Prop}{xs:List ClT}{i:Nat}(h:i<xs.length):jd (Ym 1 (.lptr (fl clE xs) (i * 1)) st) K=K (.agg (clE xs[i])) st:=jeY Zh h
theorem jaU {st:St}{K:AV->St->Prop}{xs:List ClT}{i:Nat}(h:i<xs.length){k:Nat}(hk:k<1):jd (qX (.lptr (fl clE xs) (i * 1+k)) st) K=K ((clE xs[i]).getD k .bad) st:=Hv Zh h hk
theorem kD {st:St}{K:AV->St->Prop}{xs:List ClT}{i:Nat}(h:i<xs.length):jd (qX (.lptr (fl clE xs) (i * 1)) st) K=K ((clE xs[i]).getD 0 .bad) st:=Hv (k:=0) Zh h dc
theorem jf:type_of% (aI @Zh (aI @V7 (aI @jc2 (aI @V8 (aI @jc1 (aI @kD @jaU)))))):=aI @Zh (aI @V7 (aI @jc2 (aI @V8 (aI @jc1 (aI @kD @jaU)))))
theorem Jb:type_of% (aI @Zh (aI @V8 @V7)):=aI @Zh (aI @V8 @V7)
theorem XW {ls:List ClT}{k:Nat}{st:St}{K:AV->St->Prop}(h:k<ls.length):jd (qX (.lptr (fl clE ls) k) st) K=K (clV ls[k]) st:=by
 have:=kD (st:=st) (K:=K) h;rw[Qbf] at this;exact this
theorem Yt {S:List Int}{k:Nat}{st:St}{K:AV->St->Prop}(h:k<S.length):jd (qX (.lptr (S.map (AV.int .i32)) k) st) K=K (.int .i32 S[k]) st:=by
 rw[Yu (by simpa using h)]
 congr 1
 rw[Qag,Qac (by simpa using h)];simp
theorem gO {S:List Bool}{k:Nat}{st:St}{K:AV->St->Prop}(h:k<S.length):jd (qX (.lptr (S.map AV.bool) k) st) K=K (.bool S[k]) st:=by
 rw[Yu (by simpa using h)]
 congr 1
 rw[Qag,Qac (by simpa using h)];simp
theorem Zt (c:ClT){st:St}{K:AV->St->Prop}:jd (lenV (clV c) st) K=K (.int .i64 (c.length:Nat)) st:=Uu _ _
def qJ (l:List ClT):AV:=.lst l.length (fl clE l)
def fmE (f:FmT):List AV:=[.int .i64 f.vars,qJ f.cls]
theorem je7 (f:FmT):(fmE f).length=2:=nr rfl
theorem VY (f:FmT):(fmE f).all pc=true:=by simp[fmE,qJ,pc,Gs jc0]
theorem zw (f:FmT):pa (.agg (fmE f))=true:=by simp[pa,pc,VY]
theorem vk {x:Int}(h1 : -2147483648<=x)(h2:x<=2147483647):yG .i32 x=x:=by
 rw[Jd];exact IntWalk.i32_in x ⟨h1,om⟩
theorem Kx {a b:Int}{st:St}{K:AV->St->Prop}(h1 : -2147483648<=a - b)(h2:a - b<=2147483647):jd (yZ .sub (.int .i32 a) (.int .i32 b) st) K=K (.int .i32 (a - b)) st:=by
 have:(zR .sub).run .i32 a b=some (.int .i32 (a - b)):=by show some (AV.int .i32 (yG .i32 (a - b)))=_;rw[vk h1 h2]
 simp only[yZ,zm,cond_true,this,ju,jd]
theorem KA {a:Int}{st:St}{K:AV->St->Prop}(h1 : -2147483648<=-a)(h2 : -a<=2147483647):jd (unV .neg (.int .i32 a) st) K=K (.int .i32 (-a)) st:=by
 have e:IntKind.i32.wrap (0 - a)=-a:=by rw[<-Jd,vk om om];omega
 simp only[unV,JU,O,e,jd]
theorem Uv {k:IntKind}{a:Int}{st:St}{K:AV->St->Prop}(h1 : -9223372036854775808<=a)(h2:a<=9223372036854775807):jd (kC .i64 (.int k a) st) K=K (.int .i64 a) st:=by
 simp only[kC,jd];rw[Qn h1 h2]
theorem HC {k:IntKind}{a:Int}{st:St}{K:AV->St->Prop}(h1 : -2147483648<=a)(h2:a<=2147483647):jd (kC .i32 (.int k a) st) K=K (.int .i32 a) st:=by
 simp only[kC,jd];rw[vk h1 h2]
theorem bEq (a b:Bool)(st:St)(K:AV->St->Prop):jd (jbP δ .eql 4 false (.bool a) (.bool b) st) K=K (.bool (a == b)) st:=by
 cases a<;>cases b<;>rfl
theorem bNe (a b:Bool)(st:St)(K:AV->St->Prop):jd (jbP δ .neq 4 false (.bool a) (.bool b) st) K=K (.bool (a != b)) st:=by
 cases a<;>cases b<;>rfl
theorem jfn:Go.Ev.isAgg δ 3=some false:=by kernel_rfl
theorem jfm:Go.Ev.sizeOf δ 3=some 1:=by kernel_rfl
theorem sm3 {b o:Nat}{v:AV}{h:T AO}(ho:o<qh h b)(hv:rat h b o=v)(hc:eqs v=true):(jM δ 3 (.ptr b o) v h=true)=True:=eq_true (HS jfn jfm ho hv hc)
theorem je2:Go.Ev.isAgg δ 22=some false:=by kernel_rfl
theorem je1:Go.Ev.sizeOf δ 22=some 1:=by kernel_rfl
theorem jec {b o:Nat}{v:AV}{h:T AO}(ho:o<qh h b)(hv:rat h b o=v)(hc:eqs v=true):(jM δ 22 (.ptr b o) v h=true)=True:=eq_true (HS je2 je1 ho hv hc)
theorem je0:Go.Ev.isAgg δ 24=some true:=by kernel_rfl
theorem jeZ:Go.Ev.sizeOf δ 24=some 2:=by kernel_rfl
theorem jfo {b o:Nat}{cs:List AV}{h:T AO}(ho:o+2<=qh h b)(hv:rats h b o 2=cs)(hc:cs.all eqs=true):(jM δ 24 (.ptr b o) (.agg cs) h=true)=True:=eq_true (jed je0 jeZ dc ho hv hc)
theorem r32:type_of% (aI @Kx (aI @KA (aI @Uv (aI @HC (aI @bEq @bNe))))):=aI @Kx (aI @KA (aI @Uv (aI @HC (aI @bEq @bNe))))
theorem dzB {p:Prop}(h:p:=by first|assumption|decide|omega|(simp only[Jb,rzN,Qad,Qah];first|done|omega)|(apply V6<;>first|omega|((simp(disch:=first|assumption|omega|(simp only[Jb,rzN,Qad,Qah];first|done|omega)) only[rzL,Qad,Qah,Qan,γ,Jb ])<;>first|done|omega))|(simp(disch:=first|assumption|omega|(simp only[Jb,rzN,Qad,Qah];first|done|omega)) only[Jb,rzG,ψ,χ,ε,Qby,Qad,Qah,QaS,Qax];first|done|omega|decide)):p:=h
theorem cyB {p:Prop}(h:p:=by apply V6<;>first|omega|((simp(disch:=first|assumption|omega|(simp only[Jb,rzN,Qad,Qah];first|done|omega)) only[rzL,Qad,Qah,Qan,γ,Jb])<;>first|done|rfl|omega|(simp;done)|(simp;omega))):p:=h
theorem qZ {p:Prop}(h:p:=by first|assumption|decide|omega|(simp only[Jb,zz,rzN,Qad,Qah];first|done|omega)|(apply V6<;>first|omega|((simp(disch:=first|assumption|omega|(simp only[Jb,zz,rzN,Qad,Qah];first|done|omega)) only[rzL,Qad,Qah,Qan,γ,Jb,zz ])<;>first|done|omega))|(simp(disch:=first|assumption|omega|(simp only[Jb,zz,rzN,Qad,Qah];first|done|omega)) only[Jb,zz,rzG,ψ,χ,ε,Qby,Qad,Qah,QaS,Qax];first|done|omega|decide)):p:=h
theorem GL {p:Prop}(h:p:=by apply V6<;>first|omega|((simp(disch:=first|assumption|omega|(simp only[Jb,zz,rzN,Qad,Qah];first|done|omega)) only[rzL,Qad,Qah,Qan,γ,Jb,zz])<;>first|done|rfl|omega|(simp;done)|(simp;omega))):p:=h
variable {base:Bs}
def yX (l:Int):Bool:=decide (l≠0) && decide (-262144<=l) && decide (l<=262144)
def jJ (l:Int):Int:=if yX l then(if l<0 then -l else l) else 0
theorem J1 (l:Int):yX l=true↔l≠0/\-262144<=l/\l<=262144:=by simp[yX,and_assoc]
theorem r6:type_of%(aI @jf @rzZ):=aI @jf @rzZ
theorem je3 (hb:NB base)(l:Int):Tot base 48 [.int .i32 l] (.bool (yX l)):=by
 refine hb.tot ?_ rfl rfl;refine jH x48 (by rfl) (hb.pur 48 1 dc) ?_;simp only[y48,jv,ξ,τ,ψ,χ];rw[(by unfold z48;simp only[qq];rfl:z48=_)];repeat'(first|apply je<;>intro _|simp(disch:=first|exact dzB|fail) only[r6,γ,ε,ζ,η,θ])
 all_goals(refine G0.v (congrArg AV.bool ?_) rfl;rw[QaK];simp only[yX,QaV,Qaj,decide_eq_true_eq,QaU,Bool.true_eq_false,Qbg,decide_eq_false_iff_not,true_iff,false_iff,iff_true,iff_false,not_true_eq_false,not_false_eq_true,ne_eq,eq_self]<;>omega)
theorem jda (hb:NB base)(l:Int):Tot base 43 [.int .i32 l] (.bool (yX l)):=by
 refine hb.tot ?_ rfl rfl;refine jH x43 (by rfl) (hb.pur 43 1 dc) ?_;simp only[y43,jv,ξ,τ,ψ,χ];rw[(by unfold z43;simp only[qq];rfl:z43=_)];repeat'(first|apply je<;>intro _|simp(disch:=first|exact dzB|fail) only[r6,γ,ε,ζ,η,θ])
 all_goals(refine G0.v (congrArg AV.bool ?_) rfl;rw[QaK];simp only[yX,QaV,Qaj,decide_eq_true_eq,QaU,Bool.true_eq_false,Qbg,decide_eq_false_iff_not,true_iff,false_iff,iff_true,iff_false,not_true_eq_false,not_false_eq_true,ne_eq,eq_self]<;>omega)
theorem jc9 (hb:NB base)(l:Int):Tot base 31 [.int .i32 l] (.int .i64 (jJ l)):=by
 refine hb.tot ?_ rfl rfl;have e:=je3 hb l;refine jH x31 (by rfl) (hb.pur 31 1 dc) ?_;simp only[y31,jv,ξ,τ,ψ,χ];rw[(by unfold z31;simp only[qq];rfl:z31=_)];by_cases h:yX l=true
 ·obtain⟨h0,h1,h2⟩:=(J1 l).1 h;rw[h] at e;repeat'(first|apply je<;>intro _|simp(disch:=first|exact dzB|fail) only[e,r32,r6,γ,ε,ζ,η,θ])
  ·exact G0.v (by rw[jJ,if_pos h,if_pos (by assumption)]) rfl
  ·exact G0.v (by rw[jJ,if_pos h,if_neg (by assumption)]) rfl
 ·have h2:yX l=false:=by simpa using h
  rw[h2] at e;repeat'(first|apply je<;>intro _|simp(disch:=first|exact dzB|fail) only[e,r6,γ,ε,ζ,η,θ])
  exact G0.v (by rw[jJ,if_neg h]) rfl
theorem jeR (hb:NB base)(l:Int):Tot base 44 [.int .i32 l] (.int .i64 (jJ l)):=by
 refine hb.tot ?_ rfl rfl;have e:=jda hb l;refine jH x44 (by rfl) (hb.pur 44 1 dc) ?_;simp only[y44,jv,ξ,τ,ψ,χ];rw[(by unfold z44;simp only[qq];rfl:z44=_)];by_cases h:yX l=true
 ·obtain⟨h0,h1,h2⟩:=(J1 l).1 h;rw[h] at e;repeat'(first|apply je<;>intro _|simp(disch:=first|exact dzB|fail) only[e,r32,r6,γ,ε,ζ,η,θ])
  ·exact G0.v (by rw[jJ,if_pos h,if_pos (by assumption)]) rfl
  ·exact G0.v (by rw[jJ,if_pos h,if_neg (by assumption)]) rfl
 ·have h2:yX l=false:=by simpa using h
  rw[h2] at e;repeat'(first|apply je<;>intro _|simp(disch:=first|exact dzB|fail) only[e,r6,γ,ε,ζ,η,θ])
  exact G0.v (by rw[jJ,if_neg h]) rfl
theorem Q1 {l:Int}(h:1<=jJ l):l≠0/\-262144<=l/\l<=262144/\(jJ l=if l<0 then -l else l):=by
 unfold jJ at h ⊢;by_cases h1:yX l=true
 ·rw[if_pos h1];obtain⟨h2,h3,h4⟩:=(J1 l).1 h1;exact⟨h2,h3,h4,rfl⟩
 ·rw[if_neg h1] at h;omega
theorem Kf {l:Int}:jJ l=0↔yX l=false:=by
 unfold jJ;by_cases h1:yX l=true
 ·obtain⟨h2,h3,h4⟩:=(J1 l).1 h1;rw[if_pos h1,h1];constructor
  ·intro h;split at h<;>omega
  ·intro h;cases h
 ·rw[if_neg h1];simp at h1;simp[h1]
theorem X7 (l:Int):0<=jJ l/\jJ l<=262144:=by
 unfold jJ;by_cases h1:yX l=true
 ·obtain⟨h2,h3,h4⟩:=(J1 l).1 h1;rw[if_pos h1];split<;>omega
 ·rw[if_neg h1];omega
def yr (vs:List Bool)(l:Int):Bool:=vs.getD (jJ l - 1).toNat false == decide (0<l)
theorem jbL (hb:NB base)(l:Int)(vs:List Bool)(h1:1<=jJ l)(h2:jJ l<=vs.length):Tot base 40 [.int .i32 l,.lst vs.length (vs.map .bool)] (.bool (yr vs l)):=by
 refine hb.tot ?_ (by simp[pa,pc,Z1]) rfl;have e:=jc9 hb l;obtain⟨h3,h4,h5,_⟩:=Q1 h1;have h6:(jJ l - 1).toNat<vs.length:=om
 have eL:∀ (st:St) (K:AV->St->Prop),jd (qX (.lptr (vs.map AV.bool) (jJ l - 1).toNat) st) K=K (.bool vs[(jJ l - 1).toNat]) st:=λst K=>gO h6;have h7:0<=jJ l - 1:=om
 have h8:jJ l - 1<vs.length:=om
 refine jH x40 (by rfl) (hb.pur 40 1 dc) ?_;simp only[y40,jv,ξ,τ,ψ,χ];rw[(by unfold z40;simp only[qq];rfl:z40=_)];repeat'(first|apply je<;>intro _|simp(disch:=first|exact dzB|fail) only[e,eL,r32,r6,γ,ε,ζ,η,θ])
 refine G0.v (congrArg AV.bool ?_) rfl;rw[yr,Qag,Qac h6];rfl
theorem jeS (hb:NB base)(l:Int)(vs:List Bool)(h1:1<=jJ l)(h2:jJ l<=vs.length):Tot base 41 [.int .i32 l,.lst vs.length (vs.map .bool)] (.bool (yr vs l)):=by
 refine hb.tot ?_ (by simp[pa,pc,Z1]) rfl;obtain⟨h3,h4,h5,h9⟩:=Q1 h1;refine jH x41 (by rfl) (hb.pur 41 1 dc) ?_;simp only[y41,jv,ξ,τ,ψ,χ];rw[(by unfold z41;simp only[qq];rfl:z41=_)];by_cases h:l<0
 ·rw[if_pos h] at h9;have h6:(-l - 1).toNat<vs.length:=om
  have eL:∀ (st:St) (K:AV->St->Prop),jd (qX (.lptr (vs.map AV.bool) (-l - 1).toNat) st) K=K (.bool vs[(-l - 1).toNat]) st:=λst K=>gO h6;repeat'(first|apply je<;>intro _|simp(disch:=first|exact dzB|fail) only[eL,r32,r6,γ,ε,ζ,η,θ])
  refine G0.v (congrArg AV.bool ?_) rfl;have h7:(jJ l - 1).toNat=(-l - 1).toNat:=om
  rw[yr,h7,Qag,Qac h6,decide_eq_false (show ¬ 0<l by omega)];simp
 ·rw[if_neg h] at h9;have h6:(l - 1).toNat<vs.length:=om
  have eL:∀ (st:St) (K:AV->St->Prop),jd (qX (.lptr (vs.map AV.bool) (l - 1).toNat) st) K=K (.bool vs[(l - 1).toNat]) st:=λst K=>gO h6;repeat'(first|apply je<;>intro _|simp(disch:=first|exact dzB|fail) only[eL,r32,r6,γ,ε,ζ,η,θ])
  refine G0.v (congrArg AV.bool ?_) rfl;have h7:(jJ l - 1).toNat=(l - 1).toNat:=om
  rw[yr,h7,Qag,Qac h6,decide_eq_true (show 0<l by omega)];simp
theorem h12:type_of%(aI @κ (aI @μ (aI @z0 (aI @z1 (aI @jc (aI @ja (aI @and_true @true_and))))))):=aI @κ (aI @μ (aI @z0 (aI @z1 (aI @jc (aI @ja (aI @and_true @true_and))))))
theorem je5 (hb:NB base)(g:Nat)(u:AV)(c:ClT)(hl:c.length<=BIG)(q:Int->Bool)(hf:∀ x∈c,Tot base g [.int .i32 x,u] (.bool (q x))):PL δ base 47 [clV c,.fn g [u]] (.ok (.int .i64 (fi q c))):=by
 refine Xf x47 (by rfl) (hb.pur 47 5 dc) rfl ?_;simp only[y47,jv,ξ,τ,ψ,χ];rw[(by unfold z47;simp only[qq];rfl:z47=_)];unfold BIG at hl;unfold clV;repeat'(first|apply je<;>intro _|simp(disch:=first|exact dzB|fail) only[r6,γ,ε,ζ,η,θ])
 refine ya c.length (λk L s=>(∀ j (hj:j<c.length),j<k->q c[j]=false)/\Has L 0 (.lst c.length (c.map (.int .i32)))/\Has L 1 (.fn g [u])) (by first|assumption|omega) dc (by simp(disch:=decide) only[jc,ja]) (by simp(disch:=decide) only[jc,ja]) ?_ (λk L s v h=>by simp(disch:=decide) only[ja];exact h) (λk L s v h=>by simp(disch:=decide) only[ja];exact h) (λk L s hk hI hi hn=>?_) (λL s hI=>?_)
 ·refine⟨λj _ hj=>absurd hj (QaP _),?_⟩;simp(disch:=decide) only[h12]
 ·obtain⟨h0,i0,i1⟩:=hI;have e:=hf c[k] (Qaf hk);repeat'(first|apply je<;>intro _|simp(disch:=first|exact dzB|fail) only[jb i0,jb i1,jb hi,jb hn,Yt,e,r6,γ,ε,ζ,η,θ])
  ·rename_i h;exact G0.v (congrArg _ (V3 hk (λj hj=>h0 j om hj) (by simpa using h)).symm) rfl
  ·rename_i h;refine⟨⟨λj hj hjk=>?_,?_⟩,?_⟩
   ·rcases Qau j k with h2|h2
    ·have:=h0 j hj h2;simpa using this
    ·have:j=k:=om
     subst this;simpa using h
   ·simp(disch:=decide) only[h12,i0,i1]
   ·simp(disch:=decide) only[h12,hi,hn]
 ·obtain⟨h0,i0,i1⟩:=hI;repeat'(first|apply je<;>intro _|simp(disch:=first|exact dzB|fail) only[r6,γ,ε,ζ,η,θ])
  exact G0.v (congrArg _ (V1 λj hj=>h0 j hj hj).symm) rfl
theorem jaE {q:Int->Bool}:∀ {c:List Int},decide (0<=fi q c)=c.any q
 |[]=>by simp[fi]
 |x :: xs=>by
  have ih:=jaE (q:=q) (c:=xs);rw[List.any_cons,<-ih];by_cases h:q x=true
  ·simp[fi,h]
  ·have e:fi q (x :: xs)=if fi q xs<0 then -1 else fi q xs+1:=by simp[fi,h]
   simp at h;rw[e,h,Bool.false_or,decide_eq_decide];split<;>omega
theorem jc3 (hb:NB base)(g:Nat)(u:AV)(hu:∀ h,lend h (.fn g [u])=some (.fn g [u]))(c:ClT)(hl:c.length<=BIG)(q:Int->Bool)(hf:∀ x∈c,Tot base g [.int .i32 x,u] (.bool (q x))):PL δ base 29 [clV c,.fn g [u]] (.ok (.bool (c.any q))):=by
 refine Xf x29 (by rfl) (hb.pur 29 5 dc) rfl ?_;simp only[y29,jv,ξ,τ,ψ,χ];rw[(by unfold z29;simp only[qq];rfl:z29=_)];have e:∀ (st:St) (K Kp:AV->St->Prop),XB δ base 47 [clV c,.fn g [u]] st K Kp=_:=λst K Kp=>(je5 hb g u c hl q hf).xb (jD (zt (XP c)) (jD (hu _) qI)) (λst=>hb.no 47 dc _ _) K Kp;have:=jaE (q:=q) (c:=c);repeat'(first|apply je<;>intro _|simp(disch:=first|exact dzB|fail) only[e,r6,γ,ε,ζ,η,θ])
 exact G0.v (congrArg AV.bool this) rfl
def zb (f:FmT)(l:Int):Bool:=decide (jJ l=0) ||decide (f.vars<jJ l)
theorem jfq (hb:NB base)(f:FmT)(l:Int):Tot base 30 [.int .i32 l,.lptr (fmE f) 0] (.bool (zb f l)):=by
 refine hb.tot ?_ (by simp[pa,pc,VY]) rfl;have e:=jc9 hb l;have hn:=X7 l;refine jH x30 (by rfl) (hb.pur 30 1 dc) ?_;simp only[y30,jv,ξ,τ,ψ,χ];rw[(by unfold z30;simp only[qq];rfl:z30=_)];unfold fmE zb;generalize jJ l=n at *;repeat'(first|apply je<;>intro _|simp(disch:=first|exact dzB|fail) only[e,Yu,r6,γ,ε,ζ,η,θ])
 ·rename_i h;exact G0.v (by simp[h]) rfl
 ·rename_i h;exact G0.v (by simp[h]) rfl
theorem K0 {s:St}{q g:Nat}{cs:List AV}(C:Cl s q cs)(hp:cs.all pc=true)(hc:lall AV.cell cs=true)(h:T AO)(e:h=s.h):lend h (.fn g [.ptr q 0])=some (.fn g [.lptr cs 0]):=by
 subst e;show(Xz s.h [.ptr q 0]).map (AV.fn g)=_;have:Za s.h (.ptr q 0)=some (.lptr cs 0):=jbH C (W7 hp hc);simp only[Xz,this];rfl
theorem vj {g:Nat}{cs:List AV}(hp:cs.all pc=true)(h:T AO):lend h (.fn g [.lptr cs 0])=some (.fn g [.lptr cs 0]):=by
 rfl
theorem je8 (f:FmT):lall AV.cell (fmE f)=true:=nr rfl
structure FmS (f:FmT):Prop where
 cls:f.cls.length<=BIG
 lits:∀ c∈f.cls,c.length<=BIG
theorem jfk (hb:NB base)(g:Nat)(f:FmT)(c:ClT)(hl:c.length<=BIG)(Q:Int->Bool)(hf:∀ x∈c,Tot base g [.int .i32 x,.lptr (fmE f) 0] (.bool (Q x))){st:St}{q:Nat}(C:Cl st q (fmE f))(K Kp:AV->St->Prop) :
  XB δ base 29 [clV c,.fn g [.ptr q 0]] st K Kp=K (.bool (c.any Q)) st:=
 (jc3 hb g _ (vj (VY f)) c hl Q hf).xb (jD (zt (XP c)) (jD (K0 C (VY f) (je8 f) _ rfl) qI)) (λst=>hb.no 29 dc _ _) K Kp
def qb (l:List ClT):Nat:=(l.map QaX).sum
theorem JV {α:Type}{xs:List α}{k:Nat}(h:k<xs.length):xs.take (k+1)=xs.take k ++ [xs[k]]:=by rw[QbL,Qac h];rfl
theorem uZ {l:List ClT}{k:Nat}(h:k<l.length):qb (l.take (k+1))=qb (l.take k)+l[k].length:=by
 unfold qb;rw[QbL,Qac h,QaI,List.sum_append];rfl
theorem US {l:List ClT}(k:Nat):qb (l.take k)<=qb l:=by
 unfold qb;conv=>rhs;rw[<-Qbt k l]
 rw[QaI,List.sum_append];omega
def jx (f:FmT):Bool:=decide (0<=f.vars/\f.vars<=262144/\f.cls.length<=1048576/\qb f.cls<=4194304/\∀ c∈f.cls,c.any (zb f)=false)
set_option maxHeartbeats 4000000 in
theorem gC (hb:NB base)(f:FmT)(hf:FmS f):PL δ base 14 [.agg (fmE f)] (.ok (.bool (jx f))):=by
 have z:0<=(1:Int):=dc
 obtain⟨hf1,hf2⟩:=hf;unfold BIG at hf1;have E29:=λc hl=>@jfk _ hb 30 f c hl (zb f) (λx _=>jfq hb f x);obtain⟨vs,hvs⟩:∃ vs,vs=f.vars:=⟨_,rfl⟩;obtain⟨cs,hcs⟩:∃ cs,cs=f.cls:=⟨_,rfl⟩;have eF:fmE f=[.int .i64 vs,.lst cs.length (fl clE cs)]:=by rw[hvs,hcs];rfl
 have eR:jx f=decide (0<=vs/\vs<=262144/\cs.length<=1048576/\qb cs<=4194304/\∀ c∈cs,c.any (zb f)=false):=by rw[hvs,hcs];rfl
 rw[<-hcs] at hf1 hf2;rw[eF,eR];rw[eF] at E29;refine Xf x14 (by rfl) (hb.pur 14 5 dc) rfl ?_;simp only[y14,jv,ξ,τ,ψ,χ];rw[(by unfold z14;simp only[qq];rfl:z14=_)];repeat'(first|apply je<;>intro _|simp(disch:=first|exact dzB|fail) only[r6,γ,ε,ζ,η,θ])
 ·exact G0.v (by rw[decide_eq_false];omega) rfl
 ·exact G0.v (by rw[decide_eq_false];omega) rfl
 ·exact G0.v (by rw[decide_eq_false];omega) rfl
 rename_i h0 h1 h2;refine ya cs.length (λk L s=>qb (cs.take k)<=4194304/\(∀ c∈cs.take k,c.any (zb f)=false)/\1<=s.nx/\Cl s 0 [.int .i64 vs,.lst cs.length (fl clE cs)]/\Has L 1 (.ptr 0 0)/\Has L 3 (.int .i64 (qb (cs.take k):Nat))/\Has L 21 (.lst cs.length (fl clE cs))) (by first|assumption|omega) dc (by simp(disch:=decide) only[jc,ja]) (by simp(disch:=decide) only[jc,ja]) ?_ (λk L s v h=>by simp(disch:=decide) only[ja];exact h) (λk L s v h=>by simp(disch:=decide) only[ja];exact h) (λk L s hk hI hi hn=>?_) (λL s hI=>?_)
 ·refine⟨by simp[qb],by simp,by(first|omega|(simp only[jP,yJ,yK,qo,qG];first|done|omega)),by(first|exact cyB|fail),?_⟩;refine⟨?_,?_,?_⟩
  ·simp(disch:=decide) only[h12]
  ·show Has _ 3 (.int .i64 0);simp(disch:=decide) only[h12]
  ·simp(disch:=decide) only[h12]
 ·obtain⟨h3,h4,n1,C,i1,i3,i21⟩:=hI;have hcl:=hf2 cs[k] (Qaf hk);have hS:=uZ hk;have E:=E29 cs[k] hcl C;have hlen:0<=(cs[k].length:Int):=om
  unfold BIG at hcl;repeat'(first|apply je<;>intro _|simp(disch:=first|exact dzB|fail) only[jb i1,jb i3,jb i21,jb hi,jb hn,E,Zt,XW,r6,γ,ε,ζ,η,θ])
  ·rename_i h;refine G0.v (congrArg AV.bool (decide_eq_false λhx=>?_)).symm rfl;have:=US (l:=cs) (k+1);omega
  ·rename_i h;refine G0.v (congrArg AV.bool (decide_eq_false λhx=>?_)).symm rfl;have:=hx.2.2.2.2 cs[k] (Qaf hk);rw[this] at h;cases h
  ·rename_i h6 h7;refine⟨⟨om,λc hc=>?_,n1,C,?_,?_,?_⟩,?_,?_⟩
   ·rw[JV hk,QaA] at hc;rcases hc with hc|hc
    ·exact h4 c hc
    ·rw[QaG] at hc;rw[hc];simpa using h7
   ·simp(disch:=decide) only[h12,i1]
   ·rw[hS,Int.natCast_add];simp(disch:=decide) only[h12,i3]
   ·simp(disch:=decide) only[h12,i21]
   ·simp(disch:=decide) only[h12,hi,hn]
   ·simp(disch:=decide) only[h12,hi,hn]
 ·obtain⟨h3,h4,n1,C,i1,i3,i21⟩:=hI;rw[Qay] at h3 h4;repeat'(first|apply je<;>intro _|simp(disch:=first|exact dzB|fail) only[r6,γ,ε,ζ,η,θ])
  exact G0.v (congrArg AV.bool (decide_eq_true (aI om (aI om (aI om (aI h3 h4)))))).symm rfl
theorem Xp (hb:NB base)(f:FmT)(hf:FmS f):Tot base 14 [.agg (fmE f)] (.bool (jx f)):=λst K Kp=>(gC hb f hf).xb (aZ':=[.agg (fmE f)]) (jD (zt (zw f)) qI) (λst=>hb.no 14 dc _ _) K Kp
theorem jae {l:List ClT}(h:∀ c∈l,c.length<=BIG)(k:Nat):qb (l.take k)<=k * BIG:=by
 induction k with
 |zero=>simp[qb]
 |succ k ih=>
  rcases Qau k l.length with hk|hk
  ·rw[uZ hk,QaZ];have:=h _ (Qaf hk);omega
  ·rw[Qbs om];rw[Qbs hk] at ih;rw[QaZ];omega
set_option maxHeartbeats 4000000 in
theorem kX (hb:NB base)(f:FmT)(hf:FmS f):PL δ base 21 [.agg (fmE f)] (.ok (.bool (jx f))):=by
 obtain⟨hf1,hf2⟩:=hf;have hM:=jae hf2;unfold BIG at hf1 hf2 hM;obtain⟨vs,hvs⟩:∃ vs,vs=f.vars:=⟨_,rfl⟩;obtain⟨cs,hcs⟩:∃ cs,cs=f.cls:=⟨_,rfl⟩;have eF:fmE f=[.int .i64 vs,.lst cs.length (fl clE cs)]:=by rw[hvs,hcs];rfl
 have eR:jx f=decide (0<=vs/\vs<=262144/\cs.length<=1048576/\qb cs<=4194304/\∀ c∈cs,c.any (zb f)=false):=by rw[hvs,hcs];rfl
 have eb:∀ l,zb f l=(decide (jJ l=0) ||decide (vs<jJ l)):=λl=>by rw[hvs];rfl
 rw[<-hcs] at hf1 hf2 hM;rw[eF,eR];refine Xf x21 (by rfl) (hb.pur 21 5 dc) rfl ?_;simp only[y21,jv,ξ,τ,ψ,χ];rw[(by unfold z21;simp only[qq];rfl:z21=_)];repeat'(first|apply je<;>intro _|simp(disch:=first|exact dzB|fail) only[r6,γ,ε,ζ,η,θ])
 ·exact G0.v (by rw[decide_eq_false];omega) rfl
 ·exact G0.v (by rw[decide_eq_false];omega) rfl
 ·exact G0.v (by rw[decide_eq_false];omega) rfl
 rename_i h0 h1 h2;refine ya cs.length (λk L s=>(∀ c∈cs.take k,c.any (zb f)=false)/\1<=s.nx/\Cl s 0 [.int .i64 vs,.lst cs.length (fl clE cs)]/\Has L 1 (.ptr 0 0)/\Has L 3 (.int .i64 (qb (cs.take k):Nat))/\Has L 23 (.lst cs.length (fl clE cs))) (by first|assumption|omega) dc (by simp(disch:=decide) only[jc,ja]) (by simp(disch:=decide) only[jc,ja]) ?_ (λk L s v h=>by simp(disch:=decide) only[ja];exact h) (λk L s v h=>by simp(disch:=decide) only[ja];exact h) (λk L s hk hI hi hn=>?_) (λL s hI=>?_)
 ·refine⟨by simp,by(first|omega|(simp only[jP,yJ,yK,qo,qG];first|done|omega)),by(first|exact cyB|fail),?_⟩;refine⟨?_,?_,?_⟩
  ·simp(disch:=decide) only[h12]
  ·show Has _ 3 (.int .i64 0);simp(disch:=decide) only[h12]
  ·simp(disch:=decide) only[h12]
 ·obtain⟨h4,n1,C,i1,i3,i23⟩:=hI;have hcl:=hf2 cs[k] (Qaf hk);have hS:=uZ hk;have hM1:=hM k;have hlen:0<=(cs[k].length:Int):=om
  obtain⟨c,hc⟩:∃ c:ClT,c=cs[k]:=⟨_,rfl⟩;rw[<-hc] at hcl hS hlen;have e5:∀ {st:St} {K:AV->St->Prop},jd (qX (.lptr (fl clE cs) k) st) K=K (clV c) st:=λ{st K}=>by rw[hc];exact XW hk
  repeat'(first|apply je<;>intro _|simp(disch:=first|exact dzB|fail) only[jb i1,jb i3,jb i23,jb hi,jb hn,Zt,e5,r6,γ,ε,ζ,η,θ])
  refine ya c.length (λj L s=>(∀ l∈c.take j,zb f l=false)/\1<=s.nx/\Cl s 0 [.int .i64 vs,.lst cs.length (fl clE cs)]/\Has L 1 (.ptr 0 0)/\Has L 3 (.int .i64 (qb (cs.take (k+1)):Nat))/\Has L 23 (.lst cs.length (fl clE cs))/\Has L 33 (clV c)/\Has L 24 (.int .i64 cs.length)/\Has L 25 (.int .i64 k)) (by first|assumption|omega) dc (by simp(disch:=decide) only[jc,ja]) (by simp(disch:=decide) only[jc,ja]) ?_ (λk L s v h=>by simp(disch:=decide) only[ja];exact h) (λk L s v h=>by simp(disch:=decide) only[ja];exact h) (λk2 L2 s2 hk2 hI2 hi2 hn2=>?_) (λL2 s2 hI2=>?_)
  ·refine⟨by simp,n1,C,?_⟩;refine⟨?_,?_,?_,?_,?_,?_⟩
   ·simp(disch:=decide) only[h12,i1]
   ·rw[hS,Int.natCast_add];simp(disch:=decide) only[h12,i3]
   ·simp(disch:=decide) only[h12,i23]
   ·simp(disch:=decide) only[h12]
   ·simp(disch:=decide) only[h12,hi,hn]
   ·simp(disch:=decide) only[h12,hi,hn]
  ·obtain⟨h5,n2,C2,j1,j3,j23,j33,j24,j25⟩:=hI2;unfold clV at j33;have e6:=jda hb c[k2];have e7:=jeR hb c[k2];have e8:∀ {st:St} {K:AV->St->Prop},jd (qX (.lptr (c.map (.int .i32)) k2) st) K=K (.int .i32 c[k2]) st:=λ{st K}=>Yt hk2;have hbl:zb f c[k2]=(decide (jJ c[k2]=0) ||decide (vs<jJ c[k2])):=eb _;have hz:=@Kf c[k2];generalize hl:c[k2]=l at e6 e7 e8 hbl hz;have a3:jM δ 3 (.ptr 0 0) (.int .i64 vs) s2.h=true:=(sm3 (by rw[C2.len];simp) (C2.cell 0 (by simp)) rfl).mpr trivial
   (have zz:=C2.r;(repeat'(first|apply je<;>intro _|simp(disch:=first|exact qZ|fail) only[jb j1,jb j3,jb j23,jb j33,jb hi2,jb hn2,e6,e7,e8,a3,C2.q,C2.r,r6,γ,ε,ζ,η,θ]));all_goals clear zz)
   ·rename_i h;refine G0.v (congrArg AV.bool (decide_eq_false λhx=>?_)).symm rfl;have:=hx.2.2.2.2 c (hc▸Qaf hk);rw[Qbj] at this;have:=this l (hl▸Qaf hk2);rw[hbl,hz.2 h] at this;simp at this
   ·rename_i h h7;refine G0.v (congrArg AV.bool (decide_eq_false λhx=>?_)).symm rfl;have:=hx.2.2.2.2 c (hc▸Qaf hk);rw[Qbj] at this;have:=this l (hl▸Qaf hk2);rw[hbl,decide_eq_true h7] at this;simp at this
   ·rename_i h h7;refine⟨⟨λx hx=>?_,n2,C2,?_,?_,?_,?_,?_,?_⟩,?_,?_⟩
    ·rw[JV hk2,QaA] at hx;rcases hx with hx|hx
     ·exact h5 x hx
     ·rw[QaG,hl] at hx;rw[hx,hbl,decide_eq_false (λh8=>h (hz.1 h8)),decide_eq_false h7];rfl
    ·simp(disch:=decide) only[h12,j1]
    ·simp(disch:=decide) only[h12,j3]
    ·simp(disch:=decide) only[h12,j23]
    ·show Has _ 33 (.lst c.length (c.map (.int .i32)));simp(disch:=decide) only[h12,j33]
    ·simp(disch:=decide) only[h12,j24]
    ·simp(disch:=decide) only[h12,j25]
    ·simp(disch:=decide) only[h12,hi2,hn2]
    ·simp(disch:=decide) only[h12,hi2,hn2]
  ·obtain⟨h5,n2,C2,j1,j3,j23,j33,j24,j25⟩:=hI2;rw[Qay] at h5;repeat'(first|apply je<;>intro _|simp(disch:=first|exact dzB|fail) only[jb j1,jb j3,jb j23,jb j24,jb j25,r6,γ,ε,ζ,η,θ])
   refine⟨⟨λx hx=>?_,n2,C2,?_,?_,?_⟩,?_,?_⟩
   ·rw[JV hk,QaA] at hx;rcases hx with hx|hx
    ·exact h4 x hx
    ·rw[QaG,<-hc] at hx;rw[hx,Qbj];intro l hl;rw[h5 l hl];decide
   ·simp(disch:=decide) only[h12,j1]
   ·simp(disch:=decide) only[h12,j3]
   ·simp(disch:=decide) only[h12,j23]
   ·simp(disch:=decide) only[h12,j24,j25]
   ·simp(disch:=decide) only[h12,j24,j25]
 ·obtain⟨h4,n1,C,i1,i3,i23⟩:=hI;rw[Qay] at h4;have e3:qb (cs.take cs.length)=qb cs:=by rw[Qay]
  have hM1:=hM cs.length;rw[e3] at hM1 i3;repeat'(first|apply je<;>intro _|simp(disch:=first|exact dzB|fail) only[jb i3,r6,γ,ε,ζ,η,θ])
  refine G0.v (congrArg AV.bool ?_) rfl;rw[decide_eq_decide];constructor
  ·intro h;exact aI om (aI om (aI om (aI om h4)))
  ·intro h;have:=h.2.2.2.1;omega
theorem vB (hb:NB base)(f:FmT)(hf:FmS f):Tot base 21 [.agg (fmE f)] (.bool (jx f)):=λst K Kp=>(kX hb f hf).xb (aZ':=[.agg (fmE f)]) (jD (zt (zw f)) qI) (λst=>hb.no 21 dc _ _) K Kp
theorem Gf {α:Type}{a b:List α}{j:Nat}(h1:j<a.length)(h2:j<b.length)(h:a[j]≠b[j]):a≠b:=λe=>by subst e;exact h rfl
theorem Ze {α:Type}{a b:List α}(hl:a.length=b.length)(h:∀ j (h1:j<a.length) (h2:j<b.length),a[j]=b[j]):a=b:=Qbm hl λj h1 h2=>h j h1 h2
theorem jdN (hb:NB base)(a b:ClT)(ha:a.length<=BIG):Tot base 27 [clV a,clV b] (.bool (decide (a=b))):=by
 refine hb.tot ?_ (by simp[XP]) rfl;unfold BIG at ha;unfold clV;refine jH x27 (by rfl) (hb.pur 27 1 dc) ?_;simp only[y27,jv,ξ,τ,ψ,χ];rw[(by unfold z27;simp only[qq];rfl:z27=_)];by_cases hl:a.length=b.length
 ·have hl':(a.length:Int)=b.length:=om
  repeat'(first|apply je<;>intro _|simp(disch:=first|exact dzB|fail) only[hl',r6,γ,ε,ζ,η,θ])
  refine ya b.length (λk L s=>(∀ j (h:j<a.length) (h2:j<b.length),j<k->a[j]=b[j])/\Has L 0 (.lst a.length (a.map (.int .i32)))/\Has L 1 (.lst b.length (b.map (.int .i32)))) (by first|assumption|omega) dc (by simp(disch:=decide) only[jc,ja]) (by simp(disch:=decide) only[jc,ja]) ?_ (λk L s v h=>by simp(disch:=decide) only[ja];exact h) (λk L s v h=>by simp(disch:=decide) only[ja];exact h) (λk L s hk hI hi hn=>?_) (λL s hI=>?_)
  ·refine⟨λj _ _ hj=>absurd hj (QaP _),?_⟩;simp(disch:=decide) only[h12]
  ·obtain⟨h0,i0,i1⟩:=hI;have hk2:k<a.length:=om
   repeat'(first|apply je<;>intro _|simp(disch:=first|exact dzB|fail) only[jb i0,jb i1,jb hi,jb hn,Yt,r6,γ,ε,ζ,η,θ])
   ·rename_i h;exact G0.v (by rw[decide_eq_false (Gf hk2 hk h)]) rfl
   ·rename_i h;refine⟨⟨λj hj hj2 hjk=>?_,?_⟩,?_⟩
    ·rcases Qau j k with h2|h2
     ·exact h0 j hj hj2 h2
     ·have:j=k:=om
      subst this;exact QaQ.1 h
    ·simp(disch:=decide) only[h12,i0,i1]
    ·simp(disch:=decide) only[h12,hi,hn]
  ·obtain⟨h0,i0,i1⟩:=hI;repeat'(first|apply je<;>intro _|simp(disch:=first|exact dzB|fail) only[r6,γ,ε,ζ,η,θ])
   exact G0.v (by rw[decide_eq_true (Ze hl λj h1 h2=>h0 j h1 h2 h2)]) rfl
 ·have hl':¬ (a.length:Int)=b.length:=om
  repeat'(first|apply je<;>intro _|simp(disch:=first|exact dzB|fail) only[hl',r6,γ,ε,ζ,η,θ])
  exact G0.v (by rw[decide_eq_false];intro e;exact hl (e▸rfl)) rfl
theorem jbZ (hb:NB base)(a b:ClT)(ha:a.length<=BIG):Tot base 28 [clV a,clV b] (.bool (decide (a=b))):=by
 refine hb.tot ?_ (by simp[XP]) rfl;unfold BIG at ha;unfold clV;refine jH x28 (by rfl) (hb.pur 28 1 dc) ?_;simp only[y28,jv,ξ,τ,ψ,χ];rw[(by unfold z28;simp only[qq];rfl:z28=_)];by_cases hl:a.length=b.length
 ·have hl':(a.length:Int)=b.length:=om
  repeat'(first|apply je<;>intro _|simp(disch:=first|exact dzB|fail) only[hl',r6,γ,ε,ζ,η,θ])
  refine ya b.length (λk L s=>(∀ j (h:j<a.length) (h2:j<b.length),j<k->a[j]=b[j])/\Has L 0 (.lst a.length (a.map (.int .i32)))/\Has L 1 (.lst b.length (b.map (.int .i32)))) (by first|assumption|omega) dc (by simp(disch:=decide) only[jc,ja]) (by simp(disch:=decide) only[jc,ja]) ?_ (λk L s v h=>by simp(disch:=decide) only[ja];exact h) (λk L s v h=>by simp(disch:=decide) only[ja];exact h) (λk L s hk hI hi hn=>?_) (λL s hI=>?_)
  ·refine⟨λj _ _ hj=>absurd hj (QaP _),?_⟩;simp(disch:=decide) only[h12]
  ·obtain⟨h0,i0,i1⟩:=hI;have hk2:k<a.length:=om
   repeat'(first|apply je<;>intro _|simp(disch:=first|exact dzB|fail) only[jb i0,jb i1,jb hi,jb hn,Yt,r6,γ,ε,ζ,η,θ])
   ·rename_i h;exact G0.v (by rw[decide_eq_false (Gf hk2 hk h)]) rfl
   ·rename_i h;refine⟨⟨λj hj hj2 hjk=>?_,?_⟩,?_⟩
    ·rcases Qau j k with h2|h2
     ·exact h0 j hj hj2 h2
     ·have:j=k:=om
      subst this;exact QaQ.1 h
    ·simp(disch:=decide) only[h12,i0,i1]
    ·simp(disch:=decide) only[h12,hi,hn]
  ·obtain⟨h0,i0,i1⟩:=hI;repeat'(first|apply je<;>intro _|simp(disch:=first|exact dzB|fail) only[r6,γ,ε,ζ,η,θ])
   exact G0.v (by rw[decide_eq_true (Ze hl λj h1 h2=>h0 j h1 h2 h2)]) rfl
 ·have hl':¬ (a.length:Int)=b.length:=om
  repeat'(first|apply je<;>intro _|simp(disch:=first|exact dzB|fail) only[hl',r6,γ,ε,ζ,η,θ])
  exact G0.v (by rw[decide_eq_false];intro e;exact hl (e▸rfl)) rfl
theorem jfg (hb:NB base)(a b:ClT)(ha:a.length<=BIG):Tot base 26 [clV a,clV b] (.bool (decide (a=b))):=by
 refine hb.tot ?_ (by simp[XP]) rfl;have e:=jdN hb a b ha;generalize clV a=va at *;generalize clV b=vb at *;refine jH x26 (by rfl) (hb.pur 26 1 dc) ?_;simp only[y26,jv,ξ,τ,ψ,χ];rw[(by unfold z26;simp only[qq];rfl:z26=_)];repeat'(first|apply je<;>intro _|simp(disch:=first|exact dzB|fail) only[e,r6,γ,ε,ζ,η,θ])
 exact G0.v rfl rfl
theorem gp (l:List ClT):pa (qJ l)=true:=by simp[qJ,pa,pc,Gs jc0]
theorem jbY (hb:NB base)(a b:List ClT)(ha:a.length<=BIG)(hc:∀ c∈a,c.length<=BIG):Tot base 25 [qJ a,qJ b,.fn 26 []] (.bool (decide (a=b))):=by
 refine hb.tot ?_ (by simp[gp];rfl) rfl;unfold BIG at ha;unfold qJ;refine jH x25 (by rfl) (hb.pur 25 1 dc) ?_;simp only[y25,jv,ξ,τ,ψ,χ];rw[(by unfold z25;simp only[qq];rfl:z25=_)];by_cases hl:a.length=b.length
 ·have hl':(a.length:Int)=b.length:=om
  repeat'(first|apply je<;>intro _|simp(disch:=first|exact dzB|fail) only[hl',r6,γ,ε,ζ,η,θ])
  refine ya b.length (λk L s=>(∀ j (h:j<a.length) (h2:j<b.length),j<k->a[j]=b[j])/\Has L 0 (.lst a.length (fl clE a))/\Has L 1 (.lst b.length (fl clE b))/\Has L 2 (.fn 26 [])/\Has L 15 (.lst a.length (fl clE a))) (by first|assumption|omega) dc (by simp(disch:=decide) only[jc,ja]) (by simp(disch:=decide) only[jc,ja]) ?_ (λk L s v h=>by simp(disch:=decide) only[ja];exact h) (λk L s v h=>by simp(disch:=decide) only[ja];exact h) (λk L s hk hI hi hn=>?_) (λL s hI=>?_)
  ·refine⟨λj _ _ hj=>absurd hj (QaP _),?_⟩;simp(disch:=decide) only[h12]
  ·obtain⟨h0,i0,i1,i2,i15⟩:=hI;have hk2:k<a.length:=om
   have e:=jfg hb a[k] b[k] (hc _ (Qaf hk2));repeat'(first|apply je<;>intro _|simp(disch:=first|exact dzB|fail) only[jb i0,jb i1,jb i2,jb i15,jb hi,jb hn,XW,e,r6,γ,ε,ζ,η,θ])
   ·rename_i h;exact G0.v (by rw[decide_eq_false (Gf hk2 hk h)]) rfl
   ·rename_i h;refine⟨⟨λj hj hj2 hjk=>?_,?_⟩,?_⟩
    ·rcases Qau j k with h2|h2
     ·exact h0 j hj hj2 h2
     ·have:j=k:=om
      subst this;simpa using h
    ·simp(disch:=decide) only[h12,i0,i1,i2,i15]
    ·simp(disch:=decide) only[h12,hi,hn]
  ·obtain⟨h0,i0,i1,i2,i15⟩:=hI;repeat'(first|apply je<;>intro _|simp(disch:=first|exact dzB|fail) only[r6,γ,ε,ζ,η,θ])
   exact G0.v (by rw[decide_eq_true (Ze hl λj h1 h2=>h0 j h1 h2 h2)]) rfl
 ·have hl':¬ (a.length:Int)=b.length:=om
  repeat'(first|apply je<;>intro _|simp(disch:=first|exact dzB|fail) only[hl',r6,γ,ε,ζ,η,θ])
  exact G0.v (by rw[decide_eq_false];intro e;exact hl (e▸rfl)) rfl
theorem kW (hb:NB base)(f g:FmT)(hf:FmS f):Tot base 12 [.agg (fmE f),.agg (fmE g)] (.bool (decide (f.vars=g.vars) && decide (f.cls=g.cls))):=by
 refine hb.tot ?_ (by simp[zw]) rfl;have e:=jbY hb f.cls g.cls hf.1 hf.2;unfold qJ at e;unfold fmE qJ;generalize f.cls=a at *;generalize g.cls=b at *;refine jH x12 (by rfl) (hb.pur 12 1 dc) ?_;simp only[y12,jv,ξ,τ,ψ,χ];rw[(by unfold z12;simp only[qq];rfl:z12=_)];repeat'(first|apply je<;>intro _|simp(disch:=first|exact dzB|fail) only[e,r6,γ,ε,ζ,η,θ])
 ·rename_i h;exact G0.v (by simp[h]) rfl
 ·rename_i h;exact G0.v (by simp[h]) rfl
theorem gA (hb:NB base)(f g:FmT)(hf:FmS f):Tot base 13 [.agg (fmE f),.agg (fmE g)] (.bool (decide (f.vars=g.vars) && decide (f.cls=g.cls))):=by
 refine hb.tot ?_ (by simp[zw]) rfl;obtain⟨hf1,hf2⟩:=hf;unfold BIG at hf1;refine jH x13 (by rfl) (hb.pur 13 1 dc) ?_;simp only[y13,jv,ξ,τ,ψ,χ];rw[(by unfold z13;simp only[qq];rfl:z13=_)];unfold fmE qJ;generalize f.vars=fv at *;generalize g.vars=gv at *;generalize f.cls=a at *;generalize g.cls=b at *;repeat'(first|apply je<;>intro _|simp(disch:=first|exact dzB|fail) only[r6,γ,ε,ζ,η,θ])
 ·rename_i h;exact G0.v (by simp[h]) rfl
 ·rename_i h h2;exact G0.v (by rw[decide_eq_false (p:=a=b) (λe=>by subst e;exact h2 rfl),QbF]) rfl
 rename_i hv hl';have hv:=QaQ.1 hv;have hl:a.length=b.length:=om
 subst hv;refine ya a.length (λk L s=>(∀ j (h:j<a.length) (h2:j<b.length),j<k->a[j]=b[j])/\2<=s.nx/\Cl s 0 [.int .i64 fv,.lst a.length (fl clE a)]/\Cl s 1 [.int .i64 fv,.lst b.length (fl clE b)]/\Has L 2 (.ptr 0 0)/\Has L 3 (.ptr 1 0)) (by first|assumption|omega) dc (by simp(disch:=decide) only[jc,ja]) (by simp(disch:=decide) only[jc,ja]) ?_ (λk L s v h=>by simp(disch:=decide) only[ja];exact h) (λk L s v h=>by simp(disch:=decide) only[ja];exact h) (λk L s hk hI hi hn=>?_) (λL s hI=>?_)
 ·refine⟨λj _ _ hj=>absurd hj (QaP _),by(first|omega|(simp only[jP,yJ,yK,qo,qG];first|done|omega)),by(first|exact cyB|fail),by(first|exact cyB|fail),?_⟩;simp(disch:=decide) only[h12]
 ·obtain⟨h0,n1,C0,C1,i2,i3⟩:=hI;have hk2:k<b.length:=om
  have e:=jbZ hb a[k] b[k] (hf2 _ (Qaf hk))
  (have zz:=aI C0.r C1.r;(repeat'(first|apply je<;>intro _|simp(disch:=first|exact qZ|fail) only[jb i2,jb i3,jb hi,jb hn,XW,e,C0.q,C1.q,C0.r,C1.r,r6,γ,ε,ζ,η,θ]));all_goals clear zz)
  ·rename_i h;have:a≠b:=λe=>by subst e;simp at h
   exact G0.v (by rw[decide_eq_false this,QbF]) rfl
  ·rename_i h;refine⟨⟨λj hj hj2 hjk=>?_,n1,C0,C1,?_⟩,?_⟩
   ·rcases Qau j k with h2|h2
    ·exact h0 j hj hj2 h2
    ·have:j=k:=om
     subst this;simpa using h
   ·simp(disch:=decide) only[h12,i2,i3]
   ·simp(disch:=decide) only[h12,hi,hn]
 ·obtain⟨h0,n1,C0,C1,i2,i3⟩:=hI;repeat'(first|apply je<;>intro _|simp(disch:=first|exact dzB|fail) only[r6,γ,ε,ζ,η,θ])
  exact G0.v (by rw[decide_eq_true (Ze hl λj h1 h2=>h0 j h1 h2 h1)];simp) rfl
def J3 (f:FmT):Bool:=decide (100<f.cls.length) ||f.cls.any λc=>decide (50<c.length)
theorem wu (hb:NB base)(f:FmT):Tot base 10 [.agg (fmE f)] (.bool (J3 f)):=by
 refine hb.tot ?_ (by simp[zw]) rfl;have eg:J3 f=(decide (100<f.cls.length) ||f.cls.any λc=>decide (50<c.length)):=rfl;rw[eg];refine jH x10 (by rfl) (hb.pur 10 1 dc) ?_;simp only[y10,jv,ξ,τ,ψ,χ];rw[(by unfold z10;simp only[qq];rfl:z10=_)];unfold fmE qJ;generalize f.vars=fv at *;generalize f.cls=a at *;repeat'(first|apply je<;>intro _|simp(disch:=first|exact dzB|fail) only[r6,γ,ε,ζ,η,θ])
 ·rename_i h;exact G0.v (by rw[decide_eq_true (show 100<a.length by omega)];rfl) rfl
 rename_i h;have hd:decide (100<a.length)=false:=decide_eq_false om;rw[hd,Bool.false_or];refine ya a.length (λk L s=>(∀ c∈a.take k,¬ 50<c.length)/\Has L 10 (.lst a.length (fl clE a))) (by first|assumption|omega) dc (by simp(disch:=decide) only[jc,ja]) (by simp(disch:=decide) only[jc,ja]) ?_ (λk L s v h=>by simp(disch:=decide) only[ja];exact h) (λk L s v h=>by simp(disch:=decide) only[ja];exact h) (λk L s hk hI hi hn=>?_) (λL s hI=>?_)
 ·refine⟨by simp,?_⟩;simp(disch:=decide) only[h12]
 ·obtain⟨h0,i10⟩:=hI;repeat'(first|apply je<;>intro _|simp(disch:=first|exact dzB|fail) only[jb i10,jb hi,jb hn,XW,Zt,r6,γ,ε,ζ,η,θ])
  ·rename_i h;have:(a.any λc=>decide (50<c.length))=true:=List.any_eq_true.2 ⟨a[k],Qaf hk,decide_eq_true om⟩;exact G0.v (by rw[this]) rfl
  ·rename_i h;refine⟨⟨λc hc=>?_,?_⟩,?_⟩
   ·rw[JV hk,QaA] at hc;rcases hc with hc|hc
    ·exact h0 c hc
    ·rw[QaG] at hc;rw[hc];omega
   ·simp(disch:=decide) only[h12,i10]
   ·simp(disch:=decide) only[h12,hi,hn]
 ·obtain⟨h0,i10⟩:=hI;rw[Qay] at h0;repeat'(first|apply je<;>intro _|simp(disch:=first|exact dzB|fail) only[r6,γ,ε,ζ,η,θ])
  have:(a.any λc=>decide (50<c.length))=false:=by rw[Qbj];intro c hc;simpa using h0 c hc
  exact G0.v (by rw[this]) rfl
theorem kd {f:FmT}(h:J3 f=false):f.cls.length<=100/\∀ c∈f.cls,c.length<=50:=by
 unfold J3 at h;rw[Qbp,decide_eq_false_iff_not] at h;refine⟨om,λc hc=>?_⟩;have:=Qbj.1 h.2 c hc;simp at this;exact this
theorem ZI {f:FmT}(h:J3 f=false):FmS f:=by
 obtain⟨h1,h2⟩:=kd h;exact⟨by unfold BIG;omega,λc hc=>by have:=h2 c hc;unfold BIG;omega⟩
def bsV (vs:List Bool):AV:=.lst vs.length (vs.map .bool)
theorem Z0 (vs:List Bool):pc (bsV vs)=true:=by simp[bsV,pc,Z1]
theorem uu (vs:List Bool):pa (bsV vs)=true:=by simp[bsV,pa,pc,Z1]
def ja5 (vs:List Bool)(c:ClT):Prop:=∀ l∈c,1<=jJ l/\jJ l<=vs.length
theorem je9 (hb:NB base)(vs:List Bool)(l:Int)(h1:1<=jJ l)(h2:jJ l<=vs.length):Tot base 39 [.int .i32 l,.lptr [bsV vs] 0] (.bool (yr vs l)):=by
 refine hb.tot ?_ (by simp[pa,pc,Z0]) rfl;have e:Tot base 40 [.int .i32 l,bsV vs] _:=jbL hb l vs h1 h2;generalize bsV vs=v at *;refine jH x39 (by rfl) (hb.pur 39 1 dc) ?_;simp only[y39,jv,ξ,τ,ψ,χ];rw[(by unfold z39;simp only[qq];rfl:z39=_)];repeat'(first|apply je<;>intro _|simp(disch:=first|exact dzB|fail) only[e,Yu,r6,γ,ε,ζ,η,θ])
 exact G0.v rfl rfl
theorem jfa (hb:NB base)(vs:List Bool)(c:ClT)(hl:c.length<=BIG)(hc:ja5 vs c):Tot base 38 [clV c,.lptr [bsV vs] 0] (.bool (!c.any (yr vs))):=by
 refine hb.tot ?_ (by rw[Qaw,XP];simp[pa,pc,Z0]) rfl;have e:=λ(st:St) (K Kp:AV->St->Prop)=>(jc3 hb 39 (.lptr [bsV vs] 0) (vj (by simp[Z0])) c hl (yr vs) (λx hx=>je9 hb vs x (hc x hx).1 (hc x hx).2)).xb (st:=st) (jD (zt (XP c)) (jD (vj (by simp[Z0]) _) qI)) (λst=>hb.no 29 dc _ _) K Kp;generalize bsV vs=v at *;generalize clV c=w at *;refine jH x38 (by rfl) (hb.pur 38 1 dc) ?_;simp only[y38,jv,ξ,τ,ψ,χ];rw[(by unfold z38;simp only[qq];rfl:z38=_)];repeat'(first|apply je<;>intro _|simp(disch:=first|exact dzB|fail) only[e,yI,r6,γ,ε,ζ,η,θ])
 exact G0.v rfl rfl
theorem jet (hb:NB base)(g:Nat)(u:AV)(c:List ClT)(hl:c.length<=BIG)(q:ClT->Bool)(hf:∀ x∈c,Tot base g [clV x,u] (.bool (q x))):PL δ base 37 [qJ c,.fn g [u]] (.ok (.int .i64 (fi q c))):=by
 refine Xf x37 (by rfl) (hb.pur 37 5 dc) rfl ?_;simp only[y37,jv,ξ,τ,ψ,χ];rw[(by unfold z37;simp only[qq];rfl:z37=_)];unfold BIG at hl;unfold qJ;repeat'(first|apply je<;>intro _|simp(disch:=first|exact dzB|fail) only[r6,γ,ε,ζ,η,θ])
 refine ya c.length (λk L s=>(∀ j (hj:j<c.length),j<k->q c[j]=false)/\Has L 0 (.lst c.length (fl clE c))/\Has L 1 (.fn g [u])) (by first|assumption|omega) dc (by simp(disch:=decide) only[jc,ja]) (by simp(disch:=decide) only[jc,ja]) ?_ (λk L s v h=>by simp(disch:=decide) only[ja];exact h) (λk L s v h=>by simp(disch:=decide) only[ja];exact h) (λk L s hk hI hi hn=>?_) (λL s hI=>?_)
 ·refine⟨λj _ hj=>absurd hj (QaP _),?_⟩;simp(disch:=decide) only[h12]
 ·obtain⟨h0,i0,i1⟩:=hI;have e:=hf c[k] (Qaf hk);repeat'(first|apply je<;>intro _|simp(disch:=first|exact dzB|fail) only[jb i0,jb i1,jb hi,jb hn,XW,e,r6,γ,ε,ζ,η,θ])
  ·rename_i h;exact G0.v (congrArg _ (V3 hk (λj hj=>h0 j om hj) (by simpa using h)).symm) rfl
  ·rename_i h;refine⟨⟨λj hj hjk=>?_,?_⟩,?_⟩
   ·rcases Qau j k with h2|h2
    ·have:=h0 j hj h2;simpa using this
    ·have:j=k:=om
     subst this;simpa using h
   ·simp(disch:=decide) only[h12,i0,i1]
   ·simp(disch:=decide) only[h12,hi,hn]
 ·obtain⟨h0,i0,i1⟩:=hI;repeat'(first|apply je<;>intro _|simp(disch:=first|exact dzB|fail) only[r6,γ,ε,ζ,η,θ])
  exact G0.v (congrArg _ (V1 λj hj=>h0 j hj hj).symm) rfl
def QL (vs:List Bool)(c:ClT):Bool:=!c.any (yr vs)
def yN (f:FmT)(vs:List Bool):Int×Int:=if jx f=true/\(vs.length:Int)=f.vars then(fi (QL vs) f.cls,0) else(0,21)
theorem vJ {f:FmT}{vs:List Bool}(h:jx f=true)(hl:(vs.length:Int)=f.vars):∀ c∈f.cls,ja5 vs c:=by
 intro c hc l hm;unfold jx at h;have h:=of_decide_eq_true h;have h5:=h.2.2.2.2 c hc;rw[Qbj] at h5;have h6:=h5 l hm;unfold zb at h6;simp at h6;have:=X7 l;omega
theorem gE (hb:NB base)(f:FmT)(hf:FmS f)(vs:List Bool)(hv:vs.length<=BIG):Tot base 18 [.agg (fmE f),bsV vs] (.tup [.int .i64 (yN f vs).1,.int .i64 (yN f vs).2]):=by
 refine hb.tot ?_ (by simp[zw,uu]) rfl;have eR:=Xp hb f hf;have e37:=λ(hr:jx f=true) (hl:(vs.length:Int)=f.vars)=>λ{st:St} {q:Nat} (C:Cl st q [bsV vs]) (K Kp:AV->St->Prop)=>(jet hb 38 (.lptr [bsV vs] 0) f.cls hf.1 (QL vs) (λx hx=>jfa hb vs x (hf.2 x hx) (vJ hr hl x hx))).xb (aZ':=[qJ f.cls,.fn 38 [.ptr q 0]]) (jD (zt (gp _)) (jD (K0 C (by simp[Z0]) (by rfl) _ rfl) qI)) (λst=>hb.no 37 dc _ _) K Kp;obtain⟨hf1,hf2⟩:=hf;unfold BIG at hv hf1;have ed:yN f vs=if jx f=true/\(vs.length:Int)=f.vars then(fi (QL vs) f.cls,0) else(0,21):=rfl
 refine jH x18 (by rfl) (hb.pur 18 1 dc) ?_;simp only[y18,jv,ξ,τ,ψ,χ];rw[(by unfold z18;simp only[qq];rfl:z18=_)];unfold fmE qJ at *;unfold bsV at *;cases hr:jx f with
 |false=>
  rw[hr] at eR;rw[ed,hr,if_neg (by simp)];repeat'(first|apply je<;>intro _|simp(disch:=first|exact dzB|fail) only[eR,r6,γ,ε,ζ,η,θ])
  exact FzD.tup (.cons (.pc rfl) (.cons (.pc rfl) .nil))
 |true=>
  rw[hr] at eR;by_cases hl:(vs.length:Int)=f.vars
  ·have E:=λ{st:St} {q:Nat} (C:Cl st q [bsV vs])=>e37 hr hl C;unfold bsV at E;rw[ed,hr,if_pos ⟨rfl,hl⟩];repeat'(first|apply je<;>intro _|simp(disch:=first|exact dzB|fail) only[eR,hl,r6,γ,ε,ζ,η,θ])
   refine Eq.mpr (E (by(first|exact cyB|fail)) _ _) ?_;repeat'(first|apply je<;>intro _|simp(disch:=first|exact dzB|fail) only[yI,r6,γ,ε,ζ,η,θ])
   exact FzD.tup (.cons (.pc rfl) (.cons (.pc rfl) .nil))
  ·rw[ed,hr,if_neg (λh=>hl h.2)];repeat'(first|apply je<;>intro _|simp(disch:=first|exact dzB|fail) only[eR,hl,r6,γ,ε,ζ,η,θ])
   exact FzD.tup (.cons (.pc rfl) (.cons (.pc rfl) .nil))
def qp (f:FmT)(vs:List Bool):Bool×Int:=(decide ((yN f vs).2=0) && decide ((yN f vs).1<0),(yN f vs).2)
theorem YO (hb:NB base)(f:FmT)(hf:FmS f)(vs:List Bool)(hv:vs.length<=BIG):PL δ base 16 [.agg (fmE f),bsV vs] (.ok (.tup [.bool (qp f vs).1,.int .i64 (qp f vs).2])):=by
 refine Xf x16 (by rfl) (hb.pur 16 5 dc) rfl ?_;simp only[y16,jv,ξ,τ,ψ,χ];rw[(by unfold z16;simp only[qq];rfl:z16=_)];have e:=gE hb f hf vs hv;unfold qp;unfold fmE qJ at *;generalize bsV vs=v at *;generalize yN f vs=p at *;repeat'(first|apply je<;>intro _|simp(disch:=first|exact dzB|fail) only[e,r6,γ,ε,ζ,η,θ])
 ·rename_i h;rw[decide_eq_true h,Bool.true_and];exact FzD.tup (.cons (.pc rfl) (.cons (.pc rfl) .nil))
 ·rename_i h;rw[decide_eq_false h,Bool.false_and];exact FzD.tup (.cons (.pc rfl) (.cons (.pc rfl) .nil))
theorem jch (hb:NB base)(f:FmT)(hf:FmS f)(vs:List Bool)(hv:vs.length<=BIG):Tot base 19 [.agg (fmE f),bsV vs] (.tup [.int .i64 (yN f vs).1,.int .i64 (yN f vs).2]):=by
 refine hb.tot ?_ (by simp[zw,uu]) rfl;have eR:=vB hb f hf;obtain⟨hf1,hf2⟩:=hf;unfold BIG at hv hf1;have ed:yN f vs=if jx f=true/\(vs.length:Int)=f.vars then(fi (QL vs) f.cls,0) else(0,21):=rfl
 have hR:=λhr hl=>@vJ f vs hr hl;refine jH x19 (by rfl) (hb.pur 19 1 dc) ?_;simp only[y19,jv,ξ,τ,ψ,χ];rw[(by unfold z19;simp only[qq];rfl:z19=_)];unfold fmE qJ at *;unfold bsV at *;cases hr:jx f with
 |false=>
  rw[hr] at eR;rw[ed,hr,if_neg (by simp)];repeat'(first|apply je<;>intro _|simp(disch:=first|exact dzB|fail) only[eR,r6,γ,ε,ζ,η,θ])
  exact FzD.tup (.cons (.pc rfl) (.cons (.pc rfl) .nil))
 |true=>
  rw[hr] at eR;by_cases hl:(vs.length:Int)=f.vars
  ·have hL:=hR hr hl;clear hR;rw[ed,hr,if_pos ⟨rfl,hl⟩];generalize f.vars=fv at *;generalize f.cls=cs at *;repeat'(first|apply je<;>intro _|simp(disch:=first|exact dzB|fail) only[eR,hl,r6,γ,ε,ζ,η,θ])
   refine ya cs.length (λk L s=>(∀ j (h:j<cs.length),j<k->QL vs cs[j]=false)/\Has L 1 (.lst vs.length (vs.map .bool))/\Has L 22 (.lst cs.length (fl clE cs))) (by first|assumption|omega) dc (by simp(disch:=decide) only[jc,ja]) (by simp(disch:=decide) only[jc,ja]) ?_ (λk L s v h=>by simp(disch:=decide) only[ja];exact h) (λk L s v h=>by simp(disch:=decide) only[ja];exact h) (λk L s hk hI hi hn=>?_) (λL s hI=>?_)
   ·refine⟨λj _ hj=>absurd hj (QaP _),?_⟩;simp(disch:=decide) only[h12]
   ·obtain⟨h0,i1,i22⟩:=hI;have hcl:=hf2 cs[k] (Qaf hk);have hLc:=hL cs[k] (Qaf hk);obtain⟨c,hc⟩:∃ c:ClT,c=cs[k]:=⟨_,rfl⟩;rw[<-hc] at hcl hLc;unfold BIG at hcl;have e5:∀ {st:St} {K:AV->St->Prop},jd (qX (.lptr (fl clE cs) k) st) K=K (clV c) st:=λ{st K}=>by rw[hc];exact XW hk
    repeat'(first|apply je<;>intro _|simp(disch:=first|exact dzB|fail) only[jb i1,jb i22,jb hi,jb hn,Zt,e5,r6,γ,ε,ζ,η,θ])
    refine ya c.length (λj L s=>Has L 8 (.bool ((c.take j).any (yr vs)))/\Has L 1 (.lst vs.length (vs.map .bool))/\Has L 22 (.lst cs.length (fl clE cs))/\Has L 29 (.lst c.length (c.map (.int .i32)))/\Has L 6 (.int .i64 k)/\Has L 23 (.int .i64 cs.length)/\Has L 24 (.int .i64 k)) (by first|assumption|omega) dc (by simp(disch:=decide) only[jc,ja]) (by simp(disch:=decide) only[jc,ja]) ?_ (λk L s v h=>by simp(disch:=decide) only[ja];exact h) (λk L s v h=>by simp(disch:=decide) only[ja];exact h) (λk2 L2 s2 hk2 hI2 hi2 hn2=>?_) (λL2 s2 hI2=>?_)
    ·refine⟨?_,?_,?_,?_,?_,?_,?_⟩
     ·rw[Qbc,List.any_nil];simp(disch:=decide) only[h12]
     ·simp(disch:=decide) only[h12,i1]
     ·simp(disch:=decide) only[h12,i22]
     ·show Has _ 29 (clV c);simp(disch:=decide) only[h12]
     ·simp(disch:=decide) only[h12]
     ·simp(disch:=decide) only[h12,hi,hn]
     ·simp(disch:=decide) only[h12,hi,hn]
    ·obtain⟨j8,j1,j22,j29,j6,j23,j24⟩:=hI2;have e6:=jeS hb c[k2] vs (hLc _ (Qaf hk2)).1 (hLc _ (Qaf hk2)).2;have e8:∀ {st:St} {K:AV->St->Prop},jd (qX (.lptr (c.map (.int .i32)) k2) st) K=K (.int .i32 c[k2]) st:=λ{st K}=>Yt hk2;have eT:(c.take (k2+1)).any (yr vs)=((c.take k2).any (yr vs) ||yr vs c[k2]):=by rw[JV hk2,List.any_append];simp
     rw[eT];cases hy:(c.take k2).any (yr vs) with
     |true=>
      rw[hy] at j8;repeat'(first|apply je<;>intro _|simp(disch:=first|exact dzB|fail) only[jb j8,jb j1,jb j22,jb j29,jb hi2,jb hn2,e6,e8,r6,γ,ε,ζ,η,θ])
      refine⟨⟨?_,?_,?_,?_,?_,?_,?_⟩,?_⟩
      ·rw[Bool.true_or];simp(disch:=decide) only[h12]
      ·simp(disch:=decide) only[h12,j1]
      ·simp(disch:=decide) only[h12,j22]
      ·simp(disch:=decide) only[h12,j29]
      ·simp(disch:=decide) only[h12,j6]
      ·simp(disch:=decide) only[h12,j23]
      ·simp(disch:=decide) only[h12,j24]
      ·simp(disch:=decide) only[h12,hi2,hn2]
     |false=>
      rw[hy] at j8;repeat'(first|apply je<;>intro _|simp(disch:=first|exact dzB|fail) only[jb j8,jb j1,jb j22,jb j29,jb hi2,jb hn2,e6,e8,r6,γ,ε,ζ,η,θ])
      refine⟨⟨?_,?_,?_,?_,?_,?_,?_⟩,?_⟩
      ·rw[Bool.false_or];simp(disch:=decide) only[h12]
      ·simp(disch:=decide) only[h12,j1]
      ·simp(disch:=decide) only[h12,j22]
      ·simp(disch:=decide) only[h12,j29]
      ·simp(disch:=decide) only[h12,j6]
      ·simp(disch:=decide) only[h12,j23]
      ·simp(disch:=decide) only[h12,j24]
      ·simp(disch:=decide) only[h12,hi2,hn2]
    ·obtain⟨j8,j1,j22,j29,j6,j23,j24⟩:=hI2;rw[Qay] at j8;have hq:QL vs cs[k] = !c.any (yr vs):=by rw[<-hc];rfl
     repeat'(first|apply je<;>intro _|simp(disch:=first|exact dzB|fail) only[jb j8,jb j1,jb j22,jb j6,jb j23,jb j24,r6,γ,ε,ζ,η,θ])
     ·rename_i h;rw[h] at hq;rw[V3 hk (λj hj=>h0 j om hj) hq];exact FzD.tup (.cons (.pc rfl) (.cons (.pc rfl) .nil))
     ·rename_i h;have h:c.any (yr vs)=true:=by simpa using h
      rw[h] at hq;refine⟨⟨λj hj hjk=>?_,?_⟩,?_⟩
      ·rcases Qau j k with h2|h2
       ·exact h0 j hj h2
       ·have:j=k:=om
        subst this;exact hq
      ·simp(disch:=decide) only[h12,j1,j22]
      ·simp(disch:=decide) only[h12,j23,j24]
   ·obtain⟨h0,i1,i22⟩:=hI;repeat'(first|apply je<;>intro _|simp(disch:=first|exact dzB|fail) only[r6,γ,ε,ζ,η,θ])
    rw[V1 λj hj=>h0 j hj hj];exact FzD.tup (.cons (.pc rfl) (.cons (.pc rfl) .nil))
  ·rw[ed,hr,if_neg (λh=>hl h.2)];repeat'(first|apply je<;>intro _|simp(disch:=first|exact dzB|fail) only[eR,hl,r6,γ,ε,ζ,η,θ])
   exact FzD.tup (.cons (.pc rfl) (.cons (.pc rfl) .nil))
theorem jdi {a:Nat}{st:St}{K:AV->St->Prop}(h:a<=9223372036854775807):jd (yZ .quo (.int .i64 (a:Int)) (.int .i64 10) st) K=K (.int .i64 ((a / 10:Nat):Int)) st:=by
 have e:yG .i64 ((a / 10:Nat):Int)=((a / 10:Nat):Int):=Qn om om;show K (.int .i64 (yG .i64 ((a / 10:Nat):Int))) st=_;rw[e]
theorem jdh {a:Nat}{st:St}{K:AV->St->Prop}:jd (yZ .rem (.int .i64 (a:Int)) (.int .i64 10) st) K=K (.int .i64 ((a % 10:Nat):Int)) st:=rfl
def yt (n:Nat):List Nat:=if n<10 then [48+n] else yt (n / 10) ++ [48+n % 10]
termination_by n
decreasing_by omega
def qi (n:Int):List Nat:=if n<0 then 45 :: yt (-n).toNat else yt n.toNat
theorem jeG:∀ n,n<10->(([48,49,50,51,52,53,54,55,56,57]:List Nat).drop n).take 1=[48+n]:=dc
theorem Qp:∀ (k n:Nat),n<10 ^ (k+1)->(yt n).length<=k+1
 |0,n,h=>by rw[yt,if_pos om];simp
 |k+1,n,h=>by
  rw[yt];by_cases h2:n<10
  ·rw[if_pos h2];simp
  ·rw[if_neg h2,υ];have:=Qp k (n / 10) (by rw[Nat.pow_succ] at h;omega);simp;omega
theorem ja8 (hb:NB base)(n:Nat)(h:n<=1000000000000000):Tot base 42 [.int .i64 (n:Int)] (.str (yt n)):=by
 induction n using Nat.strongRecOn with
 |_ n ih=>
 refine hb.tot ?_ rfl rfl;have hd:yt n=if n<10 then [48+n] else yt (n / 10) ++ [48+n % 10]:=by rw[yt]
 by_cases h2:n<10
 ·have g:=jeG n h2;have e1:((n:Int)+1 - (n:Int)).toNat=1:=om
  have e2:(n:Int)<10:=om
  refine jH x42 (by rfl) (hb.pur 42 1 dc) ?_;simp only[y42,jv,ξ,τ,ψ,χ];rw[(by unfold z42;simp only[qq];rfl:z42=_)];repeat'(first|apply je<;>intro _|simp(disch:=first|exact dzB|fail) only[e1,e2,g,r6,γ,ε,ζ,η,θ])
  exact G0.v (by rw[hd,if_pos h2]) rfl
 ·have i:=ih (n / 10) om om;have g:=jeG (n % 10) om;have e1:(((n % 10:Nat):Int)+1 - ((n % 10:Nat):Int)).toNat=1:=om
  have e2:¬ (n:Int)<10:=om
  have e0:¬ (n:Int)<0:=om
  have e3:(n % 10:Nat)+1<=10:=om
  have hl:=Qp 14 (n / 10) (by
   have:(10:Nat) ^ (14+1)=1000000000000000:=dc
   omega)
  refine jH x42 (by rfl) (hb.pur 42 1 dc) ?_;simp only[y42,jv,ξ,τ,ψ,χ];rw[(by unfold z42;simp only[qq];rfl:z42=_)];repeat'(first|apply je<;>intro _|simp(disch:=first|exact dzB|fail) only[e1,e2,e0,g,jdi,jdh,i,r6,γ,ε,ζ,η,θ])
  exact G0.v (by rw[hd,if_neg h2]) rfl
theorem G4 (hb:NB base)(n:Int)(h1 : -1000000000000000<=n)(h2:n<=1000000000000000):Tot base 42 [.int .i64 n] (.str (qi n)):=by
 by_cases h0:n<0
 ·obtain⟨m,hm⟩:∃ m:Nat,-n=(m:Int):=⟨(-n).toNat,om⟩;have D:=ja8 hb m om;have hl:=Qp 15 m (by
   have:(10:Nat) ^ (15+1)=10000000000000000:=dc
   omega)
  refine hb.tot ?_ rfl rfl;refine jH x42 (by rfl) (hb.pur 42 1 dc) ?_;simp only[y42,jv,ξ,τ,ψ,χ];rw[(by unfold z42;simp only[qq];rfl:z42=_)];repeat'(first|apply je<;>intro _|simp(disch:=first|exact dzB|fail) only[h0,hm,D,r6,γ,ε,ζ,η,θ])
  exact G0.v (by rw[qi,if_pos h0,hm];rfl) rfl
 ·obtain⟨m,hm⟩:∃ m:Nat,n=(m:Int):=⟨n.toNat,om⟩;subst hm;rw[qi,if_neg h0];exact ja8 hb m om
def Q3 (v n:Int):List Nat:=[112,32,99,110,102,32] ++ qi v ++ [32] ++ qi n ++ [10]
def zr (l:Int):List Nat:=qi l ++ [32]
def zx (c:ClT):List Nat:=c.flatMap zr ++ [48,10]
def fmW (f:FmT):List Nat:=Q3 f.vars f.cls.length ++ f.cls.flatMap zx
def zO (f:FmT):List Nat×Int:=if jx f=true then(fmW f,0) else([],21)
theorem Qq {n:Int}(h1 : -1000000000000000<=n)(h2:n<=1000000000000000):(qi n).length<=17:=by
 have e:(10:Nat) ^ (15+1)=10000000000000000:=dc
 unfold qi;split
 ·rw[Qad];have:=Qp 15 (-n).toNat om;omega
 ·have:=Qp 15 n.toNat om;omega
theorem W6 {v n:Int}(h1:0<=v)(h2:v<=262144)(h3:0<=n)(h4:n<=1048576):(Q3 v n).length<=42:=by
 have a:=Qq (n:=v) om om;have b:=Qq (n:=n) om om;unfold Q3;simp only[υ,Qad,Qah];omega
def SmL (c:ClT):Prop:=∀ l∈c,-262144<=l/\l<=262144
theorem WW:∀ {c:ClT},SmL c->(c.flatMap zr).length<=18 * c.length
 |[],_=>by simp
 |l :: c,h=>by
  have h1:=h l (by simp);have a:=Qq (n:=l) om om;have b:=WW (c:=c) (λx hx=>h x (by simp[hx]));rw[QaJ,υ,Qad];unfold zr at b ⊢;rw[υ,Qad,Qah];omega
theorem vt:∀ {cs:List ClT},(∀ c∈cs,SmL c)->(cs.flatMap zx).length<=2 * cs.length+18 * qb cs
 |[],_=>by simp[qb]
 |c :: cs,h=>by
  have a:=WW (h c (by simp));have b:=vt (cs:=cs) (λx hx=>h x (by simp[hx]));have e:qb (c :: cs)=c.length+qb cs:=by simp[qb]
  rw[QaJ,υ,Qad,e];have:(zx c).length=(c.flatMap zr).length+2:=by unfold zx;rw[υ];rfl
  omega
theorem YW {f:FmT}(h:jx f=true):0<=f.vars/\f.vars<=262144/\f.cls.length<=1048576/\qb f.cls<=4194304/\∀ c∈f.cls,SmL c:=by
 have h:=of_decide_eq_true h;refine⟨h.1,h.2.1,h.2.2.1,h.2.2.2.1,λc hc l hl=>?_⟩;have h5:=h.2.2.2.2 c hc;rw[Qbj] at h5;have h6:=h5 l hl;unfold zb at h6;simp at h6;have:=X7 l;obtain⟨_,h7,h8,_⟩:=Q1 (l:=l) om;exact⟨h7,h8⟩
set_option maxHeartbeats 4000000 in
theorem jcc (hb:NB base)(f:FmT)(hf:FmS f):Tot base 20 [.agg (fmE f)] (.tup [.str (zO f).1,.int .i64 (zO f).2]):=by
 refine hb.tot ?_ (by simp[zw]) rfl;have eR:=vB hb f hf;have ew:zO f=if jx f=true then(fmW f,0) else([],21):=rfl
 rw[ew];obtain⟨hf1,hf2⟩:=hf;refine jH x20 (by rfl) (hb.pur 20 1 dc) ?_;simp only[y20,jv,ξ,τ,ψ,χ];rw[(by unfold z20;simp only[qq];rfl:z20=_)];unfold fmE qJ at *;cases hr:jx f with
 |false=>
  rw[hr] at eR;rw[if_neg (by simp)];repeat'(first|apply je<;>intro _|simp(disch:=first|exact dzB|fail) only[eR,r6,γ,ε,ζ,η,θ])
  exact FzD.tup (.cons (.pc rfl) (.cons (.pc rfl) .nil))
 |true=>
  rw[hr] at eR;obtain⟨r1,r2,r3,r4,r5⟩:=YW hr;rw[if_pos rfl];have eW:fmW f=Q3 f.vars f.cls.length ++ f.cls.flatMap zx:=rfl;rw[eW];clear hr eW ew;generalize f.vars=fv at *;generalize f.cls=cs at *;have hH:=W6 (v:=fv) (n:=(cs.length:Int)) r1 r2 om om;have d1:=G4 hb fv om om;have d2:=G4 hb (cs.length:Int) om om;have dl1:=Qq (n:=fv) om om;have dl2:=Qq (n:=(cs.length:Int)) om om;have C0:Cl (Go.Sy.nw st0 [.int .i64 fv,.lst cs.length (fl clE cs)]) 0 [.int .i64 fv,.lst cs.length (fl clE cs)]:=Cl.new _ _;have a3:jM δ 3 (.ptr 0 0) (.int .i64 fv) (Go.Sy.nw st0 [.int .i64 fv,.lst cs.length (fl clE cs)]).h=true:=(sm3 (by rw[C0.len];simp) (C0.cell 0 (by simp)) rfl).mpr trivial;have a22:jM δ 22 (.ptr 0 1) (.lst cs.length (fl clE cs)) (Go.Sy.nw st0 [.int .i64 fv,.lst cs.length (fl clE cs)]).h=true:=(jec (by rw[C0.len];simp) (C0.cell 1 (by simp)) rfl).mpr trivial
  (have zz:=aI @dl1 (aI @dl2 @υ.{0});(repeat'(first|apply je<;>intro _|simp(disch:=first|exact qZ|fail) only[eR,d1,d2,a3,a22,dl1,dl2,υ,r6,γ,ε,ζ,η,θ]));all_goals clear zz)
  have hT:∀ k,((cs.take k).flatMap zx).length<=100000000:=λk=>by
   have h1:=vt (cs:=cs.take k) (λc hc=>r5 c (List.mem_of_mem_take hc));have h2:=US (l:=cs) k;have h3:(cs.take k).length<=cs.length:=by rw[QaL];omega
   omega
  refine ya cs.length (λk L s=>Has L 4 (.str (Q3 fv cs.length ++ (cs.take k).flatMap zx))/\Has L 24 (.lst cs.length (fl clE cs))) (by first|assumption|omega) dc (by simp(disch:=decide) only[jc,ja]) (by simp(disch:=decide) only[jc,ja]) ?_ (λk L s v h=>by simp(disch:=decide) only[ja];exact h) (λk L s v h=>by simp(disch:=decide) only[ja];exact h) (λk L s hk hI hi hn=>?_) (λL s hI=>?_)
  ·refine⟨?_,?_⟩
   ·rw[Qbc,List.flatMap_nil,Qaz];show Has _ 4 (.str (112 :: 32 :: 99 :: 110 :: 102 :: 32 :: (qi fv ++ [32] ++ qi cs.length ++ [10])));simp(disch:=decide) only[h12]
   ·simp(disch:=decide) only[h12]
  ·obtain⟨i4,i24⟩:=hI;have hcl:=hf2 cs[k] (Qaf hk);have hSm:=r5 cs[k] (Qaf hk);have hTk:=hT k;have hTk1:=hT (k+1);have eS:(cs.take (k+1)).flatMap zx=(cs.take k).flatMap zx ++ zx cs[k]:=by rw[JV hk,Qbb];simp
   have eS2:zx cs[k]=cs[k].flatMap zr ++ [48,10]:=rfl;obtain⟨c,hc⟩:∃ c:ClT,c=cs[k]:=⟨_,rfl⟩;rw[<-hc] at hcl hSm eS eS2;unfold BIG at hcl;have hcM:(c.flatMap zr).length<=100000000:=by
    rw[eS,υ,eS2,υ] at hTk1;omega
   have hcJ:∀ j,((c.take j).flatMap zr).length<=100000000:=λj=>by
    have h1:(c.flatMap zr).length=((c.take j).flatMap zr).length+((c.drop j).flatMap zr).length:=by rw[<-υ,<-Qbb,Qbt]
    omega
   rw[eS,eS2];generalize (cs.take k).flatMap zx=T at *;generalize Q3 fv cs.length=H at *;have e5:∀ {st:St} {K:AV->St->Prop},jd (qX (.lptr (fl clE cs) k) st) K=K (clV c) st:=λ{st K}=>by rw[hc];exact XW hk
   repeat'(first|apply je<;>intro _|simp(disch:=first|exact dzB|fail) only[jb i4,jb i24,jb hi,jb hn,Zt,e5,r6,γ,ε,ζ,η,θ])
   refine ya c.length (λj L s=>Has L 4 (.str (H ++ T ++ (c.take j).flatMap zr))/\Has L 24 (.lst cs.length (fl clE cs))/\Has L 30 (.lst c.length (c.map (.int .i32)))/\Has L 25 (.int .i64 cs.length)/\Has L 26 (.int .i64 k)) (by first|assumption|omega) dc (by simp(disch:=decide) only[jc,ja]) (by simp(disch:=decide) only[jc,ja]) ?_ (λk L s v h=>by simp(disch:=decide) only[ja];exact h) (λk L s v h=>by simp(disch:=decide) only[ja];exact h) (λk2 L2 s2 hk2 hI2 hi2 hn2=>?_) (λL2 s2 hI2=>?_)
   ·refine⟨?_,?_,?_,?_,?_⟩
    ·rw[Qbc,List.flatMap_nil,Qaz];simp(disch:=decide) only[h12,i4]
    ·simp(disch:=decide) only[h12,i24]
    ·show Has _ 30 (clV c);simp(disch:=decide) only[h12]
    ·simp(disch:=decide) only[h12,hi,hn]
    ·simp(disch:=decide) only[h12,hi,hn]
   ·obtain⟨j4,j24,j30,j25,j26⟩:=hI2;have hj:=hcJ k2;have sm:=hSm c[k2] (Qaf hk2);obtain⟨sm1,sm2⟩:=sm;have d3:=G4 hb c[k2] om om;have dl3:=Qq (n:=c[k2]) om om;have e8:∀ {st:St} {K:AV->St->Prop},jd (qX (.lptr (c.map (.int .i32)) k2) st) K=K (.int .i32 c[k2]) st:=λ{st K}=>Yt hk2;have eT:(c.take (k2+1)).flatMap zr=(c.take k2).flatMap zr ++ (qi c[k2] ++ [32]):=by rw[JV hk2,Qbb];simp[zr]
    rw[eT];generalize (c.take k2).flatMap zr=U at *;generalize qi c[k2]=D at *
    (have zz:=aI @dl3 @υ.{0};(repeat'(first|apply je<;>intro _|simp(disch:=first|exact qZ|fail) only[jb j4,jb j24,jb j30,jb hi2,jb hn2,d3,e8,r32,dl3,υ,r6,γ,ε,ζ,η,θ]));all_goals clear zz)
    refine⟨⟨?_,?_,?_,?_,?_⟩,?_⟩
    ·rw[<-QaN (H ++ T) U (D ++ [32])];simp(disch:=decide) only[h12]
    ·simp(disch:=decide) only[h12,j24]
    ·simp(disch:=decide) only[h12,j30]
    ·simp(disch:=decide) only[h12,j25]
    ·simp(disch:=decide) only[h12,j26]
    ·simp(disch:=decide) only[h12,hi2,hn2]
   ·obtain⟨j4,j24,j30,j25,j26⟩:=hI2;rw[Qay] at j4;generalize c.flatMap zr=U at *
    (have zz:=@υ.{0};(repeat'(first|apply je<;>intro _|simp(disch:=first|exact qZ|fail) only[jb j4,jb j24,jb j25,jb j26,υ,r6,γ,ε,ζ,η,θ]));all_goals clear zz)
    refine⟨⟨?_,?_⟩,?_⟩
    ·rw[<-QaN,<-QaN];simp(disch:=decide) only[h12]
    ·simp(disch:=decide) only[h12,j24]
    ·simp(disch:=decide) only[h12,j25,j26]
  ·obtain⟨i4,i24⟩:=hI;rw[Qay] at i4;repeat'(first|apply je<;>intro _|simp(disch:=first|exact dzB|fail) only[jb i4,r6,γ,ε,ζ,η,θ])
   exact FzD.tup (.cons (.pc rfl) (.cons (.pc rfl) .nil))
end Go.Sy
end
noncomputable section
namespace Go.Sy
open Go.Ev Go.RowKit
def Lw (lo hi:Nat)(s:St)(v:AV)(n:Nat)(cs:List AV)(z:Nat):Prop:=∃ b ex,v=.slice b 0 n n z ex/\(ex=true->n=0)/\cs.length=n * z/\Cl s b cs/\lo<=b/\b<hi
theorem Lw.new {s:St}{z lo hi:Nat}(h1:lo<=s.nx)(h2:s.nx<hi):Lw lo hi (nw s []) (.slice s.nx 0 0 0 z true) 0 [] z:=⟨s.nx,true,rfl,λ_=>rfl,by simp,Cl.new s [],h1,h2⟩
theorem Lw.fz {lo hi n z m d:Nat}{s:St}{v:AV}{cs:List AV}(h:Lw lo hi s v n cs z)(hm:m<=lo)(hp:cs.all pc=true):FzD m (d+2) s v (.lst n cs):=by
 obtain⟨b,ex,rfl,_,h3,h4,h5,h6⟩:=h;refine FzD.slice h4.rw_ (QbE h3.symm) om ?_;rw[<-h3,Qay];exact FzsD.pc hp
theorem Lw.nwO {lo hi n z:Nat}{s:St}{v:AV}{cs:List AV}(h:Lw lo hi s v n cs z)(ds:List AV):Lw lo hi (nw s ds) v n cs z:=by
 obtain⟨b,ex,h1,h2,h3,h4,h5,h6⟩:=h;exact⟨b,ex,h1,h2,h3,h4.nw ds,h5,h6⟩
structure ApL (lo:Nat)(s s':St):Prop where
 nx:s.nx<=s'.nx
 fr:s'.fr=s.fr
 cl:∀ c ds,c<lo->Cl s c ds->Cl s' c ds
theorem Lw.keep {lo hi lo2 n z:Nat}{s s':St}{v:AV}{cs:List AV}(h:Lw lo hi s v n cs z)(a:ApL lo2 s s')(hh:hi<=lo2):Lw lo hi s' v n cs z:=by
 obtain⟨b,ex,h1,h2,h3,h4,h5,h6⟩:=h;exact⟨b,ex,h1,h2,h3,a.cl b cs om h4,h5,h6⟩
theorem ApL.nwO (s:St)(ds:List AV):ApL s.nx s (nw s ds):=⟨by rw[jP];omega,by rw[JF],λc cs hc C=>C.nw ds⟩
theorem ApL.trans {lo lo2:Nat}{s t u:St}(a:ApL lo s t)(b:ApL lo2 t u)(h:lo<=lo2):ApL lo s u:=⟨ω a.nx b.nx,b.fr.trans a.fr,λc ds hc C=>b.cl c ds om (a.cl c ds hc C)⟩
theorem appL {lo hi n z n2 bytes:Nat}{s:St}{v:AV}{cs cs2:List AV}(h:Lw lo hi s v n cs z)(hhi:hi<=s.nx)(hl:cs2.length=n2 * z)(hz:0<z)(hby:(n+n2) * bytes<=140737488355328)(h63:n+n2<=9223372036854775807) :
  ∃ v' s',(∀ K:AV->St->Prop,jd (yQ z bytes v (.lst n2 cs2) s) K=K v' s')/\Lw lo s'.nx s' v' (n+n2) (cs ++ cs2) z/\ApL lo s s':=by
 obtain⟨b,ex,rfl,hex,h3,h4,h5,h6⟩:=h;obtain⟨m',zl',zz',ks',hg'⟩:=h4.row;have h4l:=h4.len;rw[qW hg'] at h4l;have e1:Qcd (Qcf n2 z) (jm cs2)=true:=jW (by rw[jp];exact QbE hl.symm);have e2:qD cs2 (Qcf n2 z)=cs2:=by rw[qt];exact(by rw[show Qcf n2 z=cs2.length from hl.symm,Qay])
 have e3:Qcb (jm cs2) (Qcf n2 z)=true:=Qb (by rw[jp];exact hl);by_cases h0:n2=0
 ·subst h0;have hc:cs2=[]:=QbG.1 om;subst hc;refine⟨_,s,λK=>?_,⟨b,ex,rfl,by simpa using hex,by simpa using h3,by simpa using h4,h5,om⟩,⟨ν _,rfl,λ_ _ _ c=>c⟩⟩;have e4:Qcd (Qce n 0) n=true:=jW (ν _);have e5:Qcb 0 0=true:=rfl;simp only[yQ,yP,firstCells,e1,cond_true,e2,qd,e3,hg',qz,ji,e4,e5,jd];rfl
 ·have e4:Qcd (Qce n n2) n=false:=GS (by show n<n+n2;omega);have e5:Qcd (Qcf (Qce n n2) bytes) 140737488355328=true:=jW hby;have e6:Qcd (Qce n n2) 9223372036854775807=true:=jW h63;cases ex with
  |true=>
   have hn:=hex rfl;subst hn;have hc:cs=[]:=QbG.1 om;subst hc;have e7:Qcd (Qce 0 (Qcf 0 z)) m'=true:=jW (by show 0+0 * z<=m';omega);have e8:jo zl' zz' ks' (Qcf 0 z) 0=[]:=by rw[jE,show Qcf 0 z=0 from QaT z];rfl
   have e9:qY [] cs2=cs2:=by rw[qN];rfl
   refine⟨.slice s.nx 0 (0+n2) (0+n2) z false,nw s cs2,λK=>?_,⟨s.nx,false,rfl,(λh=>by cases h),by rw[Qax,hl,Qan],Cl.new s _,om,by rw[jP];omega⟩,⟨by rw[jP];omega,by rw[JF],λc ds hc C=>C.nw _⟩⟩;simp only[yQ,yP,firstCells,e1,cond_true,e2,qd,e3,hg',qz,ji,e4,e5,e6,cond_false,e7,e8,e9,St.alloc_eq,jd];conv=>rhs;unfold nw
   rw[show Qcf (Qce 0 n2) z=cs2.length by rw[hl];exact congrArg (· * z) (Qan n2)];rfl
  |false=>
   have e7:Qcb z z=true:=Qb rfl;have e8:Qcb 0 0=true:=rfl;have e9:Qcb (Qcf n z) m'=true:=Qb (by rw[h4l,h3];rfl);have e10:Qcf (Qce n n2) z=m'+cs2.length:=by rw[hl,h4l,h3];exact QaF n n2 z
   have ea:ap s b cs2=⟨s.nx+1,(jz (jk s.nx)).run (.row (m'+cs2.length) zl' zz' (jI cs2 ks' m')) ((jz (jk b)).run .dead s.h),min s.dirty b,s.fr⟩:=by
    unfold ap apO;rw[hg']
   have hne:b≠s.nx:=om
   refine⟨.slice s.nx 0 (n+n2) (n+n2) z false,ap s b cs2,λK=>?_,⟨s.nx,false,rfl,(λh=>by cases h),by rw[υ,h3,hl,QaF],h4.ap cs2,om,by rw[ea];exact QaY _⟩,⟨by rw[ea];exact Nat.le_succ _,by rw[ea],λc ds hc C=>C.apO om⟩⟩;simp only[yQ,yP,firstCells,e1,cond_true,e2,qd,e3,hg',qz,ji,e4,e5,e6,cond_false,e7,e8,e9,St.put_eq,St.alloc_eq,jd];rw[e10,ea];rfl
end Go.Sy
end
noncomputable section
set_option maxRecDepth 100000
namespace Go.Sy
open Go.Ev Go.Proofs
variable {base:Bs}
def Lx (lo hi:Nat)(s:St)(v w:AV)(n:Nat)(cs:List AV)(z:Nat):Prop:=Lv lo hi s w n cs z/\(v=w\/(w=.nils/\∃ b,v=.slice b 0 0 0 z true/\Cl s b []/\lo<=b/\b<hi))
theorem jeP {lo hi n z bytes bv xc:Nat}{s:St}{v w:AV}{cs:List AV}{xx:Bool}{K:AV->St->Prop}(h:Lx lo hi s v w n cs z)(hz:0<z)(hby:(n+1) * bytes<=140737488355328)(h63:n+1<=9223372036854775807)(hv:z<=qh s.h bv) :
  jd (yQ z bytes v (.slice bv 0 1 xc z xx) s) K=K (apv z w s) (aps w s (rats s.h bv 0 z)):=by
 obtain⟨V,rfl|⟨rfl,b,rfl,C,_,_⟩⟩:=h
 ·exact jc8 V hz hby h63 hv
 ·have hn:n=0:=by
   rcases V with ⟨_,h0,_⟩|⟨b,e,_⟩
   ·exact h0
   ·cases e
  subst hn;obtain⟨m,zl,zz,ks,hg⟩:=zF (h:=s.h) (b:=bv) om;rw[qW hg] at hv;have e0:Qcf 1 z=z:=Qbq z;have e1:Qcd (Qce 0 z) m=true:=jW (by show 0+z<=m;omega);have er:jo zl zz ks z 0=rats s.h bv 0 z:=by
   rw[zU,jE];exact QaH λi _=>by rw[zq hg]
  have el:(rats s.h bv 0 z).length=z:=zk _ _ _ _;have e3:Qcb (jm (rats s.h bv 0 z)) z=true:=Qb (by rw[jp,el]);obtain⟨m',zl',zz',ks',hg'⟩:=C.row;have h4l:=C.len;rw[qW hg'] at h4l;have f4:Qcd (Qce 0 1) 0=false:=rfl;have f5:Qcd (Qcf (Qce 0 1) bytes) 140737488355328=true:=jW hby;have f6:Qcd (Qce 0 1) 9223372036854775807=true:=rfl;have e7:Qcd (Qce 0 (Qcf 0 z)) m'=true:=jW (by show 0+0 * z<=m';omega);have e8:jo zl' zz' ks' (Qcf 0 z) 0=[]:=by rw[jE,show Qcf 0 z=0 from QaT z];rfl
  have e9:∀ l:List AV,qY [] l=l:=λl=>by rw[qN];rfl
  have e10:Qcf (Qce 0 1) z=z:=by show(0+1) * z=z;omega
  simp only[yQ,yP,firstCells,hg,hg',qz,ji,e0,e1,cond_true,er,qd,e3,f4,f5,f6,cond_false,e7,e8,e9,e10,St.alloc_eq,jd];unfold apv Go.Sy.aps nw;rw[el]
def In1 (s:St)(lo hi b0:Nat)(x:AV)(l:ClT):Prop:=x=clV l\/(x=.nils/\l=[])\/∃ c ex,x=.slice c 0 l.length l.length 1 ex/\Cl s c (l.map (.int .i32))/\lo<=c/\c<hi/\c≠b0
def InL (s:St)(lo hi b0:Nat):List AV->List ClT->Prop
 |[],[]=>True
 |x :: xs,l :: ls=>In1 s lo hi b0 x l/\InL s lo hi b0 xs ls
 |_,_=>False
structure ApX (lo hi:Nat)(s s':St):Prop where
 nx:s.nx<=s'.nx
 fr:s'.fr=s.fr
 cl:∀ c ds,(c<lo\/hi<=c)->Cl s c ds->Cl s' c ds
section
variable {lo hi b0:Nat} {s s':St}
theorem InL.mono {lo' hi' b1:Nat}:∀ {xs:List AV} {ls:List ClT},InL s lo hi b0 xs ls->(∀ x l,In1 s lo hi b0 x l->In1 s' lo' hi' b1 x l)->InL s' lo' hi' b1 xs ls
 |[],[],h,f=>trivial
 |x :: xs,l :: ls,h,f=>⟨f _ _ h.1,InL.mono h.2 f⟩
 |[],_ :: _,h,f=>h.elim
 |_ :: _,[],h,f=>h.elim
theorem InL.len:∀ {xs:List AV} {ls:List ClT},InL s lo hi b0 xs ls->xs.length=ls.length
 |[],[],_=>rfl
 |x :: xs,l :: ls,h=>by rw[Qad,Qad,InL.len h.2]
 |[],_ :: _,h=>h.elim
 |_ :: _,[],h=>h.elim
theorem InL.app {x:AV}{l:ClT}(h1:In1 s lo hi b0 x l):∀ {xs:List AV} {ls:List ClT},InL s lo hi b0 xs ls->InL s lo hi b0 (xs ++ [x]) (ls ++ [l])
 |[],[],_=>⟨h1,trivial⟩
 |y :: xs,k :: ls,h=>⟨h.1,InL.app h1 h.2⟩
 |[],_ :: _,h=>h.elim
 |_ :: _,[],h=>h.elim
theorem InL.get:∀ {xs:List AV} {ls:List ClT} {k:Nat} (hk:k<ls.length) (h:InL s lo hi b0 xs ls),In1 s lo hi b0 (xs.getD k .bad) ls[k]
 |x :: xs,l :: ls,0,_,h=>h.1
 |x :: xs,l :: ls,k+1,hk,h=>InL.get (xs:=xs) (ls:=ls) (k:=k) (by simpa using hk) h.2
 |[],_ :: _,_,_,h=>h.elim
 |_ :: _,[],k,hk,_=>absurd hk (QaP k)
 |[],[],k,hk,_=>absurd hk (QaP k)
theorem In1.fz {m d:Nat}{x:AV}{l:ClT}(h:In1 s lo hi b0 x l)(hm:m<=lo):FzD m (d+2) s x (clV l):=by
 rcases h with rfl|⟨rfl,rfl⟩|⟨c,ex,rfl,C,h1,_⟩
 ·exact FzD.pa (jaT l)
 ·exact FzD.nils
 ·refine FzD.slice C.rw_ (by simp) om ?_;rw[Qbs (by simp)];exact FzsD.pc (wm _)
theorem InL.fz {m d:Nat}(hm:m<=lo):∀ {xs:List AV} {ls:List ClT},InL s lo hi b0 xs ls->FzsD m (d+2) s xs (fl clE ls)
 |[],[],_=>FzsD.nil
 |x :: xs,l :: ls,h=>FzsD.cons (h.1.fz hm) (InL.fz hm h.2)
 |[],_ :: _,h=>h.elim
 |_ :: _,[],h=>h.elim
end
theorem jeQ {b n z bytes bv xc:Nat}{s:St}{cs news:List AV}{xx:Bool}{K:AV->St->Prop}(C:Cl s b cs)(hl:cs.length=n * z)(hz:0<z)(hby:(n+1) * bytes<=140737488355328)(h63:n+1<=9223372036854775807)(hv:z<=qh s.h bv)(hr:rats s.h bv 0 z=news) :
  jd (yQ z bytes (.slice b 0 n n z true) (.slice bv 0 1 xc z xx) s) K=K (.slice s.nx 0 (n+1) (n+1) z false) (nw s (cs ++ news)):=by
 obtain⟨m,zl,zz,ks,hg⟩:=zF (h:=s.h) (b:=bv) om;rw[qW hg] at hv;have e0:Qcf 1 z=z:=Qbq z;have e1:Qcd (Qce 0 z) m=true:=jW (by show 0+z<=m;omega);have er:jo zl zz ks z 0=news:=by
  rw[<-hr,zU,jE];exact QaH λi _=>by rw[zq hg]
 have el:news.length=z:=by rw[<-hr];exact zk _ _ _ _
 have e3:Qcb (jm news) z=true:=Qb (by rw[jp,el]);obtain⟨m',zl',zz',ks',hg'⟩:=C.row;have h4l:=C.len;rw[qW hg'] at h4l;have f4:Qcd (Qce n 1) n=false:=GS (by show n<n+1;omega);have f5:Qcd (Qcf (Qce n 1) bytes) 140737488355328=true:=jW hby;have f6:Qcd (Qce n 1) 9223372036854775807=true:=jW h63;have e7:Qcd (Qce 0 (Qcf n z)) m'=true:=jW (by show 0+n * z<=m';omega);have e8:jo zl' zz' ks' (Qcf n z) 0=cs:=by
  have h:=C.rats0 hl;rw[zU] at h;rw[jE,<-h];exact QaH λi _=>by rw[zq hg']
 have e9:qY cs news=cs ++ news:=by rw[qN]
 have e10:Qcf (Qce n 1) z=(cs ++ news).length:=by rw[υ,hl,el];exact QaZ n z
 simp only[yQ,yP,firstCells,hg,hg',qz,ji,e0,e1,cond_true,er,qd,e3,f4,f5,f6,cond_false,e7,e8,e9,e10,St.alloc_eq,jd];rfl
def LL (lo hi:Nat)(s:St)(v:AV)(ls:List ClT):Prop:=(ls=[]/\(v=.nils\/∃ b,v=.slice b 0 0 0 1 true/\Cl s b []/\lo<=b/\b<hi))\/∃ b cs ex,v=.slice b 0 ls.length ls.length 1 ex/\ls≠[]/\Cl s b cs/\lo<=b/\b<hi/\InL s lo hi b cs ls
section
variable {lo hi:Nat} {s s':St} {v:AV} {ls:List ClT}
theorem LL.len {b:Nat}{n m:Nat}{x:Bool}(h:LL lo hi s (.slice b 0 n m 1 x) ls):n=ls.length:=by
 rcases h with ⟨rfl,h|⟨c,h,_⟩⟩|⟨c,cs,ex,h,_⟩
 ·cases h
 ·cases h;rfl
 ·cases h;rfl
theorem LL.lenV {K:AV->St->Prop}(h:LL lo hi s v ls)(st:St):jd (lenV v st) K=K (.int .i64 (ls.length:Int)) st:=by
 rcases h with ⟨rfl,rfl|⟨c,rfl,_⟩⟩|⟨c,cs,ex,rfl,_⟩<;>rfl
theorem LL.keep (h:LL lo hi s v ls){lo2 hi2:Nat}(a:ApX lo2 hi2 s s')(hh:hi<=lo2\/hi2<=lo):LL lo hi s' v ls:=by
 rcases h with ⟨rfl,rfl|⟨b,rfl,C,h1,h2⟩⟩|⟨b,cs,ex,rfl,hn,C,h1,h2,I⟩
 ·exact .inl ⟨rfl,.inl rfl⟩
 ·exact .inl ⟨rfl,.inr ⟨b,rfl,a.cl _ _ om C,h1,h2⟩⟩
 ·refine .inr ⟨b,cs,ex,rfl,hn,a.cl _ _ om C,h1,h2,I.mono λx l k=>?_⟩;rcases k with rfl|⟨rfl,rfl⟩|⟨c,ex,rfl,D,k1,k2,k3⟩
  ·exact .inl rfl
  ·exact .inr (.inl ⟨rfl,rfl⟩)
  ·exact .inr <| .inr ⟨c,ex,rfl,a.cl _ _ om D,k1,k2,k3⟩
theorem LL.down {lo':Nat}(h:LL lo hi s v ls)(hh:lo'<=lo):LL lo' hi s v ls:=by
 rcases h with ⟨rfl,rfl|⟨b,rfl,C,h1,h2⟩⟩|⟨b,cs,ex,rfl,hn,C,h1,h2,I⟩
 ·exact .inl ⟨rfl,.inl rfl⟩
 ·exact .inl ⟨rfl,.inr ⟨b,rfl,C,om,h2⟩⟩
 ·refine .inr ⟨b,cs,ex,rfl,hn,C,om,h2,I.mono λx l k=>?_⟩;rcases k with rfl|⟨rfl,rfl⟩|⟨c,ex,rfl,D,k1,k2,k3⟩
  ·exact .inl rfl
  ·exact .inr (.inl ⟨rfl,rfl⟩)
  ·exact .inr <| .inr ⟨c,ex,rfl,D,om,k2,k3⟩
theorem ApX.nw (s:St)(ds:List AV):ApX s.nx (s.nx+1) s (nw s ds):=⟨by rw[jP];omega,JF _ _,λc cs hc C=>C.nw ds⟩
theorem ApX.wr (s:St)(b o:Nat)(vs:List AV):ApX b (b+1) s (wr s b o vs):=⟨ν _,rfl,λc cs hc C=>C.wrO om o vs⟩
theorem ApX.of {lo2:Nat}(a:ApL lo2 s s'):ApX lo2 s'.nx s s':=⟨a.nx,a.fr,λc ds hc C=>by
 rcases hc with hc|hc
 ·exact a.cl c ds hc C
 ·exact absurd C.lt (by have:=a.nx;omega)⟩
theorem LL.fzd {m d:Nat}(h:LL lo hi s v ls)(hm:m<=lo):FzD m (d+3) s v (.lst ls.length (fl clE ls)):=by
 rcases h with ⟨rfl,rfl|⟨b,rfl,C,h1,h2⟩⟩|⟨b,cs,ex,rfl,hn,C,h1,h2,I⟩
 ·exact FzD.nils
 ·exact FzD.slice C.rw_ (by simp) om FzsD.nil
 ·refine FzD.slice C.rw_ (by rw[I.len];omega) om ?_;rw[Qbs (by rw[I.len];omega)];exact I.fz hm
theorem LL.lend (h:LL lo hi s v ls):lend s.h v=some (.lst ls.length (fl clE ls)):=by
 obtain⟨ks,h1,_⟩:=h.fzd (m:=0) (d:=6) (Qaa _);rcases h with ⟨rfl,rfl|⟨b,rfl,_⟩⟩|⟨b,cs,ex,rfl,_⟩
 ·rfl
 ·show(fz 9 s.h _).map (·.1)=_;rw[h1];rfl
 ·show(fz 9 s.h _).map (·.1)=_;rw[h1];rfl
theorem LL.app {bytes bv xc:Nat}{xx:Bool}{x:AV}{l:ClT}(h:LL lo hi s v ls)(C:Cl s bv [x])(hx:x=clV l\/(x=.nils/\l=[])\/∃ c ex,x=.slice c 0 l.length l.length 1 ex/\Cl s c (l.map (.int .i32))/\lo<=c/\hi<=c)(hl:lo<=s.nx)(hhi:hi<=s.nx)(hby:(ls.length+1) * bytes<=140737488355328)(h63:ls.length+1<=9223372036854775807) :
  ∃ v' s',(∀ K:AV->St->Prop,jd (yQ 1 bytes v (.slice bv 0 1 xc 1 xx) s) K=K v' s')/\LL lo s'.nx s' v' (ls ++ [l])/\ApX lo hi s s':=by
 have hr:rats s.h bv 0 1=[x]:=by have:=C.ratsP 1 0 (by simp);simpa using this
 have hv1:1<=qh s.h bv:=by rw[C.len];exact ν 1
 have new1:∀ {s'':St},(∀ c ds,hi<=c->Cl s c ds->Cl s'' c ds)->s''.nx=s.nx+1->In1 s'' lo s''.nx s.nx x l:=λ{s''} hk hn=>by
  rcases hx with rfl|⟨rfl,rfl⟩|⟨c,ex,rfl,D,k0,k1⟩
  ·exact .inl rfl
  ·exact .inr (.inl ⟨rfl,rfl⟩)
  ·exact .inr <| .inr ⟨c,ex,rfl,hk _ _ k1 D,by have:=D.lt;omega,by have:=D.lt;omega,QbC D.lt⟩
 have start:∀ w,(w=v\/w=.nils)->LL lo hi s v ls->ls=[]->Lx lo hi s v .nils 0 [] 1->∃ v' s',(∀ K:AV->St->Prop,jd (yQ 1 bytes v (.slice bv 0 1 xc 1 xx) s) K=K v' s')/\LL lo s'.nx s' v' (ls ++ [l])/\ApX lo hi s s':=λw _ _ e X=>by
  subst e;refine⟨apv 1 .nils s,aps .nils s (rats s.h bv 0 1),λK=>jeP X dc hby h63 hv1,?_,?_⟩
  ·rw[hr];exact .inr ⟨s.nx,[x],false,rfl,by simp,Cl.new s _,hl,by rw[qo];omega,⟨new1 (λc ds _ D=>D.nw _) (qo _ _ _),trivial⟩⟩
  ·exact⟨by rw[qo];omega,by rw[XJ],λc ds _ D=>D.nw _⟩
 have h0:=h;rcases h with ⟨e,rfl|⟨b,rfl,D,h1,h2⟩⟩|⟨b,cs,ex,rfl,hn,D,h1,h2,I⟩
 ·exact start .nils (.inl rfl) h0 e ⟨Lv.nil,.inl rfl⟩
 ·exact start _ (.inl rfl) h0 e ⟨Lv.nil,.inr ⟨rfl,b,rfl,D,h1,h2⟩⟩
 ·have fin:∀ s':St,s'.nx=s.nx+1->s'.fr=s.fr->(∀ c ds,c≠b->Cl s c ds->Cl s' c ds)->Cl s' s.nx (cs ++ [x])->LL lo s'.nx s' (.slice s.nx 0 (ls.length+1) (ls.length+1) 1 false) (ls ++ [l])/\ApX lo hi s s':=λs' en ef ek eC=>by
   refine⟨.inr ⟨s.nx,cs ++ [x],false,by simp,by simp,eC,hl,om,InL.app (new1 (λc ds hc E=>ek _ _ om E) en) (I.mono λy k q=>?_)⟩,⟨om,ef,λc ds hc E=>ek _ _ om E⟩⟩;rcases q with rfl|⟨rfl,rfl⟩|⟨c,ex,rfl,E,k1,k2,k3⟩
   ·exact .inl rfl
   ·exact .inr (.inl ⟨rfl,rfl⟩)
   ·exact .inr <| .inr ⟨c,ex,rfl,ek _ _ k3 E,k1,by have:=E.lt;omega,QbC E.lt⟩
  cases ex with
  |false=>
   have V:Lv lo hi s (.slice b 0 ls.length ls.length 1 false) ls.length cs 1:=.inr ⟨b,rfl,List.length_pos_iff.2 hn,by rw[I.len];omega,D,h1,h2⟩;refine⟨apv 1 (.slice b 0 ls.length ls.length 1 false) s,aps (.slice b 0 ls.length ls.length 1 false) s (rats s.h bv 0 1),λK=>jc8 V dc hby h63 hv1,?_⟩;rw[hr];exact fin _ (qo _ _ _) (XJ _ _ _) (λc ds hc E=>E.apO hc) (D.ap [x])
  |true=>
   refine⟨.slice s.nx 0 (ls.length+1) (ls.length+1) 1 false,Go.Sy.nw s (cs ++ [x]),λK=>jeQ (cs:=cs) D (by rw[I.len];omega) dc hby h63 hv1 hr,?_⟩;exact fin _ rfl rfl (λc ds hc E=>E.nw _) (Cl.new s _)
end
theorem jfs {lo hi n z n2 bytes:Nat}{s:St}{v x:AV}{cs cs2:List AV}(h:Lw lo hi s v n cs z)(h1:∀ k:Nat->ER,yP x k=k n2)(h2:∀ k:List AV->ER,firstCells s z n2 x k=k cs2)(hhi:hi<=s.nx)(hl:cs2.length=n2 * z)(hz:0<z)(hby:(n+n2) * bytes<=140737488355328)(h63:n+n2<=9223372036854775807) :
  ∃ v' s',(∀ K:AV->St->Prop,jd (yQ z bytes v x s) K=K v' s')/\Lw lo s'.nx s' v' (n+n2) (cs ++ cs2) z/\ApL lo s s':=by
 obtain⟨v',s',e,r1,r2⟩:=appL (bytes:=bytes) (n2:=n2) (cs2:=cs2) h hhi hl hz hby h63;refine⟨v',s',λK=>?_,r1,r2⟩;rw[<-e K];have e1:Qcd (Qcf n2 z) (jm cs2)=true:=jW (by rw[jp];exact QbE hl.symm);have e2:qD cs2 (Qcf n2 z)=cs2:=by rw[qt];exact(by rw[show Qcf n2 z=cs2.length from hl.symm,Qay])
 unfold yQ;rw[h1,h2];simp only[yP,firstCells,e1,cond_true,e2]
def Lg (lo hi:Nat)(s:St)(v:AV)(n:Nat)(cs:List AV)(z:Nat):Prop:=(v=.nils/\n=0/\cs=[])\/Lw lo hi s v n cs z
theorem Lg.nil {lo hi z:Nat}{s:St}:Lg lo hi s .nils 0 [] z:=.inl ⟨rfl,rfl,rfl⟩
theorem Lg.fz {lo hi n z m d:Nat}{s:St}{v:AV}{cs:List AV}(h:Lg lo hi s v n cs z)(hm:m<=lo)(hp:cs.all pc=true):FzD m (d+2) s v (.lst n cs):=by
 rcases h with ⟨rfl,rfl,rfl⟩|h
 ·exact FzD.nils
 ·exact h.fz hm hp
theorem Lg.keep {lo hi lo2 n z:Nat}{s s':St}{v:AV}{cs:List AV}(h:Lg lo hi s v n cs z)(a:ApL lo2 s s')(hh:hi<=lo2):Lg lo hi s' v n cs z:=h.imp id λh=>h.keep a hh
theorem Lg.nwO {lo hi n z:Nat}{s:St}{v:AV}{cs:List AV}(h:Lg lo hi s v n cs z)(ds:List AV):Lg lo hi (nw s ds) v n cs z:=h.imp id λh=>h.nwO ds
theorem Lg.lenV {lo hi n z:Nat}{s:St}{v:AV}{cs:List AV}{K:AV->St->Prop}(h:Lg lo hi s v n cs z)(st:St):jd (lenV v st) K=K (.int .i64 (n:Int)) st:=by
 rcases h with ⟨rfl,rfl,rfl⟩|⟨b,ex,rfl,_⟩<;>rfl
theorem Lg.app {lo hi n z n2 bytes:Nat}{s:St}{v x:AV}{cs cs2:List AV}(h:Lg lo hi s v n cs z)(h1:∀ k:Nat->ER,yP x k=k n2)(h2:∀ k:List AV->ER,firstCells s z n2 x k=k cs2)(hlo:lo<=s.nx)(hhi:hi<=s.nx)(hl:cs2.length=n2 * z)(hz:0<z)(hby:(n+n2) * bytes<=140737488355328)(h63:n+n2<=9223372036854775807) :
  ∃ v' s',(∀ K:AV->St->Prop,jd (yQ z bytes v x s) K=K v' s')/\Lg lo s'.nx s' v' (n+n2) (cs ++ cs2) z/\ApL lo s s':=by
 rcases h with ⟨rfl,rfl,rfl⟩|h
 ·have e3:Qcb (jm cs2) (Qcf n2 z)=true:=Qb (by rw[jp];exact hl);by_cases h0:n2=0
  ·subst h0;have hc:cs2=[]:=QbG.1 om;subst hc;have e5:Qcb 0 0=true:=rfl;refine⟨.nils,s,λK=>?_,.inl ⟨rfl,rfl,rfl⟩,⟨ν _,rfl,λ_ _ _ c=>c⟩⟩;unfold yQ;rw[h1,h2];simp only[qd,e3,e5,cond_true,jd]
  ·have e4:Qcb n2 0=false:=jfh h0;have e5:Qcd (Qcf n2 bytes) 140737488355328=true:=jW (by rw[Qan] at hby;exact hby);have e6:Qcd n2 9223372036854775807=true:=jW om;refine⟨.slice s.nx 0 n2 n2 z false,nw s cs2,λK=>?_,.inr ⟨s.nx,false,by rw[Qan],(λh=>by cases h),by rw[Qax,hl,Qan],by rw[Qax];exact Cl.new s _,hlo,by rw[jP];omega⟩,⟨by rw[jP];omega,by rw[JF],λc ds hc C=>C.nw _⟩⟩;unfold yQ;rw[h1,h2];simp only[qd,e3,e4,e5,e6,cond_true,cond_false,ji,St.alloc_eq,jd];conv=>rhs;unfold nw
   rw[show Qcf n2 z=cs2.length from hl.symm]
 ·obtain⟨v',s',e,r1,r2⟩:=jfs (bytes:=bytes) h h1 h2 hhi hl hz hby h63;exact⟨v',s',e,.inr r1,r2⟩
theorem jdw {n z:Nat}{cs:List AV}{s:St}(hl:cs.length=n * z)(k:List AV->ER):firstCells s z n (.lst n cs) k=k cs:=by
 have e1:Qcd (Qcf n z) (jm cs)=true:=jW (by rw[jp];exact QbE hl.symm);have e2:qD cs (Qcf n z)=cs:=by rw[qt];exact(by rw[show Qcf n z=cs.length from hl.symm,Qay])
 simp only[firstCells,e1,cond_true,e2]
theorem jem {b n m z z2:Nat}{x:Bool}{s:St}{cs:List AV}(C:Cl s b cs)(hl:cs.length=n * z)(k:List AV->ER):firstCells s z n (.slice b 0 n m z2 x) k=k cs:=by
 obtain⟨m',zl',zz',ks',hg'⟩:=C.row;have h4l:=C.len;rw[qW hg'] at h4l;have e1:Qcf n z=cs.length:=hl.symm;have e7:Qcd (Qce 0 cs.length) m'=true:=jW (by show 0+cs.length<=m';omega);have e8:jo zl' zz' ks' cs.length 0=cs:=by
  have h:=C.rats0 rfl;rw[zU] at h;rw[jE];conv=>rhs;rw[<-h]
  exact QaH λi _=>by rw[zq hg']
 simp only[firstCells,hg',qz,e1,ji,e7,cond_true,e8]
theorem Lg.app1 {lo hi n bytes bv xc:Nat}{s:St}{v x:AV}{xx:Bool}{cs:List AV}(h:Lg lo hi s v n cs 1)(C:Cl s bv [x])(hlo:lo<=s.nx)(hhi:hi<=s.nx)(hby:(n+1) * bytes<=140737488355328)(h63:n+1<=9223372036854775807) :
 ∃ v' s',(∀ K:AV->St->Prop,jd (yQ 1 bytes v (.slice bv 0 1 xc 1 xx) s) K=K v' s')/\Lg lo s'.nx s' v' (n+1) (cs ++ [x]) 1/\ApL lo s s':=h.app (n2:=1) (λk=>rfl) (λk=>jem C rfl k) hlo hhi rfl dc hby h63
theorem Lg.appL {lo hi n n2 bytes:Nat}{s:St}{v:AV}{cs cs2:List AV}(h:Lg lo hi s v n cs 1)(hlo:lo<=s.nx)(hhi:hi<=s.nx)(hl:cs2.length=n2)(hby:(n+n2) * bytes<=140737488355328)(h63:n+n2<=9223372036854775807) :
 ∃ v' s',(∀ K:AV->St->Prop,jd (yQ 1 bytes v (.lst n2 cs2) s) K=K v' s')/\Lg lo s'.nx s' v' (n+n2) (cs ++ cs2) 1/\ApL lo s s':=h.app (n2:=n2) (λk=>rfl) (λk=>jdw om k) hlo hhi om dc hby h63
def yE (c:Nat):Bool:=decide (c=32) ||decide (c=9)
def jt:List Nat->List Nat->List (List Nat)
 |w,[]=>if w=[] then [] else [w]
 |w,c :: r=>if yE c=true then(if w=[] then jt [] r else w :: jt [] r) else jt (w ++ [c]) r
def yv (l:List Nat):Bool:=match l with|[]=>false|c :: r=>decide (c=99) && (match r with|[]=>true|d :: _=>yE d)
def qc (l:List Nat):List (List Nat):=if yv l=true then [] else jt [] l
def qf:List Nat->List Nat->List (List Nat)
 |l,[]=>qc l
 |l,c :: r=>if c=10 then qc l ++ qf [] r else qf (l ++ [c]) r
def qn (s:List Nat):List (List Nat):=qf [] s
theorem zW:∀ (w r:List Nat),(jt w r).length<=w.length+r.length
 |w,[]=>by
  unfold jt;split
  ·simp
  ·have:w.length≠0:=λh=>by simp_all
   simp;omega
 |w,c :: r=>by
  unfold jt;have h0:=zW [] r;have h1:=zW (w ++ [c]) r;simp only[Qah,υ,Qad] at h0 h1 ⊢;split
  ·split
   ·omega
   ·have:w.length≠0:=λh=>by simp_all
    simp only[Qad];omega
  ·omega
theorem WX (l:List Nat):(qc l).length<=l.length:=by
 unfold qc;split
 ·simp
 ·have:=zW [] l;simpa using this
theorem Jm:∀ (l r:List Nat),(qf l r).length<=l.length+r.length
 |l,[]=>by unfold qf;have:=WX l;simpa using this
 |l,c :: r=>by
  unfold qf;have h:=WX l;have h0:=Jm [] r;have h1:=Jm (l ++ [c]) r;simp only[Qah,υ,Qad] at h0 h1 ⊢;split
  ·simp only[υ];omega
  ·omega
theorem uN:∀ l:List (List Nat),(l.map AV.str).all pc=true
 |[]=>rfl
 |x :: xs=>by rw[ξ,Qaw,uN xs];rfl
def ssV (l:List (List Nat)):AV:=.lst l.length (l.map .str)
theorem jbq (l:List Nat):yv l=(decide (0<l.length) && decide (l.getD 0 0=99) && (decide (l.length=1) ||decide (l.getD 1 0=32) ||decide (l.getD 1 0=9))):=by
 match l with
 |[]=>rfl
 |[c]=>simp[yv]
 |c :: d :: r=>simp[yv,yE]
theorem YK {l:List Nat}{i:Nat}(h:i<l.length):l.drop i=l.getD i 0 :: l.drop (i+1):=by
 rw[QbD h,Qag,Qac h];rfl
def jcG (s line:List Nat)(i:Nat)(tot:List (List Nat))(mm:Nat)(L:Sl)(S:St):Prop:=∃ (k:Nat) (w:List Nat) (acc':List (List Nat)) (v':AV),mm=line.length+1 - k/\k<=line.length+1/\w.length<=k/\(k<=line.length->acc' ++ jt w (line.drop k)=tot)/\(k=line.length+1->acc'=tot)/\Lg 0 S.nx S v' acc'.length (acc'.map .str) 1/\Has L 0 (.str s)/\Has L 3 v'/\Has L 4 (.str line)/\Has L 5 (.int .i64 (i:Int))/\Has L 6 (.bool false)/\Has L 7 (.str w)/\Has L 8 (.int .i64 (k:Int))
set_option maxHeartbeats 4000000 in
theorem jeb (hb:NB base){s line:List Nat}{i:Nat}{acc:List (List Nat)}{v:AV}{L:Sl}{S:St}{Q:Out->Prop}{Kp:AV->Sl->St->Prop}(hl:line.length<=1000000001)(ha:acc.length+line.length<=2000000002)(V:Lg 0 S.nx S v acc.length (acc.map .str) 1)
  (i0:Has L 0 (.str s)) (i3:Has L 3 v) (i4:Has L 4 (.str line)) (i5:Has L 5 (.int .i64 (i:Int))) (i6:Has L 6 (.bool (yv line)))
  (hQ:∀ L' S' v',Lg 0 S'.nx S' v' (acc ++ qc line).length ((acc ++ qc line).map .str) 1->Has L' 0 (.str s)->Has L' 3 v'->Has L' 4 (.str [])->Has L' 5 (.int .i64 (i:Int))->Zo (Q (.go L' S'))):xC δ base Uc L S Q Kp:=by
 rw[(by unfold Uc;simp only[qq];rfl:Uc=_)];cases hr:yv line with
 |true=>
  have hw:qc line=[]:=by unfold qc;rw[hr];rfl
  rw[hr] at i6;rw[hw,Qaz] at hQ;repeat'(first|apply je<;>intro _|simp(disch:=first|exact dzB|fail) only[jb i4,r6,γ,ε,ζ,η,θ])
  refine Xq (λmm L S'=>S'=S/\Has L 0 (.str s)/\Has L 3 v/\Has L 4 (.str line)/\Has L 5 (.int .i64 (i:Int))/\Has L 6 (.bool true)/\Has L 8 (.int .i64 0)) ?_ 0 ?_
  ·rintro mm L' S' ⟨rfl,j0,j3,j4,j5,j6,j8⟩;have h0:(0:Int)<=(line.length:Int):=om
   repeat'(first|apply je<;>intro _|simp(disch:=first|exact dzB|fail) only[jb j4,jb j6,jb j8,h0,r6,γ,ε,ζ,η,θ])
   refine hQ _ _ _ V ?_ ?_ ?_ ?_
   ·simp(disch:=decide) only[h12,j0]
   ·simp(disch:=decide) only[h12,j3]
   ·simp(disch:=decide) only[h12]
   ·simp(disch:=decide) only[h12,j5]
  ·refine⟨rfl,?_,?_,?_,?_,?_,?_⟩
   ·simp(disch:=decide) only[h12,i0]
   ·simp(disch:=decide) only[h12,i3]
   ·simp(disch:=decide) only[h12,i4]
   ·simp(disch:=decide) only[h12,i5]
   ·simp(disch:=decide) only[h12,i6]
   ·simp(disch:=decide) only[h12]
 |false=>
  have hw:qc line=jt [] line:=by unfold qc;rw[hr];rfl
  rw[hr] at i6;rw[hw] at hQ;have hfl:=zW [] line;rw[Qah,Qan] at hfl;obtain⟨tot,htot⟩:∃ tot,tot=acc ++ jt [] line:=⟨_,rfl⟩;rw[<-htot] at hQ;have htl:tot.length<=2000000002:=by rw[htot,υ];omega
  repeat'(first|apply je<;>intro _|simp(disch:=first|exact dzB|fail) only[jb i4,r6,γ,ε,ζ,η,θ])
  refine Xq (λmm L S'=>jcG s line i tot mm L S') ?_ (line.length+1) ?_
  ·rintro mm L' S' ⟨k,w,acc',v',rfl,hk,hwk,h0,h1,V',j0,j3,j4,j5,j6,j7,j8⟩;by_cases hle:k<=line.length
   ·have h0:=h0 hle;clear h1;have hle':(k:Int)<=(line.length:Int):=om
    have hal:acc'.length<=2000000002:=by
     have:=congrArg QaX h0;rw[υ] at this;omega
    have finA:w=[]->(k<line.length->yE (line.getD k 0)=true)->(k+1<=line.length->acc' ++ jt [] (line.drop (k+1))=tot)/\(k+1=line.length+1->acc'=tot):=λhw hc=>by
     subst hw;refine⟨λh=>?_,λh=>?_⟩
     ·rw[<-h0,YK (l:=line) (i:=k) om,jt,if_pos (hc om),if_pos rfl]
     ·rw[<-h0,Qbk om,jt,if_pos rfl,Qaz]
    have finB:w≠[]->(k<line.length->yE (line.getD k 0)=true)->(k+1<=line.length->(acc' ++ [w]) ++ jt [] (line.drop (k+1))=tot)/\(k+1=line.length+1->acc' ++ [w]=tot):=λhw hc=>by
     refine⟨λh=>?_,λh=>?_⟩
     ·rw[<-h0,YK (l:=line) (i:=k) om,jt,if_pos (hc om),if_neg hw,QaN];rfl
     ·rw[<-h0,Qbk om,jt,if_neg hw]
    have goA:∀ L2 w2 acc2 v2 S2,(k+1<=line.length->acc2 ++ jt w2 (line.drop (k+1))=tot)/\(k+1=line.length+1->acc2=tot)->w2.length<=k+1->Lg 0 S2.nx S2 v2 acc2.length (acc2.map .str) 1->Has L2 0 (.str s)->Has L2 3 v2->Has L2 4 (.str line)->Has L2 5 (.int .i64 (i:Int))->Has L2 6 (.bool false)->Has L2 7 (.str w2)->Has L2 8 (.int .i64 ((k:Int)+1))->∃ k',k'<line.length+1 - k/\jcG s line i tot k' L2 S2:=λL2 w2 acc2 v2 S2 q ql V2 a0 a3 a4 a5 a6 a7 a8=>⟨line.length+1 - (k+1),om,k+1,w2,acc2,v2,rfl,om,ql,q.1,q.2,V2,a0,a3,a4,a5,a6,a7,by rw[Int.natCast_add];exact a8⟩;obtain⟨v2,s2,eA,V2,A2⟩:=(V'.nwO [.str w]).app1 (bytes:=16) (xc:=1) (xx:=true) (Cl.new S' [.str w]) (Qaa _) (by rw[jP];omega) om om;have V2:Lg 0 s2.nx s2 v2 (acc' ++ [w]).length ((acc' ++ [w]).map .str) 1:=by rw[υ,QaI];exact V2
    by_cases hlt:k<line.length
    ·have hlt':(k:Int)<(line.length:Int):=om
     have hd:=YK hlt;have e1:((k:Int)+1 - (k:Int)).toNat=1:=om
     have e2:(line.drop k).take 1=[line.getD k 0]:=by rw[hd];rfl
     rw[hd] at h0;generalize hc:line.getD k 0=c at *;have z9:((c:Int)=9)=(c=9):=by rw[eq_iff_iff];omega
     have z32:((c:Int)=32)=(c=32):=by rw[eq_iff_iff];omega
     have hn:yE c=false->(k+1<=line.length->acc' ++ jt (w ++ [c]) (line.drop (k+1))=tot)/\(k+1=line.length+1->acc'=tot):=λhb=>⟨λ_=>by rw[<-h0];conv=>rhs;rw[jt,if_neg (by rw[hb];decide)],λh=>by omega⟩;have hb1:c=32->yE c=true:=λh=>by simp[yE,h]
     have hb2:c=9->yE c=true:=λh=>by simp[yE,h]
     have hb3:¬ c=32->¬ c=9->yE c=false:=λh h2=>by simp[yE,h,h2]
     repeat'(first|apply je<;>intro _|simp(disch:=first|exact dzB|fail) only[jb j4,jb j6,jb j7,jb j3,jb j8,hle',hlt',hc,z9,z32,e1,e2,eA,r6,γ,ε,ζ,η,θ])
     all_goals first
      |(refine goA _ _ _ _ _ (hn (hb3 (by assumption) (by assumption))) (by rw[υ,QaR];omega) V' ?_ ?_ ?_ ?_ ?_ ?_ ?_;(all_goals first|(simp(disch:=decide) only[jc,ja];done)|(simp(disch:=decide) only[ja];assumption)))
      |(refine goA _ _ _ _ _ (finB (by assumption) (λ_=>by first|exact hb1 (QaQ.1 (by assumption))|exact hb2 (QaQ.1 (by assumption)))) (Qaa _) V2 ?_ ?_ ?_ ?_ ?_ ?_ ?_;(all_goals first|(simp(disch:=decide) only[jc,ja];done)|(simp(disch:=decide) only[ja];assumption)))
      |(refine goA _ _ _ _ _ (finA (QaQ.1 (by assumption)) (λ_=>by first|exact hb1 (QaQ.1 (by assumption))|exact hb2 (QaQ.1 (by assumption)))) (Qaa _) V' ?_ ?_ ?_ ?_ ?_ ?_ ?_;(all_goals first|(simp(disch:=decide) only[jc,ja];done)|(simp(disch:=decide) only[ja];assumption)))
    ·have hlt':¬ (k:Int)<(line.length:Int):=om
     repeat'(first|apply je<;>intro _|simp(disch:=first|exact dzB|fail) only[jb j4,jb j6,jb j7,jb j3,jb j8,hle',hlt',eA,r6,γ,ε,ζ,η,θ])
     all_goals first
      |(refine goA _ _ _ _ _ (finB (by assumption) (λh=>absurd h hlt)) (Qaa _) V2 ?_ ?_ ?_ ?_ ?_ ?_ ?_;(all_goals first|(simp(disch:=decide) only[jc,ja];done)|(simp(disch:=decide) only[ja];assumption)))
      |(refine goA _ _ _ _ _ (finA (QaQ.1 (by assumption)) (λh=>absurd h hlt)) (Qaa _) V' ?_ ?_ ?_ ?_ ?_ ?_ ?_;(all_goals first|(simp(disch:=decide) only[jc,ja];done)|(simp(disch:=decide) only[ja];assumption)))
   ·have hle':¬ (k:Int)<=(line.length:Int):=om
    have h1:=h1 om;repeat'(first|apply je<;>intro _|simp(disch:=first|exact dzB|fail) only[jb j4,jb j6,jb j8,hle',r6,γ,ε,ζ,η,θ])
    subst h1;refine hQ _ _ _ V' ?_ ?_ ?_ ?_
    ·simp(disch:=decide) only[h12,j0]
    ·simp(disch:=decide) only[h12,j3]
    ·simp(disch:=decide) only[h12]
    ·simp(disch:=decide) only[h12,j5]
  ·refine⟨0,[],acc,v,rfl,om,ν _,λ_=>htot.symm,λh=>by omega,V,?_,?_,?_,?_,?_,?_,?_⟩
   ·simp(disch:=decide) only[h12,i0]
   ·simp(disch:=decide) only[h12,i3]
   ·simp(disch:=decide) only[h12,i4]
   ·simp(disch:=decide) only[h12,i5]
   ·simp(disch:=decide) only[h12,i6]
   ·simp(disch:=decide) only[h12]
   ·simp(disch:=decide) only[h12]
theorem jeo (hb:NB base){s line:List Nat}{i:Nat}{acc:List (List Nat)}{v:AV}{L:Sl}{S:St}{Q:Out->Prop}{Kp:AV->Sl->St->Prop}(hl:line.length<=1000000001)(ha:acc.length+line.length<=2000000002)(V:Lg 0 S.nx S v acc.length (acc.map .str) 1)
  (i0:Has L 0 (.str s)) (i3:Has L 3 v) (i4:Has L 4 (.str line)) (i5:Has L 5 (.int .i64 (i:Int)))
  (hQ:∀ L' S' v',Lg 0 S'.nx S' v' (acc ++ qc line).length ((acc ++ qc line).map .str) 1->Has L' 0 (.str s)->Has L' 3 v'->Has L' 4 (.str [])->Has L' 5 (.int .i64 (i:Int))->Zo (Q (.go L' S'))):xC δ base gG L S Q Kp:=by
 have hr:=jbq line;rw[(by unfold gG;simp only[qq];rfl:gG=_)];have z9':(((line.getD 0 0:Nat):Int)=99)=(line.getD 0 0=99):=by rw[eq_iff_iff];omega
 have z32':(((line.getD 1 0:Nat):Int)=32)=(line.getD 1 0=32):=by rw[eq_iff_iff];omega
 have z09':(((line.getD 1 0:Nat):Int)=9)=(line.getD 1 0=9):=by rw[eq_iff_iff];omega
 have go:∀ b,yv line=b->xC δ base Uc ((6,.bool b) :: L) S Q Kp:=λb hb6=>jeb hb hl ha V (by simp(disch:=decide) only[h12,i0]) (by simp(disch:=decide) only[h12,i3]) (by simp(disch:=decide) only[h12,i4]) (by simp(disch:=decide) only[h12,i5]) (by rw[hb6];simp(disch:=decide) only[h12]) hQ;repeat'(first|apply je<;>intro _|simp(disch:=first|exact dzB|fail) only[jb i4,z9',z32',z09',r6,γ,ε,ζ,η,θ])
 all_goals
  refine go _ ?_;rw[hr];generalize line.getD 0 0=c at *;generalize line.getD 1 0=d at *;have hp:((0:Int)<(line.length:Int))=(0<line.length):=by rw[eq_iff_iff];omega
  have h1:((line.length:Int)=1)=(line.length=1):=by rw[eq_iff_iff];omega
  simp only[hp,h1] at *;clear hp h1 go hQ hr V;first
   |(have a:0<line.length:=(by assumption);rw[decide_eq_true a];first
    |(have b:c=99:=(by assumption);rw[decide_eq_true b];first
     |(have e:line.length=1:=(by assumption);rw[decide_eq_true e];rfl)
     |(have e:¬ line.length=1:=(by assumption);rw[decide_eq_false e];first
      |(have g:d=32:=(by assumption);rw[decide_eq_true g];rfl)
      |(have g:¬ d=32:=(by assumption);rw[decide_eq_false g];simp)))
    |(have b:¬ c=99:=(by assumption);rw[decide_eq_false b];rfl))
   |(have a:¬ 0<line.length:=(by assumption);rw[decide_eq_false a];rfl)
set_option maxHeartbeats 4000000 in
theorem jbe (hb:NB base)(s:List Nat)(hs:s.length<=1000000000):Tot base 35 [.str s] (ssV (qn s)):=by
 refine hb.tot ?_ rfl rfl;have hwl:(qn s).length<=s.length:=by have:=Jm [] s;unfold qn;simpa using this
 refine jH x35 (by rfl) (hb.pur 35 1 dc) ?_;simp only[y35,jv,ξ,τ,ψ,χ];rw[(by unfold z35;simp only[qq];rfl:z35=_)];repeat'(first|apply je<;>intro _|simp(disch:=first|exact dzB|fail) only[r6,γ,ε,ζ,η,θ])
 refine Xq (λmm L S=>∃ (i:Nat) (line:List Nat) (acc:List (List Nat)) (v:AV),mm=s.length+1 - i/\i<=s.length+1/\line.length<=i/\(i<=s.length->acc ++ qf line (s.drop i)=qn s)/\(i=s.length+1->acc=qn s)/\Lg 0 S.nx S v acc.length (acc.map .str) 1/\Has L 0 (.str s)/\Has L 3 v/\Has L 4 (.str line)/\Has L 5 (.int .i64 (i:Int))) ?_ (s.length+1) ?_
 ·rintro mm L S ⟨i,line,acc,v,rfl,hi,hl,h0,h1,V,i0,i3,i4,i5⟩;by_cases hle:i<=s.length
  ·have h0:=h0 hle;clear h1;have hle':(i:Int)<=(s.length:Int):=om
   have hal:acc.length<=1000000000:=by
    have:=congrArg QaX h0;rw[υ] at this;omega
   have L35:=λ(Q:Out->Prop) (Kp:AV->Sl->St->Prop) (L':Sl) k0 k3 k4 k5 hQ=>@jeo base hb s line i acc v L' S Q Kp om om V k0 k3 k4 k5 hQ;have fin:(i<s.length->s.getD i 0=10)->(i+1<=s.length->(acc ++ qc line) ++ qf [] (s.drop (i+1))=qn s)/\(i+1=s.length+1->acc ++ qc line=qn s):=λhc=>by
    refine⟨λh=>?_,λh=>?_⟩
    ·rw[<-h0,YK (l:=s) (i:=i) om,qf,if_pos (hc om),QaN]
    ·rw[<-h0,Qbk om,qf]
   by_cases hlt:i<s.length
   ·have hlt':(i:Int)<(s.length:Int):=om
    have hd:=YK hlt;have e1:((i:Int)+1 - (i:Int)).toNat=1:=om
    have e2:(s.drop i).take 1=[s.getD i 0]:=by rw[hd];rfl
    rw[hd] at h0;generalize hc:s.getD i 0=c at *;have z9:((c:Int)=10)=(c=10):=by rw[eq_iff_iff];omega
    by_cases hc10:c=10
    ·have fin:=fin λ_=>hc10;repeat'(first|apply je<;>intro _|simp(disch:=first|exact dzB|fail) only[jb i0,jb i3,jb i4,jb i5,hle',hlt',hc,z9,hc10,r6,γ,ε,ζ,η,θ])
     refine L35 _ _ _ (by simp(disch:=decide) only[ja];exact i0) (by simp(disch:=decide) only[ja];exact i3) (by simp(disch:=decide) only[ja];exact i4) (by simp(disch:=decide) only[ja];exact i5) ?_;rintro L' S' v' V' k0 k3 k4 k5;unfold Zo;repeat'(first|apply je<;>intro _|simp(disch:=first|exact dzB|fail) only[jb k5,r6,γ,ε,ζ,η,θ])
     refine⟨s.length+1 - (i+1),om,i+1,[],acc ++ qc line,v',rfl,om,Qaa _,fin.1,fin.2,V',?_,?_,?_,?_⟩;all_goals first
      |(simp(disch:=decide) only[jc,ja];done)
      |(simp(disch:=decide) only[ja];assumption)
      |(show Has _ 5 (.int .i64 ((i:Int)+1));simp(disch:=decide) only[jc,ja];done)
    ·have hw:qf line (c :: s.drop (i+1))=qf (line ++ [c]) (s.drop (i+1)):=by rw[qf,if_neg hc10]
     rw[hw] at h0;repeat'(first|apply je<;>intro _|simp(disch:=first|exact dzB|fail) only[jb i0,jb i3,jb i4,jb i5,hle',hlt',hc,z9,hc10,e1,e2,r6,γ,ε,ζ,η,θ])
     refine⟨s.length+1 - (i+1),om,i+1,line ++ [c],acc,v,rfl,om,by rw[υ,QaR];omega,λ_=>h0,λh=>by omega,V,?_,?_,?_,?_⟩;all_goals first
      |(simp(disch:=decide) only[jc,ja];done)
      |(simp(disch:=decide) only[ja];assumption)
      |(show Has _ 5 (.int .i64 ((i:Int)+1));simp(disch:=decide) only[jc,ja];done)
   ·have hlt':¬ (i:Int)<(s.length:Int):=om
    have fin:=fin λh=>absurd h hlt;repeat'(first|apply je<;>intro _|simp(disch:=first|exact dzB|fail) only[jb i0,jb i3,jb i4,jb i5,hle',hlt',r6,γ,ε,ζ,η,θ])
    refine L35 _ _ _ (by simp(disch:=decide) only[ja];exact i0) (by simp(disch:=decide) only[ja];exact i3) (by simp(disch:=decide) only[ja];exact i4) (by simp(disch:=decide) only[ja];exact i5) ?_;rintro L' S' v' V' k0 k3 k4 k5;unfold Zo;repeat'(first|apply je<;>intro _|simp(disch:=first|exact dzB|fail) only[jb k5,r6,γ,ε,ζ,η,θ])
    refine⟨s.length+1 - (i+1),om,i+1,[],acc ++ qc line,v',rfl,om,Qaa _,fin.1,fin.2,V',?_,?_,?_,?_⟩;all_goals first
     |(simp(disch:=decide) only[jc,ja];done)
     |(simp(disch:=decide) only[ja];assumption)
     |(show Has _ 5 (.int .i64 ((i:Int)+1));simp(disch:=decide) only[jc,ja];done)
  ·have hle':¬ (i:Int)<=(s.length:Int):=om
   have h1:=h1 om;repeat'(first|apply je<;>intro _|simp(disch:=first|exact dzB|fail) only[jb i0,jb i3,jb i5,hle',r6,γ,ε,ζ,η,θ])
   subst h1;exact V.fz (Qaa _) (uN _)
 ·refine⟨0,[],[],.slice 0 0 0 0 1 true,rfl,om,ν _,λ_=>rfl,λh=>by omega,.inr (Lw.new (s:=st0) (Qaa _) (QaY _)),?_,?_,?_,?_⟩
  ·simp(disch:=decide) only[h12]
  ·simp(disch:=decide) only[h12]
  ·simp(disch:=decide) only[h12]
  ·show Has _ 5 (.int .i64 0);simp(disch:=decide) only[h12]
def qe (c:Nat):Bool:=decide (48<=c) && decide (c<=57)
def yO (d:List Nat):Nat:=d.foldl (λv c=>10 * v+(c - 48)) 0
def yd (s:List Nat):Bool:=decide (s.getD 0 0=45) && decide (0<s.length)
def jY (s:List Nat):List Nat:=if yd s=true then s.drop 1 else s
def qu (s:List Nat):Option Int:=if 1<=(jY s).length/\(jY s).length<=9/\(jY s).all qe=true then some (if yd s=true then -(yO (jY s):Int) else(yO (jY s):Int)) else none
theorem Hi {d:List Nat}{k:Nat}(h:k<d.length):yO (d.take (k+1))=10 * yO (d.take k)+(d.getD k 0 - 48):=by
 unfold yO;rw[JV h,List.foldl_append,Qag,Qac h];rfl
theorem uJ:∀ (k:Nat) {d:List Nat},(∀ j,j<k->qe (d.getD j 0)=true)->k<=d.length->yO (d.take k)<10 ^ k
 |0,d,_,_=>by simp[yO]
 |k+1,d,h,hk=>by
  rw[Hi om,Nat.pow_succ];have h1:=uJ k (d:=d) (λj hj=>h j om) om;have h2:=h k om;unfold qe at h2;rw[Qaj,decide_eq_true_eq,decide_eq_true_eq] at h2;omega
def Yl (m:Bool)(d:List Nat):Option Int:=if 1<=d.length/\d.length<=9/\d.all qe=true then some (if m=true then -(yO d:Int) else(yO d:Int)) else none
theorem uU (s:List Nat):qu s=Yl (yd s) (jY s):=rfl
theorem jd2 {a:Nat}{st:St}{K:AV->St->Prop}(h1:48<=a)(h2:a<=255):jd (yZ .sub (.int .u8 (a:Int)) (.int .u8 48) st) K=K (.int .u8 ((a - 48:Nat):Int)) st:=by
 have e:yG .u8 ((a:Int) - 48)=((a - 48:Nat):Int):=by rw[Jd,IntWalk.u8_in _ ⟨om,om⟩];omega
 have:(zR .sub).run .u8 (a:Int) 48=some (.int .u8 ((a - 48:Nat):Int)):=by show some (AV.int .u8 (yG .u8 ((a:Int) - 48)))=_;rw[e]
 simp only[yZ,zm,cond_true,this,ju,jd]
theorem Wp {d:List Nat}:d.all qe=true↔∀ j,j<d.length->qe (d.getD j 0)=true:=by
 rw[Qal];constructor
 ·intro h j hj;rw[Qag,Qac hj];exact h _ (Qaf hj)
 ·intro h x hx;obtain⟨j,hj,rfl⟩:=QbO.1 hx;have:=h j hj;rwa [Qag,Qac hj] at this
theorem Gc (hb:NB base){d:List Nat}{m:Bool}{L:Sl}{S:St}(hd:d.length<=1000000000)(i0:Has L 0 (.str d))(i4:Has L 4 (.bool m)) :
  xC δ base gF L S (Zf δ [RV.t 2,RV.t 3] (J6 G0 (Oc.ok (.tup [.int .i64 ((Yl m d).getD 0),.bool (Yl m d).isSome])))) λv x s=>JZ G0 (Oc.ok (.tup [.int .i64 ((Yl m d).getD 0),.bool (Yl m d).isSome])) v s.bare:=by
 have hn:Yl m d=if 1<=d.length/\d.length<=9/\d.all qe=true then some (if m=true then -(yO d:Int) else(yO d:Int)) else none:=rfl
 rw[(by unfold gF;simp only[qq];rfl:gF=_)];by_cases h1:1<=d.length
 ·by_cases h9:d.length<=9
  ·have h1':¬ (d.length:Int)<1:=om
   have h9':¬ 9<(d.length:Int):=om
   repeat'(first|apply je<;>intro _|simp(disch:=first|exact dzB|fail) only[jb i0,h1',h9',r6,γ,ε,ζ,η,θ])
   refine Xq (λmm L S'=>∃ k,mm=d.length - k/\k<=d.length/\(∀ j,j<k->qe (d.getD j 0)=true)/\Has L 0 (.str d)/\Has L 4 (.bool m)/\Has L 5 (.int .i64 (yO (d.take k):Nat))/\Has L 6 (.int .i64 (k:Int))) ?_ d.length ?_
   ·rintro mm L' S' ⟨k,rfl,hk,hj,j0,j4,j5,j6⟩;have hv:=uJ k hj hk;have hv9:(10:Nat) ^ k<=10 ^ 9:=Nat.pow_le_pow_right dc om;have e9:(10:Nat) ^ 9=1000000000:=dc
    rw[e9] at hv9;by_cases hlt:k<d.length
    ·have hlt':(k:Int)<(d.length:Int):=om
     have hS:=Hi hlt;generalize hc:d.getD k 0=c at *;have z48:((c:Int)<48)=(c<48):=by rw[eq_iff_iff];omega
     have z57:(57<(c:Int))=(57<c):=by rw[eq_iff_iff];omega
     have hf:(c<48\/57<c)->Yl m d=none:=λh=>by
      rw[hn,if_neg];rintro ⟨_,_,h3⟩;have:=Wp.1 h3 k hlt;rw[hc] at this;unfold qe at this;rw[Qaj,decide_eq_true_eq,decide_eq_true_eq] at this;omega
     generalize yO (d.take k)=V at *;repeat'(first|apply je<;>intro _|simp(disch:=first|exact dzB|fail) only[jb j0,jb j6,jb j5,hlt',hc,z48,z57,jd2,Uv,r6,γ,ε,ζ,η,θ])
     ·rename_i h;rw[hf (.inl h)];exact FzD.tup (.cons (.pc rfl) (.cons (.pc rfl) .nil))
     ·rename_i h;rw[hf (.inr h)];exact FzD.tup (.cons (.pc rfl) (.cons (.pc rfl) .nil))
     ·rename_i h2 h3;refine⟨d.length - (k+1),om,k+1,rfl,om,λj hjk=>?_,?_,?_,?_,?_⟩
      ·rcases Qau j k with h4|h4
       ·exact hj j h4
       ·have:j=k:=om
        subst this;rw[hc];unfold qe;rw[decide_eq_true om,decide_eq_true om];rfl
      ·simp(disch:=decide) only[h12,j0]
      ·simp(disch:=decide) only[h12,j4]
      ·rw[hS];have e10:((10 * V+(c - 48):Nat):Int)=10 * (V:Int)+((c - 48:Nat):Int):=om
       rw[e10];simp(disch:=decide) only[h12]
      ·show Has _ 6 (.int .i64 ((k:Int)+1));simp(disch:=decide) only[h12]
    ·have hlt':¬ (k:Int)<(d.length:Int):=om
     obtain rfl:k=d.length:=om
     have hs:Yl m d=some (if m=true then -(yO d:Int) else(yO d:Int)):=by rw[hn,if_pos (aI h1 (aI h9 (Wp.2 hj)))]
     rw[Qay] at j5 hv;cases m with
     |true=>
      rw[if_pos rfl] at hs;rw[hs];repeat'(first|apply je<;>intro _|simp(disch:=first|exact dzB|fail) only[jb j0,jb j6,jb j5,jb j4,hlt',r6,γ,ε,ζ,η,θ])
      exact FzD.tup (.cons (.pc rfl) (.cons (.pc rfl) .nil))
     |false=>
      rw[if_neg dc] at hs;rw[hs];repeat'(first|apply je<;>intro _|simp(disch:=first|exact dzB|fail) only[jb j0,jb j6,jb j5,jb j4,hlt',r6,γ,ε,ζ,η,θ])
      exact FzD.tup (.cons (.pc rfl) (.cons (.pc rfl) .nil))
   ·refine⟨0,rfl,Qaa _,λj hj=>absurd hj (QaP _),?_,?_,?_,?_⟩
    ·simp(disch:=decide) only[h12,i0]
    ·simp(disch:=decide) only[h12,i4]
    ·show Has _ 5 (.int .i64 0);simp(disch:=decide) only[h12]
    ·show Has _ 6 (.int .i64 0);simp(disch:=decide) only[h12]
  ·have h1':¬ (d.length:Int)<1:=om
   have h9':9<(d.length:Int):=om
   have e:Yl m d=none:=by rw[hn,if_neg (λh=>h9 h.2.1)]
   rw[e];repeat'(first|apply je<;>intro _|simp(disch:=first|exact dzB|fail) only[jb i0,h1',h9',r6,γ,ε,ζ,η,θ])
   exact FzD.tup (.cons (.pc rfl) (.cons (.pc rfl) .nil))
 ·have h1':(d.length:Int)<1:=om
  have e:Yl m d=none:=by rw[hn,if_neg (λh=>h1 h.1)]
  rw[e];repeat'(first|apply je<;>intro _|simp(disch:=first|exact dzB|fail) only[jb i0,h1',r6,γ,ε,ζ,η,θ])
  exact FzD.tup (.cons (.pc rfl) (.cons (.pc rfl) .nil))
theorem jcf (hb:NB base)(s:List Nat)(hs:s.length<=1000000000):Tot base 36 [.str s] (.tup [.int .i64 ((qu s).getD 0),.bool (qu s).isSome]):=by
 refine hb.tot ?_ rfl rfl;have hm:yd s=(decide (s.getD 0 0=45) && decide (0<s.length)):=rfl;have z45:(((s.getD 0 0:Nat):Int)=45)=(s.getD 0 0=45):=by rw[eq_iff_iff];omega
 have hp:((0:Int)<(s.length:Int))=(0<s.length):=by rw[eq_iff_iff];omega
 refine jH x36 (by rfl) (hb.pur 36 1 dc) ?_;simp only[y36,jv,ξ,τ,ψ,χ];rw[(by unfold z36;simp only[qq];rfl:z36=_)];by_cases h0:0<s.length
 ·have h0':(0:Int)<(s.length:Int):=om
  repeat'(first|apply je<;>intro _|simp(disch:=first|exact dzB|fail) only[h0',z45,r6,γ,ε,ζ,η,θ])
  ·rename_i h;have e1:yd s=true:=by rw[hm,decide_eq_true h,decide_eq_true h0];rfl
   have e2:jY s=s.drop 1:=by unfold jY;rw[if_pos e1]
   rw[uU,e1,e2];refine Gc (d:=s.drop 1) (m:=true) hb (by rw[QaO];omega) ?_ ?_
   ·simp(disch:=decide) only[h12]
   ·rw[decide_eq_true h];simp(disch:=decide) only[h12]
  ·rename_i h;have e1:yd s=false:=by rw[hm,decide_eq_false h];rfl
   have e2:jY s=s:=by unfold jY;rw[if_neg (by rw[e1];decide)]
   rw[uU,e1,e2];refine Gc (d:=s) (m:=false) hb hs ?_ ?_
   ·simp(disch:=decide) only[h12]
   ·rw[decide_eq_false h];simp(disch:=decide) only[h12]
 ·have h0':¬ (0:Int)<(s.length:Int):=om
  have e1:yd s=false:=by rw[hm,decide_eq_false h0,QbF]
  have e2:jY s=s:=by unfold jY;rw[if_neg (by rw[e1];decide)]
  rw[uU,e1,e2];repeat'(first|apply je<;>intro _|simp(disch:=first|exact dzB|fail) only[h0',r6,γ,ε,ζ,η,θ])
  refine Gc (d:=s) (m:=false) hb hs ?_ ?_
  ·simp(disch:=decide) only[h12]
  ·simp(disch:=decide) only[h12]
theorem Q6:∀ (w r:List Nat),∀ x∈jt w r,x.length<=w.length+r.length
 |w,[],x,h=>by
  unfold jt at h;split at h
  ·cases h
  ·rw[QaG.1 h];omega
 |w,c :: r,x,h=>by
  unfold jt at h;rw[Qad];split at h
  ·split at h
   ·have:=Q6 [] r x h;rw[Qah] at this;omega
   ·rcases QaM.1 h with h|h
    ·rw[h];omega
    ·have:=Q6 [] r x h;rw[Qah] at this;omega
  ·have:=Q6 (w ++ [c]) r x h;rw[υ,QaR] at this;omega
theorem UT (l:List Nat):∀ x∈qc l,x.length<=l.length:=λx h=>by
 unfold qc at h;split at h
 ·cases h
 ·have:=Q6 [] l x h;rw[Qah] at this;omega
theorem XU:∀ (l r:List Nat),∀ x∈qf l r,x.length<=l.length+r.length
 |l,[],x,h=>by
  unfold qf at h;have:=UT l x h;omega
 |l,c :: r,x,h=>by
  unfold qf at h;rw[Qad];split at h
  ·rcases QaA.1 h with h|h
   ·have:=UT l x h;omega
   ·have:=XU [] r x h;rw[Qah] at this;omega
  ·have:=XU (l ++ [c]) r x h;rw[υ,QaR] at this;omega
def qj:List (List Nat)->List ClT->ClT->Option (List ClT×ClT)
 |[],cls,c=>some (cls,c)
 |w :: ws,cls,c=>match qu w with
  |none=>none
  |some n=>if n=0 then qj ws (cls ++ [c]) [] else if 262144<n\/n < -262144 then none else qj ws cls (c ++ [n])
def Qz (l:List (List Nat)):Option FmT:=match qu (l.getD 2 []),qu (l.getD 3 []) with
 |some v,some m=>match qj (l.drop 4) [] [] with
  |some (cls,c)=>if c=[]/\(cls.length:Int)=m/\jx ⟨v,cls⟩=true then some ⟨v,cls⟩ else none
  |none=>none
 |_,_=>none
def zZ (l:List (List Nat)):Bool:=decide (4<=l.length) && decide (l.getD 0 []=[112]) && decide (l.getD 1 []=[99,110,102])
def wd (s:List Nat):Option FmT:=if zZ (qn s)=true then Qz (qn s) else none
def QY (q:Option FmT):FmT×Int:=match q with|some f=>(f,0)|none=>(⟨0,[]⟩,22)
def zi (s:List Nat):FmT×Int:=QY (wd s)
def JK:Nat->List (List Nat)->Int->Int->List ClT->ClT->Option (Int×Int×List ClT×ClT)
 |_,[],V,M,cls,c=>some (V,M,cls,c)
 |i,w :: ws,V,M,cls,c=>match qu w with
  |none=>none
  |some n=>if 1<i/\(262144<n\/n < -262144) then none else if i=0 then JK (i+1) ws n M cls c else if i=1 then JK (i+1) ws V n cls c else if n=0 then JK (i+1) ws V M (cls ++ [c]) [] else JK (i+1) ws V M cls (c ++ [n])
theorem Zz:∀ (ws:List (List Nat)) (i:Nat) (V M:Int) (cls:List ClT) (c:ClT),2<=i->JK i ws V M cls c=(qj ws cls c).map λp=>(V,M,p.1,p.2)
 |[],i,V,M,cls,c,_=>rfl
 |w :: ws,i,V,M,cls,c,h=>by
  rw[JK,qj];cases qu w with
  |none=>rfl
  |some n=>
   dsimp only;by_cases h0:n=0
   ·subst h0;rw[if_neg om,if_neg om,if_neg om,if_pos rfl,if_pos rfl,Zz ws _ _ _ _ _ om]
   ·by_cases h1:262144<n\/n < -262144
    ·rw[if_pos (aI om h1),if_neg h0,if_pos h1];rfl
    ·rw[if_neg (λh=>h1 h.2),if_neg om,if_neg om,if_neg h0,if_neg h0,if_neg h1,Zz ws _ _ _ _ _ om]
def jb2 (q:Option (Int×Int×List ClT×ClT)):Option FmT:=match q with
 |some (V,M,cls,c)=>if c=[]/\(cls.length:Int)=M/\jx ⟨V,cls⟩=true then some ⟨V,cls⟩ else none
 |none=>none
theorem jaY {l:List (List Nat)}(h:4<=l.length):Qz l=jb2 (JK 0 (l.drop 2) 0 0 [] []):=by
 obtain⟨a,b,c,d,r,rfl⟩:∃ a b c d r,l=a :: b :: c :: d :: r:=by
  match l,h with
  |a :: b :: c :: d :: r,_=>exact⟨a,b,c,d,r,rfl⟩
 show Qz (a :: b :: c :: d :: r)=jb2 (JK 0 (c :: d :: r) 0 0 [] []);unfold Qz;show(match qu c,qu d with|some v,some m=>_|_,_=>_)=_;rw[JK];cases hc:qu c with
 |none=>rfl
 |some v=>
  dsimp only;rw[if_neg om,if_pos rfl,JK];cases hd:qu d with
  |none=>rfl
  |some m=>
   dsimp only;rw[if_neg om,if_neg om,if_pos rfl,Zz _ _ _ _ _ _ om];show(match qj r [] [] with|some (cls,c)=>_|none=>_)=_;cases qj r [] [] with
   |none=>rfl
   |some p=>rfl
theorem LL.fzA {lo hi m d:Nat}{s:St}{v:AV}{cls:List ClT}(V:Int)(h:LL lo hi s v cls)(hm:m<=lo):FzsD m (d+3) s [.int .i64 V,v] (fmE ⟨V,cls⟩):=FzsD.cons (FzD.pa rfl) (FzsD.cons (h.fzd hm) FzsD.nil)
theorem Y9 {lo hi:Nat}{s:St}{v:AV}{cls:List ClT}(V:Int)(h:LL lo hi s v cls):lend s.h (.agg [.int .i64 V,v])=some (.agg (fmE ⟨V,cls⟩)):=by
 obtain⟨ks,h1,_⟩:=h.fzA (m:=0) (d:=5) V (Qaa _);exact jaf ⟨ks,h1⟩
theorem QV {l:List (List Nat)}{k:Nat}{st:St}{K:AV->St->Prop}(h:k<l.length):jd (qX (.lptr (l.map AV.str) k) st) K=K (.str (l.getD k [])) st:=by
 rw[Yu (by simpa using h)]
 congr 1
 rw[Qag,Qag,Qbe,Qac h];rfl
theorem jcq {l:List (List Nat)}{j:Nat}{k:IntKind}{st:St}{K:AV->St->Prop}(h:j<=l.length):jd (Yj 1 (.lst l.length (l.map .str)) (some (.int k (j:Int))) none st) K=K (.lst (l.drop j).length ((l.drop j).map .str)) st:=by
 have e1:Qcd j l.length=true:=jW h;have e2:Qcd l.length l.length=true:=jW (ν _);have e3:Qcd (Qcf l.length 1) (jm (l.map AV.str))=true:=jW (by rw[jp,QaC];exact QbE (Qbf _));have e4:optA (none:Option AV) l.length=λk:Nat->ER=>k l.length:=rfl;have e5:qD (yn (l.map AV.str) (Qcf j 1)) (Qcf (Qcg l.length j) 1)=(l.drop j).map .str:=by
  rw[qt,ym,show Qcf j 1=j from Qbf j,show Qcf (Qcg l.length j) 1=l.length - j from Qbf _,<-List.map_drop,Qbs (by simp)]
 simp only[Yj,optA,KT,e1,e2,e3,cond_true,e5,jd];rw[QaO];rfl
theorem qv {m:Nat}{s:St}:FzD m 9 s (.tup [.agg [.int .i64 0,.nils],.int .i64 22]) (.tup [.agg (fmE (QY none).1),.int .i64 (QY none).2]):=FzD.tup (.cons (FzD.agg (.cons (.pc rfl) (.cons FzD.nils .nil))) (.cons (.pc rfl) .nil))
theorem KU {w:List Nat}{n:Int}(h:qu w=some n) : -1000000000<=n/\n<=1000000000:=by
 unfold qu at h;split at h
 ·rename_i h3;obtain⟨h3,h4,h5⟩:=h3;have h6:=uJ (jY w).length (λj hj=>Wp.1 h5 j hj) (ν _);rw[Qay] at h6;have h7:(10:Nat) ^ (jY w).length<=10 ^ 9:=Nat.pow_le_pow_right dc h4;have h8:(10:Nat) ^ 9=1000000000:=dc
  injection h with h
  split at h<;>omega
 ·cases h
def readI (ws:List (List Nat))(r:Option (Int×Int×List ClT×ClT))(k:Nat)(L:Sl)(S:St):Prop:=∃ (V M:Int) (cls:List ClT) (c:ClT) (vc v7:AV) (h:Nat),JK k (ws.drop k) V M cls c=r/\cls.length<=k/\c.length<=k/\(∀ x∈cls,x.length<=k)/\2<=S.nx/\Cl S 0 [.int .i64 0,.nils]/\Cl S 1 [.int .i64 V,vc]/\LL 2 h S vc cls/\2<=h/\h<=S.nx/\Lg h S.nx S v7 c.length (c.map (.int .i32)) 1/\v7≠.nils/\Has L 2 (.ptr 0 0)/\Has L 5 (.ptr 1 0)/\Has L 6 (.int .i64 M)/\Has L 7 v7/\Has L 33 (.lst ws.length (ws.map .str))/\Has L 3 (.int .i64 0)
theorem readI.skip {ws:List (List Nat)}{r:Option (Int×Int×List ClT×ClT)}{k:Nat}{L:Sl}{S:St}{j:Nat}{v:AV}(h:readI ws r k L S)(h2:j≠2)(h5:j≠5)(h6:j≠6)(h7:j≠7)(h33:j≠33)(h3:j≠3):readI ws r k ((j,v) :: L) S:=by
 obtain⟨V,M,cls,c,vc,v7,h,a1,a2,a3,a4,a5,a6,a7,a8,a9,b1,b2,b3,i2,i5,i6,i7,i33,i3⟩:=h;exact⟨V,M,cls,c,vc,v7,h,a1,a2,a3,a4,a5,a6,a7,a8,a9,b1,b2,b3,by rw[ja h2];exact i2,by rw[ja h5];exact i5,by rw[ja h6];exact i6,by rw[ja h7];exact i7,by rw[ja h33];exact i33,by rw[ja h3];exact i3⟩
set_option maxHeartbeats 4000000 in
theorem jef (hb:NB base){l:List (List Nat)}{q:Option FmT}{L:Sl}(h4:4<=l.length)(hl:l.length<=1000000000)(hw:∀ w∈l,w.length<=1000000000)(hq:q=jb2 (JK 0 (l.drop 2) 0 0 [] []))(i2:Has L 2 (.ptr 0 0))(i4:Has L 4 (.lst l.length (l.map .str)))(i3:Has L 3 (.int .i64 0)) :
  xC δ base gH L (Go.Sy.nw st0 [.int .i64 0,.nils]) (Zf δ [RV.cA 2 2,RV.t 3] (J6 G0 (Oc.ok (.tup [.agg (fmE (QY q).1),.int .i64 (QY q).2])))) λv x s=>JZ G0 (Oc.ok (.tup [.agg (fmE (QY q).1),.int .i64 (QY q).2])) v s.bare:=by
 rw[(by unfold gH;simp only[qq];rfl:gH=_)];have hd:l.map AV.str=(l.take 2).map AV.str ++ (l.drop 2).map AV.str:=by rw[<-QaI,Qbt]
 have sl:∀ (st:St) (K:AV->St->Prop),jd (Yj 1 (.lst l.length (l.map .str)) (some (.int .i64 2)) none st) K=K (.lst (l.drop 2).length ((l.drop 2).map .str)) st:=λst K=>@jcq l 2 .i64 st K om;have hld:(l.drop 2).length<=1000000000:=by rw[QaO];omega
 have hwd:∀ w∈l.drop 2,w.length<=1000000000:=λw h=>hw w (List.mem_of_mem_drop h);repeat'(first|apply je<;>intro _|simp(disch:=first|exact dzB|fail) only[jb i2,jb i4,sl,r6,γ,ε,ζ,η,θ])
 clear sl;generalize l.drop 2=ws at *;generalize hr:JK 0 ws 0 0 [] []=r at *;refine ya ws.length (λk L S=>readI ws r k L S) (by first|assumption|omega) dc (by simp(disch:=decide) only[jc,ja]) (by simp(disch:=decide) only[jc,ja]) ?_ (λk L s v h=>h.skip dc dc dc dc dc dc) (λk L s v h=>h.skip dc dc dc dc dc dc) (λk L s hk hI hi hn=>?_) (λL s hI=>?_)
 ·refine⟨0,0,[],[],.nils,.slice 2 0 0 0 1 true,2,hr,ν _,ν _,(λx hx=>by cases hx),by(first|omega|(simp only[jP,yJ,yK,qo,qG];first|done|omega)),by(first|exact cyB|fail),by(first|exact cyB|fail),.inl ⟨rfl,.inl rfl⟩,ν _,by(first|omega|(simp only[jP,yJ,yK,qo,qG];first|done|omega)),.inr (Lw.new (ν _) (QaY _)),by simp,?_,?_,?_,?_,?_,?_⟩;all_goals first
   |(simp(disch:=decide) only[jc,ja];done)
   |(simp(disch:=decide) only[ja];assumption)
   |skip
 ·obtain⟨V,M,cls,c,vc,v7,h,a1,a2,a3,a4,a5,C0,C1,LV,a9,b1,G7,b3,i2,i5,i6,i7,i33,i3⟩:=hI;have e36:=jcf hb ws[k] (hwd _ (Qaf hk));have w0:∀ {st:St} {K:AV->St->Prop},jd (qX (.lptr (ws.map AV.str) k) st) K=K (.str ws[k]) st:=λ{st K}=>by rw[QV hk,Qag,Qac hk];rfl
  have z1:((1:Int)<(k:Int))=(1<k):=by rw[eq_iff_iff];omega
  have z0:((k:Int)=0)=(k=0):=by rw[eq_iff_iff];omega
  have z2:((k:Int)=1)=(k=1):=by rw[eq_iff_iff];omega
  rw[QbD hk,JK] at a1;cases hnm:qu ws[k] with
  |none=>
   rw[hnm] at a1 e36;dsimp only at a1 e36;have hq2:q=none:=by rw[hq,<-a1];rfl
   (have zz:=C0.r;(repeat'(first|apply je<;>intro _|simp(disch:=first|exact qZ|fail) only[jb i33,jb hi,jb hn,jb i2,w0,e36,Option.getD_none,Option.isSome_none,C0.q,C0.r,r6,γ,ε,ζ,η,θ]));all_goals clear zz)
   rw[hq2];exact qv
  |some n=>
   rw[hnm] at a1 e36;dsimp only at a1 e36;have hv9:=KU hnm;have bad:1<k/\(262144<n\/n < -262144)->q=none:=λh=>by
    rw[if_pos h] at a1;rw[hq,<-a1];rfl
   by_cases hk0:k=0
   ·have y0:(k=0)=True:=eq_true hk0;have y1:(k=1)=False:=eq_false om;have y2:(1<k)=False:=eq_false om;rw[if_neg om,if_pos hk0] at a1
    (have zz:=aI C0.r C1.r;(repeat'(first|apply je<;>intro _|simp(disch:=first|exact qZ|fail) only[jb i33,jb hi,jb hn,jb i2,jb i5,jb i6,jb i7,w0,e36,Qar,QbH,z1,z0,z2,y0,y1,y2,C0.q,C1.q,C0.r,C1.r,r6,γ,ε,ζ,η,θ]));all_goals clear zz)
    refine⟨⟨n,M,cls,c,vc,v7,h,a1,om,om,λx hx=>Qbi (a4 x hx),a5,C0.wrO dc _ _,by(have zz:=aI C1.q C1.r;first|exact GL|fail),LV.keep (ApX.wr s 1 0 _) (.inr om),a9,b1,G7.imp id (λ⟨b,ex,q1,q2,q3,q4,q5,q6⟩=>⟨b,ex,q1,q2,q3,q4.wrO om _ _,q5,q6⟩),b3,?_,?_,?_,?_,?_,?_⟩,?_,?_⟩;all_goals first
     |(simp(disch:=decide) only[jc,ja];done)
     |(simp(disch:=decide) only[ja];assumption)
   by_cases hk1:k=1
   ·have y0:(k=0)=False:=eq_false hk0;have y1:(k=1)=True:=eq_true hk1;have y2:(1<k)=False:=eq_false om;rw[if_neg om,if_neg hk0,if_pos hk1] at a1
    (have zz:=aI C0.r C1.r;(repeat'(first|apply je<;>intro _|simp(disch:=first|exact qZ|fail) only[jb i33,jb hi,jb hn,jb i2,jb i5,jb i6,jb i7,w0,e36,Qar,QbH,z1,z0,z2,y0,y1,y2,C0.q,C1.q,C0.r,C1.r,r6,γ,ε,ζ,η,θ]));all_goals clear zz)
    refine⟨⟨V,n,cls,c,vc,v7,h,a1,om,om,λx hx=>Qbi (a4 x hx),a5,C0,C1,LV,a9,b1,G7,b3,?_,?_,?_,?_,?_,?_⟩,?_,?_⟩;all_goals first
     |(simp(disch:=decide) only[jc,ja];done)
     |(simp(disch:=decide) only[ja];assumption)
   ·have y0:(k=0)=False:=eq_false hk0;have y1:(k=1)=False:=eq_false hk1;have y2:(1<k)=True:=eq_true om;rw[if_neg hk0,if_neg hk1] at a1;by_cases hb1:262144<n
    ·have hq2:=bad (aI om (.inl hb1))
     (have zz:=aI C0.r C1.r;(repeat'(first|apply je<;>intro _|simp(disch:=first|exact qZ|fail) only[jb i33,jb hi,jb hn,jb i2,jb i5,jb i6,jb i7,w0,e36,Qar,QbH,z1,z0,z2,y0,y1,y2,r32,hb1,C0.q,C1.q,C0.r,C1.r,r6,γ,ε,ζ,η,θ]));all_goals clear zz)
     rw[hq2];exact qv
    by_cases hb2:n < -262144
    ·have hq2:=bad (aI om (.inr hb2))
     (have zz:=aI C0.r C1.r;(repeat'(first|apply je<;>intro _|simp(disch:=first|exact qZ|fail) only[jb i33,jb hi,jb hn,jb i2,jb i5,jb i6,jb i7,w0,e36,Qar,QbH,z1,z0,z2,y0,y1,y2,r32,hb1,hb2,C0.q,C1.q,C0.r,C1.r,r6,γ,ε,ζ,η,θ]));all_goals clear zz)
     rw[hq2];exact qv
    rw[if_neg (λh=>h.2.elim hb1 hb2)] at a1;by_cases hz:n=0
    ·have z4:(n=0)=True:=eq_true hz;rw[if_pos hz] at a1;obtain⟨b7,ex7,rfl,q2,q3,C7,q5,q6⟩:=G7.resolve_left (λh=>b3 h.1);obtain⟨vn,sn,eN,LN,AN⟩:=(LV.keep (ApX.nw s [.slice b7 0 c.length c.length 1 ex7]) (.inl b1)).app (bytes:=24) (bv:=s.nx) (xc:=1) (xx:=true) (x:=.slice b7 0 c.length c.length 1 ex7) (l:=c) (Cl.new s _) (.inr (.inr ⟨b7,ex7,rfl,C7.nw _,om,q5⟩)) (by rw[jP];omega) (by rw[jP];omega) om om;have LN2:=LN;obtain⟨b8,cs8,ex8,rfl,_,_,_,_,_⟩:=LN.resolve_left (λh=>by simp at h);have nN:=AN.nx;rw[jP] at nN;have D0:=AN.cl 0 _ (.inl dc) (C0.nw _);have D1:=AN.cl 1 _ (.inl dc) (C1.nw _)
     (have zz:=aI C0.r (aI C1.r D1.r);(repeat'(first|apply je<;>intro _|simp(disch:=first|exact qZ|fail) only[jb i33,jb hi,jb hn,jb i2,jb i5,jb i6,jb i7,w0,e36,Qar,QbH,z1,z0,z2,y0,y1,y2,r32,hb1,hb2,z4,eN,C0.q,C1.q,D1.q,C0.r,C1.r,D1.r,r6,γ,ε,ζ,η,θ]));all_goals clear zz)
     refine⟨⟨V,M,cls ++ [c],[],_,.slice sn.nx 0 0 0 1 true,sn.nx,a1,by rw[υ,QaR];omega,Qaa _,λx hx=>?_,by(first|omega|(simp only[jP,yJ,yK,qo,qG];first|done|omega)),(D0.wrO dc _ _).nw _,by(have zz:=aI D1.q D1.r;first|exact GL|fail),(LN2.keep (ApX.wr sn 1 1 _) (.inr om)).keep (ApX.nw _ _) (.inl (by(first|omega|(simp only[jP,yJ,yK,qo,qG];first|done|omega)))),om,by(first|omega|(simp only[jP,yJ,yK,qo,qG];first|done|omega)),.inr (Lw.new (by(first|omega|(simp only[jP,yJ,yK,qo,qG];first|done|omega))) (by(first|omega|(simp only[jP,yJ,yK,qo,qG];first|done|omega)))),by simp,?_,?_,?_,?_,?_,?_⟩,?_,?_⟩
     ·rcases QaA.1 hx with hx|hx
      ·exact Qbi (a4 x hx)
      ·rw[QaG.1 hx];omega
     all_goals first
      |(simp(disch:=decide) only[jc,ja];done)
      |(simp(disch:=decide) only[ja];assumption)
    ·have z4:(n=0)=False:=eq_false hz;rw[if_neg hz] at a1;obtain⟨vn,sn,eN,GN,AN⟩:=(G7.nwO [.int .i32 n]).app1 (bytes:=4) (xc:=1) (xx:=true) (Cl.new s [.int .i32 n]) (by rw[jP];omega) (by rw[jP];omega) om om
     (have zz:=aI C0.r C1.r;(repeat'(first|apply je<;>intro _|simp(disch:=first|exact qZ|fail) only[jb i33,jb hi,jb hn,jb i2,jb i5,jb i6,jb i7,w0,e36,Qar,QbH,z1,z0,z2,y0,y1,y2,r32,hb1,hb2,z4,eN,C0.q,C1.q,C0.r,C1.r,r6,γ,ε,ζ,η,θ]));all_goals clear zz)
     have nN:=AN.nx;rw[jP] at nN;have hvn:vn≠.nils:=λe=>by
      rcases GN with ⟨_,h0,_⟩|⟨b,ex,e2,_⟩
      ·omega
      ·rw[e] at e2;cases e2
     refine⟨⟨V,M,cls,c ++ [n],vc,vn,h,a1,om,by rw[υ,QaR];omega,λx hx=>Qbi (a4 x hx),om,AN.cl 0 _ om (C0.nw _),AN.cl 1 _ om (C1.nw _),(LV.keep (ApX.nw s _) (.inl b1)).keep (ApX.of AN) (.inl (ν _)),a9,om,by rw[υ,QaI];exact GN,hvn,?_,?_,?_,?_,?_,?_⟩,?_,?_⟩;all_goals first
      |(simp(disch:=decide) only[jc,ja];done)
      |(simp(disch:=decide) only[ja];assumption)
 ·obtain⟨V,M,cls,c,vc,v7,h,a1,a2,a3,a4,a5,C0,C1,LV,a9,b1,G7,b3,i2,i5,i6,i7,i33,i3⟩:=hI;rw[Qbk (ν _),JK] at a1;have E21:=λ(K Kp:AV->St->Prop)=>(kX hb ⟨V,cls⟩ ⟨by show cls.length<=BIG;unfold BIG;omega,λx hx=>by have:=a4 x hx;unfold BIG;omega⟩).xb (st:=s) (aZ':=[.agg [.int .i64 V,vc]]) (jD (Y9 V LV) qI) (λst=>hb.no 21 dc _ _) K Kp;have hq2:q=if c=[]/\(cls.length:Int)=M/\jx ⟨V,cls⟩=true then some ⟨V,cls⟩ else none:=by rw[hq,<-a1];rfl
  have l7:=λ{K:AV->St->Prop} (st:St)=>G7.lenV (K:=K) st;have lc:=λ{K:AV->St->Prop} (st:St)=>LV.lenV (K:=K) st;by_cases h0:0<c.length
  ·have h0':(0:Int)<(c.length:Int):=om
   have hn:q=none:=by rw[hq2,if_neg (λh=>by rw[h.1] at h0;exact absurd h0 (Qbh _))]
   (have zz:=aI C0.r C1.r;(repeat'(first|apply je<;>intro _|simp(disch:=first|exact qZ|fail) only[jb i2,jb i5,jb i6,jb i7,l7,lc,h0',C0.q,C1.q,C0.r,C1.r,r6,γ,ε,ζ,η,θ]));all_goals clear zz)
   rw[hn];exact qv
  ·have h0':¬ (0:Int)<(c.length:Int):=om
   have hc:c=[]:=QbG.1 om;by_cases hM:(cls.length:Int)=M
   ·cases hr2:jx ⟨V,cls⟩ with
    |true=>
     rw[hr2] at E21 hq2;rw[if_pos (aI hc (aI hM rfl))] at hq2;have hvc:vc=.nils\/∃ b n ex,vc=.slice b 0 n n 1 ex:=by
      rcases LV with ⟨rfl,h|⟨b,h,_⟩⟩|⟨b,cs,ex,h,_⟩
      ·exact .inl h
      ·exact .inr ⟨b,0,true,h⟩
      ·exact .inr ⟨b,_,ex,h⟩
     have hfin:∀ w,FzD 0 9 (wr s 0 0 [.int .i64 V,vc]) (.tup [.agg [.int .i64 V,vc],.int .i64 w]) (.tup [.agg (fmE ⟨V,cls⟩),.int .i64 w]):=λw=>FzD.tup (.cons (FzD.agg (by
      exact(LV.keep (ApX.wr s 0 0 [.int .i64 V,vc]) (.inr om)).fzA (m:=0) (d:=4) V (Qaa _))) (.cons (.pc rfl) .nil))
     rw[hq2];rcases hvc with rfl|⟨b,n,ex,rfl⟩
     ·(have zz:=aI C0.r C1.r;(repeat'(first|apply je<;>intro _|simp(disch:=first|exact qZ|fail) only[jb i2,jb i5,jb i6,jb i7,l7,lc,h0',hM,E21,yI,C0.q,C1.q,C0.r,C1.r,r6,γ,ε,ζ,η,θ]));all_goals clear zz)
      exact hfin 0
     ·(have zz:=aI C0.r C1.r;(repeat'(first|apply je<;>intro _|simp(disch:=first|exact qZ|fail) only[jb i2,jb i5,jb i6,jb i7,l7,lc,h0',hM,E21,yI,C0.q,C1.q,C0.r,C1.r,r6,γ,ε,ζ,η,θ]));all_goals clear zz)
      exact hfin 0
    |false=>
     rw[hr2] at E21 hq2;rw[if_neg (λh=>by cases h.2.2)] at hq2
     (have zz:=aI C0.r C1.r;(repeat'(first|apply je<;>intro _|simp(disch:=first|exact qZ|fail) only[jb i2,jb i5,jb i6,jb i7,l7,lc,h0',hM,E21,yI,C0.q,C1.q,C0.r,C1.r,r6,γ,ε,ζ,η,θ]));all_goals clear zz)
     rw[hq2];exact qv
   ·rw[if_neg (λh=>hM h.2.1)] at hq2
    (have zz:=aI C0.r C1.r;(repeat'(first|apply je<;>intro _|simp(disch:=first|exact qZ|fail) only[jb i2,jb i5,jb i6,jb i7,l7,lc,h0',hM,C0.q,C1.q,C0.r,C1.r,r6,γ,ε,ζ,η,θ]));all_goals clear zz)
    rw[hq2];exact qv
set_option maxHeartbeats 4000000 in
theorem jdW (hb:NB base)(s:List Nat)(hs:s.length<=1000000000):Tot base 17 [.str s] (.tup [.agg (fmE (zi s).1),.int .i64 (zi s).2]):=by
 refine hb.tot ?_ rfl rfl;have e35:=jbe hb s hs;have hwl:(qn s).length<=s.length:=by have:=Jm [] s;unfold qn;simpa using this
 unfold ssV at e35;have hw:∀ w∈qn s,w.length<=1000000000:=λw h=>by have:=XU [] s w h;rw[Qah] at this;omega
 have hR:zi s=QY (if zZ (qn s)=true then Qz (qn s) else none):=rfl;rw[hR];clear hR;generalize qn s=l at *;have hh:zZ l=(decide (4<=l.length) && decide (l.getD 0 []=[112]) && decide (l.getD 1 []=[99,110,102])):=rfl;refine jH x17 (by rfl) (hb.pur 17 1 dc) ?_;simp only[y17,jv,ξ,τ,ψ,χ];rw[(by unfold z17;simp only[qq];rfl:z17=_)];by_cases h4:4<=l.length
 ·have h4':¬ (l.length:Int)<4:=om
  have a0:∀ {st:St} {K:AV->St->Prop},jd (qX (.lptr (l.map AV.str) 0) st) K=K (.str (l.getD 0 [])) st:=λ{st K}=>QV om;have a1:∀ {st:St} {K:AV->St->Prop},jd (qX (.lptr (l.map AV.str) 1) st) K=K (.str (l.getD 1 [])) st:=λ{st K}=>QV om;repeat'(first|apply je<;>intro _|simp(disch:=first|exact dzB|fail) only[e35,h4',a0,a1,r6,γ,ε,ζ,η,θ])
  ·rename_i h;have hf:zZ l=false:=by rw[hh,decide_eq_false h,QbF,Bool.false_and]
   rw[hf];exact qv
  ·rename_i h h2;have hf:zZ l=false:=by rw[hh,decide_eq_false h2,QbF]
   rw[hf];exact qv
  ·rename_i h h2;have hf:zZ l=true:=by rw[hh,decide_eq_true h4,decide_eq_true (QaQ.1 h),decide_eq_true (QaQ.1 h2)];rfl
   rw[hf,if_pos rfl];refine jef hb h4 om hw (jaY h4) ?_ ?_ ?_
   ·simp(disch:=decide) only[h12]
   ·simp(disch:=decide) only[h12]
   ·simp(disch:=decide) only[h12]
 ·have h4':(l.length:Int)<4:=om
  have hf:zZ l=false:=by rw[hh,decide_eq_false h4];rfl
  rw[hf];repeat'(first|apply je<;>intro _|simp(disch:=first|exact dzB|fail) only[e35,h4',r6,γ,ε,ζ,η,θ])
  exact qv
def zM (s p:List Nat):Bool:=decide (p.length<=s.length) && decide (s.take p.length=p)
theorem ja7 (hb:NB base)(s p:List Nat):Tot base 59 [.str s,.str p] (.bool (zM s p)):=by
 refine hb.tot ?_ rfl rfl;have hh:zM s p=(decide (p.length<=s.length) && decide (s.take p.length=p)):=rfl;refine jH x59 (by rfl) (hb.pur 59 1 dc) ?_;simp only[y59,jv,ξ,τ,ψ,χ];rw[(by unfold z59;simp only[qq];rfl:z59=_)];by_cases h:p.length<=s.length
 ·have h':(p.length:Int)<=(s.length:Int):=om
  rw[hh,decide_eq_true h,Bool.true_and];repeat'(first|apply je<;>intro _|simp(disch:=first|exact dzB|fail) only[h',r6,γ,ε,ζ,η,θ])
  exact G0.v rfl rfl
 ·have h':¬ (p.length:Int)<=(s.length:Int):=om
  rw[hh,decide_eq_false h,Bool.false_and];repeat'(first|apply je<;>intro _|simp(disch:=first|exact dzB|fail) only[h',r6,γ,ε,ζ,η,θ])
  exact G0.v rfl rfl
theorem wS (hb:NB base)(s p:List Nat):Tot base 50 [.str s,.str p] (.bool (zM s p)):=by
 refine hb.tot ?_ rfl rfl;have e:=ja7 hb s p;refine jH x50 (by rfl) (hb.pur 50 1 dc) ?_;simp only[y50,jv,ξ,τ,ψ,χ];rw[(by unfold z50;simp only[qq];rfl:z50=_)];repeat'(first|apply je<;>intro _|simp(disch:=first|exact dzB|fail) only[e,r6,γ,ε,ζ,η,θ])
 exact G0.v rfl rfl
theorem jcd (hb:NB base)(s p:List Nat):Tot base 60 [.str s,.str p] (.str (if zM s p=true then s.drop p.length else s)):=by
 refine hb.tot ?_ rfl rfl;have e:=ja7 hb s p;refine jH x60 (by rfl) (hb.pur 60 1 dc) ?_;simp only[y60,jv,ξ,τ,ψ,χ];rw[(by unfold z60;simp only[qq];rfl:z60=_)];cases h:zM s p with
 |true=>
  have h2:p.length<=s.length:=by unfold zM at h;rw[Qaj,decide_eq_true_eq] at h;exact h.1
  rw[h] at e;rw[if_pos rfl];repeat'(first|apply je<;>intro _|simp(disch:=first|exact dzB|fail) only[e,r6,γ,ε,ζ,η,θ])
  exact G0.v rfl rfl
 |false=>
  rw[h] at e;rw[if_neg dc];repeat'(first|apply je<;>intro _|simp(disch:=first|exact dzB|fail) only[e,r6,γ,ε,ζ,η,θ])
  exact G0.v rfl rfl
theorem kU (hb:NB base)(s p:List Nat):Tot base 53 [.str s,.str p] (.str (if zM s p=true then s.drop p.length else s)):=by
 refine hb.tot ?_ rfl rfl;have e:=jcd hb s p;refine jH x53 (by rfl) (hb.pur 53 1 dc) ?_;simp only[y53,jv,ξ,τ,ψ,χ];rw[(by unfold z53;simp only[qq];rfl:z53=_)];repeat'(first|apply je<;>intro _|simp(disch:=first|exact dzB|fail) only[e,r6,γ,ε,ζ,η,θ])
 exact G0.v rfl rfl
theorem Gn (s:List Nat):zM s [45]=yd s:=by
 unfold zM yd;cases s with
 |nil=>rfl
 |cons c r=>simp
theorem gQ (s:List Nat):(if zM s [45]=true then s.drop ([45]:List Nat).length else s)=jY s:=by
 rw[Gn];rfl
def qC:List Nat->List Nat->List (List Nat)
 |l,[]=>[l]
 |l,c :: r=>if c=10 then l :: qC [] r else qC (l ++ [c]) r
def Jv (s:List Nat):List (List Nat):=qC [] s
theorem wZ:∀ (l s:List Nat),qf l s=(qC l s).flatMap qc
 |l,[]=>by unfold qf qC;simp
 |l,c :: r=>by
  unfold qf qC;by_cases h:c=10
  ·rw[if_pos h,if_pos h,QaJ,wZ [] r]
  ·rw[if_neg h,if_neg h,wZ (l ++ [c]) r]
theorem Zu:∀ (l s:List Nat),10∉l->∀ x∈qC l s,10∉x/\x.length<=l.length+s.length
 |l,[],h,x,hx=>by
  unfold qC at hx;rw[QaG.1 hx];exact⟨h,om⟩
 |l,c :: r,h,x,hx=>by
  unfold qC at hx;rw[Qad];by_cases hc:c=10
  ·rw[if_pos hc] at hx;rcases QaM.1 hx with hx|hx
   ·rw[hx];exact⟨h,om⟩
   ·have:=Zu [] r (by simp) x hx;rw[Qah] at this;exact⟨this.1,om⟩
  ·rw[if_neg hc] at hx;have:=Zu (l ++ [c]) r (by simp[h];exact λe=>hc e.symm) x hx;rw[υ,QaR] at this;exact⟨this.1,om⟩
theorem YU:∀ (l s:List Nat),(qC l s).length<=s.length+1
 |l,[]=>by unfold qC;simp
 |l,c :: r=>by
  unfold qC;have h0:=YU [] r;have h1:=YU (l ++ [c]) r;rw[Qad];split
  ·rw[Qad];omega
  ·omega
theorem jbp (l:List Nat):yv l=(decide (l=[99]) ||zM l [99,32] ||zM l [99,9]):=by
 match l with
 |[]=>rfl
 |[c]=>simp[yv,zM]
 |c :: d :: r=>
  by_cases h:c=99
  ·simp[yv,zM,yE,h]
  ·simp[yv,zM,h]
structure PC (base:Bs):Prop where
 split:∀ (s:List Nat) (st:St),s.length<=1000000000->base.run 49 [.str s,.str [10]] st=.ok (ssV (Jv s)) st
 fields:∀ (l:List Nat) (st:St),l.length<=1000000000->10∉l->base.run 51 [.str l,.fn 52 []] st=.ok (ssV (jt [] l)) st
 trim:∀ (d:List Nat) (st:St),d≠[]->d.length<=9->∃ r,base.run 54 [.str d,.str [48,49,50,51,52,53,54,55,56,57]] st=.ok (.str r) st/\(r=[]↔d.all qe=true)
 atoi:∀ (s:List Nat) (n:Int) (st:St),qu s=some n->base.run 55 [.str s] st=.ok (.tup [.int .i64 n,.nilif]) st
def Zc:AV:=.iface 65 (.agg [])
def Gd (q:Option Int):Oc:=match q with|some n=>.ok (.int .i64 n)|none=>.pn Zc
theorem jbz (hb:NB base)(hP:PC base)(s:List Nat)(hs:s.length<=1000000000):Ret base 34 [.str s] (Gd (qu s)):=by
 refine hb.ret ?_ rfl rfl;have e:=kU hb s [45];rw[gQ] at e;have hn:qu s=if 1<=(jY s).length/\(jY s).length<=9/\(jY s).all qe=true then some (if yd s=true then -(yO (jY s):Int) else(yO (jY s):Int)) else none:=rfl
 have tr:=λst h1 h2=>hP.trim (jY s) st h1 h2;have at2:=λn (h:qu s=some n) (st:St)=>Ys (P:=δ) (hP.atoi s n st h);generalize hd:jY s=d at *;have z:((d:List Nat)=[])=(d.length=0):=by rw[eq_iff_iff,QbG]
 by_cases h0:d=[]
 ·rw[if_neg (λh=>by rw[h0] at h;exact absurd h.1 dc)] at hn;rw[hn];show PX δ base 34 [.str s] (.pn Zc);have y0:(d=[])=True:=eq_true h0;clear z;refine jH x34 (by rfl) (hb.pur 34 1 dc) ?_;simp only[y34,jv,ξ,τ,ψ,χ];rw[(by unfold z34;simp only[qq];rfl:z34=_)];repeat'(first|apply je<;>intro _|simp(disch:=first|exact dzB|fail) only[e,y0,r6,γ,ε,ζ,η,θ])
  exact FzD.iface (FzD.agg FzsD.nil)
 ·by_cases h9:9<d.length
  ·rw[if_neg (λh=>by omega)] at hn;rw[hn];show PX δ base 34 [.str s] (.pn Zc);have h9':(9:Int)<(d.length:Int):=om
   have y0:(d=[])=False:=eq_false h0;refine jH x34 (by rfl) (hb.pur 34 1 dc) ?_;simp only[y34,jv,ξ,τ,ψ,χ];rw[(by unfold z34;simp only[qq];rfl:z34=_)];repeat'(first|apply je<;>intro _|simp(disch:=first|exact dzB|fail) only[e,y0,h9',r6,γ,ε,ζ,η,θ])
   exact FzD.iface (FzD.agg FzsD.nil)
  ·have h9':¬ (9:Int)<(d.length:Int):=om
   have y0:(d=[])=False:=eq_false h0;have hl:1<=d.length:=by
    cases d with
    |nil=>exact absurd rfl h0
    |cons=>simp
   obtain⟨rr,tr,hrr⟩:∃ rr:St->List Nat,(∀ st,base.run 54 [.str d,.str [48,49,50,51,52,53,54,55,56,57]] st=.ok (.str (rr st)) st)/\∀ st,rr st=[]↔d.all qe=true:=⟨λst=>(tr st h0 om).choose,λst=>(tr st h0 om).choose_spec.1,λst=>(tr st h0 om).choose_spec.2⟩;have e54:=λ(st:St)=>Ys (P:=δ) (tr st);cases ha:d.all qe with
   |false=>
    rw[ha,if_neg (λh=>by cases h.2.2)] at hn;rw[hn];show PX δ base 34 [.str s] (.pn Zc);have y1:∀ st,(rr st=[])=False:=λst=>eq_false (λh=>by have:=(hrr st).1 h;rw[ha] at this;cases this);refine jH x34 (by rfl) (hb.pur 34 1 dc) ?_;simp only[y34,jv,ξ,τ,ψ,χ];rw[(by unfold z34;simp only[qq];rfl:z34=_)];repeat'(first|apply je<;>intro _|simp(disch:=first|exact dzB|fail) only[e,y0,h9',e54,y1,r6,γ,ε,ζ,η,θ])
    exact FzD.iface (FzD.agg FzsD.nil)
   |true=>
    rw[ha,if_pos (aI hl (aI om rfl))] at hn;have e55:=at2 _ hn;rw[hn];show PX δ base 34 [.str s] (.ok (.int .i64 _));have y1:∀ st,(rr st=[])=True:=λst=>eq_true ((hrr st).2 ha);generalize (if yd s=true then -(yO d:Int) else(yO d:Int))=n at *;refine jH x34 (by rfl) (hb.pur 34 1 dc) ?_;simp only[y34,jv,ξ,τ,ψ,χ];rw[(by unfold z34;simp only[qq];rfl:z34=_)];repeat'(first|apply je<;>intro _|simp(disch:=first|exact dzB|fail) only[e,y0,h9',e54,y1,e55,r6,γ,ε,ζ,η,θ])
    exact G0.v rfl rfl
set_option maxHeartbeats 4000000 in
theorem jdd (hb:NB base)(hP:PC base)(s:List Nat)(hs:s.length<=100000000):Tot base 33 [.str s] (ssV (qn s)):=by
 refine hb.tot ?_ rfl rfl;have hw:qn s=(Jv s).flatMap qc:=wZ [] s;have hwl:(qn s).length<=s.length:=by have:=Jm [] s;unfold qn;simpa using this
 have e49:=λ(st:St)=>Ys (P:=δ) (hP.split s st om);have h10:∀ x∈Jv s,10∉x/\x.length<=s.length:=λx hx=>by have:=Zu [] s (by simp) x hx;rw[Qah,Qan] at this;exact this
 have hsl:(Jv s).length<=s.length+1:=YU [] s;rw[hw] at hwl ⊢;generalize Jv s=ls at *;unfold ssV at e49;have hpre:∀ k,((ls.take k).flatMap qc).length<=(ls.flatMap qc).length:=λk=>by
  conv=>rhs;rw[<-Qbt k ls]
  rw[Qbb,υ];omega
 refine jH x33 (by rfl) (hb.pur 33 1 dc) ?_;simp only[y33,jv,ξ,τ,ψ,χ];rw[(by unfold z33;simp only[qq];rfl:z33=_)];repeat'(first|apply je<;>intro _|simp(disch:=first|exact dzB|fail) only[e49,r6,γ,ε,ζ,η,θ])
 refine ya ls.length (λk L S=>(∃ v,Lg 0 S.nx S v ((ls.take k).flatMap qc).length (((ls.take k).flatMap qc).map .str) 1/\Has L 3 v)/\Has L 7 (.lst ls.length (ls.map .str))) (by first|assumption|omega) dc (by simp(disch:=decide) only[jc,ja]) (by simp(disch:=decide) only[jc,ja]) ?_ (λk L s v h=>(by obtain⟨⟨w,g,h3⟩,h7⟩:=h;exact⟨⟨w,g,by simp(disch:=decide) only[ja];exact h3⟩,by simp(disch:=decide) only[ja];exact h7⟩)) (λk L s v h=>(by obtain⟨⟨w,g,h3⟩,h7⟩:=h;exact⟨⟨w,g,by simp(disch:=decide) only[ja];exact h3⟩,by simp(disch:=decide) only[ja];exact h7⟩)) (λk L s hk hI hi hn=>?_) (λL s hI=>?_)
 ·refine⟨⟨.nils,Lg.nil,?_⟩,?_⟩
  ·simp(disch:=decide) only[h12]
  ·simp(disch:=decide) only[h12]
 ·obtain⟨⟨v,V,i3⟩,i7⟩:=hI;have w0:∀ {st:St} {K:AV->St->Prop},jd (qX (.lptr (ls.map AV.str) k) st) K=K (.str ls[k]) st:=λ{st K}=>by rw[QV hk,Qag,Qac hk];rfl
  have eS:(ls.take (k+1)).flatMap qc=(ls.take k).flatMap qc ++ qc ls[k]:=by rw[JV hk,Qbb];simp
  have hp1:=hpre (k+1);have hx:=h10 ls[k] (Qaf hk);rw[eS,υ] at hp1;rw[eS];generalize ls[k]=l at *;generalize (ls.take k).flatMap qc=acc at *;have e1:=wS hb l [99,32];have e2:=wS hb l [99,9];have e51:=λ(st:St)=>Ys (P:=δ) (hP.fields l st om hx.1);unfold ssV at e51;have hr:=jbp l;have hlw:qc l=if yv l=true then [] else jt [] l:=rfl
  have lw0:(l=[99]\/zM l [99,32]=true\/zM l [99,9]=true)->qc l=[]:=λh=>by
   have hq:yv l=true:=by
    rw[hr];rcases h with h|h|h
    ·rw[decide_eq_true h];rfl
    ·rw[h,Bool.or_true];rfl
    ·rw[h,Bool.or_true]
   rw[hlw,if_pos hq]
  have lw1:¬ l=[99]->¬ zM l [99,32]=true->¬ zM l [99,9]=true->qc l=jt [] l:=λa1 a2 a3=>by
   have hq:yv l=false:=by
    rw[hr,decide_eq_false a1,Bool.eq_false_iff.2 a2,Bool.eq_false_iff.2 a3];rfl
   rw[hlw,hq,if_neg dc]
  clear hlw hr;obtain⟨v2,s2,eA,V2,A2⟩:=V.appL (bytes:=16) (cs2:=(jt [] l).map .str) (n2:=(jt [] l).length) (Qaa _) (ν _) (by simp) (by have:=zW [] l;rw[Qah] at this;omega) (by have:=zW [] l;rw[Qah] at this;omega);repeat'(first|apply je<;>intro _|simp(disch:=first|exact dzB|fail) only[jb i3,jb i7,jb hi,jb hn,w0,e1,e2,e51,eA,r6,γ,ε,ζ,η,θ])
  all_goals
   try(show((∃ v,_/\_)/\_)/\_/\_)
  all_goals first
   |(rw[lw0 (by first|exact .inl (by assumption)|exact .inr (.inl (by assumption))|exact .inr (.inr (by assumption))),Qaz];refine⟨⟨⟨v,V,?_⟩,?_⟩,?_,?_⟩;(all_goals(simp(disch:=decide) only[ja];assumption)))
   |(rw[lw1 (by assumption) (by assumption) (by assumption),υ,QaI];refine⟨⟨⟨v2,V2,?_⟩,?_⟩,?_,?_⟩;(all_goals first|(simp(disch:=decide) only[jc,ja];done)|(simp(disch:=decide) only[ja];assumption)))
 ·obtain⟨⟨v,V,i3⟩,i7⟩:=hI;rw[Qay] at V;repeat'(first|apply je<;>intro _|simp(disch:=first|exact dzB|fail) only[jb i3,r6,γ,ε,ζ,η,θ])
  exact V.fz (Qaa _) (uN _)
def ja9:XC:=(.seq (.ops [⟨(some 9),true,none,(.i (.mv (.t 3)))⟩]) (.cond (.t 9) (.ops [⟨(some 10),false,none,(.i (.build [(.int .i64 0),.nils] []))⟩,⟨none,false,none,(.i (.st 2 (.t 0) (.t 10)))⟩,⟨none,false,none,(.i (.st 1 (.t 1) (.c (.int .i64 22))))⟩]) .skip))
def jbb:XH:=⟨[0,1],(some 5),false,[⟨(some 6),false,none,(.i (.assert (.t 5) 65))⟩,⟨(some 4),false,none,(.i (.mv (.t 6)))⟩,⟨(some 7),false,none,(.i (.ext (.t 4) 0))⟩,⟨(some 8),false,none,(.i (.ext (.t 4) 1))⟩,⟨(some 2),false,none,(.i (.alloc []))⟩,⟨none,false,none,(.i (.st 0 (.t 2) (.t 7)))⟩,⟨(some 3),true,none,(.i (.mv (.t 8)))⟩],ja9,[]⟩
theorem jdY:Gg δ 32=some jbb:=by kernel_rfl
section
variable {P:Program} {e:En} {st:St} {K:AV->St->Prop}
def uE (P:Program)(t:TypeId)(v:AV)(st:St):ER:=(JT P (O v) t).run E0 st
theorem jax (x:A)(t:TypeId):wK P base (.i (.assert x t)) e st K=on1 e x λv=>jd (uE P t v st) K:=k_1 rfl (λ_=>rfl) K
end
theorem Uj {P:Program}(res:List RV)(m:Md)(K:Md->St->Prop)(L:Sl)(st:St):GK P res m K (.go L st)=qL P res L st λ_=>K m st:=nr rfl
theorem jfj (st:St)(K:AV->St->Prop):jd (uE δ 65 Zc st) K=K (.tup [.agg [],.bool true]) st:=by
 have:uE δ 65 Zc st=.ok (.tup [.agg [],.bool true]) st:=by kernel_rfl
 rw[this];rfl
theorem jfi (st:St)(K:AV->St->Prop):jd (uE δ 65 .nilif st) K=K (.tup [.agg [],.bool false]) st:=by
 have:uE δ 65 .nilif st=.ok (.tup [.agg [],.bool false]) st:=by kernel_rfl
 rw[this];rfl
theorem jcZ {P:Program}{f:FuncId}{xs:List AV}{m m1:Md}{st s1:St}(h:∀ K:Md->St->Prop,K m1 s1->DX P base f xs m st K)(K:Md->St->Prop):DX P base f xs m st K=K m1 s1:=by
 refine propext ⟨λ⟨m2,s2,⟨N2,D2,h2⟩,h3⟩=>?_,h K⟩;obtain⟨m',s',⟨N,D,h1⟩,rfl,rfl⟩:=h (λm' s'=>m'=m1/\s'=s1) ⟨rfl,rfl⟩;have e1:=h1 (max N N2) (Qap ..) (max D D2) (Qap ..);have e2:=h2 (max N N2) (Qaq ..) (max D D2) (Qaq ..);rw[e1] at e2;cases e2;exact h3
theorem jc4 {b:Nat}{cs:List AV}{st:St}{K:AV->St->Prop}(C:Cl st b cs):jd (stV 0 (.ptr b 0) (.agg []) st) K=K jF (wr st b 0 []):=by
 obtain⟨n,zl,z,cs,hg⟩:=C.row;have e1:Qcb (jm (AV.agg []).cells) 0=true:=rfl;have e2:Qcd (Qce 0 0) n=true:=jW (Qaa _);have e3:lall AV.cell (AV.agg []).cells=true:=rfl;simp only[stV,qk,hg,qz,e1,e2,e3,cond_true,St.put_eq,jd];unfold wr UC;rw[hg];rfl
theorem Kk {a b:Nat}(st:St)(hfr:st.fr=[])(K:Md->St->Prop):DX δ base 32 [.ptr a 0,.ptr b 0] .calm st K=K .calm (Go.Sy.wr (Go.Sy.nw st []) st.nx 0 []):=by
 refine jcZ (λK hK=>?_) K;refine Vj jdY (by rfl) hfr ?_;simp only[jbb,jv,ξ,τ,ψ,χ,JX,Qg];unfold ja9;have s0:=λ(K:AV->St->Prop)=>jc4 (K:=K) (Cl.new st []);repeat'(first|apply je<;>intro _|simp(disch:=first|exact dzB|fail) only[jax,jfi,Uj,s0,r6,γ,ε,ζ,η,θ])
 exact hK
theorem GO {a b:Nat}{ca cb:List AV}(st:St)(hfr:st.fr=[])(Ca:Cl st a ca)(Cb:Cl st b cb)(ha:ca.length=2)(hb2:cb.length=1)(hab:a≠b)(K:Md->St->Prop) :
  DX δ base 32 [.ptr a 0,.ptr b 0] (.pan Zc) st K=K .done (Go.Sy.wr (Go.Sy.wr (Go.Sy.wr (Go.Sy.nw st []) st.nx 0 []) a 0 [.int .i64 0,.nils]) b 0 [.int .i64 22]):=by
 refine jcZ (λK hK=>?_) K;refine Vj jdY (by rfl) hfr ?_;simp only[jbb,jv,ξ,τ,ψ,χ,JX,Qg];unfold ja9;have s0:=λ(K:AV->St->Prop)=>jc4 (K:=K) (Cl.new st []);have hl:=Ca.lt;have l0:=Ca.len;have hl2:=Cb.lt;have l2:=Cb.len;have hne:¬ a=st.nx:=om
 have hne2:¬ b=st.nx:=om
 have hne3:¬ b=a:=λh=>hab h.symm
 (have zz:=aI @l0 (aI @ha (aI @l2 @hb2));(repeat'(first|apply je<;>intro _|simp(disch:=first|exact qZ|fail) only[jax,jfj,Uj,s0,l0,ha,l2,hb2,r6,γ,ε,ζ,η,θ]));all_goals clear zz)
 exact hK
section
variable {P:Program} {st:St} {K Kp:AV->St->Prop}
theorem zS {f:FuncId}{vs:List AV}(h:st.fr=[(f,vs)])(res:List RV)(v:AV)(L:Sl):vS P base res K Kp v L st=DX P base f vs (.pan v) st.bare λm' st'=>(match m' with
  |.calm=>qL P res L st'.bare λvs=>K (yD vs) st'.bare
  |.pan v=>Kp v st'.bare
  |.done=>qL P res L st'.bare λvs=>K (yD vs) st'.bare):=by
 have:vS P base res K Kp v L st=yg P base res K Kp [(f,vs)] L st.bare (.pan v):=by show yg P base res K Kp st.fr L st.bare (.pan v)=_;rw[h]
 rw[this,Ug];rfl
theorem Ui {f:FuncId}{vs:List AV}(h:st.fr=[(f,vs)])(res:List RV)(L:Sl):GJ P base res K Kp (.rt L st)=DX P base f vs .calm st.bare λm' st'=>(match m' with
  |.calm=>qL P res L st'.bare λvs=>K (yD vs) st'.bare
  |.pan v=>Kp v st'.bare
  |.done=>qL P res L st'.bare λvs=>K (yD vs) st'.bare):=by
 have:GJ P base res K Kp (.rt L st)=yg P base res K Kp [(f,vs)] L st.bare .calm:=by show yg P base res K Kp st.fr L st.bare .calm=_;rw[h]
 rw[this,Ug];rfl
end
theorem J4:∀ (l r:List Nat),(∀ c∈l,yE c=false)->∀ x∈jt l r,∀ c∈x,yE c=false
 |l,[],hl,x,hx,c,hc=>by
  unfold jt at hx;split at hx
  ·cases hx
  ·rw[QaG.1 hx] at hc;exact hl c hc
 |l,d :: r,hl,x,hx,c,hc=>by
  unfold jt at hx;split at hx
  ·split at hx
   ·exact J4 [] r (λc hc=>by cases hc) x hx c hc
   ·rcases QaM.1 hx with hx|hx
    ·rw[hx] at hc;exact hl c hc
    ·exact J4 [] r (λc hc=>by cases hc) x hx c hc
  ·rename_i hd;refine J4 (l ++ [d]) r (λc hc=>?_) x hx c hc;rcases QaA.1 hc with h|h
   ·exact hl c h
   ·rw[QaG.1 h];simpa using hd
theorem Zr:∀ (l r:List Nat),∀ x∈qf l r,∀ c∈x,yE c=false
 |l,[],x,hx,c,hc=>by
  unfold qf qc at hx;split at hx
  ·cases hx
  ·exact J4 [] l (λc hc=>by cases hc) x hx c hc
 |l,d :: r,x,hx,c,hc=>by
  unfold qf at hx;split at hx
  ·rcases QaA.1 hx with hx|hx
   ·unfold qc at hx;split at hx
    ·cases hx
    ·exact J4 [] l (λc hc=>by cases hc) x hx c hc
   ·exact Zr [] r x hx c hc
  ·exact Zr (l ++ [d]) r x hx c hc
theorem jbO {a b:List Nat}(ha:∀ c∈a,yE c=false):a ++ [32] ++ b=[112,32,99,110,102]↔a=[112]/\b=[99,110,102]:=by
 constructor
 ·intro h
  match a,ha,h with
  |[],_,h=>cases h
  |[x],_,h=>
   injection h with h1 h2
   injection h2 with h3 h4
   exact⟨by rw[h1],h4⟩
  |x :: y :: r,ha,h=>
   injection h with h1 h2
   injection h2 with h3 h4
   have:=ha y (by simp);rw[h3] at this;cases this
 ·rintro ⟨rfl,rfl⟩;rfl
theorem Cl.bar {s:St}{b:Nat}{cs:List AV}(h:Cl s b cs):Cl s.bare b cs:=jdS.symm▸h
theorem jaW {a b:Nat}(st:St)(K:Md->St->Prop):DX δ base 32 [.ptr a 0,.ptr b 0] .calm st.bare K=K .calm (Go.Sy.wr (Go.Sy.nw st.bare []) st.nx 0 []):=Kk st.bare rfl K
theorem Qt {a b:Nat}(st:St)(ha:qh st.h a=2)(hna:a<st.nx)(hb2:qh st.h b=1)(hnb:b<st.nx)(hab:a≠b)(K:Md->St->Prop) :
  DX δ base 32 [.ptr a 0,.ptr b 0] (.pan (.iface 65 (.agg []))) st.bare K=K .done (Go.Sy.wr (Go.Sy.wr (Go.Sy.wr (Go.Sy.nw st.bare []) st.nx 0 []) a 0 [.int .i64 0,.nils]) b 0 [.int .i64 22]):=
 have Ca:Cl st a (rats st.h a 0 2):=Cl.of_rats hna ha (zk _ _ _ _) dc rfl;have Cb:Cl st b (rats st.h b 0 1):=Cl.of_rats hnb hb2 (zk _ _ _ _) dc rfl
 GO st.bare rfl Ca.bar Cb.bar (zk _ _ _ _) (zk _ _ _ _) hab K
theorem jbn (hb:NB base)(hP:PC base)(w:List Nat)(hw:w.length<=1000000000)(st:St)(K Kp:AV->St->Prop):XB δ base 34 [.str w] st K Kp=QP (Gd (qu w)) K Kp st:=jbz hb hP w hw st K Kp
theorem QE:Gd none=.pn (.iface 65 (.agg [])):=rfl
theorem QD (n:Int):Gd (some n)=.ok (.int .i64 n):=rfl
theorem LL.cl {lo hi:Nat}{s s':St}{v:AV}{ls:List ClT}(h:LL lo hi s v ls)(f:∀ c ds,lo<=c->Cl s c ds->Cl s' c ds):LL lo hi s' v ls:=by
 rcases h with ⟨rfl,rfl|⟨b,rfl,C,h1,h2⟩⟩|⟨b,cs,ex,rfl,hn,C,h1,h2,I⟩
 ·exact .inl ⟨rfl,.inl rfl⟩
 ·exact .inl ⟨rfl,.inr ⟨b,rfl,f _ _ h1 C,h1,h2⟩⟩
 ·refine .inr ⟨b,cs,ex,rfl,hn,f _ _ h1 C,h1,h2,I.mono λx l k=>?_⟩;rcases k with rfl|⟨rfl,rfl⟩|⟨c,ex,rfl,D,k1,k2,k3⟩
  ·exact .inl rfl
  ·exact .inr (.inl ⟨rfl,rfl⟩)
  ·exact .inr <| .inr ⟨c,ex,rfl,f _ _ k1 D,k1,k2,k3⟩
def readJ (v m:Int)(ws:List (List Nat))(r:Option (List ClT×ClT))(k:Nat)(L:Sl)(S:St):Prop:=∃ (cls:List ClT) (c:ClT) (vc v6:AV) (h:Nat),qj (ws.drop k) cls c=r/\cls.length<=k/\c.length<=k/\(∀ x∈cls,x.length<=k)/\2<=S.nx/\S.fr=[(32,[.ptr 0 0,.ptr 1 0])]/\Cl S 0 [.int .i64 v,vc]/\Cl S 1 [.int .i64 0]/\LL 2 h S vc cls/\2<=h/\h<=S.nx/\Lg h S.nx S v6 c.length (c.map (.int .i32)) 1/\Has L 2 (.ptr 0 0)/\Has L 3 (.ptr 1 0)/\Has L 5 (.int .i64 m)/\Has L 6 v6/\Has L 7 (.bool (decide (c=[])))/\Has L 40 (.lst ws.length (ws.map .str))
theorem readJ.skip {v m:Int}{ws:List (List Nat)}{r:Option (List ClT×ClT)}{k:Nat}{L:Sl}{S:St}{j:Nat}{w:AV}(h:readJ v m ws r k L S)(h2:j≠2)(h3:j≠3)(h5:j≠5)(h6:j≠6)(h7:j≠7)(h40:j≠40):readJ v m ws r k ((j,w) :: L) S:=by
 obtain⟨cls,c,vc,v6,h,a1,a2,a3,a4,a5,a6,C0,C1,LV,a9,b1,G6,i2,i3,i5,i6,i7,i40⟩:=h;exact⟨cls,c,vc,v6,h,a1,a2,a3,a4,a5,a6,C0,C1,LV,a9,b1,G6,by rw[ja h2];exact i2,by rw[ja h3];exact i3,by rw[ja h5];exact i5,by rw[ja h6];exact i6,by rw[ja h7];exact i7,by rw[ja h40];exact i40⟩
set_option maxHeartbeats 4000000 in
theorem YN (hb:NB base)(hP:PC base)(s:List Nat)(hs:s.length<=100000000):Tot base 15 [.str s] (.tup [.agg (fmE (zi s).1),.int .i64 (zi s).2]):=by
 refine hb.tot ?_ rfl rfl;have e33:=jdd hb hP s hs;have hwl:(qn s).length<=s.length:=by have:=Jm [] s;unfold qn;simpa using this
 have hbl:∀ x∈qn s,∀ c∈x,yE c=false:=Zr [] s;have hw:∀ w∈qn s,w.length<=100000000:=λw h=>by have:=XU [] s w h;rw[Qah] at this;omega
 unfold ssV at e33;have hR:zi s=QY (if zZ (qn s)=true then Qz (qn s) else none):=rfl;rw[hR];clear hR;generalize qn s=l at *;have hh:zZ l=(decide (4<=l.length) && decide (l.getD 0 []=[112]) && decide (l.getD 1 []=[99,110,102])):=rfl;refine jbu x15 (hb.pur 15 1 dc) ?_;simp only[y15,jv,ξ,τ,ψ,χ];rw[(by unfold z15;simp only[qq];rfl:z15=_)];by_cases h4:4<=l.length
 ·have h4':¬ (l.length:Int)<4:=om
  have a0:∀ {st:St} {K:AV->St->Prop},jd (qX (.lptr (l.map AV.str) 0) st) K=K (.str (l.getD 0 [])) st:=λ{st K}=>QV om;have a1:∀ {st:St} {K:AV->St->Prop},jd (qX (.lptr (l.map AV.str) 1) st) K=K (.str (l.getD 1 [])) st:=λ{st K}=>QV om;have hw0:l.getD 0 []∈l:=by rw[Qag,Qac om];exact Qaf _
  have hw1:l.getD 1 []∈l:=by rw[Qag,Qac om];exact Qaf _
  have hk0:=hw _ hw0;have hk1:=hw _ hw1;have ho:=@jbO (l.getD 0 []) (l.getD 1 []) (hbl _ hw0);generalize l.getD 0 []=g0 at *;generalize l.getD 1 []=g1 at *;have hz:(g0 ++ [32] ++ g1=[112,32,99,110,102])=(g0=[112]/\g1=[99,110,102]):=propext ho
  (have zz:=@υ.{0};(repeat'(first|apply je<;>intro _|simp(disch:=first|exact qZ|fail) only[e33,h4',a0,a1,jck,zS (f:=32) (vs:=[.ptr 0 0,.ptr 1 0]),Qt,υ,r6,γ,ε,ζ,η,θ]));all_goals clear zz)
  ·rename_i hq;have hf:zZ l=false:=by
    rw[hh,decide_eq_true h4,Bool.true_and];rw[hz] at hq;by_cases c0:g0=[112]
    ·rw[decide_eq_false (λh=>hq (aI c0 h)),QbF]
    ·rw[decide_eq_false c0,Bool.false_and]
   rw[hf];exact qv
  ·rename_i hq;have hq:=QaQ.1 hq;rw[hz] at hq;have hf:zZ l=true:=by rw[hh,decide_eq_true h4,decide_eq_true hq.1,decide_eq_true hq.2];rfl
   rw[hf,if_pos rfl];clear hf hq hz ho hh hw0 hw1 hk0 hk1 a0 a1 hbl;have a2:∀ {st:St} {K:AV->St->Prop},jd (qX (.lptr (l.map AV.str) 2) st) K=K (.str (l.getD 2 [])) st:=λ{st K}=>QV om;have a3:∀ {st:St} {K:AV->St->Prop},jd (qX (.lptr (l.map AV.str) 3) st) K=K (.str (l.getD 3 [])) st:=λ{st K}=>QV om;have hel:∀ k,(l.getD k []).length<=1000000000:=λk=>by
    rw[Qag];rcases Qau k l.length with hk|hk
    ·rw[Qac hk];have:=hw _ (Qaf hk);show l[k].length<=_;omega
    ·rw[List.getElem?_eq_none hk];exact Qaa _
   have n2:=jbn hb hP (l.getD 2 []) (hel 2);have n3:=jbn hb hP (l.getD 3 []) (hel 3);rw[(by unfold jba;simp only[qq];rfl:jba=_)];have hB:Qz l=(match qu (l.getD 2 []),qu (l.getD 3 []) with
    |some v,some m=>match qj (l.drop 4) [] [] with
     |some (cls,c)=>if c=[]/\(cls.length:Int)=m/\jx ⟨v,cls⟩=true then some ⟨v,cls⟩ else none
     |none=>none
    |_,_=>none):=rfl
   cases h2:qu (l.getD 2 []) with
   |none=>
    rw[h2] at n2 hB;rw[hB];repeat'(first|apply je<;>intro _|simp(disch:=first|exact dzB|fail) only[a2,a3,n2,QE,QD,yI,Qv,zS (f:=32) (vs:=[.ptr 0 0,.ptr 1 0]),Qt,r6,γ,ε,ζ,η,θ])
    exact qv
   |some v=>
    rw[h2] at n2 hB;cases h3:qu (l.getD 3 []) with
    |none=>
     rw[h3] at n3 hB;rw[hB];repeat'(first|apply je<;>intro _|simp(disch:=first|exact dzB|fail) only[a2,a3,n2,n3,QE,QD,yI,Qv,zS (f:=32) (vs:=[.ptr 0 0,.ptr 1 0]),Qt,r6,γ,ε,ζ,η,θ])
     exact qv
    |some m=>
     rw[h3] at n3 hB;have hB:Qz l=(match qj (l.drop 4) [] [] with
      |some (cls,c)=>if c=[]/\(cls.length:Int)=m/\jx ⟨v,cls⟩=true then some ⟨v,cls⟩ else none
      |none=>none):=hB
     have sl:∀ (st:St) (K:AV->St->Prop),jd (Yj 1 (.lst l.length (l.map .str)) (some (.int .i64 4)) none st) K=K (.lst (l.drop 4).length ((l.drop 4).map .str)) st:=λst K=>@jcq l 4 .i64 st K om;repeat'(first|apply je<;>intro _|simp(disch:=first|exact dzB|fail) only[a2,a3,n2,n3,QE,QD,yI,Qv,sl,r6,γ,ε,ζ,η,θ])
     clear sl;have hwd:∀ w∈l.drop 4,w.length<=1000000000:=λw h=>by have:=hw w (List.mem_of_mem_drop h);omega
     have hld:(l.drop 4).length<=1000000000:=by rw[QaO];omega
     rw[hB];clear hB h2 h3 n2 n3 a2 a3 hel;generalize l.drop 4=ws at *;clear e33 hw h4 hwl;generalize hr:qj ws [] []=r;obtain⟨q,hqd⟩:∃ q,q=(match r with
      |some (cls,c)=>if c=[]/\(cls.length:Int)=m/\jx ⟨v,cls⟩=true then some ⟨v,cls⟩ else none
      |none=>none:Option FmT):=⟨_,rfl⟩
     rw[<-hqd];refine ya ws.length (λk L S=>readJ v m ws r k L S) (by first|assumption|omega) dc (by simp(disch:=decide) only[jc,ja]) (by simp(disch:=decide) only[jc,ja]) ?_ (λk L s v h=>h.skip dc dc dc dc dc dc) (λk L s v h=>h.skip dc dc dc dc dc dc) (λk L s hk hI hi hn=>?_) (λL s hI=>?_)
     ·refine⟨[],[],.nils,.nils,2,hr,ν _,ν _,(λx hx=>by cases hx),ν 2,rfl,by(first|exact cyB|fail),by(first|exact cyB|fail),.inl ⟨rfl,.inl rfl⟩,ν _,ν 2,Lg.nil,?_,?_,?_,?_,?_,?_⟩;all_goals first
       |(simp(disch:=decide) only[jc,ja];done)
       |(simp(disch:=decide) only[ja];assumption)
       |(show Has _ 7 (.bool true);simp(disch:=decide) only[jc,ja];done)
     ·obtain⟨cls,c,vc,v6,h,a1,a2,a3,a4,a5,a6,C0,C1,LV,a9,b1,G6,i2,i3,i5,i6,i7,i40⟩:=hI;have e34:=jbn hb hP ws[k] (hwd _ (Qaf hk));have w0:∀ {st:St} {K:AV->St->Prop},jd (qX (.lptr (ws.map AV.str) k) st) K=K (.str ws[k]) st:=λ{st K}=>by rw[QV hk,Qag,Qac hk];rfl
      rw[QbD hk,qj] at a1;cases hnm:qu ws[k] with
      |none=>
       rw[hnm] at a1 e34;dsimp only at a1 e34;have hq2:q=none:=by rw[hqd,<-a1]
       (have zz:=aI C0.r C1.r;(repeat'(first|apply je<;>intro _|simp(disch:=first|exact qZ|fail) only[jb i40,jb hi,jb hn,jb i2,jb i3,w0,e34,QE,QD,yI,Qv,zS (f:=32) (vs:=[.ptr 0 0,.ptr 1 0]),Qt,C0.q,C1.q,C0.r,C1.r,r6,γ,ε,ζ,η,θ]));all_goals clear zz)
       rw[hq2];exact qv
      |some n=>
       rw[hnm] at a1 e34;dsimp only at a1 e34;have hv9:=KU hnm;by_cases hz:n=0
       ·have z4:(n=0)=True:=eq_true hz;rw[if_pos hz] at a1;have hx:v6=clV c\/(v6=.nils/\c=[])\/∃ d ex,v6=.slice d 0 c.length c.length 1 ex/\Cl (Go.Sy.nw s [v6]) d (c.map (.int .i32))/\2<=d/\h<=d:=by
         rcases G6 with ⟨e,h0,_⟩|⟨b,ex,e,_,_,C6,h1,h2⟩
         ·exact .inr (.inl ⟨e,QbG.1 h0⟩)
         ·exact .inr (.inr ⟨b,ex,e,C6.nw _,om,h1⟩)
        have eb:∀ K:AV->St->Prop,jd (bSV 1 1 [AV.nils] [((0,1),v6)] s) K=K (.slice s.nx 0 1 1 1 true) (Go.Sy.nw s [v6]):=by
         rcases G6 with ⟨rfl,_⟩|⟨b,ex,rfl,_⟩
         ·intro K;repeat'(first|apply je<;>intro _|simp(disch:=first|exact dzB|fail) only[r6,γ,ε,ζ,η,θ])
         ·intro K;repeat'(first|apply je<;>intro _|simp(disch:=first|exact dzB|fail) only[r6,γ,ε,ζ,η,θ])
        obtain⟨vn,sn,eN,LN,AN⟩:=(LV.keep (ApX.nw s [v6]) (.inl b1)).app (bytes:=24) (bv:=s.nx) (xc:=1) (xx:=true) (x:=v6) (l:=c) (Cl.new s _) hx (by rw[jP];omega) (by rw[jP];omega) om om;have LN2:=LN;obtain⟨b8,cs8,ex8,rfl,_,_,_,_,_⟩:=LN.resolve_left (λh=>by simp at h);have nN:=AN.nx;rw[jP] at nN;have fN:=AN.fr;rw[JF] at fN;have D0:=AN.cl 0 _ (.inl dc) (C0.nw _);have D1:=AN.cl 1 _ (.inl dc) (C1.nw _)
        (have zz:=aI C0.r (aI C1.r D0.r);(repeat'(first|apply je<;>intro _|simp(disch:=first|exact qZ|fail) only[jb i40,jb hi,jb hn,jb i2,jb i3,jb i5,jb i6,jb i7,w0,e34,QE,QD,yI,Qv,z4,eb,eN,C0.q,C1.q,D0.q,C0.r,C1.r,D0.r,r6,γ,ε,ζ,η,θ]));all_goals clear zz)
        refine⟨⟨cls ++ [c],[],_,.nils,sn.nx,a1,by rw[υ,QaR];omega,Qaa _,λx hx=>?_,by(first|omega|(simp only[jP,yJ,yK,qo,qG];first|done|omega)),fN.trans a6,by(have zz:=aI D0.q D0.r;first|exact GL|fail),by(have zz:=aI D1.q D1.r;first|exact GL|fail),LN2.keep (ApX.wr sn 0 1 _) (.inr om),om,by(first|omega|(simp only[jP,yJ,yK,qo,qG];first|done|omega)),Lg.nil,?_,?_,?_,?_,?_,?_⟩,?_,?_⟩
        ·rcases QaA.1 hx with hx|hx
         ·exact Qbi (a4 x hx)
         ·rw[QaG.1 hx];omega
        all_goals first
         |(simp(disch:=decide) only[jc,ja];done)
         |(simp(disch:=decide) only[ja];assumption)
         |(show Has _ 7 (.bool true);simp(disch:=decide) only[jc,ja];done)
       ·have z4:(n=0)=False:=eq_false hz;rw[if_neg hz] at a1;by_cases hb1:262144<n
        ·rw[if_pos (.inl hb1)] at a1;have hq2:q=none:=by rw[hqd,<-a1]
         (have zz:=aI C0.r C1.r;(repeat'(first|apply je<;>intro _|simp(disch:=first|exact qZ|fail) only[jb i40,jb hi,jb hn,jb i2,jb i3,jb i5,jb i6,jb i7,w0,e34,QE,QD,yI,Qv,z4,hb1,zS (f:=32) (vs:=[.ptr 0 0,.ptr 1 0]),Qt,C0.q,C1.q,C0.r,C1.r,r6,γ,ε,ζ,η,θ]));all_goals clear zz)
         rw[hq2];exact qv
        by_cases hb2:n < -262144
        ·rw[if_pos (.inr hb2)] at a1;have hq2:q=none:=by rw[hqd,<-a1]
         (have zz:=aI C0.r C1.r;(repeat'(first|apply je<;>intro _|simp(disch:=first|exact qZ|fail) only[jb i40,jb hi,jb hn,jb i2,jb i3,jb i5,jb i6,jb i7,w0,e34,QE,QD,yI,Qv,z4,hb1,hb2,zS (f:=32) (vs:=[.ptr 0 0,.ptr 1 0]),Qt,C0.q,C1.q,C0.r,C1.r,r6,γ,ε,ζ,η,θ]));all_goals clear zz)
         rw[hq2];exact qv
        rw[if_neg (λh=>h.elim hb1 hb2)] at a1;obtain⟨vn,sn,eN,GN,AN⟩:=(G6.nwO [.int .i32 n]).app1 (bytes:=4) (xc:=1) (xx:=true) (Cl.new s [.int .i32 n]) (by rw[jP];omega) (by rw[jP];omega) om om
        (have zz:=aI C0.r C1.r;(repeat'(first|apply je<;>intro _|simp(disch:=first|exact qZ|fail) only[jb i40,jb hi,jb hn,jb i2,jb i3,jb i5,jb i6,jb i7,w0,e34,QE,QD,yI,Qv,z4,hb1,hb2,r32,eN,C0.q,C1.q,C0.r,C1.r,r6,γ,ε,ζ,η,θ]));all_goals clear zz)
        have nN:=AN.nx;rw[jP] at nN;have fN:=AN.fr;rw[JF] at fN;have hne:decide (c ++ [n]=[])=false:=by simp
        refine⟨⟨cls,c ++ [n],vc,vn,h,a1,om,by rw[υ,QaR];omega,λx hx=>Qbi (a4 x hx),om,fN.trans a6,AN.cl 0 _ om (C0.nw _),AN.cl 1 _ om (C1.nw _),(LV.keep (ApX.nw s _) (.inl b1)).keep (ApX.of AN) (.inl (ν _)),a9,om,by rw[υ,QaI];exact GN,?_,?_,?_,?_,?_,?_⟩,?_,?_⟩;all_goals first
         |(simp(disch:=decide) only[jc,ja];done)
         |(simp(disch:=decide) only[ja];assumption)
         |(rw[hne];simp(disch:=decide) only[jc,ja,decide_false];done)
     ·obtain⟨cls,c,vc,v6,h,a1,a2,a3,a4,a5,a6,C0,C1,LV,a9,b1,G6,i2,i3,i5,i6,i7,i40⟩:=hI;rw[Qbk (ν _),qj] at a1;have hq2:q=if c=[]/\(cls.length:Int)=m/\jx ⟨v,cls⟩=true then some ⟨v,cls⟩ else none:=by rw[hqd,<-a1]
      have E14:=λ(K Kp:AV->St->Prop)=>(gC hb ⟨v,cls⟩ ⟨by show cls.length<=BIG;unfold BIG;omega,λx hx=>by have:=a4 x hx;unfold BIG;omega⟩).xb (st:=s) (aZ':=[.agg [.int .i64 v,vc]]) (jD (Y9 v LV) qI) (λst=>hb.no 14 dc _ _) K Kp;have lc:=λ{K:AV->St->Prop} (st:St)=>LV.lenV (K:=K) st;by_cases h0:c=[]
      ·have y7:decide (c=[])=true:=decide_eq_true h0;rw[y7] at i7;by_cases hM:(cls.length:Int)=m
       ·cases hr2:jx ⟨v,cls⟩ with
        |true=>
         rw[hr2] at E14 hq2;rw[if_pos (aI h0 (aI hM rfl))] at hq2;have hvc:vc=.nils\/∃ b n ex,vc=.slice b 0 n n 1 ex:=by
          rcases LV with ⟨rfl,h|⟨b,h,_⟩⟩|⟨b,cs,ex,h,_⟩
          ·exact .inl h
          ·exact .inr ⟨b,0,true,h⟩
          ·exact .inr ⟨b,_,ex,h⟩
         rw[hq2];rcases hvc with rfl|⟨b,n,ex,rfl⟩
         ·(have zz:=aI C0.r C1.r;(repeat'(first|apply je<;>intro _|simp(disch:=first|exact qZ|fail) only[jb i2,jb i3,jb i5,jb i6,jb i7,lc,hM,E14,yI,Ui (f:=32) (vs:=[.ptr 0 0,.ptr 1 0]),jaW,C0.q,C1.q,C0.r,C1.r,r6,γ,ε,ζ,η,θ]));all_goals clear zz)
          refine FzD.tup (.cons (FzD.agg ((LV.cl λc ds hc C=>?_).fzA (m:=0) (d:=4) v (Qaa _))) (.cons (.pc rfl) .nil));exact((((C.wrO om _ _).wrO om _ _).bar.nw _).wrO (by have:=C.lt;omega) _ _).bar
         ·(have zz:=aI C0.r C1.r;(repeat'(first|apply je<;>intro _|simp(disch:=first|exact qZ|fail) only[jb i2,jb i3,jb i5,jb i6,jb i7,lc,hM,E14,yI,Ui (f:=32) (vs:=[.ptr 0 0,.ptr 1 0]),jaW,C0.q,C1.q,C0.r,C1.r,r6,γ,ε,ζ,η,θ]));all_goals clear zz)
          refine FzD.tup (.cons (FzD.agg ((LV.cl λc ds hc C=>?_).fzA (m:=0) (d:=4) v (Qaa _))) (.cons (.pc rfl) .nil));exact((((C.wrO om _ _).wrO om _ _).bar.nw _).wrO (by have:=C.lt;omega) _ _).bar
        |false=>
         rw[hr2] at E14 hq2;rw[if_neg (λh=>by cases h.2.2)] at hq2
         (have zz:=aI C0.r C1.r;(repeat'(first|apply je<;>intro _|simp(disch:=first|exact qZ|fail) only[jb i2,jb i3,jb i5,jb i6,jb i7,lc,hM,E14,yI,zS (f:=32) (vs:=[.ptr 0 0,.ptr 1 0]),Qt,C0.q,C1.q,C0.r,C1.r,r6,γ,ε,ζ,η,θ]));all_goals clear zz)
         rw[hq2];exact qv
       ·rw[if_neg (λh=>hM h.2.1)] at hq2
        (have zz:=aI C0.r C1.r;(repeat'(first|apply je<;>intro _|simp(disch:=first|exact qZ|fail) only[jb i2,jb i3,jb i5,jb i6,jb i7,lc,hM,zS (f:=32) (vs:=[.ptr 0 0,.ptr 1 0]),Qt,C0.q,C1.q,C0.r,C1.r,r6,γ,ε,ζ,η,θ]));all_goals clear zz)
        rw[hq2];exact qv
      ·have y7:decide (c=[])=false:=decide_eq_false h0;rw[y7] at i7;rw[if_neg (λh=>h0 h.1)] at hq2
       (have zz:=aI C0.r C1.r;(repeat'(first|apply je<;>intro _|simp(disch:=first|exact qZ|fail) only[jb i2,jb i3,jb i5,jb i6,jb i7,zS (f:=32) (vs:=[.ptr 0 0,.ptr 1 0]),Qt,C0.q,C1.q,C0.r,C1.r,r6,γ,ε,ζ,η,θ]));all_goals clear zz)
       rw[hq2];exact qv
 ·have h4':(l.length:Int)<4:=om
  have hf:zZ l=false:=by rw[hh,decide_eq_false h4];rfl
  rw[hf];repeat'(first|apply je<;>intro _|simp(disch:=first|exact dzB|fail) only[e33,h4',jck,zS (f:=32) (vs:=[.ptr 0 0,.ptr 1 0]),Qt,r6,γ,ε,ζ,η,θ])
  exact qv
structure PW (base:Bs):Prop where
 right:∀ (f:FmT) (st:St),jx f=true->base.run 11 [.agg (fmE f)] st=.ok (.tup [.str (fmW f),.int .i64 0]) st
 wrong:∀ (f:FmT) (st:St),jx f=false->base.run 11 [.agg (fmE f)] st=.no
 raw:∀ (n:Int) (st:St),base.run 11 [.agg [.int .i64 n,.nils]] st=.no
theorem gz (hb:NB base)(f:FmT)(hf:FmS f)(hr:jx f=false):PX δ base 11 [.agg (fmE f)] (.ok (.tup [.str [],.int .i64 21])):=by
 have e14:=Xp hb f hf;rw[hr] at e14;refine jH x11 (by rfl) (hb.pur 11 1 dc) ?_;simp only[y11,jv,ξ,τ,ψ,χ];unfold z11;unfold fmE qJ at *;repeat'(first|apply je<;>intro _|simp(disch:=first|exact dzB|fail) only[e14,r6,γ,ε,ζ,η,θ])
 exact FzD.tup (.cons (.pc rfl) (.cons (.pc rfl) .nil))
theorem ja4 (hb:NB base)(hW:PW base){n:Int}(hr:jx ⟨n,[]⟩=false)(st:St)(K Kp:AV->St->Prop):XB δ base 11 [.agg [.int .i64 n,.nils]] st K Kp=K (.tup [.str [],.int .i64 21]) st:=
 (gz hb ⟨n,[]⟩ ⟨Qaa _,λc hc=>by cases hc⟩ hr).xf (aZ':=[.agg [.int .i64 n,.nils]]) (ks:=[]) rfl (λst=>hW.raw n st) K Kp
theorem wC (hb:NB base)(hW:PW base)(f:FmT)(hf:FmS f):Tot base 11 [.agg (fmE f)] (.tup [.str (zO f).1,.int .i64 (zO f).2]):=by
 have hw:zO f=if jx f=true then(fmW f,0) else([],21):=rfl
 cases hr:jx f with
 |true=>
  rw[hw,hr,if_pos rfl];exact λst=>Ys (P:=δ) (hW.right f st hr)
 |false=>
  rw[hw,hr,if_neg dc];have h:=gz hb f hf hr;exact λst K Kp=>h.xb (by simp[zw]) (λst=>hW.wrong f st hr) st K Kp
def exT:List Nat:=[112,32,99,110,102,32,50,32,49,10,49,32,45,50,32,48,10]
def exF:FmT:=⟨2,[[1,-2]]⟩
theorem jdM:zi exT=(exF,0):=by kernel_rfl
theorem jbX:jx exF=true:=by kernel_rfl
theorem jbV:zO exF=(exT,0):=by
 unfold zO;rw[jbX,if_pos rfl];simp[fmW,Q3,qi,yt,zx,zr,exF,exT]
theorem jfc:qp exF [false,true]=(false,0):=by kernel_rfl
theorem jfb:qp exF [false,false]=(true,0):=by kernel_rfl
theorem jbW:FmS exF:=⟨dc,dc⟩
theorem Xo (hb:NB base)(hP:PC base)(hW:PW base):Tot base 9 [] (.bool true):=by
 refine hb.tot ?_ rfl rfl;have e15:=YN hb hP exT dc;have e11:=wC hb hW exF jbW;have h1:=YO hb exF jbW [false,true] dc;have h2:=YO hb exF jbW [false,false] dc;rw[jdM] at e15;rw[jbV] at e11;rw[jfc] at h1;rw[jfb] at h2;have h1:=λ{st:St} {b:Nat} (C:Cl st b [.bool false,.bool true]) (K Kp:AV->St->Prop)=>h1.xb (st:=st) (aZ':=[.agg (fmE exF),.slice b 0 2 2 1 true]) (jD (zt (zw _)) (jD (vZ C rfl rfl) qI)) (λst=>hb.no 16 dc _ _) K Kp;have h2:=λ{st:St} {b:Nat} (C:Cl st b [.bool false,.bool false]) (K Kp:AV->St->Prop)=>h2.xb (st:=st) (aZ':=[.agg (fmE exF),.slice b 0 2 2 1 true]) (jD (zt (zw _)) (jD (vZ C rfl rfl) qI)) (λst=>hb.no 16 dc _ _) K Kp;unfold exT at *;refine jH x9 (by rfl) (hb.pur 9 1 dc) ?_;simp only[y9,jv,ξ,τ,ψ,χ];rw[(by unfold z9;simp only[qq];rfl:z9=_)];repeat'(first|apply je<;>intro _|simp(disch:=first|exact dzB|fail) only[e15,e11,h1,h2,r6,γ,ε,ζ,η,θ])
 exact G0.v (congrArg AV.bool (decide_eq_true (p:=True) trivial)) rfl
end Go.Sy
end
