/-
  Contracts: the code lowered, what it does told by rules, and the contracts of the functions that the law reaches.
-/
import Derived.Test.YtbpohnnpklbmeaaDoorPjSyB
import Derived.Test.YtbpohnnpklbmeaaDoorProg
import Derived.KernelRfl
set_option linter.unusedVariables false
set_option linter.unusedSimpArgs false
open Int renaming reduceToNat → Qaa, natCast_zero → Qan, zero_add → Qaq, ofNat → Qbb, eq_ofNat_of_zero_le → Qbk, natCast_nonneg → QbR
open Nat renaming reduceAdd → Qab, reduceSub → Qac, reduceMul → Qad, reduceBEq → Qae, le_refl → Qag, ble → Qak, beq → Qap, mul → Qar, le_trans → Qas, add → Qaw, succ → Qax, le_max_right → QaB, le_max_left → QaC, zero_add → QaF, lt_of_lt_of_le → QaH, zero_le → QaM, lt_or_ge → QaR, sub → QaS, add_mul → Qbd, sub_zero → Qbf, mul_le_mul_right → Qbg, lt_succ_self → Qbt, not_lt_zero → Qbw, le_of_eq → Qbx, mod_eq_of_lt → QbB, succ_lt_succ → QbE, add_zero → QbG, zero_mul → QbH, succ_mul → QbI, min_eq_left → QbJ, succ_pos → QbO, ne_of_lt → QbX, add_assoc → QbZ, lt_irrefl → Qca, add_comm → Qci, lt_trichotomy → Qcm
open Go.Proofs.Tryd renaming prog → Qaf
open List renaming getD_cons_zero → Qah, getD_cons_succ → Qai, map_cons → Qaj, length_cons → Qal, map_nil → Qam, length_nil → Qao, length_append → Qat, getElem?_eq_getElem → Qav, length_drop → QaA, range' → QaD, getD_eq_getElem?_getD → QaE, all_eq_true → QaG, getD → QaI, getElem_mem → QaJ, eq_nil_of_length_eq_zero → QaL, range → QaN, length_take → QaO, cons → QaP, cons_append → QaT, length_map → QaU, nil_append → QaV, take_length → QaY, all_cons → QaZ, map_append → Qbe, mem_append → Qbj, map_congr_left → Qbl, take_append_of_le_length → Qbn, range'_succ → Qbo, mem_cons → Qbp, getElem?_append_right → Qbs, getElem?_append_left → Qbu, map_map → Qbv, getElem?_map → Qby, take_succ_cons → Qbz, drop_drop → QbA, drop_zero → QbD, getElem_cons_succ → QbF, mem_cons_of_mem → QbM, ext_getElem → QbN, map_toArray → QbP, append_nil → QbS, getElem_cons_zero → QbT, take_take → QbU, take_zero → QbV, countP_singleton → QbW, length → Qcb, length_pos_iff → Qcd, foldr_cons → Qcf, all_append → Qcg, getElem?_take → Qch, append_assoc → Qck
open Array renaming length_toList → Qau, getElem?_eq_some_iff → Qay, replicate → QaQ, getD_eq_getD_getElem? → Qbq, toList_map → QbC, getElem?_toList → QbK, getElem?_setIfInBounds_ne → QbQ, mem_toList_iff → QbY, toList_append → Qcc, getElem?_eq_getElem → Qce
open Bool renaming and_eq_true → Qaz, eq_iff_iff → QaW, false_eq_true → Qba, not_eq_true' → Qbh, or_eq_true → Qbi, or_eq_false_iff → QbL, true_eq_false → Qcj
open Option renaming map_some → QaK, getD_some → QaX, bind_some → Qbc, map_none → Qbm, map_eq_some_iff → Qbr
open Function renaming comp_def → Qcl
noncomputable section
namespace Go.Sy
open Go.Ev Go.RowKit
section
variable {P:Program} {base:Bs} {st:St} {K:AV->St->Prop} {e:En}
theorem jg7 {b o k:Nat}(hpos:0<k)(h:o+k<=qe st.h b):jd (zT k (.ptr b o) st) K=K (.agg ((QaN k).map λi=>rat st.h b (o+i))) st:=by
 obtain⟨n,zl,z,cs,hg⟩:=Qt (h:=st.h) (b:=b) (by omega);rw[zJ hg] at h;have e1:Qak (Qaw o k) n=true:=qY h;simp only[zT,qy,hg,q9,e1,cond_true,jd,Xc hg,qc]
theorem jil {l:List Nat}{n:Nat}(h:n<=l.length)(k:IntKind):jd (zn (.str l) (some (.int k (n:Int))) none st) K=K (.str (l.drop n)) st:=by
 have e:j9 (.int k (n:Int))=λF=>F n:=by funext F;show(force n F)=F n;rw[jo]
 have e1:Qak n l.length=true:=qY h;have e2:Qak l.length l.length=true:=qY (Qag _);simp only[zn,yS,optA,e,jD,jo,e1,e2,cond_true,jd,qJ,yy];rw[show QaS l.length n=(l.drop n).length by rw[QaA];rfl,QaY]
theorem jik {l:List Nat}{n:Nat}(h:n<=l.length)(k:IntKind):jd (zn (.str l) none (some (.int k (n:Int))) st) K=K (.str (l.take n)) st:=by
 have e:j9 (.int k (n:Int))=λF=>F n:=by funext F;show(force n F)=F n;rw[jo]
 have e1:Qak n l.length=true:=qY h;have e2:Qak 0 n=true:=qY (QaM _);simp only[zn,yS,optA,e,jD,jo,e1,e2,cond_true,jd,qJ,yy];rfl
theorem jij {l:List Nat}{a n:Nat}(h:a<=n)(h2:n<=l.length)(k k':IntKind):jd (zn (.str l) (some (.int k (a:Int))) (some (.int k' (n:Int))) st) K=K (.str ((l.drop a).take (n - a))) st:=by
 have e:∀ (k:IntKind) (n:Nat),j9 (.int k (n:Int))=λF=>F n:=λk n=>by funext F;show(force n F)=F n;rw[jo]
 have e1:Qak n l.length=true:=qY h2;have e2:Qak a n=true:=qY h;simp only[zn,yS,optA,e,jD,jo,e1,e2,cond_true,jd,qJ,yy];rfl
end
def nw (s:St)(cs:List AV):St:=⟨s.nx+1,(jT (jv s.nx)).run (.row cs.length cs.length cs .e) s.h,s.dirty,s.fr⟩
def H0 (x:Option AO)(o:Nat)(vs:List AV):AO:=match x with|some (.row n zl z cs)=>.row n zl z (j2 vs cs o)|_=>.row 0 1 [] (j2 vs .e o)
def wr (s:St)(b o:Nat)(vs:List AV):St:=⟨s.nx,(jT (jv b)).run (H0 (jh s.h b) o vs) s.h,min s.dirty b,s.fr⟩
def apO (x:Option AO)(vs:List AV):AO:=match x with|some (.row n zl z cs)=>.row (n+vs.length) zl z (j2 vs cs n)|_=>.row vs.length 1 [] (j2 vs .e 0)
def ap (s:St)(b:Nat)(vs:List AV):St:=⟨s.nx+1,(jT (jv s.nx)).run (apO (jh s.h b) vs) ((jT (jv b)).run .dead s.h),min s.dirty b,s.fr⟩
theorem jf (s:St)(cs:List AV):(nw s cs).nx=s.nx+1:=nr rfl
theorem jg (s:St)(b o:Nat)(vs:List AV):(wr s b o vs).nx=s.nx:=nr rfl
theorem jq (s:St):s.bare.nx=s.nx:=nr rfl
theorem ZP (s:St):s.bare.h=s.h:=nr rfl
theorem ul (s:St)(cs:List AV):(nw s cs).fr=s.fr:=nr rfl
theorem kQ (s:St)(b o:Nat)(vs:List AV):(wr s b o vs).fr=s.fr:=nr rfl
theorem Hk (s:St):s.bare.fr=[]:=nr rfl
theorem Qx {s:St}{cs:List AV}{b:Nat}(h:b≠s.nx):jh (nw s cs).h b=jh s.h b:=by unfold nw;rw[jS,if_neg h]
theorem Qv {s:St}{b o:Nat}{vs:List AV}{c:Nat}(h:c≠b):jh (wr s b o vs).h c=jh s.h c:=by unfold wr;rw[jS,if_neg h]
theorem Hi {s:St}{b:Nat}{vs:List AV}{c:Nat}(h:c≠s.nx)(h2:c≠b):jh (ap s b vs).h c=jh s.h c:=by unfold ap;rw[jS,if_neg h,jS,if_neg h2]
theorem jca (s:St)(cs:List AV):qe (nw s cs).h s.nx=cs.length:=by unfold nw;rw[jdN,if_pos rfl]
theorem Yn {s:St}{cs:List AV}{b:Nat}(h:b≠s.nx):qe (nw s cs).h b=qe s.h b:=q8 (Qx h)
theorem jaQ {s:St}{cs:List AV}{i:Nat}(h:i<cs.length):rat (nw s cs).h s.nx i=cs.getD i .bad:=by unfold nw;rw[jf1,if_pos rfl,yw,Qg,QbB h];rfl
theorem Vj {s:St}{cs:List AV}{b i:Nat}(h:b≠s.nx):rat (nw s cs).h b i=rat s.h b i:=qT (Qx h) i
theorem Yo {s:St}{cs:List AV}{b:Nat}(h:b=s.nx):qe (nw s cs).h b=cs.length:=by rw[h,jca]
theorem Vk {s:St}{cs:List AV}{b i:Nat}(h:b=s.nx)(hi:i<cs.length):rat (nw s cs).h b i=cs.getD i .bad:=by rw[h,jaQ hi]
theorem YK (s:St)(b o:Nat)(vs:List AV)(c:Nat):qe (wr s b o vs).h c=qe s.h c:=by
 by_cases h:c=b
 ·subst h;unfold wr H0 qe;rw[jS,if_pos rfl];cases jh s.h c with
  |none=>rfl
  |some x=>cases x<;>rfl
 ·exact q8 (Qv h)
theorem vI (s:St)(b o:Nat)(vs:List AV)(i:Nat):rat (wr s b o vs).h b i=if o<=i/\i<o+vs.length then vs.getD (i - o) .bad else rat s.h b i:=by
 unfold wr rat;rw[jS,if_pos rfl];unfold H0;cases jh s.h b with
 |none=>simp only[yi];congr 1;rw[yw,Qg];rfl
 |some x=>cases x<;>simp only[yi]<;>(congr 1;rw[yw,Qg];rfl)
theorem Vi {s:St}{b o:Nat}{vs:List AV}{i:Nat}(h1:o<=i)(h2:i<o+vs.length):rat (wr s b o vs).h b i=vs.getD (i - o) .bad:=by rw[vI,if_pos ⟨h1,h2⟩]
theorem Vg {s:St}{b o:Nat}{vs:List AV}{i:Nat}(h:i<o):rat (wr s b o vs).h b i=rat s.h b i:=by rw[vI,if_neg (by omega)]
theorem Vh {s:St}{b o:Nat}{vs:List AV}{i:Nat}(h:o+vs.length<=i):rat (wr s b o vs).h b i=rat s.h b i:=by rw[vI,if_neg (by omega)]
theorem Vf {s:St}{b o c:Nat}{vs:List AV}{i:Nat}(h:c≠b):rat (wr s b o vs).h c i=rat s.h c i:=qT (Qv h) i
theorem jec {s:St}{b o:Nat}{vs:List AV}{c:Nat}(h:Zk s.h c):Zk (wr s b o vs).h c:=by
 by_cases hc:c=b
 ·subst hc;unfold Zk wr;rw[jS,if_pos rfl];obtain⟨n,zl,z,cs,e⟩:=h;rw[e];exact⟨_,_,_,_,rfl⟩
 ·exact zd (Qv hc) h
structure Cl (s:St)(b:Nat)(cs:List AV):Prop where
 lt:b<s.nx
 row:Zk s.h b
 len:qe s.h b=cs.length
 cell:∀ i,i<cs.length->rat s.h b i=cs.getD i .bad
theorem Cl.keep {s s':St}{b:Nat}{cs:List AV}(h:Cl s b cs)(hn:s.nx<=s'.nx)(k:jh s'.h b=jh s.h b):Cl s' b cs:=
 ⟨QaH h.lt hn,zd k h.row,(q8 k).trans h.len,λi hi=>(qT k i).trans (h.cell i hi)⟩
theorem Cl.new (s:St)(cs:List AV):Cl (nw s cs) s.nx cs:=
 ⟨Qbt _,⟨_,_,_,_,by unfold nw;rw[jS,if_pos rfl]⟩,jca s cs,λi hi=>jaQ hi⟩
theorem Cl.nw {s:St}{b:Nat}{cs:List AV}(h:Cl s b cs)(ds:List AV):Cl (nw s ds) b cs:=h.keep (Nat.le_succ _) (Qx (QbX h.lt))
theorem Cl.wrO {s:St}{b:Nat}{cs:List AV}(h:Cl s b cs){c:Nat}(hc:b≠c)(o:Nat)(vs:List AV):Cl (wr s c o vs) b cs:=h.keep (Qag _) (Qv hc)
def upd:List AV->Nat->List AV->List AV
 |[],_,_=>[]
 |c :: cs,0,[]=>c :: cs
 |c :: cs,0,v :: vs=>v :: upd cs 0 vs
 |c :: cs,o+1,vs=>c :: upd cs o vs
theorem Zy:∀ (cs:List AV) (o:Nat) (vs:List AV),(upd cs o vs).length=cs.length
 |[],_,_=>rfl
 |c :: cs,0,[]=>rfl
 |c :: cs,0,v :: vs=>by show(upd cs 0 vs).length+1=_;rw[Zy cs 0 vs];rfl
 |c :: cs,o+1,vs=>by show(upd cs o vs).length+1=_;rw[Zy cs o vs];rfl
theorem vN:∀ (cs:List AV) (o:Nat) (vs:List AV) (i:Nat),i<cs.length->(upd cs o vs).getD i .bad=if o<=i/\i<o+vs.length then vs.getD (i - o) .bad else cs.getD i .bad
 |[],_,_,_,h=>by simp at h
 |c :: cs,0,[],i,h=>by rw[if_neg (by simp)];rfl
 |c :: cs,0,v :: vs,0,h=>by rw[if_pos (by simp)];rfl
 |c :: cs,0,v :: vs,i+1,h=>by
  show(upd cs 0 vs).getD i .bad=_;rw[vN cs 0 vs i (by simpa using h)];by_cases hi:i<vs.length
  ·rw[if_pos (by omega),if_pos (by simp;omega)];rfl
  ·rw[if_neg (by omega),if_neg (by simp;omega)];rfl
 |c :: cs,o+1,vs,0,h=>by rw[if_neg (by omega)];rfl
 |c :: cs,o+1,vs,i+1,h=>by
  show(upd cs o vs).getD i .bad=_;rw[vN cs o vs i (by simpa using h)];by_cases hi:o<=i/\i<o+vs.length
  ·rw[if_pos hi,if_pos (by omega),Nat.add_sub_add_right]
  ·rw[if_neg hi,if_neg (by omega)];rfl
theorem Cl.wr {s:St}{b:Nat}{cs:List AV}(h:Cl s b cs)(o:Nat)(vs:List AV):Cl (wr s b o vs) b (upd cs o vs):=
 ⟨h.lt,jec h.row,by rw[YK,h.len,Zy],λi hi=>by
  rw[Zy] at hi;rw[vI,vN _ _ _ _ hi,h.cell i hi]⟩
theorem Cl.ap {s:St}{b:Nat}{cs:List AV}(h:Cl s b cs)(vs:List AV):Cl (ap s b vs) s.nx (cs ++ vs):=by
 obtain⟨n,zl,z,ks,e⟩:=h.row;have hl:=h.len;rw[zJ e] at hl;have eo:jh (Go.Sy.ap s b vs).h s.nx=some (.row (n+vs.length) zl z (j2 vs ks n)):=by unfold Go.Sy.ap;rw[jS,if_pos rfl,e];rfl
 refine⟨Qbt _,⟨_,_,_,_,eo⟩,by rw[zJ eo,Qat,hl],λi hi=>?_⟩;rw[Xc eo,yi];rw[Qat] at hi;by_cases hc:n<=i/\i<n+vs.length
 ·rw[if_pos hc,QaE,QaE,Qbs (by omega),hl]
 ·have hi':i<cs.length:=by omega
  rw[if_neg hc,<-Xc e,h.cell i hi',QaE,QaE,Qbu hi']
theorem QD (cs:List AV):(AV.agg cs).cells=cs:=nr rfl
theorem Ze (k:IntKind)(n:Int):(AV.int k n).cells=[.int k n]:=nr rfl
theorem Za (l:List Nat):(AV.str l).cells=[.str l]:=nr rfl
theorem Ya (b:Bool):(AV.bool b).cells=[.bool b]:=nr rfl
theorem Xs (b o n c z:Nat)(x:Bool):(AV.slice b o n c z x).cells=[.slice b o n c z x]:=nr rfl
theorem X9:AV.nils.cells=[.nils]:=nr rfl
theorem Zc (b o:Nat):(AV.ptr b o).cells=[.ptr b o]:=nr rfl
theorem gd:lall AV.cell []=true:=nr rfl
theorem gf (k:IntKind)(n:Int)(l:List AV):lall AV.cell (.int k n :: l)=lall AV.cell l:=nr rfl
theorem gb (x:List Nat)(l:List AV):lall AV.cell (.str x :: l)=lall AV.cell l:=nr rfl
theorem UH (x:Bool)(l:List AV):lall AV.cell (.bool x :: l)=lall AV.cell l:=nr rfl
theorem WP (b o n c z:Nat)(x:Bool)(l:List AV):lall AV.cell (.slice b o n c z x :: l)=lall AV.cell l:=nr rfl
theorem UG (l:List AV):lall AV.cell (.nils :: l)=lall AV.cell l:=nr rfl
theorem gc (b o:Nat)(l:List AV):lall AV.cell (.ptr b o :: l)=lall AV.cell l:=nr rfl
theorem jd8 (a b:List AV)(h:lall AV.cell a=true):lall AV.cell (a ++ b)=lall AV.cell b:=by
 induction a with
 |nil=>rfl
 |cons c a ih=>
  have h':cond c.cell (lall AV.cell a) false=true:=h;cases hc:c.cell with
  |false=>rw[hc] at h';cases h'
  |true=>
   rw[hc] at h';show cond c.cell (lall AV.cell (a ++ b)) false=_;rw[hc];exact ih h'
section
variable {P:Program} {base:Bs} {st:St} {K:AV->St->Prop} {e:En}
theorem jaU (cs:List AV):jd (Ev.newRow st cs) K=K (.ptr st.nx 0) (nw st cs):=by
 simp only[Ev.newRow,jo,jD,St.alloc_eq,jd];rfl
theorem jfG {v:AV}(h:lall AV.cell v.cells=true):jd (jes v st) K=K (.ptr st.nx 0) (nw st v.cells):=by
 simp only[jes,h,cond_true];exact jaU _
theorem jia {k b o:Nat}{v:AV}(hk:0<k)(hc:v.cells.length=k)(hl:lall AV.cell v.cells=true)(ho:o+k<=qe st.h b):jd (stV k (.ptr b o) v st) K=K j1 (wr st b o v.cells):=by
 obtain⟨n,zl,z,cs,hg⟩:=Qt (h:=st.h) (b:=b) (by omega);rw[zJ hg] at ho;have e1:Qap (jz v.cells) k=true:=Zg (by rw[jD];exact hc);have e2:Qak (Qaw o k) n=true:=qY ho;simp only[stV,qy,hg,q9,e1,e2,hl,cond_true,St.put_eq,jd];unfold wr H0;rw[hg]
def rats (h:T AO)(b o:Nat):Nat->List AV
 |0=>[]
 |k+1=>rat h b o :: rats h b (o+1) k
theorem Yk (h:T AO)(b:Nat):∀ (k o:Nat),rats h b o k=(QaN k).map λi=>rat h b (o+i)
 |0,o=>rfl
 |k+1,o=>by
  rw[List.range_succ_eq_map,Qaj,Qbv];show rat h b o :: rats h b (o+1) k=_;rw[Yk h b k (o+1)]
  congr 1
  refine Qbl λi _=>?_;show rat h b (o+1+i)=rat h b (o+(i+1));rw[QbZ,Qci 1 i]
theorem jaV {k b o:Nat}(hk:0<k)(h:o+k<=qe st.h b):jd (zT k (.ptr b o) st) K=K (.agg (rats st.h b o k)) st:=by rw[Yk];exact jg7 hk h
theorem kC (h:T AO)(b o k:Nat):rats h b o (k+1)=rat h b o :: rats h b (o+1) k:=nr rfl
theorem Cl.ratsP {s:St}{b:Nat}{cs:List AV}(h:Cl s b cs):∀ k o,o+k<=cs.length->rats s.h b o k=(cs.drop o).take k
 |0,o,_=>rfl
 |k+1,o,hk=>by
  show rat s.h b o :: Go.Sy.rats s.h b (o+1) k=_;rw[h.ratsP k (o+1) (by omega),h.cell o (by omega),List.drop_eq_getElem_cons (show o<cs.length by omega),Qbz,QaE,Qav (by omega)];rfl
theorem Xv {h h':T AO}{b:Nat}(e:jh h' b=jh h b):∀ k o,rats h' b o k=rats h b o k
 |0,_=>rfl
 |k+1,o=>by rw[kC,kC,qT e,Xv e k]
theorem Xb (h:T AO)(b:Nat):∀ k o,(rats h b o k).length=k
 |0,_=>rfl
 |k+1,o=>by rw[kC,Qal,Xb h b k]
theorem Z9 {h:T AO}{b:Nat}:∀ {k o:Nat} {cs:List AV},cs.length=k->(∀ i,i<k->rat h b (o+i)=cs.getD i .bad)->rats h b o k=cs
 |0,o,[],_,_=>rfl
 |k+1,o,c :: cs,hl,h=>by
  rw[kC,Z9 (cs:=cs) (by simpa using hl) (λi hi=>by
   have:=h (i+1) (by omega);rw[show o+1+i=o+(i+1) by omega,this];rfl)]
  have:=h 0 (by omega);rw[QbG] at this;rw[this];rfl
theorem jf0 {s:St}{cs:List AV}{k:Nat}(h:cs.length=k):rats (nw s cs).h s.nx 0 k=cs:=Z9 h λi hi=>by rw[QaF];exact jaQ (by omega)
theorem Xa {s:St}{cs:List AV}{b k:Nat}(hb:b=s.nx)(h:cs.length=k):rats (nw s cs).h b 0 k=cs:=by rw[hb,jf0 h]
theorem Q9 {s:St}{cs:List AV}{b o k:Nat}(h:b≠s.nx):rats (nw s cs).h b o k=rats s.h b o k:=Xv (Qx h) _ _
theorem Yi {s:St}{b o k:Nat}{vs:List AV}(h:vs.length=k):rats (wr s b o vs).h b o k=vs:=Z9 h λi hi=>by
 rw[Vi (by omega) (by omega),Nat.add_sub_cancel_left]
theorem Q7 {s:St}{b c o o' k:Nat}{vs:List AV}(h:b≠c):rats (wr s c o' vs).h b o k=rats s.h b o k:=Xv (Qv h) _ _
theorem Q8 {s:St}{b o k:Nat}{vs:List AV}:rats (wr s b o vs).h b 0 k=upd (rats s.h b 0 k) o vs:=by
 refine Z9 (by rw[Zy,Xb]) λi hi=>?_;rw[QaF,vI,vN _ _ _ _ (by rw[Xb];exact hi),Yk]
 congr 1
 simp[QaE,Qby,hi]
theorem Q3 (o:Nat)(vs:List AV):upd [] o vs=[]:=nr (by cases o<;>rfl)
theorem QH (c:AV)(cs:List AV):upd (c :: cs) 0 []=c :: cs:=nr rfl
theorem Xk (c:AV)(cs:List AV)(v:AV)(vs:List AV):upd (c :: cs) 0 (v :: vs)=v :: upd cs 0 vs:=nr rfl
theorem XR (c:AV)(cs:List AV)(o:Nat)(vs:List AV):upd (c :: cs) (o+1) vs=c :: upd cs o vs:=nr rfl
theorem XQ:∀ (cs:List AV) ,upd cs 0 []=cs
 |[]=>rfl
 |c :: cs=>rfl
theorem Cl.of_rats {s:St}{b k:Nat}{cs:List AV}(h1:b<s.nx)(h2:qe s.h b=k)(h3:cs.length=k)(h4:0<k)(h5:Go.Sy.rats s.h b 0 k=cs):Cl s b cs:=by
 refine⟨h1,Qt (by omega),by omega,λi hi=>?_⟩;have:=congrArg (λl=>l.getD i .bad) h5;rw[Yk] at this;have hi':i<k:=by omega
 simpa[QaE,Qby,hi'] using this
theorem Cl.ldA {s:St}{b k o:Nat}{cs:List AV}(h:Cl s b cs)(hk:0<k)(ho:o+k<=cs.length)(K:AV->St->Prop):jd (zT k (.ptr b o) s) K=K (.agg ((cs.drop o).take k)) s:=by
 rw[jaV hk (by rw[h.len];exact ho),h.ratsP k o ho]
end
section
variable {P:Program} {base:Bs} {st:St} {K:AV->St->Prop} {e:En}
theorem Zz:∀ (z:List AV) (off:Nat) (vs:List AV),off+vs.length<=z.length->z.take off ++ (vs ++ z.drop (off+vs.length))=upd z off vs
 |[],off,vs,h=>by
  have hv:vs=[]:=QaL (by have h':off+vs.length<=0:=h;omega);subst hv;simp[upd]
 |c :: z,0,[],_=>rfl
 |c :: z,0,v :: vs,h=>by
  show v :: (vs ++ (c :: z).drop (0+(vs.length+1)))=v :: upd z 0 vs;rw[<-Zz z 0 vs (by simp at h ⊢;omega)];simp
 |c :: z,off+1,vs,h=>by
  show c :: z.take off ++ (vs ++ (c :: z).drop (off+1+vs.length))=c :: upd z off vs;rw[<-Zz z off vs (by simp at h;omega),show off+1+vs.length=(off+vs.length)+1 by omega];rfl
theorem UO {z:List AV}{off size:Nat}{v:AV}{ps:List ((Nat×Nat)×AV)}(h1:v.plain=true)(h2:v.cells.length=size)(h3:off+size<=z.length):Qi z (((off,size),v) :: ps)=Qi (upd z off v.cells) ps:=by
 have e1:Qap (jz v.cells) size=true:=Zg (by rw[jD];exact h2);have e2:Qak (Qaw off size) (jz z)=true:=qY (by rw[jD];exact h3);have e3:yA (qX z off) (yA v.cells (yz z (Qaw off size)))=upd z off v.cells:=by
  rw[yn,yn,qJ,yy,<-Zz z off v.cells (by omega),h2];rfl
 show cond v.plain (cond (Qap (jz v.cells) size) (cond (Qak (Qaw off size) (jz z)) (Qi (yA (qX z off) (yA v.cells (yz z (Qaw off size)))) ps) none) none) none=_;rw[h1,e1,e2,e3];rfl
theorem Ge (z:List AV):jd (vE z [] st) K=K (.agg z) st:=nr rfl
theorem Gd {z:List AV}{off size:Nat}{v:AV}{ps:List ((Nat×Nat)×AV)}(h1:v.plain=true)(h2:v.cells.length=size)(h3:off+size<=z.length):jd (vE z (((off,size),v) :: ps) st) K=jd (vE (upd z off v.cells) ps st) K:=by
 unfold vE;rw[UO h1 h2 h3]
def bSV (len s:Nat)(z:List AV)(ps:List ((Nat×Nat)×AV))(st:St):ER:=jG (Qi z ps) λcells=>
 cond (lall AV.cell cells) (force (jz cells) λn=>st.alloc (.row n n cells .e) λb st=>.ok (.slice b 0 len len s true) st) .no
theorem jeD (len s:Nat)(z:List AV)(ps:List ((Nat×Nat)×AV)):jd (Ua len s z ps st) K=jd (bSV len s (yl z len) ps st) K:=nr rfl
theorem jaW {len s:Nat}{z:List AV}(h:lall AV.cell z=true):jd (bSV len s z [] st) K=K (.slice st.nx 0 len len s true) (nw st z):=by
 have e:Qi z []=some z:=rfl;simp only[bSV,e,jG,h,cond_true,jo,jD,St.alloc_eq,jd];rfl
theorem Kb {len s:Nat}{z:List AV}{off size:Nat}{v:AV}{ps:List ((Nat×Nat)×AV)}(h1:v.plain=true)(h2:v.cells.length=size)(h3:off+size<=z.length):jd (bSV len s z (((off,size),v) :: ps) st) K=jd (bSV len s (upd z off v.cells) ps st) K:=by
 unfold bSV;rw[UO h1 h2 h3]
theorem Wx (z:List AV):yl z 0=[]:=nr rfl
theorem vX (z:List AV)(n:Nat):yl z (n+1)=z ++ yl z n:=nr (by first|rfl|(unfold yl;simp[yn]))
def wh (e:En):List ((Nat×Nat)×A)->(F:List ((Nat×Nat)×AV)->Prop)->Res F
 |[],F=>F []
 |(p,a) :: l,F=>on1 e a λv=>wh e l λvs=>F ((p,v) :: vs)
theorem VL (e:En):∀ (l:List ((Nat×Nat)×A)) (F:List ((Nat×Nat)×AV)->Prop),wh e l F=((l.map (·.2)).all (okA e)=true/\F (l.map λp=>(p.1,vl e p.2)))
 |[],F=>by simp[wh]
 |(p,a) :: l,F=>by simp[wh,VL e l,on1,and_assoc]
theorem gm (z:List AV)(ps:List ((Nat×Nat)×A)):wK P base (.i (.build z ps)) e st K=wh e ps λvs=>jd (vE z vs st) K:=by
 rw[VL];rfl
theorem UI (len s:Nat)(z:List AV)(ps:List ((Nat×Nat)×A)):wK P base (.i (.buildS len s z ps)) e st K=wh e ps λvs=>jd (Ua len s z vs st) K:=by
 rw[VL];rfl
theorem jfm (f:FuncId)(l:List A):wK P base (.i (.fn f l)) e st K=YE e l λvs=>K (.fn f vs) st:=by
 rw[ZJ];rfl
theorem je9 (F:List ((Nat×Nat)×AV)->Prop):wh e [] F=F []:=nr rfl
theorem je8 (p:Nat×Nat)(a:A)(l:List ((Nat×Nat)×A))(F:List ((Nat×Nat)×AV)->Prop):wh e ((p,a) :: l) F=on1 e a λv=>wh e l λvs=>F ((p,v) :: vs):=nr rfl
theorem Us (k:IntKind)(n:Int):(AV.int k n).plain=true:=nr rfl
theorem Up (l:List Nat):(AV.str l).plain=true:=nr rfl
theorem WB (b:Bool):(AV.bool b).plain=true:=nr rfl
theorem uE (b o n c z:Nat)(x:Bool):(AV.slice b o n c z x).plain=true:=nr rfl
theorem WA:AV.nils.plain=true:=nr rfl
theorem Uq (b o:Nat):(AV.ptr b o).plain=true:=nr rfl
theorem Ut (cs:List AV):(AV.agg cs).plain=true:=nr rfl
theorem GJ (t:TypeId)(x:A):wK P base (.i (.iface t x)) e st K=on1 e x λv=>K (.iface t v) st:=k_1 (V:=λv st=>.ok (.iface t v) st) rfl (λ_=>rfl) K
end
def eqs:AV->Bool
 |.bool _=>true | .int _ _=>true | .str _=>true | .ptr _ _=>true | .nilp=>true | .slice _ _ _ _ _ _=>true | .nils=>true | .map _=>true | .nilm=>true | .nilf=>true | .nilif=>true | .lst _ _=>true | .xlst _ _=>true | .lptr _ _=>true
 |_=>false
theorem jem (a:Int):eqI a a=true:=by cases a<;>simp[eqI]
theorem zr (a:Nat):Qap a a=true:=by rw[qh]
theorem vt (l:List AV):Zp l l=true:=by unfold Zp;exact @decide_eq_true _ (_) rfl
theorem vv {v:AV}(h:eqs v=true):Xh v v=true:=by
 cases v<;>first|(cases h;done)|rfl|skip
 case bool b=>cases b<;>rfl
 case int k n=>show cond (eqK k k) (eqI n n) false=true;rw[JD,jem];rfl
 case str s=>show Xm s s=true;rw[Jd];simp
 case ptr b o=>show cond (Qap b b) (Qap o o) false=true;rw[zr,zr];rfl
 case slice b o n c z ex=>
  show cond (Qap b b) (cond (Qap o o) (cond (Qap n n) (cond (Qap c c) (cond (Qap z z) (cond ex ex (cond ex false true)) false) false) false) false) false=true;rw[zr,zr,zr,zr,zr];cases ex<;>rfl
 case map r=>show Qap r r=true;exact zr r
 case lst n cs=>show cond (Qap n n) (Zp cs cs) false=true;rw[zr,vt];rfl
 case xlst n cs=>show cond (Qap n n) (Zp cs cs) false=true;rw[zr,vt];rfl
 case lptr cs n=>show cond (Qap n n) (Zp cs cs) false=true;rw[zr,vt];rfl
theorem vu:∀ {l:List AV},l.all eqs=true->ZS l l=true
 |[],_=>rfl
 |v :: l,h=>by
  simp only[QaZ,Qaz] at h;show cond (Xh v v) (ZS l l) false=true;rw[vv h.1,vu h.2];rfl
theorem jcC {v:AV}(h:eqs v=true):jaA v v=true:=by
 cases v<;>first|(cases h;done)|exact vv h
section
variable {P:Program}
theorem zP {t:TypeId}{b o:Nat}{v:AV}{h:T AO}(h1:Go.Ev.isAgg P t=some false)(h2:Go.Ev.sizeOf P t=some 1)(ho:o<qe h b)(hv:rat h b o=v)(hc:eqs v=true):jN P t (.ptr b o) v h=true:=by
 obtain⟨n,zl,z,cs,hg⟩:=Qt (h:=h) (b:=b) (by omega);rw[zJ hg] at ho;rw[Xc hg] at hv;have e3:Qak (Qax o) n=true:=qY ho;have e:(qn P t).run (.ptr b o) h=some v:=by simp only[qn,h1,h2,hg,e3,cond_true,hv]
 unfold jN;dsimp only;rw[e];exact jcC hc
theorem wQ {t:TypeId}{b o k:Nat}{cs:List AV}{h:T AO}(h1:Go.Ev.isAgg P t=some true)(h2:Go.Ev.sizeOf P t=some k)(hk:0<k)(ho:o+k<=qe h b)(hv:rats h b o k=cs)(hc:cs.all eqs=true):jN P t (.ptr b o) (.agg cs) h=true:=by
 obtain⟨n,zl,z,cs',hg⟩:=Qt (h:=h) (b:=b) (by omega);rw[zJ hg] at ho;have e3:Qak (Qaw o k) n=true:=qY ho;have e:(qn P t).run (.ptr b o) h=some (.agg cs):=by
  simp only[qn,h1,h2,hg,e3,cond_true];rw[<-hv,Yk,qc]
  congr 2
  refine Qbl λi _=>?_;rw[Xc hg]
 unfold jN;dsimp only;rw[e];exact vu hc
def Qf (P:Program)(t u:TypeId)(x y:TE):Bool:=
 match x,y with
 |.rd a v,.wr pre post=>jN P t a v pre && jN P t a v post
 |.rd _ _,.rd _ _=>false
 |.wr pre post,.rd a v=>jN P u a v pre && jN P u a v post
 |.wr _ _,.wr _ _=>false
 |_,_=>true
theorem h_0 (t:TypeId)(x:TE)(tb:List TE):(held P t x tb []=true)=True:=by simp[held]
theorem h_1 (t:TypeId)(x:TE)(tb:List TE)(k:Nat)(u:TypeId)(l:List (Nat×TypeId)):(held P t x tb ((k,u) :: l)=true)=(Qf P t u x (qP .none tb k)=true/\held P t x tb l=true):=by
 have e:held P t x tb ((k,u) :: l)=cond (Qf P t u x (qP .none tb k)) (held P t x tb l) false:=by
  show cond _ _ false=cond _ _ false
  congr 1
  unfold Qf;cases x<;>cases qP TE.none tb k<;>first|rfl|(simp only[Bool.cond_eq_ite];split<;>simp[*])
 rw[e];cases Qf P t u x (qP .none tb k)<;>simp
theorem jhP (t u:TypeId)(a v:AV)(pre post:T AO):(Qf P t u (.rd a v) (.wr pre post)=true)=(jN P t a v pre=true/\jN P t a v post=true):=by simp[Qf]
theorem jhO (t u:TypeId)(a v:AV)(pre post:T AO):(Qf P t u (.wr pre post) (.rd a v)=true)=(jN P u a v pre=true/\jN P u a v post=true):=by simp[Qf]
theorem jhR (t u:TypeId)(y:TE):(Qf P t u .none y=true)=True:=by simp[Qf]
theorem jhQ (t u:TypeId)(x:TE):(Qf P t u x .none=true)=True:=by cases x<;>simp[Qf]
theorem jhD (d x:TE)(l:List TE):qP d (x :: l) 0=x:=nr rfl
theorem jhC (d x:TE)(l:List TE)(n:Nat):qP d (x :: l) (n+1)=qP d l n:=nr rfl
theorem jhh (e:En)(v:AV)(st st':St):teW none e v st st'=.none:=nr rfl
theorem jhg (e:En)(v:AV)(st st':St):teW (some none) e v st st'=.wr st.h st'.h:=nr rfl
theorem jhf (a:A)(e:En)(v:AV)(st st':St):teW (some (some a)) e v st st'=.rd (vl e a) v:=nr rfl
theorem jg4 (e:En)(v:AV):vl e (.c v)=v:=nr rfl
theorem jg2 (x:Nat)(v:AV)(l g:Sl):vl ⟨(x,v) :: l,g⟩ (.t x)=v:=by simp[vl,En.look,ym,En.has,yN]
theorem jeM {k x:Nat}(h:k≠x)(v:AV)(l g:Sl):vl ⟨(k,v) :: l,g⟩ (.t x)=vl ⟨l,g⟩ (.t x):=by simp[vl,En.look,ym,En.has,yN,h]
theorem jg3 (x:Nat)(v:AV)(g:Sl):vl ⟨[],(x,v) :: g⟩ (.t x)=v:=by simp[vl,En.look,ym,En.has,yN,has]
theorem jeN {k x:Nat}(h:k≠x)(v:AV)(g:Sl):vl ⟨[],(k,v) :: g⟩ (.t x)=vl ⟨[],g⟩ (.t x):=by simp[vl,En.look,ym,En.has,yN,has,h]
theorem Ky {L:Sl}{x:Nat}{v:AV}(h:Has L x v):vl ⟨[],L⟩ (.t x)=v:=by
 obtain⟨h1,h2⟩:=h;simp[vl,En.has,En.look,has,h2]
end
section
variable {P:Program} {base:Bs} {st:St} {K:AV->St->Prop} {e:En}
def wO (sz:Nat)(v:AV)(lo hi:Option AV)(st:St):ER:=match v with
 |.nils=>optA lo 0 λl=>optA hi 0 λh=>cond (Qap l 0) (cond (Qap h 0) (.ok .nils st) .no) .no
 |.slice b o len cap sz' ex=>optA lo 0 λl=>optA hi len λh=>
  cond (Qap sz' sz) (cond (Qak l h) (cond (Qak h cap) (force (QaS h l) λk=>force (Qaw o (Qar l sz)) λo=>force (QaS cap l) λc=>.ok (.slice b o k c sz ex) st) .no) .no) .no
 |.lst n cs=>optA lo 0 λl=>optA hi n λh=>
  cond (Qak l h) (cond (Qak h n) (cond (Qak (Qar h sz) (jz cs)) (.ok (.lst (QaS h l) (qX (yz cs (Qar l sz)) (Qar (QaS h l) sz))) st) .no) .no) .no
 |_=>.no
theorem jcg (sz:Nat)(x lo:A):wK P base (.i (.slS sz x (some lo) none)) e st K=on1 e x λv=>on1 e lo λl=>jd (wO sz v (some l) none st) K:=k_2 (V:=λv l st=>wO sz v (some l) none st) rfl (λ_=>rfl) K
theorem jcf (sz:Nat)(x hi:A):wK P base (.i (.slS sz x none (some hi))) e st K=on1 e x λv=>on1 e hi λh=>jd (wO sz v none (some h) st) K:=k_2 (V:=λv h st=>wO sz v none (some h) st) rfl (λ_=>rfl) K
theorem jce (sz:Nat)(x lo hi:A):wK P base (.i (.slS sz x (some lo) (some hi))) e st K=on1 e x λv=>on1 e lo λl=>on1 e hi λh=>jd (wO sz v (some l) (some h) st) K:=k_3 (V:=λv l h st=>wO sz v (some l) (some h) st) rfl (λ_=>rfl) K
end
end Go.Sy
end
noncomputable section
namespace Go.Sy
open Go.Ev Go.RowKit
def ifW (p:Prop)(a b:Prop):Res (a,b):=(p->a)/\(¬ p->b)
theorem jb {p a b:Prop}(h1:p->a)(h2:¬ p->b):ifW p a b:=⟨h1,h2⟩
theorem WT {p a b:Prop}(h:p):ifW p a b=a:=propext ⟨λk=>k.1 h,λk=>⟨λ_=>k,λn=>absurd h n⟩⟩
theorem WU {p a b:Prop}(h:¬ p):ifW p a b=b:=propext ⟨λk=>k.2 h,λk=>⟨λn=>absurd n h,λ_=>k⟩⟩
section
variable {P:Program} {base:Bs} {st:St} {K Kp:AV->St->Prop} {e:En}
theorem Hu (q:Bool)(a b:Prop):Y9 (.bool q) a b=ifW (q=true) a b:=by cases q<;>simp[Y9,ifW]
theorem jh3 (q:Bool)(a b:Prop):onG (.bool q) true a b=ifW (q=true) a b:=by cases q<;>simp[onG,ifW]
theorem jh4 (q:Bool)(a b:Prop):onG (.bool q) false a b=ifW (q=true) b a:=by cases q<;>simp[onG,ifW]
theorem jcK (q:Bool)(a b:AV):jd (H3 (.bool q) a b st) K=ifW (q=true) (K a st) (K b st):=by cases q<;>simp[H3,Xw,jd,ifW]
theorem Kz (a b:List Nat):jd (wN .neq (.str a) (.str b) st) K=K (.bool (decide (a≠b))) st:=by
 simp only[wN,YW,jG,jd,Jd];by_cases h:a=b
 ·simp[h]
 ·simp[h]
theorem uR {a b:List Nat}(h:a.length+b.length<=9223372036854775807):jd (wN .add (.str a) (.str b) st) K=K (.str (a ++ b)) st:=by
 have e1:Qak (Qaw (jz a) (jz b)) 9223372036854775807=true:=by rw[jY,jD,jD];exact h
 simp only[wN,YW,jG,jd,e1,cond_true,yn]
theorem wv {x:Int}(h1 : -9223372036854775808<=x)(h2:x<=9223372036854775807):Jr .i64 x=x:=by
 rw[Yv];exact IntWalk.i64_in x ⟨h1,by omega⟩
theorem jbs {a b:Int}(h1 : -9223372036854775808<=a+b)(h2:a+b<=9223372036854775807):jd (JG .add (.int .i64 a) (.int .i64 b) st) K=K (.int .i64 (a+b)) st:=by
 have:(Qa .add).run .i64 a b=some (.int .i64 (a+b)):=by show some (AV.int .i64 (Jr .i64 (a+b)))=_;rw[wv h1 h2]
 simp only[JG,JD,cond_true,this,jG,jd]
theorem ja8 {a b:Int}(h1 : -9223372036854775808<=a - b)(h2:a - b<=9223372036854775807):jd (JG .sub (.int .i64 a) (.int .i64 b) st) K=K (.int .i64 (a - b)) st:=by
 have:(Qa .sub).run .i64 a b=some (.int .i64 (a - b)):=by show some (AV.int .i64 (Jr .i64 (a - b)))=_;rw[wv h1 h2]
 simp only[JG,JD,cond_true,this,jG,jd]
theorem jbf {a b:Int}(h1 : -9223372036854775808<=a * b)(h2:a * b<=9223372036854775807):jd (JG .mul (.int .i64 a) (.int .i64 b) st) K=K (.int .i64 (a * b)) st:=by
 have:(Qa .mul).run .i64 a b=some (.int .i64 (a * b)):=by show some (AV.int .i64 (Jr .i64 (a * b)))=_;rw[wv h1 h2]
 simp only[JG,JD,cond_true,this,jG,jd]
theorem jbe {a:Int}(h1 : -9223372036854775808<=-a)(h2 : -a<=9223372036854775807):jd (unV .neg (.int .i64 a) st) K=K (.int .i64 (-a)) st:=by
 have e:IntKind.i64.wrap (0 - a)=-a:=by rw[<-Yv,wv (by omega) (by omega)];omega
 simp only[unV,Xl,O,e,jd]
def biV (P:Program)(b:Builtin)(ts:Array TypeId)(l:List AV)(st:St):ER:=(qb P b ts (l.map λv=>O v)).run E0 st
theorem jfr (b:Builtin)(ts:Array TypeId)(l:List A):wK P base (.i (.bi b ts l)) e st K=YE e l λvs=>jd (biV P b ts vs st) K:=by
 rw[ZJ];simp only[wK,wI,XJ,jB,biV,Qbv];rfl
theorem jbh (ts:Array TypeId)(k:IntKind)(a b:Int):jd (biV P .max ts [.int k a,.int k b] st) K=K (.int k (max a b)) st:=by
 have:(qb P .max ts [O (.int k a),O (.int k b)]).run E0 st=jG (max2 (.int k a) (.int k b)) λv=>.ok v st:=by
  show jG (Jt max2 (.int k a) [.int k b]) _=_;unfold Jt;cases max2 (.int k a) (.int k b)<;>rfl
 show jd ((qb P .max ts [O (.int k a),O (.int k b)]).run E0 st) K=_;rw[this];simp only[max2,JD,cond_true,jG,jd]
 congr 2
 rw[J7];by_cases h:a<b
 ·rw[decide_eq_true h,Int.max_eq_right (by omega)];rfl
 ·rw[decide_eq_false h,Int.max_eq_left (by omega)];rfl
theorem jbg (ts:Array TypeId)(k:IntKind)(a b:Int):jd (biV P .min ts [.int k a,.int k b] st) K=K (.int k (min a b)) st:=by
 have:(qb P .min ts [O (.int k a),O (.int k b)]).run E0 st=jG (min2 (.int k a) (.int k b)) λv=>.ok v st:=by
  show jG (Jt min2 (.int k a) [.int k b]) _=_;unfold Jt;cases min2 (.int k a) (.int k b)<;>rfl
 show jd ((qb P .min ts [O (.int k a),O (.int k b)]).run E0 st) K=_;rw[this];simp only[min2,JD,cond_true,jG,jd]
 congr 2
 rw[J7];by_cases h:b<a
 ·rw[decide_eq_true h,Int.min_eq_right (by omega)];rfl
 ·rw[decide_eq_false h,Int.min_eq_left (by omega)];rfl
theorem jbj (n:Nat)(cs:List AV):jd (K7 (.lst n cs) st) K=K (.int .i64 (n:Int)) st:=nr rfl
theorem GZ {k:IntKind}{i:Int}(h:0<=i)(F:Nat->ER):j9 (.int k i) F=F i.toNat:=by
 obtain⟨n,rfl⟩:=Qbk h;exact G2
theorem jbn {n:Nat}{cs:List AV}{i:Int}(h0:0<=i)(h:i<n)(s:Nat)(k:IntKind):jd (ui s (.lst n cs) (.int k i) st) K=K (.lptr cs (i.toNat * s)) st:=by
 simp only[ui,GZ h0];have:Qak (Qax i.toNat) n=true:=by rw[jY];omega
 rw[this];rfl
theorem jbm {b o n c z:Nat}{x:Bool}{i:Int}(h0:0<=i)(h:i<n)(s:Nat)(k:IntKind):jd (ui s (.slice b o n c z x) (.int k i) st) K=K (.ptr b (o+i.toNat * s)) st:=by
 obtain⟨m,rfl⟩:=Qbk h0;exact jg8 (by omega) s k
theorem jeT {s:List Nat}{i:Int}(h0:0<=i)(h:i<s.length)(k:IntKind):jd (WR (.str s) (.int k i) st) K=K (.int .u8 ((s.getD i.toNat 0:Nat):Int)) st:=by
 obtain⟨m,rfl⟩:=Qbk h0;exact jfP (by omega) k
theorem jbl {k o:Nat}{cs:List AV}(h:o+k<=cs.length):jd (zT k (.lptr cs o) st) K=K (.agg ((cs.drop o).take k)) st:=by
 have:Qak (Qaw o k) (jz cs)=true:=by rw[jY,jD];exact h
 simp only[zT,this,cond_true,jd,qJ,yy]
theorem wM {o:Nat}{cs:List AV}(h:o<cs.length):jd (yV (.lptr cs o) st) K=K (cs.getD o .bad) st:=by
 have:Qak (Qax o) (jz cs)=true:=by rw[jY,jD];exact h
 simp only[yV,this,cond_true,jd,yL]
theorem jbp (off o:Nat)(cs:List AV):jd (jao off (.lptr cs o) st) K=K (.lptr cs (o+off)) st:=nr rfl
theorem GI (o:Nat)(cs:List AV):jd (H8 (.lptr cs o) st) K=K (.lptr cs o) st:=nr rfl
def fl {α:Type}(enc:α->List AV)(xs:List α):List AV:=xs.flatMap enc
theorem Xg {α:Type}(enc:α->List AV)(x:α)(xs:List α):fl enc (x :: xs)=enc x ++ fl enc xs:=rfl
theorem YO {α:Type}(enc:α->List AV)(xs ys:List α):fl enc (xs ++ ys)=fl enc xs ++ fl enc ys:=by simp[fl]
theorem Xz {α:Type}(enc:α->List AV)(x:α):fl enc [x]=enc x:=by simp[fl]
theorem zG {α:Type}{enc:α->List AV}{z:Nat}(hz:∀ x,(enc x).length=z):∀ xs:List α,(fl enc xs).length=xs.length * z
 |[]=>by simp[fl]
 |x :: xs=>by rw[Xg,Qat,hz,zG hz xs,Qal,QbI,Qci]
theorem Qh {α:Type}{enc:α->List AV}(hp:∀ x,(enc x).all pc=true):∀ xs:List α,(fl enc xs).all pc=true
 |[]=>rfl
 |x :: xs=>by rw[Xg,Qcg,hp,Qh hp xs];rfl
theorem VX {α:Type}{enc:α->List AV}{z:Nat}(hz:∀ x,(enc x).length=z):∀ (xs:List α) (i:Nat),(fl enc xs).drop (i * z)=fl enc (xs.drop i)
 |xs,0=>by simp
 |[],i+1=>by simp[fl]
 |x :: xs,i+1=>by
  rw[Xg,QbI,Qci,List.drop_append,List.drop_eq_nil_of_le (by rw[hz];omega),hz,Nat.add_sub_cancel_left,VX hz xs i];rfl
theorem jak {α:Type}{enc:α->List AV}{z:Nat}(hz:∀ x,(enc x).length=z){xs:List α}{i:Nat}(h:i<xs.length):((fl enc xs).drop (i * z)).take z=enc xs[i]:=by
 rw[VX hz,List.drop_eq_getElem_cons h,Xg,List.take_append,List.take_of_length_le (by rw[hz];omega),hz,Nat.sub_self,QbV,QbS]
theorem jhS {α:Type}{enc:α->List AV}{z:Nat}(hz:∀ x,(enc x).length=z){xs:List α}{i:Nat}(h:i<xs.length){k:Nat}(hk:k<z):(fl enc xs).getD (i * z+k) .bad=(enc xs[i]).getD k .bad:=by
 rw[<-jak hz h];simp only[QaI,Qch,hk,if_true,List.getElem?_drop]
theorem YV {α:Type}{enc:α->List AV}{z:Nat}(hz:∀ x,(enc x).length=z){xs:List α}{i:Nat}(h:i<xs.length):jd (zT z (.lptr (fl enc xs) (i * z)) st) K=K (.agg (enc xs[i])) st:=by
 have:(i+1) * z<=xs.length * z:=Qbg z h;rw[QbI] at this;rw[jbl (by rw[zG hz];omega),jak hz h]
theorem za {α:Type}{enc:α->List AV}{z:Nat}(hz:∀ x,(enc x).length=z){xs:List α}{i:Nat}(h:i<xs.length){k:Nat}(hk:k<z):jd (yV (.lptr (fl enc xs) (i * z+k)) st) K=K ((enc xs[i]).getD k .bad) st:=by
 have:(i+1) * z<=xs.length * z:=Qbg z h;rw[QbI] at this;rw[wM (by rw[zG hz];omega),jhS hz h hk]
theorem jbo {k:Nat}{cs:List AV}(h:k<cs.length):jd (jaj k (.agg cs) st) K=K (cs.getD k .bad) st:=by
 have:Qak (Qax k) (jz cs)=true:=by rw[jY,jD];exact h
 simp only[jaj,Jf,this,cond_true,jd,yL]
theorem GL (k n:Nat)(cs:List AV):jd (jai k n (.agg cs) st) K=K (.agg ((cs.drop k).take n)) st:=by
 simp only[jai,Jf,jd,qJ,yy]
theorem VA (l:List AV):l.take 0=[]:=rfl
theorem Vz (a:AV)(l:List AV)(n:Nat):(a :: l).take (n+1)=a :: l.take n:=rfl
theorem V7 (l:List AV):l.drop 0=l:=rfl
theorem jhZ (a:AV)(l:List AV)(n:Nat):(a :: l).drop (n+1)=l.drop n:=rfl
theorem Cl.rw_ {b:Nat}{cs:List AV}(C:Cl st b cs):Rw st.h b cs:=by
 obtain⟨n,zl,z,c,hg⟩:=C.row;have hl:=C.len;rw[zJ hg] at hl;refine⟨n,zl,z,c,hg,?_⟩;rw[qc];apply QbN
 ·simp[hl]
 ·intro i h1 h2;have:=C.cell i h2;rw[Xc hg] at this;simp only[List.getElem_map,List.getElem_range,QaF,this];simp[QaI,Qav h2]
end
section
variable {P:Program} {base:Bs}
theorem VN (cs:List AV):Xe cs=nw st0 cs:=by unfold Xe nw;rw[jD];rfl
def G0 (u v:AV)(s:St):Prop:=FzD 0 9 s v u
def G1 (n:Nat)(c':List AV)(u v:AV)(s:St):Prop:=FzD 1 9 s v u/\∃ c2,Rw s.h 0 c2/\c2.length=n/\FzsD 1 9 s c2 c'
theorem qi {f:FuncId}{F:XF}(hl:jO P f=some F)(hnd:F.body.nd=true)(hm:base.pur f=1){aZ:List AV}{o:Oc}
  (h:xC P base F.body (jn F.ps aZ) st0 (XM P F.res (X6 G0 o)) λv _ s=>XW G0 o v s.bare):PX P base f aZ o:=
 PX.of hm (YT hl hnd h)
theorem jR {f:FuncId}{F:XF}(hl:jO P f=some F)(hnd:F.body.nd=true)(hm:base.pur f=3){c aZ:List AV}(hc:c.all pc=true){o:Oc}{c':List AV}
  (h:xC P base F.body (jn F.ps (.ptr 0 0 :: aZ)) (nw st0 c) (XM P F.res (X6 (G1 c.length c') o)) λv _ s=>XW (G1 c.length c') o v s.bare):PM P base f c aZ o c':=by
 rw[<-VN] at h;exact PM.of hm hc (YT hl hnd h)
theorem PM.xbk {f:FuncId}{c aZ aZ':List AV}{ks:List Nat}{o:Oc}{c':List AV}(h:PM P base f c aZ o c'){st:St}{p:Nat}(C:Cl (qv ks st) p c)(hf:fzs (fz 9 st.h) aZ'=some (aZ,ks))(hp:aZ.all pa=true)(hb:∀ st,base.run f (.ptr p 0 :: aZ') st=.no)(K Kp:AV->St->Prop) :
  XB P base f (.ptr p 0 :: aZ') st K Kp=XG o K Kp (wr (qv ks st) p 0 c'):=by
 obtain⟨N,D,h⟩:=h;have e0:∀ n,N<=n->∀ d,D<=d->evC P base n d f (.ptr p 0 :: aZ') st=o.er (wr (qv ks st) p 0 c'):=λn hn d hd=>by
  rw[h n hn d hd st p aZ' ks C.rw_ hf hp hb]
  congr 1
 refine propext ⟨λ⟨r,⟨N2,D2,h2⟩,h3⟩=>?_,λh3=>⟨_,⟨N,D,e0⟩,?_⟩⟩
 ·have e1:=e0 (max N N2) (QaC ..) (max D D2) (QaC ..);have e2:=h2 (max N N2) (QaB ..) (max D D2) (QaB ..);rw[e1] at e2;rw[<-e2] at h3;cases o<;>exact h3
 ·cases o<;>exact h3
theorem PM.xb {f:FuncId}{c aZ:List AV}{o:Oc}{c':List AV}(h:PM P base f c aZ o c'){st:St}{p:Nat}(C:Cl st p c)(hp:aZ.all pa=true)(hb:∀ st,base.run f (.ptr p 0 :: aZ) st=.no)(K Kp:AV->St->Prop) :
 XB P base f (.ptr p 0 :: aZ) st K Kp=XG o K Kp (wr st p 0 c'):=h.xbk (ks:=[]) C (WV (d:=7) hp) hp hb K Kp
theorem H7 (v:AV)(K Kp:AV->St->Prop)(st:St):XG (.ok v) K Kp st=K v st:=nr rfl
theorem jfe (v:AV)(K Kp:AV->St->Prop)(st:St):XG (.pn v) K Kp st=Kp v st:=nr rfl
theorem jcD (G:AV->AV->St->Prop)(u v:AV)(s:St):X6 G (.ok u) v s=G u v s:=nr rfl
theorem jbZ (G:AV->AV->St->Prop)(u v:AV)(s:St):XW G (.pn u) v s=G u v s:=nr rfl
def HV (b b2:Nat)(J:Sl->St->Prop)(Q:Out->Prop):Out->Res (J,Q)
 |.go L s=>J L s
 |.ex i L s=>cond (Qap i b2) (J L s) (cond (Qap i b) (Q (.go L s)) (Q (.ex i L s)))
 |.rt L s=>Q (.rt L s)
theorem jhv (b b2:Nat)(J:Sl->St->Prop)(Q:Out->Prop)(L:Sl)(s:St):HV b b2 J Q (.go L s)=J L s:=nr rfl
theorem jhu (b b2:Nat)(J:Sl->St->Prop)(Q:Out->Prop)(L:Sl)(s:St):HV b b2 J Q (.rt L s)=Q (.rt L s):=nr rfl
theorem jdR (b b2:Nat)(J:Sl->St->Prop)(Q:Out->Prop)(i:Nat)(L:Sl)(s:St):HV b b2 J Q (.ex i L s)=cond (Qap i b2) (J L s) (cond (Qap i b) (Q (.go L s)) (Q (.ex i L s))):=nr rfl
theorem zj {b b2 i n c d:Nat}{body:XC}{L:Sl}{st:St}{Q:Out->Prop}{Kp:AV->Sl->St->Prop}(N:Nat)(I:Nat->Sl->St->Prop)(hN:N<=4611686018427387904)(hne:c≠i/\c≠n/\i≠n/\d≠i/\b≠b2)
  (hi:Has L i (.int .i64 0)) (hn:Has L n (.int .i64 (N:Int))) (h0:I 0 L st) (hc:∀ k L s v,I k L s->I k ((c,v) :: L) s) (hI:∀ k L s v,I k L s->I k ((i,v) :: L) s)
  (step:∀ k L s,k<N->I k L s->Has L i (.int .i64 (k:Int))->Has L n (.int .i64 (N:Int))->Gj (xC P base body L s (HV b b2 (λL' s'=>I (k+1) L' s'/\Has L' i (.int .i64 (k:Int))/\Has L' n (.int .i64 (N:Int))) Q) Kp))
  (fin:∀ L s,I N L s->Gj (Q (.go L s))) :
  xC P base (.loop (.seq (.ops [⟨some c,true,none,.i (.bin .lss (.t i) (.t n))⟩]) (.seq (.cond (.t c) .skip (.exit b)) (.seq (.block b2 body) (.ops [⟨some d,false,none,.i (.bin .add (.t i) (.c (.int .i64 1)))⟩,⟨some i,true,none,.i (.mv (.t d))⟩]))))) L st (qV b Q) Kp:=by
 obtain⟨n1,n2,n3,n4,n5⟩:=hne;refine zI (λm L s=>∃ k,k<=N/\m=N - k/\I k L s/\Has L i (.int .i64 (k:Int))/\Has L n (.int .i64 (N:Int))) ?_ N ⟨0,QaM _,rfl,h0,hi,hn⟩;rintro m L s ⟨k,hk,rfl,hk',h1,h2⟩;unfold Gj;simp only[ke,kf,vL,x_i,kO,ja h1,ja h2,HN,kg,vZ,Yl,Ku,HY];by_cases hlt:k<N
 ·rw[decide_eq_true (by omega),jf2,Km,Yl,ke,vM];refine GG _ _ _ _ _ (step k ((c,.bool true) :: L) s hlt (hc k L s _ hk') (by rw[jc n1];exact h1) (by rw[jc n2];exact h2)) λo ho=>?_;have go:∀ L' s',(I (k+1) L' s'/\Has L' i (.int .i64 (k:Int))/\Has L' n (.int .i64 (N:Int)))->xO P base [⟨some d,false,none,.i (.bin .add (.t i) (.c (.int .i64 1)))⟩,⟨some i,true,none,.i (.mv (.t d))⟩] ⟨[],L'⟩ s' (λe st'=>JY (λL' st'=>∃ k',k'<N - k/\∃ k,k<=N/\k'=N - k/\I k L' st'/\Has L' i (.int .i64 (k:Int))/\Has L' n (.int .i64 (N:Int))) (qV b Q) (.go e.g st')) Kp:=by
   intro L' s' ⟨h3,h4,h5⟩;simp only[vL,x_i,kO,ja h4,HZ,jg9 (show k+1<=9223372036854775807 by omega),VJ,jee,HX,kg,vZ,Yl];refine⟨N - (k+1),by omega,k+1,by omega,rfl,hI _ _ _ _ h3,Has.here _ _ _,by rw[jc n3];exact h5⟩
  cases o with
  |go L' s'=>exact go L' s' ho
  |rt L' s'=>exact ho
  |ex q L' s'=>
   rw[jdR] at ho;cases hq:Qap q b2
   ·rw[hq] at ho;have e1:qV b2 (JY (λL' st'=>xC P base (.ops [⟨some d,false,none,.i (.bin .add (.t i) (.c (.int .i64 1)))⟩,⟨some i,true,none,.i (.mv (.t d))⟩]) L' st' (JY (λL' st'=>∃ k',k'<N - k/\∃ k,k<=N/\k'=N - k/\I k L' st'/\Has L' i (.int .i64 (k:Int))/\Has L' n (.int .i64 (N:Int))) (qV b Q)) Kp) (JY (λL' st'=>∃ k',k'<N - k/\∃ k,k<=N/\k'=N - k/\I k L' st'/\Has L' i (.int .i64 (k:Int))/\Has L' n (.int .i64 (N:Int))) (qV b Q))) (.ex q L' s')=qV b Q (.ex q L' s'):=by
     simp only[qV,hq,cond_false,JY]
    show qV b2 _ _;rw[e1];exact ho
   ·rw[hq] at ho;have:=go L' s' ho;show qV b2 _ _;simp only[qV,hq,cond_true,Yl,kf];exact this
 ·have hkN:k=N:=by omega
  rw[decide_eq_false (by omega),jf3,Ko,vY,vY];subst hkN;show qV b Q (.ex b _ s);rw[wX];exact fin _ _ (hc _ _ _ _ hk')
theorem Zd (n:Nat)(cs:List AV):(AV.lst n cs).cells=[.lst n cs]:=nr rfl
theorem ge (n:Nat)(cs l:List AV):lall AV.cell (.lst n cs :: l)=lall AV.cell l:=nr rfl
theorem Ur (n:Nat)(cs:List AV):(AV.lst n cs).plain=true:=nr rfl
theorem qM:st0.nx=0:=nr rfl
theorem jbF (P:Program)(t:TypeId)(cs:List AV)(o:Nat)(v:AV)(h:T AO):(jN P t (.lptr cs o) v h=true)=True:=by simp[jN]
theorem G0.v {u v:AV}{s:St}(h:v=u)(hp:pa v=true):G0 u v s:=by subst h;exact FzD.pa hp
theorem Hf (p:Prop):Gj p=p:=nr rfl
theorem jbU:yF []=.tup []:=nr rfl
theorem Vx:∀ {c c':List AV},c'.length=c.length->upd c 0 c'=c'
 |[],[],_=>rfl
 |[],_ :: _,h=>by simp at h
 |_ :: _,[],h=>by simp at h
 |_ :: c,v :: c',h=>by rw[Xk,Vx (by simpa using h)]
theorem Q4 {c c':List AV}(h:c'.length=c.length):upd c 0 c'=c':=Vx h
theorem Cl.wr0 {s:St}{b:Nat}{c c':List AV}(C:Cl s b c)(h:c'.length=c.length):Cl (Go.Sy.wr s b 0 c') b c':=by
 have:=C.wr 0 c';rwa [Vx h] at this
theorem G1.done {s:St}{n:Nat}{c':List AV}{u v:AV}(C:Cl s 0 c')(hl:c'.length=n)(hp:c'.all pc=true)(hv:FzD 1 9 s v u):G1 n c' u v s:=
 ⟨hv,c',C.rw_,hl,FzsD.pc hp⟩
theorem FzD.u {m d:Nat}{s:St}:FzD m (d+1) s (.tup []) (.tup []):=FzD.tup FzsD.nil
abbrev Met (P:Program)(base:Bs)(f:FuncId)(c xs:List AV)(o:Oc)(c':List AV):Prop:=∀ {st:St} {p:Nat},Cl st p c->∀ K Kp,XB P base f (.ptr p 0 :: xs) st K Kp=XG o K Kp (wr st p 0 c')
theorem PM.met {f:FuncId}{c xs:List AV}{o:Oc}{c':List AV}(h:PM P base f c xs o c')(hp:xs.all pa=true)(hb:∀ p st,base.run f (.ptr p 0 :: xs) st=.no):Met P base f c xs o c':=λC K Kp=>h.xb C hp (hb _) K Kp
theorem Vr {f:FuncId}{xs:List AV}{st:St}{v:AV}{st':St}(h:base.run f xs st=.ok v st')(K Kp:AV->St->Prop):XB P base f xs st K Kp=K v (back st st'):=by
 have e0:∀ n,0<=n->∀ d,1<=d->evC P base n d f xs st=.ok v st':=λn _ d hd=>by
  obtain⟨d',rfl⟩:∃ d',d=d'+1:=⟨d - 1,by omega⟩;simp only[evC,h]
 refine propext ⟨λ⟨r,⟨N2,D2,h2⟩,h3⟩=>?_,λh3=>⟨_,⟨0,1,e0⟩,h3⟩⟩;have e1:=e0 N2 (QaM _) (max 1 D2) (QaC ..);have e2:=h2 N2 (Qag _) (max 1 D2) (QaB ..);rw[e1] at e2;rw[<-e2] at h3;exact h3
def cvV (P:Program)(s d:TypeId)(v:AV)(st:St):ER:=(zK P s d (O v)).run E0 st
theorem jcq {e:En}{st:St}{K:AV->St->Prop}(s d:TypeId)(x:A):wK P base (.i (.conv s d x)) e st K=on1 e x λv=>jd (cvV P s d v st) K:=k_1 rfl (λ_=>rfl) K
theorem jgu {st:St}{K:AV->St->Prop}{s d e:TypeId}(h1:P.underlying s=some .string)(h2:P.underlying d=some (.slice e))(h3:P.underlying e=some (.int .u8))(l:List Nat) :
  jd (cvV P s d (.str l) st) K=K (.slice st.nx 0 l.length l.length 1 false) (nw st (l.map λ(c:Nat)=>.int .u8 (c:Int))):=by
 simp only[cvV,zK,h1,h2,h3,O,yS,jD,jo,St.alloc_eq,jd];unfold nw;rw[QaU,ya];rfl
theorem jbM {st:St}(x k:Nat)(l:List RV)(L:Sl)(F:List AV->Prop):qS P (.cA x k :: l) L st F=on1 ⟨[],L⟩ (.t x) λv=>jd (zT k v st) λu _=>qS P l L st λvs=>F (u :: vs):=by
 simp only[qS,KM,on1,okA,vl,En.has,En.look,has,cond_false];rfl
theorem GT {st:St}(x:Nat)(l:List RV)(L:Sl)(F:List AV->Prop):qS P (.c1 x :: l) L st F=on1 ⟨[],L⟩ (.t x) λv=>jd (yV v st) λu _=>qS P l L st λvs=>F (u :: vs):=by
 simp only[qS,KM,on1,okA,vl,En.has,En.look,has,cond_false];rfl
def ku (n sz:Nat)(v:AV)(st:St):ER:=qy v λb o=>optA none 0 λl=>optA none n λh=>
 cond (Qak l h) (cond (Qak h n)
  (force (QaS h l) λk=>force (Qaw o (Qar l sz)) λo=>force (QaS n l) λc=>.ok (.slice b o k c sz true) st) .no) .no
theorem jch {e:En}{st:St}{K:AV->St->Prop}(n sz:Nat)(x:A):wK P base (.i (.slA n sz x none none)) e st K=on1 e x λv=>jd (ku n sz v st) K:=k_1 (V:=λv st=>ku n sz v st) rfl (λ_=>rfl) K
theorem jbc {st:St}{K:AV->St->Prop}(b n sz:Nat):jd (ku n sz (.ptr b 0) st) K=K (.slice b 0 n n sz true) st:=by
 have e1:Qak 0 n=true:=qY (QaM _);have e2:Qak n n=true:=qY (Qag _);have e3:Qaw 0 (Qar 0 sz)=0:=by show 0+0 * sz=0;omega
 have e4:QaS n 0=n:=rfl;simp only[ku,qy,optA,e1,e2,e3,e4,cond_true,jo,jd]
theorem GK {st:St}{K:AV->St->Prop}{b n s:Nat}{i:Int}(h0:0<=i)(h:i<n)(k:IntKind):jd (jae n s (.ptr b 0) (.int k i) st) K=K (.ptr b (i.toNat * s)) st:=by
 have e1:Qak (Qax i.toNat) n=true:=qY (by omega);have e2:Qaw 0 (Qar i.toNat s)=i.toNat * s:=QaF _;simp only[jae,qy,GZ h0,e1,e2,cond_true,jo,jd]
theorem jbb {st:St}{K:AV->St->Prop}{l:List Nat}{i:Int}(h0:0<=i)(h:i<=l.length)(k:IntKind):jd (zn (.str l) (some (.int k i)) none st) K=K (.str (l.drop i.toNat)) st:=by
 obtain⟨m,rfl⟩:=Qbk h0;exact jil (by omega) k
theorem jba {st:St}{K:AV->St->Prop}{l:List Nat}{i:Int}(h0:0<=i)(h:i<=l.length)(k:IntKind):jd (zn (.str l) none (some (.int k i)) st) K=K (.str (l.take i.toNat)) st:=by
 obtain⟨m,rfl⟩:=Qbk h0;exact jik (by omega) k
theorem ja9 {st:St}{K:AV->St->Prop}{l:List Nat}{i j:Int}(h0:0<=i)(h1:i<=j)(h:j<=l.length)(k k':IntKind):jd (zn (.str l) (some (.int k i)) (some (.int k' j)) st) K=K (.str ((l.drop i.toNat).take (j - i).toNat)) st:=by
 obtain⟨m,rfl⟩:=Qbk h0;obtain⟨n,rfl⟩:=Qbk (show 0<=j by omega);rw[jij (by omega) (by omega)]
 congr 3
 omega
theorem HI {f:FuncId}{xs:List AV}{st s:St}{v:AV}(h:∀ K Kp,K v s->XB P base f xs st K Kp)(K Kp:AV->St->Prop):XB P base f xs st K Kp=K v s:=by
 refine propext ⟨λ⟨r2,⟨N2,D2,h2⟩,h3⟩=>?_,h K Kp⟩;obtain⟨r,⟨N,D,h1⟩,h4⟩:=h (λv' s'=>v'=v/\s'=s) (λ_ _=>False) ⟨rfl,rfl⟩;have e1:=h1 (max N N2) (QaC ..) (max D D2) (QaC ..);have e2:=h2 (max N N2) (QaB ..) (max D D2) (QaB ..);rw[e1] at e2;subst e2;cases r with
 |no=>exact h4.elim
 |pn v s=>exact h4.elim
 |ok v' s'=>
  obtain⟨rfl,rfl⟩:=h4;exact h3
theorem Hv (st:St):bk st st.bare=st:=nr rfl
theorem hY (st:St):back st st.bare=st:=nr rfl
def fi {α:Type}(q:α->Bool):List α->Int
 |[]=>-1
 |x :: xs=>if q x=true then 0 else if fi q xs<0 then -1 else fi q xs+1
theorem kV {α:Type}{q:α->Bool}:∀ {xs:List α} {k:Nat} (h:k<xs.length),(∀ j (hj:j<k),q (xs[j]'(by omega))=false)->q xs[k]=true->fi q xs=k
 |x :: xs,0,h,h0,hk=>by simp only[QbT] at hk;simp[fi,hk]
 |x :: xs,k+1,h,h0,hk=>by
  have:=kV (xs:=xs) (k:=k) (by simpa using h) (λj hj=>by have:=h0 (j+1) (by omega);simpa only[QbF] using this) (by simpa only[QbF] using hk);have h1:=h0 0 (by omega);simp only[QbT] at h1;simp only[fi,h1,this];simp;omega
theorem kU {α:Type}{q:α->Bool}:∀ {xs:List α},(∀ j (hj:j<xs.length),q xs[j]=false)->fi q xs=-1
 |[],_=>rfl
 |x :: xs,h=>by
  have h1:=h 0 (by simp);simp only[QbT] at h1;have:=kU (xs:=xs) λj hj=>by have:=h (j+1) (by simpa using hj);simpa only[QbF] using this
  simp[fi,h1,this]
theorem Cl.cv {s:St}{b:Nat}{c c':List AV}(h:Cl s b c)(e:c=c'):Cl s b c':=e▸h
theorem jH {s:St}{b c o:Nat}{vs cs:List AV}(h:c≠b):Cl (wr s b o vs) c cs=Cl s c cs:=
 propext ⟨λC=>⟨C.lt,zd (Qv h).symm C.row,(q8 (Qv h).symm).trans C.len,λi hi=>(qT (Qv h).symm i).trans (C.cell i hi)⟩,λC=>C.wrO h o vs⟩
theorem jJ {s:St}{c:Nat}{ds cs:List AV}(h:c<s.nx):Cl (nw s ds) c cs=Cl s c cs:=
 propext ⟨λC=>⟨h,zd (Qx (QbX h)).symm C.row,(q8 (Qx (QbX h)).symm).trans C.len,λi hi=>(qT (Qx (QbX h)).symm i).trans (C.cell i hi)⟩,λC=>C.nw ds⟩
theorem jI {s:St}{c:Nat}{cs:List AV}:Cl s.bare c cs=Cl s c cs:=propext ⟨λh=>⟨h.lt,h.row,h.len,h.cell⟩,λh=>⟨h.lt,h.row,h.len,h.cell⟩⟩
end
end Go.Sy
end
noncomputable section
namespace Go.Sy
open Go.Ev Go.RowKit
def Lv (lo hi:Nat)(s:St)(v:AV)(n:Nat)(cs:List AV)(z:Nat):Prop:=(v=.nils/\n=0/\cs=[])\/∃ b,v=.slice b 0 n n z false/\0<n/\cs.length=n * z/\Cl s b cs/\lo<=b/\b<hi
def aps (v:AV)(s:St)(news:List AV):St:=match v with | .slice b _ _ _ _ _=>ap s b news|_=>nw s news
def apv (z:Nat)(v:AV)(s:St):AV:=match v with | .slice _ _ n _ _ _=>.slice s.nx 0 (n+1) (n+1) z false|_=>.slice s.nx 0 1 1 z false
section
variable {lo hi n z:Nat} {s:St} {v:AV} {cs:List AV}
theorem Lv.nil:Lv lo hi s .nils 0 [] z:=.inl ⟨rfl,rfl,rfl⟩
theorem jP {b o:Nat}{vs:List AV}(h:b<lo\/hi<=b):Lv lo hi (wr s b o vs) v n cs z=Lv lo hi s v n cs z:=by
 unfold Lv;refine propext ⟨λk=>k.imp id λ⟨c,h1,h2,h3,h4,h5,h6⟩=>⟨c,h1,h2,h3,?_,h5,h6⟩,λk=>k.imp id λ⟨c,h1,h2,h3,h4,h5,h6⟩=>⟨c,h1,h2,h3,?_,h5,h6⟩⟩
 ·rwa [jH (by omega)] at h4
 ·rwa [jH (by omega)]
theorem jQ {ds:List AV}(h:hi<=s.nx):Lv lo hi (nw s ds) v n cs z=Lv lo hi s v n cs z:=by
 unfold Lv;refine propext ⟨λk=>k.imp id λ⟨c,h1,h2,h3,h4,h5,h6⟩=>⟨c,h1,h2,h3,?_,h5,h6⟩,λk=>k.imp id λ⟨c,h1,h2,h3,h4,h5,h6⟩=>⟨c,h1,h2,h3,?_,h5,h6⟩⟩
 ·rwa [jJ (by omega)] at h4
 ·rwa [jJ (by omega)]
theorem j4:Lv lo hi s.bare v n cs z=Lv lo hi s v n cs z:=by unfold Lv;simp only[jI]
theorem Lv.up {hi':Nat}(h:Lv lo hi s v n cs z)(h2:hi<=hi'):Lv lo hi' s v n cs z:=h.imp id λ⟨c,h1,h2,h3,h4,h5,h6⟩=>⟨c,h1,h2,h3,h4,h5,by omega⟩
theorem jr (v:AV)(s:St)(news:List AV):(aps v s news).nx=s.nx+1:=by unfold aps;split<;>rfl
theorem WW (v:AV)(s:St)(news:List AV):(aps v s news).fr=s.fr:=by unfold aps;split<;>rfl
theorem Lv.app {news:List AV}(h:Lv lo hi s v n cs z)(hl:news.length=z)(h1:lo<=s.nx):Lv lo (s.nx+1) (aps v s news) (apv z v s) (n+1) (cs ++ news) z:=by
 rcases h with ⟨rfl,rfl,rfl⟩|⟨b,rfl,h2,h3,h4,h5,h6⟩
 ·exact .inr ⟨s.nx,rfl,by omega,by simp[hl],Cl.new s news,h1,by omega⟩
 ·exact .inr ⟨s.nx,rfl,by omega,by rw[Qat,h3,hl,QbI],h4.ap news,h1,by omega⟩
theorem Cl.apO {s:St}{b c:Nat}{cs vs:List AV}(h:Cl s c cs)(hb:c≠b):Cl (Go.Sy.ap s b vs) c cs:=
 have e:jh (Go.Sy.ap s b vs).h c=jh s.h c:=Hi (QbX h.lt) hb
 ⟨Nat.lt_succ_of_lt h.lt,zd e h.row,(q8 e).trans h.len,λi hi=>(qT e i).trans (h.cell i hi)⟩
theorem Cl.aps {c:Nat}{ds news:List AV}(C:Cl s c ds)(h:Lv lo hi s v n cs z)(hc:c<lo\/hi<=c):Cl (Go.Sy.aps v s news) c ds:=by
 rcases h with ⟨rfl,rfl,rfl⟩|⟨b,rfl,h2,h3,h4,h5,h6⟩
 ·exact C.nw news
 ·exact C.apO (b:=b) (by omega)
theorem Lv.aps {lo' hi' n' z':Nat}{v':AV}{cs' news:List AV}(V:Lv lo' hi' s v' n' cs' z')(h:Lv lo hi s v n cs z)(hc:hi'<=lo\/hi<=lo'):Lv lo' hi' (Go.Sy.aps v s news) v' n' cs' z':=
 V.imp id λ⟨c,h1,h2,h3,h4,h5,h6⟩=>⟨c,h1,h2,h3,h4.aps h (by omega),h5,h6⟩
theorem Lv.fz {m d:Nat}(h:Lv lo hi s v n cs z)(hm:m<=lo)(hp:cs.all pc=true):FzD m (d+2) s v (.lst n cs):=by
 rcases h with ⟨rfl,rfl,rfl⟩|⟨b,rfl,h2,h3,h4,h5,h6⟩
 ·exact FzD.nils
 ·refine FzD.slice h4.rw_ (Qbx h3.symm) (by omega) ?_;rw[<-h3,QaY];exact FzsD.pc hp
variable {K:AV->St->Prop}
theorem wG {bytes bv xc:Nat}{xx:Bool}(h:Lv lo hi s v n cs z)(hz:0<z)(hby:(n+1) * bytes<=140737488355328)(h63:n+1<=9223372036854775807)(hv:z<=qe s.h bv) :
  jd (vK z bytes v (.slice bv 0 1 xc z xx) s) K=K (apv z v s) (aps v s (rats s.h bv 0 z)):=by
 obtain⟨m,zl,zz,ks,hg⟩:=Qt (h:=s.h) (b:=bv) (by omega);rw[zJ hg] at hv;have e0:Qar 1 z=z:=Nat.one_mul z;have e1:Qak (Qaw 0 z) m=true:=qY (by show 0+z<=m;omega);have er:jF zl zz ks z 0=rats s.h bv 0 z:=by
  rw[Yk,qc];exact Qbl λi _=>by rw[Xc hg]
 have el:(rats s.h bv 0 z).length=z:=Xb _ _ _ _;have e3:Qap (jz (rats s.h bv 0 z)) z=true:=Zg (by rw[jD,el]);rcases h with ⟨rfl,rfl,rfl⟩|⟨b,rfl,h2,h3,h4,h5,h6⟩
 ·have e4:Qap 1 0=false:=rfl;have e5:Qak (Qar 1 bytes) 140737488355328=true:=qY (by show 1 * bytes<=_;omega);have e6:Qak 1 9223372036854775807=true:=qY (by decide);simp only[vK,Js,firstCells,hg,q9,jo,e0,e1,cond_true,er,qN,e3,e4,cond_false,e5,e6,St.alloc_eq,jd];unfold apv Go.Sy.aps nw;rw[el]
 ·obtain⟨m',zl',zz',ks',hg'⟩:=h4.row;have h4l:=h4.len;rw[zJ hg'] at h4l;have e4:Qak (Qaw n 1) n=false:=jfB (Qbt _);have e5:Qak (Qar (Qaw n 1) bytes) 140737488355328=true:=qY hby;have e6:Qak (Qaw n 1) 9223372036854775807=true:=qY h63;have e7:Qap z z=true:=Zg rfl;have e8:Qap 0 0=true:=rfl;have e9:Qap (Qar n z) m'=true:=Zg (by rw[h4l,h3];rfl);simp only[vK,Js,firstCells,hg,q9,jo,e0,e1,cond_true,er,qN,e3,hg',e4,cond_false,e5,e6,e7,e8,e9,St.put_eq,St.alloc_eq,jd];have e10:Qar (Qaw n 1) z=m'+(rats s.h bv 0 z).length:=by rw[el,h4l,h3];exact QbI n z
  rw[e10];have ea:ap s b (rats s.h bv 0 z)=⟨s.nx+1,(jT (jv s.nx)).run (.row (m'+(rats s.h bv 0 z).length) zl' zz' (j2 (rats s.h bv 0 z) ks' m')) ((jT (jv b)).run .dead s.h),min s.dirty b,s.fr⟩:=by
   unfold ap apO;rw[hg']
  show _=K (.slice s.nx 0 (n+1) (n+1) z false) (ap s b (rats s.h bv 0 z));rw[ea]
theorem Lv.get (h:Lv lo hi s v n cs z)(st:St)(news:List AV)(c:Nat)(hc:c<lo\/hi<=c)(hn:c<st.nx):jh (Go.Sy.aps v st news).h c=jh st.h c:=by
 rcases h with ⟨rfl,rfl,rfl⟩|⟨b,rfl,h2,h3,h4,h5,h6⟩
 ·exact Qx (QbX hn)
 ·exact Hi (QbX hn) (by omega)
theorem Lv.at (h:Lv lo hi s v n cs z)(st:St)(news:List AV)(c i:Nat)(hc:c<lo\/hi<=c)(hn:c<st.nx):rat (Go.Sy.aps v st news).h c i=rat st.h c i:=qT (h.get st news c hc hn) i
theorem Lv.ln (h:Lv lo hi s v n cs z)(st:St)(news:List AV)(c:Nat)(hc:c<lo\/hi<=c)(hn:c<st.nx):qe (Go.Sy.aps v st news).h c=qe st.h c:=q8 (h.get st news c hc hn)
theorem Lv.rts (h:Lv lo hi s v n cs z)(st:St)(news:List AV)(c o k:Nat)(hc:c<lo\/hi<=c)(hn:c<st.nx):rats (Go.Sy.aps v st news).h c o k=rats st.h c o k:=Xv (h.get st news c hc hn) k o
theorem Lv.cl (h:Lv lo hi s v n cs z)(st:St)(news ds:List AV)(c:Nat)(hc:c<lo\/hi<=c)(hn:c<st.nx):Cl (Go.Sy.aps v st news) c ds=Cl st c ds:=
 propext ⟨λC=>have e:=h.get st news c hc hn;⟨hn,zd e.symm C.row,(q8 e.symm).trans C.len,λi hi=>(qT e.symm i).trans (C.cell i hi)⟩,λC=>have e:=h.get st news c hc hn;⟨by rw[jr];exact Nat.lt_succ_of_lt hn,zd e C.row,(q8 e).trans C.len,λi hi=>(qT e i).trans (C.cell i hi)⟩⟩
theorem Lv.put {news:List AV}(h:Lv lo hi s v n cs z)(hl:news.length=z)(h1:lo<=s.nx){m:Nat}(hm:m=s.nx+1):Lv lo m (Go.Sy.aps v s news) (apv z v s) (n+1) (cs ++ news) z:=by rw[hm];exact h.app hl h1
end
end Go.Sy
end
noncomputable section
namespace Go.Sy
open Go.Ev Go.RowKit
def kl (b:Nat)(s:St):St:=qv [b] s
section
variable {lo hi n z b c:Nat} {s:St} {v:AV} {cs:List AV}
theorem jl (b:Nat)(s:St):(kl b s).nx=s.nx:=nr rfl
theorem kR (b:Nat)(s:St):(kl b s).fr=s.fr:=nr rfl
theorem vi (h:c≠b):jh (kl b s).h c=jh s.h c:=by
 show jh ((jT (jv b)).run .dead s.h) c=_;rw[jS,if_neg h]
theorem k8 {i:Nat}(h:c≠b):rat (kl b s).h c i=rat s.h c i:=qT (vi h) i
theorem ZN (h:c≠b):qe (kl b s).h c=qe s.h c:=q8 (vi h)
theorem Yj {o k:Nat}(h:c≠b):rats (kl b s).h c o k=rats s.h c o k:=Xv (vi h) _ _
theorem qu (h:c≠b):Cl (kl b s) c cs=Cl s c cs:=
 propext ⟨λC=>have e:=vi (s:=s) h;⟨C.lt,zd e.symm C.row,(q8 e.symm).trans C.len,λi hi=>(qT e.symm i).trans (C.cell i hi)⟩,λC=>have e:=vi (s:=s) h;⟨C.lt,zd e C.row,(q8 e).trans C.len,λi hi=>(qT e i).trans (C.cell i hi)⟩⟩
theorem j0 (h:b<lo\/hi<=b):Lv lo hi (kl b s) v n cs z=Lv lo hi s v n cs z:=by
 unfold Lv;refine propext ⟨λk=>k.imp id λ⟨c,h1,h2,h3,h4,h5,h6⟩=>⟨c,h1,h2,h3,?_,h5,h6⟩,λk=>k.imp id λ⟨c,h1,h2,h3,h4,h5,h6⟩=>⟨c,h1,h2,h3,?_,h5,h6⟩⟩
 ·rwa [qu (by omega)] at h4
 ·rwa [qu (by omega)]
theorem Ju (h0:0<cs.length)(h1:b<s.nx)(h2:qe s.h b=cs.length)(h3:rats s.h b 0 cs.length=cs):Cl s b cs:=Cl.of_rats h1 h2 rfl h0 h3
def df (x:FuncId×List AV)(s:St):St:=⟨s.nx,s.h,s.dirty,x :: s.fr⟩
theorem Y3 (x:FuncId×List AV)(s:St):(df x s).nx=s.nx:=nr rfl
theorem VU (x:FuncId×List AV)(s:St):(df x s).h=s.h:=nr rfl
theorem kS (x:FuncId×List AV)(s:St):(df x s).fr=x :: s.fr:=nr rfl
theorem HJ (f:FuncId)(caps vs:List AV){K:AV->St->Prop}:vz (.fn f caps) vs s K=K j1 (df (f,vs ++ caps) s):=nr rfl
theorem jct:st0.fr=[]:=nr rfl
theorem jef {m k:Nat}{x:Bool}{d:Nat}(C:Cl s b cs)(hl:n * z=cs.length)(hp:cs.all pc=true):fz (d+2) s.h (.slice b 0 n m z x)=some (.lst n cs,[b]):=by
 obtain⟨q,zl,zz,ct,h1,h2,h3⟩:=C.rw_.len;show(match jh s.h b with
  |some (.row n' zl z' cs)=>cond (Qak (Qaw 0 (Qar n z)) n') ((fzs (fz (d+1) s.h) (jF zl z' cs (Qar n z) 0)).map λ(p:List AV×List Nat)=>(AV.lst n p.1,b :: p.2)) none
  |_=>none)=_
 rw[h1];dsimp only;have e1:Qak (Qaw 0 (Qar n z)) q=true:=by rw[jY];show 0+n * z<=q;omega
 have e2:jF zl zz ct (Qar n z) 0=cs:=by
  rw[show Qar n z=q by show n * z=q;omega];exact h2
 rw[e1,e2,vk hp];rfl
def Fza (s:St)(aZ' aZ:List AV)(ks:List Nat):Prop:=fzs (fz 9 s.h) aZ'=some (aZ,ks)
theorem Fza.nil:Fza s [] [] []:=rfl
theorem Fza.pa {aZ' aZ:List AV}{ks:List Nat}(hv:pa v=true)(h:Fza s aZ' aZ ks):Fza s (v :: aZ') (v :: aZ) ks:=by
 unfold Fza at *;simp only[fzs];rw[jag (d:=7) hv,h];rfl
theorem Fza.sl {aZ' aZ:List AV}{ks:List Nat}{m:Nat}{x:Bool}(C:Cl s b cs)(hl:n * z=cs.length)(hp:cs.all pc=true)(h:Fza s aZ' aZ ks):Fza s (.slice b 0 n m z x :: aZ') (.lst n cs :: aZ) (b :: ks):=by
 unfold Fza at *;simp only[fzs];rw[jef (d:=7) (k:=0) C hl hp,h];rfl
variable {P:Program} {base:Bs}
theorem jdS {f:FuncId}{F:XF}(hl:jO P f=some F)(hm:base.pur f=1){aZ:List AV}{o:Oc}
 (h:xC P base F.body (jn F.ps aZ) st0 (gD P base F.res (X6 G0 o) (XW G0 o)) (WD P base F.res (X6 G0 o) (XW G0 o))):PX P base f aZ o:=PX.of hm (jev hl h)
theorem PX.xf {f:FuncId}{aZ aZ':List AV}{ks:List Nat}{o:Oc}(h:PX P base f aZ o){st:St}(hf:Fza st aZ' aZ ks)(hb:∀ st,base.run f aZ' st=.no)(K Kp:AV->St->Prop):XB P base f aZ' st K Kp=XG o K Kp (qv ks st):=h.cxk hf hb K Kp
end
end Go.Sy
end
noncomputable section
namespace Go.Sy
open Go.Ev
theorem Cl.q {s:St}{b:Nat}{cs:List AV}(h:Cl s b cs):type_of% (aI h.len (aI h.cell h.ratsP)):=aI h.len (aI h.cell h.ratsP)
theorem Cl.r {s:St}{b:Nat}{cs:List AV}(h:Cl s b cs):type_of% (aI h.len h.ratsP):=aI h.len h.ratsP
end Go.Sy
end
noncomputable section
namespace Go.Sy
open Go.Ev
theorem rzA:type_of% (aI (@Hf) (aI (@Km) (aI (@kf) (aI (@ja2) (aI (@ja0) (aI (@ke) (aI (@vM) (aI (@Ko) (aI (@jeI) (aI (@Ku) (aI (@kg) (aI (@vL) (aI (@GE) (aI (@ja3) (aI (@Kw) (aI (@Kv) (aI (@ja1) (aI (@Kt) (aI (@Ks) (aI (@GC) (aI (@x_i) (aI (@ja4) (aI (@jeJ) (aI (@GD) (aI (@Kl) (aI (@Kk) (aI (@jaZ) (aI (@Yl) (aI (@vY) (aI (@GS) (aI (@Un) (aI (@Ul) (aI (@wX) (aI (@Um) (aI (@jht) (aI (@HZ) (aI (@HX) (aI (@jbP) (aI (@HY) (aI (@jbQ) (aI (@GU) (aI (@VJ) (aI (@vZ) (aI (@jfb) (aI (@jfa) (aI (@GV) (aI (@GW) (aI (@jbO) (aI (@jbN) (aI (@jbU) (aI (@jbT) (aI (@jbS) (aI (@jbR) (aI (@U1) (aI (@U2) (aI (@U3) (aI (@Hx) (@Hw)))))))))))))))))))))))))))))))))))))))))))))))))))))))))):=aI (@Hf) (aI (@Km) (aI (@kf) (aI (@ja2) (aI (@ja0) (aI (@ke) (aI (@vM) (aI (@Ko) (aI (@jeI) (aI (@Ku) (aI (@kg) (aI (@vL) (aI (@GE) (aI (@ja3) (aI (@Kw) (aI (@Kv) (aI (@ja1) (aI (@Kt) (aI (@Ks) (aI (@GC) (aI (@x_i) (aI (@ja4) (aI (@jeJ) (aI (@GD) (aI (@Kl) (aI (@Kk) (aI (@jaZ) (aI (@Yl) (aI (@vY) (aI (@GS) (aI (@Un) (aI (@Ul) (aI (@wX) (aI (@Um) (aI (@jht) (aI (@HZ) (aI (@HX) (aI (@jbP) (aI (@HY) (aI (@jbQ) (aI (@GU) (aI (@VJ) (aI (@vZ) (aI (@jfb) (aI (@jfa) (aI (@GV) (aI (@GW) (aI (@jbO) (aI (@jbN) (aI (@jbU) (aI (@jbT) (aI (@jbS) (aI (@jbR) (aI (@U1) (aI (@U2) (aI (@U3) (aI (@Hx) (@Hw)))))))))))))))))))))))))))))))))))))))))))))))))))))))))
theorem rzB:type_of% (aI (@Hv) (aI (@hY) (aI (@jhv) (aI (@jhu) (aI (@jdR) (aI (@jee) (aI (@jci) (aI (@jfq) (aI (@jfk) (aI (@jfj) (aI (@jhK) (aI (@jcj) (aI (@kO) (aI (@jfh) (aI (@jcd) (aI (@jhJ) (aI (@jfp) (aI (@jfn) (aI (@jcp) (aI (@jco) (aI (@jcn) (aI (@jcm) (aI (@jcl) (aI (@Hd) (aI (@jfo) (aI (@jfi) (aI (@jck) (aI (@gk) (aI (@gj) (aI (@gi) (aI (@jcg) (aI (@jcf) (aI (@jce) (aI (@gm) (aI (@UI) (aI (@jfm) (aI (@He) (aI (@jfr) (aI (@GJ) (aI (@jcq) (aI (@jch) (aI (@jfl) (aI (@jfs) (aI (@jg6) (aI (@jeP) (aI (@HN) (aI (@jeU) (aI (@jeR) (aI (@jeV) (aI (@jeX) (aI (@jeQ) (aI (@GH) (aI (@Kz) (aI (@uR) (aI (@jbs) (aI (@ja8) (aI (@jbf) (@jbe)))))))))))))))))))))))))))))))))))))))))))))))))))))))))):=aI (@Hv) (aI (@hY) (aI (@jhv) (aI (@jhu) (aI (@jdR) (aI (@jee) (aI (@jci) (aI (@jfq) (aI (@jfk) (aI (@jfj) (aI (@jhK) (aI (@jcj) (aI (@kO) (aI (@jfh) (aI (@jcd) (aI (@jhJ) (aI (@jfp) (aI (@jfn) (aI (@jcp) (aI (@jco) (aI (@jcn) (aI (@jcm) (aI (@jcl) (aI (@Hd) (aI (@jfo) (aI (@jfi) (aI (@jck) (aI (@gk) (aI (@gj) (aI (@gi) (aI (@jcg) (aI (@jcf) (aI (@jce) (aI (@gm) (aI (@UI) (aI (@jfm) (aI (@He) (aI (@jfr) (aI (@GJ) (aI (@jcq) (aI (@jch) (aI (@jfl) (aI (@jfs) (aI (@jg6) (aI (@jeP) (aI (@HN) (aI (@jeU) (aI (@jeR) (aI (@jeV) (aI (@jeX) (aI (@jeQ) (aI (@GH) (aI (@Kz) (aI (@uR) (aI (@jbs) (aI (@ja8) (aI (@jbf) (@jbe)))))))))))))))))))))))))))))))))))))))))))))))))))))))))
theorem rzC:type_of% (aI (@jbh) (aI (@jbg) (aI (@jbi) (aI (@HO) (aI (@KA) (aI (@jbj) (aI (@jbn) (aI (@jbm) (aI (@jeT) (aI (@jbp) (aI (@GI) (aI (@jbd) (aI (@jeW) (aI (@jbo) (aI (@GL) (aI (@jbr) (aI (@jbq) (aI (@jeS) (aI (@jbc) (aI (@GK) (aI (@jbb) (aI (@jba) (aI (@ja9) (aI (@Hu) (aI (@jh3) (aI (@jh4) (aI (@jcK) (aI (@WT) (aI (@WU) (aI (@H7) (aI (@jfe) (aI (@jcD) (aI (@jbZ) (aI (@jaU) (aI (@jfG) (aI (@jia) (aI (@jaV) (aI (@Xa) (aI (@Q9) (aI (@Yi) (aI (@Q8) (aI (@Q4) (aI (@Q7) (aI (@k8) (aI (@ZN) (aI (@Yj) (aI (@Y3) (aI (@VU) (aI (@kS) (aI (@kR) (aI (@WW) (aI (@jr) (aI (@jl) (aI (@Q3) (aI (@QH) (aI (@Xk) (aI (@XR) (@XQ)))))))))))))))))))))))))))))))))))))))))))))))))))))))))):=aI (@jbh) (aI (@jbg) (aI (@jbi) (aI (@HO) (aI (@KA) (aI (@jbj) (aI (@jbn) (aI (@jbm) (aI (@jeT) (aI (@jbp) (aI (@GI) (aI (@jbd) (aI (@jeW) (aI (@jbo) (aI (@GL) (aI (@jbr) (aI (@jbq) (aI (@jeS) (aI (@jbc) (aI (@GK) (aI (@jbb) (aI (@jba) (aI (@ja9) (aI (@Hu) (aI (@jh3) (aI (@jh4) (aI (@jcK) (aI (@WT) (aI (@WU) (aI (@H7) (aI (@jfe) (aI (@jcD) (aI (@jbZ) (aI (@jaU) (aI (@jfG) (aI (@jia) (aI (@jaV) (aI (@Xa) (aI (@Q9) (aI (@Yi) (aI (@Q8) (aI (@Q4) (aI (@Q7) (aI (@k8) (aI (@ZN) (aI (@Yj) (aI (@Y3) (aI (@VU) (aI (@kS) (aI (@kR) (aI (@WW) (aI (@jr) (aI (@jl) (aI (@Q3) (aI (@QH) (aI (@Xk) (aI (@XR) (@XQ)))))))))))))))))))))))))))))))))))))))))))))))))))))))))
theorem rzD:type_of% (aI (@jf) (aI (@jg) (aI (@jr) (aI (@jq) (aI (@ZP) (aI (@Yo) (aI (@Yn) (aI (@YK) (aI (@Vk) (aI (@Vj) (aI (@Vi) (aI (@Vg) (aI (@Vh) (aI (@Vf) (aI (@QD) (aI (@Ze) (aI (@Za) (aI (@Ya) (aI (@Xs) (aI (@X9) (aI (@Zc) (aI (@Zd) (aI (@Ge) (aI (@Gd) (aI (@jeD) (aI (@jaW) (aI (@Kb) (aI (@Wx) (aI (@vX) (aI (@je9) (aI (@je8) (aI (@ul) (aI (@kQ) (aI (@Hk) (aI (@qM) (aI (@jbM) (aI (@GT) (aI (@h_0) (aI (@h_1) (aI (@jhP) (aI (@jhO) (aI (@jhR) (aI (@jhQ) (aI (@jhD) (aI (@jhC) (aI (@jhh) (aI (@jhg) (aI (@jhf) (aI (@jg4) (aI (@jg2) (aI (@jeM) (aI (@jg3) (aI (@jeN) (aI (@jbF) (aI (@VA) (aI (@Vz) (aI (@V7) (@jhZ)))))))))))))))))))))))))))))))))))))))))))))))))))))))))):=aI (@jf) (aI (@jg) (aI (@jr) (aI (@jq) (aI (@ZP) (aI (@Yo) (aI (@Yn) (aI (@YK) (aI (@Vk) (aI (@Vj) (aI (@Vi) (aI (@Vg) (aI (@Vh) (aI (@Vf) (aI (@QD) (aI (@Ze) (aI (@Za) (aI (@Ya) (aI (@Xs) (aI (@X9) (aI (@Zc) (aI (@Zd) (aI (@Ge) (aI (@Gd) (aI (@jeD) (aI (@jaW) (aI (@Kb) (aI (@Wx) (aI (@vX) (aI (@je9) (aI (@je8) (aI (@ul) (aI (@kQ) (aI (@Hk) (aI (@qM) (aI (@jbM) (aI (@GT) (aI (@h_0) (aI (@h_1) (aI (@jhP) (aI (@jhO) (aI (@jhR) (aI (@jhQ) (aI (@jhD) (aI (@jhC) (aI (@jhh) (aI (@jhg) (aI (@jhf) (aI (@jg4) (aI (@jg2) (aI (@jeM) (aI (@jg3) (aI (@jeN) (aI (@jbF) (aI (@VA) (aI (@Vz) (aI (@V7) (@jhZ)))))))))))))))))))))))))))))))))))))))))))))))))))))))))
theorem rzL:type_of% (aI (@Y3) (aI (@VU) (aI (@jf) (aI (@jg) (aI (@jr) (aI (@jl) (aI (@jq) (aI (@ZP) (aI (@qM) (aI (@ZN) (aI (@Yo) (aI (@Yn) (aI (@YK) (aI (@Xa) (aI (@Q9) (aI (@Yi) (aI (@Q8) (aI (@Q4) (aI (@Q7) (aI (@Yj) (aI (@Q3) (aI (@QH) (aI (@Xk) (aI (@XR) (aI (@XQ) (aI (@V7) (aI (@Vz) (@VA)))))))))))))))))))))))))))):=aI (@Y3) (aI (@VU) (aI (@jf) (aI (@jg) (aI (@jr) (aI (@jl) (aI (@jq) (aI (@ZP) (aI (@qM) (aI (@ZN) (aI (@Yo) (aI (@Yn) (aI (@YK) (aI (@Xa) (aI (@Q9) (aI (@Yi) (aI (@Q8) (aI (@Q4) (aI (@Q7) (aI (@Yj) (aI (@Q3) (aI (@QH) (aI (@Xk) (aI (@XR) (aI (@XQ) (aI (@V7) (aI (@Vz) (@VA)))))))))))))))))))))))))))
theorem rzN:type_of% (aI (@jf) (aI (@jg) (aI (@jr) (aI (@jl) (aI (@jq) (aI (@qM) (aI (@Y3) (aI (@ul) (aI (@kQ) (aI (@kS) (aI (@kR) (aI (@WW) (@jct))))))))))))):=aI (@jf) (aI (@jg) (aI (@jr) (aI (@jl) (aI (@jq) (aI (@qM) (aI (@Y3) (aI (@ul) (aI (@kQ) (aI (@kS) (aI (@kR) (aI (@WW) (@jct))))))))))))
theorem rzG:type_of% (aI (@Y3) (aI (@VU) (aI (@Xa) (aI (@Q9) (aI (@Yi) (aI (@Q8) (aI (@Q4) (aI (@Q7) (aI (@Yj) (aI (@V7) (aI (@Vz) (aI (@VA) (aI (@Vk) (aI (@Vj) (aI (@Vi) (aI (@Vg) (aI (@Vh) (aI (@Vf) (aI (@k8) (aI (@jf) (aI (@jg) (aI (@jr) (aI (@jl) (aI (@ZN) (aI (@jq) (aI (@ZP) (aI (@qM) (aI (@Yo) (aI (@Yn) (aI (@YK) (aI (@QD) (aI (@Ze) (aI (@Za) (aI (@Ya) (aI (@Xs) (aI (@X9) (aI (@Zc) (aI (@Zd) (aI (@gf) (aI (@gb) (aI (@UH) (aI (@WP) (aI (@UG) (aI (@gc) (aI (@ge) (aI (@gd) (aI (@Us) (aI (@Up) (aI (@WB) (aI (@uE) (aI (@WA) (aI (@Uq) (aI (@Ur) (aI (@Ut) (aI (@Wx) (aI (@vX) (aI (@Xk) (aI (@XR) (aI (@QH) (@XQ)))))))))))))))))))))))))))))))))))))))))))))))))))))))))))):=aI (@Y3) (aI (@VU) (aI (@Xa) (aI (@Q9) (aI (@Yi) (aI (@Q8) (aI (@Q4) (aI (@Q7) (aI (@Yj) (aI (@V7) (aI (@Vz) (aI (@VA) (aI (@Vk) (aI (@Vj) (aI (@Vi) (aI (@Vg) (aI (@Vh) (aI (@Vf) (aI (@k8) (aI (@jf) (aI (@jg) (aI (@jr) (aI (@jl) (aI (@ZN) (aI (@jq) (aI (@ZP) (aI (@qM) (aI (@Yo) (aI (@Yn) (aI (@YK) (aI (@QD) (aI (@Ze) (aI (@Za) (aI (@Ya) (aI (@Xs) (aI (@X9) (aI (@Zc) (aI (@Zd) (aI (@gf) (aI (@gb) (aI (@UH) (aI (@WP) (aI (@UG) (aI (@gc) (aI (@ge) (aI (@gd) (aI (@Us) (aI (@Up) (aI (@WB) (aI (@uE) (aI (@WA) (aI (@Uq) (aI (@Ur) (aI (@Ut) (aI (@Wx) (aI (@vX) (aI (@Xk) (aI (@XR) (aI (@QH) (@XQ)))))))))))))))))))))))))))))))))))))))))))))))))))))))))))
theorem rzP:type_of% (aI (@QaF) (aI (@QbG) (aI (@Nat.mul_one) (aI (@QbH) (aI (@Nat.one_mul) (aI (@Int.toNat_natCast) (aI (@Int.toNat_zero) (aI (@Int.toNat_one) (aI (@true_and) (aI (@and_true) (aI (@and_self) (aI (@Bool.not_true) (aI (@Bool.not_false) (aI (@Qbh) (aI (@Qba) (aI (@decide_eq_true_eq) (aI (@decide_eq_false_iff_not) (aI (@Nat.beq_eq) (@not_false_eq_true))))))))))))))))))):=aI (@QaF) (aI (@QbG) (aI (@Nat.mul_one) (aI (@QbH) (aI (@Nat.one_mul) (aI (@Int.toNat_natCast) (aI (@Int.toNat_zero) (aI (@Int.toNat_one) (aI (@true_and) (aI (@and_true) (aI (@and_self) (aI (@Bool.not_true) (aI (@Bool.not_false) (aI (@Qbh) (aI (@Qba) (aI (@decide_eq_true_eq) (aI (@decide_eq_false_iff_not) (aI (@Nat.beq_eq) (@not_false_eq_true))))))))))))))))))
end Go.Sy
end
noncomputable section
namespace Go.Sy
open Go.Ev
theorem rzQ:type_of% (aI (@eq_self.{1}) (aI (@Qah.{0}) (aI (@Qai.{0}) (aI (@Qal.{0}) (aI (@Qao.{0}) (aI (@QaT.{0}) (aI (@QaV.{0}) (aI (@QbS.{0}) (aI (@cond_true.{1}) (aI (@cond_false.{1}) (@ne_eq.{1}))))))))))):=aI (@eq_self.{1}) (aI (@Qah.{0}) (aI (@Qai.{0}) (aI (@Qal.{0}) (aI (@Qao.{0}) (aI (@QaT.{0}) (aI (@QaV.{0}) (aI (@QbS.{0}) (aI (@cond_true.{1}) (aI (@cond_false.{1}) (@ne_eq.{1}))))))))))
theorem rzZ:type_of% (aI (@rzA) (aI (@rzB) (aI (@rzC) (aI (@rzD) (aI (@rzP) (@rzQ)))))):=aI (@rzA) (aI (@rzB) (aI (@rzC) (aI (@rzD) (aI (@rzP) (@rzQ)))))
instance iA (n:Nat):OfNat A n:=⟨.t n⟩
theorem nA (n:Nat):(@OfNat.ofNat A n (iA n))=A.t (@OfNat.ofNat Nat n _):=rfl
def oa(a:Nat)(b:Bool)(c:Option (Nat×Bool))(d:XK):XS:=⟨some a,b,c,d⟩
def oe(a:Nat)(b:Bool)(c:Option (Nat×Bool))(d:Ins):XS:=oa a b c (.i d)
def oi(a:Nat)(b:Option (Nat×Bool))(c:Ins):XS:=oe a false b c
def oj(a:Nat)(b:Ins):XS:=oi a none b
def ol(a:List XS)(b:XC):XC:=.seq (.ops a) b
def om(a:Int):AV:=.int .i64 a
def ou(a:Nat)(b:Option (Nat×Bool))(c:Ins):XS:=oe a true b c
def ov(a:Nat)(b:Ins):XS:=ou a none b
def ow(a:Nat)(b:A):XS:=oj a (.mv b)
def oy(a:Nat)(b:A):XS:=ov a (.mv b)
def oz(a:Nat)(b:Nat×Bool)(c:Ins):XS:=oi a (some b) c
def oB:AV:=om 0
def oC:AV:=.str []
def oD(a:Nat)(b:Nat)(c:A):XS:=oj a (.fad b c)
def oE(a:Nat)(b:Bool)(c:Option (Nat×Bool))(d:A)(e:List A):XS:=oa a b c (.call d e)
def oF(a:List Nat):A:=.c (.str a)
def oG(a:Nat)(b:A):XS:=oj a (.ld1 b)
def oH(a:Bool):A:=.c (.bool a)
def oI(a:BinOp)(b:A)(c:AV):Ins:=.bin a b (.c c)
def oJ(a:XS)(b:Nat)(c:List (Nat×Nat)):XD:=⟨a,none,b,c⟩
def oK(a:XS)(b:Option A)(c:Nat)(d:List (Nat×Nat)):XD:=⟨a,some b,c,d⟩
def oL(a:Nat)(b:List AV):A:=.c (.fn a b)
def oM(a:Option Nat)(b:Option (Nat×Bool))(c:XK):XS:=⟨a,false,b,c⟩
def oQ(a:List XS)(b:A)(c:XC)(d:XC):XC:=ol a (.cond b c d)
def oR(a:Nat)(b:Option (Nat×Bool))(c:A)(d:List A):XS:=oE a false b c d
def oS(a:Nat)(b:A)(c:A):XK:=.i (.st a b c)
def oU(a:Nat)(b:Option (Nat×Bool))(c:Nat)(d:List AV)(e:List A):XS:=oR a b (oL c d) e
def oV(a:Nat)(b:Nat)(c:List AV)(d:List A):XS:=oU a none b c d
def oW(a:Option (Nat×Bool))(b:XK):XS:=oM none a b
def oX(a:XK):XS:=oW none a
def oY:A:=oH false
def oZ(a:Nat)(b:Nat)(c:A):XS:=oj a (.ldA b c)
def o0(a:Nat)(b:A)(c:A):XS:=oX (oS a b c)
def o3(a:List XS):XC:=ol a .ret
def o4(a:Nat)(b:List AV):XS:=ov a (.alloc b)
def o5(a:BinOp)(b:A)(c:Int):Ins:=oI a b (om c)
def o6(a:List XS)(b:XC)(c:XC):XC:=ol a (.seq b c)
def o7(a:Nat):Nat×Bool:=(a,false)
def o8(a:Nat)(b:Nat)(c:Ins):XS:=oz a (o7 b) c
def o9(a:XS)(b:Nat):XD:=oJ a b []
def Ia(a:XS)(b:A)(c:Nat)(d:List (Nat×Nat)):XD:=oK a (some b) c d
def Ib(a:List XS)(b:A)(c:XC):XC:=oQ a b c .skip
def Ic(a:Nat)(b:Nat)(c:List A):XS:=oV a b [] c
def Id(a:XD):XD×(Option (List XD)):=(a,none)
def Ie(a:XS)(b:Nat):XD×(Option (List XD)):=Id (o9 a b)
def If(a:Nat)(b:Nat)(c:Nat)(d:List AV)(e:List ((Nat×Nat)×A)):XS:=oj a (.buildS b c d e)
def Ig(a:Nat)(b:A)(c:A)(d:A):XS:=oj a (.pick b c d)
def Ih(a:Nat)(b:AV):XS:=oy a (.c b)
def Ii:A:=oH true
def Ij(a:Nat)(b:BinOp)(c:A)(d:Int):XS:=oj a (o5 b c d)
def Ik(a:Nat)(b:BinOp)(c:A)(d:A):XS:=oj a (.strb b c d)
def Il(a:XS):XS×(Option (List XD)):=(a,none)
def Im(a:Nat)(b:XC):XC:=.block a (.loop b)
def Io(a:XS)(b:Nat)(c:List (Nat×Nat)):XD:=oK a none b c
def Ip(a:Nat)(b:Nat)(c:A)(d:A):XS:=oj a (.idxS b c d)
def Iq(a:Nat):XS:=ow a 0
def Ir(a:Nat)(b:List AV)(c:List ((Nat×Nat)×A)):XS:=oj a (.build b c)
def Is(a:Nat)(b:A):XS:=oj a (.nilc b)
def Iu:AV:=.tup []
def Iv(a:Nat)(b:Nat)(c:Nat)(d:A):XS:=o8 a b (.fad c d)
def Iw(a:Nat×Nat)(b:List Nat):(Nat×Nat)×A:=(a,oF b)
def Ix(a:Nat)(b:Nat)(c:List Nat):(Nat×Nat)×A:=Iw (a,b) c
def Iy(a:Nat)(b:List Nat):(Nat×Nat)×A:=Ix a 1 b
def Iz(a:Nat)(b:Nat)(c:A):XS:=o8 a b (.ld1 c)
def IA(a:XS)(b:A)(c:Nat)(d:List (Nat×Nat)):XD×(Option (List XD)):=Id (Ia a b c d)
def IB(a:Nat)(b:A)(c:Nat):XS:=oj a (.ext b c)
def ID(a:List XS)(b:A)(c:List XS):XC:=Ib a b (o3 c)
def IE(a:List XS)(b:XC)(c:XC)(d:XC):XC:=o6 a b (.seq c d)
def IG(a:XS):XD×(Option (List XD)):=Ie a 0
def IH(a:Nat)(b:Nat)(c:A):XD×(Option (List XD)):=IG (oD a b c)
def II(a:A)(b:XC)(c:Nat):XC:=.cond a b (.exit c)
def IJ(a:Nat)(b:Nat):(Nat×Nat)×A:=Iy a [b]
def IK:A:=.c Iu
def IM(a:XS)(b:Nat)(c:List (Nat×Nat)):XD×(Option (List XD)):=Id (Io a b c)
def IO(a:Nat)(b:A):XS:=ov a (.box b)
def IP:Option (List XD):=some []
def IQ(a:Nat)(b:A)(c:Int):XS:=Ij a .add b c
def IR(a:Nat):Nat×Bool:=(a,true)
def IS(a:Nat)(b:Nat)(c:Ins):XS:=oz a (IR b) c
def IT(a:Nat):XS:=oy a oY
def IU(a:A):Ins:=.un .not a
def IV(a:Nat)(b:A)(c:A)(d:Nat)(e:List (Nat×Nat)):XD×(Option (List XD)):=IA (oG a b) c d e
def IW(a:List XS)(b:XC)(c:Nat)(d:XC)(e:XC):XC:=IE a b (.block c d) e
def IX(a:Nat)(b:A)(c:A)(d:A):XS:=ov a (.pick b c d)
def IY(a:Nat)(b:Nat)(c:A):XS:=Ic a b [c]
def IZ(a:Nat)(b:Nat)(c:A):XS:=o8 a b (.mv c)
def I0(a:Nat)(b:A)(c:Nat):XD:=o9 (ow a b) c
def I1(a:Nat)(b:BinOp)(c:A)(d:A):XS:=ov a (.bin b c d)
def I2(a:Int):A:=.c (om a)
def I3(a:List XS)(b:List XS):XC:=ol a (o3 b)
def I4(a:Nat)(b:Nat)(c:A):XS:=IS a b (.mv c)
def I5(a:List (XD×(Option (List XD))))(b:XC):XC:=.seq (.dops a) b
def I6(a:Nat)(b:BinOp)(c:A)(d:List Nat):XS:=Ik a b c (oF d)
def I7(a:Nat)(b:A):XS:=oj a (.len b)
def I8(a:Nat)(b:Nat)(c:A):XS×(Option (List XD)):=Il (oD a b c)
def I9(a:Nat)(b:A):XS×(Option (List XD)):=Il (oG a b)
def Oa(a:XS)(b:XS):XC:=.ops [a,b]
def Ob(a:List XS)(b:Nat)(c:XC):XC:=ol a (Im b c)
def Od(a:List XS)(b:A)(c:XC):XC:=oQ a b .skip c
def Oe(a:Nat)(b:Nat)(c:A):XS:=o8 a b (.len c)
def Of(a:Int):AV:=.int .u8 a
def Og(a:Nat)(b:A):XS:=ov a (.len b)
def Oh(a:Nat)(b:Nat)(c:A)(d:A):XS:=Ic a b [c,d]
def Oi(a:A)(b:Nat):XC:=II a .skip b
def Oj:XS:=IT 4
def Ok(a:Nat):XS:=Ih a oB
def Ol(a:Nat)(b:Nat×Bool)(c:Nat)(d:List AV)(e:List A):XS:=oU a (some b) c d e
def Om(a:Nat)(b:BinOp)(c:A)(d:Int):XS:=ov a (o5 b c d)
def On(a:Nat)(b:A)(c:A)(d:Nat)(e:List (Nat×Nat)):XD×(Option (List XD)):=IM (o0 a b c) d e
def Oo(a:Nat)(b:A)(c:List Nat):XS:=I6 a .eql b c
def Oq(a:List XS)(b:XC)(c:List XS):XC:=o6 a b (o3 c)
def Or(a:A):XS:=oy 4 a
def Os(a:Nat)(b:Nat)(c:A)(d:Nat)(e:List (Nat×Nat)):XD:=Io (IY a b c) d e
theorem qq:type_of% (aI @nA (aI @oa.eq_1 (aI @oe.eq_1 (aI @oi.eq_1 (aI @oj.eq_1 (aI @ol.eq_1 (aI @om.eq_1 (aI @ou.eq_1 (aI @ov.eq_1 (aI @ow.eq_1 (aI @oy.eq_1 (aI @oz.eq_1 (aI @oB.eq_1 (aI @oC.eq_1 (aI @oD.eq_1 (aI @oE.eq_1 (aI @oF.eq_1 (aI @oG.eq_1 (aI @oH.eq_1 (aI @oI.eq_1 (aI @oJ.eq_1 (aI @oK.eq_1 (aI @oL.eq_1 (aI @oM.eq_1 (aI @oQ.eq_1 (aI @oR.eq_1 (aI @oS.eq_1 (aI @oU.eq_1 (aI @oV.eq_1 (aI @oW.eq_1 (aI @oX.eq_1 (aI @oY.eq_1 (aI @oZ.eq_1 (aI @o0.eq_1 (aI @o3.eq_1 (aI @o4.eq_1 (aI @o5.eq_1 (aI @o6.eq_1 (aI @o7.eq_1 (aI @o8.eq_1 (aI @o9.eq_1 (aI @Ia.eq_1 (aI @Ib.eq_1 (aI @Ic.eq_1 (aI @Id.eq_1 (aI @Ie.eq_1 (aI @If.eq_1 (aI @Ig.eq_1 (aI @Ih.eq_1 (aI @Ii.eq_1 (aI @Ij.eq_1 (aI @Ik.eq_1 (aI @Il.eq_1 (aI @Im.eq_1 (aI @Io.eq_1 (aI @Ip.eq_1 (aI @Iq.eq_1 (aI @Ir.eq_1 (aI @Is.eq_1 (aI @Iu.eq_1 (aI @Iv.eq_1 (aI @Iw.eq_1 (aI @Ix.eq_1 (aI @Iy.eq_1 (aI @Iz.eq_1 (aI @IA.eq_1 (aI @IB.eq_1 (aI @ID.eq_1 (aI @IE.eq_1 (aI @IG.eq_1 (aI @IH.eq_1 (aI @II.eq_1 (aI @IJ.eq_1 (aI @IK.eq_1 (aI @IM.eq_1 (aI @IO.eq_1 (aI @IP.eq_1 (aI @IQ.eq_1 (aI @IR.eq_1 (aI @IS.eq_1 (aI @IT.eq_1 (aI @IU.eq_1 (aI @IV.eq_1 (aI @IW.eq_1 (aI @IX.eq_1 (aI @IY.eq_1 (aI @IZ.eq_1 (aI @I0.eq_1 (aI @I1.eq_1 (aI @I2.eq_1 (aI @I3.eq_1 (aI @I4.eq_1 (aI @I5.eq_1 (aI @I6.eq_1 (aI @I7.eq_1 (aI @I8.eq_1 (aI @I9.eq_1 (aI @Oa.eq_1 (aI @Ob.eq_1 (aI @Od.eq_1 (aI @Oe.eq_1 (aI @Of.eq_1 (aI @Og.eq_1 (aI @Oh.eq_1 (aI @Oi.eq_1 (aI @Oj.eq_1 (aI @Ok.eq_1 (aI @Ol.eq_1 (aI @Om.eq_1 (aI @On.eq_1 (aI @Oo.eq_1 (aI @Oq.eq_1 (aI @Or.eq_1 @Os.eq_1))))))))))))))))))))))))))))))))))))))))))))))))))))))))))))))))))))))))))))))))))))))))))))))))))))))))))))))))):=aI @nA (aI @oa.eq_1 (aI @oe.eq_1 (aI @oi.eq_1 (aI @oj.eq_1 (aI @ol.eq_1 (aI @om.eq_1 (aI @ou.eq_1 (aI @ov.eq_1 (aI @ow.eq_1 (aI @oy.eq_1 (aI @oz.eq_1 (aI @oB.eq_1 (aI @oC.eq_1 (aI @oD.eq_1 (aI @oE.eq_1 (aI @oF.eq_1 (aI @oG.eq_1 (aI @oH.eq_1 (aI @oI.eq_1 (aI @oJ.eq_1 (aI @oK.eq_1 (aI @oL.eq_1 (aI @oM.eq_1 (aI @oQ.eq_1 (aI @oR.eq_1 (aI @oS.eq_1 (aI @oU.eq_1 (aI @oV.eq_1 (aI @oW.eq_1 (aI @oX.eq_1 (aI @oY.eq_1 (aI @oZ.eq_1 (aI @o0.eq_1 (aI @o3.eq_1 (aI @o4.eq_1 (aI @o5.eq_1 (aI @o6.eq_1 (aI @o7.eq_1 (aI @o8.eq_1 (aI @o9.eq_1 (aI @Ia.eq_1 (aI @Ib.eq_1 (aI @Ic.eq_1 (aI @Id.eq_1 (aI @Ie.eq_1 (aI @If.eq_1 (aI @Ig.eq_1 (aI @Ih.eq_1 (aI @Ii.eq_1 (aI @Ij.eq_1 (aI @Ik.eq_1 (aI @Il.eq_1 (aI @Im.eq_1 (aI @Io.eq_1 (aI @Ip.eq_1 (aI @Iq.eq_1 (aI @Ir.eq_1 (aI @Is.eq_1 (aI @Iu.eq_1 (aI @Iv.eq_1 (aI @Iw.eq_1 (aI @Ix.eq_1 (aI @Iy.eq_1 (aI @Iz.eq_1 (aI @IA.eq_1 (aI @IB.eq_1 (aI @ID.eq_1 (aI @IE.eq_1 (aI @IG.eq_1 (aI @IH.eq_1 (aI @II.eq_1 (aI @IJ.eq_1 (aI @IK.eq_1 (aI @IM.eq_1 (aI @IO.eq_1 (aI @IP.eq_1 (aI @IQ.eq_1 (aI @IR.eq_1 (aI @IS.eq_1 (aI @IT.eq_1 (aI @IU.eq_1 (aI @IV.eq_1 (aI @IW.eq_1 (aI @IX.eq_1 (aI @IY.eq_1 (aI @IZ.eq_1 (aI @I0.eq_1 (aI @I1.eq_1 (aI @I2.eq_1 (aI @I3.eq_1 (aI @I4.eq_1 (aI @I5.eq_1 (aI @I6.eq_1 (aI @I7.eq_1 (aI @I8.eq_1 (aI @I9.eq_1 (aI @Oa.eq_1 (aI @Ob.eq_1 (aI @Od.eq_1 (aI @Oe.eq_1 (aI @Of.eq_1 (aI @Og.eq_1 (aI @Oh.eq_1 (aI @Oi.eq_1 (aI @Oj.eq_1 (aI @Ok.eq_1 (aI @Ol.eq_1 (aI @Om.eq_1 (aI @On.eq_1 (aI @Oo.eq_1 (aI @Oq.eq_1 (aI @Or.eq_1 @Os.eq_1))))))))))))))))))))))))))))))))))))))))))))))))))))))))))))))))))))))))))))))))))))))))))))))))))))))))))))))))
theorem dzA {p:Prop}(h:p:=by first|assumption|decide|omega|(simp only[rzN,Qal,Qao];first|done|omega)|(apply Ju<;>first|omega|((simp(disch:=first|assumption|omega|(simp only[rzN,Qal,Qao];first|done|omega)) only[rzL,Qal,Qao,QaF,Qab ])<;>first|done|omega))|(simp(disch:=first|assumption|omega|(simp only[rzN,Qal,Qao];first|done|omega)) only[rzG,Qah,Qai,Qac,Qbf,Qal,Qao,QaT,QaV];first|done|omega|decide)):p:=h
theorem YQ {p:Prop}(h:p:=by first|assumption|decide|omega|(simp only[zz,rzN,Qal,Qao];first|done|omega)|(apply Ju<;>first|omega|((simp(disch:=first|assumption|omega|(simp only[zz,rzN,Qal,Qao];first|done|omega)) only[rzL,Qal,Qao,QaF,Qab,zz ])<;>first|done|omega))|(simp(disch:=first|assumption|omega|(simp only[zz,rzN,Qal,Qao];first|done|omega)) only[zz,rzG,Qah,Qai,Qac,Qbf,Qal,Qao,QaT,QaV];first|done|omega|decide)):p:=h
end Go.Sy
end
noncomputable section
namespace Go.Sy
open Go.Ev Go.Proofs
def H1 (f:FuncId):Nat:=if f∈[9,8,30,6,11,20,10,12,17,18,16,22,23,24,52,21,33,70,72,71,31,28,29,37,38,39,40,42,43,44,45,47,53,81,51,49,50,58,73,65,66,67,82,79] then 1
 else if f∈[19,14,15,32,34,35,36,27,54,55,56,57,48,63,64,25,26,41] then 3 else if f∈[] then 5 else if f∈[] then 2 else 0
def uY (f:FuncId):Bool:=!(Qap f 5) && !(Qap f 90021) && !(Qap f 46)
structure NB (base:Bs):Prop where
 nob:∀ f,uY f=true->∀ args st,base.run f args st=.no
 purE:base.pur=H1
theorem NB.pur {base:Bs}(h:NB base)(f m:Nat)(e:H1 f=m):base.pur f=m:=by rw[h.purE];exact e
theorem NB.no {base:Bs}(h:NB base)(f:FuncId)(e:uY f=true)(args:List AV)(st:St):base.run f args st=.no:=h.nob f e args st
theorem NB.at0 {base:Bs}(h:NB base)(f:FuncId)(e:uY f=true)(e2:H1 f=0)(args:List AV)(st:St):base.at0 f args st:=⟨h.nob f e args st,h.pur f 0 e2⟩
abbrev Ret (base:Bs)(f:FuncId)(xs:List AV)(o:Oc):Prop:=∀ st K Kp,XB Qaf base f xs st K Kp=XG o K Kp st
abbrev Tot (base:Bs)(f:FuncId)(xs:List AV)(v:AV):Prop:=∀ st K Kp,XB Qaf base f xs st K Kp=K v st
theorem NB.tot {base:Bs}(hb:NB base){f:FuncId}{xs:List AV}{v:AV}(h:PX Qaf base f xs (.ok v))(hp:xs.all pa=true)(e:uY f=true):Tot base f xs v:=λst K Kp=>h.xb hp (hb.no f e _) st K Kp
theorem NB.ret {base:Bs}(hb:NB base){f:FuncId}{xs:List AV}{o:Oc}(h:PX Qaf base f xs o)(hp:xs.all pa=true)(e:uY f=true):Ret base f xs o:=λst K Kp=>h.xb hp (hb.no f e _) st K Kp
inductive Ex where
 |mk (op num:Int) (name:List Nat) (kids:List Ex) (line col:Int)
def Ex.op:Ex->Int | .mk o _ _ _ _ _=>o
def Ex.num:Ex->Int | .mk _ n _ _ _ _=>n
def Ex.name:Ex->List Nat | .mk _ _ n _ _ _=>n
def Ex.kids:Ex->List Ex | .mk _ _ _ k _ _=>k
def Ex.line:Ex->Int | .mk _ _ _ _ l _=>l
def Ex.col:Ex->Int | .mk _ _ _ _ _ c=>c
theorem Ex.ind {p:Ex->Prop}(h:∀ op num name kids l c,(∀ k∈kids,p k)->p (.mk op num name kids l c)):∀ x,p x
 |.mk op num name kids l c=>h op num name kids l c (inds h kids)
where inds {p:Ex->Prop} (h:∀ op num name kids l c,(∀ k∈kids,p k)->p (.mk op num name kids l c)):∀ (xs:List Ex),∀ k∈xs,p k
 |[],k,hk=>by cases hk
 |x :: xs,k,hk=>by
  rcases Qbp.1 hk with e|e
  ·exact e▸Ex.ind h x
  ·exact inds h xs k e
theorem Ex.indk {p:Ex->Prop}(h:∀ x:Ex,(∀ k∈x.kids,p k)->p x):∀ x,p x:=Ex.ind λop num name ks l c ih=>h (.mk op num name ks l c) ih
mutual
def eE:Ex->List AV
 |.mk op num name kids l c=>[.int .i64 op,.int .i64 num,.str name,.lst kids.length (eEs kids),.int .i64 l,.int .i64 c]
def eEs:List Ex->List AV
 |[]=>[]
 |x :: xs=>eE x ++ eEs xs
end
theorem jcG:∀ xs,eEs xs=fl eE xs
 |[]=>rfl
 |x :: xs=>by rw[Xg,<-jcG xs];rfl
theorem yg (x:Ex):eE x=[.int .i64 x.op,.int .i64 x.num,.str x.name,.lst x.kids.length (fl eE x.kids),.int .i64 x.line,.int .i64 x.col]:=by
 cases x;simp only[eE,jcG];rfl
theorem J3 (x:Ex):(eE x).length=6:=by rw[yg];rfl
theorem gE (x:Ex)(k:Nat):(eE x).getD k .bad=([.int .i64 x.op,.int .i64 x.num,.str x.name,.lst x.kids.length (fl eE x.kids),.int .i64 x.line,.int .i64 x.col]:List AV).getD k .bad:=by rw[yg]
theorem jhY (x:Ex)(k:Nat):(eE x).drop k=([.int .i64 x.op,.int .i64 x.num,.str x.name,.lst x.kids.length (fl eE x.kids),.int .i64 x.line,.int .i64 x.col]:List AV).drop k:=by rw[yg]
theorem XN (x:Ex):(eE x).all pc=true:=by rw[yg];rfl
theorem jaF (x:Ex):lall AV.cell (eE x)=true:=by rw[yg];rfl
theorem jhX {st:St}{K:AV->St->Prop}{xs:List Ex}{i:Nat}(h:i<xs.length):jd (zT 6 (.lptr (fl eE xs) (i * 6)) st) K=K (.agg (eE xs[i])) st:=YV J3 h
theorem jfy {st:St}{K:AV->St->Prop}{xs:List Ex}{i:Nat}(h:i<xs.length){k:Nat}(hk:k<6):jd (yV (.lptr (fl eE xs) (i * 6+k)) st) K=K ((eE xs[i]).getD k .bad) st:=za J3 h hk
theorem jfz {st:St}{K:AV->St->Prop}{xs:List Ex}{i:Nat}(h:i<xs.length):jd (yV (.lptr (fl eE xs) (i * 6)) st) K=K ((eE xs[i]).getD 0 .bad) st:=za (k:=0) J3 h (by decide)
theorem jj:type_of% (aI @J3 (aI @gE (aI @jhY (aI @jaF (aI @jhX (aI @jfz @jfy)))))):=aI @J3 (aI @gE (aI @jhY (aI @jaF (aI @jhX (aI @jfz @jfy)))))
theorem qF:type_of% (aI @J3 (aI @jaF @gE)):=aI @J3 (aI @jaF @gE)
theorem dzB {p:Prop}(h:p:=by first|assumption|decide|omega|(simp only[qF,rzN,Qal,Qao];first|done|omega)|(apply Ju<;>first|omega|((simp(disch:=first|assumption|omega|(simp only[qF,rzN,Qal,Qao];first|done|omega)) only[rzL,Qal,Qao,QaF,Qab,qF ])<;>first|done|omega))|(simp(disch:=first|assumption|omega|(simp only[qF,rzN,Qal,Qao];first|done|omega)) only[qF,rzG,Qah,Qai,Qac,Qbf,Qal,Qao,QaT,QaV];first|done|omega|decide)):p:=h
theorem cyB {p:Prop}(h:p:=by apply Ju<;>first|omega|((simp(disch:=first|assumption|omega|(simp only[qF,rzN,Qal,Qao];first|done|omega)) only[rzL,Qal,Qao,QaF,Qab,qF])<;>first|done|rfl|omega|(simp;done)|(simp;omega))):p:=h
theorem jjy {p:Prop}(h:p:=by first|assumption|decide|omega|(simp only[qF,zz,rzN,Qal,Qao];first|done|omega)|(apply Ju<;>first|omega|((simp(disch:=first|assumption|omega|(simp only[qF,zz,rzN,Qal,Qao];first|done|omega)) only[rzL,Qal,Qao,QaF,Qab,qF,zz ])<;>first|done|omega))|(simp(disch:=first|assumption|omega|(simp only[qF,zz,rzN,Qal,Qao];first|done|omega)) only[qF,zz,rzG,Qah,Qai,Qac,Qbf,Qal,Qao,QaT,QaV];first|done|omega|decide)):p:=h
end Go.Sy
end
noncomputable section
set_option maxRecDepth 100000
namespace Go.Sy
open Go.Ev Go.Proofs
def z46:XC:=(I3 [IO 1 0,IT 2] [oZ 3 6 1,IY 4 30 3,Ij 5 .leq 4 60,ow 6 5,IS 7 6 (.ldA 6 1),Ol 8 (IR 6) 31 [] [7],Ig 9 6 8 oY,oy 2 9])
def z17:XC:=(IE [IO 2 0,IO 3 1,Oj] (ID [oD 6 0 2,oG 7 6,oD 8 0 3,oG 9 8,oj 10 (.bin .neq 7 9),ow 11 10,Iv 12 11 1 2,Iz 13 11 12,Iv 14 11 1 3,Iz 15 11 14,o8 16 11 (.bin .neq 13 15),Ig 17 11 Ii 16,ow 18 17,Iv 19 18 2 2,Iz 20 18 19,Iv 21 18 2 3,Iz 22 18 21,o8 23 18 (.strb .neq 20 22),Ig 24 18 Ii 23,ow 25 24,Iv 26 25 3 2,Iz 27 25 26,Oe 28 25 27,Iv 29 25 3 3,Iz 30 25 29,Oe 31 25 30,o8 32 25 (.bin .neq 28 31),IX 33 25 Ii 32] 33 [Oj]) (Ob [oD 34 3 2,oG 35 34,Og 36 35,Ok 37] 0 (IW [I1 38 .lss 37 36] (Oi 38 0) 1 (o6 [ow 39 37,oy 5 39] (.cops [I8 40 3 2,I9 41 40,Il (ow 42 5),Il (Ip 43 6 41 42),Il (oZ 44 6 43),I8 45 3 3,I9 46 45,Il (ow 47 5),Il (Ip 48 6 46 47),Il (oZ 49 6 48),(Oh 50 20 44 49,IP),Il (ov 51 (IU 50))]) (.cond 51 (o3 [Oj]) .skip)) (Oa (IQ 52 37 1) (oy 37 52)))) (o3 [Or Ii]))
def y17:XF:=⟨[0,1],z17,[(.t 4)]⟩
theorem x17:jO Qaf 20=some y17:=by kernel_rfl
end Go.Sy
end
noncomputable section
set_option maxRecDepth 100000
namespace Go.Sy
open Go.Ev Go.Proofs
variable {base:Bs}
mutual
def szE:Ex->Nat
 |.mk _ _ nm ks _ _=>JW ks+nm.length+1
def JW:List Ex->Nat
 |[]=>0
 |x :: xs=>szE x+JW xs
end
theorem Wn (x:Ex):szE x=JW x.kids+x.name.length+1:=by cases x;rfl
theorem vP:∀ {xs:List Ex} {k:Nat} (h:k<xs.length),szE xs[k]<=JW xs
 |x :: xs,0,h=>by simp[JW]
 |x :: xs,k+1,h=>by
  have:=vP (xs:=xs) (k:=k) (by simpa using h);simp[JW];omega
theorem Z5:∀ xs:List Ex,xs.length<=JW xs
 |[]=>by simp
 |x :: xs=>by
  have:=Z5 xs;have:=Wn x;simp[JW];omega
theorem jhj {α:Type}{xs:List α}{k:Nat}(h:k<xs.length):xs.take (k+1)=xs.take k ++ [xs[k]]:=by rw[List.take_add_one,Qav h];rfl
def BIG:Nat:=1099511627776
end Go.Sy
end
noncomputable section
set_option maxRecDepth 100000
namespace Go.Sy
open Go.Ev Go.Proofs
def qK (c:Nat):Bool:=(decide (97<=c) && decide (c<=122)) ||(decide (65<=c) && decide (c<=90))
def jE (c:Nat):Bool:=decide (48<=c) && decide (c<=57)
def qQ (c:Nat):Bool:=qK c ||jE c ||decide (c=95)
def jV (p:Nat->Bool):List Nat->Nat
 |[]=>0
 |c :: l=>if p c then jV p l+1 else 0
theorem JO (p:Nat->Bool):∀ l,jV p l<=l.length
 |[]=>Qag _
 |c :: l=>by simp only[jV,Qal];have:=JO p l;split<;>omega
theorem VS {p:Nat->Bool}:∀ {l:List Nat} {k:Nat},k<=l.length->(∀ j,j<k->p (l.getD j 0)=true)->(k=l.length\/p (l.getD k 0)=false)->jV p l=k
 |[],k,h,_,_=>by simp at h;simp[jV,h]
 |c :: l,0,h,h1,h2=>by
  simp only[jV];rcases h2 with h2|h2
  ·simp at h2
  ·simp at h2;simp[h2]
 |c :: l,k+1,h,h1,h2=>by
  have h0:=h1 0 (by omega);simp at h0;simp only[jV,h0,if_true];have:=VS (l:=l) (k:=k) (by simpa using h) (λj hj=>by simpa using h1 (j+1) (by omega)) (by simpa using h2);omega
def jfg:List (List Nat):=[[101,110,117,109],[118,97,114],[98,111,111,108],[112,114,111,99,101,115,115],[119,104,101,110],[100,111],[116,114,117,101],[102,97,108,115,101],[88],[70],[71],[85],[82],[89],[90],[79],[72],[83],[84]]
def gh (l:List Nat):Bool:=decide (l∈jfg)
def begins (p l:List Nat):Bool:=decide (l.take p.length=p)
theorem Ve {p l:List Nat}(h:l.length<p.length):begins p l=false:=by
 unfold begins;refine decide_eq_false λe=>?_;have:=congrArg Qcb e;rw[QaO] at this;omega
def qB (c:Nat):Bool:=decide (c=32) ||decide (c=9) ||decide (c=10)
def zS (c:Nat):Bool:=decide (c≠10)
def yv (p:Nat×Nat)(x:Nat):Nat×Nat:=if x=10 then(p.1+1,1) else(p.1,p.2+1)
def jp (p:Nat×Nat)(l:List Nat):Nat×Nat:=l.foldl yv p
theorem Z2 (l:List Nat):∀ p:Nat×Nat,1<=p.2->(jp p l).1<=p.1+l.length/\(jp p l).2<=p.2+l.length/\1<=(jp p l).2:=by
 induction l with
 |nil=>exact λp h=>⟨Qag _,Qag _,h⟩
 |cons x l ih=>
  intro p h;have hs:(yv p x).1<=p.1+1/\(yv p x).2<=p.2+1/\1<=(yv p x).2:=by
   unfold yv;split<;>simp<;>omega
  have:=ih (yv p x) hs.2.2;show(jp (yv p x) l).1<=p.1+(l.length+1)/\(jp (yv p x) l).2<=p.2+(l.length+1)/\_;exact⟨by omega,by omega,this.2.2⟩
theorem Qq (p:Nat×Nat)(l k:List Nat):jp p (l ++ k)=jp (jp p l) k:=List.foldl_append ..
def gap (r:List Nat):Nat:=if jV qB r=0/\begins [47,47] r=true then jV zS r else jV qB r
theorem vj (r:List Nat):gap r<=r.length:=by
 unfold gap;split
 ·exact JO _ _
 ·exact JO _ _
def jm (r:List Nat):Nat:=if h:gap r=0 then 0 else gap r+jm (r.drop (gap r))
termination_by r.length
decreasing_by
 rw[QaA];have:=vj r;omega
theorem gq {r:List Nat}(h:gap r=0):jm r=0:=by rw[jm,dif_pos h]
theorem gp {r:List Nat}(h:gap r≠0):jm r=gap r+jm (r.drop (gap r)):=by rw[jm,dif_neg h]
theorem Qy (r:List Nat):jm r<=r.length:=by
 by_cases h:gap r=0
 ·rw[gq h];exact QaM _
 ·have e:=vj r;have ih:=Qy (r.drop (gap r));rw[QaA] at ih;rw[gp h];omega
termination_by r.length
decreasing_by
 rw[QaA];have:=vj r;omega
def yb:List (List Nat):=[[60,45,62],[46,46],[58,61],[33,61],[60,61],[62,61],[45,62],[123],[125],[40],[41],[58],[44],[59],[61],[60],[62],[43],[45],[42],[33],[38],[124]]
def zV (r:List Nat):List (List Nat)->Nat
 |[]=>0
 |x :: xs=>if begins x r=true then x.length else zV r xs
def Je (r:List Nat):Nat:=zV r yb
structure Tk where
 kind:Nat
 text:List Nat
 num:Nat
 line:Nat
 col:Nat
def Tk.cells (t:Tk):List AV:=[.int .i64 (t.kind:Int),.str t.text,.int .i64 (t.num:Int),.int .i64 (t.line:Int),.int .i64 (t.col:Int)]
def Q1 (s:List Nat):Nat:=s.foldl (λv c=>10 * v+(c - 48)) 0
def jZ (r:List Nat)(p:Nat×Nat):Nat×Tk×Nat:=
 match r with
 |[]=>(0,⟨5,[],0,p.1,p.2⟩,0)
 |x :: r'=>
  if qK x=true then
   let n:=jV qQ (x :: r')
   if 32<n then(132,⟨1,[],0,p.1,p.2⟩,0) else(0,⟨if gh ((x :: r').take n)=true then 4 else 1,(x :: r').take n,0,p.1,p.2⟩,n)
  else if jE x=true then
   let n:=jV jE (x :: r')
   if 7<n\/1000000<Q1 ((x :: r').take n) then(132,⟨2,[],0,p.1,p.2⟩,0) else(0,⟨2,(x :: r').take n,Q1 ((x :: r').take n),p.1,p.2⟩,n)
  else
   let n:=Je (x :: r')
   if n=0 then(131,⟨3,[],0,p.1,p.2⟩,0) else(0,⟨3,(x :: r').take n,0,p.1,p.2⟩,n)
def ZT (s:List Nat):Prop:=s≠[]/\∀ c∈s,jE c=true
theorem K9 (p:Nat->Bool):∀ l:List Nat,∀ c∈l.take (jV p l),p c=true
 |[],c,h=>by simp at h
 |y :: l,c,h=>by
  simp only[jV] at h;by_cases hy:p y=true
  ·rw[if_pos hy,Qbz] at h;rcases Qbp.1 h with h|h
   ·rw[h];exact hy
   ·exact K9 p l c h
  ·rw[if_neg hy] at h;simp at h
theorem Gq {x:Nat}{r:List Nat}(h:jE x=true):ZT ((x :: r).take (jV jE (x :: r))):=by
 refine⟨?_,K9 jE _⟩;have:jV jE (x :: r)=jV jE r+1:=by simp only[jV,if_pos h]
 rw[this,Qbz];simp
theorem jdu (s:List Nat):∀ v,(∀ c∈s,jE c=true)->s.foldl (λv c=>10 * v+(c - 48)) v+1<=(v+1) * 10 ^ s.length:=by
 induction s with
 |nil=>exact λv _=>by simp
 |cons c s ih=>
  intro v h;have hc:=h c (by simp);have hc9:c - 48<=9:=by
   unfold jE at hc;simp at hc;omega
  have:=ih (10 * v+(c - 48)) λd hd=>h d (by simp[hd]);refine Qas this ?_;rw[Qal,Nat.pow_succ,<-Nat.mul_assoc,Nat.mul_right_comm];exact Qbg _ (by omega)
theorem jfO {s:List Nat}{n:Nat}(hn:s.length=n)(h7:n<=7)(h:∀ c∈s,jE c=true):Q1 s<=99999999:=by
 have:=jdu s 0 h;have e:10 ^ s.length<=10 ^ 7:=Nat.pow_le_pow_right (by decide) (by omega);have e7:10 ^ 7=10000000:=by decide
 unfold Q1;omega
theorem UM (r:List Nat):∀ xs,zV r xs<=r.length
 |[]=>QaM _
 |y :: xs=>by
  show(if begins y r=true then y.length else zV r xs)<=r.length;by_cases h:begins y r=true
  ·rw[if_pos h];rcases QaR r.length y.length with h2|h2
   ·rw[Ve h2] at h;exact absurd h (by decide)
   ·exact h2
  ·rw[if_neg h];exact UM r xs
theorem uS (r:List Nat):Je r<=r.length:=UM r _
theorem YH {r:List Nat}{p:Nat×Nat}{e n:Nat}{t:Tk}(h:jZ r p=(e,t,n)):n<=r.length:=by
 cases r with
 |nil=>simp[jZ] at h;omega
 |cons x r'=>
  unfold jZ at h;simp only at h;have h1:=JO qQ (x :: r');have h2:=JO jE (x :: r');have h3:=uS (x :: r');split at h
  ·split at h<;>simp only[Prod.mk.injEq] at h<;>omega
  ·split at h
   ·split at h<;>simp only[Prod.mk.injEq] at h<;>omega
   ·split at h<;>simp only[Prod.mk.injEq] at h<;>omega
theorem wt {p:Nat->Bool}{x:Nat}{r:List Nat}(h:p x=true):0<jV p (x :: r):=by
 simp only[jV,if_pos h];omega
theorem XZ {r:List Nat}{p:Nat×Nat}{t:Tk}{n:Nat}(h:jZ r p=(0,t,n)):(t.kind=5↔n=0)/\(n=0↔r=[]):=by
 cases r with
 |nil=>simp[jZ] at h;obtain⟨h1,h2⟩:=h;subst h1 h2;simp
 |cons x r'=>
  unfold jZ at h;simp only at h;split at h
  ·rename_i hL;have hp:=wt (p:=qQ) (r:=r') (show qQ x=true by unfold qQ;rw[hL];rfl);split at h
   ·simp at h
   ·simp only[Prod.mk.injEq] at h;obtain⟨_,h1,h2⟩:=h;subst h1 h2;refine⟨?_,?_⟩
    ·show((if _ then 4 else 1)=5↔_);split<;>constructor<;>intro h<;>omega
    ·constructor
     ·intro h;omega
     ·intro h;simp at h
  ·split at h
   ·rename_i hD;have hp:=wt (p:=jE) (r:=r') hD;split at h
    ·simp at h
    ·simp only[Prod.mk.injEq] at h;obtain⟨_,h1,h2⟩:=h;subst h1 h2;refine⟨?_,?_⟩
     ·show(2=5↔_);constructor<;>intro h<;>omega
     ·constructor
      ·intro h;omega
      ·intro h;simp at h
   ·split at h
    ·simp at h
    ·rename_i hz;simp only[Prod.mk.injEq] at h;obtain⟨_,h1,h2⟩:=h;subst h1 h2;refine⟨?_,?_⟩
     ·show(3=5↔_);constructor<;>intro h<;>omega
     ·constructor
      ·intro h;exact absurd h hz
      ·intro h;simp at h
def qg (r:List Nat)(p:Nat×Nat):List Tk×(Nat×Nat×Nat):=
 match h:jZ (r.drop (jm r)) (jp p (r.take (jm r))) with
 |(e,t,n)=>
  if e≠0 then([],(e,t.line,t.col))
  else if hn:n=0 then([t],(0,0,0))
  else
   let q:=qg ((r.drop (jm r)).drop n) (jp (jp p (r.take (jm r))) ((r.drop (jm r)).take n))
   if q.2.1≠0 then([],q.2) else(t :: q.1,q.2)
termination_by r.length
decreasing_by
 have h1:=YH h;have h2:=Qy r;rw[QaA] at h1;rw[QaA,QaA];omega
theorem zm (r:List Nat)(p:Nat×Nat){e n:Nat}{t:Tk}(h:jZ (r.drop (jm r)) (jp p (r.take (jm r)))=(e,t,n)):qg r p=if e≠0 then([],(e,t.line,t.col)) else if n=0 then([t],(0,0,0)) else if(qg ((r.drop (jm r)).drop n) (jp (jp p (r.take (jm r))) ((r.drop (jm r)).take n))).2.1≠0 then([],(qg ((r.drop (jm r)).drop n) (jp (jp p (r.take (jm r))) ((r.drop (jm r)).take n))).2) else(t :: (qg ((r.drop (jm r)).drop n) (jp (jp p (r.take (jm r))) ((r.drop (jm r)).take n))).1,(qg ((r.drop (jm r)).drop n) (jp (jp p (r.take (jm r))) ((r.drop (jm r)).take n))).2):=by
 rw[qg];split
 rename_i e' t' n' h';rw[h] at h';simp only[Prod.mk.injEq] at h';obtain⟨rfl,rfl,rfl⟩:=h';split
 ·rfl
 ·split<;>rfl
def ahead (acc:List Tk)(q:List Tk×(Nat×Nat×Nat)):List Tk×(Nat×Nat×Nat):=if q.2.1≠0 then([],q.2) else(acc ++ q.1,q.2)
def jK (l:List Nat):List Tk×(Nat×Nat×Nat):=if 65536<l.length then([],(132,1,1)) else qg l (1,1)
theorem Zj (r:List Nat)(p:Nat×Nat):ahead [] (qg r p)=qg r p:=by
 unfold ahead;generalize hx:jZ (r.drop (jm r)) (jp p (r.take (jm r)))=x;obtain⟨e,t,n⟩:=x;rw[zm r p hx];by_cases he:e≠0
 ·rw[if_pos he];simp[he]
 ·rw[if_neg he];by_cases hn:n=0
  ·rw[if_pos hn];simp
  ·rw[if_neg hn];generalize qg _ _=q;by_cases hq:q.2.1≠0
   ·rw[if_pos hq];simp[hq]
   ·rw[if_neg hq];show(if q.2.1≠0 then _ else _)=_;rw[if_neg hq];rfl
theorem jcS {acc:List Tk}{r:List Nat}{p:Nat×Nat}{e n:Nat}{t:Tk}(h:jZ (r.drop (jm r)) (jp p (r.take (jm r)))=(e,t,n))(he:e≠0):ahead acc (qg r p)=([],(e,t.line,t.col)):=by
 rw[zm r p h,if_pos he];unfold ahead;rw[if_pos he]
theorem jcT {acc:List Tk}{r:List Nat}{p:Nat×Nat}{t:Tk}(h:jZ (r.drop (jm r)) (jp p (r.take (jm r)))=(0,t,0)):ahead acc (qg r p)=(acc ++ [t],(0,0,0)):=by
 rw[zm r p h,if_neg (by decide),if_pos rfl];rfl
theorem Vn {acc:List Tk}{r:List Nat}{p:Nat×Nat}{n:Nat}{t:Tk}(h:jZ (r.drop (jm r)) (jp p (r.take (jm r)))=(0,t,n))(hn:n≠0):ahead acc (qg r p)=ahead (acc ++ [t]) (qg ((r.drop (jm r)).drop n) (jp (jp p (r.take (jm r))) ((r.drop (jm r)).take n))):=by
 rw[zm r p h,if_neg (by decide),if_neg hn];generalize qg _ _=q;unfold ahead;by_cases hq:q.2.1≠0
 ·rw[if_pos hq,if_pos hq];simp[hq]
 ·rw[if_neg hq,if_neg hq];show _=(if q.2.1≠0 then _ else _);rw[if_neg hq];simp
end Go.Sy
end
noncomputable section
set_option maxRecDepth 100000
namespace Go.Sy
open Go.Ev Go.Proofs
def jde:XC:=(I3 [IT 2] [Iq 3,oj 4 (.bin .leq (.c (Of 97)) 3),ow 5 4,I4 6 5 0,IS 7 5 (oI .leq 6 (Of 122)),Ig 8 5 7 oY,ow 9 8,IZ 10 9 0,o8 11 9 (.bin .leq (.c (Of 65)) 10),IZ 12 9 11,I4 13 12 0,IS 14 12 (oI .leq 13 (Of 90)),o8 15 9 (.pick 12 14 oY),Ig 16 9 Ii 15,oy 2 16])
def jgR:XF:=⟨[0],jde,[(.t 2)]⟩
theorem jjf:jO Qaf 42=some jgR:=by kernel_rfl
def jdb:XC:=(I3 [IT 2] [Iq 3,oj 4 (.bin .leq (.c (Of 48)) 3),ow 5 4,I4 6 5 0,IS 7 5 (oI .leq 6 (Of 57)),Ig 8 5 7 oY,oy 2 8])
def jgO:XF:=⟨[0],jdb,[(.t 2)]⟩
theorem jjc:jO Qaf 45=some jgO:=by kernel_rfl
def jdd:XC:=(I3 [IT 2] [Iq 3,IY 4 42 3,ow 5 4,IZ 6 5 0,Ol 7 (o7 5) 45 [] [6],Ig 8 5 Ii 7,ow 9 8,IZ 10 9 0,o8 11 9 (oI .eql 10 (Of 95)),Ig 12 9 Ii 11,oy 2 12])
def jgQ:XF:=⟨[0],jdd,[(.t 2)]⟩
theorem jje:jO Qaf 43=some jgQ:=by kernel_rfl
def jdc:XC:=(Oq [IT 2] (ol [oy 3 0] (.block 0 (.seq (Od [Oo 5 3 [101,110,117,109],Or 5] 4 (Od [Oo 6 3 [118,97,114],Or 6] 4 (Od [Oo 7 3 [98,111,111,108],Or 7] 4 (Od [Oo 8 3 [112,114,111,99,101,115,115],Or 8] 4 (Od [Oo 9 3 [119,104,101,110],Or 9] 4 (Od [Oo 10 3 [100,111],Or 10] 4 (Od [Oo 11 3 [116,114,117,101],Or 11] 4 (Od [Oo 12 3 [102,97,108,115,101],Or 12] 4 (Od [Oo 13 3 [88],Or 13] 4 (Od [Oo 14 3 [70],Or 14] 4 (Od [Oo 15 3 [71],Or 15] 4 (Od [Oo 16 3 [85],Or 16] 4 (Od [Oo 17 3 [82],Or 17] 4 (Od [Oo 18 3 [89],Or 18] 4 (Od [Oo 19 3 [90],Or 19] 4 (Od [Oo 20 3 [79],Or 20] 4 (Od [Oo 21 3 [72],Or 21] 4 (Od [Oo 22 3 [83],Or 22] 4 (Oa (Oo 23 3 [84]) (Or 23)))))))))))))))))))) (.cond 4 (o3 [oy 2 Ii]) .skip)))) [IT 2])
def jgP:XF:=⟨[0],jdc,[(.t 2)]⟩
theorem jjd:jO Qaf 44=some jgP:=by kernel_rfl
def jdi:XC:=(I3 [IT 2] [Iq 3,oj 4 (oI .eql 3 (Of 32)),ow 5 4,IZ 6 5 0,o8 7 5 (oI .eql 6 (Of 9)),Ig 8 5 Ii 7,ow 9 8,IZ 10 9 0,o8 11 9 (oI .eql 10 (Of 10)),Ig 12 9 Ii 11,oy 2 12])
def jgV:XF:=⟨[0],jdi,[(.t 2)]⟩
theorem jjj:jO Qaf 38=some jgV:=by kernel_rfl
def jdg:XC:=(I3 [IT 2] [Iq 3,oj 4 (oI .neq 3 (Of 10)),oy 2 4])
def jgT:XF:=⟨[0],jdg,[(.t 2)]⟩
theorem jjh:jO Qaf 40=some jgT:=by kernel_rfl
def jdj:XC:=(Oq [Ok 4] (Ob [Iq 6,ov 7 (.lenS 6),Ok 8] 0 (IW [I1 9 .lss 8 7] (Oi 9 0) 1 (ol [ow 10 8,oy 5 10] (ID [ow 11 1,Iq 12,ow 13 5,oj 14 (.ixStr 12 13),oR 15 none 11 [14],ov 16 (IU 15)] 16 [ow 17 5,Or 17])) (Oa (IQ 18 8 1) (oy 8 18)))) [Iq 19,oj 20 (.lenS 19),Or 20])
def jgW:XF:=⟨[0,1],jdj,[(.t 4)]⟩
theorem jjk:jO Qaf 37=some jgW:=by kernel_rfl
def jc7:XC:=(I3 [Oj] [Iq 5,oj 6 (.lenS 5),ow 7 1,oj 8 (.lenS 7),oj 9 (.bin .geq 6 8),ow 10 9,I4 11 10 0,I4 12 10 1,IS 13 10 (.lenS 12),IS 14 10 (.slStr 11 none (some 13)),I4 15 10 1,IS 16 10 (.strb .eql 14 15),Ig 17 10 16 oY,Or 17])
def jgK:XF:=⟨[0,1],jc7,[(.t 4)]⟩
theorem ji8:jO Qaf 58=some jgK:=by kernel_rfl
def jdh:XC:=(I3 [Oj] [Iq 5,ow 6 1,Oh 7 58 5 6,Or 7])
def jgU:XF:=⟨[0,1],jdh,[(.t 4)]⟩
theorem jji:jO Qaf 39=some jgU:=by kernel_rfl
def jc5:XC:=(I3 [IT 3] [oG 4 1,Iq 5,Oh 6 39 4 5,oy 3 6])
def jgI:XF:=⟨[0,1],jc5,[(.t 3)]⟩
theorem ji6:jO Qaf 62=some jgI:=by kernel_rfl
def jc6:XC:=(Oq [Ok 4] (Ob [Iq 6,Og 7 6,Ok 8] 0 (IW [I1 9 .lss 8 7] (Oi 9 0) 1 (ol [ow 10 8,oy 5 10] (ID [ow 11 1,Iq 12,ow 13 5,Ip 14 1 12 13,oG 15 14,oE 16 true none 11 [15]] 16 [ow 17 5,Or 17])) (Oa (IQ 18 8 1) (oy 8 18)))) [Ih 4 (om (-(0+1)))])
def jgJ:XF:=⟨[0,1],jc6,[(.t 4)]⟩
theorem ji7:jO Qaf 61=some jgJ:=by kernel_rfl
def jda:XC:=(ol [IO 1 0,Ok 2] (ol [Ir 5 [oC,oC,oC,oC,oC,oC,oC,oC,oC,oC,oC,oC,oC,oC,oC,oC,oC,oC,oC,oC,oC,oC,oC] [Iy 0 [60,45,62],Iy 1 [46,46],Iy 2 [58,61],Iy 3 [33,61],Iy 4 [60,61],Iy 5 [62,61],Iy 6 [45,62],IJ 7 123,IJ 8 125,IJ 9 40,IJ 10 41,IJ 11 58,IJ 12 44,IJ 13 59,IJ 14 61,IJ 15 60,IJ 16 62,IJ 17 43,IJ 18 45,IJ 19 42,IJ 20 33,IJ 21 38,IJ 22 124],o4 3 [oC,oC,oC,oC,oC,oC,oC,oC,oC,oC,oC,oC,oC,oC,oC,oC,oC,oC,oC,oC,oC,oC,oC],o0 23 3 5] (Oq [oj 6 (.slA 23 1 3 none none),oj 7 (.fn 62 [1]),Oh 8 61 6 7,Or 8] (ID [ow 9 4,ov 10 (oI .lss 9 oB)] 10 [Ok 2]) [ow 11 4,oj 12 (.idxA 23 1 3 11),oG 13 12,oj 14 (.lenS 13),oy 2 14])))
def jgN:XF:=⟨[0],jda,[(.t 2)]⟩
theorem jjb:jO Qaf 47=some jgN:=by kernel_rfl
def jdf:XC:=(.seq (.seq (.cops [Il (Iq 6),Il (Is 7 6),I8 8 0 7,I9 9 8,Il (Iq 10),Il (Is 11 10),I8 12 1 11,I9 13 12,Il (Iq 14),Il (Is 15 14),I8 16 1 15,I9 17 16,Il (ow 18 1),Il (oj 19 (.bin .add 17 18)),Il (oj 20 (.slStr 9 (some 13) (some 19))),Il (ov 21 (.conv 9 106 20)),Il (Og 22 21),Il (Ok 23)]) (Im 0 (IW [I1 24 .lss 23 22] (Oi 24 0) 1 (ol [Ip 25 1 21 23,oG 26 25,oy 5 26] (ol [Iq 27,Is 28 27,oD 29 3 28,oG 30 29,IQ 31 30 1,Is 32 27,oD 33 3 32,o0 1 33 31] (Ib [ow 34 5,ov 35 (oI .eql 34 (Of 10))] 35 (.ops [Iq 36,Iq 37,Iq 38,Is 39 38,oD 40 2 39,oG 41 40,IQ 42 41 1,Is 43 36,oD 44 2 43,o0 1 44 42,Is 45 37,oD 46 3 45,o0 1 46 (I2 1)])))) (Oa (IQ 47 23 1) (oy 23 47))))) (.ops [Iq 48,Is 49 48,oD 50 1 49,oG 51 50,ow 52 1,oj 53 (.bin .add 51 52),Is 54 48,oD 55 1 54,o0 1 55 53]))
def jgS:XF:=⟨[0,1],jdf,[]⟩
theorem jjg:jO Qaf 41=some jgS:=by kernel_rfl
def z74:XC:=(Im 0 (.block 1 (.seq (.cops [Il (Iq 4),Il (Is 5 4),I8 6 0 5,I9 7 6,Il (Iq 8),Il (Is 9 8),I8 10 1 9,I9 11 10,Il (oj 12 (.slStr 7 (some 11) none)),Il (oy 2 12)]) (IE [ow 13 2,Oh 14 37 13 (oL 38 []),oy 3 14] (Ib [ow 15 3,oj 16 (oI .eql 15 oB),ow 17 16,I4 18 17 2,Ol 19 (IR 17) 39 [] [18,oF [47,47]],IX 20 17 19 oY] 20 (.ops [ow 21 2,Oh 22 37 21 (oL 40 []),oy 3 22])) (Ib [ow 23 3,ov 24 (oI .eql 23 oB)] 24 .ret) (.ops [Iq 25,ow 26 3,Oh 27 41 25 26])))))
def y74:XF:=⟨[0],z74,[]⟩
theorem x74:jO Qaf 25=some y74:=by kernel_rfl
def z75:XC:=(IE [o4 2 [oB,oC,oB,oB,oB],Ok 3] (.cops [Il (Iq 9),Il (Is 10 9),I8 11 0 10,I9 12 11,Il (Iq 13),Il (Is 14 13),I8 15 1 14,I9 16 15,Il (oj 17 (.slStr 12 (some 16) none)),Il (Or 17)]) (.cops [Il (Iq 18),Il (Is 19 18),I8 20 2 19,I9 21 20,Il (Iq 22),Il (Is 23 22),I8 24 3 23,I9 25 24,Il (Ir 26 [oB,oC,oB,oB,oB] [((0,1),I2 5),((3,1),21),((4,1),25)]),Il (o4 5 [oB,oC,oB,oB,oB]),Il (o0 5 5 26)]) (o6 [Ok 6] (.block 0 (oQ [ow 34 4,Ik 35 .eql 34 (.c oC),oy 33 35] 33 (o3 [oZ 36 5 5,o0 5 2 36,Ok 3]) (oQ [ow 38 4,oj 39 (.ixStr 38 (.c oB)),IY 40 42 39,oy 37 40] 37 (o6 [ow 41 4,Oh 42 37 41 (oL 43 []),oy 6 42,oD 43 0 5,o0 1 43 (I2 1)] (ID [ow 44 6,Om 45 .gtr 44 32] 45 [oZ 46 5 5,o0 5 2 46,Ih 3 (om 132)]) (Ib [ow 47 4,ow 48 6,oj 49 (.slStr 47 none (some 48)),oE 50 true none (oL 44 []) [49]] 50 (Oa (oD 51 0 5) (o0 1 51 (I2 4))))) (oQ [ow 53 4,oj 54 (.ixStr 53 (.c oB)),IY 55 45 54,oy 52 55] 52 (ol [ow 56 4,Oh 57 37 56 (oL 45 []),oy 6 57,oD 58 0 5,o0 1 58 (I2 2)] (o6 [ow 60 4,ow 61 6,oj 62 (.slStr 60 none (some 61)),Ic 63 46 [62,I2 10,I2 64],ow 59 63,IB 64 59 0,IB 65 59 1,oy 7 64,oy 8 65] (ID [ow 66 6,Ij 67 .gtr 66 7,ow 68 67,IZ 69 68 8,o8 70 68 (.gen .neq 94 true 69 (.c .nilif)),Ig 71 68 Ii 70,ow 72 71,IZ 73 72 7,o8 74 72 (o5 .gtr 73 1000000),IX 75 72 Ii 74] 75 [oZ 76 5 5,o0 5 2 76,Ih 3 (om 132)]) (.ops [ow 77 7,oD 78 2 5,o0 1 78 77]))) (ol [ow 27 4,IY 28 47 27,oy 6 28,oD 29 0 5,o0 1 29 (I2 3)] (ID [ow 30 6,ov 31 (oI .eql 30 oB)] 31 [oZ 32 5 5,o0 5 2 32,Ih 3 (om 131)])))))) (ol [ow 79 4,ow 80 6,oj 81 (.slStr 79 none (some 80)),oD 82 1 5,o0 1 82 81] (I3 [Iq 83,ow 84 6,Oh 85 41 83 84] [oZ 86 5 5,o0 5 2 86,Ok 3]))))
def y75:XF:=⟨[0],z75,[(.cA 2 5),(.t 3)]⟩
theorem x75:jO Qaf 26=some y75:=by kernel_rfl
def z35:XC:=(o6 [Ih 2 .nils,o4 3 [oB,oB,oB]] (ID [Iq 8,oj 9 (.lenS 8),Om 10 .gtr 9 65536] 10 [Ir 11 [oB,oB,oB] [((0,1),I2 132),((1,1),I2 1),((2,1),I2 1)],Ih 2 .nils,o0 3 3 11]) (ol [Iq 12,Ir 13 [oC,oB,oB,oB] [((0,1),12),((2,1),I2 1),((3,1),I2 1)],oj 14 (.box 13),Or 14] (Ob [Ih 5 .nils] 0 (.block 1 (ol [ow 15 4,IY 16 25 15] (o6 [ow 18 4,IY 19 26 18,ow 17 19,IB 20 17 0,IB 21 17 1,o4 6 [oB,oC,oB,oB,oB],o0 5 6 20,oy 7 21] (Ib [ow 22 7,ov 23 (oI .neq 22 oB)] 23 (.seq (.cops [Il (ow 24 7),I8 25 3 6,I9 26 25,I8 27 4 6,I9 28 27,Il (Ir 29 [oB,oB,oB] [((0,1),24),((1,1),26),((2,1),28)]),Il (Ih 2 .nils),Il (o0 3 3 29)]) .ret)) (ol [ow 30 5,oZ 31 5 6,If 32 1 5 [oB,oC,oB,oB,oB] [((0,5),31)],oj 33 (.app 5 48 30 32),oy 5 33] (ID [oD 34 0 6,oG 35 34,Om 36 .eql 35 5] 36 [ow 37 5,Ir 38 [oB,oB,oB] [],oy 2 37,o0 3 3 38]))))))))
def y35:XF:=⟨[0],z35,[(.t 2),(.cA 3 3)]⟩
theorem x35:jO Qaf 12=some y35:=by kernel_rfl
end Go.Sy
end
noncomputable section
set_option maxRecDepth 100000
namespace Go.Sy
open Go.Ev Go.Proofs
variable {base:Bs}
theorem uZ (hb:NB base)(c:Nat):Tot base 42 [.int .u8 (c:Int)] (.bool (qK c)):=by
 refine hb.tot ?_ rfl rfl;refine qi jjf (by rfl) (hb.pur 42 1 (by decide)) ?_;simp only[jgR,jn,Qaj,Qam,Qah,Qai];rw[(by unfold jde;simp only[qq];rfl:jde=_)];repeat'(first|(apply jb<;>intro _)|simp(disch:=first|exact dzA|fail) only[rzZ,Qab,Qac,Qad,Qaa,Qae])
 all_goals(refine G0.v (congrArg AV.bool ?_) rfl;rw[QaW];simp only[qK,Qbi,Qaz,decide_eq_true_eq,Qba,Qcj,Qbh,decide_eq_false_iff_not,true_iff,false_iff,iff_true,iff_false,not_true_eq_false,not_false_eq_true,ne_eq,eq_self]<;>omega)
theorem Hq (hb:NB base)(c:Nat):Tot base 45 [.int .u8 (c:Int)] (.bool (jE c)):=by
 refine hb.tot ?_ rfl rfl;refine qi jjc (by rfl) (hb.pur 45 1 (by decide)) ?_;simp only[jgO,jn,Qaj,Qam,Qah,Qai];rw[(by unfold jdb;simp only[qq];rfl:jdb=_)];repeat'(first|(apply jb<;>intro _)|simp(disch:=first|exact dzA|fail) only[rzZ,Qab,Qac,Qad,Qaa,Qae])
 all_goals(refine G0.v (congrArg AV.bool ?_) rfl;rw[QaW];simp only[jE,Qbi,Qaz,decide_eq_true_eq,Qba,Qcj,Qbh,decide_eq_false_iff_not,true_iff,false_iff,iff_true,iff_false,not_true_eq_false,not_false_eq_true,ne_eq,eq_self]<;>omega)
theorem Hc (hb:NB base)(c:Nat):Tot base 43 [.int .u8 (c:Int)] (.bool (qQ c)):=by
 refine hb.tot ?_ rfl rfl;refine qi jje (by rfl) (hb.pur 43 1 (by decide)) ?_;simp only[jgQ,jn,Qaj,Qam,Qah,Qai];rw[(by unfold jdd;simp only[qq];rfl:jdd=_)];repeat'(first|(apply jb<;>intro _)|simp(disch:=first|exact dzA|fail) only[uZ hb,Hq hb,rzZ,Qab,Qac,Qad,Qaa,Qae])
 all_goals(refine G0.v (congrArg AV.bool ?_) rfl;unfold qQ;simp_all;try omega)
theorem jgn (hb:NB base)(c:Nat):Tot base 38 [.int .u8 (c:Int)] (.bool (qB c)):=by
 refine hb.tot ?_ rfl rfl;refine qi jjj (by rfl) (hb.pur 38 1 (by decide)) ?_;simp only[jgV,jn,Qaj,Qam,Qah,Qai];rw[(by unfold jdi;simp only[qq];rfl:jdi=_)];repeat'(first|(apply jb<;>intro _)|simp(disch:=first|exact dzA|fail) only[rzZ,Qab,Qac,Qad,Qaa,Qae])
 all_goals(refine G0.v (congrArg AV.bool ?_) rfl;rw[QaW];simp only[qB,Qbi,Qaz,decide_eq_true_eq,Qba,Qcj,Qbh,decide_eq_false_iff_not,true_iff,false_iff,iff_true,iff_false,not_true_eq_false,not_false_eq_true,ne_eq,eq_self]<;>omega)
theorem jd0 (hb:NB base)(c:Nat):Tot base 40 [.int .u8 (c:Int)] (.bool (zS c)):=by
 refine hb.tot ?_ rfl rfl;refine qi jjh (by rfl) (hb.pur 40 1 (by decide)) ?_;simp only[jgT,jn,Qaj,Qam,Qah,Qai];rw[(by unfold jdg;simp only[qq];rfl:jdg=_)];repeat'(first|(apply jb<;>intro _)|simp(disch:=first|exact dzA|fail) only[rzZ,Qab,Qac,Qad,Qaa,Qae])
 all_goals(refine G0.v (congrArg AV.bool ?_) rfl;rw[QaW];simp only[zS,Qbi,Qaz,decide_eq_true_eq,Qba,Qcj,Qbh,decide_eq_false_iff_not,true_iff,false_iff,iff_true,iff_false,not_true_eq_false,not_false_eq_true,ne_eq,eq_self]<;>omega)
theorem jcV (hb:NB base)(l:List Nat):Tot base 44 [.str l] (.bool (gh l)):=by
 refine hb.tot ?_ rfl rfl;refine qi jjd (by rfl) (hb.pur 44 1 (by decide)) ?_;simp only[jgP,jn,Qaj,Qam,Qah,Qai];rw[(by unfold jdc;simp only[qq];rfl:jdc=_)];repeat'(first|(apply jb<;>intro _)|simp(disch:=first|exact dzA|fail) only[rzZ,Qab,Qac,Qad,Qaa,Qae])
 all_goals(refine G0.v ?_ rfl;unfold gh jfg;simp[*])
def Pt (base:Bs)(f:FuncId)(p:Nat->Bool):Prop:=∀ c:Nat,Tot base f [.int .u8 (c:Int)] (.bool (p c))
theorem Ws (hb:NB base)(l:List Nat)(hl:l.length<=4611686018427387904){f:FuncId}{p:Nat->Bool}(hf:Pt base f p):Tot base 37 [.str l,.fn f []] (.int .i64 (jV p l)):=by
 refine hb.tot ?_ rfl rfl;refine qi jjk (by rfl) (hb.pur 37 1 (by decide)) ?_;simp only[jgW,jn,Qaj,Qam,Qah,Qai];rw[(by unfold jdj;simp only[qq];rfl:jdj=_)];repeat'(first|(apply jb<;>intro _)|simp(disch:=first|exact dzA|fail) only[rzZ,Qab,Qac,Qad,Qaa,Qae])
 refine zj l.length (λk L s=>(∀ j,j<k->p (l.getD j 0)=true)/\Has L 0 (.str l)/\Has L 1 (.fn f [])) (by first|assumption|omega) (by decide) (by simp(disch:=decide) only[ji,jc]) (by simp(disch:=decide) only[ji,jc]) ?_ (λk L s v h=>by simp(disch:=decide) only[jc];exact h) (λk L s v h=>by simp(disch:=decide) only[jc];exact h) (λk L s hk hI hi hn=>?_) (λL s hI=>?_)
 ·refine⟨λj hj=>absurd hj (Qbw _),?_⟩;simp(disch:=decide) only[Qan,Qaq,z0,z1,ji,jc,and_true,true_and]
 ·obtain⟨h0,i0,i1⟩:=hI;repeat'(first|(apply jb<;>intro _)|simp(disch:=first|exact dzA|fail) only[ja i0,ja i1,ja hi,hf (l.getD k 0),rzZ,Qab,Qac,Qad,Qaa,Qae])
  ·exact G0.v (by rw[VS (Nat.le_of_lt hk) h0 (.inr ‹_›)]) rfl
  ·refine⟨⟨λj hj=>?_,?_⟩,?_⟩
   ·rcases QaR j k with h|h
    ·exact h0 j h
    ·rw[show j=k by omega];simpa using ‹¬ p (l.getD k 0)=false›
   ·simp(disch:=decide) only[Qan,Qaq,z0,z1,ji,jc,and_true,true_and,i0,i1]
   ·simp(disch:=decide) only[Qan,Qaq,z0,z1,ji,jc,and_true,true_and,hi,hn]
 ·obtain⟨h0,i0,i1⟩:=hI;repeat'(first|(apply jb<;>intro _)|simp(disch:=first|exact dzA|fail) only[ja i0,rzZ,Qab,Qac,Qad,Qaa,Qae])
  exact G0.v (by rw[VS (Qag _) h0 (.inl rfl)]) rfl
theorem jig (hb:NB base)(l q:List Nat)(hl:l.length<=4611686018427387904):Tot base 58 [.str l,.str q] (.bool (begins q l)):=by
 refine hb.tot ?_ rfl rfl;refine qi ji8 (by rfl) (hb.pur 58 1 (by decide)) ?_;simp only[jgK,jn,Qaj,Qam,Qah,Qai];rw[(by unfold jc7;simp only[qq];rfl:jc7=_)];repeat'(first|(apply jb<;>intro _)|simp(disch:=first|exact dzA|fail) only[rzZ,Qab,Qac,Qad,Qaa,Qae])
 ·exact G0.v rfl rfl
 ·exact G0.v (by rw[Ve (by omega)]) rfl
theorem uH (hb:NB base)(l q:List Nat)(hl:l.length<=4611686018427387904):Tot base 39 [.str l,.str q] (.bool (begins q l)):=by
 refine hb.tot ?_ rfl rfl;refine qi jji (by rfl) (hb.pur 39 1 (by decide)) ?_;simp only[jgU,jn,Qaj,Qam,Qah,Qai];rw[(by unfold jdh;simp only[qq];rfl:jdh=_)];repeat'(first|(apply jb<;>intro _)|simp(disch:=first|exact dzA|fail) only[jig hb l q hl,rzZ,Qab,Qac,Qad,Qaa,Qae])
 exact G0.v rfl rfl
end Go.Sy
end
noncomputable section
set_option maxRecDepth 100000
namespace Go.Sy
open Go.Ev Go.Proofs
variable {base:Bs}
theorem Cl.bar {s:St}{b:Nat}{cs:List AV}(h:Cl s b cs):Cl s.bare b cs:=⟨h.lt,h.row,h.len,h.cell⟩
theorem jbE (hb:NB base)(r x:List Nat)(hr:r.length<=4611686018427387904){st:St}{b:Nat}(C:Cl st b [.str r])(K Kp:AV->St->Prop):XB Qaf base 62 [.str x,.ptr b 0] st K Kp=K (.bool (begins x r)) st:=by
 refine HI (λK Kp hK=>?_) K Kp;refine Qz ji6 (by rfl) (hb.at0 62 (by decide) (by decide) _ _) ?_;simp only[jgI,jn,Qaj,Qam,Qah,Qai];rw[(by unfold jc5;simp only[qq];rfl:jc5=_)];have C:=C.bar;have hbk:bk st st.bare=st:=rfl;have hbc:back st st.bare=st:=rfl;have hbb:st.bare.bare=st.bare:=rfl;generalize st.bare=s0 at *
 (have zz:=C.r;(repeat'(first|(apply jb<;>intro _)|simp(disch:=first|exact YQ|fail) only[uH hb r x hr,hbk,hbc,hbb,C.q,C.r,rzZ,Qab,Qac,Qad,Qaa,Qae]));(all_goals(clear zz)))
 exact hK
theorem jgx (hb:NB base){xs:List (List Nat)}(hn:xs.length<=1000000)(f:FuncId)(caps:List AV)(q:List Nat->Bool){st:St}{b c:Nat}{x:Bool}(C:Cl st b (xs.map .str))
  (hq:∀ y K Kp,XB Qaf base f (.str y :: caps) st.bare K Kp=K (.bool (q y)) st.bare) (K Kp:AV->St->Prop):XB Qaf base 61 [.slice b 0 xs.length c 1 x,.fn f caps] st K Kp=K (.int .i64 (fi q xs)) st:=by
 refine HI (λK Kp hK=>?_) K Kp;refine Qz ji7 (by rfl) (hb.at0 61 (by decide) (by decide) _ _) ?_;simp only[jgJ,jn,Qaj,Qam,Qah,Qai];rw[(by unfold jc6;simp only[qq];rfl:jc6=_)];have C:=C.bar;have hbk:bk st st.bare=st:=rfl;have hbc:back st st.bare=st:=rfl;have hbb:st.bare.bare=st.bare:=rfl;generalize st.bare=s0 at *;have hl:(xs.map AV.str).length=xs.length:=QaU ..;repeat'(first|(apply jb<;>intro _)|simp(disch:=first|exact dzA|fail) only[rzZ,Qab,Qac,Qad,Qaa,Qae])
 refine zj xs.length (λk L s=>s=s0/\(∀ j (h1:j<xs.length),j<k->q xs[j]=false)/\Has L 0 (.slice b 0 xs.length c 1 x)/\Has L 1 (.fn f caps)) (by first|assumption|omega) (by decide) (by simp(disch:=decide) only[ji,jc]) (by simp(disch:=decide) only[ji,jc]) ?_ (λk L s v h=>by simp(disch:=decide) only[jc];exact h) (λk L s v h=>by simp(disch:=decide) only[jc];exact h) (λk L s hk hI hi hn=>?_) (λL s hI=>?_)
 ·refine⟨rfl,λj _ hj=>absurd hj (Qbw _),?_⟩;simp(disch:=decide) only[Qan,Qaq,z0,z1,ji,jc,and_true,true_and]
 ·obtain⟨rfl,h0,i0,i1⟩:=hI;have e:(xs.map AV.str).getD k .bad=.str xs[k]:=by simp[QaI,hk]
  (have zz:=C.r;(repeat'(first|(apply jb<;>intro _)|simp(disch:=first|exact YQ|fail) only[ja i0,ja i1,ja hi,hq,hl,e,hbk,hbc,hbb,C.q,C.r,rzZ,Qab,Qac,Qad,Qaa,Qae]));(all_goals(clear zz)))
  ·rw[kV hk (λj hj=>h0 j (by omega) hj) ‹_›] at hK;exact hK
  ·refine⟨⟨λj h1 hj=>?_,?_⟩,?_⟩
   ·rcases QaR j k with h|h
    ·exact h0 j h1 h
    ·have:j=k:=by omega
     subst this;simpa using ‹¬ q xs[j]=true›
   ·simp(disch:=decide) only[Qan,Qaq,z0,z1,ji,jc,and_true,true_and,i0,i1]
   ·simp(disch:=decide) only[Qan,Qaq,z0,z1,ji,jc,and_true,true_and,hi,hn]
 ·obtain⟨rfl,h0,i0,i1⟩:=hI;repeat'(first|(apply jb<;>intro _)|simp(disch:=first|exact dzA|fail) only[hbk,hbc,hbb,rzZ,Qab,Qac,Qad,Qaa,Qae])
  rw[kU λj hj=>h0 j hj hj] at hK;exact hK
theorem UN (r:List Nat):∀ xs:List (List Nat),(fi (λx=>begins x r) xs<0/\zV r xs=0)\/∃ k,∃ h:k<xs.length,fi (λx=>begins x r) xs=k/\zV r xs=xs[k].length
 |[]=>.inl ⟨by show(-1:Int)<0;decide,rfl⟩
 |y :: xs=>by
  by_cases h:begins y r=true
  ·exact .inr ⟨0,by simp,by simp[fi,h],by simp[zV,h]⟩
  ·rcases UN r xs with ⟨h1,h2⟩|⟨k,hk,h1,h2⟩
   ·exact .inl ⟨by simp[fi,h,h1],by simp[zV,h,h2]⟩
   ·exact .inr ⟨k+1,by simpa using hk,by simp[fi,h,h1];omega,by simp[zV,h,h2]⟩
theorem jdD {k:Nat}(h:k<yb.length):(yb.map AV.str).getD k .bad=.str yb[k]:=by simp[QaI,h]
theorem jhp (hb:NB base)(r:List Nat)(hr:r.length<=4611686018427387904):Tot base 47 [.str r] (.int .i64 (Je r)):=by
 refine hb.tot ?_ rfl rfl;refine qi jjb (by rfl) (hb.pur 47 1 (by decide)) ?_;simp only[jgN,jn,Qaj,Qam,Qah,Qai];rw[(by unfold jda;simp only[qq];rfl:jda=_)];repeat'(first|(apply jb<;>intro _)|simp(disch:=first|exact dzA|fail) only[rzZ,Qab,Qac,Qad,Qaa,Qae])
 refine XB.gen λu hu=>?_;have C0:Cl u 0 [.str r]:=by rw[hu];exact((Cl.new st0 [.str r]).nw _).wrO (by decide) _ _
 have C1:Cl u 1 (yb.map .str):=by rw[hu];exact(Cl.new (nw st0 _) _).wr0 rfl
 clear hu;rw[show(23:Nat)=yb.length from rfl,jgx hb (xs:=yb) (by decide) 62 [.ptr 0 0] (λx=>begins x r) C1 λy K Kp=>jbE hb r y hr C0.bar K Kp];unfold Je;rcases UN r yb with ⟨h1,h2⟩|⟨k,hk,h1,h2⟩
 ·repeat'(first|(apply jb<;>intro _)|simp(disch:=first|exact dzA|fail) only[rzZ,Qab,Qac,Qad,Qaa,Qae])
  exact G0.v (by rw[h2];rfl) rfl
 ·have hk':k<23:=hk;have e:=jdD hk;have e2:qe u.h 1=23:=C1.len;have e3:rat u.h 1 k=.str yb[k]:=(C1.cell k (by rw[QaU];exact hk)).trans e;repeat'(first|(apply jb<;>intro _)|simp(disch:=first|exact dzA|fail) only[h1,e2,e3,rzZ,Qab,Qac,Qad,Qaa,Qae])
  refine G0.v ?_ rfl;rw[h2]<;>rfl
def cC (l:List Nat)(a:Nat)(p:Nat×Nat):List AV:=[.str l,.int .i64 (a:Int),.int .i64 (p.1:Int),.int .i64 (p.2:Int)]
theorem u9:Tryd.prog.underlying 9=some .string:=by kernel_rfl
theorem jjm:Tryd.prog.underlying 106=some (.slice 5):=by kernel_rfl
theorem u5:Tryd.prog.underlying 5=some (.int .u8):=by kernel_rfl
theorem jbC (hb:NB base){l:List Nat}{a n:Nat}{p:Nat×Nat}(hn:a+n<=l.length)(hl:l.length<=1073741824)(h1:p.1<=1073741824)(h2:p.2<=1073741824)(hc:1<=p.2) :
  Met Qaf base 41 (cC l a p) [.int .i64 (n:Int)] (.ok (.tup [])) (cC l (a+n) (jp p ((l.drop a).take n))):=by
 refine PM.met ?_ rfl λp st=>hb.no 41 (by decide) _ _;refine jR jjg (by rfl) (hb.pur 41 3 (by decide)) rfl ?_;simp only[jgS,jn,Qaj,Qam,Qah,Qai];rw[(by unfold jdf;simp only[qq];rfl:jdf=_)];have hbs:((l.drop a).take n).length=n:=by rw[QaO,QaA];omega
 have e1:((a:Int)+(n:Int) - (a:Int)).toNat=n:=by omega
 unfold cC at *;repeat'(first|(apply jb<;>intro _)|simp(disch:=first|exact dzA|fail) only[jgu u9 jjm u5,e1,hbs,rzZ,Qab,Qac,Qad,Qaa,Qae])
 generalize (l.drop a).take n=bs at *;refine zj n (λk L s=>Cl s 0 (cC l a (jp p (bs.take k)))/\Cl s 1 (bs.map λ(c:Nat)=>.int .u8 (c:Int))/\Has L 0 (.ptr 0 0)/\Has L 1 (.int .i64 (n:Int))/\Has L 21 (.slice 1 0 n n 1 false)) (by first|assumption|omega) (by decide) (by simp(disch:=decide) only[ji,jc]) (by simp(disch:=decide) only[ji,jc]) ?_ (λk L s v h=>by simp(disch:=decide) only[jc];exact h) (λk L s v h=>by simp(disch:=decide) only[jc];exact h) (λk L s hk hI hi hn=>?_) (λL s hI=>?_)
 ·refine⟨(Cl.new st0 (cC l a p)).nw _,Cl.new (nw st0 _) _,?_⟩;simp(disch:=decide) only[Qan,Qaq,z0,z1,ji,jc,and_true,true_and]
 ·obtain⟨C0,C1,i0,i1,i21⟩:=hI;have hk':k<bs.length:=by omega
  have e2:rat s.h 1 k=.int .u8 ((bs[k]:Nat):Int):=(C1.cell k (by rw[QaU];exact hk')).trans (by simp[QaI,hk']);have e3:qe s.h 1=n:=by rw[C1.len,QaU];exact hbs
  have hw:=Z2 (bs.take k) p hc;have e4:jp p (bs.take (k+1))=yv (jp p (bs.take k)) bs[k]:=by rw[jhj hk',Qq];rfl
  rw[QaO] at hw;generalize jp p (bs.take k)=q at *;rw[e4];have L0:=C0.lt;have L1:=C1.lt;unfold cC at *
  (have zz:=C0.r;(repeat'(first|(apply jb<;>intro _)|simp(disch:=first|exact YQ|fail) only[ja i0,ja i1,ja i21,ja hi,e2,e3,C0.q,C0.r,rzZ,Qab,Qac,Qad,Qaa,Qae]));(all_goals(clear zz)))
  ·refine⟨⟨?_,?_,?_⟩,?_⟩
   ·have e5:bs[k]=10:=by omega
    rw[show yv q bs[k]=(q.1+1,1) from if_pos e5]
    (apply Cl.cv;(· (repeat'(first|exact C0|apply Cl.wr|apply Cl.nw)));(· (simp only[Q3,QH,Xk,XR,XQ,Qaj]<;>first|rfl|(simp;done)|(simp;omega))))
   ·simp(disch:=first|assumption|decide|omega|(simp only[jf,jg,jr,jl,jq,qM,Qal,Qao];first|done|omega)) only[jH,jJ,jI];exact C1
   ·simp(disch:=decide) only[Qan,Qaq,z0,z1,ji,jc,and_true,true_and,i0,i1,i21]
   ·simp(disch:=decide) only[Qan,Qaq,z0,z1,ji,jc,and_true,true_and,hi,hn]
  ·refine⟨⟨?_,?_,?_⟩,?_⟩
   ·have e5:¬ bs[k]=10:=by omega
    rw[show yv q bs[k]=(q.1,q.2+1) from if_neg e5]
    (apply Cl.cv;(· (repeat'(first|exact C0|apply Cl.wr|apply Cl.nw)));(· (simp only[Q3,QH,Xk,XR,XQ,Qaj]<;>first|rfl|(simp;done)|(simp;omega))))
   ·simp(disch:=first|assumption|decide|omega|(simp only[jf,jg,jr,jl,jq,qM,Qal,Qao];first|done|omega)) only[jH,jJ,jI];exact C1
   ·simp(disch:=decide) only[Qan,Qaq,z0,z1,ji,jc,and_true,true_and,i0,i1,i21]
   ·simp(disch:=decide) only[Qan,Qaq,z0,z1,ji,jc,and_true,true_and,hi,hn]
 ·obtain⟨C0,C1,i0,i1,i21⟩:=hI;rw[<-hbs,QaY] at C0;have L0:=C0.lt;unfold cC at *
  (have zz:=C0.r;(repeat'(first|(apply jb<;>intro _)|simp(disch:=first|exact YQ|fail) only[ja i0,ja i1,C0.q,C0.r,rzZ,Qab,Qac,Qad,Qaa,Qae]));(all_goals(clear zz)))
  refine G1.done ?_ rfl rfl FzD.u;simp(disch:=first|assumption|decide|omega|(simp only[jf,jg,jr,jl,jq,qM,Qal,Qao];first|done|omega)) only[jH,jJ,jI]
  (apply Cl.cv;(· (repeat'(first|exact C0|apply Cl.wr|apply Cl.nw)));(· (simp only[Q3,QH,Xk,XR,XQ,Qaj]<;>first|rfl|(simp;done)|(simp;omega))))
end Go.Sy
end
noncomputable section
set_option maxRecDepth 100000
namespace Go.Sy
open Go.Ev Go.Proofs
variable {base:Bs}
theorem jet (hb:NB base){l:List Nat}{a:Nat}{p:Nat×Nat}(ha:a<=l.length)(hl:l.length<=1048576)(hp1:p.1+(l.length - a)<=1073741824)(hp2:1<=p.2)(hp3:p.2+(l.length - a)<=1073741824) :
  Met Qaf base 25 (cC l a p) [] (.ok (.tup [])) (cC l (a+jm (l.drop a)) (jp p ((l.drop a).take (jm (l.drop a))))):=by
 refine PM.met ?_ rfl λp st=>hb.no 25 (by decide) _ _;refine jR x74 (by rfl) (hb.pur 25 3 (by decide)) rfl ?_;simp only[y74,jn,Qaj,Qam,Qah,Qai];rw[(by unfold z74;simp only[qq];rfl:z74=_)];rw[vM];refine zI (λmm L s=>∃ d:Nat,a+d<=l.length/\mm=l.length - (a+d)/\Cl s 0 (cC l (a+d) (jp p ((l.drop a).take d)))/\jm (l.drop a)=d+jm (l.drop (a+d))/\Has L 0 (.ptr 0 0)) ?_ (l.length - a) ?_
 ·rintro mm L s ⟨d,hd,rfl,C,hg,i0⟩;have W:=Z2 ((l.drop a).take d) p hp2;have hlt:((l.drop a).take d).length=d:=by rw[QaO,QaA];omega
  rw[hlt] at W;have hrl:(l.drop (a+d)).length=l.length - (a+d):=QaA;have hgap:gap (l.drop (a+d))=if jV qB (l.drop (a+d))=0/\begins [47,47] (l.drop (a+d))=true then jV zS (l.drop (a+d)) else jV qB (l.drop (a+d)):=rfl
  have hgl:=vj (l.drop (a+d));have hwalk:jp (jp p ((l.drop a).take d)) ((l.drop (a+d)).take (gap (l.drop (a+d))))=jp p ((l.drop a).take (d+gap (l.drop (a+d)))):=by
   rw[<-Qq,List.take_add,QbA]
  have hg1:=λ(h:gap (l.drop (a+d))≠0)=>gp h;have hg0:=λ(h:gap (l.drop (a+d))=0)=>gq h;have hdrop:(l.drop (a+d)).drop (gap (l.drop (a+d)))=l.drop (a+(d+gap (l.drop (a+d)))):=by rw[QbA,QbZ]
  have S:=@jbC base hb l (a+d) (gap (l.drop (a+d))) (jp p ((l.drop a).take d)) (by omega) (by omega) (by omega) (by omega) (by omega);have S1:=λK Kp=>S C K Kp;have L0:=C.lt;rw[hwalk] at S1;have R1:=Ws hb (l.drop (a+d)) (by omega) (jgn hb);have R2:=Ws hb (l.drop (a+d)) (by omega) (jd0 hb);have R3:=uH hb (l.drop (a+d)) [47,47] (by omega);have fin:gap (l.drop (a+d))=0->G1 4 (cC l (a+jm (l.drop a)) (jp p ((l.drop a).take (jm (l.drop a))))) (.tup []) (.tup []) s.bare:=λh=>by
   rw[hg,hg0 h,QbG];exact G1.done (jI.symm▸C) rfl rfl FzD.u
  have go:gap (l.drop (a+d))≠0->∀ L,Has L 0 (.ptr 0 0)->∃ k',k'<l.length - (a+d)/\∃ d2:Nat,a+d2<=l.length/\k'=l.length - (a+d2)/\Cl (wr s 0 0 (cC l (a+d+gap (l.drop (a+d))) (jp p ((l.drop a).take (d+gap (l.drop (a+d))))))) 0 (cC l (a+d2) (jp p ((l.drop a).take d2)))/\jm (l.drop a)=d2+jm (l.drop (a+d2))/\Has L 0 (.ptr 0 0):=λh L i=>by
   refine⟨l.length - (a+(d+gap (l.drop (a+d)))),by omega,d+gap (l.drop (a+d)),by omega,rfl,?_,by rw[hg,hg1 h,hdrop,QbZ],i⟩;rw[QbZ];exact C.wr0 rfl
  generalize hJ:(λ(L:Sl) (st':St)=>∃ k',k'<l.length - (a+d)/\∃ d2:Nat,a+d2<=l.length/\k'=l.length - (a+d2)/\Cl st' 0 (cC l (a+d2) (jp p ((l.drop a).take d2)))/\jm (l.drop a)=d2+jm (l.drop (a+d2))/\Has L 0 (.ptr 0 0))=J at *;have go2:gap (l.drop (a+d))≠0->∀ L,Has L 0 (.ptr 0 0)->J L (wr s 0 0 (cC l (a+d+gap (l.drop (a+d))) (jp p ((l.drop a).take (d+gap (l.drop (a+d))))))):=λh L i=>by rw[<-hJ];exact go h L i
  clear go;unfold cC at *;by_cases h1:jV qB (l.drop (a+d))=0
  ·cases h2:begins [47,47] (l.drop (a+d)) with
   |true=>
    rw[if_pos ⟨h1,h2⟩] at hgap;rw[<-hgap] at R2;by_cases hz:gap (l.drop (a+d))=0
    ·(have zz:=C.r;(repeat'(first|(apply jb<;>intro _)|simp(disch:=first|exact YQ|fail) only[ja i0,R1,R2,R3,h1,h2,hz,C.q,C.r,rzZ,Qab,Qac,Qad,Qaa,Qae]));(all_goals(clear zz)))
     exact fin hz
    ·(have zz:=C.r;(repeat'(first|(apply jb<;>intro _)|simp(disch:=first|exact YQ|fail) only[ja i0,R1,R2,R3,S1,h1,h2,hz,C.q,C.r,rzZ,Qab,Qac,Qad,Qaa,Qae]));(all_goals(clear zz)))
     exact go2 hz _ (by simp(disch:=decide) only[Qan,Qaq,z0,z1,ji,jc,and_true,true_and,i0])
   |false=>
    have hz:gap (l.drop (a+d))=0:=by rw[hgap,if_neg (λh=>by rw[h2] at h;exact absurd h.2 (by decide))];exact h1
    (have zz:=C.r;(repeat'(first|(apply jb<;>intro _)|simp(disch:=first|exact YQ|fail) only[ja i0,R1,R2,R3,h1,h2,C.q,C.r,rzZ,Qab,Qac,Qad,Qaa,Qae]));(all_goals(clear zz)))
    exact fin hz
  ·have hz:gap (l.drop (a+d))=jV qB (l.drop (a+d)):=by rw[hgap,if_neg (λh=>h1 h.1)]
   rw[<-hz] at h1 R1
   (have zz:=C.r;(repeat'(first|(apply jb<;>intro _)|simp(disch:=first|exact YQ|fail) only[ja i0,R1,R2,R3,S1,h1,C.q,C.r,rzZ,Qab,Qac,Qad,Qaa,Qae]));(all_goals(clear zz)))
   exact go2 h1 _ (by simp(disch:=decide) only[Qan,Qaq,z0,z1,ji,jc,and_true,true_and,i0])
 ·refine⟨0,by omega,rfl,?_,by rw[QaF,QbG],?_⟩
  ·exact Cl.new st0 (cC l a p)
  ·simp(disch:=decide) only[Qan,Qaq,z0,z1,ji,jc,and_true,true_and]
end Go.Sy
end
noncomputable section
set_option maxRecDepth 100000
namespace Go.Sy
open Go.Ev Go.Proofs
variable {base:Bs}
def PI (base:Bs):Prop:=∀ (s:List Nat) (st:St),ZT s->s.length<=281474976710656->(s.length<=7->base.run 46 [.str s,.int .i64 10,.int .i64 64] st=.ok (.tup [.int .i64 (Q1 s:Int),.nilif]) st)/\(7<s.length->base.run 46 [.str s,.int .i64 10,.int .i64 64] st=.ok (.tup [.bad,.bad]) st)
theorem jhA (s:St)(K:AV->St->Prop):jd (ww Qaf .neq 94 true .nilif .nilif s) K=K (.bool false) s:=by
 have:ww Qaf .neq 94 true .nilif .nilif s=.ok (.bool false) s:=by kernel_rfl
 rw[this];rfl
theorem FzD.nx {s:St}{t:Tk}{e e':Int}{cs:List AV}(h1:cs=t.cells)(h2:e'=e):FzD 1 9 s (.tup [.agg cs,.int .i64 e']) (.tup [.agg t.cells,.int .i64 e]):=by
 subst h1 h2;exact FzD.tup (.cons (.agg (.pc rfl)) (.pc rfl))
theorem jhz (hb:NB base)(hP:PI base){l:List Nat}{a e n:Nat}{t:Tk}{p:Nat×Nat}(ha:a<=l.length)(hl:l.length<=1048576)(hp1:p.1<=1073741824)(hp2:p.2<=1073741824)(hp3:1<=p.2)(h:jZ (l.drop a) p=(e,t,n)) :
  Met Qaf base 26 (cC l a p) [] (.ok (.tup [.agg t.cells,.int .i64 (e:Int)])) (cC l (a+n) (jp p ((l.drop a).take n))):=by
 refine PM.met ?_ rfl λp st=>hb.no 26 (by decide) _ _;refine jR x75 (by rfl) (hb.pur 26 3 (by decide)) rfl ?_;simp only[y75,jn,Qaj,Qam,Qah,Qai];rw[(by unfold z75;simp only[qq];rfl:z75=_)];have hrl:(l.drop a).length=l.length - a:=QaA;have S:=λ(n:Nat) (h:a+n<=l.length)=>@jbC base hb l a n p h (by omega) hp1 hp2 hp3;have C0:Cl (nw st0 (cC l a p)) 0 (cC l a p):=Cl.new st0 _;unfold cC at *;generalize hr:l.drop a=r at *;have hL:=uZ hb;have hD:=Hq hb;have hI:=Hc hb;have hR:=Ws hb r (by omega) hI;have hR2:=Ws hb r (by omega) hD;have hK:=jcV hb;have hS:=jhp hb r (by omega);have l1:=JO qQ r;have l2:=JO jE r;have l3:=uS r;have S1:=λst q=>@S (jV qQ r) (by omega) st q;have S2:=λst q=>@S (jV jE r) (by omega) st q;have S3:=λst q=>@S (Je r) (by omega) st q;clear S;rcases r with _|⟨x,r'⟩
 ·simp only[jZ,Prod.mk.injEq] at h;repeat'(first|(apply jb<;>intro _)|simp(disch:=first|exact dzA|fail) only[hr,rzZ,Qab,Qac,Qad,Qaa,Qae])
  obtain⟨rfl,rfl,rfl⟩:=h;refine G1.done (c':=[_,_,_,_]) ?_ rfl rfl (FzD.tup (.cons (.agg (.pc rfl)) (.pc rfl)));simp(disch:=first|assumption|decide|omega|(simp only[jf,jg,jr,jl,jq,qM,Qal,Qao];first|done|omega)) only[jH,jJ,jI];exact C0
 ·have e0:x :: r'≠[]:=by simp
  have e1:(0:Int)<((x :: r').length:Int):=by simp
  have P0:jE x=true->ZT ((x :: r').take (jV jE (x :: r'))):=λh=>Gq h;have P1:jE x=true->jV jE (x :: r')<=7->∀ st K Kp,XB Qaf base 46 [.str ((x :: r').take (jV jE (x :: r'))),.int .i64 10,.int .i64 64] st K Kp=K (.tup [.int .i64 (Q1 ((x :: r').take (jV jE (x :: r'))):Int),.nilif]) st:=λh h7 st K Kp=>by
   have e:((x :: r').take (jV jE (x :: r'))).length<=7:=by rw[QaO];omega
   exact Vr ((hP _ st (P0 h) (by omega)).1 e) K Kp
  have P2:jE x=true->7<jV jE (x :: r')->∀ st K Kp,XB Qaf base 46 [.str ((x :: r').take (jV jE (x :: r'))),.int .i64 10,.int .i64 64] st K Kp=K (.tup [.bad,.bad]) st:=λh h7 st K Kp=>by
   have e:((x :: r').take (jV jE (x :: r'))).length=jV jE (x :: r'):=by rw[QaO];omega
   exact Vr ((hP _ st (P0 h) (by omega)).2 (by omega)) K Kp
  unfold jZ at h;simp only at h;generalize jV qQ (x :: r')=n1 at *;generalize jV jE (x :: r')=n2 at *;generalize Je (x :: r')=n3 at *;by_cases c1:qK x=true
  ·rw[if_pos c1] at h
   (have zz:=aI @jH (aI @jJ @C0);(repeat'(first|(apply jb<;>intro _)|simp(disch:=first|exact YQ|fail) only[hr,e0,e1,hL,hR,hK,S1,jH,jJ,c1,jH,jJ,C0,rzZ,Qab,Qac,Qad,Qaa,Qae]));(all_goals(clear zz)))
   all_goals((first|rw[if_pos (by omega)] at h|rw[if_neg (by omega)] at h);(first|rw[if_pos (by assumption)] at h|rw[if_neg (by assumption)] at h|skip);simp only[Prod.mk.injEq] at h;obtain⟨rfl,rfl,rfl⟩:=h;refine G1.done (c':=[_,_,_,_]) ?_ rfl rfl (FzD.nx rfl rfl);simp(disch:=first|assumption|decide|omega|(simp only[jf,jg,jr,jl,jq,qM,Qal,Qao];first|done|omega)) only[jH,jJ,jI];first|exact C0|(refine Cl.wr0 (c:=[.str l,.int .i64 (a:Int),.int .i64 (p.1:Int),.int .i64 (p.2:Int)]) ?_ rfl;simp(disch:=first|assumption|decide|omega|(simp only[jf,jg,jr,jl,jq,qM,Qal,Qao];first|done|omega)) only[jH,jJ,jI];exact C0))
  ·rw[if_neg c1] at h;by_cases c2:jE x=true
   ·rw[if_pos c2] at h;by_cases h7:7<n2
    ·repeat'(first|(apply jb<;>intro _)|simp(disch:=first|exact dzA|fail) only[hr,e0,e1,hL,hD,hR2,P2,c1,c2,rzZ,Qab,Qac,Qad,Qaa,Qae])
     all_goals((first|rw[if_pos (by omega)] at h|rw[if_neg (by omega)] at h);(first|rw[if_pos (by assumption)] at h|rw[if_neg (by assumption)] at h|skip);simp only[Prod.mk.injEq] at h;obtain⟨rfl,rfl,rfl⟩:=h;refine G1.done (c':=[_,_,_,_]) ?_ rfl rfl (FzD.nx rfl rfl);simp(disch:=first|assumption|decide|omega|(simp only[jf,jg,jr,jl,jq,qM,Qal,Qao];first|done|omega)) only[jH,jJ,jI];first|exact C0|(refine Cl.wr0 (c:=[.str l,.int .i64 (a:Int),.int .i64 (p.1:Int),.int .i64 (p.2:Int)]) ?_ rfl;simp(disch:=first|assumption|decide|omega|(simp only[jf,jg,jr,jl,jq,qM,Qal,Qao];first|done|omega)) only[jH,jJ,jI];exact C0))
    ·(have zz:=aI @jH (aI @jJ @C0);(repeat'(first|(apply jb<;>intro _)|simp(disch:=first|exact YQ|fail) only[hr,e0,e1,hL,hD,hR2,P1,S2,c1,c2,jhA,jH,jJ,C0,rzZ,Qab,Qac,Qad,Qaa,Qae]));(all_goals(clear zz)))
     all_goals((first|rw[if_pos (by omega)] at h|rw[if_neg (by omega)] at h);(first|rw[if_pos (by assumption)] at h|rw[if_neg (by assumption)] at h|skip);simp only[Prod.mk.injEq] at h;obtain⟨rfl,rfl,rfl⟩:=h;refine G1.done (c':=[_,_,_,_]) ?_ rfl rfl (FzD.nx rfl rfl);simp(disch:=first|assumption|decide|omega|(simp only[jf,jg,jr,jl,jq,qM,Qal,Qao];first|done|omega)) only[jH,jJ,jI];first|exact C0|(refine Cl.wr0 (c:=[.str l,.int .i64 (a:Int),.int .i64 (p.1:Int),.int .i64 (p.2:Int)]) ?_ rfl;simp(disch:=first|assumption|decide|omega|(simp only[jf,jg,jr,jl,jq,qM,Qal,Qao];first|done|omega)) only[jH,jJ,jI];exact C0))
   ·rw[if_neg c2] at h
    (have zz:=aI @jH (aI @jJ @C0);(repeat'(first|(apply jb<;>intro _)|simp(disch:=first|exact YQ|fail) only[hr,e0,e1,hL,hD,hS,S3,c1,c2,jH,jJ,C0,rzZ,Qab,Qac,Qad,Qaa,Qae]));(all_goals(clear zz)))
    all_goals((first|rw[if_pos (by omega)] at h|rw[if_neg (by omega)] at h);(first|rw[if_pos (by assumption)] at h|rw[if_neg (by assumption)] at h|skip);simp only[Prod.mk.injEq] at h;obtain⟨rfl,rfl,rfl⟩:=h;refine G1.done (c':=[_,_,_,_]) ?_ rfl rfl (FzD.nx rfl rfl);simp(disch:=first|assumption|decide|omega|(simp only[jf,jg,jr,jl,jq,qM,Qal,Qao];first|done|omega)) only[jH,jJ,jI];first|exact C0|(refine Cl.wr0 (c:=[.str l,.int .i64 (a:Int),.int .i64 (p.1:Int),.int .i64 (p.2:Int)]) ?_ rfl;simp(disch:=first|assumption|decide|omega|(simp only[jf,jg,jr,jl,jq,qM,Qal,Qao];first|done|omega)) only[jH,jJ,jI];exact C0))
end Go.Sy
end
noncomputable section
set_option maxRecDepth 100000
namespace Go.Sy
open Go.Ev Go.Proofs
variable {base:Bs}
theorem Tk.cells_l (t:Tk):t.cells.length=5:=nr rfl
theorem Tk.cells_g (t:Tk)(k:Nat):t.cells.getD k .bad=([.int .i64 (t.kind:Int),.str t.text,.int .i64 (t.num:Int),.int .i64 (t.line:Int),.int .i64 (t.col:Int)]:List AV).getD k .bad:=nr rfl
theorem Tk.cells_d (t:Tk)(k:Nat):t.cells.drop k=([.int .i64 (t.kind:Int),.str t.text,.int .i64 (t.num:Int),.int .i64 (t.line:Int),.int .i64 (t.col:Int)]:List AV).drop k:=nr rfl
theorem Tk.cells_p (t:Tk):t.cells.all pc=true:=rfl
theorem Tk.cells_c (t:Tk):lall AV.cell t.cells=true:=nr rfl
theorem Tk.cells_f {st:St}{K:AV->St->Prop}{xs:List Tk}{i:Nat}(h:i<xs.length):jd (zT 5 (.lptr (fl Tk.cells xs) (i * 5)) st) K=K (.agg (Tk.cells xs[i])) st:=YV Tk.cells_l h
theorem Tk.cells_f1 {st:St}{K:AV->St->Prop}{xs:List Tk}{i:Nat}(h:i<xs.length){k:Nat}(hk:k<5):jd (yV (.lptr (fl Tk.cells xs) (i * 5+k)) st) K=K ((Tk.cells xs[i]).getD k .bad) st:=za Tk.cells_l h hk
theorem Tk.cells_f0 {st:St}{K:AV->St->Prop}{xs:List Tk}{i:Nat}(h:i<xs.length):jd (yV (.lptr (fl Tk.cells xs) (i * 5)) st) K=K ((Tk.cells xs[i]).getD 0 .bad) st:=za (k:=0) Tk.cells_l h (by decide)
theorem Tk.cells_R:type_of% (aI @Tk.cells_l (aI @Tk.cells_g (aI @Tk.cells_d (aI @Tk.cells_c (aI @Tk.cells_f (aI @Tk.cells_f0 @Tk.cells_f1)))))):=aI @Tk.cells_l (aI @Tk.cells_g (aI @Tk.cells_d (aI @Tk.cells_c (aI @Tk.cells_f (aI @Tk.cells_f0 @Tk.cells_f1)))))
theorem Tk.cells_E:type_of% (aI @Tk.cells_l (aI @Tk.cells_c @Tk.cells_g)):=aI @Tk.cells_l (aI @Tk.cells_c @Tk.cells_g)
theorem dzC {p:Prop}(h:p:=by first|assumption|decide|omega|(simp only[Tk.cells_E,rzN,Qal,Qao];first|done|omega)|(apply Ju<;>first|omega|((simp(disch:=first|assumption|omega|(simp only[Tk.cells_E,rzN,Qal,Qao];first|done|omega)) only[rzL,Qal,Qao,QaF,Qab,Tk.cells_E ])<;>first|done|omega))|(simp(disch:=first|assumption|omega|(simp only[Tk.cells_E,rzN,Qal,Qao];first|done|omega)) only[Tk.cells_E,rzG,Qah,Qai,Qac,Qbf,Qal,Qao,QaT,QaV];first|done|omega|decide)):p:=h
theorem jen {p:Prop}(h:p:=by first|assumption|decide|omega|(simp only[Tk.cells_E,zz,rzN,Qal,Qao];first|done|omega)|(apply Ju<;>first|omega|((simp(disch:=first|assumption|omega|(simp only[Tk.cells_E,zz,rzN,Qal,Qao];first|done|omega)) only[rzL,Qal,Qao,QaF,Qab,Tk.cells_E,zz ])<;>first|done|omega))|(simp(disch:=first|assumption|omega|(simp only[Tk.cells_E,zz,rzN,Qal,Qao];first|done|omega)) only[Tk.cells_E,zz,rzG,Qah,Qai,Qac,Qbf,Qal,Qao,QaT,QaV];first|done|omega|decide)):p:=h
def QQ (q:Nat×Nat×Nat):List AV:=[.int .i64 (q.1:Int),.int .i64 (q.2.1:Int),.int .i64 (q.2.2:Int)]
theorem jd1 {r:List Nat}{p:Nat×Nat}{e n:Nat}{t:Tk}(h:jZ r p=(e,t,n)):t.line=p.1/\t.col=p.2:=by
 cases r with
 |nil=>simp[jZ] at h;rw[<-h.2.1];exact⟨rfl,rfl⟩
 |cons x r'=>
  unfold jZ at h;simp only at h;split at h
  ·split at h<;>(simp only[Prod.mk.injEq] at h;rw[<-h.2.1];exact⟨rfl,rfl⟩)
  ·split at h
   ·split at h<;>(simp only[Prod.mk.injEq] at h;rw[<-h.2.1];exact⟨rfl,rfl⟩)
   ·split at h<;>(simp only[Prod.mk.injEq] at h;rw[<-h.2.1];exact⟨rfl,rfl⟩)
theorem jiW (hb:NB base)(hP:PI base)(l:List Nat)(hl:l.length<=9223372036854775807):Tot base 12 [.str l] (.tup [.lst (jK l).1.length (fl Tk.cells (jK l).1),.agg (QQ (jK l).2)]):=by
 refine hb.tot ?_ rfl rfl;refine qi x35 (by rfl) (hb.pur 12 1 (by decide)) ?_;simp only[y35,jn,Qaj,Qam,Qah,Qai];rw[(by unfold z35;simp only[qq];rfl:z35=_)];repeat'(first|(apply jb<;>intro _)|simp(disch:=first|exact dzC|fail) only[Tk.cells_R,rzZ,Qab,Qac,Qad,Qaa,Qae])
 ·rw[show jK l=([],(132,1,1)) from if_pos (by omega)];exact FzD.tup (.cons .nils (.cons (.agg (.pc (by rfl))) .nil))
 ·have hl:l.length<=65536:=by omega
  rw[show jK l=qg l (1,1) from if_neg (by omega)];refine zI (λmm L s=>∃ (a:Nat) (p:Nat×Nat) (acc:List Tk) (v:AV),a<=l.length/\mm=l.length - a/\p.1+(l.length - a)<=l.length+1/\p.2+(l.length - a)<=l.length+1/\1<=p.2/\acc.length<=a/\ahead acc (qg (l.drop a) p)=qg l (1,1)/\2<=s.nx/\Cl s 0 [.int .i64 0,.int .i64 0,.int .i64 0]/\Cl s 1 (cC l a p)/\Lv 2 s.nx s v acc.length (fl Tk.cells acc) 5/\Has L 3 (.ptr 0 0)/\Has L 4 (.ptr 1 0)/\Has L 5 v) ?_ l.length ?_
  ·rintro mm L s ⟨a,p,acc,v,ha,rfl,h1,h2,h3,h4,h5,h6,C0,C1,V,i3,i4,i5⟩;obtain⟨m,hm⟩:∃ m,m=s.nx:=⟨_,rfl⟩;rw[<-hm] at V;have hm':m<=s.nx:=Qbx hm;have hgl:=Qy (l.drop a);rw[QaA] at hgl;have W:=Z2 ((l.drop a).take (jm (l.drop a))) p h3;have hlt:((l.drop a).take (jm (l.drop a))).length=jm (l.drop a):=by rw[QaO,QaA];omega
   rw[hlt] at W;have B:=λst q=>@jet base hb l a p ha (by omega) (by omega) h3 (by omega) st q;rcases hx:jZ ((l.drop a).drop (jm (l.drop a))) (jp p ((l.drop a).take (jm (l.drop a)))) with ⟨e,t,n⟩
   have hN:=hx;rw[QbA] at hN;have hnl:=YH hN;rw[QaA] at hnl;have N:=λst q=>@jhz base hb hP l (a+jm (l.drop a)) e n t (jp p ((l.drop a).take (jm (l.drop a)))) (by omega) (by omega) (by omega) (by omega) W.2.2 hN st q;have B1:=λK Kp=>B s 1 C1 K Kp;have N1:=λK Kp=>N (wr s 1 0 (cC l (a+jm (l.drop a)) (jp p ((l.drop a).take (jm (l.drop a)))))) 1 (C1.wr0 rfl) K Kp;clear B N;have hT:t.line=(jp p ((l.drop a).take (jm (l.drop a)))).1/\t.col=(jp p ((l.drop a).take (jm (l.drop a)))).2:=jd1 hN;generalize hq:jp p ((l.drop a).take (jm (l.drop a)))=q at *;generalize hg:jm (l.drop a)=g at *;have aE:=λ(he:e≠0)=>jcS (acc:=acc) (by rw[hg,hq];exact hx) he;have W2:=Z2 ((l.drop (a+g)).take n) q W.2.2;have hlt2:((l.drop (a+g)).take n).length=n:=by rw[QaO,QaA];omega
   rw[hlt2] at W2;have A:=λst bv xc xx K h hv=>@wG 2 m acc.length 5 st v (fl Tk.cells acc) K 48 bv xc xx h (by decide) (by omega) (by omega) hv;have V2:∀ st m',Lv 2 m st v acc.length (fl Tk.cells acc) 5->2<=st.nx->m'=st.nx+1->Lv 2 m' (aps v st t.cells) (apv 5 v st) (acc ++ [t]).length (fl Tk.cells (acc ++ [t])) 5:=λst m' h h2 h3=>by
    rw[Qat,YO,Xz];exact h.put (Tk.cells_l t) h2 h3
   unfold cC at *;by_cases he:e=0
   ·subst he;have hk:=XZ hN;by_cases hn:n=0
    ·subst hn;have k5:t.kind=5:=hk.1.2 rfl
     (have zz:=aI V.ln (aI @jP (aI @jQ (aI @V (aI C0.r C1.r))));(repeat'(first|(apply jb<;>intro _)|simp(disch:=first|exact jen|fail) only[ja i3,ja i4,ja i5,B1,N1,A,V.at,C0.q,C1.q,V.ln,jP,jQ,V,C0.r,C1.r,Tk.cells_R,rzZ,Qab,Qac,Qad,Qaa,Qae]));(all_goals(clear zz)))
     rw[<-h5,jcT (by rw[hg,hq];exact hx)];refine FzD.tup (.cons ((?_:Lv 2 (s.nx+3) _ _ _ _ 5).fz (QaM _) (Qh Tk.cells_p _)) (.cons (.agg (.pc (by rfl))) .nil));simp(disch:=first|decide|omega) only[j4,jP];refine V2 _ _ ?_ (by simp only[jf,jg];omega) (by simp only[jf,jg]);simp(disch:=first|decide|omega|(simp only[jf,jg];omega)) only[j4,jP,jQ];exact V
    ·have k5:¬ (t.kind:Int)=5:=λh=>hn (hk.1.1 (by omega))
     (have zz:=aI V.ln (aI @jP (aI @jQ (aI @V (aI C0.r C1.r))));(repeat'(first|(apply jb<;>intro _)|simp(disch:=first|exact jen|fail) only[ja i3,ja i4,ja i5,B1,N1,A,V.at,C0.q,C1.q,V.ln,jP,jQ,V,C0.r,C1.r,Tk.cells_R,rzZ,Qab,Qac,Qad,Qaa,Qae]));(all_goals(clear zz)))
     have hA:=Vn (acc:=acc) (show jZ ((l.drop a).drop (jm (l.drop a))) (jp p ((l.drop a).take (jm (l.drop a))))=(0,t,n) by rw[hg,hq];exact hx) hn;rw[hg,hq] at hA;simp only[QbA,<-QbZ] at hA;refine⟨l.length - (a+g+n),by omega,a+g+n,jp q ((l.drop (a+g)).take n),acc ++ [t],?_,by omega,rfl,by omega,by omega,W2.2.2,by rw[Qat,List.length_singleton];omega,by rw[<-h5,hA],by omega,?_,?_,?_,?_,?_,?_⟩;rotate_left
     ·simp(disch:=first|decide|omega|(simp only[jf,jg];omega)) only[V.cl,jH,jJ];exact C0
     ·simp(disch:=first|decide|omega|(simp only[jf,jg];omega)) only[V.cl,jH,jJ];exact(C1.wr0 (by rfl)).wr0 (by rfl)
     ·refine V2 _ _ ?_ ?_ ?_;all_goals first|(simp only[jf,jg];done)|(simp only[jf,jg];omega)|(simp(disch:=first|decide|omega|(simp only[jf,jg];omega)) only[j4,jP,jQ];exact V)
     ·simp(disch:=decide) only[Qan,Qaq,z0,z1,ji,jc,and_true,true_and,i3]
     ·simp(disch:=decide) only[Qan,Qaq,z0,z1,ji,jc,and_true,true_and,i4]
     ·simp(disch:=decide) only[Qan,Qaq,z0,z1,ji,jc,and_true,true_and]
   ·(have zz:=aI V.ln (aI @jP (aI @jQ (aI @V (aI C0.r C1.r))));(repeat'(first|(apply jb<;>intro _)|simp(disch:=first|exact jen|fail) only[ja i3,ja i4,ja i5,B1,N1,A,V.at,C0.q,C1.q,V.ln,jP,jQ,V,C0.r,C1.r,Tk.cells_R,rzZ,Qab,Qac,Qad,Qaa,Qae]));(all_goals(clear zz)))
    rw[<-h5,aE he];exact FzD.tup (.cons .nils (.cons (.agg (.pc (by rfl))) .nil))
  ·refine⟨0,(1,1),[],.nils,by omega,rfl,by omega,by omega,Qag _,QaM _,Zj _ _,Qag _,?_,?_,Lv.nil,?_⟩
   ·simp(disch:=first|assumption|decide|omega|(simp only[jf,jg,jr,jl,jq,qM,Qal,Qao];first|done|omega)) only[jH,jJ,jI];exact Cl.new st0 _
   ·exact Cl.new (nw st0 _) _
   ·simp(disch:=decide) only[Qan,Qaq,z0,z1,ji,jc,and_true,true_and]
end Go.Sy
end
noncomputable section
set_option maxRecDepth 100000
namespace Go.Sy
open Go.Ev Go.Proofs
def jc9:XC:=(I3 [IO 2 0,Oj] [oD 5 0 2,oG 6 5,Ij 7 .eql 6 3,ow 8 7,Iv 9 8 0 2,Iz 10 8 9,o8 11 8 (o5 .eql 10 4),Ig 12 8 Ii 11,ow 13 12,I4 14 13 1,IS 15 13 (.fad 1 2),IS 16 13 (.ld1 15),Ol 17 (IR 13) 73 [] [14,16],Ig 18 13 17 oY,Or 18])
def jgM:XF:=⟨[0,1],jc9,[(.t 4)]⟩
theorem jja:jO Qaf 53=some jgM:=by kernel_rfl
def jc8:XC:=(Oq [IO 3 0,IO 4 1,IO 5 2,o4 6 [oB,oB,oC,.nils,oB,oB]] (Ob [Ih 7 (om 14)] 0 (.seq (Od [ow 8 7,Om 9 .lss 8 31] 9 (.exit 0)) (.seq (.block 1 (I5 [IG (ow 12 7),(Os 13 65 12 0 [],some [I0 13 IK 0,o9 (oD 14 1 3) 0,Ia (oG 15 14) 14 9 [(1,0)],o9 (Ih 16 Iu) 0]),IH 14 1 3,IV 15 14 14 9 [(1,0)],IG (ov 16 (.strb .eql 13 15))] (.cond 16 (o3 [ow 17 7,oZ 18 6 4,oZ 19 6 5,If 20 2 6 [oB,oB,oC,.nils,oB,oB] [((0,6),18),((6,6),19)],oD 21 3 3,oG 22 21,oD 23 4 3,oG 24 23,Ir 25 [oB,oB,oC,.nils,oB,oB] [((0,1),17),((3,1),20),((4,1),22),((5,1),24)],o0 6 6 25]) .skip))) (.ops [ow 10 7,IQ 11 10 1,oy 7 11])))) [Ir 26 [oB,oB,oC,.nils,oB,oB] [],o0 6 6 26])
def jgL:XF:=⟨[0,1,2],jc8,[(.cA 6 6)]⟩
theorem ji9:jO Qaf 49=some jgL:=by kernel_rfl
def z94:XC:=(I3 [Ih 0 .nils] [If 1 1 1 [oC] [Iy 0 [60,45,62]],Ir 2 [.nils,oB] [((0,1),1),((1,1),.c oB)],If 3 1 1 [oC] [Iy 0 [45,62]],Ir 4 [.nils,oB] [((0,1),3),((1,1),I2 1)],If 5 1 1 [oC] [IJ 0 124],Ir 6 [.nils,oB] [((0,1),5),((1,1),.c oB)],If 7 1 1 [oC] [IJ 0 38],Ir 8 [.nils,oB] [((0,1),7),((1,1),.c oB)],If 9 4 1 [oC] [IJ 0 85,IJ 1 82,IJ 2 83,IJ 3 84],Ir 10 [.nils,oB] [((0,1),9),((1,1),I2 1)],If 11 6 1 [oC] [IJ 0 61,Iy 1 [33,61],IJ 2 60,Iy 3 [60,61],IJ 4 62,Iy 5 [62,61]],Ir 12 [.nils,oB] [((0,1),11),((1,1),I2 2)],If 13 2 1 [oC] [IJ 0 43,IJ 1 45],Ir 14 [.nils,oB] [((0,1),13),((1,1),.c oB)],If 15 1 1 [oC] [IJ 0 42],Ir 16 [.nils,oB] [((0,1),15),((1,1),.c oB)],If 17 8 2 [.nils,oB] [((0,2),2),((2,2),4),((4,2),6),((6,2),8),((8,2),10),((10,2),12),((12,2),14),((14,2),16)],oy 0 17])
def y94:XF:=⟨[],z94,[(.t 0)]⟩
theorem x94:jO Qaf 28=some y94:=by kernel_rfl
def z77:XC:=(ol [IO 3 1] (Ib [Iq 4,Om 5 .geq 4 32] 5 (Oa (oZ 6 5 3) (IY 7 16 6))))
def y77:XF:=⟨[0,1],z77,[]⟩
theorem x77:jO Qaf 33=some y77:=by kernel_rfl
def z50:XC:=(ol [IO 1 0] (.ops [oD 2 3 1,oG 3 2,oD 4 4 1,oG 5 4,Ir 6 [oB,oB,oB] [((0,1),I2 151),((1,1),3),((2,1),5)],oj 7 (.iface 28 6),oX (.pan 7)]))
def y50:XF:=⟨[0],z50,[]⟩
theorem x50:jO Qaf 16=some y50:=by kernel_rfl
def z49:XC:=(o6 [o4 2 [oB,oC,oB,oB,oB]] (.cops [Il (Iq 3),Il (Is 4 3),I8 5 0 4,I9 6 5,Il (Iq 7),Il (Is 8 7),I8 9 1 8,I9 10 9,Il (Ip 11 5 6 10),Il (oZ 12 5 11),Il (o0 5 2 12)]) .ret)
def y49:XF:=⟨[0],z49,[(.cA 2 5)]⟩
theorem x49:jO Qaf 15=some y49:=by kernel_rfl
def z76:XC:=(ol [o4 4 [oB,oC,oB,oB,oB],IT 5] (o6 [Iq 7,IY 8 15 7,o4 6 [oB,oC,oB,oB,oB],o0 5 6 8] (ID [oZ 9 5 6,ow 10 1,Oh 11 53 9 10,ov 12 (IU 11)] 12 [oZ 13 5 6,o0 5 4 13,IT 5]) (I3 [Iq 14,Is 15 14,oD 16 1 15,oG 17 16,IQ 18 17 1,Is 19 14,oD 20 1 19,o0 1 20 18] [oZ 21 5 6,o0 5 4 21,oy 5 Ii])))
def y76:XF:=⟨[0,1],z76,[(.cA 4 5),(.t 5)]⟩
theorem x76:jO Qaf 32=some y76:=by kernel_rfl
def Vp:XC:=(ol [Iq 7,ow 8 1,If 9 1 1 [oC] [((0,1),8)],Oh 10 32 7 9,ow 6 10,IB 11 6 0,IB 12 6 1,o4 4 [oB,oC,oB,oB,oB],o0 5 4 11,oy 5 12] (Ib [ow 13 5,ov 14 (IU 13)] 14 (Oa (oZ 15 5 4) (IY 16 16 15))))
def jdn:XF:=⟨[0,1],Vp,[]⟩
theorem jg0:jO Qaf 55=some jdn:=by kernel_rfl
def Ki:XC:=(ol [o4 2 [oB,oC,oB,oB,oB]] (o6 [Iq 4,IY 5 15 4,o4 3 [oB,oC,oB,oB,oB],o0 5 3 5] (Ib [oD 6 0 3,oG 7 6,Om 8 .neq 7 1] 8 (Oa (oZ 9 5 3) (IY 10 16 9))) (I3 [Iq 11,Is 12 11,oD 13 1 12,oG 14 13,IQ 15 14 1,Is 16 11,oD 17 1 16,o0 1 17 15] [oZ 18 5 3,o0 5 2 18])))
def jdo:XF:=⟨[0],Ki,[(.cA 2 5)]⟩
theorem jg1:jO Qaf 54=some jdo:=by kernel_rfl
def ZX:XC:=(ol [Ok 2] (ol [Iq 7,If 8 1 1 [oC] [IJ 0 45],Oh 9 32 7 8,ow 6 9,IB 10 6 0,IB 11 6 1,oj 3 (.alloc [oB,oC,oB,oB,oB]),o0 5 3 10,Or 11] (o6 [Iq 12,IY 13 15 12,o4 5 [oB,oC,oB,oB,oB],o0 5 5 13] (Ib [oD 14 0 5,oG 15 14,Om 16 .neq 15 2] 16 (Oa (oZ 17 5 5) (IY 18 16 17))) (Oq [Iq 19,Is 20 19,oD 21 1 20,oG 22 21,IQ 23 22 1,Is 24 19,oD 25 1 24,o0 1 25 23] (ID [oy 26 4] 26 [oD 27 2 5,oG 28 27,oj 29 (.un .neg 28),oy 2 29]) [oD 30 2 5,oG 31 30,oy 2 31]))))
def Kj:XF:=⟨[0],ZX,[(.t 2)]⟩
theorem HM:jO Qaf 56=some Kj:=by kernel_rfl
def Kg:XC:=(ol [Iq 2,Is 3 2,oD 4 2 3,oG 5 4,IQ 6 5 1,Is 7 2,oD 8 2 7,o0 1 8 6] (Ib [Iq 9,Is 10 9,oD 11 2 10,oG 12 11,Om 13 .gtr 12 60] 13 (.ops [Iq 14,IY 15 15 14,IY 16 16 15])))
def jdl:XF:=⟨[0],Kg,[]⟩
theorem jgY:jO Qaf 64=some jdl:=by kernel_rfl
def Jb:XC:=(ol [o4 2 [oB,oB,oC,.nils,oB,oB]] (ol [Iq 5,IY 6 15 5,o4 3 [oB,oC,oB,oB,oB],o0 5 3 6] (o6 [oD 7 3 3,oG 8 7,oD 9 4 3,oG 10 9,Ir 11 [oB,oB,oC,.nils,oB,oB] [((4,1),8),((5,1),10)],o4 4 [oB,oB,oC,.nils,oB,oB],o0 6 4 11] (.block 0 (oQ [oD 15 0 3,oG 16 15,Ij 17 .eql 16 2,oy 14 17] 14 (.dops [IH 18 2 3,IV 19 18 18 2 [],IH 20 0 4,On 1 20 (I2 1) 0 [(1,2)],IH 21 1 4,On 1 21 19 0 []]) (oQ [oD 23 0 3,oG 24 23,Ij 25 .eql 24 1,oy 22 25] 22 (.dops [IH 26 1 3,IV 27 26 26 9 [],IH 28 0 4,On 1 28 (I2 3) 0 [(1,9)],IH 29 2 4,On 1 29 27 0 []]) (oQ [oZ 31 5 3,If 32 1 1 [oC] [Iy 0 [116,114,117,101]],Oh 33 53 31 32,oy 30 33] 30 (.ops [oD 34 0 4,o0 1 34 (I2 2),oD 35 1 4,o0 1 35 (I2 1)]) (oQ [oZ 37 5 3,If 38 1 1 [oC] [Iy 0 [102,97,108,115,101]],Oh 39 53 37 38,oy 36 39] 36 (Oa (oD 40 0 4) (o0 1 40 (I2 2))) (oQ [oZ 42 5 3,If 43 1 1 [oC] [IJ 0 40],Oh 44 53 42 43,oy 41 44] 41 (ol [Iq 45,Is 46 45,oD 47 1 46,oG 48 47,IQ 49 48 1,Is 50 45,oD 51 1 50,o0 1 51 49] (ol [Iq 52,IY 53 64 52] (ol [Iq 54,Ic 55 28 [],Oh 56 27 54 55,o0 6 4 56] (ol [Iq 57,Is 58 57,oD 59 2 58,oG 60 59,Ij 61 .sub 60 1,Is 62 57,oD 63 2 62,o0 1 63 61] (I3 [Iq 64,Oh 65 55 64 (oF [41])] [oZ 66 6 4,o0 6 2 66]))))) (Oa (oZ 12 5 3) (IY 13 16 12)))))))) (I3 [Iq 67,Is 68 67,oD 69 1 68,oG 70 69,IQ 71 70 1,Is 72 67,oD 73 1 72,o0 1 73 71] [oZ 74 6 4,o0 6 2 74]))))
def Zl:XF:=⟨[0],Jb,[(.cA 2 6)]⟩
theorem ZY:jO Qaf 63=some Zl:=by kernel_rfl
def Yu:XC:=(ol [o4 2 [oB,oB,oC,.nils,oB,oB]] (o6 [Iq 8,If 9 9 1 [oC] [IJ 0 45,IJ 1 33,IJ 2 88,IJ 3 70,IJ 4 71,IJ 5 89,IJ 6 90,IJ 7 79,IJ 8 72],Oh 10 32 8 9,ow 7 10,IB 11 7 0,IB 12 7 1,o4 3 [oB,oC,oB,oB,oB],o0 5 3 11,Or 12] (ID [ow 13 4,ov 14 (IU 13)] 14 [Iq 15,IY 16 63 15,o0 6 2 16]) (ol [Iq 17,IY 18 64 17] (ol [Iq 19,IY 20 48 19,o4 5 [oB,oB,oC,.nils,oB,oB],o0 6 5 20] (ol [Iq 21,Is 22 21,oD 23 2 22,oG 24 23,Ij 25 .sub 24 1,Is 26 21,oD 27 2 26,o0 1 27 25] (Oq [Ih 6 (om 5)] (Im 0 (.seq (I5 [IG (ow 28 6),(Os 29 65 28 0 [],some [I0 29 IK 0,o9 (oD 30 1 3) 0,Ia (oG 31 30) 30 9 [(1,0)],o9 (Ih 32 Iu) 0]),IH 30 1 3,IV 31 30 30 9 [(1,0)],IG (ov 32 (.strb .neq 29 31))] (Oi 32 0)) (.block 1 (.ops [ow 33 6,IQ 34 33 1,oy 6 34])))) [ow 35 6,oZ 36 6 5,If 37 1 6 [oB,oB,oC,.nils,oB,oB] [((0,6),36)],oD 38 3 3,oG 39 38,oD 40 4 3,oG 41 40,Ir 42 [oB,oB,oC,.nils,oB,oB] [((0,1),35),((3,1),37),((4,1),39),((5,1),41)],o0 6 2 42]))))))
def Vq:XF:=⟨[0],Yu,[(.cA 2 6)]⟩
theorem Kx:jO Qaf 48=some Vq:=by kernel_rfl
def z93:XC:=(o6 [o4 4 [oB,oB,oC,.nils,oB,oB]] (ID [ow 8 1,I7 9 8,ov 10 (oI .eql 9 oB)] 10 [Iq 11,IY 12 48 11,o0 6 4 12]) (Ob [Iq 13,ow 14 1,oj 15 (.slS 2 14 (some (I2 1)) none),Oh 16 27 13 15,o4 5 [oB,oB,oC,.nils,oB,oB],o0 6 5 16] 0 (.block 1 (IE [Iq 18,ow 19 1,Ip 20 2 19 (.c oB),oD 21 0 20,oG 22 21,Oh 23 32 18 22,ow 17 23,IB 24 17 0,IB 25 17 1,o4 6 [oB,oC,oB,oB,oB],o0 5 6 24,oy 7 25] (ID [ow 26 7,ov 27 (IU 26)] 27 [oZ 28 6 5,o0 6 4 28]) (Ib [ow 29 1,Ip 30 2 29 (.c oB),oD 31 1 30,oG 32 31,Om 33 .eql 32 1] 33 (I5 [IA (oZ 34 5 6) 6 54 [],IA (oZ 35 6 5) 5 25 [],IG (Iq 36),IG (ow 37 1),(Io (Oh 38 27 36 37) 0 [(2,25),(3,54)],IP),(Io (Ic 39 49 [34,35,38]) 0 [],IP),On 6 4 39 0 []] .ret)) (I5 [IA (oZ 40 5 6) 6 54 [],IA (oZ 41 6 5) 5 25 [],IG (Iq 42),IG (ow 43 1),IG (oj 44 (.slS 2 43 (some (I2 1)) none)),(Io (Oh 45 27 42 44) 0 [(3,25),(4,54)],IP),(Io (Ic 46 49 [40,41,45]) 0 [],IP),On 6 5 46 0 []] (ID [ow 47 1,Ip 48 2 47 (.c oB),oD 49 1 48,oG 50 49,Om 51 .eql 50 2] 51 [oZ 52 6 5,o0 6 4 52]))))))
def y93:XF:=⟨[0,1],z93,[(.cA 4 6)]⟩
theorem x93:jO Qaf 27=some y93:=by kernel_rfl
def z48:XC:=(ol [o4 2 [oB,oB,oC,.nils,oB,oB]] (ol [Iq 5,IY 6 15 5,o4 3 [oB,oC,oB,oB,oB],o0 5 3 6] (Oq [Iq 7,Ic 8 28 [],Oh 9 27 7 8,o4 4 [oB,oB,oC,.nils,oB,oB],o0 6 4 9] (Ib [oZ 10 6 4,IY 11 29 10,ov 12 (IU 11)] 12 (Oa (oZ 13 5 3) (IY 14 16 13))) [oZ 15 6 4,o0 6 2 15])))
def y48:XF:=⟨[0],z48,[(.cA 2 6)]⟩
theorem x48:jO Qaf 14=some y48:=by kernel_rfl
def jc3:XC:=(ol [Ih 2 oC] (Oq [Ir 4 [oC,oC,oC,oC,oC,oC,oC,oC,oC,oC,oC,oC,oC,oC,oC,oC,oC,oC,oC,oC,oC,oC,oC,oC,oC,oC] [IJ 0 45,IJ 1 33,IJ 2 88,IJ 3 70,IJ 4 71,IJ 5 89,IJ 6 90,IJ 7 79,IJ 8 72,IJ 9 42,IJ 10 43,IJ 11 45,IJ 12 61,Iy 13 [33,61],IJ 14 60,Iy 15 [60,61],IJ 16 62,Iy 17 [62,61],IJ 18 85,IJ 19 82,IJ 20 83,IJ 21 84,IJ 22 38,IJ 23 124,Iy 24 [45,62],Iy 25 [60,45,62]],o4 3 [oC,oC,oC,oC,oC,oC,oC,oC,oC,oC,oC,oC,oC,oC,oC,oC,oC,oC,oC,oC,oC,oC,oC,oC,oC,oC],o0 26 3 4] (ID [Iq 5,Ij 6 .lss 5 5,ow 7 6,IZ 8 7 0,o8 9 7 (o5 .geq 8 31),IX 10 7 Ii 9] 10 [Ih 2 oC]) [Iq 11,Ij 12 .sub 11 5,oj 13 (.idxA 26 1 3 12),oG 14 13,oy 2 14]))
def jgG:XF:=⟨[0],jc3,[(.t 2)]⟩
theorem ji4:jO Qaf 65=some jgG:=by kernel_rfl
def jc2:XC:=(Oq [Ok 2] (.block 0 (oQ [Iq 4,Ij 5 .geq 4 5,ow 6 5,I4 7 6 0,IS 8 6 (o5 .leq 7 13),Ig 9 6 8 oY,oy 3 9] 3 (o3 [Ih 2 (om 1)]) (ID [Iq 11,Ij 12 .geq 11 14,ow 13 12,I4 14 13 0,IS 15 13 (o5 .lss 14 31),Ig 16 13 15 oY,oy 10 16] 10 [Ih 2 (om 2)]))) [Ok 2])
def jgF:XF:=⟨[0],jc2,[(.t 2)]⟩
theorem ji3:jO Qaf 66=some jgF:=by kernel_rfl
def jc1:XC:=(Oq [IO 1 0,IT 2] (ol [oD 3 0 1,ov 4 (.ld1 3)] (.block 0 (oQ [Ij 6 .eql 4 1,oy 5 6] 5 (o3 [oD 7 1 1,oG 8 7,oj 9 (oI .geq 8 oB),ow 10 9,IS 11 10 (.fad 1 1),IS 12 10 (.ld1 11),IS 13 10 (o5 .leq 12 1000000),Ig 14 10 13 oY,ow 15 14,IS 16 15 (.fad 2 1),IS 17 15 (.ld1 16),IS 18 15 (.strb .eql 17 (.c oC)),Ig 19 15 18 oY,oy 2 19]) (oQ [Ij 21 .eql 4 2,oy 20 21] 20 (o3 [oD 22 1 1,oG 23 22,oj 24 (oI .eql 23 oB),ow 25 24,Iv 26 25 1 1,Iz 27 25 26,o8 28 25 (o5 .eql 27 1),Ig 29 25 Ii 28,ow 30 29,IS 31 30 (.fad 2 1),IS 32 30 (.ld1 31),IS 33 30 (.strb .eql 32 (.c oC)),Ig 34 30 33 oY,oy 2 34]) (oQ [Ij 36 .eql 4 3,oy 35 36] 35 (o3 [oD 37 1 1,oG 38 37,oj 39 (oI .eql 38 oB),ow 40 39,IS 41 40 (.fad 2 1),IS 42 40 (.ld1 41),Ol 43 (IR 40) 79 [] [42],Ig 44 40 43 oY,oy 2 44]) (ID [Ij 46 .eql 4 4,oy 45 46] 45 [oD 47 2 1,oG 48 47,Ik 49 .eql 48 (.c oC),oy 2 49])))))) [oD 50 1 1,oG 51 50,oj 52 (oI .eql 51 oB),ow 53 52,IS 54 53 (.fad 2 1),IS 55 53 (.ld1 54),IS 56 53 (.strb .eql 55 (.c oC)),Ig 57 53 56 oY,oy 2 57])
def jgE:XF:=⟨[0],jc1,[(.t 2)]⟩
theorem ji2:jO Qaf 67=some jgE:=by kernel_rfl
def z95:XC:=(I3 [IO 1 0,IT 2] [oZ 3 6 1,Oh 4 50 3 (I2 60),oy 2 4])
def y95:XF:=⟨[0],z95,[(.t 2)]⟩
theorem x95:jO Qaf 29=some y95:=by kernel_rfl
def Kh:XC:=(Oq [IO 2 0,IO 3 1,Oj] (I5 [IH 5 0 2,IV 6 5 5 3 [],IG (Ij 7 .lss 6 1),IG (ow 8 7),IG (Iv 9 8 0 2),IA (Iz 10 8 9) 9 3 [],IG (o8 11 8 (o5 .geq 10 31)),IG (Ig 12 8 Ii 11),IG (ow 13 12),IA (Iz 14 13 3) 3 3 [],IG (o8 15 13 (o5 .lss 14 1)),IG (Ig 16 13 Ii 15),IG (ow 17 16),IG (Iv 18 17 3 2),IA (Iz 19 17 18) 18 23 [],IG (Oe 20 17 19),IG (Iv 21 17 0 2),IA (Iz 22 17 21) 21 3 [],(Io (Ol 23 (o7 17) 66 [] [22]) 0 [(3,23)],IP),IG (o8 24 17 (.bin .neq 20 23)),IG (Ig 25 17 Ii 24),IG (ow 26 25),IA (o8 27 26 (.ldA 6 2)) 2 25 [],(Io (Ol 28 (o7 26) 67 [] [27]) 0 [],IP),IG (o8 29 26 (IU 28)),IG (IX 30 26 Ii 29)] (.cond 30 (o3 [Oj]) .skip)) [oD 31 3 2,oG 32 31,oj 33 (.fn 69 [3]),Oh 34 68 32 33,oj 35 (IU 34),Or 35])
def jdm:XF:=⟨[0,1],Kh,[(.t 4)]⟩
theorem jgZ:jO Qaf 50=some jdm:=by kernel_rfl
def jcZ:XC:=(I3 [IO 2 0,IT 3] [oZ 4 6 2,oG 5 1,Ij 6 .sub 5 1,Oh 7 50 4 6,oj 8 (IU 7),oy 3 8])
def jgC:XF:=⟨[0,1],jcZ,[(.t 3)]⟩
theorem ji0:jO Qaf 69=some jgC:=by kernel_rfl
def jc0:XC:=(I3 [Oj] [Iq 5,ow 6 1,Oh 7 80 5 6,oj 8 (oI .geq 7 oB),Or 8])
def jgD:XF:=⟨[0,1],jc0,[(.t 4)]⟩
theorem ji1:jO Qaf 68=some jgD:=by kernel_rfl
def jcW:XC:=(Oq [Ok 4] (Ob [Iq 6,Og 7 6,Ok 8] 0 (IW [I1 9 .lss 8 7] (Oi 9 0) 1 (ol [ow 10 8,oy 5 10] (ID [ow 11 1,Iq 12,ow 13 5,Ip 14 6 12 13,oZ 15 6 14,oE 16 true none 11 [15]] 16 [ow 17 5,Or 17])) (Oa (IQ 18 8 1) (oy 8 18)))) [Ih 4 (om (-(0+1)))])
def jgz:XF:=⟨[0,1],jcW,[(.t 4)]⟩
theorem jiX:jO Qaf 80=some jgz:=by kernel_rfl
def jc4:XC:=(I3 [Oj] [Iq 5,ow 6 1,Oh 7 82 5 6,oj 8 (oI .geq 7 oB),Or 8])
def jgH:XF:=⟨[0,1],jc4,[(.t 4)]⟩
theorem ji5:jO Qaf 73=some jgH:=by kernel_rfl
def jcY:XC:=(Oq [Ok 4] (Ob [Iq 6,Og 7 6,Ok 8] 0 (IW [I1 9 .lss 8 7] (Oi 9 0) 1 (ol [ow 10 8,oy 5 10] (ID [ow 11 1,Iq 12,ow 13 5,Ip 14 1 12 13,oG 15 14,ov 16 (.strb .eql 11 15)] 16 [ow 17 5,Or 17])) (Oa (IQ 18 8 1) (oy 8 18)))) [Ih 4 (om (-(0+1)))])
def jgB:XF:=⟨[0,1],jcY,[(.t 4)]⟩
theorem jiZ:jO Qaf 82=some jgB:=by kernel_rfl
def jcX:XC:=(Oq [IT 2] (ID [Iq 3,Ik 4 .eql 3 (.c oC),ow 5 4,IZ 6 5 0,o8 7 5 (.lenS 6),o8 8 5 (o5 .gtr 7 32),Ig 9 5 Ii 8,ow 10 9,IZ 11 10 0,o8 12 10 (.ixStr 11 (.c oB)),Ol 13 (o7 10) 42 [] [12],o8 14 10 (IU 13),Ig 15 10 Ii 14,ow 16 15,IZ 17 16 0,Ol 18 (o7 16) 44 [] [17],IX 19 16 Ii 18] 19 [IT 2]) [Iq 20,Oh 21 37 20 (oL 43 []),Iq 22,oj 23 (.lenS 22),oj 24 (.bin .eql 21 23),oy 2 24])
def jgA:XF:=⟨[0],jcX,[(.t 2)]⟩
theorem jiY:jO Qaf 79=some jgA:=by kernel_rfl
end Go.Sy
end
noncomputable section
set_option maxRecDepth 100000
namespace Go.Sy
open Go.Ev Go.Proofs
variable {base:Bs}
theorem dzD {p:Prop}(h:p:=by first|assumption|decide|omega|(simp only[qF,Tk.cells_E,rzN,Qal,Qao];first|done|omega)|(apply Ju<;>first|omega|((simp(disch:=first|assumption|omega|(simp only[qF,Tk.cells_E,rzN,Qal,Qao];first|done|omega)) only[rzL,Qal,Qao,QaF,Qab,qF,Tk.cells_E ])<;>first|done|omega))|(simp(disch:=first|assumption|omega|(simp only[qF,Tk.cells_E,rzN,Qal,Qao];first|done|omega)) only[qF,Tk.cells_E,rzG,Qah,Qai,Qac,Qbf,Qal,Qao,QaT,QaV];first|done|omega|decide)):p:=h
theorem cyD {p:Prop}(h:p:=by apply Ju<;>first|omega|((simp(disch:=first|assumption|omega|(simp only[qF,Tk.cells_E,rzN,Qal,Qao];first|done|omega)) only[rzL,Qal,Qao,QaF,Qab,qF,Tk.cells_E])<;>first|done|rfl|omega|(simp;done)|(simp;omega))):p:=h
theorem qm {p:Prop}(h:p:=by first|assumption|decide|omega|(simp only[qF,Tk.cells_E,zz,rzN,Qal,Qao];first|done|omega)|(apply Ju<;>first|omega|((simp(disch:=first|assumption|omega|(simp only[qF,Tk.cells_E,zz,rzN,Qal,Qao];first|done|omega)) only[rzL,Qal,Qao,QaF,Qab,qF,Tk.cells_E,zz ])<;>first|done|omega))|(simp(disch:=first|assumption|omega|(simp only[qF,Tk.cells_E,zz,rzN,Qal,Qao];first|done|omega)) only[qF,Tk.cells_E,zz,rzG,Qah,Qai,Qac,Qbf,Qal,Qao,QaT,QaV];first|done|omega|decide)):p:=h
theorem jX {p:Prop}(h:p:=by apply Ju<;>first|omega|((simp(disch:=first|assumption|omega|(simp only[qF,Tk.cells_E,zz,rzN,Qal,Qao];first|done|omega)) only[rzL,Qal,Qao,QaF,Qab,qF,Tk.cells_E,zz])<;>first|done|rfl|omega|(simp;done)|(simp;omega))):p:=h
theorem vyD {p:Prop}(h:p:=by first|exact FzD.u|exact FzD.pa (by rfl)|exact FzD.agg (.pc (by rfl))|exact FzD.tup (.cons (FzD.agg (.pc (by rfl))) (.pc (by rfl)))|exact FzD.iface (FzD.agg (.pc (by rfl)))|exact K8|(rw[<-yg];exact FzD.agg (.pc (XN _)))|exact FzD.agg (.pc (by simp only[XN,Tk.cells_p]))):p:=h
theorem KD {S:List (List Nat)}{k:Nat}(h:k<S.length):(S.map AV.str).getD k .bad=.str S[k]:=by simp[QaI,h]
theorem jiV (hb:NB base)(S:List (List Nat))(hn:S.length<=1000000)(x:List Nat):Tot base 82 [.lst S.length (S.map .str),.str x] (.int .i64 (fi (λy=>decide (x=y)) S)):=by
 refine hb.tot ?_ rfl rfl;refine qi jiZ (by rfl) (hb.pur 82 1 (by decide)) ?_;simp only[jgB,jn,Qaj,Qam,Qah,Qai];rw[(by unfold jcY;simp only[qq];rfl:jcY=_)];repeat'(first|(apply jb<;>intro _)|simp(disch:=first|exact dzD|fail) only[jj,Tk.cells_R,rzZ,Qab,Qac,Qad,Qaa,Qae])
 refine zj S.length (λk L s=>(∀ j (h1:j<S.length),j<k->decide (x=S[j])=false)/\Has L 0 (.lst S.length (S.map .str))/\Has L 1 (.str x)) (by first|assumption|omega) (by decide) (by simp(disch:=decide) only[ji,jc]) (by simp(disch:=decide) only[ji,jc]) ?_ (λk L s v h=>by simp(disch:=decide) only[jc];exact h) (λk L s v h=>by simp(disch:=decide) only[jc];exact h) (λk L s hk hI hi hn=>?_) (λL s hI=>?_)
 ·refine⟨λj _ hj=>absurd hj (Qbw _),?_⟩;simp(disch:=decide) only[Qan,Qaq,z0,z1,ji,jc,and_true,true_and]
 ·obtain⟨h0,i0,i1⟩:=hI;have hl:(S.map AV.str).length=S.length:=QaU ..;have e:=KD hk
  (have zz:=@hl;(repeat'(first|(apply jb<;>intro _)|simp(disch:=first|exact qm|fail) only[ja i0,ja i1,ja hi,wM,e,hl,jj,Tk.cells_R,rzZ,Qab,Qac,Qad,Qaa,Qae]));(all_goals(clear zz)))
  ·exact G0.v (by rw[kV hk (λj hj=>h0 j (by omega) hj) (by simpa using ‹x=S[k]›)]) rfl
  ·refine⟨⟨λj h1 hj=>?_,?_⟩,?_⟩
   ·rcases QaR j k with h|h
    ·simpa using h0 j h1 h
    ·have:j=k:=by omega
     subst this;simpa using ‹¬ x=S[j]›
   ·simp(disch:=decide) only[Qan,Qaq,z0,z1,ji,jc,and_true,true_and,i0,i1]
   ·simp(disch:=decide) only[Qan,Qaq,z0,z1,ji,jc,and_true,true_and,hi,hn]
 ·obtain⟨h0,i0,i1⟩:=hI;repeat'(first|(apply jb<;>intro _)|simp(disch:=first|exact dzD|fail) only[jj,Tk.cells_R,rzZ,Qab,Qac,Qad,Qaa,Qae])
  exact G0.v (by rw[kU λj hj=>h0 j hj hj];rfl) rfl
theorem jan {α:Type}(q:α->Bool):∀ xs:List α,decide (0<=fi q xs)=xs.any q
 |[]=>rfl
 |x :: xs=>by
  have ih:=jan q xs;by_cases h:q x=true
  ·simp[fi,h]
  ·rw[List.any_cons,<-ih];simp only[fi,h,if_false,Bool.false_or];by_cases h2:fi q xs<0
   ·rw[if_pos h2];simp;omega
   ·rw[if_neg h2];simp;omega
theorem jgt (x:List Nat)(S:List (List Nat)):(S.any λy=>decide (x=y))=decide (x∈S):=by
 induction S with
 |nil=>rfl
 |cons y S ih=>rw[List.any_cons,ih];simp
theorem jih (hb:NB base)(S:List (List Nat))(hn:S.length<=1000000)(x:List Nat):Tot base 73 [.lst S.length (S.map .str),.str x] (.bool (decide (x∈S))):=by
 refine hb.tot ?_ rfl rfl;refine qi ji5 (by rfl) (hb.pur 73 1 (by decide)) ?_;simp only[jgH,jn,Qaj,Qam,Qah,Qai];rw[(by unfold jc4;simp only[qq];rfl:jc4=_)];repeat'(first|(apply jb<;>intro _)|simp(disch:=first|exact dzD|fail) only[jiV hb S hn x,jj,Tk.cells_R,rzZ,Qab,Qac,Qad,Qaa,Qae])
 exact G0.v (by rw[jan,jgt]) rfl
def isM (t:Tk)(S:List (List Nat)):Bool:=decide (t.kind=3\/t.kind=4) && decide (t.text∈S)
theorem jie (hb:NB base)(t:Tk)(S:List (List Nat))(hn:S.length<=1000000):PX Qaf base 53 [.agg t.cells,.lst S.length (S.map .str)] (.ok (.bool (isM t S))):=by
 refine qi jja (by rfl) (hb.pur 53 1 (by decide)) ?_;simp only[jgM,jn,Qaj,Qam,Qah,Qai];rw[(by unfold jc9;simp only[qq];rfl:jc9=_)];repeat'(first|(apply jb<;>intro _)|simp(disch:=first|exact dzD|fail) only[jih hb S hn,jj,Tk.cells_R,rzZ,Qab,Qac,Qad,Qaa,Qae])
 all_goals(refine G0.v ?_ rfl;unfold isM;simp;try omega)
theorem jid (hb:NB base)(t:Tk)(S:List (List Nat))(hn:S.length<=1000000):Tot base 53 [.agg t.cells,.lst S.length (S.map .str)] (.bool (isM t S)):=hb.tot (jie hb t S hn) rfl rfl
def er (t:Tk):AV:=.iface 28 (.agg [.int .i64 151,.int .i64 (t.line:Int),.int .i64 (t.col:Int)])
theorem G0.er (t:Tk){s:St}:G0 (er t) (.iface 28 (.agg [.int .i64 151,.int .i64 (t.line:Int),.int .i64 (t.col:Int)])) s:=FzD.iface (FzD.agg (.pc rfl))
theorem Jm (hb:NB base)(t:Tk):Ret base 16 [.agg t.cells] (.pn (er t)):=by
 refine hb.ret ?_ rfl rfl;refine qi x50 (by rfl) (hb.pur 16 1 (by decide)) ?_;simp only[y50,jn,Qaj,Qam,Qah,Qai];rw[(by unfold z50;simp only[qq];rfl:z50=_)];repeat'(first|(apply jb<;>intro _)|simp(disch:=first|exact dzD|fail) only[jj,Tk.cells_R,rzZ,Qab,Qac,Qad,Qaa,Qae])
 exact G0.er t
theorem jhH (hb:NB base)(op:Int):Tot base 66 [.int .i64 op] (.int .i64 (if 5<=op/\op<=13 then 1 else if 14<=op/\op<31 then 2 else 0)):=by
 refine hb.tot ?_ rfl rfl;refine qi ji3 (by rfl) (hb.pur 66 1 (by decide)) ?_;simp only[jgF,jn,Qaj,Qam,Qah,Qai];rw[(by unfold jc2;simp only[qq];rfl:jc2=_)];repeat'(first|(apply jb<;>intro _)|simp(disch:=first|exact dzD|fail) only[jj,Tk.cells_R,rzZ,Qab,Qac,Qad,Qaa,Qae])
 all_goals(refine G0.v ?_ rfl;repeat' split)<;>first|rfl|(exfalso;omega)|(simp_all;done)|(simp;omega)|(simp_all;omega)
def VG:List (List Nat):=[[45],[33],[88],[70],[71],[89],[90],[79],[72],[42],[43],[45],[61],[33,61],[60],[60,61],[62],[62,61],[85],[82],[83],[84],[38],[124],[45,62],[60,45,62]]
def sgn (op:Int):List Nat:=if 5<=op/\op<31 then VG.getD (op - 5).toNat [] else []
theorem jcU (hb:NB base)(op:Int):Tot base 65 [.int .i64 op] (.str (sgn op)):=by
 refine hb.tot ?_ rfl rfl;refine qi ji4 (by rfl) (hb.pur 65 1 (by decide)) ?_;simp only[jgG,jn,Qaj,Qam,Qah,Qai];rw[(by unfold jc3;simp only[qq];rfl:jc3=_)];repeat'(first|(apply jb<;>intro _)|simp(disch:=first|exact dzD|fail) only[jj,Tk.cells_R,rzZ,Qab,Qac,Qad,Qaa,Qae])
 ·exact G0.v (by rw[sgn,if_neg (by omega)]) rfl
 ·exact G0.v (by rw[sgn,if_neg (by omega)]) rfl
 ·have h26:(op - 5).toNat<VG.length:=by show(op - 5).toNat<26;omega
  show G0 _ ((VG.map AV.str).getD _ _) _;rw[Qbf,KD h26];exact G0.v (by rw[sgn,if_pos (by omega),QaE,Qav h26];rfl) rfl
def nm (l:List Nat):Bool:=decide (l≠[]) && decide (l.length<=32) && qK (l.getD 0 0) && !gh l && decide (jV qQ l=l.length)
theorem jic (hb:NB base)(l:List Nat)(hl:l.length<=4611686018427387904):Tot base 79 [.str l] (.bool (nm l)):=by
 refine hb.tot ?_ rfl rfl;have e0:¬ l=[]->0<l.length:=λh=>by cases l<;>simp_all
 refine qi jiY (by rfl) (hb.pur 79 1 (by decide)) ?_;simp only[jgA,jn,Qaj,Qam,Qah,Qai];rw[(by unfold jcX;simp only[qq];rfl:jcX=_)];by_cases h:l=[]
 ·subst h;repeat'(first|(apply jb<;>intro _)|simp(disch:=first|exact dzD|fail) only[jj,Tk.cells_R,rzZ,Qab,Qac,Qad,Qaa,Qae])
  exact G0.v rfl rfl
 ·have e1:(0:Int)<(l.length:Int):=by have:=e0 h;omega
  repeat'(first|(apply jb<;>intro _)|simp(disch:=first|exact dzD|fail) only[uZ hb,jcV hb,Ws hb l hl (Hc hb),h,e1,jj,Tk.cells_R,rzZ,Qab,Qac,Qad,Qaa,Qae])
  all_goals(refine G0.v (congrArg AV.bool ?_) rfl;rw[QaW];unfold nm;simp_all<;>omega)
def uf (x:Ex):Bool:=
 if x.op=1 then decide (0<=x.num) && decide (x.num<=1000000) && decide (x.name=[])
 else if x.op=2 then(decide (x.num=0) ||decide (x.num=1)) && decide (x.name=[])
 else if x.op=3 then decide (x.num=0) && nm x.name
 else if x.op=4 then decide (x.name=[])
 else decide (x.num=0) && decide (x.name=[])
theorem jhG (hb:NB base)(x:Ex)(hl:x.name.length<=4611686018427387904):Tot base 67 [.agg (eE x)] (.bool (uf x)):=by
 refine hb.tot ?_ (by first|rfl|simp[pa,pc,XN,Tk.cells_p]) rfl;refine qi ji2 (by rfl) (hb.pur 67 1 (by decide)) ?_;simp only[jgE,jn,Qaj,Qam,Qah,Qai];rw[(by unfold jc1;simp only[qq];rfl:jc1=_)];repeat'(first|(apply jb<;>intro _)|simp(disch:=first|exact dzD|fail) only[jic hb _ hl,jj,Tk.cells_R,rzZ,Qab,Qac,Qad,Qaa,Qae])
 all_goals(refine G0.v ?_ rfl;simp only[uf];simp[*];try omega)
theorem jbK (hb:NB base)(n:Nat)(t:Tk):Ret base 33 [.int .i64 (n:Int),.agg t.cells] (if 32<=n then .pn (er t) else .ok (.tup [])):=by
 refine hb.ret ?_ rfl rfl;refine qi x77 (by rfl) (hb.pur 33 1 (by decide)) ?_;simp only[y77,jn,Qaj,Qam,Qah,Qai];rw[(by unfold z77;simp only[qq];rfl:z77=_)];repeat'(first|(apply jb<;>intro _)|simp(disch:=first|exact dzD|fail) only[Jm hb,jj,Tk.cells_R,rzZ,Qab,Qac,Qad,Qaa,Qae])
 ·rw[if_pos (by omega)];exact FzD.iface (FzD.agg (.pc rfl))
 ·rw[if_neg (by omega)];exact FzD.u
def Jz (v:List (List Nat)×Nat):List AV:=[.lst v.1.length (v.1.map .str),.int .i64 (v.2:Int)]
def yC:List (List (List Nat)×Nat):=[([[60,45,62]],0),([[45,62]],1),([[124]],0),([[38]],0),([[85],[82],[83],[84]],1),([[61],[33,61],[60],[60,61],[62],[62,61]],2),([[43],[45]],0),([[42]],0)]
theorem K4 (hb:NB base):Tot base 28 [] (.lst 8 (fl Jz yC)):=by
 refine hb.tot ?_ rfl rfl;refine qi x94 (by rfl) (hb.pur 28 1 (by decide)) ?_;simp only[y94,jn,Qaj,Qam,Qah,Qai];rw[(by unfold z94;simp only[qq];rfl:z94=_)];repeat'(first|(apply jb<;>intro _)|simp(disch:=first|exact dzD|fail) only[jj,Tk.cells_R,rzZ,Qab,Qac,Qad,Qaa,Qae])
 exact⟨[8,0,1,2,3,4,5,6,7],by kernel_rfl,λb _=>QaM _⟩
end Go.Sy
end
noncomputable section
set_option maxRecDepth 100000
namespace Go.Sy
open Go.Ev Go.Proofs
variable {base:Bs}
theorem G6 {m d b cap:Nat}{s:St}{ks:List Ex}{op num l c:Int}{nm:List Nat}{ex:Bool}{cs:List AV}(C:Cl s b cs)(hc:cs=fl eE ks)(hm:m<=b) :
  FzD m (d+4) s (.agg [.int .i64 op,.int .i64 num,.str nm,.slice b 0 ks.length cap 6 ex,.int .i64 l,.int .i64 c]) (.agg (eE (.mk op num nm ks l c))):=by
 subst hc;rw[yg];have hl:=zG J3 ks;refine FzD.agg (.cons (.pc rfl) (.cons (.pc rfl) (.cons (.pc rfl) (.cons (FzD.slice C.rw_ (Qbx hl.symm) hm ?_) (.pc rfl)))));rw[<-hl,QaY];exact .pc (Qh XN ks)
theorem K8 {m d:Nat}{s:St}{op num l c:Int}{nm:List Nat}:FzD m (d+2) s (.agg [.int .i64 op,.int .i64 num,.str nm,.nils,.int .i64 l,.int .i64 c]) (.agg (eE (.mk op num nm [] l c))):=by
 rw[yg];exact FzD.agg (.cons (.pc rfl) (.cons (.pc rfl) (.cons (.pc rfl) (.cons .nils (.pc rfl)))))
theorem jdw:Go.Ev.isAgg Qaf 9=some false:=by kernel_rfl
theorem jdv:Go.Ev.sizeOf Qaf 9=some 1:=by kernel_rfl
theorem Wq {t:TypeId}{b i:Nat}{cs:List AV}{v:AV}{s:St}(h1:Go.Ev.isAgg Qaf t=some false)(h2:Go.Ev.sizeOf Qaf t=some 1)(C:Cl s b cs)(hi:i<cs.length)(hv:cs.getD i .bad=v)(hc:eqs v=true):jN Qaf t (.ptr b i) v s.h=true:=
 zP h1 h2 (by rw[C.len];exact hi) ((C.cell i hi).trans hv) hc
section
variable {st:St} {K:AV->St->Prop}
theorem jha {z vs:List AV}{o:Nat}{a:List AV}(ha:z.take o=a)(h:o+vs.length=z.length):upd z o vs=a ++ vs:=by
 rw[<-Zz z o vs (by omega),ha,h];simp
theorem jib {cx cy:List AV}{z0 z1 z2 z3 z4 z5:AV}(hx:cx.length=6)(hy:cy.length=6)(hlx:lall AV.cell cx=true)(hly:lall AV.cell cy=true) :
  jd (Ua 2 6 [z0,z1,z2,z3,z4,z5] [((0,6),.agg cx),((6,6),.agg cy)] st) K=K (.slice st.nx 0 2 2 6 true) (nw st (cx ++ cy)):=by
 have e1:upd ([z0,z1,z2,z3,z4,z5] ++ [z0,z1,z2,z3,z4,z5]) 0 cx=cx ++ [z0,z1,z2,z3,z4,z5]:=by
  rw[<-Zz _ 0 cx (by rw[hx];exact Nat.le_add_left _ _),hx];rfl
 have e2:upd (cx ++ [z0,z1,z2,z3,z4,z5]) 6 cy=cx ++ cy:=jha (by rw[<-hx,List.take_left]) (by rw[Qat,hx,hy];rfl);rw[jeD,vX,vX,Wx,QbS,Kb (v:=.agg cx) rfl hx (Nat.le_add_left 6 6),QD,e1,Kb (v:=.agg cy) rfl hy (by rw[Qat,hx];exact Qag 12),QD,e2,jaW (by rw[jd8 _ _ hlx,hly])]
end
def XX (text:List Nat):Option Nat:=(QaN 17).find? λi=>decide (sgn ((14+i:Nat):Int)=text)
def zA (t:Tk)(x y:Ex):Ex:=match XX t.text with
 |some i=>.mk ((14+i:Nat):Int) 0 [] [x,y] t.line t.col
 |none=>.mk 0 0 [] [] 0 0
theorem jdY {text:List Nat}{i:Nat}(hi:i<17)(h:sgn ((14+i:Nat):Int)=text)(hj:∀ j,j<i->sgn ((14+j:Nat):Int)≠text):XX text=some i:=by
 unfold XX;rw[List.find?_range_eq_some];exact⟨by simpa using h,by simpa using hi,λj hj'=>by simpa using hj j hj'⟩
theorem jdX {text:List Nat}(hj:∀ j,j<17->sgn ((14+j:Nat):Int)≠text):XX text=none:=by
 unfold XX;rw[List.find?_range_eq_none];exact λj hj'=>by simpa using hj j hj'
def zE:List AV:=[.int .i64 0,.int .i64 0,.str [],.nils,.int .i64 0,.int .i64 0]
theorem jiE (hb:NB base)(t:Tk)(x y:Ex):Tot base 49 [.agg t.cells,.agg (eE x),.agg (eE y)] (.agg (eE (zA t x y))):=by
 refine hb.tot ?_ (by first|rfl|simp[pa,pc,XN,Tk.cells_p]) rfl;refine qi ji9 (by rfl) (hb.pur 49 1 (by decide)) ?_;simp only[jgL,jn,Qaj,Qam,Qah,Qai];rw[(by unfold jc8;simp only[qq];rfl:jc8=_)];repeat'(first|(apply jb<;>intro _)|simp(disch:=first|exact dzD|fail) only[jj,Tk.cells_R,rzZ,Qab,Qac,Qad,Qaa,Qae])
 have hC:=Cl.new st0 t.cells;have hs:jN Qaf 9 (.ptr 0 1) (.str t.text) (nw (nw (nw (nw st0 t.cells) (eE x)) (eE y)) zE).h=true:=Wq jdw jdv (((hC.nw _).nw _).nw _) (QbE (QbO 3)) rfl rfl;unfold zE at hs;refine zI (λmm L s=>∃ i:Nat,i<=17/\mm=17 - i/\s=nw (nw (nw (nw st0 t.cells) (eE x)) (eE y)) zE/\(∀ j,j<i->sgn ((14+j:Nat):Int)≠t.text)/\Has L 3 (.ptr 0 0)/\Has L 4 (.ptr 1 0)/\Has L 5 (.ptr 2 0)/\Has L 6 (.ptr 3 0)/\Has L 7 (.int .i64 ((14+i:Nat):Int))) ?_ 17 ?_
 ·rintro mm L s ⟨i,hi,rfl,rfl,hj,i3,i4,i5,i6,i7⟩;unfold zE;have hS:=jcU hb ((14+i:Nat):Int);repeat'(first|(apply jb<;>intro _)|simp(disch:=first|exact dzD|fail) only[ja i3,ja i4,ja i5,ja i6,ja i7,hS,hs,↓jib,jj,Tk.cells_R,rzZ,Qab,Qac,Qad,Qaa,Qae])
  ·have e:zA t x y=.mk ((14+i:Nat):Int) 0 [] [x,y] t.line t.col:=by unfold zA;rw[jdY (by omega) ‹_› hj]
   rw[e];refine G6 (ks:=[x,y]) (cs:=eE x ++ eE y) ?_ (by simp[fl]) (QaM _);simp(disch:=first|assumption|decide|omega|(simp only[jf,jg,jr,jl,jq,qM,Qal,Qao];first|done|omega)) only[jH,jJ,jI];exact Cl.new _ _
  ·refine⟨17 - (i+1),by omega,i+1,by omega,rfl,λj hj'=>?_,?_⟩
   ·by_cases h:j=i
    ·rw[h];assumption
    ·exact hj j (by omega)
   ·rw[show((14+(i+1):Nat):Int)=((14+i:Nat):Int)+1 by omega];simp(disch:=decide) only[Qan,Qaq,z0,z1,ji,jc,and_true,true_and,i3,i4,i5,i6]
  ·have e:zA t x y=.mk 0 0 [] [] 0 0:=by unfold zA;rw[jdX λj hj'=>hj j (by omega)]
   rw[e];exact K8
 ·refine⟨0,by omega,rfl,rfl,λj hj=>absurd hj (Qbw _),?_⟩;rw[show((14+0:Nat):Int)=14 from rfl];simp(disch:=decide) only[Qan,Qaq,z0,z1,ji,jc,and_true,true_and]
end Go.Sy
end
noncomputable section
set_option maxRecDepth 100000
namespace Go.Sy
open Go.Ev Go.Proofs
variable {base:Bs}
theorem jeH {P:Program}{f:FuncId}{xs:List AV}{st:St}{v:AV}{R:St->Prop}(h:∀ K Kp:AV->St->Prop,(∀ s,R s->K v s)->XB P base f xs st K Kp):∃ s,R s/\∀ K Kp:AV->St->Prop,XB P base f xs st K Kp=K v s:=by
 obtain⟨r,⟨N,D,h1⟩,h4⟩:=h (λv' s'=>v'=v/\R s') (λ_ _=>False) λs hs=>⟨rfl,hs⟩;cases r with
 |no=>exact h4.elim
 |pn v s=>exact h4.elim
 |ok v' s'=>
  obtain⟨rfl,hR⟩:=h4;exact⟨_,hR,λK Kp=>propext ⟨λ⟨r2,⟨N2,D2,h2⟩,h3⟩=>by
   have e1:=h1 (max N N2) (QaC ..) (max D D2) (QaC ..);have e2:=h2 (max N N2) (QaB ..) (max D D2) (QaB ..);rw[e1] at e2;subst e2;exact h3,λh=>⟨_,⟨N,D,h1⟩,h⟩⟩⟩
theorem jgi (hb:NB base)(xs:List Ex)(hn:xs.length<=4611686018427387904)(f:FuncId)(caps:List AV)(q:Ex->Bool){R:St->Prop}(hR:∀ s t:St,R s->R (bk t s))(hR2:∀ s:St,R s->R s.bare)
  (hq:∀ y∈xs,∀ s:St,R s->∃ s',R s'/\∀ K Kp:AV->St->Prop,XB Qaf base f (.agg (eE y) :: caps) s K Kp=K (.bool (q y)) s') {st:St} (h0:R st) :
  ∃ s',R s'/\∀ K Kp:AV->St->Prop,XB Qaf base 80 [.lst xs.length (fl eE xs),.fn f caps] st K Kp=K (.int .i64 (fi q xs)) s':=by
 refine jeH λK Kp hK=>?_;refine Qz jiX (by rfl) (hb.at0 80 (by decide) (by decide) _ _) ?_;simp only[jgz,jn,Qaj,Qam,Qah,Qai];rw[(by unfold jcW;simp only[qq];rfl:jcW=_)];have h0:=hR2 _ h0;have hK:∀ s,R s->K (.int .i64 (fi q xs)) (bk st s):=λs h=>hK _ (hR _ _ h);have hbk:bk st st.bare=st:=rfl;have hbc:back st st.bare=st:=rfl;have hbb:st.bare.bare=st.bare:=rfl;generalize st.bare=s0 at *;repeat'(first|(apply jb<;>intro _)|simp(disch:=first|exact dzD|fail) only[jj,Tk.cells_R,rzZ,Qab,Qac,Qad,Qaa,Qae])
 refine zj xs.length (λk L s=>R s/\(∀ j (h1:j<xs.length),j<k->q xs[j]=false)/\Has L 0 (.lst xs.length (fl eE xs))/\Has L 1 (.fn f caps)) (by first|assumption|omega) (by decide) (by simp(disch:=decide) only[ji,jc]) (by simp(disch:=decide) only[ji,jc]) ?_ (λk L s v h=>by simp(disch:=decide) only[jc];exact h) (λk L s v h=>by simp(disch:=decide) only[jc];exact h) (λk L s hk hI hi hn=>?_) (λL s hI=>?_)
 ·refine⟨h0,λj _ hj=>absurd hj (Qbw _),?_⟩;simp(disch:=decide) only[Qan,Qaq,z0,z1,ji,jc,and_true,true_and]
 ·obtain⟨hs,h0,i0,i1⟩:=hI;obtain⟨s',hs',e⟩:=hq xs[k] (QaJ hk) s hs;repeat'(first|(apply jb<;>intro _)|simp(disch:=first|exact dzD|fail) only[ja i0,ja i1,ja hi,e,jj,Tk.cells_R,rzZ,Qab,Qac,Qad,Qaa,Qae])
  ·have:=hK _ (hR2 _ hs');rw[kV hk (λj hj=>h0 j (by omega) hj) ‹_›] at this;exact this
  ·refine⟨⟨hs',λj h1 hj=>?_,?_⟩,?_⟩
   ·rcases QaR j k with h|h
    ·exact h0 j h1 h
    ·have:j=k:=by omega
     subst this;simpa using ‹¬ q xs[j]=true›
   ·simp(disch:=decide) only[Qan,Qaq,z0,z1,ji,jc,and_true,true_and,i0,i1]
   ·simp(disch:=decide) only[Qan,Qaq,z0,z1,ji,jc,and_true,true_and,hi,hn]
 ·obtain⟨hs,h0,i0,i1⟩:=hI;repeat'(first|(apply jb<;>intro _)|simp(disch:=first|exact dzD|fail) only[jj,Tk.cells_R,rzZ,Qab,Qac,Qad,Qaa,Qae])
  have:=hK _ (hR2 _ hs);rw[kU λj hj=>h0 j hj hj] at this;exact this
theorem jh7 (hb:NB base)(xs:List Ex)(hn:xs.length<=4611686018427387904)(f:FuncId)(caps:List AV)(q:Ex->Bool){R:St->Prop}(hR:∀ s t:St,R s->R (bk t s))(hR2:∀ s:St,R s->R s.bare)
  (hq:∀ y∈xs,∀ s:St,R s->∃ s',R s'/\∀ K Kp:AV->St->Prop,XB Qaf base f (.agg (eE y) :: caps) s K Kp=K (.bool (q y)) s') {st:St} (h0:R st) :
  ∃ s',R s'/\∀ K Kp:AV->St->Prop,XB Qaf base 68 [.lst xs.length (fl eE xs),.fn f caps] st K Kp=K (.bool (xs.any q)) s':=by
 refine jeH λK Kp hK=>?_;refine Qz ji1 (by rfl) (hb.at0 68 (by decide) (by decide) _ _) ?_;simp only[jgD,jn,Qaj,Qam,Qah,Qai];rw[(by unfold jc0;simp only[qq];rfl:jc0=_)];have h0:=hR2 _ h0;have hK:∀ s,R s->K (.bool (xs.any q)) (bk st s):=λs h=>hK _ (hR _ _ h);have hbk:bk st st.bare=st:=rfl;have hbc:back st st.bare=st:=rfl;have hbb:st.bare.bare=st.bare:=rfl;generalize st.bare=s0 at *;obtain⟨s',hs',e⟩:=jgi hb xs hn f caps q hR hR2 hq h0;repeat'(first|(apply jb<;>intro _)|simp(disch:=first|exact dzD|fail) only[e,jj,Tk.cells_R,rzZ,Qab,Qac,Qad,Qaa,Qae])
 rw[jan];exact hK _ hs'
def yU:Nat->Ex->Bool
 |0,_=>false
 |d+1,x=>decide (1<=x.op) && decide (x.op<31) && decide ((x.kids.length:Int)=if 5<=x.op/\x.op<=13 then 1 else if 14<=x.op/\x.op<31 then 2 else 0) && uf x && x.kids.all (yU d)
theorem jhc:Go.Ev.isAgg Qaf 3=some false:=by kernel_rfl
theorem jhb:Go.Ev.sizeOf Qaf 3=some 1:=by kernel_rfl
theorem jit:Go.Ev.isAgg Qaf 23=some false:=by kernel_rfl
theorem jis:Go.Ev.sizeOf Qaf 23=some 1:=by kernel_rfl
theorem jeZ:Go.Ev.isAgg Qaf 25=some true:=by kernel_rfl
theorem jeY:Go.Ev.sizeOf Qaf 25=some 6:=by kernel_rfl
theorem jhq {t:TypeId}{b k:Nat}{cs:List AV}{s:St}(h1:Go.Ev.isAgg Qaf t=some true)(h2:Go.Ev.sizeOf Qaf t=some k)(C:Cl s b cs)(hi:cs.length=k)(hk:0<k)(hc:cs.all eqs=true):jN Qaf t (.ptr b 0) (.agg cs) s.h=true:=
 wQ h1 h2 hk (by rw[C.len];omega) (by rw[C.ratsP k 0 (by omega),QbD,<-hi,QaY]) hc
theorem jjx (hb:NB base){y:Ex}{d b:Nat}{v:Bool}(hd:d<=60)(ih:Tot base 50 [.agg (eE y),.int .i64 (d:Int)] (.bool v)){st:St}(C:Cl st b [.int .i64 ((d+1:Nat):Int)])(K Kp:AV->St->Prop) :
  XB Qaf base 69 [.agg (eE y),.ptr b 0] st K Kp=K (.bool (!v)) (nw st (eE y)):=by
 refine HI (λK Kp hK=>?_) K Kp;refine Qz ji0 (by rfl) (hb.at0 69 (by decide) (by decide) _ _) ?_;simp only[jgC,jn,Qaj,Qam,Qah,Qai];rw[(by unfold jcZ;simp only[qq];rfl:jcZ=_)];have hK:K (.bool (!v)) (bk st (nw st.bare (eE y))):=hK;have C:=C.bar;have hbk:bk st st.bare=st:=rfl;have hbc:back st st.bare=st:=rfl;have hbb:st.bare.bare=st.bare:=rfl;generalize st.bare=s0 at *;have L0:=C.lt;have e:((d+1:Nat):Int) - 1=(d:Int):=by omega
 (have zz:=C.r;(repeat'(first|(apply jb<;>intro _)|simp(disch:=first|exact qm|fail) only[ih,e,C.q,C.r,jj,Tk.cells_R,rzZ,Qab,Qac,Qad,Qaa,Qae]));(all_goals(clear zz)))
 exact hK
theorem uU (d:Nat)(x:Ex):yU (d+1) x=(decide (1<=x.op) && decide (x.op<31) && decide ((x.kids.length:Int)=if 5<=x.op/\x.op<=13 then 1 else if 14<=x.op/\x.op<31 then 2 else 0) && uf x && x.kids.all (yU d)):=rfl
theorem HA {α:Type}(p:α->Bool):∀ xs:List α,xs.all p = !(xs.any λx=>!p x)
 |[]=>rfl
 |x :: xs=>by rw[QaZ,List.any_cons,HA p xs];cases p x<;>simp
theorem jfY (hb:NB base):∀ (d:Nat),d<=60->∀ x:Ex,szE x<=BIG->Tot base 50 [.agg (eE x),.int .i64 (d:Int)] (.bool (yU d x)):=by
 intro d;induction d with
 |zero=>
  intro _ x hx;refine hb.tot ?_ (by first|rfl|simp[pa,pc,XN,Tk.cells_p]) rfl;refine qi jgZ (by rfl) (hb.pur 50 1 (by decide)) ?_;simp only[jdm,jn,Qaj,Qam,Qah,Qai];rw[(by unfold Kh;simp only[qq];rfl:Kh=_)];repeat'(first|(apply jb<;>intro _)|simp(disch:=first|exact dzD|fail) only[jj,Tk.cells_R,rzZ,Qab,Qac,Qad,Qaa,Qae])
  all_goals exact G0.v rfl rfl
 |succ d ih=>
  intro hd x hx;refine hb.tot ?_ (by first|rfl|simp[pa,pc,XN,Tk.cells_p]) rfl;refine qi jgZ (by rfl) (hb.pur 50 1 (by decide)) ?_;simp only[jdm,jn,Qaj,Qam,Qah,Qai];rw[(by unfold Kh;simp only[qq];rfl:Kh=_)];have hs1:∀ k v,k<6->(eE x).getD k .bad=v->eqs v=true->jN Qaf 3 (.ptr 0 k) v (nw (nw st0 (eE x)) [.int .i64 ((d+1:Nat):Int)]).h=true:=λk v hk hv hc=>Wq jhc jhb ((Cl.new st0 (eE x)).nw _) (by rw[J3];exact hk) hv hc;have hs2:jN Qaf 23 (.ptr 0 3) (.lst x.kids.length (fl eE x.kids)) (nw (nw st0 (eE x)) [.int .i64 ((d+1:Nat):Int)]).h=true:=Wq jit jis ((Cl.new st0 (eE x)).nw _) (by rw[J3];decide) (gE x 3) rfl;have hs3:jN Qaf 25 (.ptr 0 0) (.agg (eE x)) (nw (nw st0 (eE x)) [.int .i64 ((d+1:Nat):Int)]).h=true:=jhq jeZ jeY ((Cl.new st0 (eE x)).nw _) (J3 x) (by decide) (by rw[yg];rfl);have hkl:=Z5 x.kids;have hsz:=Wn x;have hB:BIG=1099511627776:=rfl;have hs:=uU d x;obtain⟨s',_,e⟩:=jh7 hb x.kids (by omega) 69 [.ptr 1 0] (λy=>!yU d y) (R:=λs=>Cl s 1 [.int .i64 ((d+1:Nat):Int)]) (λs t h=>⟨h.lt,h.row,h.len,h.cell⟩) (λs h=>h.bar)
   (λy hy s C=>⟨nw s (eE y),C.nw _,λK Kp=>jjx hb (by omega) (ih (by omega) y (by
    obtain⟨k,hk,rfl⟩:=List.getElem_of_mem hy;have:=vP hk;omega)) C K Kp⟩) (Cl.new (nw st0 (eE x)) [.int .i64 ((d+1:Nat):Int)])
  repeat'(first|(apply jb<;>intro _)|simp(disch:=first|exact dzD|fail) only[jhH hb,jhG hb x (by omega),hs1,hs2,hs3,e,jj,Tk.cells_R,rzZ,Qab,Qac,Qad,Qaa,Qae])
  ·refine G0.v ?_ rfl;rw[hs];simp;omega
  ·refine G0.v ?_ rfl;rw[hs];simp;omega
  ·refine G0.v ?_ rfl;rw[hs];simp[*]
  ·refine G0.v ?_ rfl;rw[hs];simp[*]
  ·refine G0.v ?_ rfl;rw[hs,HA];first|(simp[*];done)|(simp[*];omega)|(simp;intro _;refine⟨⟨⟨by omega,by omega⟩,by simp_all⟩,by simp_all⟩)
theorem jgv (hb:NB base)(x:Ex)(hx:szE x<=BIG):Tot base 29 [.agg (eE x)] (.bool (yU 60 x)):=by
 refine hb.tot ?_ (by first|rfl|simp[pa,pc,XN,Tk.cells_p]) rfl;refine qi x95 (by rfl) (hb.pur 29 1 (by decide)) ?_;simp only[y95,jn,Qaj,Qam,Qah,Qai];rw[(by unfold z95;simp only[qq];rfl:z95=_)];have:Tot base 50 [.agg (eE x),.int .i64 60] (.bool (yU 60 x)):=jfY hb 60 (Qag _) x hx;repeat'(first|(apply jb<;>intro _)|simp(disch:=first|exact dzD|fail) only[this,jj,Tk.cells_R,rzZ,Qab,Qac,Qad,Qaa,Qae])
 exact G0.v rfl rfl
end Go.Sy
end
noncomputable section
set_option maxRecDepth 100000
namespace Go.Sy
open Go.Ev Go.Proofs
variable {base:Bs}
def tk (ts:List Tk)(i:Nat):Tk:=ts.getD i ⟨0,[],0,0,0⟩
theorem je1 {ts:List Tk}{i:Nat}(h:i<ts.length):ts[i]=tk ts i:=by simp[tk,QaI,h]
def pC (ts:List Tk)(i d:Nat):List AV:=[.lst ts.length (fl Tk.cells ts),.int .i64 (i:Int),.int .i64 (d:Int)]
theorem Xp (hb:NB base){ts:List Tk}{i d:Nat}(hi:i<ts.length):Met Qaf base 15 (pC ts i d) [] (.ok (.agg (tk ts i).cells)) (pC ts i d):=by
 refine PM.met ?_ rfl λp st=>hb.no 15 (by decide) _ _;refine jR x49 (by rfl) (hb.pur 15 3 (by decide)) rfl ?_;simp only[y49,jn,Qaj,Qam,Qah,Qai];rw[(by unfold z49;simp only[qq];rfl:z49=_)];unfold pC;repeat'(first|(apply jb<;>intro _)|simp(disch:=first|exact dzD|fail) only[hi,jj,Tk.cells_R,rzZ,Qab,Qac,Qad,Qaa,Qae])
 rw[je1 hi];refine G1.done ?_ rfl rfl (FzD.agg (.pc (by rfl)));simp(disch:=first|assumption|decide|omega|(simp only[jf,jg,jr,jl,jq,qM,Qal,Qao];first|done|omega)) only[jH,jJ,jI];exact Cl.new _ _
theorem vQ (S:List (List Nat)):(S.map AV.str).all pc=true:=by induction S with|nil=>rfl|cons x S ih=>simp[pc]
theorem jby (hb:NB base){ts:List Tk}{i d:Nat}(hi:i<ts.length)(h2:i<=1000000)(S:List (List Nat))(hS:S.length<=1000000) :
  (isM (tk ts i) S=true->PM Qaf base 32 (pC ts i d) [.lst S.length (S.map .str)] (.ok (.tup [.agg (tk ts i).cells,.bool true])) (pC ts (i+1) d)) /\
  (isM (tk ts i) S=false->PM Qaf base 32 (pC ts i d) [.lst S.length (S.map .str)] (.ok (.tup [.agg (tk ts i).cells,.bool false])) (pC ts i d)):=by
 have N:=λst p=>@Xp base hb ts i d hi st p;unfold pC at *;constructor<;>intro h
 ·refine jR x76 (by rfl) (hb.pur 32 3 (by decide)) rfl ?_;simp only[y76,jn,Qaj,Qam,Qah,Qai];rw[(by unfold z76;simp only[qq];rfl:z76=_)];repeat'(first|(apply jb<;>intro _)|simp(disch:=first|exact dzD|fail) only[N,jid hb (tk ts i) S hS,h,jj,Tk.cells_R,rzZ,Qab,Qac,Qad,Qaa,Qae])
  (refine G1.done ?_ (by rfl) (by rfl) ?_;(· (first|exact cyD|fail));(· first|exact vyD|skip))
 ·refine jR x76 (by rfl) (hb.pur 32 3 (by decide)) rfl ?_;simp only[y76,jn,Qaj,Qam,Qah,Qai];rw[(by unfold z76;simp only[qq];rfl:z76=_)];repeat'(first|(apply jb<;>intro _)|simp(disch:=first|exact dzD|fail) only[N,jid hb (tk ts i) S hS,h,jj,Tk.cells_R,rzZ,Qab,Qac,Qad,Qaa,Qae])
  (refine G1.done ?_ (by rfl) (by rfl) ?_;(· (first|exact cyD|fail));(· first|exact vyD|skip))
theorem jhi (hb:NB base){ts:List Tk}{i d:Nat}(hi:i<ts.length)(h2:i<=1000000)(S:List (List Nat))(hS:S.length<=1000000){st:St}{p:Nat}(C:Cl st p (pC ts i d))(K Kp:AV->St->Prop) :
  XB Qaf base 32 [.ptr p 0,.lst S.length (S.map .str)] st K Kp=ifW (isM (tk ts i) S=true) (K (.tup [.agg (tk ts i).cells,.bool true]) (wr st p 0 (pC ts (i+1) d))) (K (.tup [.agg (tk ts i).cells,.bool false]) (wr st p 0 (pC ts i d))):=by
 have T:=jby hb hi h2 (d:=d) S hS;cases h:isM (tk ts i) S with
 |true=>rw[WT rfl];exact(T.1 h).xb C rfl (λst=>hb.no 32 (by decide) _ _) K Kp
 |false=>rw[WU (by decide)];exact(T.2 h).xb C rfl (λst=>hb.no 32 (by decide) _ _) K Kp
theorem QJ (hb:NB base){ts:List Tk}{i d:Nat}(hi:i<ts.length)(h2:i<=1000000)(S:List (List Nat)){cs:List AV}{n:Nat}(hc:S.map .str=cs)(hn:S.length=n)(hS:n<=1000000)(st:St)(p b m:Nat)(x:Bool)(C:Cl st p (pC ts i d))(D:Cl st b cs)(hne:p≠b)(K Kp:AV->St->Prop) :
  XB Qaf base 32 [.ptr p 0,.slice b 0 n m 1 x] st K Kp=ifW (isM (tk ts i) S=true) (K (.tup [.agg (tk ts i).cells,.bool true]) (wr (kl b st) p 0 (pC ts (i+1) d))) (K (.tup [.agg (tk ts i).cells,.bool false]) (wr (kl b st) p 0 (pC ts i d))):=by
 subst hc hn;have T:=jby hb hi h2 (d:=d) S hS;have F:Fza st [.slice b 0 S.length m 1 x] [.lst S.length (S.map .str)] [b]:=Fza.sl D (by simp) (vQ S) .nil;have C':Cl (qv [b] st) p (pC ts i d):=(qu hne).symm▸C;cases h:isM (tk ts i) S with
 |true=>rw[WT rfl];exact(T.1 h).xbk C' F rfl (λst=>hb.no 32 (by decide) _ _) K Kp
 |false=>rw[WU (by decide)];exact(T.2 h).xbk C' F rfl (λst=>hb.no 32 (by decide) _ _) K Kp
theorem jeb (hb:NB base)(t:Tk)(S:List (List Nat)){cs:List AV}{n:Nat}(hc:S.map .str=cs)(hn:S.length=n)(hS:n<=1000000)(st:St)(b m:Nat)(x:Bool)(D:Cl st b cs)(K Kp:AV->St->Prop) :
  XB Qaf base 53 [.agg t.cells,.slice b 0 n m 1 x] st K Kp=K (.bool (isM t S)) (kl b st):=by
 subst hc hn;have F:Fza st [.agg t.cells,.slice b 0 S.length m 1 x] [.agg t.cells,.lst S.length (S.map .str)] [b]:=Fza.pa (by rfl) (Fza.sl D (by simp) (vQ S) .nil);exact(jie hb t S hS).xf F (λst=>hb.no 53 (by decide) _ _) K Kp
theorem jhB (hb:NB base){ts:List Tk}{i d:Nat}(hi:i<ts.length)(h2:i<=1000000)(c:List Nat) :
  (isM (tk ts i) [c]=true->PM Qaf base 55 (pC ts i d) [.str c] (.ok (.tup [])) (pC ts (i+1) d)) /\
  (isM (tk ts i) [c]=false->PM Qaf base 55 (pC ts i d) [.str c] (.pn (er (tk ts i))) (pC ts i d)):=by
 have T:=QJ hb hi h2 (d:=d) [c] (cs:=[.str c]) (n:=1) rfl rfl (by decide);unfold pC at *;constructor<;>intro h
 ·refine jR jg0 (by rfl) (hb.pur 55 3 (by decide)) rfl ?_;simp only[jdn,jn,Qaj,Qam,Qah,Qai];rw[(by unfold Vp;simp only[qq];rfl:Vp=_)];repeat'(first|(apply jb<;>intro _)|simp(disch:=first|exact dzD|fail) only[T,h,Jm hb,jj,Tk.cells_R,rzZ,Qab,Qac,Qad,Qaa,Qae])
  (refine G1.done ?_ (by rfl) (by rfl) ?_;(· (first|exact cyD|fail));(· first|exact vyD|skip))
 ·refine jR jg0 (by rfl) (hb.pur 55 3 (by decide)) rfl ?_;simp only[jdn,jn,Qaj,Qam,Qah,Qai];rw[(by unfold Vp;simp only[qq];rfl:Vp=_)];repeat'(first|(apply jb<;>intro _)|simp(disch:=first|exact dzD|fail) only[T,h,Jm hb,jj,Tk.cells_R,rzZ,Qab,Qac,Qad,Qaa,Qae])
  (refine G1.done ?_ (by rfl) (by rfl) ?_;(· (first|exact cyD|fail));(· first|exact vyD|skip))
theorem PM.two {P:Program}{f:FuncId}{cs xs c1 c2:List AV}{o1 o2:Oc}{q:Bool}(h:(q=true->PM P base f cs xs o1 c1)/\(q=false->PM P base f cs xs o2 c2))(hp:xs.all pa=true)(hb:∀ p st,base.run f (.ptr p 0 :: xs) st=.no){st:St}{p:Nat}(C:Cl st p cs)(K Kp:AV->St->Prop) :
  XB P base f (.ptr p 0 :: xs) st K Kp=ifW (q=true) (XG o1 K Kp (wr st p 0 c1)) (XG o2 K Kp (wr st p 0 c2)):=by
 cases hq:q with
 |true=>rw[WT rfl];exact(h.1 hq).xb C hp (hb p) K Kp
 |false=>rw[WU (by decide)];exact(h.2 hq).xb C hp (hb p) K Kp
theorem Jk (hb:NB base){ts:List Tk}{i d:Nat}(hi:i<ts.length)(h2:i<=1000000)(c:List Nat){st:St}{p:Nat}(C:Cl st p (pC ts i d))(K Kp:AV->St->Prop) :
  XB Qaf base 55 [.ptr p 0,.str c] st K Kp=ifW (isM (tk ts i) [c]=true) (K (.tup []) (wr st p 0 (pC ts (i+1) d))) (Kp (er (tk ts i)) (wr st p 0 (pC ts i d))):=
 PM.two (o1:=.ok _) (o2:=.pn _) (jhB hb hi h2 c) rfl (λ_ _=>hb.no 55 (by decide) _ _) C K Kp
theorem ZL (hb:NB base){ts:List Tk}{i d:Nat}(hi:i<ts.length)(h2:i<=1000000){st:St}{p:Nat}(C:Cl st p (pC ts i d))(K Kp:AV->St->Prop) :
  XB Qaf base 54 [.ptr p 0] st K Kp=ifW (decide ((tk ts i).kind=1)=true) (K (.agg (tk ts i).cells) (wr st p 0 (pC ts (i+1) d))) (Kp (er (tk ts i)) (wr st p 0 (pC ts i d))):=by
 refine PM.two (o1:=.ok _) (o2:=.pn _) ?_ rfl (λ_ _=>hb.no 54 (by decide) _ _) C K Kp;have N:=λst p=>@Xp base hb ts i d hi st p;unfold pC at *;clear C;constructor<;>intro h
 ·have h':((tk ts i).kind:Int)=1:=by simp at h;omega
  refine jR jg1 (by rfl) (hb.pur 54 3 (by decide)) rfl ?_;simp only[jdo,jn,Qaj,Qam,Qah,Qai];rw[(by unfold Ki;simp only[qq];rfl:Ki=_)];repeat'(first|(apply jb<;>intro _)|simp(disch:=first|exact dzD|fail) only[N,h',Jm hb,jj,Tk.cells_R,rzZ,Qab,Qac,Qad,Qaa,Qae])
  (refine G1.done ?_ (by rfl) (by rfl) ?_;(· (first|exact cyD|fail));(· first|exact vyD|skip))
 ·have h':¬ ((tk ts i).kind:Int)=1:=by simp at h;omega
  refine jR jg1 (by rfl) (hb.pur 54 3 (by decide)) rfl ?_;simp only[jdo,jn,Qaj,Qam,Qah,Qai];rw[(by unfold Ki;simp only[qq];rfl:Ki=_)];repeat'(first|(apply jb<;>intro _)|simp(disch:=first|exact dzD|fail) only[N,h',Jm hb,jj,Tk.cells_R,rzZ,Qab,Qac,Qad,Qaa,Qae])
  (refine G1.done ?_ (by rfl) (by rfl) ?_;(· (first|exact cyD|fail));(· first|exact vyD|skip))
theorem jb0 (hb:NB base){ts:List Tk}{i d:Nat}(hi:i<ts.length)(h2:d<=1000000){st:St}{p:Nat}(C:Cl st p (pC ts i d))(K Kp:AV->St->Prop) :
  XB Qaf base 64 [.ptr p 0] st K Kp=ifW (decide (60<d+1)=true) (Kp (er (tk ts i)) (wr st p 0 (pC ts i (d+1)))) (K (.tup []) (wr st p 0 (pC ts i (d+1)))):=by
 refine PM.two (o1:=.pn _) (o2:=.ok _) ?_ rfl (λ_ _=>hb.no 64 (by decide) _ _) C K Kp;have N:=λst p=>@Xp base hb ts i (d+1) hi st p;have e:((d:Int)+1)=((d+1:Nat):Int):=by omega
 unfold pC at *;clear C;constructor<;>intro h
 ·have h':(60:Int)<((d+1:Nat):Int):=by simp at h;omega
  refine jR jgY (by rfl) (hb.pur 64 3 (by decide)) rfl ?_;simp only[jdl,jn,Qaj,Qam,Qah,Qai];rw[(by unfold Kg;simp only[qq];rfl:Kg=_)];repeat'(first|(apply jb<;>intro _)|simp(disch:=first|exact dzD|fail) only[N,h',Jm hb,e,jj,Tk.cells_R,rzZ,Qab,Qac,Qad,Qaa,Qae])
  (refine G1.done ?_ (by rfl) (by rfl) ?_;(· (first|exact cyD|fail));(· first|exact vyD|skip))
 ·have h':¬ (60:Int)<((d+1:Nat):Int):=by simp at h;omega
  refine jR jgY (by rfl) (hb.pur 64 3 (by decide)) rfl ?_;simp only[jdl,jn,Qaj,Qam,Qah,Qai];rw[(by unfold Kg;simp only[qq];rfl:Kg=_)];repeat'(first|(apply jb<;>intro _)|simp(disch:=first|exact dzD|fail) only[N,h',Jm hb,e,jj,Tk.cells_R,rzZ,Qab,Qac,Qad,Qaa,Qae])
  (refine G1.done ?_ (by rfl) (by rfl) ?_;(· (first|exact cyD|fail));(· first|exact vyD|skip))
end Go.Sy
end
noncomputable section
set_option maxRecDepth 100000
namespace Go.Sy
open Go.Ev Go.Proofs
abbrev Lev:=List (List Nat)×Nat
def yp:List (List Nat):=[[45],[33],[88],[70],[71],[89],[90],[79],[72]]
def v8 (text:List Nat):Nat:=5+yp.idxOf text
inductive PR where
 |ok (x:Ex) (j:Nat)
 |er (t:Tk)
mutual
def qw (ts:List Tk):Nat->List Lev->Nat->Nat->Option PR
 |0,_,_,_=>none
 |n+1,[],i,d=>yX ts n i d
 |n+1,v :: l,i,d=>match qw ts n l i d with
  |some (.ok x j)=>zx ts n v l x j d
  |r=>r
def zx (ts:List Tk):Nat->Lev->List Lev->Ex->Nat->Nat->Option PR
 |0,_,_,_,_,_=>none
 |n+1,v,l,x,i,d=>
  if isM (tk ts i) v.1=true then
   (if v.2=1 then(match qw ts n (v :: l) (i+1) d with
    |some (.ok y j)=>some (.ok (zA (tk ts i) x y) j)
    |r=>r)
   else(match qw ts n l (i+1) d with
    |some (.ok y j)=>if v.2=2 then some (.ok (zA (tk ts i) x y) j) else zx ts n v l (zA (tk ts i) x y) j d
    |r=>r))
  else some (.ok x i)
def yX (ts:List Tk):Nat->Nat->Nat->Option PR
 |0,_,_=>none
 |n+1,i,d=>
  if isM (tk ts i) yp=true then
   (if 60<d+1 then some (.er (tk ts (i+1))) else(match yX ts n (i+1) (d+1) with
    |some (.ok x j)=>some (.ok (.mk (v8 (tk ts i).text:Nat) 0 [] [x] (tk ts i).line (tk ts i).col) j)
    |r=>r))
  else Jc ts n i d
def Jc (ts:List Tk):Nat->Nat->Nat->Option PR
 |0,_,_=>none
 |n+1,i,d=>
  if(tk ts i).kind=2 then some (.ok (.mk 1 (tk ts i).num [] [] (tk ts i).line (tk ts i).col) (i+1))
  else if(tk ts i).kind=1 then some (.ok (.mk 3 0 (tk ts i).text [] (tk ts i).line (tk ts i).col) (i+1))
  else if isM (tk ts i) [[116,114,117,101]]=true then some (.ok (.mk 2 1 [] [] (tk ts i).line (tk ts i).col) (i+1))
  else if isM (tk ts i) [[102,97,108,115,101]]=true then some (.ok (.mk 2 0 [] [] (tk ts i).line (tk ts i).col) (i+1))
  else if isM (tk ts i) [[40]]=true then
   (if 60<d+1 then some (.er (tk ts (i+1))) else(match qw ts n yC (i+1) (d+1) with
    |some (.ok x j)=>if isM (tk ts j) [[41]]=true then some (.ok x (j+1)) else some (.er (tk ts j))
    |r=>r))
  else some (.er (tk ts i))
end
structure Wds (ts:List Tk):Prop where
 len:ts.length<=1000000
 next:∀ i,i<ts.length->(tk ts i).kind≠5->i+1<ts.length
 txt:∀ i,(tk ts i).text.length<=65536
theorem wu {t:Tk}{S:List (List Nat)}(h:isM t S=true):(t.kind=3\/t.kind=4)/\t.text∈S:=by
 simpa[isM] using h
theorem Wds.isM {ts:List Tk}(W:Wds ts){i:Nat}(hi:i<ts.length){S:List (List Nat)}(h:isM (tk ts i) S=true):i+1<ts.length:=W.next i hi (by have:=(wu h).1;omega)
def Sz (ts:List Tk)(i:Nat)(a:Nat)(r:PR):Prop:=match r with | .ok x j=>i<=j/\j<ts.length/\szE x<=a+(j - i) * 65537 | .er _=>True
theorem YA (op num:Int)(nm:List Nat)(ks:List Ex)(l c:Int):szE (.mk op num nm ks l c)=JW ks+nm.length+1:=rfl
theorem jfU (t:Tk)(x y:Ex):szE (zA t x y)<=szE x+szE y+1:=by
 unfold zA;split
 ·rw[YA];simp[JW]
 ·rw[YA];simp[JW]
theorem YX {ts:List Tk}(W:Wds ts):∀ n,(∀ lv i d r,qw ts n lv i d=some r->i<ts.length->Sz ts i 0 r)/\(∀ v l x i d r,zx ts n v l x i d=some r->i<ts.length->Sz ts i (szE x) r)/\(∀ i d r,yX ts n i d=some r->i<ts.length->Sz ts i 0 r)/\(∀ i d r,Jc ts n i d=some r->i<ts.length->Sz ts i 0 r):=by
 intro n;induction n with
 |zero=>exact⟨λ_ _ _ _ h=>(by simp[qw] at h),λ_ _ _ _ _ _ h=>(by simp[zx] at h),λ_ _ _ h=>(by simp[yX] at h),λ_ _ _ h=>(by simp[Jc] at h)⟩
 |succ n ih=>
  obtain⟨iE,iL,iP,iV⟩:=ih;refine⟨λlv i d r h hi=>?_,λv l x i d r h hi=>?_,λi d r h hi=>?_,λi d r h hi=>?_⟩
  ·cases lv with
   |nil=>unfold qw at h;exact iP i d r h hi
   |cons v l=>
    unfold qw at h;cases hx:qw ts n l i d with
    |none=>rw[hx] at h;cases h
    |some q=>cases q with
     |er t=>rw[hx] at h;cases h;trivial
     |ok x j=>
      rw[hx] at h;have h1:=iE l i d _ hx hi;have h2:=iL v l x j d r h h1.2.1;cases r with
      |er t=>trivial
      |ok y k=>
       simp only[Sz] at h1 h2 ⊢;obtain⟨a1,a2,a3⟩:=h1;obtain⟨b1,b2,b3⟩:=h2;refine⟨by omega,b2,?_⟩;have:(k - i) * 65537=(k - j) * 65537+(j - i) * 65537:=by rw[<-Qbd];congr 1;omega
       omega
  ·unfold zx at h;by_cases c:isM (tk ts i) v.1=true
   ·rw[if_pos c] at h;have hi1:=W.isM hi c;have key:∀ lv y j,qw ts n lv (i+1) d=some (.ok y j)->i<=j/\j<ts.length/\szE (zA (tk ts i) x y)<=szE x+(j - i) * 65537:=λlv y j he=>by
     have h1:=iE lv (i+1) d _ he hi1;simp only[Sz] at h1;obtain⟨a1,a2,a3⟩:=h1;have:=jfU (tk ts i) x y;have:(j - i) * 65537=(j - (i+1)) * 65537+65537:=by rw[<-QbI];congr 1;omega
     exact⟨by omega,a2,by omega⟩
    by_cases w1:v.2=1
    ·rw[if_pos w1] at h;cases he:qw ts n (v :: l) (i+1) d with
     |none=>rw[he] at h;cases h
     |some q=>cases q with
      |er t=>rw[he] at h;cases h;trivial
      |ok y j=>rw[he] at h;cases h;exact key _ y j he
    ·rw[if_neg w1] at h;cases he:qw ts n l (i+1) d with
     |none=>rw[he] at h;cases h
     |some q=>cases q with
      |er t=>rw[he] at h;cases h;trivial
      |ok y j=>
       rw[he] at h;have hk:=key _ y j he;by_cases w2:v.2=2
       ·simp only[w2,if_true] at h;cases h;exact hk
       ·simp only[w2,if_false] at h;have h2:=iL v l _ j d r h hk.2.1;cases r with
        |er t=>trivial
        |ok z k=>
         simp only[Sz] at h2 ⊢;obtain⟨b1,b2,b3⟩:=h2;refine⟨by omega,b2,?_⟩;have:(k - i) * 65537=(k - j) * 65537+(j - i) * 65537:=by rw[<-Qbd];congr 1;omega
         omega
   ·rw[if_neg c] at h;cases h;exact⟨Qag _,hi,by omega⟩
  ·unfold yX at h;by_cases c:isM (tk ts i) yp=true
   ·rw[if_pos c] at h;have hi1:=W.isM hi c;by_cases hd:60<d+1
    ·rw[if_pos hd] at h;cases h;trivial
    ·rw[if_neg hd] at h;cases he:yX ts n (i+1) (d+1) with
     |none=>rw[he] at h;cases h
     |some q=>cases q with
      |er t=>rw[he] at h;cases h;trivial
      |ok y j=>
       rw[he] at h;cases h;have h1:=iP (i+1) (d+1) _ he hi1;simp only[Sz] at h1 ⊢;obtain⟨a1,a2,a3⟩:=h1;have:(j - i) * 65537=(j - (i+1)) * 65537+65537:=by rw[<-QbI];congr 1;omega
       refine⟨by omega,a2,?_⟩;rw[YA];simp[JW];omega
   ·rw[if_neg c] at h;exact iV i d r h hi
  ·unfold Jc at h;have ht:=W.txt i;have leaf:∀ (x:Ex),szE x<=65537->i+1<ts.length->Sz ts i 0 (.ok x (i+1)):=λx hx h1=>⟨by omega,h1,by omega⟩;by_cases k2:(tk ts i).kind=2
   ·rw[if_pos k2] at h;cases h;exact leaf _ (by rw[YA];simp[JW]) (W.next i hi (by omega))
   rw[if_neg k2] at h;by_cases k1:(tk ts i).kind=1
   ·rw[if_pos k1] at h;cases h;exact leaf _ (by rw[YA];simp[JW];omega) (W.next i hi (by omega))
   rw[if_neg k1] at h;split at h
   ·cases h;exact leaf _ (by rw[YA];simp[JW]) (W.isM hi ‹_›)
   split at h
   ·cases h;exact leaf _ (by rw[YA];simp[JW]) (W.isM hi ‹_›)
   split at h
   ·rename_i c;have hi1:=W.isM hi c;by_cases hd:60<d+1
    ·rw[if_pos hd] at h;cases h;trivial
    ·rw[if_neg hd] at h;cases he:qw ts n yC (i+1) (d+1) with
     |none=>rw[he] at h;cases h
     |some q=>cases q with
      |er t=>rw[he] at h;cases h;trivial
      |ok y j=>
       rw[he] at h;have h1:=iE yC (i+1) (d+1) _ he hi1;simp only[Sz] at h1;obtain⟨a1,a2,a3⟩:=h1;dsimp only at h;by_cases c2:isM (tk ts j) [[41]]=true
       ·rw[if_pos c2] at h;cases h;have:=W.isM a2 c2;simp only[Sz];exact⟨by omega,this,Qas a3 (Nat.add_le_add_left (Qbg _ (by omega)) _)⟩
       ·rw[if_neg c2] at h;cases h;trivial
   ·cases h;trivial
end Go.Sy
end
noncomputable section
set_option maxRecDepth 100000
namespace Go.Sy
open Go.Ev Go.Proofs
variable {base:Bs}
def Ans (base:Bs)(f:FuncId)(c xs:List AV)(ts:List Tk)(d:Nat):PR->Prop
 |.ok x j=>PM Qaf base f c xs (.ok (.agg (eE x))) (pC ts j d)
 |.er t=>∃ i' d',PM Qaf base f c xs (.pn (er t)) (pC ts i' d')
def okL (lv:List Lev):Prop:=lv.length<=8/\∀ v∈lv,v.1.length<=6
def IsE (base:Bs)(ts:List Tk)(n:Nat):Prop:=∀ lv i d r,qw ts n lv i d=some r->i<ts.length->d<=60->okL lv->Ans base 27 (pC ts i d) [.lst lv.length (fl Jz lv)] ts d r
def IsP (base:Bs)(ts:List Tk)(n:Nat):Prop:=∀ i d r,yX ts n i d=some r->i<ts.length->d<=60->Ans base 48 (pC ts i d) [] ts d r
def IsV (base:Bs)(ts:List Tk)(n:Nat):Prop:=∀ i d r,Jc ts n i d=some r->i<ts.length->d<=60->Ans base 63 (pC ts i d) [] ts d r
theorem jjo:Go.Ev.isAgg Qaf 2=some false:=by kernel_rfl
theorem jjn:Go.Ev.sizeOf Qaf 2=some 1:=by kernel_rfl
theorem jir:Go.Ev.isAgg Qaf 54=some true:=by kernel_rfl
theorem jiq:Go.Ev.sizeOf Qaf 54=some 5:=by kernel_rfl
theorem sm2 {b o:Nat}{v:AV}{h:T AO}(ho:o<qe h b)(hv:rat h b o=v)(hc:eqs v=true):(jN Qaf 2 (.ptr b o) v h=true)=True:=eq_true (zP jjo jjn ho hv hc)
theorem sm9 {b o:Nat}{v:AV}{h:T AO}(ho:o<qe h b)(hv:rat h b o=v)(hc:eqs v=true):(jN Qaf 9 (.ptr b o) v h=true)=True:=eq_true (zP jdw jdv ho hv hc)
theorem QB (k:IntKind)(n:Int):eqs (.int k n)=true:=nr rfl
theorem QA (l:List Nat):eqs (.str l)=true:=nr rfl
set_option maxHeartbeats 4000000 in
theorem jfM (hb:NB base){ts:List Tk}(W:Wds ts){n:Nat}(ihE:IsE base ts n):IsV base ts (n+1):=by
 intro i d r h hi hd;have hN:=λst p=>@Xp base hb ts i d hi st p;have wl:=W.len;have hx:(i:Int)+1=((i+1:Nat):Int):=by omega
 unfold Jc at h;by_cases k2:(tk ts i).kind=2
 ·rw[if_pos k2] at h;cases h;have k2':((tk ts i).kind:Int)=2:=by omega
  show PM _ _ _ _ _ _ _;unfold pC at *;refine jR ZY (by rfl) (hb.pur 63 3 (by decide)) rfl ?_;simp only[Zl,jn,Qaj,Qam,Qah,Qai];rw[(by unfold Jb;simp only[qq];rfl:Jb=_)]
  (have zz:=aI @QB @QA;(repeat'(first|(apply jb<;>intro _)|simp(disch:=first|exact qm|fail) only[hN,k2',sm2,QB,QA,jj,Tk.cells_R,rzZ,Qab,Qac,Qad,Qaa,Qae]));(all_goals(clear zz)))
  (refine G1.done ?_ (by rfl) (by rfl) ?_;(· (first|exact cyD|fail));(· first|exact vyD|skip))
 rw[if_neg k2] at h;have k2':¬ ((tk ts i).kind:Int)=2:=by omega
 by_cases k1:(tk ts i).kind=1
 ·rw[if_pos k1] at h;cases h;have k1':((tk ts i).kind:Int)=1:=by omega
  show PM _ _ _ _ _ _ _;unfold pC at *;refine jR ZY (by rfl) (hb.pur 63 3 (by decide)) rfl ?_;simp only[Zl,jn,Qaj,Qam,Qah,Qai];rw[(by unfold Jb;simp only[qq];rfl:Jb=_)]
  (have zz:=aI @QB @QA;(repeat'(first|(apply jb<;>intro _)|simp(disch:=first|exact qm|fail) only[hN,k2',k1',sm9,QB,QA,jj,Tk.cells_R,rzZ,Qab,Qac,Qad,Qaa,Qae]));(all_goals(clear zz)))
  (refine G1.done ?_ (by rfl) (by rfl) ?_;(· (first|exact cyD|fail));(· first|exact vyD|skip))
 rw[if_neg k1] at h;have k1':¬ ((tk ts i).kind:Int)=1:=by omega
 have T:=jeb hb (tk ts i) [[116,114,117,101]] (cs:=[.str [116,114,117,101]]) (n:=1) rfl rfl (by decide);have F:=jeb hb (tk ts i) [[102,97,108,115,101]] (cs:=[.str [102,97,108,115,101]]) (n:=1) rfl rfl (by decide);have B:=jeb hb (tk ts i) [[40]] (cs:=[.str [40]]) (n:=1) rfl rfl (by decide);by_cases c1:isM (tk ts i) [[116,114,117,101]]=true
 ·rw[if_pos c1] at h;cases h;show PM _ _ _ _ _ _ _;unfold pC at *;refine jR ZY (by rfl) (hb.pur 63 3 (by decide)) rfl ?_;simp only[Zl,jn,Qaj,Qam,Qah,Qai];rw[(by unfold Jb;simp only[qq];rfl:Jb=_)];repeat'(first|(apply jb<;>intro _)|simp(disch:=first|exact dzD|fail) only[hN,k2',k1',T,c1,jj,Tk.cells_R,rzZ,Qab,Qac,Qad,Qaa,Qae])
  (refine G1.done ?_ (by rfl) (by rfl) ?_;(· (first|exact cyD|fail));(· first|exact vyD|skip))
 rw[if_neg c1] at h;by_cases c2:isM (tk ts i) [[102,97,108,115,101]]=true
 ·rw[if_pos c2] at h;cases h;show PM _ _ _ _ _ _ _;unfold pC at *;refine jR ZY (by rfl) (hb.pur 63 3 (by decide)) rfl ?_;simp only[Zl,jn,Qaj,Qam,Qah,Qai];rw[(by unfold Jb;simp only[qq];rfl:Jb=_)];repeat'(first|(apply jb<;>intro _)|simp(disch:=first|exact dzD|fail) only[hN,k2',k1',T,F,c1,c2,jj,Tk.cells_R,rzZ,Qab,Qac,Qad,Qaa,Qae])
  (refine G1.done ?_ (by rfl) (by rfl) ?_;(· (first|exact cyD|fail));(· first|exact vyD|skip))
 rw[if_neg c2] at h;by_cases c3:isM (tk ts i) [[40]]=true
 ·rw[if_pos c3] at h;have hi1:=W.isM hi c3;have O:=λst p=>@jb0 base hb ts (i+1) d hi1 (by omega) st p;by_cases hd2:60<d+1
  ·rw[if_pos hd2] at h;cases h;refine⟨i+1,d+1,?_⟩;unfold pC at *;refine jR ZY (by rfl) (hb.pur 63 3 (by decide)) rfl ?_;simp only[Zl,jn,Qaj,Qam,Qah,Qai];rw[(by unfold Jb;simp only[qq];rfl:Jb=_)];repeat'(first|(apply jb<;>intro _)|simp(disch:=first|exact dzD|fail) only[hN,k2',k1',T,F,B,c1,c2,c3,O,hx,hd2,jj,Tk.cells_R,rzZ,Qab,Qac,Qad,Qaa,Qae])
   (refine G1.done ?_ (by rfl) (by rfl) ?_;(· (first|exact cyD|fail));(· first|exact vyD|skip))
  ·rw[if_neg hd2] at h;cases he:qw ts n yC (i+1) (d+1) with
   |none=>rw[he] at h;cases h
   |some q=>
    have A:=ihE _ _ _ _ he hi1 (by omega) ⟨by decide,by decide⟩;have hL:=K4 hb;have hz:=(YX W n).1 _ _ _ _ he hi1;cases q with
    |er t=>
     rw[he] at h;cases h;obtain⟨i',d',A⟩:=A;have E:∀ st p,Cl st p (pC ts (i+1) (d+1))->∀ K Kp,XB Qaf base 27 [.ptr p 0,.lst 8 (fl Jz yC)] st K Kp=_:=λst p C K Kp=>A.xb C rfl (λst=>hb.no 27 (by decide) _ _) K Kp;refine⟨i',d',?_⟩;unfold pC at *;refine jR ZY (by rfl) (hb.pur 63 3 (by decide)) rfl ?_;simp only[Zl,jn,Qaj,Qam,Qah,Qai];rw[(by unfold Jb;simp only[qq];rfl:Jb=_)];repeat'(first|(apply jb<;>intro _)|simp(disch:=first|exact dzD|fail) only[hN,k2',k1',T,F,B,c1,c2,c3,O,hx,hd2,hL,E,jj,Tk.cells_R,rzZ,Qab,Qac,Qad,Qaa,Qae])
     (refine G1.done ?_ (by rfl) (by rfl) ?_;(· (first|exact cyD|fail));(· first|exact vyD|skip))
    |ok x j=>
     rw[he] at h;dsimp only at h;have A:PM _ _ _ _ _ _ _:=A;have E:∀ st p,Cl st p (pC ts (i+1) (d+1))->∀ K Kp,XB Qaf base 27 [.ptr p 0,.lst 8 (fl Jz yC)] st K Kp=_:=λst p C K Kp=>A.xb C rfl (λst=>hb.no 27 (by decide) _ _) K Kp;have hj:j<ts.length:=hz.2.1;have M:=λst p=>@Jk base hb ts j d hj (by omega) [41] st p;have e1:((d+1:Nat):Int) - 1=(d:Int):=by omega
     by_cases c4:isM (tk ts j) [[41]]=true
     ·rw[if_pos c4] at h;cases h;show PM _ _ _ _ _ _ _;unfold pC at *;refine jR ZY (by rfl) (hb.pur 63 3 (by decide)) rfl ?_;simp only[Zl,jn,Qaj,Qam,Qah,Qai];rw[(by unfold Jb;simp only[qq];rfl:Jb=_)];repeat'(first|(apply jb<;>intro _)|simp(disch:=first|exact dzD|fail) only[hN,k2',k1',T,F,B,c1,c2,c3,O,hx,hd2,hL,E,e1,M,c4,jj,Tk.cells_R,rzZ,Qab,Qac,Qad,Qaa,Qae])
      (refine G1.done ?_ (by rfl) (by rfl) ?_;(· (first|exact cyD|fail));(· first|exact vyD|skip))
     ·rw[if_neg c4] at h;cases h;refine⟨j,d,?_⟩;unfold pC at *;refine jR ZY (by rfl) (hb.pur 63 3 (by decide)) rfl ?_;simp only[Zl,jn,Qaj,Qam,Qah,Qai];rw[(by unfold Jb;simp only[qq];rfl:Jb=_)];repeat'(first|(apply jb<;>intro _)|simp(disch:=first|exact dzD|fail) only[hN,k2',k1',T,F,B,c1,c2,c3,O,hx,hd2,hL,E,e1,M,c4,jj,Tk.cells_R,rzZ,Qab,Qac,Qad,Qaa,Qae])
      (refine G1.done ?_ (by rfl) (by rfl) ?_;(· (first|exact cyD|fail));(· first|exact vyD|skip))
 ·rw[if_neg c3] at h;cases h;refine⟨i,d,?_⟩;unfold pC at *;refine jR ZY (by rfl) (hb.pur 63 3 (by decide)) rfl ?_;simp only[Zl,jn,Qaj,Qam,Qah,Qai];rw[(by unfold Jb;simp only[qq];rfl:Jb=_)];repeat'(first|(apply jb<;>intro _)|simp(disch:=first|exact dzD|fail) only[hN,k2',k1',T,F,B,c1,c2,c3,Jm hb,jj,Tk.cells_R,rzZ,Qab,Qac,Qad,Qaa,Qae])
  (refine G1.done ?_ (by rfl) (by rfl) ?_;(· (first|exact cyD|fail));(· first|exact vyD|skip))
end Go.Sy
end
noncomputable section
set_option maxRecDepth 100000
namespace Go.Sy
open Go.Ev Go.Proofs
variable {base:Bs}
theorem GQ:∀ k:Nat,k<9->sgn ((5+k:Nat):Int)=yp.getD k []:=by decide
theorem jgh {x:List Nat}(h:x∈yp):yp.idxOf x<9/\sgn ((5+yp.idxOf x:Nat):Int)=x/\∀ j,j<yp.idxOf x->sgn ((5+j:Nat):Int)≠x:=by
 have h9:yp.idxOf x<9:=List.idxOf_lt_length_of_mem h;refine⟨h9,?_,λj hj=>?_⟩
 ·rw[GQ _ h9,QaE,Qav (show yp.idxOf x<yp.length from h9)];simp
 ·rw[GQ _ (by omega),QaE,Qav (show j<yp.length by show j<9;omega)];intro he;have hlt:j<yp.findIdx (· == x):=hj;have hno:=List.not_of_lt_findIdx hlt;have he':yp[j]'(show j<yp.length by show j<9;omega)=x:=he;rw[he'] at hno;simp at hno
set_option maxHeartbeats 4000000 in
theorem jdW (hb:NB base){ts:List Tk}(W:Wds ts){n:Nat}(ihP:IsP base ts n)(ihV:IsV base ts n):IsP base ts (n+1):=by
 intro i d r h hi hd;have wl:=W.len;have hx:(i:Int)+1=((i+1:Nat):Int):=by omega
 have T:=QJ hb hi (d:=d) (by omega) yp (cs:=[.str [45],.str [33],.str [88],.str [70],.str [71],.str [89],.str [90],.str [79],.str [72]]) (n:=9) rfl rfl (by decide);unfold yX at h;by_cases c1:isM (tk ts i) yp=true
 ·rw[if_pos c1] at h;have hi1:=W.isM hi c1;have O:=λst p=>@jb0 base hb ts (i+1) d hi1 (by omega) st p;by_cases hd2:60<d+1
  ·rw[if_pos hd2] at h;cases h;refine⟨i+1,d+1,?_⟩;unfold pC at *;refine jR Kx (by rfl) (hb.pur 48 3 (by decide)) rfl ?_;simp only[Vq,jn,Qaj,Qam,Qah,Qai];rw[(by unfold Yu;simp only[qq];rfl:Yu=_)];repeat'(first|(apply jb<;>intro _)|simp(disch:=first|exact dzD|fail) only[T,c1,O,hd2,jj,Tk.cells_R,rzZ,Qab,Qac,Qad,Qaa,Qae])
   (refine G1.done ?_ (by rfl) (by rfl) ?_;(· (first|exact cyD|fail));(· first|exact vyD|skip))
  ·rw[if_neg hd2] at h;cases he:yX ts n (i+1) (d+1) with
   |none=>rw[he] at h;cases h
   |some q=>
    have A:=ihP _ _ _ he hi1 (by omega);have hz:=(YX W n).2.2.1 _ _ _ he hi1;cases q with
    |er t=>
     rw[he] at h;cases h;obtain⟨i',d',A⟩:=A;have E:∀ st p,Cl st p (pC ts (i+1) (d+1))->∀ K Kp,XB Qaf base 48 [.ptr p 0] st K Kp=_:=λst p C K Kp=>A.xb C rfl (λst=>hb.no 48 (by decide) _ _) K Kp;refine⟨i',d',?_⟩;unfold pC at *;refine jR Kx (by rfl) (hb.pur 48 3 (by decide)) rfl ?_;simp only[Vq,jn,Qaj,Qam,Qah,Qai];rw[(by unfold Yu;simp only[qq];rfl:Yu=_)];repeat'(first|(apply jb<;>intro _)|simp(disch:=first|exact dzD|fail) only[T,c1,O,hd2,E,jj,Tk.cells_R,rzZ,Qab,Qac,Qad,Qaa,Qae])
     (refine G1.done ?_ (by rfl) (by rfl) ?_;(· (first|exact cyD|fail));(· first|exact vyD|skip))
    |ok x j=>
     rw[he] at h;cases h;have A:PM _ _ _ _ _ _ _:=A;have E:∀ st p,Cl st p (pC ts (i+1) (d+1))->∀ K Kp,XB Qaf base 48 [.ptr p 0] st K Kp=_:=λst p C K Kp=>A.xb C rfl (λst=>hb.no 48 (by decide) _ _) K Kp;have hj:j<ts.length:=hz.2.1;have e1:((d+1:Nat):Int) - 1=(d:Int):=by omega
     show PM _ _ _ _ _ _ _;unfold pC at *;refine jR Kx (by rfl) (hb.pur 48 3 (by decide)) rfl ?_;simp only[Vq,jn,Qaj,Qam,Qah,Qai];rw[(by unfold Yu;simp only[qq];rfl:Yu=_)];repeat'(first|(apply jb<;>intro _)|simp(disch:=first|exact dzD|fail) only[T,c1,O,hd2,E,e1,jj,Tk.cells_R,rzZ,Qab,Qac,Qad,Qaa,Qae])
     obtain⟨x1,x2,x3⟩:=jgh (wu c1).2;refine Zw λu hu=>?_;have n0:u.nx=5:=by rw[hu];rfl
     have C0:Cl u 0 [.lst ts.length (fl Tk.cells ts),.int .i64 (j:Int),.int .i64 (d:Int)]:=by
      rw[hu]
      (first|exact cyD|fail)
     have C1:Cl u 1 [.int .i64 0,.int .i64 0,.str [],.nils,.int .i64 0,.int .i64 0]:=by
      rw[hu]
      (first|exact cyD|fail)
     have C3:Cl u 3 (tk ts i).cells:=by
      rw[hu]
      (first|exact cyD|fail)
     have C4:Cl u 4 (eE x):=by
      rw[hu]
      (first|exact cyD|fail)
     clear hu;have hs:jN Qaf 9 (.ptr 3 1) (.str (tk ts i).text) u.h=true:=Wq jdw jdv C3 (QbE (QbO 3)) rfl rfl;refine zI (λmm L s=>∃ k:Nat,k<=yp.idxOf (tk ts i).text/\mm=yp.idxOf (tk ts i).text - k/\s=u/\Has L 0 (.ptr 0 0)/\Has L 2 (.ptr 1 0)/\Has L 3 (.ptr 3 0)/\Has L 5 (.ptr 4 0)/\Has L 6 (.int .i64 ((5+k:Nat):Int))) ?_ (yp.idxOf (tk ts i).text) ?_
     ·rintro mm L s ⟨k,hk,rfl,rfl,i0,i2,i3,i5,i6⟩;have hS:=jcU hb ((5+k:Nat):Int);by_cases hk2:k=yp.idxOf (tk ts i).text
      ·rw[<-hk2] at x2
       (have zz:=aI @n0 (aI C0.r (aI C1.r (aI C3.r C4.r)));(repeat'(first|(apply jb<;>intro _)|simp(disch:=first|exact qm|fail) only[ja i0,ja i2,ja i3,ja i5,ja i6,hS,hs,x2,C0.q,C1.q,C3.q,C4.q,n0,C0.r,C1.r,C3.r,C4.r,jj,Tk.cells_R,rzZ,Qab,Qac,Qad,Qaa,Qae]));(all_goals(clear zz)))
       rw[show v8 (tk ts i).text=5+k by unfold v8;rw[<-hk2],<-yg];refine G1.done ?_ (by rfl) (by rfl) (G6 (ks:=[x]) (b:=5) (cs:=eE x) ?_ (by rw[Xz]) (by decide))
       ·(have zz:=aI C0.q (aI @n0 C0.r);first|exact jX|fail)
       ·rw[jI,jH (by decide),<-n0];exact Cl.new s _
      ·have x3':=x3 k (by omega)
       (have zz:=aI @n0 (aI C0.r (aI C1.r (aI C3.r C4.r)));(repeat'(first|(apply jb<;>intro _)|simp(disch:=first|exact qm|fail) only[ja i0,ja i2,ja i3,ja i5,ja i6,hS,hs,x3',C0.q,C1.q,C3.q,C4.q,n0,C0.r,C1.r,C3.r,C4.r,jj,Tk.cells_R,rzZ,Qab,Qac,Qad,Qaa,Qae]));(all_goals(clear zz)))
       refine⟨yp.idxOf (tk ts i).text - (k+1),by omega,k+1,by omega,rfl,?_⟩;rw[show((5+(k+1):Nat):Int)=((5+k:Nat):Int)+1 by omega];simp(disch:=decide) only[Qan,Qaq,z0,z1,ji,jc,and_true,true_and,i0,i2,i3,i5]
     ·refine⟨0,by omega,rfl,rfl,?_⟩;rw[show((5+0:Nat):Int)=5 from rfl];simp(disch:=decide) only[Qan,Qaq,z0,z1,ji,jc,and_true,true_and]
 ·rw[if_neg c1] at h;have A:=ihV _ _ _ h hi hd;cases r with
  |er t=>
   obtain⟨i',d',A⟩:=A;have E:∀ st p,Cl st p (pC ts i d)->∀ K Kp,XB Qaf base 63 [.ptr p 0] st K Kp=_:=λst p C K Kp=>A.xb C rfl (λst=>hb.no 63 (by decide) _ _) K Kp;refine⟨i',d',?_⟩;unfold pC at *;refine jR Kx (by rfl) (hb.pur 48 3 (by decide)) rfl ?_;simp only[Vq,jn,Qaj,Qam,Qah,Qai];rw[(by unfold Yu;simp only[qq];rfl:Yu=_)];repeat'(first|(apply jb<;>intro _)|simp(disch:=first|exact dzD|fail) only[T,c1,E,jj,Tk.cells_R,rzZ,Qab,Qac,Qad,Qaa,Qae])
   (refine G1.done ?_ (by rfl) (by rfl) ?_;(· (first|exact cyD|fail));(· first|exact vyD|skip))
  |ok x j=>
   have A:PM _ _ _ _ _ _ _:=A;have E:∀ st p,Cl st p (pC ts i d)->∀ K Kp,XB Qaf base 63 [.ptr p 0] st K Kp=_:=λst p C K Kp=>A.xb C rfl (λst=>hb.no 63 (by decide) _ _) K Kp;show PM _ _ _ _ _ _ _;unfold pC at *;refine jR Kx (by rfl) (hb.pur 48 3 (by decide)) rfl ?_;simp only[Vq,jn,Qaj,Qam,Qah,Qai];rw[(by unfold Yu;simp only[qq];rfl:Yu=_)];repeat'(first|(apply jb<;>intro _)|simp(disch:=first|exact dzD|fail) only[T,c1,E,jj,Tk.cells_R,rzZ,Qab,Qac,Qad,Qaa,Qae])
   (refine G1.done ?_ (by rfl) (by rfl) ?_;(· (first|exact cyD|fail));(· first|exact vyD|skip))
end Go.Sy
end
noncomputable section
set_option maxRecDepth 100000
namespace Go.Sy
open Go.Ev Go.Proofs
variable {base:Bs}
theorem Wk {α:Type}{enc:α->List AV}{z:Nat}(hz:∀ x,(enc x).length=z)(x:α)(xs:List α){k:IntKind}{n:Nat}(hn:n=xs.length+1){st:St}{K:AV->St->Prop}:jd (wO z (.lst n (fl enc (x :: xs))) (some (.int k 1)) none st) K=K (.lst xs.length (fl enc xs)) st:=by
 subst hn;have e1:Qak 1 (xs.length+1)=true:=qY (by omega);have e2:Qak (xs.length+1) (xs.length+1)=true:=qY (Qag _);have e3:Qak (Qar (xs.length+1) z) (jz (fl enc (x :: xs)))=true:=qY (by rw[jD,zG hz];exact Qag _);have e4:(AV.int k 1)=.int k ((1:Nat):Int):=rfl;have e5:qX (yz (fl enc (x :: xs)) (Qar 1 z)) (Qar (QaS (xs.length+1) 1) z)=fl enc xs:=by
  rw[qJ,yy];show((fl enc (x :: xs)).drop (1 * z)).take ((xs.length+1 - 1) * z)=_;rw[VX hz,Nat.add_sub_cancel];show(fl enc xs).take _=_;rw[<-zG hz,QaY]
 rw[e4];simp only[wO,optA,G2,e1,e2,e3,cond_true,jd];rw[e5];rfl
theorem YJ (v:Lev):(Jz v).length=2:=nr rfl
theorem ue (v:Lev)(l:List Lev){st:St}{K:AV->St->Prop}:jd (yV (.lptr (fl Jz (v :: l)) 0) st) K=K (.lst v.1.length (v.1.map .str)) st:=wM (by rw[Xg,Qat,YJ];omega)
theorem WN (v:Lev)(l:List Lev){st:St}{K:AV->St->Prop}:jd (yV (.lptr (fl Jz (v :: l)) 1) st) K=K (.int .i64 (v.2:Int)) st:=wM (by rw[Xg,Qat,YJ];omega)
theorem KH {b:Nat}{cs:List AV}{h:T AO}(ho:0+5<=qe h b)(hv:rats h b 0 5=cs)(hc:cs.all eqs=true):(jN Qaf 54 (.ptr b 0) (.agg cs) h=true)=True:=eq_true (wQ jir jiq (by decide) ho hv hc)
theorem KI {b:Nat}{cs:List AV}{h:T AO}(ho:0+6<=qe h b)(hv:rats h b 0 6=cs)(hc:cs.all eqs=true):(jN Qaf 25 (.ptr b 0) (.agg cs) h=true)=True:=eq_true (wQ jeZ jeY (by decide) ho hv hc)
theorem Zq (x:Ex):(eE x).all eqs=true:=nr (by rw[yg];rfl)
theorem Zv (t:Tk):t.cells.all eqs=true:=nr rfl
def EK (ts:List Tk)(d:Nat)(r:PR)(v:AV)(s:St):Prop:=match r with | .ok y j=>G1 3 (pC ts j d) (.agg (eE y)) v s | .er _=>False
def EP (ts:List Tk)(r:PR)(v:AV)(s:St):Prop:=match r with | .ok _ _=>False | .er t=>∃ i' d',G1 3 (pC ts i' d') (er t) v s
theorem jaE (ts:List Tk)(d:Nat)(y:Ex)(j:Nat)(v:AV)(s:St):EK ts d (.ok y j) v s=G1 3 (pC ts j d) (.agg (eE y)) v s:=nr rfl
theorem jfv (ts:List Tk)(t:Tk)(v:AV)(s:St):EP ts (.er t) v s = ∃ i' d',G1 3 (pC ts i' d') (er t) v s:=nr rfl
theorem jeB {f:FuncId}{F:XF}(hl:jO Qaf f=some F)(hnd:F.body.nd=true)(hm:base.pur f=3){xs:List AV}{ts:List Tk}{i d:Nat}{r:PR}
  (h:xC Qaf base F.body (jn F.ps (.ptr 0 0 :: xs)) (nw st0 (pC ts i d)) (XM Qaf F.res (EK ts d r)) λv _ s=>EP ts r v s.bare):Ans base f (pC ts i d) xs ts d r:=by
 rw[<-VN] at h;obtain⟨q,he,hq⟩:=YT (st:=Xe (pC ts i d)) (K:=EK ts d r) (Kp:=EP ts r) hl hnd h;cases r with
 |ok y j=>
  refine PM.of hm rfl ⟨q,he,?_⟩;cases q<;>first|exact hq|exact hq.elim
 |er t=>
  cases q with
  |no=>exact hq.elim
  |ok v s=>exact(hq:False).elim
  |pn v s=>
   obtain⟨i',d',hq⟩:=(hq:∃ i' d',G1 3 (pC ts i' d') (er t) v s);exact⟨i',d',PM.of hm rfl ⟨_,he,hq⟩⟩
set_option maxHeartbeats 4000000 in
theorem jhT (hb:NB base){ts:List Tk}(W:Wds ts){n:Nat}(ihE:∀ m,m<=n->IsE base ts m)(ihP:IsP base ts n):IsE base ts (n+1):=by
 intro lv i d r h hi hd ok;have wl:=W.len;unfold qw at h;cases lv with
 |nil=>
  dsimp only at h;have A:=ihP _ _ _ h hi hd;cases r with
  |er t=>
   obtain⟨i',d',A⟩:=A;have E:∀ st p,Cl st p (pC ts i d)->∀ K Kp,XB Qaf base 48 [.ptr p 0] st K Kp=_:=λst p C K Kp=>A.xb C rfl (λst=>hb.no 48 (by decide) _ _) K Kp;refine⟨i',d',?_⟩;unfold pC at *;refine jR x93 (by rfl) (hb.pur 27 3 (by decide)) rfl ?_;simp only[y93,jn,Qaj,Qam,Qah,Qai];rw[(by unfold z93;simp only[qq];rfl:z93=_)];repeat'(first|(apply jb<;>intro _)|simp(disch:=first|exact dzD|fail) only[E,jj,Tk.cells_R,rzZ,Qab,Qac,Qad,Qaa,Qae])
   (refine G1.done ?_ (by rfl) (by rfl) ?_;(· (first|exact cyD|fail));(· first|exact vyD|skip))
  |ok x j=>
   have A:PM _ _ _ _ _ _ _:=A;have E:∀ st p,Cl st p (pC ts i d)->∀ K Kp,XB Qaf base 48 [.ptr p 0] st K Kp=_:=λst p C K Kp=>A.xb C rfl (λst=>hb.no 48 (by decide) _ _) K Kp;show PM _ _ _ _ _ _ _;unfold pC at *;refine jR x93 (by rfl) (hb.pur 27 3 (by decide)) rfl ?_;simp only[y93,jn,Qaj,Qam,Qah,Qai];rw[(by unfold z93;simp only[qq];rfl:z93=_)];repeat'(first|(apply jb<;>intro _)|simp(disch:=first|exact dzD|fail) only[E,jj,Tk.cells_R,rzZ,Qab,Qac,Qad,Qaa,Qae])
   (refine G1.done ?_ (by rfl) (by rfl) ?_;(· (first|exact cyD|fail));(· first|exact vyD|skip))
 |cons v l=>
  dsimp only at h;have hlen:(0:Int)<((l.length+1:Nat):Int):=by omega
  have hlen2:¬ ((l.length+1:Nat):Int)=0:=by omega
  cases he:qw ts n l i d with
  |none=>rw[he] at h;cases h
  |some q=>
   have A:=ihE n (Qag _) _ _ _ _ he hi hd ⟨by have:=ok.1;simp at this;omega,λw hw=>ok.2 w (QbM _ hw)⟩;have hz:=(YX W n).1 _ _ _ _ he hi;cases q with
   |er t=>
    rw[he] at h;cases h;obtain⟨i',d',A⟩:=A;have E:∀ st p,Cl st p (pC ts i d)->∀ K Kp,XB Qaf base 27 [.ptr p 0,.lst l.length (fl Jz l)] st K Kp=_:=λst p C K Kp=>A.xb C rfl (λst=>hb.no 27 (by decide) _ _) K Kp;refine⟨i',d',?_⟩;unfold pC at *;refine jR x93 (by rfl) (hb.pur 27 3 (by decide)) rfl ?_;simp only[y93,jn,Qaj,Qam,Qah,Qai];rw[(by unfold z93;simp only[qq];rfl:z93=_)];repeat'(first|(apply jb<;>intro _)|simp(disch:=first|exact dzD|fail) only[E,hlen2,Wk YJ v l,jj,Tk.cells_R,rzZ,Qab,Qac,Qad,Qaa,Qae])
    (refine G1.done ?_ (by rfl) (by rfl) ?_;(· (first|exact cyD|fail));(· first|exact vyD|skip))
   |ok x j=>
    rw[he] at h;dsimp only at h;have A:PM _ _ _ _ _ _ _:=A;have E:∀ st p,Cl st p (pC ts i d)->∀ K Kp,XB Qaf base 27 [.ptr p 0,.lst l.length (fl Jz l)] st K Kp=_:=λst p C K Kp=>A.xb C rfl (λst=>hb.no 27 (by decide) _ _) K Kp;have hj:j<ts.length:=hz.2.1;show Ans base 27 (pC ts i d) [.lst (v :: l).length (fl Jz (v :: l))] ts d r;refine jeB x93 (by rfl) (hb.pur 27 3 (by decide)) ?_;simp only[y93,jn,Qaj,Qam,Qah,Qai];rw[(by unfold z93;simp only[qq];rfl:z93=_)];unfold pC at *;repeat'(first|(apply jb<;>intro _)|simp(disch:=first|exact dzD|fail) only[E,hlen2,Wk YJ v l,jj,Tk.cells_R,rzZ,Qab,Qac,Qad,Qaa,Qae])
    refine Zw λu hu=>?_;have n0:3<=u.nx:=by rw[hu];exact Qag _
    have C0:Cl u 0 (pC ts j d):=by
     rw[hu];unfold pC
     (first|exact cyD|fail)
    have C1:Cl u 1 [.int .i64 0,.int .i64 0,.str [],.nils,.int .i64 0,.int .i64 0]:=by
     rw[hu]
     (first|exact cyD|fail)
    have C2:Cl u 2 (eE x):=by
     rw[hu]
     (first|exact cyD|fail)
    clear hu E A;refine zI (λmm L s=>∃ (m i':Nat) (x':Ex),m<=n/\mm=m/\zx ts m v l x' i' d=some r/\i'<ts.length/\3<=s.nx/\Cl s 0 (pC ts i' d)/\Cl s 1 [.int .i64 0,.int .i64 0,.str [],.nils,.int .i64 0,.int .i64 0]/\Cl s 2 (eE x')/\Has L 0 (.ptr 0 0)/\Has L 1 (.lst (l.length+1) (fl Jz (v :: l)))/\Has L 4 (.ptr 1 0)/\Has L 5 (.ptr 2 0)) ?_ n ?_
    ·rintro m L s ⟨_,i',x',hm,rfl,hl,hi',n0,C0,C1,C2,i0,i1,i4,i5⟩;cases m with
     |zero=>simp[zx] at hl
     |succ m=>
     unfold zx at hl;have hx:(i':Int)+1=((i'+1:Nat):Int):=by omega
     have T:=λst p=>@jhi base hb ts i' d hi' (by omega) v.1 (by have:=ok.2 v (by simp);omega) st p;have R2:rats s.h 2 0 6=eE x':=(C2.ratsP 6 0 (by rw[J3];decide)).trans (by rw[QbD,<-J3 x',QaY]);have l2:=C2.len;rw[J3] at l2;have L0:=C0.lt;have L1:=C1.lt;have L2:=C2.lt;by_cases c1:isM (tk ts i') v.1=true
     ·rw[if_pos c1] at hl;have hi1:=W.isM hi' c1;have hw:=λy=>jiE hb (tk ts i') x' y;by_cases w1:v.2=1
      ·rw[if_pos w1] at hl;have w1':(v.2:Int)=1:=by omega
       cases he2:qw ts m (v :: l) (i'+1) d with
       |none=>rw[he2] at hl;cases hl
       |some q=>
        have A:=ihE m (by omega) _ _ _ _ he2 hi1 hd ok;cases q with
        |er t=>
         rw[he2] at hl;cases hl;obtain⟨i2,d2,A⟩:=A;have E:∀ st p,Cl st p (pC ts (i'+1) d)->∀ K Kp,XB Qaf base 27 [.ptr p 0,.lst (l.length+1) (fl Jz (v :: l))] st K Kp=_:=λst p C K Kp=>A.xb C rfl (λst=>hb.no 27 (by decide) _ _) K Kp;unfold pC at *
         (have zz:=aI @Zq (aI @Zv (aI @R2 (aI @l2 (aI C0.r C1.r))));(repeat'(first|(apply jb<;>intro _)|simp(disch:=first|exact qm|fail) only[ja i0,ja i1,ja i4,ja i5,T,c1,E,w1',ue,WN,KH,KI,Ky i5,jfv,R2,C0.q,C1.q,Zq,Zv,R2,l2,C0.r,C1.r,jj,Tk.cells_R,rzZ,Qab,Qac,Qad,Qaa,Qae]));(all_goals(clear zz)))
         refine⟨i2,d2,?_⟩;unfold pC
         (refine G1.done ?_ (by rfl) (by rfl) ?_;(· (have zz:=aI C0.q (aI C1.q (aI C2.q (aI C0.r (aI C1.r C2.r))));first|exact jX|fail));(· first|exact vyD|skip))
        |ok y j=>
         rw[he2] at hl;cases hl;have A:PM _ _ _ _ _ _ _:=A;have E:∀ st p,Cl st p (pC ts (i'+1) d)->∀ K Kp,XB Qaf base 27 [.ptr p 0,.lst (l.length+1) (fl Jz (v :: l))] st K Kp=_:=λst p C K Kp=>A.xb C rfl (λst=>hb.no 27 (by decide) _ _) K Kp;unfold pC at *
         (have zz:=aI @Zq (aI @Zv (aI @R2 (aI @l2 (aI C0.r C1.r))));(repeat'(first|(apply jb<;>intro _)|simp(disch:=first|exact qm|fail) only[ja i0,ja i1,ja i4,ja i5,T,c1,E,w1',ue,WN,KH,KI,Ky i5,jaE,<-yg,hw,R2,C0.q,C1.q,Zq,Zv,R2,l2,C0.r,C1.r,jj,Tk.cells_R,rzZ,Qab,Qac,Qad,Qaa,Qae]));(all_goals(clear zz)))
         unfold pC
         (refine G1.done ?_ (by rfl) (by rfl) ?_;(· (have zz:=aI C0.q (aI C1.q (aI C2.q (aI C0.r (aI C1.r C2.r))));first|exact jX|fail));(· first|exact vyD|skip))
      ·rw[if_neg w1] at hl;have w1':¬ (v.2:Int)=1:=by omega
       cases he2:qw ts m l (i'+1) d with
       |none=>rw[he2] at hl;cases hl
       |some q=>
        have A:=ihE m (by omega) _ _ _ _ he2 hi1 hd ⟨by have:=ok.1;simp at this;omega,λw hw=>ok.2 w (QbM _ hw)⟩;have hz2:=(YX W m).1 _ _ _ _ he2 hi1;cases q with
        |er t=>
         rw[he2] at hl;cases hl;obtain⟨i2,d2,A⟩:=A;have E:∀ st p,Cl st p (pC ts (i'+1) d)->∀ K Kp,XB Qaf base 27 [.ptr p 0,.lst l.length (fl Jz l)] st K Kp=_:=λst p C K Kp=>A.xb C rfl (λst=>hb.no 27 (by decide) _ _) K Kp;unfold pC at *
         (have zz:=aI @Zq (aI @Zv (aI @R2 (aI @l2 (aI C0.r C1.r))));(repeat'(first|(apply jb<;>intro _)|simp(disch:=first|exact qm|fail) only[ja i0,ja i1,ja i4,ja i5,T,c1,E,w1',ue,WN,KH,KI,Ky i5,jfv,Wk YJ v l,R2,C0.q,C1.q,Zq,Zv,R2,l2,C0.r,C1.r,jj,Tk.cells_R,rzZ,Qab,Qac,Qad,Qaa,Qae]));(all_goals(clear zz)))
         refine⟨i2,d2,?_⟩;unfold pC
         (refine G1.done ?_ (by rfl) (by rfl) ?_;(· (have zz:=aI C0.q (aI C1.q (aI C2.q (aI C0.r (aI C1.r C2.r))));first|exact jX|fail));(· first|exact vyD|skip))
        |ok y j=>
         rw[he2] at hl;dsimp only at hl;have A:PM _ _ _ _ _ _ _:=A;have hj2:j<ts.length:=hz2.2.1;have E:∀ st p,Cl st p (pC ts (i'+1) d)->∀ K Kp,XB Qaf base 27 [.ptr p 0,.lst l.length (fl Jz l)] st K Kp=_:=λst p C K Kp=>A.xb C rfl (λst=>hb.no 27 (by decide) _ _) K Kp;by_cases w2:v.2=2
         ·rw[if_pos w2] at hl;cases hl;have w2':(v.2:Int)=2:=by omega
          unfold pC at *
          (have zz:=aI @Zq (aI @Zv (aI @R2 (aI @l2 (aI C0.r C1.r))));(repeat'(first|(apply jb<;>intro _)|simp(disch:=first|exact qm|fail) only[ja i0,ja i1,ja i4,ja i5,T,c1,E,w1',w2',ue,WN,KH,KI,Ky i5,jaE,<-yg,hw,Wk YJ v l,R2,C0.q,C1.q,Zq,Zv,R2,l2,C0.r,C1.r,jj,Tk.cells_R,rzZ,Qab,Qac,Qad,Qaa,Qae]));(all_goals(clear zz)))
          unfold pC
          (refine G1.done ?_ (by rfl) (by rfl) ?_;(· (have zz:=aI C0.q (aI C1.q (aI C2.q (aI C0.r (aI C1.r C2.r))));first|exact jX|fail));(· first|exact vyD|skip))
         ·rw[if_neg w2] at hl;have w2':¬ (v.2:Int)=2:=by omega
          unfold pC at *
          (have zz:=aI @Zq (aI @Zv (aI @R2 (aI @l2 (aI C0.r C1.r))));(repeat'(first|(apply jb<;>intro _)|simp(disch:=first|exact qm|fail) only[ja i0,ja i1,ja i4,ja i5,T,c1,E,w1',w2',ue,WN,KH,KI,Ky i5,<-yg,hw,Wk YJ v l,R2,C0.q,C1.q,Zq,Zv,R2,l2,C0.r,C1.r,jj,Tk.cells_R,rzZ,Qab,Qac,Qad,Qaa,Qae]));(all_goals(clear zz)))
          refine⟨m,by omega,m,j,zA (tk ts i') x' y,by omega,rfl,hl,hj2,by omega,?_,?_,?_,?_⟩
          ·(have zz:=aI C0.q (aI C1.q (aI C2.q (aI C0.r (aI C1.r C2.r))));first|exact jX|fail)
          ·(have zz:=aI C0.q (aI C1.q (aI C2.q (aI C0.r (aI C1.r C2.r))));first|exact jX|fail)
          ·(have zz:=aI C0.q (aI C1.q (aI C2.q (aI C0.r (aI C1.r C2.r))));first|exact jX|fail)
          ·simp(disch:=decide) only[Qan,Qaq,z0,z1,ji,jc,and_true,true_and,i0,i1,i4,i5]
     ·rw[if_neg c1] at hl;cases hl;unfold pC at *
      (have zz:=aI @R2 (aI @l2 (aI C0.r C1.r));(repeat'(first|(apply jb<;>intro _)|simp(disch:=first|exact qm|fail) only[ja i0,ja i1,ja i4,ja i5,T,c1,ue,jaE,<-yg,R2,C0.q,C1.q,R2,l2,C0.r,C1.r,jj,Tk.cells_R,rzZ,Qab,Qac,Qad,Qaa,Qae]));(all_goals(clear zz)))
      unfold pC
      (refine G1.done ?_ (by rfl) (by rfl) ?_;(· (have zz:=aI C0.q (aI C1.q (aI C2.q (aI C0.r (aI C1.r C2.r))));first|exact jX|fail));(· first|exact vyD|skip))
    ·refine⟨n,j,x,Qag _,rfl,h,hj,n0,C0,C1,C2,?_⟩;simp(disch:=decide) only[Qan,Qaq,z0,z1,ji,jc,and_true,true_and]
end Go.Sy
end
noncomputable section
set_option maxRecDepth 100000
namespace Go.Sy
open Go.Ev Go.Proofs
mutual
def Ex.ev (q:Ex->Prop):Ex->Prop
 |.mk o n nm ks l c=>q (.mk o n nm ks l c)/\Ex.evs q ks
def Ex.evs (q:Ex->Prop):List Ex->Prop
 |[]=>True
 |x :: xs=>x.ev q/\Ex.evs q xs
end
def atW (ts:List Tk)(x:Ex):Prop:=x.op≠4/\∃ k,k<ts.length/\(tk ts k).kind≠5/\x.line=(tk ts k).line/\x.col=(tk ts k).col
def GoodR (ts:List Tk)(i:Nat):PR->Prop
 |.ok x j=>i<=j/\j<ts.length/\x.ev (atW ts)
 |.er t=>∃ k,k<ts.length/\t=tk ts k
theorem GoodR.le {ts:List Tk}{i j:Nat}{r:PR}(h:GoodR ts j r)(hij:i<=j):GoodR ts i r:=by
 cases r with
 |ok x k=>exact⟨Qas hij h.1,h.2⟩
 |er t=>exact h
def okT (l:List Lev):Prop:=∀ v∈l,∀ s∈v.1,(XX s).isSome=true
theorem WH:okT yC:=by
 have:(yC.all λv=>v.1.all λs=>(XX s).isSome)=true:=by decide +kernel
 intro v hv s hs;rw[QaG] at this;have h:=this v hv;rw[QaG] at h;exact h s hs
theorem ZI {ts:List Tk}{k:Nat}(hk:k<ts.length)(h5:(tk ts k).kind≠5){o n:Int}{nm:List Nat}{ks:List Ex}(ho:o≠4)(h:Ex.evs (atW ts) ks):(Ex.mk o n nm ks (tk ts k).line (tk ts k).col).ev (atW ts):=
 ⟨⟨ho,k,hk,h5,rfl,rfl⟩,h⟩
theorem jbv {ts:List Tk}{k:Nat}(hk:k<ts.length)(h5:(tk ts k).kind≠5){x y:Ex}(hx:x.ev (atW ts))(hy:y.ev (atW ts))(ht:(XX (tk ts k).text).isSome=true):(zA (tk ts k) x y).ev (atW ts):=by
 unfold zA;split
 ·refine ZI hk h5 (by omega) ⟨hx,hy,trivial⟩
 ·rename_i h;rw[h] at ht;cases ht
theorem WS {t:Tk}{S:List (List Nat)}(h:isM t S=true):t.kind≠5:=by have:=(wu h).1;omega
def Anw (f:Nat->Option PR)(Q:PR->Prop):Prop:=∃ N r,Q r/\∀ n,N<=n->f n=some r
theorem Anw.mono {f:Nat->Option PR}{Q R:PR->Prop}(h:Anw f Q)(k:∀ r,Q r->R r):Anw f R:=by
 obtain⟨N,r,h1,h2⟩:=h;exact⟨N,r,k r h1,h2⟩
theorem jfF {f g:Nat->Option PR}{Q:PR->Prop}(h:Anw f Q)(k:∀ n,g (n+1)=f n):Anw g Q:=by
 obtain⟨N,r,h1,h2⟩:=h;refine⟨N+1,r,h1,λn hn=>?_⟩;obtain⟨m,rfl⟩:∃ m,n=m+1:=⟨n - 1,by omega⟩;rw[k,h2 m (by omega)]
theorem Zi {g:Nat->Option PR}{Q:PR->Prop}(r:PR)(hQ:Q r)(k:∀ n,g (n+1)=some r):Anw g Q:=by
 refine⟨1,r,hQ,λn hn=>?_⟩;obtain⟨m,rfl⟩:∃ m,n=m+1:=⟨n - 1,by omega⟩;exact k m
theorem Vm {f g:Nat->Option PR}{Q R:PR->Prop}(F:Ex->Nat->Nat->Option PR)(h:Anw f Q)(k:∀ n,g (n+1)=(match f n with|some (.ok x j)=>F x j n|r=>r))(he:∀ t,Q (.er t)->R (.er t))(ho:∀ x j,Q (.ok x j)->Anw (F x j) R):Anw g R:=by
 obtain⟨N,r,h1,h2⟩:=h;cases r with
 |er t=>
  refine⟨N+1,.er t,he t h1,λn hn=>?_⟩;obtain⟨m,rfl⟩:∃ m,n=m+1:=⟨n - 1,by omega⟩;rw[k,h2 m (by omega)]
 |ok x j=>
  obtain⟨M,r,h3,h4⟩:=ho x j h1;refine⟨max N M+1,r,h3,λn hn=>?_⟩;obtain⟨m,rfl⟩:∃ m,n=m+1:=⟨n - 1,by omega⟩;rw[k,h2 m (by omega)];exact h4 m (by omega)
theorem Vl {f:Nat->Option PR}{Q:PR->Prop}(r:PR)(hQ:Q r)(k:∀ n,f n=some r):Anw f Q:=⟨0,r,hQ,λn _=>k n⟩
structure AnsM (ts:List Tk)(m:Nat):Prop where
 e:∀ i d l,i<ts.length->ts.length<=i+m->d<=60->okT l->Anw (λn=>qw ts n l i d) (GoodR ts (i+1))
 p:∀ i d,i<ts.length->ts.length<=i+m->d<=60->Anw (λn=>yX ts n i d) (GoodR ts (i+1))
 o:∀ i d v l x,i<ts.length->ts.length<=i+m->d<=60->okT (v :: l)->x.ev (atW ts)->Anw (λn=>zx ts n v l x i d) (GoodR ts i)
theorem jh8 {ts:List Tk}(W:Wds ts):∀ m,AnsM ts m
 |0=>⟨λi d l h1 h2=>by omega,λi d h1 h2=>by omega,λi d v l x h1 h2=>by omega⟩
 |m+1=>by
  have ih:=jh8 W m;have hv:∀ i d,i<ts.length->ts.length<=i+(m+1)->d<=60->Anw (λn=>Jc ts n i d) (GoodR ts (i+1)):=by
   intro i d hi hm hd;by_cases h2:(tk ts i).kind=2
   ·exact Zi (.ok (.mk 1 (tk ts i).num [] [] (tk ts i).line (tk ts i).col) (i+1)) ⟨Qag _,W.next i hi (by omega),ZI hi (by omega) (by decide) (ks:=[]) trivial⟩ λn=>by simp only[Jc];rw[if_pos h2]
   by_cases h1:(tk ts i).kind=1
   ·exact Zi (.ok (.mk 3 0 (tk ts i).text [] (tk ts i).line (tk ts i).col) (i+1)) ⟨Qag _,W.next i hi (by omega),ZI hi (by omega) (by decide) (ks:=[]) trivial⟩ λn=>by simp only[Jc];rw[if_neg h2,if_pos h1]
   by_cases ht:isM (tk ts i) [[116,114,117,101]]=true
   ·exact Zi (.ok (.mk 2 1 [] [] (tk ts i).line (tk ts i).col) (i+1)) ⟨Qag _,W.isM hi ht,ZI hi (WS ht) (by decide) (ks:=[]) trivial⟩ λn=>by simp only[Jc];rw[if_neg h2,if_neg h1,if_pos ht]
   by_cases hf:isM (tk ts i) [[102,97,108,115,101]]=true
   ·exact Zi (.ok (.mk 2 0 [] [] (tk ts i).line (tk ts i).col) (i+1)) ⟨Qag _,W.isM hi hf,ZI hi (WS hf) (by decide) (ks:=[]) trivial⟩ λn=>by simp only[Jc];rw[if_neg h2,if_neg h1,if_neg ht,if_pos hf]
   by_cases hp:isM (tk ts i) [[40]]=true
   ·have hi1:=W.isM hi hp;by_cases h60:60<d+1
    ·exact Zi (.er _) ⟨i+1,hi1,rfl⟩ λn=>by simp only[Jc];rw[if_neg h2,if_neg h1,if_neg ht,if_neg hf,if_pos hp,if_pos h60]
    ·refine Vm (λx j n=>if isM (tk ts j) [[41]]=true then some (.ok x (j+1)) else some (.er (tk ts j))) (ih.e (i+1) (d+1) yC hi1 (by omega) (by omega) WH) (λn=>by simp only[Jc];rw[if_neg h2,if_neg h1,if_neg ht,if_neg hf,if_pos hp,if_neg h60]<;>rfl) (λt h=>h) λx j h=>?_;by_cases hq:isM (tk ts j) [[41]]=true
     ·exact Vl (.ok x (j+1)) ⟨by have:=h.1;omega,W.isM h.2.1 hq,h.2.2⟩ λn=>if_pos hq
     ·exact Vl (.er (tk ts j)) ⟨j,h.2.1,rfl⟩ λn=>if_neg hq
   ·exact Zi (.er _) ⟨i,hi,rfl⟩ λn=>by simp only[Jc];rw[if_neg h2,if_neg h1,if_neg ht,if_neg hf,if_neg hp]
  have hp:∀ i d,i<ts.length->ts.length<=i+(m+1)->d<=60->Anw (λn=>yX ts n i d) (GoodR ts (i+1)):=by
   intro i d hi hm hd;by_cases hp:isM (tk ts i) yp=true
   ·have hi1:=W.isM hi hp;by_cases h60:60<d+1
    ·exact Zi (.er _) ⟨i+1,hi1,rfl⟩ λn=>by simp only[yX];rw[if_pos hp,if_pos h60]
    ·refine Vm (λx j n=>some (.ok (.mk (v8 (tk ts i).text:Nat) 0 [] [x] (tk ts i).line (tk ts i).col) j)) (ih.p (i+1) (d+1) hi1 (by omega) (by omega)) (λn=>by simp only[yX];rw[if_pos hp,if_neg h60]<;>rfl) (λt h=>h) λx j h=>?_;exact Vl (.ok (.mk (v8 (tk ts i).text:Nat) 0 [] [x] (tk ts i).line (tk ts i).col) j) ⟨by have:=h.1;omega,h.2.1,ZI hi (WS hp) (by unfold v8;omega) (ks:=[x]) ⟨h.2.2,trivial⟩⟩ λn=>rfl
   ·exact jfF (hv i d hi hm hd) λn=>by simp only[yX];rw[if_neg hp]
  have he:∀ l i d,i<ts.length->ts.length<=i+(m+1)->d<=60->okT l->Anw (λn=>qw ts n l i d) (GoodR ts (i+1)):=by
   intro l;induction l with
   |nil=>intro i d hi hm hd hl;exact jfF (hp i d hi hm hd) λn=>by simp only[qw]
   |cons v l ihl=>
    intro i d hi hm hd hl;refine Vm (λx j n=>zx ts n v l x j d) (ihl i d hi hm hd λw hw=>hl w (QbM _ hw)) (λn=>by simp only[qw]<;>rfl) (λt h=>h) λx j h=>?_;exact(ih.o j d v l x h.2.1 (by have:=h.1;omega) hd hl h.2.2).mono λr hr=>hr.le h.1
  refine⟨λi d l h1 h2 h3 h4=>he l i d h1 h2 h3 h4,hp,λi d v l x hi hm hd hl hx=>?_⟩;by_cases hs:isM (tk ts i) v.1=true
  ·have hi1:=W.isM hi hs;have ht:(XX (tk ts i).text).isSome=true:=hl v (List.mem_cons_self ..) _ (wu hs).2;have hl':okT l:=λw hw=>hl w (QbM _ hw);by_cases hw:v.2=1
   ·refine Vm (λy j n=>some (.ok (zA (tk ts i) x y) j)) (ih.e (i+1) d (v :: l) hi1 (by omega) hd hl) (λn=>by simp only[zx];rw[if_pos hs,if_pos hw]<;>rfl) (λt h=>h) λy j h=>?_;exact Vl (.ok (zA (tk ts i) x y) j) ⟨by have:=h.1;omega,h.2.1,jbv hi (WS hs) hx h.2.2 ht⟩ λn=>rfl
   ·refine Vm (λy j n=>if v.2=2 then some (.ok (zA (tk ts i) x y) j) else zx ts n v l (zA (tk ts i) x y) j d) (ih.e (i+1) d l hi1 (by omega) hd hl') (λn=>by simp only[zx];rw[if_pos hs,if_neg hw]<;>rfl) (λt h=>h) λy j h=>?_;have hxy:=jbv hi (WS hs) hx h.2.2 ht;by_cases h2:v.2=2
    ·exact Vl (.ok (zA (tk ts i) x y) j) ⟨by have:=h.1;omega,h.2.1,hxy⟩ λn=>if_pos h2
    ·obtain⟨N,r,h3,h4⟩:=ih.o j d v l _ h.2.1 (by have:=h.1;omega) hd hl hxy;exact⟨N,r,h3.le (by have:=h.1;omega),λn hn=>(if_neg h2).trans (h4 n hn)⟩
  ·exact Zi (.ok x i) ⟨Qag _,hi,hx⟩ λn=>by simp only[zx];rw[if_neg hs]
end Go.Sy
end
noncomputable section
set_option maxRecDepth 100000
namespace Go.Sy
open Go.Ev Go.Proofs
variable {base:Bs}
theorem reads (hb:NB base){ts:List Tk}(W:Wds ts):∀ n,IsE base ts n/\IsP base ts n/\IsV base ts n:=by
 have key:∀ n,∀ m,m<=n->IsE base ts m/\IsP base ts m/\IsV base ts m:=by
  intro n;induction n with
  |zero=>
   intro m hm;obtain rfl:m=0:=by omega
   exact⟨λ_ _ _ _ h=>(by simp[qw] at h),λ_ _ _ h=>(by simp[yX] at h),λ_ _ _ h=>(by simp[Jc] at h)⟩
  |succ n ih=>
   intro m hm;by_cases h:m<=n
   ·exact ih m h
   ·obtain rfl:m=n+1:=by omega
    obtain⟨h1,h2,h3⟩:=ih n (Qag _);exact⟨jhT hb W (λk hk=>(ih k hk).1) h2,jdW hb W h2 h3,jfM hb W h1⟩
 exact λn=>key n n (Qag _)
def Yw (ts:List Tk)(i:Nat)(r0:PR):PR:=match r0 with
 |.er t=>.er t
 |.ok x j=>if yU 60 x=true then .ok x j else .er (tk ts i)
def EvR (ts:List Tk)(i:Nat)(r:PR):Prop:=∃ N,∀ n,N<=n->qw ts n yC i 0=some r
theorem EvR.uniq {ts:List Tk}{i:Nat}{r q:PR}(h:EvR ts i r)(k:EvR ts i q):r=q:=by
 obtain⟨N,h⟩:=h;obtain⟨M,k⟩:=k;have:=(h (max N M) (QaC ..)).symm.trans (k (max N M) (QaB ..));exact Option.some.inj this
open Classical in
def qr (ts:List Tk)(i:Nat):PR:=if h:∃ r,EvR ts i r then Yw ts i h.choose else .er (tk ts i)
theorem Xu {ts:List Tk}{i:Nat}{r:PR}(h:EvR ts i r):qr ts i=Yw ts i r:=by
 unfold qr;rw[dif_pos ⟨r,h⟩];have:=(⟨r,h⟩:∃ r,EvR ts i r).choose_spec;rw[this.uniq h]
theorem evR {ts:List Tk}(W:Wds ts){i:Nat}(hi:i<ts.length):∃ r,GoodR ts (i+1) r/\EvR ts i r:=by
 obtain⟨N,r,hg,hr⟩:=(jh8 W ts.length).e i 0 yC hi (by omega) (by decide) WH;exact⟨r,hg,N,hr⟩
theorem Vw (hb:NB base){ts:List Tk}(W:Wds ts){i:Nat}(hi:i<ts.length):Ans base 14 (pC ts i 0) [] ts 0 (qr ts i):=by
 obtain⟨r,_,hr⟩:=evR W hi;rw[Xu hr];obtain⟨N,hr⟩:=hr;have he:=hr N (Qag _);have A:=(reads hb W N).1 _ _ _ _ he hi (by omega) ⟨by decide,by decide⟩;have hz:=(YX W N).1 _ _ _ _ he hi;have hN:=λst p=>@Xp base hb ts i 0 hi st p;have hL:=K4 hb;cases r with
 |er t=>
  obtain⟨i',d',A⟩:=A;have E:∀ st p,Cl st p (pC ts i 0)->∀ K Kp,XB Qaf base 27 [.ptr p 0,.lst 8 (fl Jz yC)] st K Kp=_:=λst p C K Kp=>A.xb C rfl (λst=>hb.no 27 (by decide) _ _) K Kp;refine⟨i',d',?_⟩;unfold pC at *;refine jR x48 (by rfl) (hb.pur 14 3 (by decide)) rfl ?_;simp only[y48,jn,Qaj,Qam,Qah,Qai];rw[(by unfold z48;simp only[qq];rfl:z48=_)];repeat'(first|(apply jb<;>intro _)|simp(disch:=first|exact dzD|fail) only[hN,hL,E,jj,Tk.cells_R,rzZ,Qab,Qac,Qad,Qaa,Qae])
  (refine G1.done ?_ (by rfl) (by rfl) ?_;(· (first|exact cyD|fail));(· first|exact vyD|skip))
 |ok x j=>
  have A:PM _ _ _ _ _ _ _:=A;have E:∀ st p,Cl st p (pC ts i 0)->∀ K Kp,XB Qaf base 27 [.ptr p 0,.lst 8 (fl Jz yC)] st K Kp=_:=λst p C K Kp=>A.xb C rfl (λst=>hb.no 27 (by decide) _ _) K Kp;have hx:szE x<=BIG:=by
   have h1:=hz.2.2;have h2:(j - i) * 65537<=1000000 * 65537:=Qbg _ (by have:=W.len;have:=hz.2.1;omega);have h3:1000000 * 65537<=BIG:=by decide
   exact Qas h1 (by rw[QaF];exact Qas h2 h3)
  have hR:=jgv hb x hx;unfold Yw;dsimp only;by_cases c:yU 60 x=true
  ·rw[if_pos c];show PM _ _ _ _ _ _ _;unfold pC at *;refine jR x48 (by rfl) (hb.pur 14 3 (by decide)) rfl ?_;simp only[y48,jn,Qaj,Qam,Qah,Qai];rw[(by unfold z48;simp only[qq];rfl:z48=_)];repeat'(first|(apply jb<;>intro _)|simp(disch:=first|exact dzD|fail) only[hN,hL,E,hR,c,<-yg,jj,Tk.cells_R,rzZ,Qab,Qac,Qad,Qaa,Qae])
   (refine G1.done ?_ (by rfl) (by rfl) ?_;(· (first|exact cyD|fail));(· first|exact vyD|skip))
  ·rw[if_neg c];refine⟨j,0,?_⟩;unfold pC at *;refine jR x48 (by rfl) (hb.pur 14 3 (by decide)) rfl ?_;simp only[y48,jn,Qaj,Qam,Qah,Qai];rw[(by unfold z48;simp only[qq];rfl:z48=_)];repeat'(first|(apply jb<;>intro _)|simp(disch:=first|exact dzD|fail) only[hN,hL,E,hR,c,Jm hb,jj,Tk.cells_R,rzZ,Qab,Qac,Qad,Qaa,Qae])
   (refine G1.done ?_ (by rfl) (by rfl) ?_;(· (first|exact cyD|fail));(· first|exact vyD|skip))
end Go.Sy
end
noncomputable section
set_option maxRecDepth 100000
namespace Go.Sy
open Go.Ev Go.Proofs
def z9:XC:=(ol [o4 2 [.nils,.nils,.nils],o4 3 [oB,oB,oB]] (o6 [Iq 7,IY 8 12 7,ow 6 8,IB 9 6 0,IB 10 6 1,Or 9,o0 3 3 10] (Ib [oD 11 0 3,oG 12 11,ov 13 (oI .neq 12 oB)] 13 (I5 [IA (oZ 14 3 2) 2 38 [],IA (oZ 15 3 3) 3 28 [],On 3 2 14 0 [(0,28)],On 3 3 15 0 []] .ret)) (ol [oX (.defer (oL 13 []) [3])] (o6 [ow 16 4,Ir 17 [.nils,oB,oB] [((0,1),16)],oj 18 (.box 17),oy 5 18] (.dops [IG (ow 19 5),(Os 20 19 19 0 [],some [I0 20 IK 0,Ia (oZ 21 3 3) 3 28 [(0,0)],o9 (oX (.i (.mv IK))) 0,o9 (oX (.i (.mv IK))) 0]),IA (oZ 21 3 3) 3 28 [(0,0)],On 3 2 20 0 [(0,28)],On 3 3 21 0 []]) .ret))))
def y9:XF:=⟨[0],z9,[(.cA 2 3),(.cA 3 3)]⟩
theorem x9:jO Qaf 9=some y9:=by kernel_rfl
def z78:XC:=(ol [o4 2 [oC,.nils,oB,oB]] (ol [Iq 7,IY 8 54 7,o4 3 [oB,oC,oB,oB,oB],o0 5 3 8] (ol [oD 9 1 3,oG 10 9,oD 11 3 3,oG 12 11,oD 13 4 3,oG 14 13,Ir 15 [oC,.nils,oB,oB] [((0,1),10),((2,1),12),((3,1),14)],o4 4 [oC,.nils,oB,oB],o0 4 4 15] (Ob [Iq 16,Oh 17 55 16 (oF [123])] 0 (.block 1 (.seq (Ib [Iq 18,IY 19 15 18,oj 20 (.fld1 0 19),Om 21 .eql 20 1] 21 (.dops [IH 22 1 4,IV 23 22 22 59 [],IG (I7 24 23),IG (Iq 25),(Os 26 15 25 0 [(2,59)],IP),(Io (Oh 27 33 24 26) 0 [],IP)])) (I5 [IH 28 1 4,IV 29 28 28 59 [],IG (Iq 30),(Os 31 54 30 0 [(1,59)],IP),IG (oj 32 (.fld1 1 31)),IG (If 33 1 1 [oC] [((0,1),32)]),IM (oj 34 (.app 1 16 29 33)) 0 [],IH 35 1 4,On 1 35 34 0 []] (ol [Iq 37,If 38 1 1 [oC] [IJ 0 44],Oh 39 32 37 38,ow 36 39,IB 40 36 0,IB 41 36 1,oj 5 (.alloc [oB,oC,oB,oB,oB]),o0 5 5 40,oy 6 41] (Ib [ow 42 6,ov 43 (IU 42)] 43 (I3 [Iq 44,Oh 45 55 44 (oF [125])] [oZ 46 4 4,o0 4 2 46]))))))))))
def y78:XF:=⟨[0],z78,[(.cA 2 4)]⟩
theorem x78:jO Qaf 34=some y78:=by kernel_rfl
def HE:XC:=(.seq (ol [Iq 45,If 46 1 1 [oC] [IJ 0 61],Oh 47 32 45 46,ow 44 47,IB 48 44 0,IB 49 44 1,oj 7 (.alloc [oB,oC,oB,oB,oB]),o0 5 7 48,oy 8 49] (Ib [oy 50 8] 50 (.ops [Iq 51,IY 52 14 51,If 53 1 6 [oB,oB,oC,.nils,oB,oB] [((0,6),52)],oD 54 4 4,o0 1 54 53]))) (I3 [Iq 55,Oh 56 55 55 (oF [59])] [oZ 57 7 4,o0 7 2 57]))
def HG:XC:=(.seq (ol [Iq 21,If 22 1 1 [oC] [Iy 0 [98,111,111,108]],Oh 23 32 21 22,ow 20 23,IB 24 20 0,IB 25 20 1,oj 5 (.alloc [oB,oC,oB,oB,oB]),o0 5 5 24,oy 6 25] (oQ [oy 26 6] 26 (Oa (oD 27 1 4) (o0 1 27 (oF [98,111,111,108]))) (oQ [Iq 28,IY 29 15 28,oj 30 (.fld1 0 29),Om 31 .eql 30 1] 31 (.ops [Iq 32,IY 33 54 32,oj 34 (.fld1 1 33),oD 35 1 4,o0 1 35 34]) (ol [Iq 36,IY 37 56 36,oD 38 2 4,o0 1 38 37] (ol [Iq 39,Oh 40 55 39 (oF [46,46])] (.ops [Iq 41,IY 42 56 41,oD 43 3 4,o0 1 43 42])))))) HE)
def z79:XC:=(ol [o4 2 [oC,oC,oB,oB,.nils,oB,oB]] (ol [Iq 9,IY 10 54 9,o4 3 [oB,oC,oB,oB,oB],o0 5 3 10] (ol [oD 11 1 3,oG 12 11,oD 13 3 3,oG 14 13,oD 15 4 3,oG 16 15,Ir 17 [oC,oC,oB,oB,.nils,oB,oB] [((0,1),12),((5,1),14),((6,1),16)],o4 4 [oC,oC,oB,oB,.nils,oB,oB],o0 7 4 17] (ol [Iq 18,Oh 19 55 18 (oF [58])] HG))))
def y79:XF:=⟨[0],z79,[(.cA 2 7)]⟩
theorem x79:jO Qaf 35=some y79:=by kernel_rfl
def uI:XC:=(ol [o4 2 [oB,oB,oC,.nils,oB,oB,.nils]] (ol [Iq 7,IY 8 14 7,Ir 9 [oB,oB,oC,.nils,oB,oB,.nils] [((0,6),8)],o4 3 [oB,oB,oC,.nils,oB,oB,.nils],o0 7 3 9] (Ob [Iq 10,Oh 11 55 10 (oF [100,111])] 0 (.block 1 (.seq (Ib [Iq 12,IY 13 15 12,oj 14 (.fld1 0 13),Om 15 .eql 14 1] 15 (.dops [IH 16 6 3,IV 17 16 16 68 [],IG (I7 18 17),IG (Iq 19),(Os 20 15 19 0 [(2,68)],IP),(Io (Oh 21 33 18 20) 0 [],IP)])) (ol [Iq 22,IY 23 54 22,o4 4 [oB,oC,oB,oB,oB],o0 5 4 23] (o6 [Iq 24,Oh 25 55 24 (oF [58,61])] (.dops [IH 26 6 3,IV 27 26 26 68 [],IH 28 1 4,IV 29 28 28 9 [],IG (Iq 30),(Os 31 14 30 0 [(1,9),(3,68)],some [I0 31 IK 0,o9 (oD 32 3 4) 0,Ia (oG 33 32) 32 3 [(1,0)],o9 (oD 34 4 4) 0,Ia (oG 35 34) 34 3 [(3,0)],I0 36 IK 0,I0 37 IK 0,I0 38 IK 0,I0 39 IK 0,o9 (oX (.i (.mv IK))) 0]),IH 32 3 4,IV 33 32 32 3 [(1,0)],IH 34 4 4,IV 35 34 34 3 [(3,0)],IG (Ir 36 [oC,oB,oB,oC,.nils,oB,oB,oB,oB] [((0,1),29),((1,6),31),((7,1),33),((8,1),35)]),IG (If 37 1 9 [oC,oB,oB,oC,.nils,oB,oB,oB,oB] [((0,9),36)]),IM (oj 38 (.app 9 104 27 37)) 0 [],IH 39 6 3,On 1 39 38 0 []]) (ol [Iq 41,If 42 1 1 [oC] [IJ 0 44],Oh 43 32 41 42,ow 40 43,IB 44 40 0,IB 45 40 1,oj 5 (.alloc [oB,oC,oB,oB,oB]),o0 5 5 44,oy 6 45] (Ib [ow 46 6,ov 47 (IU 46)] 47 (I3 [Iq 48,Oh 49 55 48 (oF [59])] [oZ 50 7 3,o0 7 2 50]))))))))))
def HH:XF:=⟨[0],uI,[(.cA 2 7)]⟩
theorem jdr:jO Qaf 57=some HH:=by kernel_rfl
def z80:XC:=(ol [o4 2 [oC,.nils,oB,oB]] (ol [Iq 7,IY 8 54 7,o4 3 [oB,oC,oB,oB,oB],o0 5 3 8] (ol [oD 9 1 3,oG 10 9,oD 11 3 3,oG 12 11,oD 13 4 3,oG 14 13,Ir 15 [oC,.nils,oB,oB] [((0,1),10),((2,1),12),((3,1),14)],o4 4 [oC,.nils,oB,oB],o0 4 4 15] (Ob [Iq 16,Oh 17 55 16 (oF [123])] 0 (.block 1 (o6 [Iq 19,If 20 1 1 [oC] [Iy 0 [119,104,101,110]],Oh 21 32 19 20,ow 18 21,IB 22 18 0,IB 23 18 1,o4 5 [oB,oC,oB,oB,oB],o0 5 5 22,oy 6 23] (Ib [ow 24 6,ov 25 (IU 24)] 25 (I3 [Iq 26,Oh 27 55 26 (oF [125])] [oZ 28 4 4,o0 4 2 28])) (ol [oD 29 1 4,oG 30 29,I7 31 30,oZ 32 5 5,Oh 33 33 31 32] (.dops [IH 34 1 4,IV 35 34 34 65 [],IG (Iq 36),(Os 37 57 36 0 [(1,65)],IP),IG (If 38 1 7 [oB,oB,oC,.nils,oB,oB,.nils] [((0,7),37)]),IM (oj 39 (.app 7 96 35 38)) 0 [],IH 40 1 4,On 1 40 39 0 []]))))))))
def y80:XF:=⟨[0],z80,[(.cA 2 4)]⟩
theorem x80:jO Qaf 36=some y80:=by kernel_rfl
def z37:XC:=(ol [o4 2 [.nils,.nils,.nils]] (Ob [o4 3 [.nils,.nils,.nils]] 0 (.block 1 (ol [Iq 7,If 8 3 1 [oC] [Iy 0 [101,110,117,109],Iy 1 [118,97,114],Iy 2 [112,114,111,99,101,115,115]],Oh 9 32 7 8,ow 6 9,IB 10 6 0,IB 11 6 1,o4 4 [oB,oC,oB,oB,oB],o0 5 4 10,oy 5 11] (.block 2 (oQ [ow 25 5,oj 26 (IU 25),ow 27 26,IS 28 27 (.fad 0 4),IS 29 27 (.ld1 28),IS 30 27 (o5 .neq 29 5),Ig 31 27 30 oY,oy 24 31] 24 (Oa (oZ 32 5 4) (IY 33 16 32)) (oQ [ow 35 5,oj 36 (IU 35),oy 34 36] 34 (o3 [oZ 37 3 3,o0 3 2 37]) (oQ [oD 39 1 4,oG 40 39,Oo 41 40 [101,110,117,109],oy 38 41] 38 (ol [oD 42 0 3,oG 43 42,I7 44 43,oZ 45 5 4,Oh 46 33 44 45] (.dops [IH 47 0 3,IV 48 47 47 34 [],IG (Iq 49),(Os 50 34 49 0 [(1,34)],IP),IG (If 51 1 4 [oC,.nils,oB,oB] [((0,4),50)]),IM (oj 52 (.app 4 56 48 51)) 0 [],IH 53 0 3,On 1 53 52 0 []])) (oQ [oD 55 1 4,oG 56 55,Oo 57 56 [118,97,114],oy 54 57] 54 (ol [oD 58 1 3,oG 59 58,I7 60 59,oZ 61 5 4,Oh 62 33 60 61] (.dops [IH 63 1 3,IV 64 63 63 35 [],IG (Iq 65),(Os 66 35 65 0 [(1,35)],IP),IG (If 67 1 7 [oC,oC,oB,oB,.nils,oB,oB] [((0,7),66)]),IM (oj 68 (.app 7 88 64 67)) 0 [],IH 69 1 3,On 1 69 68 0 []])) (ol [oD 12 2 3,oG 13 12,I7 14 13,oZ 15 5 4,Oh 16 33 14 15] (.dops [IH 17 2 3,IV 18 17 17 36 [],IG (Iq 19),(Os 20 36 19 0 [(1,36)],IP),IG (If 21 1 4 [oC,.nils,oB,oB] [((0,4),20)]),IM (oj 22 (.app 4 56 18 21)) 0 [],IH 23 2 3,On 1 23 22 0 []])))))))))))
def y37:XF:=⟨[0],z37,[(.cA 2 3)]⟩
theorem x37:jO Qaf 19=some y37:=by kernel_rfl
def Ke:XC:=(.block 0 (oQ [ov 7 (.gen .eql 20 true 5 (.c .nilif))] 7 (.ops [ow 2 5]) (oQ [oj 8 (.assert 5 28),ov 9 (.ext 8 1),ov 10 (.ext 8 0)] 9 (ol [o4 3 [oB,oB,oB],o0 3 3 10] (.ops [Iq 11,oZ 12 3 3,Is 13 11,o0 3 13 12])) (ol [Or 5] (Oa (ow 6 4) (oX (.pan 6)))))))
def jdk:XH:=⟨[0],(some 5),true,[],Ke,[]⟩
theorem jgX:jaa Qaf 13=some jdk:=by kernel_rfl
end Go.Sy
end
noncomputable section
set_option maxRecDepth 100000
namespace Go.Sy
open Go.Ev Go.Proofs
variable {base:Bs}
section
variable {P:Program} {e:En} {st:St} {K:AV->St->Prop}
def jaR (P:Program)(t:TypeId)(v:AV)(st:St):ER:=(QE P (O v) t).run E0 st
theorem jhL (x:A)(t:TypeId):wK P base (.i (.assert x t)) e st K=on1 e x λv=>jd (jaR P t v st) K:=k_1 rfl (λ_=>rfl) K
end
theorem Kr {P:Program}(res:List RV)(m:Md)(K:Md->St->Prop)(L:Sl)(st:St):jaC P res m K (.go L st)=qS P res L st λ_=>K m st:=nr rfl
theorem jh5 (t:Tk)(st:St)(K:AV->St->Prop):jd (jaR Qaf 28 (er t) st) K=K (.tup [.agg [.int .i64 151,.int .i64 (t.line:Int),.int .i64 (t.col:Int)],.bool true]) st:=by
 have:jaR Qaf 28 (er t) st=.ok (.tup [.agg [.int .i64 151,.int .i64 (t.line:Int),.int .i64 (t.col:Int)],.bool true]) st:=by kernel_rfl
 rw[this];rfl
theorem jhU (st:St)(K:AV->St->Prop):jd (ww Qaf .eql 20 true .nilif .nilif st) K=K (.bool true) st:=by
 have:ww Qaf .eql 20 true .nilif .nilif st=.ok (.bool true) st:=by kernel_rfl
 rw[this];rfl
theorem jhV (t:Tk)(st:St)(K:AV->St->Prop):jd (ww Qaf .eql 20 true (er t) .nilif st) K=K (.bool false) st:=by
 have:ww Qaf .eql 20 true (er t) .nilif st=.ok (.bool false) st:=by kernel_rfl
 rw[this];rfl
theorem jfA {P:Program}{f:FuncId}{xs:List AV}{m m1:Md}{st s1:St}(h:∀ K:Md->St->Prop,K m1 s1->DX P base f xs m st K)(K:Md->St->Prop):DX P base f xs m st K=K m1 s1:=by
 refine propext ⟨λ⟨m2,s2,⟨N2,D2,h2⟩,h3⟩=>?_,h K⟩;obtain⟨m',s',⟨N,D,h1⟩,rfl,rfl⟩:=h (λm' s'=>m'=m1/\s'=s1) ⟨rfl,rfl⟩;have e1:=h1 (max N N2) (QaC ..) (max D D2) (QaC ..);have e2:=h2 (max N N2) (QaB ..) (max D D2) (QaB ..);rw[e1] at e2;cases e2;exact h3
theorem Gv {fb:Nat}(st:St)(hfr:st.fr=[])(K:Md->St->Prop):DX Qaf base 13 [.ptr fb 0] .calm st K=K .calm st:=by
 refine jfA (λK hK=>?_) K;refine UU jgX (by rfl) hfr ?_;simp only[jdk,jn,Qaj,Qam,Qah,QM,Q6];rw[(by unfold Ke;simp only[qq];rfl:Ke=_)];repeat'(first|(apply jb<;>intro _)|simp(disch:=first|exact dzD|fail) only[jhU,Kr,jj,Tk.cells_R,rzZ,Qab,Qac,Qad,Qaa,Qae])
 exact hK
theorem jaK {fb:Nat}(t:Tk){cs:List AV}(st:St)(hfr:st.fr=[])(C:Cl st fb cs)(hcs:cs.length=3)(K:Md->St->Prop) :
  DX Qaf base 13 [.ptr fb 0] (.pan (er t)) st K=K .done (wr (wr (nw st [.int .i64 0,.int .i64 0,.int .i64 0]) st.nx 0 [.int .i64 151,.int .i64 (t.line:Int),.int .i64 (t.col:Int)]) fb 0 [.int .i64 151,.int .i64 (t.line:Int),.int .i64 (t.col:Int)]):=by
 refine jfA (λK hK=>?_) K;refine UU jgX (by rfl) hfr ?_;simp only[jdk,jn,Qaj,Qam,Qah,QM,Q6];rw[(by unfold Ke;simp only[qq];rfl:Ke=_)];have hl:=C.lt;have l0:=C.len;have hne:¬ fb=st.nx:=by omega
 (have zz:=aI @l0 @hcs;(repeat'(first|(apply jb<;>intro _)|simp(disch:=first|exact qm|fail) only[jhV,jhL,jh5,Kr,l0,hcs,jj,Tk.cells_R,rzZ,Qab,Qac,Qad,Qaa,Qae]));(all_goals(clear zz)))
 exact hK
end Go.Sy
end
noncomputable section
set_option maxRecDepth 100000
namespace Go.Sy
open Go.Ev Go.Proofs
variable {base:Bs}
theorem gR {fb:Nat}(st:St)(K:Md->St->Prop):DX Qaf base 13 [.ptr fb 0] .calm st.bare K=K .calm st.bare:=Gv st.bare rfl K
theorem H5 {fb:Nat}(t:Tk)(st:St)(h:qe st.h fb=3)(hn:fb<st.nx)(K:Md->St->Prop) :
  DX Qaf base 13 [.ptr fb 0] (.pan (er t)) st.bare K=K .done (wr (wr (nw st.bare [.int .i64 0,.int .i64 0,.int .i64 0]) st.nx 0 [.int .i64 151,.int .i64 (t.line:Int),.int .i64 (t.col:Int)]) fb 0 [.int .i64 151,.int .i64 (t.line:Int),.int .i64 (t.col:Int)]):=
 have C:Cl st fb (rats st.h fb 0 3):=Cl.of_rats hn h (Xb _ _ _ _) (by decide) rfl
 jaK t st.bare rfl C.bar (Xb _ _ _ _) K
theorem jiv:Go.Ev.isAgg Qaf 28=some true:=by kernel_rfl
theorem jiu:Go.Ev.sizeOf Qaf 28=some 3:=by kernel_rfl
theorem jdB {b:Nat}{x y z:Int}{h:T AO}(ho:0+3<=qe h b)(hv:rats h b 0 3=[.int .i64 x,.int .i64 y,.int .i64 z]):(jN Qaf 28 (.ptr b 0) (.agg [.int .i64 x,.int .i64 y,.int .i64 z]) h=true)=True:=eq_true (wQ jiv jiu (by decide) ho hv rfl)
section
variable {P:Program} {st:St} {K Kp:AV->St->Prop}
theorem Vt {f:FuncId}{vs:List AV}(h:st.fr=[(f,vs)])(res:List RV)(v:AV)(L:Sl):WD P base res K Kp v L st=DX P base f vs (.pan v) st.bare λm' st'=>(match m' with
  |.calm=>qS P res L st'.bare λvs=>K (yF vs) st'.bare
  |.pan v=>Kp v st'.bare
  |.done=>qS P res L st'.bare λvs=>K (yF vs) st'.bare):=by
 have:WD P base res K Kp v L st=yc P base res K Kp [(f,vs)] L st.bare (.pan v):=by show yc P base res K Kp st.fr L st.bare (.pan v)=_;rw[h]
 rw[this,Kn];rfl
theorem uJ {f:FuncId}{vs:List AV}(h:st.fr=[(f,vs)])(res:List RV)(L:Sl):gD P base res K Kp (.rt L st)=DX P base f vs .calm st.bare λm' st'=>(match m' with
  |.calm=>qS P res L st'.bare λvs=>K (yF vs) st'.bare
  |.pan v=>Kp v st'.bare
  |.done=>qS P res L st'.bare λvs=>K (yF vs) st'.bare):=by
 have:gD P base res K Kp (.rt L st)=yc P base res K Kp [(f,vs)] L st.bare .calm:=by show yc P base res K Kp st.fr L st.bare .calm=_;rw[h]
 rw[this,Kn];rfl
theorem uK (h:st.fr=[])(res:List RV)(L:Sl):gD P base res K Kp (.rt L st)=qS P res L st.bare λvs=>K (yF vs) st.bare:=by
 show yc P base res K Kp st.fr L st.bare .calm=_;rw[h];rfl
end
theorem yt {ts:List Tk}(W:Wds ts){i j:Nat}{x:Ex}(hi:i<ts.length)(h:qr ts i=.ok x j):i+1<=j/\j<ts.length/\x.ev (atW ts)/\yU 60 x=true:=by
 obtain⟨r,hg,hr⟩:=evR W hi;rw[Xu hr] at h;unfold Yw at h;cases r with
 |er t=>cases h
 |ok y k=>
  dsimp only at h;by_cases c:yU 60 y=true
  ·rw[if_pos c] at h;cases h;exact⟨hg.1,hg.2.1,hg.2.2,c⟩
  ·rw[if_neg c] at h;cases h
end Go.Sy
end
noncomputable section
set_option maxRecDepth 100000
namespace Go.Sy
open Go.Ev Go.Proofs
variable {base:Bs}
inductive SR (α:Type) where
 |ok (x:α) (j:Nat)
 |er (t:Tk)
def Nbs (ts:List Tk):Prop:=∀ i,(tk ts i).num<=1000000
def AnS {α:Type}(base:Bs)(f:FuncId)(c xs:List AV)(ts:List Tk)(d:Nat)(enc:α->AV):SR α->Prop
 |.ok x j=>PM Qaf base f c xs (.ok (enc x)) (pC ts j d)
 |.er t=>∃ i' d',PM Qaf base f c xs (.pn (er t)) (pC ts i' d')
def SK {α:Type}(ts:List Tk)(d:Nat)(enc:α->AV)(r:SR α)(v:AV)(s:St):Prop:=match r with | .ok y j=>G1 3 (pC ts j d) (enc y) v s | .er _=>False
def SP {α:Type}(ts:List Tk)(r:SR α)(v:AV)(s:St):Prop:=match r with | .ok _ _=>False | .er t=>∃ i' d',G1 3 (pC ts i' d') (er t) v s
theorem kv {α:Type}(ts:List Tk)(d:Nat)(enc:α->AV)(y:α)(j:Nat)(v:AV)(s:St):SK ts d enc (.ok y j) v s=G1 3 (pC ts j d) (enc y) v s:=nr rfl
theorem yD {α:Type}(ts:List Tk)(t:Tk)(v:AV)(s:St):SP (α:=α) ts (.er t) v s = ∃ i' d',G1 3 (pC ts i' d') (er t) v s:=nr rfl
theorem YU {α:Type}{f:FuncId}{F:XF}(hl:jO Qaf f=some F)(hnd:F.body.nd=true)(hm:base.pur f=3){xs:List AV}{ts:List Tk}{i d:Nat}{enc:α->AV}{r:SR α}
  (h:xC Qaf base F.body (jn F.ps (.ptr 0 0 :: xs)) (nw st0 (pC ts i d)) (XM Qaf F.res (SK ts d enc r)) λv _ s=>SP ts r v s.bare):AnS base f (pC ts i d) xs ts d enc r:=by
 rw[<-VN] at h;obtain⟨q,he,hq⟩:=YT (st:=Xe (pC ts i d)) (K:=SK ts d enc r) (Kp:=SP ts r) hl hnd h;cases r with
 |ok y j=>
  refine PM.of hm rfl ⟨q,he,?_⟩;cases q<;>first|exact hq|exact hq.elim
 |er t=>
  cases q with
  |no=>exact hq.elim
  |ok v s=>exact(hq:False).elim
  |pn v s=>
   obtain⟨i',d',hq⟩:=(hq:∃ i' d',G1 3 (pC ts i' d') (er t) v s);exact⟨i',d',PM.of hm rfl ⟨_,he,hq⟩⟩
def yK (ts:List Tk)(i:Nat):SR Int:=
 if isM (tk ts i) [[45]]=true then(if(tk ts (i+1)).kind=2 then .ok (-((tk ts (i+1)).num:Int)) (i+2) else .er (tk ts (i+1)))
 else(if(tk ts i).kind=2 then .ok ((tk ts i).num:Int) (i+1) else .er (tk ts i))
theorem KY (hb:NB base){ts:List Tk}(W:Wds ts)(N:Nbs ts){i d:Nat}(hi:i<ts.length):AnS base 56 (pC ts i d) [] ts d (λn=>.int .i64 n) (yK ts i):=by
 have wl:=W.len;have T:=QJ hb hi (d:=d) (by omega) [[45]] (cs:=[.str [45]]) (n:=1) rfl rfl (by decide);unfold yK;by_cases c1:isM (tk ts i) [[45]]=true
 ·rw[if_pos c1];have hi1:=W.isM hi c1;have hN:=λst p=>@Xp base hb ts (i+1) d hi1 st p;have hn:=N (i+1);by_cases k2:(tk ts (i+1)).kind=2
  ·rw[if_pos k2];have k2':((tk ts (i+1)).kind:Int)=2:=by omega
   show PM _ _ _ _ _ _ _;unfold pC at *;refine jR HM (by rfl) (hb.pur 56 3 (by decide)) rfl ?_;simp only[Kj,jn,Qaj,Qam,Qah,Qai];rw[(by unfold ZX;simp only[qq];rfl:ZX=_)];repeat'(first|(apply jb<;>intro _)|simp(disch:=first|exact dzD|fail) only[T,c1,hN,k2',jj,Tk.cells_R,rzZ,Qab,Qac,Qad,Qaa,Qae])
   (refine G1.done ?_ (by rfl) (by rfl) ?_;(· (first|exact cyD|fail));(· first|exact vyD|skip))
  ·rw[if_neg k2];have k2':¬ ((tk ts (i+1)).kind:Int)=2:=by omega
   refine⟨i+1,d,?_⟩;unfold pC at *;refine jR HM (by rfl) (hb.pur 56 3 (by decide)) rfl ?_;simp only[Kj,jn,Qaj,Qam,Qah,Qai];rw[(by unfold ZX;simp only[qq];rfl:ZX=_)];repeat'(first|(apply jb<;>intro _)|simp(disch:=first|exact dzD|fail) only[T,c1,hN,k2',Jm hb,jj,Tk.cells_R,rzZ,Qab,Qac,Qad,Qaa,Qae])
   (refine G1.done ?_ (by rfl) (by rfl) ?_;(· (first|exact cyD|fail));(· first|exact vyD|skip))
 ·rw[if_neg c1];have hN:=λst p=>@Xp base hb ts i d hi st p;have hn:=N i;by_cases k2:(tk ts i).kind=2
  ·rw[if_pos k2];have k2':((tk ts i).kind:Int)=2:=by omega
   show PM _ _ _ _ _ _ _;unfold pC at *;refine jR HM (by rfl) (hb.pur 56 3 (by decide)) rfl ?_;simp only[Kj,jn,Qaj,Qam,Qah,Qai];rw[(by unfold ZX;simp only[qq];rfl:ZX=_)];repeat'(first|(apply jb<;>intro _)|simp(disch:=first|exact dzD|fail) only[T,c1,hN,k2',jj,Tk.cells_R,rzZ,Qab,Qac,Qad,Qaa,Qae])
   (refine G1.done ?_ (by rfl) (by rfl) ?_;(· (first|exact cyD|fail));(· first|exact vyD|skip))
  ·rw[if_neg k2];have k2':¬ ((tk ts i).kind:Int)=2:=by omega
   refine⟨i,d,?_⟩;unfold pC at *;refine jR HM (by rfl) (hb.pur 56 3 (by decide)) rfl ?_;simp only[Kj,jn,Qaj,Qam,Qah,Qai];rw[(by unfold ZX;simp only[qq];rfl:ZX=_)];repeat'(first|(apply jb<;>intro _)|simp(disch:=first|exact dzD|fail) only[T,c1,hN,k2',Jm hb,jj,Tk.cells_R,rzZ,Qab,Qac,Qad,Qaa,Qae])
   (refine G1.done ?_ (by rfl) (by rfl) ?_;(· (first|exact cyD|fail));(· first|exact vyD|skip))
structure EnumT where
 name:List Nat
 vals:List (List Nat)
 line:Int
 col:Int
def enE (e:EnumT):List AV:=[.str e.name,.lst e.vals.length (e.vals.map .str),.int .i64 (e.line:Int),.int .i64 (e.col:Int)]
def zu (ts:List Tk):Nat->Nat->List (List Nat)->SR (List (List Nat))
 |0,i,_=>.er (tk ts i)
 |n+1,i,vs=>if(tk ts i).kind=1 then
   (if 32<=vs.length then .er (tk ts i)
    else if isM (tk ts (i+1)) [[44]]=true then zu ts n (i+2) (vs ++ [(tk ts i).text])
    else if isM (tk ts (i+1)) [[125]]=true then .ok (vs ++ [(tk ts i).text]) (i+2)
    else .er (tk ts (i+1)))
  else .er (tk ts i)
def ze (ts:List Tk)(i:Nat):SR EnumT:=
 if(tk ts i).kind=1 then
  (if isM (tk ts (i+1)) [[123]]=true then(match zu ts ts.length (i+2) [] with
    |.ok vs j=>.ok ⟨(tk ts i).text,vs,(tk ts i).line,(tk ts i).col⟩ j
    |.er t=>.er t)
   else .er (tk ts (i+1)))
 else .er (tk ts i)
end Go.Sy
end
noncomputable section
set_option maxRecDepth 100000
namespace Go.Sy
open Go.Ev Go.Proofs
variable {base:Bs}
theorem Yf (hb:NB base){n:Nat}(h:n<32)(t:Tk):Tot base 33 [.int .i64 (n:Int),.agg t.cells] (.tup []):=by
 have:=jbK hb n t;rw[if_neg (by omega)] at this;exact this
theorem Yg (hb:NB base){n:Nat}(h:32<=n)(t:Tk):Ret base 33 [.int .i64 (n:Int),.agg t.cells] (.pn (er t)):=by
 have:=jbK hb n t;rw[if_pos h] at this;exact this
theorem jip:Go.Ev.isAgg Qaf 59=some false:=by kernel_rfl
theorem jio:Go.Ev.sizeOf Qaf 59=some 1:=by kernel_rfl
theorem jdA {b o:Nat}{v:AV}{h:T AO}(ho:o<qe h b)(hv:rat h b o=v)(hc:eqs v=true):(jN Qaf 59 (.ptr b o) v h=true)=True:=eq_true (zP jip jio ho hv hc)
theorem Lv.eqs {lo hi n z:Nat}{s:St}{v:AV}{cs:List AV}(h:Lv lo hi s v n cs z):Go.Sy.eqs v=true:=by
 rcases h with ⟨rfl,_⟩|⟨b,rfl,_⟩<;>rfl
theorem Lv.cell {lo hi n z:Nat}{s:St}{v:AV}{cs:List AV}(h:Lv lo hi s v n cs z):v.cell=true:=by
 rcases h with ⟨rfl,_⟩|⟨b,rfl,_⟩<;>rfl
theorem Lv.cells {lo hi n z:Nat}{s:St}{v:AV}{cs:List AV}(h:Lv lo hi s v n cs z):v.cells=[v]:=by
 rcases h with ⟨rfl,_⟩|⟨b,rfl,_⟩<;>rfl
theorem Lv.plain {lo hi n z:Nat}{s:St}{v:AV}{cs:List AV}(h:Lv lo hi s v n cs z):v.plain=true:=by
 rcases h with ⟨rfl,_⟩|⟨b,rfl,_⟩<;>rfl
theorem Lv.len {lo hi n z:Nat}{s:St}{v:AV}{cs:List AV}(h:Lv lo hi s v n cs z)(st:St)(K:AV->St->Prop):jd (K7 v st) K=K (.int .i64 (n:Int)) st:=by
 rcases h with ⟨rfl,rfl,_⟩|⟨b,rfl,_⟩
 ·exact KA
 ·exact HO ..
theorem jt (z:Nat)(v:AV)(s:St):(apv z v s).cells=[apv z v s]:=by unfold apv;split<;>rfl
theorem jA (z:Nat)(v:AV)(s:St):(apv z v s).plain=true:=by unfold apv;split<;>rfl
theorem jL (z:Nat)(v:AV)(s:St)(l:List AV):lall AV.cell (apv z v s :: l)=lall AV.cell l:=by unfold apv;split<;>rfl
set_option maxHeartbeats 4000000 in
theorem jhW (hb:NB base){ts:List Tk}(W:Wds ts){i d:Nat}(hi:i<ts.length):AnS base 34 (pC ts i d) [] ts d (λe=>.agg (enE e)) (ze ts i):=by
 have wl:=W.len;have N:=λst p=>@ZL base hb ts i d hi (by omega) st p;unfold ze;by_cases k1:(tk ts i).kind=1
 ·rw[if_pos k1];have hi1:i+1<ts.length:=W.next i hi (by omega)
  have M:=λst p=>@Jk base hb ts (i+1) d hi1 (by omega) [123] st p;by_cases c1:isM (tk ts (i+1)) [[123]]=true
  ·rw[if_pos c1];have hi2:=W.isM hi1 c1;suffices h:∀ r:SR EnumT,(match zu ts ts.length (i+2) [] with
    |.ok vs j=>SR.ok ⟨(tk ts i).text,vs,(tk ts i).line,(tk ts i).col⟩ j
    |.er t=>.er t:SR EnumT)=r->AnS base 34 (pC ts i d) [] ts d (λe=>.agg (enE e)) r from h _ rfl
   intro r hr;refine YU x78 (by rfl) (hb.pur 34 3 (by decide)) ?_;simp only[y78,jn,Qaj,Qam,Qah,Qai];rw[(by unfold z78;simp only[qq];rfl:z78=_)];unfold pC at *;repeat'(first|(apply jb<;>intro _)|simp(disch:=first|exact dzD|fail) only[N,k1,M,c1,jj,Tk.cells_R,rzZ,Qab,Qac,Qad,Qaa,Qae])
   refine Zw λu hu=>?_;have n0:u.nx=4:=by rw[hu];rfl
   have C0:Cl u 0 (pC ts (i+2) d):=by
    rw[hu];unfold pC
    (first|exact cyD|fail)
   have C1:Cl u 1 [.str [],.nils,.int .i64 0,.int .i64 0]:=by
    rw[hu]
    (first|exact cyD|fail)
   have C3:Cl u 3 [.str (tk ts i).text,.nils,.int .i64 ((tk ts i).line:Int),.int .i64 ((tk ts i).col:Int)]:=by
    rw[hu]
    (first|exact cyD|fail)
   clear hu N M;generalize (tk ts i).text=nm at *;generalize (tk ts i).line=ln at *;generalize (tk ts i).col=co at *;refine zI (λmm L s=>∃ (m i':Nat) (vs:List (List Nat)) (v:AV),mm=m/\ts.length<=i'+m/\i'<ts.length/\(match zu ts m i' vs with | .ok vs j=>SR.ok ⟨nm,vs,ln,co⟩ j | .er t=>.er t:SR EnumT)=r/\4<=s.nx/\Cl s 0 (pC ts i' d)/\Cl s 1 [.str [],.nils,.int .i64 0,.int .i64 0]/\Cl s 3 [.str nm,v,.int .i64 (ln:Int),.int .i64 (co:Int)]/\Lv 4 s.nx s v vs.length (vs.map .str) 1/\Has L 0 (.ptr 0 0)/\Has L 2 (.ptr 1 0)/\Has L 4 (.ptr 3 0)) ?_ ts.length ?_
   ·rintro m L s ⟨_,i',vs,v,rfl,hm,hi',hl,n0,C0,C1,C3,V,i0,i2,i4⟩;clear hr;cases m with
    |zero=>omega
    |succ m=>
    unfold zu at hl;obtain⟨q,hq⟩:∃ q,q=s.nx:=⟨_,rfl⟩;rw[<-hq] at V;have hq':q<=s.nx:=Qbx hq;have hN:=λst p=>@Xp base hb ts i' d hi' st p;have hM:=λst p=>@ZL base hb ts i' d hi' (by omega) st p;have L0:=C0.lt;have L1:=C1.lt;have L3:=C3.lt;have ve:=V.eqs;have g3:rat s.h 3 1=v:=C3.cell 1 (QbE (QbO 2));have vl:=V.len;by_cases k1:(tk ts i').kind=1
    ·rw[if_pos k1] at hl;have k1':((tk ts i').kind:Int)=1:=by omega
     have hi1:i'+1<ts.length:=W.next i' hi' (by omega)
     by_cases h32:32<=vs.length
     ·rw[if_pos h32] at hl;subst hl;have R:=Yg hb h32 (tk ts i');unfold pC at *
      (have zz:=aI @g3 (aI C0.r (aI C1.r C3.r));(repeat'(first|(apply jb<;>intro _)|simp(disch:=first|exact qm|fail) only[ja i0,ja i2,ja i4,hN,k1',vl,R,jdA,ve,yD,C0.q,C1.q,C3.q,g3,C0.r,C1.r,C3.r,jj,Tk.cells_R,rzZ,Qab,Qac,Qad,Qaa,Qae]));(all_goals(clear zz)))
      refine⟨i',d,?_⟩;unfold pC
      (refine G1.done ?_ (by rfl) (by rfl) ?_;(· (have zz:=aI C0.q (aI C1.q (aI C3.q (aI C0.r (aI C1.r C3.r))));first|exact jX|fail));(· first|exact vyD|skip))
     ·rw[if_neg h32] at hl;have R:=Yf hb (show vs.length<32 by omega) (tk ts i');have T:=QJ hb hi1 (d:=d) (by omega) [[44]] (cs:=[.str [44]]) (n:=1) rfl rfl (by decide);have M:=λst p=>@Jk base hb ts (i'+1) d hi1 (by omega) [125] st p;have A:=λst bv xc xx K h hv=>@wG 4 q vs.length 1 st v (vs.map .str) K 16 bv xc xx h (by decide) (by omega) (by omega) hv;have V2:∀ st m',Lv 4 q st v vs.length (vs.map .str) 1->4<=st.nx->m'=st.nx+1->Lv 4 m' (aps v st [.str (tk ts i').text]) (apv 1 v st) (vs ++ [(tk ts i').text]).length ((vs ++ [(tk ts i').text]).map .str) 1:=λst m' h h2 h3=>by
       rw[Qat,Qbe];exact h.put rfl h2 h3
      unfold pC at *
      (have zz:=aI @g3 (aI V.ln (aI V.rts (aI @jP (aI @jQ (aI @j0 (aI @V (aI @ve (aI @jt (aI @jA (aI @jL (aI C0.r (aI C1.r C3.r))))))))))));(repeat'(first|(apply jb<;>intro _)|simp(disch:=first|exact qm|fail) only[ja i0,ja i2,ja i4,hN,hM,k1,k1',vl,R,jdA,ve,A,V.at,jt,C0.q,C1.q,C3.q,g3,V.ln,V.rts,jP,jQ,j0,V,ve,jt,jA,jL,C0.r,C1.r,C3.r,jj,Tk.cells_R,rzZ,Qab,Qac,Qad,Qaa,Qae]));(all_goals(clear zz)))
      rw[T _ 0 (s.nx+1+1) 1 true (by(have zz:=aI C0.q (aI C1.q (aI C3.q (aI @g3 (aI V.ln (aI V.rts (aI C0.r (aI C1.r C3.r)))))));first|exact jX|fail)) (by(have zz:=aI C0.q (aI C1.q (aI C3.q (aI @g3 (aI V.ln (aI V.rts (aI C0.r (aI C1.r C3.r)))))));first|exact jX|fail)) (by omega)]
      (have zz:=aI @g3 (aI V.ln (aI V.rts (aI @jt (aI @jA (aI @jL (aI C0.r (aI C1.r C3.r)))))));(repeat'(first|(apply jb<;>intro _)|simp(disch:=first|exact qm|fail) only[ja i0,ja i2,ja i4,M,V.at,jt,kv,yD,C0.q,C1.q,C3.q,g3,V.ln,V.rts,jt,jA,jL,C0.r,C1.r,C3.r,jj,Tk.cells_R,rzZ,Qab,Qac,Qad,Qaa,Qae]));(all_goals(clear zz)))
      ·rename_i c;rw[if_pos c] at hl;have hi2:=W.isM hi1 c;refine⟨m,by omega,m,i'+1+1,vs ++ [(tk ts i').text],?v,rfl,by omega,hi2,hl,by omega,?c0,?c1,?c3,?lv,?has⟩;case lv=>
        refine Lv.up (hi:=s.nx+2) ?_ (by omega);simp(disch:=first|omega|(simp only[jf,jg,jr,jl];omega)) only[jP,jQ,j0];refine V2 _ _ ?_ ?_ ?_;all_goals first|(simp only[jf,jg];done)|(simp only[jf,jg];omega)|(simp(disch:=first|omega|(simp only[jf,jg];omega)) only[jP,jQ];exact V)
       case c0=>(have zz:=aI C0.q (aI C1.q (aI C3.q (aI @g3 (aI V.ln (aI V.rts (aI @jt (aI @jA (aI @jL (aI C0.r (aI C1.r C3.r))))))))));first|exact jX|fail)
       case c1=>(have zz:=aI C0.q (aI C1.q (aI C3.q (aI @g3 (aI V.ln (aI V.rts (aI @jt (aI @jA (aI @jL (aI C0.r (aI C1.r C3.r))))))))));first|exact jX|fail)
       case c3=>(have zz:=aI C0.q (aI C1.q (aI C3.q (aI @g3 (aI V.ln (aI V.rts (aI @jt (aI @jA (aI @jL (aI C0.r (aI C1.r C3.r))))))))));first|exact jX|fail)
       case has=>simp(disch:=decide) only[Qan,Qaq,z0,z1,ji,jc,and_true,true_and,i0,i2,i4]
      ·rename_i c c2;rw[if_neg c,if_pos c2] at hl;have hl:SR.ok (⟨nm,vs ++ [(tk ts i').text],ln,co⟩:EnumT) (i'+2)=r:=hl;subst hl;show G1 3 (pC ts (i'+2) d) (.agg (enE ⟨nm,vs ++ [(tk ts i').text],ln,co⟩)) _ _;refine G1.done ?_ (by rfl) (by rfl) (FzD.agg (.cons (.pc rfl) (.cons (Lv.fz (lo:=4) (hi:=s.nx+2) (z:=1) ?_ (by decide) (vQ _)) (.cons (.pc rfl) (.cons (.pc rfl) .nil)))))
       ·unfold pC
        (have zz:=aI C0.q (aI C1.q (aI C3.q (aI @g3 (aI V.ln (aI V.rts (aI @jt (aI @jA (aI @jL (aI C0.r (aI C1.r C3.r))))))))));first|exact jX|fail)
       ·simp(disch:=first|omega|(simp only[jf,jg,jr,jl];omega)) only[j4,jP,jQ,j0];refine V2 _ _ ?_ ?_ ?_;all_goals first|(simp only[jf,jg];done)|(simp only[jf,jg];omega)|(simp(disch:=first|omega|(simp only[jf,jg];omega)) only[jP,jQ];exact V)
      ·rename_i c c2;rw[if_neg c,if_neg c2] at hl;have hl:SR.er (tk ts (i'+1))=r:=hl;subst hl;refine⟨i'+1,d,?_⟩;unfold pC
       (refine G1.done ?_ (by rfl) (by rfl) ?_;(· (have zz:=aI C0.q (aI C1.q (aI C3.q (aI @g3 (aI V.ln (aI V.rts (aI @jt (aI @jA (aI @jL (aI C0.r (aI C1.r C3.r))))))))));first|exact jX|fail));(· first|exact vyD|skip))
    ·rw[if_neg k1] at hl;have k1':¬ ((tk ts i').kind:Int)=1:=by omega
     subst hl;unfold pC at *
     (have zz:=aI @g3 (aI C0.r (aI C1.r C3.r));(repeat'(first|(apply jb<;>intro _)|simp(disch:=first|exact qm|fail) only[ja i0,ja i2,ja i4,hN,hM,k1,k1',jdA,ve,yD,C0.q,C1.q,C3.q,g3,C0.r,C1.r,C3.r,jj,Tk.cells_R,rzZ,Qab,Qac,Qad,Qaa,Qae]));(all_goals(clear zz)))
     refine⟨i',d,?_⟩;unfold pC
     (refine G1.done ?_ (by rfl) (by rfl) ?_;(· (have zz:=aI C0.q (aI C1.q (aI C3.q (aI C0.r (aI C1.r C3.r))));first|exact jX|fail));(· first|exact vyD|skip))
   ·refine⟨ts.length,i+2,[],.nils,rfl,by omega,hi2,hr,by omega,C0,C1,C3,Lv.nil,?_⟩;simp(disch:=decide) only[Qan,Qaq,z0,z1,ji,jc,and_true,true_and]
  ·rw[if_neg c1];refine⟨i+1,d,?_⟩;unfold pC at *;refine jR x78 (by rfl) (hb.pur 34 3 (by decide)) rfl ?_;simp only[y78,jn,Qaj,Qam,Qah,Qai];rw[(by unfold z78;simp only[qq];rfl:z78=_)];repeat'(first|(apply jb<;>intro _)|simp(disch:=first|exact dzD|fail) only[N,k1,M,c1,jj,Tk.cells_R,rzZ,Qab,Qac,Qad,Qaa,Qae])
   (refine G1.done ?_ (by rfl) (by rfl) ?_;(· (first|exact cyD|fail));(· first|exact vyD|skip))
 ·rw[if_neg k1];refine⟨i,d,?_⟩;unfold pC at *;refine jR x78 (by rfl) (hb.pur 34 3 (by decide)) rfl ?_;simp only[y78,jn,Qaj,Qam,Qah,Qai];rw[(by unfold z78;simp only[qq];rfl:z78=_)];repeat'(first|(apply jb<;>intro _)|simp(disch:=first|exact dzD|fail) only[N,k1,jj,Tk.cells_R,rzZ,Qab,Qac,Qad,Qaa,Qae])
  (refine G1.done ?_ (by rfl) (by rfl) ?_;(· (first|exact cyD|fail));(· first|exact vyD|skip))
end Go.Sy
end
noncomputable section
set_option maxRecDepth 100000
namespace Go.Sy
open Go.Ev Go.Proofs
variable {base:Bs}
structure DeclT where
 name:List Nat
 ty:List Nat
 lo:Int
 hi:Int
 begins:List Ex
 line:Int
 col:Int
def qo (d:DeclT):List AV:=[.str d.name,.str d.ty,.int .i64 d.lo,.int .i64 d.hi,.lst d.begins.length (fl eE d.begins),.int .i64 (d.line:Int),.int .i64 (d.col:Int)]
def QI (ts:List Tk)(i:Nat):SR (List Nat×Int×Int):=
 if isM (tk ts i) [[98,111,111,108]]=true then .ok ([98,111,111,108],0,0) (i+1)
 else if(tk ts i).kind=1 then .ok ((tk ts i).text,0,0) (i+1)
 else match yK ts i with
  |.er t=>.er t
  |.ok lo j=>if isM (tk ts j) [[46,46]]=true then(match yK ts (j+1) with
   |.er t=>.er t
   |.ok hi k=>.ok ([],lo,hi) k) else .er (tk ts j)
def JH (ts:List Tk)(i:Nat):SR (List Ex):=
 if isM (tk ts i) [[61]]=true then(match qr ts (i+1) with
  |.er t=>.er t
  |.ok x j=>if isM (tk ts j) [[59]]=true then .ok [x] (j+1) else .er (tk ts j))
 else if isM (tk ts i) [[59]]=true then .ok [] (i+1) else .er (tk ts i)
def zf (ts:List Tk)(i:Nat):SR DeclT:=
 if(tk ts i).kind=1 then
  (if isM (tk ts (i+1)) [[58]]=true then(match QI ts (i+2) with
    |.er t=>.er t
    |.ok y j=>(match JH ts j with
     |.er t=>.er t
     |.ok bs k=>.ok ⟨(tk ts i).text,y.1,y.2.1,y.2.2,bs,(tk ts i).line,(tk ts i).col⟩ k))
   else .er (tk ts (i+1)))
 else .er (tk ts i)
def zD:List AV:=[.str [],.str [],.int .i64 0,.int .i64 0,.nils,.int .i64 0,.int .i64 0]
theorem jiN {m d b cap:Nat}{s:St}{ks:List Ex}{ex:Bool}{cs:List AV}(C:Cl s b cs)(hc:cs=fl eE ks)(hm:m<=b):FzD m (d+3) s (.slice b 0 ks.length cap 6 ex) (.lst ks.length (fl eE ks)):=by
 subst hc;have hl:=zG J3 ks;refine FzD.slice C.rw_ (Qbx hl.symm) hm ?_;rw[<-hl,QaY];exact .pc (Qh XN ks)
set_option maxHeartbeats 4000000 in
theorem jaG (hb:NB base){ts:List Tk}(W:Wds ts){j:Nat}(hj:j<ts.length){nm ty:List Nat}{lo hi:Int}{ln co:Nat}{r:SR DeclT}
  (hr:(match JH ts j with | .er t=>SR.er t | .ok bs k=>.ok ⟨nm,ty,lo,hi,bs,ln,co⟩ k)=r) {L:Sl} {s:St} (n0:4<=s.nx) (C0:Cl s 0 (pC ts j 0)) (C1:Cl s 1 zD)
  (C3:Cl s 3 [.str nm,.str ty,.int .i64 lo,.int .i64 hi,.nils,.int .i64 (ln:Int),.int .i64 (co:Int)]) (i0:Has L 0 (.ptr 0 0)) (i2:Has L 2 (.ptr 1 0)) (i4:Has L 4 (.ptr 3 0)) :
  xC Qaf base HE L s (XM Qaf y79.res (SK ts 0 (λd=>.agg (qo d)) r)) λv _ s=>SP ts r v s.bare:=by
 have wl:=W.len;have L0:=C0.lt;have L1:=C1.lt;have L3:=C3.lt;have T:=QJ hb hj (d:=0) (by omega) [[61]] (cs:=[.str [61]]) (n:=1) rfl rfl (by decide);unfold JH at hr;unfold zD pC at *;rw[(by unfold HE;simp only[qq];rfl:HE=_)];simp only[y79];by_cases c1:isM (tk ts j) [[61]]=true
 ·rw[if_pos c1] at hr;have hj1:=W.isM hj c1;have A:=Vw hb W hj1;cases hw:qr ts (j+1) with
  |er t=>
   rw[hw] at hr A;have hr:SR.er t=r:=hr;subst hr;obtain⟨i',d',A⟩:=A;have E:∀ st p,Cl st p (pC ts (j+1) 0)->∀ K Kp,XB Qaf base 14 [.ptr p 0] st K Kp=_:=λst p C K Kp=>A.xb C rfl (λst=>hb.no 14 (by decide) _ _) K Kp;unfold pC at *
   (have zz:=aI C0.r (aI C1.r C3.r);(repeat'(first|(apply jb<;>intro _)|simp(disch:=first|exact qm|fail) only[ja i0,ja i2,ja i4,T,c1,E,yD,C0.q,C1.q,C3.q,C0.r,C1.r,C3.r,jj,Tk.cells_R,rzZ,Qab,Qac,Qad,Qaa,Qae]));(all_goals(clear zz)))
   refine⟨i',d',?_⟩;unfold pC
   (refine G1.done ?_ (by rfl) (by rfl) ?_;(· (have zz:=aI C0.q (aI C1.q (aI C3.q (aI C0.r (aI C1.r C3.r))));first|exact jX|fail));(· first|exact vyD|skip))
  |ok x q=>
   rw[hw] at hr A;have A:PM _ _ _ _ _ _ _:=A;have E:∀ st p,Cl st p (pC ts (j+1) 0)->∀ K Kp,XB Qaf base 14 [.ptr p 0] st K Kp=_:=λst p C K Kp=>A.xb C rfl (λst=>hb.no 14 (by decide) _ _) K Kp;have hq:q<ts.length:=(yt W hj1 hw).2.1;have M:=λst p=>@Jk base hb ts q 0 hq (by omega) [59] st p;unfold pC at *
   (have zz:=aI C0.r (aI C1.r C3.r);(repeat'(first|(apply jb<;>intro _)|simp(disch:=first|exact qm|fail) only[ja i0,ja i2,ja i4,T,c1,E,M,yD,kv,C0.q,C1.q,C3.q,C0.r,C1.r,C3.r,jj,Tk.cells_R,rzZ,Qab,Qac,Qad,Qaa,Qae]));(all_goals(clear zz)))
   ·rename_i c2;dsimp only at hr;rw[if_pos c2] at hr;have hr:SR.ok (⟨nm,ty,lo,hi,[x],ln,co⟩:DeclT) (q+1)=r:=hr;subst hr;show G1 3 (pC ts (q+1) 0) (.agg (qo ⟨nm,ty,lo,hi,[x],ln,co⟩)) _ _;refine G1.done ?_ (by rfl) (by rfl) (FzD.agg (.cons (.pc rfl) (.cons (.pc rfl) (.cons (.pc rfl) (.cons (.pc rfl) (.cons (jiN (ks:=[x]) (cs:=eE x) ?_ (by rw[Xz]) (by omega)) (.pc rfl)))))))
    ·unfold pC
     (have zz:=aI C0.q (aI C1.q (aI C3.q (aI C0.r (aI C1.r C3.r))));first|exact jX|fail)
    ·(have zz:=aI C0.q (aI C1.q (aI C3.q (aI C0.r (aI C1.r C3.r))));first|exact jX|fail)
   ·rename_i c2;dsimp only at hr;rw[if_neg c2] at hr;have hr:SR.er (tk ts q)=r:=hr;subst hr;refine⟨q,0,?_⟩;unfold pC
    (refine G1.done ?_ (by rfl) (by rfl) ?_;(· (have zz:=aI C0.q (aI C1.q (aI C3.q (aI C0.r (aI C1.r C3.r))));first|exact jX|fail));(· first|exact vyD|skip))
 ·rw[if_neg c1] at hr;have M:=λst p=>@Jk base hb ts j 0 hj (by omega) [59] st p;unfold pC at *
  (have zz:=aI C0.r (aI C1.r C3.r);(repeat'(first|(apply jb<;>intro _)|simp(disch:=first|exact qm|fail) only[ja i0,ja i2,ja i4,T,c1,M,yD,kv,C0.q,C1.q,C3.q,C0.r,C1.r,C3.r,jj,Tk.cells_R,rzZ,Qab,Qac,Qad,Qaa,Qae]));(all_goals(clear zz)))
  ·rename_i c2;rw[if_pos c2] at hr;have hr:SR.ok (⟨nm,ty,lo,hi,[],ln,co⟩:DeclT) (j+1)=r:=hr;subst hr;show G1 3 (pC ts (j+1) 0) (.agg (qo ⟨nm,ty,lo,hi,[],ln,co⟩)) _ _;refine G1.done ?_ (by rfl) (by rfl) (FzD.agg (.cons (.pc rfl) (.cons (.pc rfl) (.cons (.pc rfl) (.cons (.pc rfl) (.cons .nils (.pc rfl)))))));unfold pC
   (have zz:=aI C0.q (aI C1.q (aI C3.q (aI C0.r (aI C1.r C3.r))));first|exact jX|fail)
  ·rename_i c2;rw[if_neg c2] at hr;have hr:SR.er (tk ts j)=r:=hr;subst hr;refine⟨j,0,?_⟩;unfold pC
   (refine G1.done ?_ (by rfl) (by rfl) ?_;(· (have zz:=aI C0.q (aI C1.q (aI C3.q (aI C0.r (aI C1.r C3.r))));first|exact jX|fail));(· first|exact vyD|skip))
end Go.Sy
end
noncomputable section
set_option maxRecDepth 100000
namespace Go.Sy
open Go.Ev Go.Proofs
variable {base:Bs}
theorem ZK {ts:List Tk}(W:Wds ts){i j:Nat}{n:Int}(hi:i<ts.length)(h:yK ts i=.ok n j):j<ts.length:=by
 unfold yK at h;by_cases c:isM (tk ts i) [[45]]=true
 ·rw[if_pos c] at h;have h1:=W.isM hi c;by_cases k:(tk ts (i+1)).kind=2
  ·rw[if_pos k] at h;cases h;exact W.next _ h1 (by omega)
  ·rw[if_neg k] at h;cases h
 ·rw[if_neg c] at h;by_cases k:(tk ts i).kind=2
  ·rw[if_pos k] at h;cases h;exact W.next _ hi (by omega)
  ·rw[if_neg k] at h;cases h
set_option maxHeartbeats 4000000 in
theorem jiU (hb:NB base){ts:List Tk}(W:Wds ts)(N:Nbs ts){i:Nat}(hi:i<ts.length){nm:List Nat}{ln co:Nat}{r:SR DeclT}
  (hr:(match QI ts i with | .er t=>SR.er t | .ok y j=>(match JH ts j with | .er t=>.er t | .ok bs k=>.ok ⟨nm,y.1,y.2.1,y.2.2,bs,ln,co⟩ k))=r) {L:Sl} {s:St} (n0:4<=s.nx) (C0:Cl s 0 (pC ts i 0)) (C1:Cl s 1 zD)
  (C3:Cl s 3 [.str nm,.str [],.int .i64 0,.int .i64 0,.nils,.int .i64 (ln:Int),.int .i64 (co:Int)]) (i0:Has L 0 (.ptr 0 0)) (i2:Has L 2 (.ptr 1 0)) (i4:Has L 4 (.ptr 3 0)) :
  xC Qaf base HG L s (XM Qaf y79.res (SK ts 0 (λd=>.agg (qo d)) r)) λv _ s=>SP ts r v s.bare:=by
 have wl:=W.len;have L0:=C0.lt;have L1:=C1.lt;have L3:=C3.lt;have T:=QJ hb hi (d:=0) (by omega) [[98,111,111,108]] (cs:=[.str [98,111,111,108]]) (n:=1) rfl rfl (by decide);have hN:=λst p=>@Xp base hb ts i 0 hi st p;have hM:=λst p=>@ZL base hb ts i 0 hi (by omega) st p;unfold QI at hr;unfold zD pC at *;rw[(by unfold HG;simp only[qq];rfl:HG=_)];by_cases c1:isM (tk ts i) [[98,111,111,108]]=true
 ·rw[if_pos c1] at hr;have hi1:=W.isM hi c1
  (have zz:=aI C0.r (aI C1.r C3.r);(repeat'(first|(apply jb<;>intro _)|simp(disch:=first|exact qm|fail) only[ja i0,ja i2,ja i4,T,c1,C0.q,C1.q,C3.q,C0.r,C1.r,C3.r,jj,Tk.cells_R,rzZ,Qab,Qac,Qad,Qaa,Qae]));(all_goals(clear zz)))
  refine jaG hb W hi1 hr ?_ ?_ ?_ ?_ ?_ ?_ ?_
  ·simp only[jf,jg,jl];omega
  ·unfold pC
   (have zz:=aI C0.q (aI C1.q (aI C3.q (aI C0.r (aI C1.r C3.r))));first|exact jX|fail)
  ·unfold zD
   (have zz:=aI C0.q (aI C1.q (aI C3.q (aI C0.r (aI C1.r C3.r))));first|exact jX|fail)
  ·(have zz:=aI C0.q (aI C1.q (aI C3.q (aI C0.r (aI C1.r C3.r))));first|exact jX|fail)
  ·simp(disch:=decide) only[Qan,Qaq,z0,z1,ji,jc,and_true,true_and,i0]
  ·simp(disch:=decide) only[Qan,Qaq,z0,z1,ji,jc,and_true,true_and,i2]
  ·simp(disch:=decide) only[Qan,Qaq,z0,z1,ji,jc,and_true,true_and,i4]
 rw[if_neg c1] at hr;by_cases k1:(tk ts i).kind=1
 ·rw[if_pos k1] at hr;have k1':((tk ts i).kind:Int)=1:=by omega
  have hi1:i+1<ts.length:=W.next i hi (by omega)
  (have zz:=aI C0.r (aI C1.r C3.r);(repeat'(first|(apply jb<;>intro _)|simp(disch:=first|exact qm|fail) only[ja i0,ja i2,ja i4,T,c1,k1,k1',hN,hM,C0.q,C1.q,C3.q,C0.r,C1.r,C3.r,jj,Tk.cells_R,rzZ,Qab,Qac,Qad,Qaa,Qae]));(all_goals(clear zz)))
  refine jaG hb W hi1 hr ?_ ?_ ?_ ?_ ?_ ?_ ?_
  ·simp only[jf,jg,jl];omega
  ·unfold pC
   (have zz:=aI C0.q (aI C1.q (aI C3.q (aI C0.r (aI C1.r C3.r))));first|exact jX|fail)
  ·unfold zD
   (have zz:=aI C0.q (aI C1.q (aI C3.q (aI C0.r (aI C1.r C3.r))));first|exact jX|fail)
  ·(have zz:=aI C0.q (aI C1.q (aI C3.q (aI C0.r (aI C1.r C3.r))));first|exact jX|fail)
  ·simp(disch:=decide) only[Qan,Qaq,z0,z1,ji,jc,and_true,true_and,i0]
  ·simp(disch:=decide) only[Qan,Qaq,z0,z1,ji,jc,and_true,true_and,i2]
  ·simp(disch:=decide) only[Qan,Qaq,z0,z1,ji,jc,and_true,true_and,i4]
 rw[if_neg k1] at hr;have k1':¬ ((tk ts i).kind:Int)=1:=by omega
 have A:=KY hb W N hi (d:=0);cases hn:yK ts i with
 |er t=>
  rw[hn] at hr A;have hr:SR.er t=r:=hr;subst hr;obtain⟨i',d',A⟩:=A;have E:∀ st p,Cl st p (pC ts i 0)->∀ K Kp,XB Qaf base 56 [.ptr p 0] st K Kp=_:=λst p C K Kp=>A.xb C rfl (λst=>hb.no 56 (by decide) _ _) K Kp;unfold pC at *
  (have zz:=aI C0.r (aI C1.r C3.r);(repeat'(first|(apply jb<;>intro _)|simp(disch:=first|exact qm|fail) only[ja i0,ja i2,ja i4,T,c1,k1',hN,E,yD,C0.q,C1.q,C3.q,C0.r,C1.r,C3.r,jj,Tk.cells_R,rzZ,Qab,Qac,Qad,Qaa,Qae]));(all_goals(clear zz)))
  refine⟨i',d',?_⟩;unfold pC
  (refine G1.done ?_ (by rfl) (by rfl) ?_;(· (have zz:=aI C0.q (aI C1.q (aI C3.q (aI C0.r (aI C1.r C3.r))));first|exact jX|fail));(· first|exact vyD|skip))
 |ok lo j=>
  rw[hn] at hr A;dsimp only at hr;have A:PM _ _ _ _ _ _ _:=A;have hj:j<ts.length:=ZK W hi hn;have E:∀ st p,Cl st p (pC ts i 0)->∀ K Kp,XB Qaf base 56 [.ptr p 0] st K Kp=_:=λst p C K Kp=>A.xb C rfl (λst=>hb.no 56 (by decide) _ _) K Kp;have M:=λst p=>@Jk base hb ts j 0 hj (by omega) [46,46] st p;by_cases c2:isM (tk ts j) [[46,46]]=true
  ·rw[if_pos c2] at hr;have hj1:=W.isM hj c2;have B:=KY hb W N hj1 (d:=0);cases hn2:yK ts (j+1) with
   |er t=>
    rw[hn2] at hr B;have hr:SR.er t=r:=hr;subst hr;obtain⟨i',d',B⟩:=B;have F:∀ st p,Cl st p (pC ts (j+1) 0)->∀ K Kp,XB Qaf base 56 [.ptr p 0] st K Kp=_:=λst p C K Kp=>B.xb C rfl (λst=>hb.no 56 (by decide) _ _) K Kp;unfold pC at *
    (have zz:=aI C0.r (aI C1.r C3.r);(repeat'(first|(apply jb<;>intro _)|simp(disch:=first|exact qm|fail) only[ja i0,ja i2,ja i4,T,c1,k1',hN,E,F,M,c2,yD,C0.q,C1.q,C3.q,C0.r,C1.r,C3.r,jj,Tk.cells_R,rzZ,Qab,Qac,Qad,Qaa,Qae]));(all_goals(clear zz)))
    refine⟨i',d',?_⟩;unfold pC
    (refine G1.done ?_ (by rfl) (by rfl) ?_;(· (have zz:=aI C0.q (aI C1.q (aI C3.q (aI C0.r (aI C1.r C3.r))));first|exact jX|fail));(· first|exact vyD|skip))
   |ok h2 k=>
    rw[hn2] at hr B;have hk:k<ts.length:=ZK W hj1 hn2;have B:PM _ _ _ _ _ _ _:=B;have F:∀ st p,Cl st p (pC ts (j+1) 0)->∀ K Kp,XB Qaf base 56 [.ptr p 0] st K Kp=_:=λst p C K Kp=>B.xb C rfl (λst=>hb.no 56 (by decide) _ _) K Kp;unfold pC at *
    (have zz:=aI C0.r (aI C1.r C3.r);(repeat'(first|(apply jb<;>intro _)|simp(disch:=first|exact qm|fail) only[ja i0,ja i2,ja i4,T,c1,k1',hN,E,F,M,c2,C0.q,C1.q,C3.q,C0.r,C1.r,C3.r,jj,Tk.cells_R,rzZ,Qab,Qac,Qad,Qaa,Qae]));(all_goals(clear zz)))
    refine jaG hb W hk hr ?_ ?_ ?_ ?_ ?_ ?_ ?_
    ·simp only[jf,jg,jl];omega
    ·unfold pC
     (have zz:=aI C0.q (aI C1.q (aI C3.q (aI C0.r (aI C1.r C3.r))));first|exact jX|fail)
    ·unfold zD
     (have zz:=aI C0.q (aI C1.q (aI C3.q (aI C0.r (aI C1.r C3.r))));first|exact jX|fail)
    ·(have zz:=aI C0.q (aI C1.q (aI C3.q (aI C0.r (aI C1.r C3.r))));first|exact jX|fail)
    ·simp(disch:=decide) only[Qan,Qaq,z0,z1,ji,jc,and_true,true_and,i0]
    ·simp(disch:=decide) only[Qan,Qaq,z0,z1,ji,jc,and_true,true_and,i2]
    ·simp(disch:=decide) only[Qan,Qaq,z0,z1,ji,jc,and_true,true_and,i4]
  ·rw[if_neg c2] at hr;have hr:SR.er (tk ts j)=r:=hr;subst hr;unfold pC at *
   (have zz:=aI C0.r (aI C1.r C3.r);(repeat'(first|(apply jb<;>intro _)|simp(disch:=first|exact qm|fail) only[ja i0,ja i2,ja i4,T,c1,k1',hN,E,M,c2,yD,C0.q,C1.q,C3.q,C0.r,C1.r,C3.r,jj,Tk.cells_R,rzZ,Qab,Qac,Qad,Qaa,Qae]));(all_goals(clear zz)))
   refine⟨j,0,?_⟩;unfold pC
   (refine G1.done ?_ (by rfl) (by rfl) ?_;(· (have zz:=aI C0.q (aI C1.q (aI C3.q (aI C0.r (aI C1.r C3.r))));first|exact jX|fail));(· first|exact vyD|skip))
set_option maxHeartbeats 4000000 in
theorem jh0 (hb:NB base){ts:List Tk}(W:Wds ts)(N:Nbs ts){i:Nat}(hi:i<ts.length):AnS base 35 (pC ts i 0) [] ts 0 (λd=>.agg (qo d)) (zf ts i):=by
 have wl:=W.len;have hM:=λst p=>@ZL base hb ts i 0 hi (by omega) st p;unfold zf;by_cases k1:(tk ts i).kind=1
 ·rw[if_pos k1];have hi1:i+1<ts.length:=W.next i hi (by omega)
  have M:=λst p=>@Jk base hb ts (i+1) 0 hi1 (by omega) [58] st p;by_cases c1:isM (tk ts (i+1)) [[58]]=true
  ·rw[if_pos c1];have hi2:=W.isM hi1 c1;suffices h:∀ r:SR DeclT,(match QI ts (i+2) with | .er t=>SR.er t | .ok y j=>(match JH ts j with | .er t=>.er t | .ok bs k=>.ok ⟨(tk ts i).text,y.1,y.2.1,y.2.2,bs,(tk ts i).line,(tk ts i).col⟩ k))=r->AnS base 35 (pC ts i 0) [] ts 0 (λd=>.agg (qo d)) r from h _ rfl
   intro r hr;refine YU x79 (by rfl) (hb.pur 35 3 (by decide)) ?_;simp only[y79,jn,Qaj,Qam,Qah,Qai];rw[(by unfold z79;simp only[qq];rfl:z79=_)];unfold pC at *;repeat'(first|(apply jb<;>intro _)|simp(disch:=first|exact dzD|fail) only[hM,k1,M,c1,jj,Tk.cells_R,rzZ,Qab,Qac,Qad,Qaa,Qae])
   refine jiU hb W N hi2 hr ?_ ?_ ?_ ?_ ?_ ?_ ?_
   ·simp only[jf,jg,jl,qM];omega
   ·unfold pC
    (first|exact cyD|fail)
   ·unfold zD
    (first|exact cyD|fail)
   ·(first|exact cyD|fail)
   ·simp(disch:=decide) only[Qan,Qaq,z0,z1,ji,jc,and_true,true_and]
   ·simp(disch:=decide) only[Qan,Qaq,z0,z1,ji,jc,and_true,true_and]
   ·simp(disch:=decide) only[Qan,Qaq,z0,z1,ji,jc,and_true,true_and]
  ·rw[if_neg c1];refine⟨i+1,0,?_⟩;unfold pC at *;refine jR x79 (by rfl) (hb.pur 35 3 (by decide)) rfl ?_;simp only[y79,jn,Qaj,Qam,Qah,Qai];rw[(by unfold z79;simp only[qq];rfl:z79=_)];repeat'(first|(apply jb<;>intro _)|simp(disch:=first|exact dzD|fail) only[hM,k1,M,c1,jj,Tk.cells_R,rzZ,Qab,Qac,Qad,Qaa,Qae])
   (refine G1.done ?_ (by rfl) (by rfl) ?_;(· (first|exact cyD|fail));(· first|exact vyD|skip))
 ·rw[if_neg k1];refine⟨i,0,?_⟩;unfold pC at *;refine jR x79 (by rfl) (hb.pur 35 3 (by decide)) rfl ?_;simp only[y79,jn,Qaj,Qam,Qah,Qai];rw[(by unfold z79;simp only[qq];rfl:z79=_)];repeat'(first|(apply jb<;>intro _)|simp(disch:=first|exact dzD|fail) only[hM,k1,jj,Tk.cells_R,rzZ,Qab,Qac,Qad,Qaa,Qae])
  (refine G1.done ?_ (by rfl) (by rfl) ?_;(· (first|exact cyD|fail));(· first|exact vyD|skip))
end Go.Sy
end
noncomputable section
set_option maxRecDepth 100000
namespace Go.Sy
open Go.Ev Go.Proofs
variable {base:Bs}
structure AsT where
 name:List Nat
 to:Ex
 line:Int
 col:Int
def asE (a:AsT):List AV:=.str a.name :: (eE a.to ++ [.int .i64 (a.line:Int),.int .i64 (a.col:Int)])
theorem Zh (a:AsT):(asE a).length=9:=nr (by simp[asE,J3])
theorem jfC (a:AsT):(asE a).all pc=true:=nr (by simp[asE,XN,pc])
theorem Ka (a:AsT):lall AV.cell (asE a)=true:=nr (by unfold asE;rw[yg];rfl)
structure RuleT where
 when:Ex
 acts:List AsT
def ruE (r:RuleT):List AV:=eE r.when ++ [.lst r.acts.length (fl asE r.acts)]
def zg (ts:List Tk):Nat->Nat->List AsT->SR (List AsT)
 |0,i,_=>.er (tk ts i)
 |n+1,i,vs=>if(tk ts i).kind=1 then
   (if 32<=vs.length then .er (tk ts i)
    else if isM (tk ts (i+1)) [[58,61]]=true then(match qr ts (i+2) with
     |.er t=>.er t
     |.ok x j=>
      if isM (tk ts j) [[44]]=true then zg ts n (j+1) (vs ++ [⟨(tk ts i).text,x,(tk ts i).line,(tk ts i).col⟩])
      else if isM (tk ts j) [[59]]=true then .ok (vs ++ [⟨(tk ts i).text,x,(tk ts i).line,(tk ts i).col⟩]) (j+1)
      else .er (tk ts j))
    else .er (tk ts (i+1)))
  else .er (tk ts i)
def zM (ts:List Tk)(i:Nat):SR RuleT:=
 match qr ts i with
 |.er t=>.er t
 |.ok x j=>if isM (tk ts j) [[100,111]]=true then(match zg ts ts.length (j+1) [] with
   |.ok vs k=>.ok ⟨x,vs⟩ k
   |.er t=>.er t)
  else .er (tk ts j)
theorem jhe:Go.Ev.isAgg Qaf 68=some false:=by kernel_rfl
theorem jhd:Go.Ev.sizeOf Qaf 68=some 1:=by kernel_rfl
theorem kr {b o:Nat}{v:AV}{h:T AO}(ho:o<qe h b)(hv:rat h b o=v)(hc:eqs v=true):(jN Qaf 68 (.ptr b o) v h=true)=True:=eq_true (zP jhe jhd ho hv hc)
theorem sm3 {b o:Nat}{v:AV}{h:T AO}(ho:o<qe h b)(hv:rat h b o=v)(hc:eqs v=true):(jN Qaf 3 (.ptr b o) v h=true)=True:=eq_true (zP jhc jhb ho hv hc)
set_option maxHeartbeats 4000000 in
theorem jhr (hb:NB base){ts:List Tk}(W:Wds ts){i:Nat}(hi:i<ts.length):AnS base 57 (pC ts i 0) [] ts 0 (λe=>.agg (ruE e)) (zM ts i):=by
 have wl:=W.len;have A:=Vw hb W hi;unfold zM;cases hw:qr ts i with
 |er t=>
  rw[hw] at A;obtain⟨i',d',A⟩:=A;have E:∀ st p,Cl st p (pC ts i 0)->∀ K Kp,XB Qaf base 14 [.ptr p 0] st K Kp=_:=λst p C K Kp=>A.xb C rfl (λst=>hb.no 14 (by decide) _ _) K Kp;refine⟨i',d',?_⟩;unfold pC at *;refine jR jdr (by rfl) (hb.pur 57 3 (by decide)) rfl ?_;simp only[HH,jn,Qaj,Qam,Qah,Qai];rw[(by unfold uI;simp only[qq];rfl:uI=_)];repeat'(first|(apply jb<;>intro _)|simp(disch:=first|exact dzD|fail) only[E,jj,Tk.cells_R,rzZ,Qab,Qac,Qad,Qaa,Qae])
  (refine G1.done ?_ (by rfl) (by rfl) ?_;(· (first|exact cyD|fail));(· first|exact vyD|skip))
 |ok x j=>
  rw[hw] at A;have A:PM _ _ _ _ _ _ _:=A;rw[yg] at A;have hj:j<ts.length:=(yt W hi hw).2.1;have E:∀ st p,Cl st p (pC ts i 0)->∀ K Kp,XB Qaf base 14 [.ptr p 0] st K Kp=_:=λst p C K Kp=>A.xb C rfl (λst=>hb.no 14 (by decide) _ _) K Kp;have M:=λst p=>@Jk base hb ts j 0 hj (by omega) [100,111] st p;dsimp only;by_cases c1:isM (tk ts j) [[100,111]]=true
  ·rw[if_pos c1];have hj1:=W.isM hj c1;suffices h:∀ r:SR RuleT,(match zg ts ts.length (j+1) [] with | .ok vs k=>SR.ok ⟨x,vs⟩ k | .er t=>.er t)=r->AnS base 57 (pC ts i 0) [] ts 0 (λe=>.agg (ruE e)) r from h _ rfl
   intro r hr;refine YU jdr (by rfl) (hb.pur 57 3 (by decide)) ?_;simp only[HH,jn,Qaj,Qam,Qah,Qai];rw[(by unfold uI;simp only[qq];rfl:uI=_)];unfold pC at *;repeat'(first|(apply jb<;>intro _)|simp(disch:=first|exact dzD|fail) only[E,M,c1,jj,Tk.cells_R,rzZ,Qab,Qac,Qad,Qaa,Qae])
   refine Zw λu hu=>?_;have n0:u.nx=3:=by rw[hu];rfl
   have C0:Cl u 0 (pC ts (j+1) 0):=by
    rw[hu];unfold pC
    (first|exact cyD|fail)
   have C1:Cl u 1 [.int .i64 0,.int .i64 0,.str [],.nils,.int .i64 0,.int .i64 0,.nils]:=by
    rw[hu]
    (first|exact cyD|fail)
   have C2:Cl u 2 [.int .i64 x.op,.int .i64 x.num,.str x.name,.lst x.kids.length (fl eE x.kids),.int .i64 x.line,.int .i64 x.col,.nils]:=by
    rw[hu]
    (first|exact cyD|fail)
   clear hu E M A;refine zI (λmm L s=>∃ (m i':Nat) (vs:List AsT) (v:AV),mm=m/\ts.length<=i'+m/\i'<ts.length/\(match zg ts m i' vs with | .ok vs k=>SR.ok ⟨x,vs⟩ k | .er t=>.er t:SR RuleT)=r/\3<=s.nx/\Cl s 0 (pC ts i' 0)/\Cl s 1 [.int .i64 0,.int .i64 0,.str [],.nils,.int .i64 0,.int .i64 0,.nils]/\Cl s 2 [.int .i64 x.op,.int .i64 x.num,.str x.name,.lst x.kids.length (fl eE x.kids),.int .i64 x.line,.int .i64 x.col,v]/\Lv 3 s.nx s v vs.length (fl asE vs) 9/\Has L 0 (.ptr 0 0)/\Has L 2 (.ptr 1 0)/\Has L 3 (.ptr 2 0)) ?_ ts.length ?_
   ·rintro m L s ⟨_,i',vs,v,rfl,hm,hi',hl,n0,C0,C1,C2,V,i0,i2,i3⟩;clear hr;cases m with
    |zero=>omega
    |succ m=>
    unfold zg at hl;obtain⟨q0,hq0⟩:∃ q,q=s.nx:=⟨_,rfl⟩;rw[<-hq0] at V;have hq':q0<=s.nx:=Qbx hq0;have hN:=λst p=>@Xp base hb ts i' 0 hi' st p;have hM:=λst p=>@ZL base hb ts i' 0 hi' (by omega) st p;have L0:=C0.lt;have L1:=C1.lt;have L2:=C2.lt;have ve:=V.eqs;have g3:rat s.h 2 6=v:=C2.cell 6 (by simp);have vl:=V.len;by_cases k1:(tk ts i').kind=1
    ·rw[if_pos k1] at hl;have k1':((tk ts i').kind:Int)=1:=by omega
     have hi1:i'+1<ts.length:=W.next i' hi' (by omega)
     by_cases h32:32<=vs.length
     ·rw[if_pos h32] at hl;have hl:SR.er (tk ts i')=r:=hl;subst hl;have R:=Yg hb h32 (tk ts i');unfold pC at *
      (have zz:=aI @g3 (aI C0.r (aI C1.r C2.r));(repeat'(first|(apply jb<;>intro _)|simp(disch:=first|exact qm|fail) only[ja i0,ja i2,ja i3,hN,k1',vl,R,kr,ve,yD,C0.q,C1.q,C2.q,g3,C0.r,C1.r,C2.r,jj,Tk.cells_R,rzZ,Qab,Qac,Qad,Qaa,Qae]));(all_goals(clear zz)))
      refine⟨i',0,?_⟩;unfold pC
      (refine G1.done ?_ (by rfl) (by rfl) ?_;(· (have zz:=aI C0.q (aI C1.q (aI C2.q (aI C0.r (aI C1.r C2.r))));first|exact jX|fail));(· first|exact vyD|skip))
     ·rw[if_neg h32] at hl;have R:=Yf hb (show vs.length<32 by omega) (tk ts i');have M1:=λst p=>@Jk base hb ts (i'+1) 0 hi1 (by omega) [58,61] st p;by_cases c2:isM (tk ts (i'+1)) [[58,61]]=true
      ·rw[if_pos c2] at hl;have hi2:=W.isM hi1 c2;have A:=Vw hb W hi2;cases hw2:qr ts (i'+2) with
       |er t=>
        rw[hw2] at hl A;have hl:SR.er t=r:=hl;subst hl;obtain⟨i2',d2,A⟩:=A;have E:∀ st p,Cl st p (pC ts (i'+2) 0)->∀ K Kp,XB Qaf base 14 [.ptr p 0] st K Kp=_:=λst p C K Kp=>A.xb C rfl (λst=>hb.no 14 (by decide) _ _) K Kp;unfold pC at *
        (have zz:=aI @g3 (aI @QB (aI @QA (aI C0.r (aI C1.r C2.r))));(repeat'(first|(apply jb<;>intro _)|simp(disch:=first|exact qm|fail) only[ja i0,ja i2,ja i3,hN,hM,k1,k1',vl,R,M1,c2,E,kr,sm9,sm3,ve,yD,Vs,jdq,jdp (base:=base),C0.q,C1.q,C2.q,g3,QB,QA,C0.r,C1.r,C2.r,jj,Tk.cells_R,rzZ,Qab,Qac,Qad,Qaa,Qae]));(all_goals(clear zz)))
        refine⟨i2',d2,?_⟩;unfold pC
        (refine G1.done ?_ (by rfl) (by rfl) ?_;(· (have zz:=aI C0.q (aI C1.q (aI C2.q (aI C0.r (aI C1.r C2.r))));first|exact jX|fail));(· first|exact vyD|skip))
       |ok y q=>
        rw[hw2] at hl A;dsimp only at hl;have A:PM _ _ _ _ _ _ _:=A;rw[yg] at A;have hq:q<ts.length:=(yt W hi2 hw2).2.1;have hq2:i'+3<=q:=(yt W hi2 hw2).1;have E:∀ st p,Cl st p (pC ts (i'+2) 0)->∀ K Kp,XB Qaf base 14 [.ptr p 0] st K Kp=_:=λst p C K Kp=>A.xb C rfl (λst=>hb.no 14 (by decide) _ _) K Kp;have T:=QJ hb hq (d:=0) (by omega) [[44]] (cs:=[.str [44]]) (n:=1) rfl rfl (by decide);have M:=λst p=>@Jk base hb ts q 0 hq (by omega) [59] st p;have Ap:=λst bv xc xx K h hv=>@wG 3 q0 vs.length 9 st v (fl asE vs) K 104 bv xc xx h (by decide) (by omega) (by omega) hv;obtain⟨a,hav⟩:∃ a:AsT,a=⟨(tk ts i').text,y,(tk ts i').line,(tk ts i').col⟩:=⟨_,rfl⟩;rw[<-hav] at hl;have ea:asE a=[.str (tk ts i').text,.int .i64 y.op,.int .i64 y.num,.str y.name,.lst y.kids.length (fl eE y.kids),.int .i64 y.line,.int .i64 y.col,.int .i64 ((tk ts i').line:Int),.int .i64 ((tk ts i').col:Int)]:=by rw[hav];unfold asE;rw[yg];rfl
        have V2:∀ st m',Lv 3 q0 st v vs.length (fl asE vs) 9->3<=st.nx->m'=st.nx+1->Lv 3 m' (aps v st [.str (tk ts i').text,.int .i64 y.op,.int .i64 y.num,.str y.name,.lst y.kids.length (fl eE y.kids),.int .i64 y.line,.int .i64 y.col,.int .i64 ((tk ts i').line:Int),.int .i64 ((tk ts i').col:Int)]) (apv 9 v st) (vs ++ [a]).length (fl asE (vs ++ [a])) 9:=λst m' h h2 h3=>by
         rw[Qat,YO,Xz,ea];exact h.put rfl h2 h3
        unfold pC at *
        (have zz:=aI @g3 (aI @QB (aI @QA (aI V.ln (aI V.rts (aI @jP (aI @jQ (aI @j0 (aI @V (aI @jt (aI @jA (aI @jL (aI C0.r (aI C1.r C2.r)))))))))))));(repeat'(first|(apply jb<;>intro _)|simp(disch:=first|exact qm|fail) only[ja i0,ja i2,ja i3,hN,hM,k1,k1',vl,R,M1,c2,E,kr,sm9,sm3,ve,Ap,V.at,jt,C0.q,C1.q,C2.q,g3,QB,QA,V.ln,V.rts,jP,jQ,j0,V,jt,jA,jL,C0.r,C1.r,C2.r,jj,Tk.cells_R,rzZ,Qab,Qac,Qad,Qaa,Qae]));(all_goals(clear zz)))
        rw[T _ 0 (s.nx+1+1+1) 1 true (by(have zz:=aI C0.q (aI C1.q (aI C2.q (aI @g3 (aI V.ln (aI V.rts (aI @jt (aI @jA (aI @jL (aI C0.r (aI C1.r C2.r))))))))));first|exact jX|fail)) (by(have zz:=aI C0.q (aI C1.q (aI C2.q (aI @g3 (aI V.ln (aI V.rts (aI @jt (aI @jA (aI @jL (aI C0.r (aI C1.r C2.r))))))))));first|exact jX|fail)) (by omega)]
        (have zz:=aI @g3 (aI V.ln (aI V.rts (aI @jt (aI @jA (aI @jL (aI C0.r (aI C1.r C2.r)))))));(repeat'(first|(apply jb<;>intro _)|simp(disch:=first|exact qm|fail) only[ja i0,ja i2,ja i3,M,V.at,jt,C0.q,C1.q,C2.q,g3,V.ln,V.rts,jt,jA,jL,C0.r,C1.r,C2.r,jj,Tk.cells_R,rzZ,Qab,Qac,Qad,Qaa,Qae]));(all_goals(clear zz)))
        ·rename_i c;rw[if_pos c] at hl;have hi2':=W.isM hq c;refine⟨m,by omega,m,q+1,vs ++ [a],?v,rfl,by omega,hi2',hl,by omega,?c0,?c1,?c2,?lv,?has⟩;case lv=>
          refine Lv.up (hi:=s.nx+3) ?_ (by omega);simp(disch:=first|omega|(simp only[jf,jg,jr,jl];omega)) only[jP,jQ,j0];refine V2 _ _ ?_ ?_ ?_;all_goals first|(simp only[jf,jg];done)|(simp only[jf,jg];omega)|(simp(disch:=first|omega|(simp only[jf,jg];omega)) only[jP,jQ];exact V)
         case c0=>(have zz:=aI C0.q (aI C1.q (aI C2.q (aI @g3 (aI V.ln (aI V.rts (aI @jt (aI @jA (aI @jL (aI C0.r (aI C1.r C2.r))))))))));first|exact jX|fail)
         case c1=>(have zz:=aI C0.q (aI C1.q (aI C2.q (aI @g3 (aI V.ln (aI V.rts (aI @jt (aI @jA (aI @jL (aI C0.r (aI C1.r C2.r))))))))));first|exact jX|fail)
         case c2=>(have zz:=aI C0.q (aI C1.q (aI C2.q (aI @g3 (aI V.ln (aI V.rts (aI @jt (aI @jA (aI @jL (aI C0.r (aI C1.r C2.r))))))))));first|exact jX|fail)
         case has=>simp(disch:=decide) only[Qan,Qaq,z0,z1,ji,jc,and_true,true_and,i0,i2,i3]
        ·rename_i c c4;rw[if_neg c,if_pos c4] at hl;have hl:SR.ok (⟨x,vs ++ [a]⟩:RuleT) (q+1)=r:=hl;subst hl;show G1 3 (pC ts (q+1) 0) (.agg (ruE ⟨x,vs ++ [a]⟩)) _ _;rw[show ruE ⟨x,vs ++ [a]⟩=[.int .i64 x.op,.int .i64 x.num,.str x.name,.lst x.kids.length (fl eE x.kids),.int .i64 x.line,.int .i64 x.col,.lst (vs ++ [a]).length (fl asE (vs ++ [a]))] by unfold ruE;rw[yg];rfl];refine G1.done ?_ (by rfl) (by rfl) (FzD.agg (.cons (.pc rfl) (.cons (.pc rfl) (.cons (.pc rfl) (.cons (.pc rfl) (.cons (.pc rfl) (.cons (.pc rfl) (.cons (Lv.fz (lo:=3) (hi:=s.nx+3) (z:=9) ?_ (by decide) (Qh jfC _)) .nil))))))))
         ·unfold pC
          (have zz:=aI C0.q (aI C1.q (aI C2.q (aI @g3 (aI V.ln (aI V.rts (aI @jt (aI @jA (aI @jL (aI C0.r (aI C1.r C2.r))))))))));first|exact jX|fail)
         ·simp(disch:=first|omega|(simp only[jf,jg,jr,jl];omega)) only[j4,jP,jQ,j0];refine V2 _ _ ?_ ?_ ?_;all_goals first|(simp only[jf,jg];done)|(simp only[jf,jg];omega)|(simp(disch:=first|omega|(simp only[jf,jg];omega)) only[jP,jQ];exact V)
        ·rename_i c c4;rw[if_neg c,if_neg c4] at hl;have hl:SR.er (tk ts q)=r:=hl;subst hl;refine⟨q,0,?_⟩;unfold pC
         (refine G1.done ?_ (by rfl) (by rfl) ?_;(· (have zz:=aI C0.q (aI C1.q (aI C2.q (aI @g3 (aI V.ln (aI V.rts (aI @jt (aI @jA (aI @jL (aI C0.r (aI C1.r C2.r))))))))));first|exact jX|fail));(· first|exact vyD|skip))
      ·rw[if_neg c2] at hl;have hl:SR.er (tk ts (i'+1))=r:=hl;subst hl;unfold pC at *
       (have zz:=aI @g3 (aI C0.r (aI C1.r C2.r));(repeat'(first|(apply jb<;>intro _)|simp(disch:=first|exact qm|fail) only[ja i0,ja i2,ja i3,hN,hM,k1,k1',vl,R,M1,c2,kr,ve,yD,C0.q,C1.q,C2.q,g3,C0.r,C1.r,C2.r,jj,Tk.cells_R,rzZ,Qab,Qac,Qad,Qaa,Qae]));(all_goals(clear zz)))
       refine⟨i'+1,0,?_⟩;unfold pC
       (refine G1.done ?_ (by rfl) (by rfl) ?_;(· (have zz:=aI C0.q (aI C1.q (aI C2.q (aI C0.r (aI C1.r C2.r))));first|exact jX|fail));(· first|exact vyD|skip))
    ·rw[if_neg k1] at hl;have k1':¬ ((tk ts i').kind:Int)=1:=by omega
     have hl:SR.er (tk ts i')=r:=hl;subst hl;unfold pC at *
     (have zz:=aI @g3 (aI C0.r (aI C1.r C2.r));(repeat'(first|(apply jb<;>intro _)|simp(disch:=first|exact qm|fail) only[ja i0,ja i2,ja i3,hN,hM,k1,k1',yD,C0.q,C1.q,C2.q,g3,C0.r,C1.r,C2.r,jj,Tk.cells_R,rzZ,Qab,Qac,Qad,Qaa,Qae]));(all_goals(clear zz)))
     refine⟨i',0,?_⟩;unfold pC
     (refine G1.done ?_ (by rfl) (by rfl) ?_;(· (have zz:=aI C0.q (aI C1.q (aI C2.q (aI C0.r (aI C1.r C2.r))));first|exact jX|fail));(· first|exact vyD|skip))
   ·refine⟨ts.length,j+1,[],.nils,rfl,by omega,hj1,hr,by omega,C0,C1,C2,Lv.nil,?_⟩;simp(disch:=decide) only[Qan,Qaq,z0,z1,ji,jc,and_true,true_and]
  ·rw[if_neg c1];refine⟨j,0,?_⟩;unfold pC at *;refine jR jdr (by rfl) (hb.pur 57 3 (by decide)) rfl ?_;simp only[HH,jn,Qaj,Qam,Qah,Qai];rw[(by unfold uI;simp only[qq];rfl:uI=_)];repeat'(first|(apply jb<;>intro _)|simp(disch:=first|exact dzD|fail) only[E,M,c1,jj,Tk.cells_R,rzZ,Qab,Qac,Qad,Qaa,Qae])
   (refine G1.done ?_ (by rfl) (by rfl) ?_;(· (first|exact cyD|fail));(· first|exact vyD|skip))
end Go.Sy
end
