/-
  Contracts: the code lowered, what it does told by rules, and the contracts of the functions that the law reaches.
-/
import Derived.Test.YtndojkghlhllpaaGreatDoorSgSyB
import Derived.Test.YtndojkghlhllpaaGreatDoorProg
import Derived.KernelRfl
set_option linter.unusedVariables false
set_option linter.unusedSimpArgs false
open Int renaming reduceToNat → Qaa, natCast_zero → Qam, zero_add → Qaq, ofNat → Qbi, eq_ofNat_of_zero_le → Qbt, natCast_nonneg → Qci
open Nat renaming reduceAdd → Qab, reduceSub → Qac, reduceMul → Qad, reduceBEq → Qae, le_refl → Qao, ble → Qap, beq → Qas, mul → Qav, le_trans → Qaw, add → QaC, succ → QaE, zero_le → QaG, le_max_right → QaI, zero_add → QaK, le_max_left → QaL, mul_le_mul_right → QaM, lt_of_lt_of_le → QaO, lt_or_ge → QaT, not_lt_zero → QaZ, sub → Qbh, sub_zero → Qbj, add_mul → Qbn, zero_mul → Qbp, succ_pos → Qbr, succ_mul → Qbw, le_of_eq → QbC, lt_irrefl → QbD, mod_eq_of_lt → QbP, lt_succ_self → QbR, succ_lt_succ → QbS, min_eq_left → QbU, add_assoc → QbW, add_zero → Qcm, add_comm → Qco, ne_of_lt → Qcq, mul_one → Qcs, le_of_lt → Qcx, lt_trichotomy → QcD, le_succ_of_le → QcE
open Go.Proofs.Tryz renaming prog → Qaf
open List renaming getD_cons_zero → Qag, getD_cons_succ → Qah, map_cons → Qai, map_nil → Qaj, length_cons → Qak, length_append → Qal, length_nil → Qan, getElem_mem → Qat, getElem?_eq_getElem → Qau, getD_eq_getElem?_getD → Qax, cons_append → Qay, take_length → Qaz, all_eq_true → QaA, nil_append → QaF, length_take → QaH, range' → QaJ, getD → QaN, length_map → QaP, eq_nil_of_length_eq_zero → QaQ, length_drop → QaR, range → QaU, mem_append → QaV, append_assoc → QaY, cons → Qba, take_zero → Qbd, all_cons → Qbe, append_nil → Qbk, all_append → Qbl, mem_map → Qbo, mem_singleton → Qbq, take_append_drop → Qbs, mem_iff_getElem → Qbu, mem_cons → Qbv, drop_zero → Qbx, getElem_cons_zero → Qby, map_congr_left → Qbz, range'_succ → QbB, getElem_cons_succ → QbG, getElem_cons_drop → QbH, ext_getElem → QbI, map_map → QbL, mem_of_mem_take → QbM, length_pos_iff → QbO, getElem?_take → QbT, map_append → QbV, getElem?_append_right → QbX, getElem?_map → QbY, getElem?_append_left → QbZ, mem_cons_of_mem → Qca, drop_eq_getElem_cons → Qcb, drop_drop → Qcc, map_toArray → Qcd, drop_length → Qce, getElem?_drop → Qch, length_set → Qcj, take_add_one → Qck, foldl_append → Qcl, countP_singleton → Qcp, take_succ_cons → Qcu, foldr_cons → Qcw, take_take → Qcz, mem_range → QcA, flatMap_cons → QcC
open Bool renaming and_eq_true → Qar, eq_iff_iff → QaW, or_eq_true → QaX, not_eq_true' → Qbb, false_eq_true → Qbc, true_eq_false → QbK, or_eq_false_iff → QbN, true_and → Qcg, and_eq_false_iff → Qcn
open Array renaming length_toList → QaB, getElem?_eq_some_iff → QaD, replicate → Qbg, getD_eq_getD_getElem? → QbE, getElem?_toList → QbJ, toList_map → QbQ, getElem?_setIfInBounds_ne → Qcf, mem_toList_iff → Qcr, toList_append → Qct, getElem?_eq_getElem → Qcv
open Option renaming map_some → QaS, getD_some → Qbf, bind_some → Qbm, map_none → QbA, map_eq_some_iff → QbF, isSome_iff_exists → Qcy
open Function renaming comp_def → QcB
noncomputable section
namespace Go.Sy
open Go.Ev Go.RowKit
section
variable {P:Program} {base:Bs} {st:St} {K:AV->St->Prop} {e:En}
theorem jpe {b o k:Nat}(hpos:0<k)(h:o+k<=qt st.h b):jl (zg k (.ptr b o) st) K=K (.agg ((QaU k).map λi=>rat st.h b (o+i))) st:=by
 obtain⟨n,zl,z,cs,hg⟩:=YB (h:=st.h) (b:=b) (by omega);rw[JR hg] at h;have e1:Qap (QaC o k) n=true:=q9 h;simp only[zg,q8,hg,yB,e1,cond_true,jl,Zm hg,qD]
theorem jrm {l:List Nat}{n:Nat}(h:n<=l.length)(k:IntKind):jl (Jw (.str l) (some (.int k (n:Int))) none st) K=K (.str (l.drop n)) st:=by
 have e:qA (.int k (n:Int))=λF=>F n:=by funext F;show(force n F)=F n;rw[jH]
 have e1:Qap n l.length=true:=q9 h;have e2:Qap l.length l.length=true:=q9 (Qao _);simp only[Jw,zT,optA,e,jR,jH,e1,e2,cond_true,jl,yb,yX];rw[show Qbh l.length n=(l.drop n).length by rw[QaR];rfl,Qaz]
theorem jrl {l:List Nat}{n:Nat}(h:n<=l.length)(k:IntKind):jl (Jw (.str l) none (some (.int k (n:Int))) st) K=K (.str (l.take n)) st:=by
 have e:qA (.int k (n:Int))=λF=>F n:=by funext F;show(force n F)=F n;rw[jH]
 have e1:Qap n l.length=true:=q9 h;have e2:Qap 0 n=true:=q9 (QaG _);simp only[Jw,zT,optA,e,jR,jH,e1,e2,cond_true,jl,yb,yX];rfl
theorem jrk {l:List Nat}{a n:Nat}(h:a<=n)(h2:n<=l.length)(k k':IntKind):jl (Jw (.str l) (some (.int k (a:Int))) (some (.int k' (n:Int))) st) K=K (.str ((l.drop a).take (n - a))) st:=by
 have e:∀ (k:IntKind) (n:Nat),qA (.int k (n:Int))=λF=>F n:=λk n=>by funext F;show(force n F)=F n;rw[jH]
 have e1:Qap n l.length=true:=q9 h2;have e2:Qap a n=true:=q9 h;simp only[Jw,zT,optA,e,jR,jH,e1,e2,cond_true,jl,yb,yX];rfl
end
def nw (s:St)(cs:List AV):St:=⟨s.nx+1,(qc (jM s.nx)).run (.row cs.length cs.length cs .e) s.h,s.dirty,s.fr⟩
def jeZ (x:Option AO)(o:Nat)(vs:List AV):AO:=match x with|some (.row n zl z cs)=>.row n zl z (qr vs cs o)|_=>.row 0 1 [] (qr vs .e o)
def wr (s:St)(b o:Nat)(vs:List AV):St:=⟨s.nx,(qc (jM b)).run (jeZ (jx s.h b) o vs) s.h,min s.dirty b,s.fr⟩
def apO (x:Option AO)(vs:List AV):AO:=match x with|some (.row n zl z cs)=>.row (n+vs.length) zl z (qr vs cs n)|_=>.row vs.length 1 [] (qr vs .e 0)
def ap (s:St)(b:Nat)(vs:List AV):St:=⟨s.nx+1,(qc (jM s.nx)).run (apO (jx s.h b) vs) ((qc (jM b)).run .dead s.h),min s.dirty b,s.fr⟩
theorem jg (s:St)(cs:List AV):(nw s cs).nx=s.nx+1:=nr rfl
theorem jj (s:St)(b o:Nat)(vs:List AV):(wr s b o vs).nx=s.nx:=nr rfl
theorem jk (s:St):s.bare.nx=s.nx:=nr rfl
theorem uW (s:St):s.bare.h=s.h:=nr rfl
theorem UH (s:St)(cs:List AV):(nw s cs).fr=s.fr:=nr rfl
theorem jaA (s:St)(b o:Nat)(vs:List AV):(wr s b o vs).fr=s.fr:=nr rfl
theorem jdV (s:St):s.bare.fr=[]:=nr rfl
theorem Jt {s:St}{cs:List AV}{b:Nat}(h:b≠s.nx):jx (nw s cs).h b=jx s.h b:=by unfold nw;rw[jZ,if_neg h]
theorem Jc {s:St}{b o:Nat}{vs:List AV}{c:Nat}(h:c≠b):jx (wr s b o vs).h c=jx s.h c:=by unfold wr;rw[jZ,if_neg h]
theorem jdS {s:St}{b:Nat}{vs:List AV}{c:Nat}(h:c≠s.nx)(h2:c≠b):jx (ap s b vs).h c=jx s.h c:=by unfold ap;rw[jZ,if_neg h,jZ,if_neg h2]
theorem jhE (s:St)(cs:List AV):qt (nw s cs).h s.nx=cs.length:=by unfold nw;rw[jke,if_pos rfl]
theorem Xs {s:St}{cs:List AV}{b:Nat}(h:b≠s.nx):qt (nw s cs).h b=qt s.h b:=yJ (Jt h)
theorem jfX {s:St}{cs:List AV}{i:Nat}(h:i<cs.length):rat (nw s cs).h s.nx i=cs.getD i .bad:=by unfold nw;rw[jm7,if_pos rfl,zn,Yd,QbP h];rfl
theorem vH {s:St}{cs:List AV}{b i:Nat}(h:b≠s.nx):rat (nw s cs).h b i=rat s.h b i:=yw (Jt h) i
theorem wR {s:St}{cs:List AV}{b:Nat}(h:b=s.nx):qt (nw s cs).h b=cs.length:=by rw[h,jhE]
theorem gt {s:St}{cs:List AV}{b i:Nat}(h:b=s.nx)(hi:i<cs.length):rat (nw s cs).h b i=cs.getD i .bad:=by rw[h,jfX hi]
theorem Q5 (s:St)(b o:Nat)(vs:List AV)(c:Nat):qt (wr s b o vs).h c=qt s.h c:=by
 by_cases h:c=b
 ·subst h;unfold wr jeZ qt;rw[jZ,if_pos rfl];cases jx s.h c with
  |none=>rfl
  |some x=>cases x<;>rfl
 ·exact yJ (Jc h)
theorem V6 (s:St)(b o:Nat)(vs:List AV)(i:Nat):rat (wr s b o vs).h b i=if o<=i/\i<o+vs.length then vs.getD (i - o) .bad else rat s.h b i:=by
 unfold wr rat;rw[jZ,if_pos rfl];unfold jeZ;cases jx s.h b with
 |none=>simp only[yW];congr 1;rw[zn,Yd];rfl
 |some x=>cases x<;>simp only[yW]<;>(congr 1;rw[zn,Yd];rfl)
theorem UO {s:St}{b o:Nat}{vs:List AV}{i:Nat}(h1:o<=i)(h2:i<o+vs.length):rat (wr s b o vs).h b i=vs.getD (i - o) .bad:=by rw[V6,if_pos ⟨h1,h2⟩]
theorem gn {s:St}{b o:Nat}{vs:List AV}{i:Nat}(h:i<o):rat (wr s b o vs).h b i=rat s.h b i:=by rw[V6,if_neg (by omega)]
theorem gq {s:St}{b o:Nat}{vs:List AV}{i:Nat}(h:o+vs.length<=i):rat (wr s b o vs).h b i=rat s.h b i:=by rw[V6,if_neg (by omega)]
theorem ZX {s:St}{b o c:Nat}{vs:List AV}{i:Nat}(h:c≠b):rat (wr s b o vs).h c i=rat s.h c i:=yw (Jc h) i
theorem jkF {s:St}{b o:Nat}{vs:List AV}{c:Nat}(h:ur s.h c):ur (wr s b o vs).h c:=by
 by_cases hc:c=b
 ·subst hc;unfold ur wr;rw[jZ,if_pos rfl];obtain⟨n,zl,z,cs,e⟩:=h;rw[e];exact⟨_,_,_,_,rfl⟩
 ·exact Jm (Jc hc) h
structure Cl (s:St)(b:Nat)(cs:List AV):Prop where
 lt:b<s.nx
 row:ur s.h b
 len:qt s.h b=cs.length
 cell:∀ i,i<cs.length->rat s.h b i=cs.getD i .bad
theorem Cl.keep {s s':St}{b:Nat}{cs:List AV}(h:Cl s b cs)(hn:s.nx<=s'.nx)(k:jx s'.h b=jx s.h b):Cl s' b cs:=
 ⟨QaO h.lt hn,Jm k h.row,(yJ k).trans h.len,λi hi=>(yw k i).trans (h.cell i hi)⟩
theorem Cl.new (s:St)(cs:List AV):Cl (nw s cs) s.nx cs:=
 ⟨QbR _,⟨_,_,_,_,by unfold nw;rw[jZ,if_pos rfl]⟩,jhE s cs,λi hi=>jfX hi⟩
theorem Cl.nw {s:St}{b:Nat}{cs:List AV}(h:Cl s b cs)(ds:List AV):Cl (nw s ds) b cs:=h.keep (Nat.le_succ _) (Jt (Qcq h.lt))
theorem Cl.wrO {s:St}{b:Nat}{cs:List AV}(h:Cl s b cs){c:Nat}(hc:b≠c)(o:Nat)(vs:List AV):Cl (wr s c o vs) b cs:=h.keep (Qao _) (Jc hc)
def upd:List AV->Nat->List AV->List AV
 |[],_,_=>[]
 |c :: cs,0,[]=>c :: cs
 |c :: cs,0,v :: vs=>v :: upd cs 0 vs
 |c :: cs,o+1,vs=>c :: upd cs o vs
theorem uJ:∀ (cs:List AV) (o:Nat) (vs:List AV),(upd cs o vs).length=cs.length
 |[],_,_=>rfl
 |c :: cs,0,[]=>rfl
 |c :: cs,0,v :: vs=>by show(upd cs 0 vs).length+1=_;rw[uJ cs 0 vs];rfl
 |c :: cs,o+1,vs=>by show(upd cs o vs).length+1=_;rw[uJ cs o vs];rfl
theorem Ud:∀ (cs:List AV) (o:Nat) (vs:List AV) (i:Nat),i<cs.length->(upd cs o vs).getD i .bad=if o<=i/\i<o+vs.length then vs.getD (i - o) .bad else cs.getD i .bad
 |[],_,_,_,h=>by simp at h
 |c :: cs,0,[],i,h=>by rw[if_neg (by simp)];rfl
 |c :: cs,0,v :: vs,0,h=>by rw[if_pos (by simp)];rfl
 |c :: cs,0,v :: vs,i+1,h=>by
  show(upd cs 0 vs).getD i .bad=_;rw[Ud cs 0 vs i (by simpa using h)];by_cases hi:i<vs.length
  ·rw[if_pos (by omega),if_pos (by simp;omega)];rfl
  ·rw[if_neg (by omega),if_neg (by simp;omega)];rfl
 |c :: cs,o+1,vs,0,h=>by rw[if_neg (by omega)];rfl
 |c :: cs,o+1,vs,i+1,h=>by
  show(upd cs o vs).getD i .bad=_;rw[Ud cs o vs i (by simpa using h)];by_cases hi:o<=i/\i<o+vs.length
  ·rw[if_pos hi,if_pos (by omega),Nat.add_sub_add_right]
  ·rw[if_neg hi,if_neg (by omega)];rfl
theorem Cl.wr {s:St}{b:Nat}{cs:List AV}(h:Cl s b cs)(o:Nat)(vs:List AV):Cl (wr s b o vs) b (upd cs o vs):=
 ⟨h.lt,jkF h.row,by rw[Q5,h.len,uJ],λi hi=>by
  rw[uJ] at hi;rw[V6,Ud _ _ _ _ hi,h.cell i hi]⟩
theorem Cl.ap {s:St}{b:Nat}{cs:List AV}(h:Cl s b cs)(vs:List AV):Cl (ap s b vs) s.nx (cs ++ vs):=by
 obtain⟨n,zl,z,ks,e⟩:=h.row;have hl:=h.len;rw[JR e] at hl;have eo:jx (Go.Sy.ap s b vs).h s.nx=some (.row (n+vs.length) zl z (qr vs ks n)):=by unfold Go.Sy.ap;rw[jZ,if_pos rfl,e];rfl
 refine⟨QbR _,⟨_,_,_,_,eo⟩,by rw[JR eo,Qal,hl],λi hi=>?_⟩;rw[Zm eo,yW];rw[Qal] at hi;by_cases hc:n<=i/\i<n+vs.length
 ·rw[if_pos hc,Qax,Qax,QbX (by omega),hl]
 ·have hi':i<cs.length:=by omega
  rw[if_neg hc,<-Zm e,h.cell i hi',Qax,Qax,QbZ hi']
theorem YF (cs:List AV):(AV.agg cs).cells=cs:=nr rfl
theorem uk (k:IntKind)(n:Int):(AV.int k n).cells=[.int k n]:=nr rfl
theorem ug (l:List Nat):(AV.str l).cells=[.str l]:=nr rfl
theorem wD (b:Bool):(AV.bool b).cells=[.bool b]:=nr rfl
theorem ZM (b o n c z:Nat)(x:Bool):(AV.slice b o n c z x).cells=[.slice b o n c z x]:=nr rfl
theorem wC:AV.nils.cells=[.nils]:=nr rfl
theorem ui (b o:Nat):(AV.ptr b o).cells=[.ptr b o]:=nr rfl
theorem jbU:lall AV.cell []=true:=nr rfl
theorem jbW (k:IntKind)(n:Int)(l:List AV):lall AV.cell (.int k n :: l)=lall AV.cell l:=nr rfl
theorem jbS (x:List Nat)(l:List AV):lall AV.cell (.str x :: l)=lall AV.cell l:=nr rfl
theorem He (x:Bool)(l:List AV):lall AV.cell (.bool x :: l)=lall AV.cell l:=nr rfl
theorem KN (b o n c z:Nat)(x:Bool)(l:List AV):lall AV.cell (.slice b o n c z x :: l)=lall AV.cell l:=nr rfl
theorem Hd (l:List AV):lall AV.cell (.nils :: l)=lall AV.cell l:=nr rfl
theorem jbT (b o:Nat)(l:List AV):lall AV.cell (.ptr b o :: l)=lall AV.cell l:=nr rfl
theorem jkz (a b:List AV)(h:lall AV.cell a=true):lall AV.cell (a ++ b)=lall AV.cell b:=by
 induction a with
 |nil=>rfl
 |cons c a ih=>
  have h':cond c.cell (lall AV.cell a) false=true:=h;cases hc:c.cell with
  |false=>rw[hc] at h';cases h'
  |true=>
   rw[hc] at h';show cond c.cell (lall AV.cell (a ++ b)) false=_;rw[hc];exact ih h'
section
variable {P:Program} {base:Bs} {st:St} {K:AV->St->Prop} {e:En}
theorem jf1 (cs:List AV):jl (Ev.newRow st cs) K=K (.ptr st.nx 0) (nw st cs):=by
 simp only[Ev.newRow,jH,jR,St.alloc_eq,jl];rfl
theorem jmx {v:AV}(h:lall AV.cell v.cells=true):jl (jkW v st) K=K (.ptr st.nx 0) (nw st v.cells):=by
 simp only[jkW,h,cond_true];exact jf1 _
theorem jq4 {k b o:Nat}{v:AV}(hk:0<k)(hc:v.cells.length=k)(hl:lall AV.cell v.cells=true)(ho:o+k<=qt st.h b):jl (stV k (.ptr b o) v st) K=K qi (wr st b o v.cells):=by
 obtain⟨n,zl,z,cs,hg⟩:=YB (h:=st.h) (b:=b) (by omega);rw[JR hg] at ho;have e1:Qas (jP v.cells) k=true:=wF (by rw[jR];exact hc);have e2:Qap (QaC o k) n=true:=q9 ho;simp only[stV,q8,hg,yB,e1,e2,hl,cond_true,St.put_eq,jl];unfold wr jeZ;rw[hg]
def rats (h:T AO)(b o:Nat):Nat->List AV
 |0=>[]
 |k+1=>rat h b o :: rats h b (o+1) k
theorem wP (h:T AO)(b:Nat):∀ (k o:Nat),rats h b o k=(QaU k).map λi=>rat h b (o+i)
 |0,o=>rfl
 |k+1,o=>by
  rw[List.range_succ_eq_map,Qai,QbL];show rat h b o :: rats h b (o+1) k=_;rw[wP h b k (o+1)]
  congr 1
  refine Qbz λi _=>?_;show rat h b (o+1+i)=rat h b (o+(i+1));rw[QbW,Qco 1 i]
theorem jf2 {k b o:Nat}(hk:0<k)(h:o+k<=qt st.h b):jl (zg k (.ptr b o) st) K=K (.agg (rats st.h b o k)) st:=by rw[wP];exact jpe hk h
theorem rats0 (h:T AO)(b o:Nat):rats h b o 0=[]:=nr rfl
theorem jac (h:T AO)(b o k:Nat):rats h b o (k+1)=rat h b o :: rats h b (o+1) k:=nr rfl
theorem Cl.ratsP {s:St}{b:Nat}{cs:List AV}(h:Cl s b cs):∀ k o,o+k<=cs.length->rats s.h b o k=(cs.drop o).take k
 |0,o,_=>rfl
 |k+1,o,hk=>by
  show rat s.h b o :: Go.Sy.rats s.h b (o+1) k=_;rw[h.ratsP k (o+1) (by omega),h.cell o (by omega),Qcb (show o<cs.length by omega),Qcu,Qax,Qau (by omega)];rfl
theorem ZR {h h':T AO}{b:Nat}(e:jx h' b=jx h b):∀ k o,rats h' b o k=rats h b o k
 |0,_=>rfl
 |k+1,o=>by rw[jac,jac,yw e,ZR e k]
theorem Q0 (h:T AO)(b:Nat):∀ k o,(rats h b o k).length=k
 |0,_=>rfl
 |k+1,o=>by rw[jac,Qak,Q0 h b k]
theorem Zl {h:T AO}{b:Nat}:∀ {k o:Nat} {cs:List AV},cs.length=k->(∀ i,i<k->rat h b (o+i)=cs.getD i .bad)->rats h b o k=cs
 |0,o,[],_,_=>rfl
 |k+1,o,c :: cs,hl,h=>by
  rw[jac,Zl (cs:=cs) (by simpa using hl) (λi hi=>by
   have:=h (i+1) (by omega);rw[show o+1+i=o+(i+1) by omega,this];rfl)]
  have:=h 0 (by omega);rw[Qcm] at this;rw[this];rfl
theorem jm6 {s:St}{cs:List AV}{k:Nat}(h:cs.length=k):rats (nw s cs).h s.nx 0 k=cs:=Zl h λi hi=>by rw[QaK];exact jfX (by omega)
theorem Zk {s:St}{cs:List AV}{b k:Nat}(hb:b=s.nx)(h:cs.length=k):rats (nw s cs).h b 0 k=cs:=by rw[hb,jm6 h]
theorem Zj {s:St}{cs:List AV}{b o k:Nat}(h:b≠s.nx):rats (nw s cs).h b o k=rats s.h b o k:=ZR (Jt h) _ _
theorem wN {s:St}{b o k:Nat}{vs:List AV}(h:vs.length=k):rats (wr s b o vs).h b o k=vs:=Zl h λi hi=>by
 rw[UO (by omega) (by omega),Nat.add_sub_cancel_left]
theorem Zh {s:St}{b c o o' k:Nat}{vs:List AV}(h:b≠c):rats (wr s c o' vs).h b o k=rats s.h b o k:=ZR (Jc h) _ _
theorem Zi {s:St}{b o k:Nat}{vs:List AV}:rats (wr s b o vs).h b 0 k=upd (rats s.h b 0 k) o vs:=by
 refine Zl (by rw[uJ,Q0]) λi hi=>?_;rw[QaK,V6,Ud _ _ _ _ (by rw[Q0];exact hi),wP]
 congr 1
 simp[Qax,QbY,hi]
theorem Zd (o:Nat)(vs:List AV):upd [] o vs=[]:=nr (by cases o<;>rfl)
theorem YL (c:AV)(cs:List AV):upd (c :: cs) 0 []=c :: cs:=nr rfl
theorem YM (c:AV)(cs:List AV)(v:AV)(vs:List AV):upd (c :: cs) 0 (v :: vs)=v :: upd cs 0 vs:=nr rfl
theorem Zw (c:AV)(cs:List AV)(o:Nat)(vs:List AV):upd (c :: cs) (o+1) vs=c :: upd cs o vs:=nr rfl
theorem Zv:∀ (cs:List AV) ,upd cs 0 []=cs
 |[]=>rfl
 |c :: cs=>rfl
theorem Cl.of_rats {s:St}{b k:Nat}{cs:List AV}(h1:b<s.nx)(h2:qt s.h b=k)(h3:cs.length=k)(h4:0<k)(h5:Go.Sy.rats s.h b 0 k=cs):Cl s b cs:=by
 refine⟨h1,YB (by omega),by omega,λi hi=>?_⟩;have:=congrArg (λl=>l.getD i .bad) h5;rw[wP] at this;have hi':i<k:=by omega
 simpa[Qax,QbY,hi'] using this
theorem Cl.rats0 {s:St}{b k:Nat}{cs:List AV}(h:Cl s b cs)(hk:cs.length=k):Go.Sy.rats s.h b 0 k=cs:=Zl hk λi hi=>by rw[QaK];exact h.cell i (by omega)
theorem Cl.ldA {s:St}{b k o:Nat}{cs:List AV}(h:Cl s b cs)(hk:0<k)(ho:o+k<=cs.length)(K:AV->St->Prop):jl (zg k (.ptr b o) s) K=K (.agg ((cs.drop o).take k)) s:=by
 rw[jf2 hk (by rw[h.len];exact ho),h.ratsP k o ho]
end
section
variable {P:Program} {base:Bs} {st:St} {K:AV->St->Prop} {e:En}
theorem uK:∀ (z:List AV) (off:Nat) (vs:List AV),off+vs.length<=z.length->z.take off ++ (vs ++ z.drop (off+vs.length))=upd z off vs
 |[],off,vs,h=>by
  have hv:vs=[]:=QaQ (by have h':off+vs.length<=0:=h;omega);subst hv;simp[upd]
 |c :: z,0,[],_=>rfl
 |c :: z,0,v :: vs,h=>by
  show v :: (vs ++ (c :: z).drop (0+(vs.length+1)))=v :: upd z 0 vs;rw[<-uK z 0 vs (by simp at h ⊢;omega)];simp
 |c :: z,off+1,vs,h=>by
  show c :: z.take off ++ (vs ++ (c :: z).drop (off+1+vs.length))=c :: upd z off vs;rw[<-uK z off vs (by simp at h;omega),show off+1+vs.length=(off+vs.length)+1 by omega];rfl
theorem Hr {z:List AV}{off size:Nat}{v:AV}{ps:List ((Nat×Nat)×AV)}(h1:v.plain=true)(h2:v.cells.length=size)(h3:off+size<=z.length):Yf z (((off,size),v) :: ps)=Yf (upd z off v.cells) ps:=by
 have e1:Qas (jP v.cells) size=true:=wF (by rw[jR];exact h2);have e2:Qap (QaC off size) (jP z)=true:=q9 (by rw[jR];exact h3);have e3:zh (yu z off) (zh v.cells (zt z (QaC off size)))=upd z off v.cells:=by
  rw[yL,yL,yb,yX,<-uK z off v.cells (by omega),h2];rfl
 show cond v.plain (cond (Qas (jP v.cells) size) (cond (Qap (QaC off size) (jP z)) (Yf (zh (yu z off) (zh v.cells (zt z (QaC off size)))) ps) none) none) none=_;rw[h1,e1,e2,e3];rfl
theorem jcM (z:List AV):jl (VX z [] st) K=K (.agg z) st:=nr rfl
theorem jcL {z:List AV}{off size:Nat}{v:AV}{ps:List ((Nat×Nat)×AV)}(h1:v.plain=true)(h2:v.cells.length=size)(h3:off+size<=z.length):jl (VX z (((off,size),v) :: ps) st) K=jl (VX (upd z off v.cells) ps st) K:=by
 unfold VX;rw[Hr h1 h2 h3]
def bSV (len s:Nat)(z:List AV)(ps:List ((Nat×Nat)×AV))(st:St):ER:=jS (Yf z ps) λcells=>
 cond (lall AV.cell cells) (force (jP cells) λn=>st.alloc (.row n n cells .e) λb st=>.ok (.slice b 0 len len s true) st) .no
theorem jk4 (len s:Nat)(z:List AV)(ps:List ((Nat×Nat)×AV)):jl (Gv len s z ps st) K=jl (bSV len s (y7 z len) ps st) K:=nr rfl
theorem jf3 {len s:Nat}{z:List AV}(h:lall AV.cell z=true):jl (bSV len s z [] st) K=K (.slice st.nx 0 len len s true) (nw st z):=by
 have e:Yf z []=some z:=rfl;simp only[bSV,e,jS,h,cond_true,jH,jR,St.alloc_eq,jl];rfl
theorem jaK {len s:Nat}{z:List AV}{off size:Nat}{v:AV}{ps:List ((Nat×Nat)×AV)}(h1:v.plain=true)(h2:v.cells.length=size)(h3:off+size<=z.length):jl (bSV len s z (((off,size),v) :: ps) st) K=jl (bSV len s (upd z off v.cells) ps st) K:=by
 unfold bSV;rw[Hr h1 h2 h3]
theorem Kl (z:List AV):y7 z 0=[]:=nr rfl
theorem Um (z:List AV)(n:Nat):y7 z (n+1)=z ++ y7 z n:=nr (by first|rfl|(unfold y7;simp[yL]))
def Ww (e:En):List ((Nat×Nat)×A)->(F:List ((Nat×Nat)×AV)->Prop)->Res F
 |[],F=>F []
 |(p,a) :: l,F=>on1 e a λv=>Ww e l λvs=>F ((p,v) :: vs)
theorem gV (e:En):∀ (l:List ((Nat×Nat)×A)) (F:List ((Nat×Nat)×AV)->Prop),Ww e l F=((l.map (·.2)).all (okA e)=true/\F (l.map λp=>(p.1,vl e p.2)))
 |[],F=>by simp[Ww]
 |(p,a) :: l,F=>by simp[Ww,gV e l,on1,and_assoc]
theorem jb6 (z:List AV)(ps:List ((Nat×Nat)×A)):wK P base (.i (.build z ps)) e st K=Ww e ps λvs=>jl (VX z vs st) K:=by
 rw[gV];rfl
theorem Hl (len s:Nat)(z:List AV)(ps:List ((Nat×Nat)×A)):wK P base (.i (.buildS len s z ps)) e st K=Ww e ps λvs=>jl (Gv len s z vs st) K:=by
 rw[gV];rfl
theorem jma (f:FuncId)(l:List A):wK P base (.i (.fn f l)) e st K=vg e l λvs=>K (.fn f vs) st:=by
 rw[uR];rfl
theorem jlR (F:List ((Nat×Nat)×AV)->Prop):Ww e [] F=F []:=nr rfl
theorem jlQ (p:Nat×Nat)(a:A)(l:List ((Nat×Nat)×A))(F:List ((Nat×Nat)×AV)->Prop):Ww e ((p,a) :: l) F=on1 e a λv=>Ww e l λvs=>F ((p,v) :: vs):=nr rfl
theorem GR (k:IntKind)(n:Int):(AV.int k n).plain=true:=nr rfl
theorem GO (l:List Nat):(AV.str l).plain=true:=nr rfl
theorem Kr (b:Bool):(AV.bool b).plain=true:=nr rfl
theorem UV (b o n c z:Nat)(x:Bool):(AV.slice b o n c z x).plain=true:=nr rfl
theorem Ko:AV.nils.plain=true:=nr rfl
theorem GP (b o:Nat):(AV.ptr b o).plain=true:=nr rfl
theorem GS (cs:List AV):(AV.agg cs).plain=true:=nr rfl
theorem jde (t:TypeId)(x:A):wK P base (.i (.iface t x)) e st K=on1 e x λv=>K (.iface t v) st:=k_1 (V:=λv st=>.ok (.iface t v) st) rfl (λ_=>rfl) K
end
def eqs:AV->Bool
 |.bool _=>true | .int _ _=>true | .str _=>true | .ptr _ _=>true | .nilp=>true | .slice _ _ _ _ _ _=>true | .nils=>true | .map _=>true | .nilm=>true | .nilf=>true | .nilif=>true | .lst _ _=>true | .xlst _ _=>true | .lptr _ _=>true
 |_=>false
theorem jkP (a:Int):eqI a a=true:=by cases a<;>simp[eqI]
theorem JB (a:Nat):Qas a a=true:=by rw[qI]
theorem VE (l:List AV):uB l l=true:=by unfold uB;exact @decide_eq_true _ (_) rfl
theorem VH {v:AV}(h:eqs v=true):Zs v v=true:=by
 cases v<;>first|(cases h;done)|rfl|skip
 case bool b=>cases b<;>rfl
 case int k n=>show cond (eqK k k) (eqI n n) false=true;rw[Q9,jkP];rfl
 case str s=>show Zy s s=true;rw[JQ];simp
 case ptr b o=>show cond (Qas b b) (Qas o o) false=true;rw[JB,JB];rfl
 case slice b o n c z ex=>
  show cond (Qas b b) (cond (Qas o o) (cond (Qas n n) (cond (Qas c c) (cond (Qas z z) (cond ex ex (cond ex false true)) false) false) false) false) false=true;rw[JB,JB,JB,JB,JB];cases ex<;>rfl
 case map r=>show Qas r r=true;exact JB r
 case lst n cs=>show cond (Qas n n) (uB cs cs) false=true;rw[JB,VE];rfl
 case xlst n cs=>show cond (Qas n n) (uB cs cs) false=true;rw[JB,VE];rfl
 case lptr cs n=>show cond (Qas n n) (uB cs cs) false=true;rw[JB,VE];rfl
theorem VG:∀ {l:List AV},l.all eqs=true->u0 l l=true
 |[],_=>rfl
 |v :: l,h=>by
  simp only[Qbe,Qar] at h;show cond (Zs v v) (u0 l l) false=true;rw[VH h.1,VG h.2];rfl
theorem jih {v:AV}(h:eqs v=true):jfE v v=true:=by
 cases v<;>first|(cases h;done)|exact VH h
section
variable {P:Program}
theorem J4 {t:TypeId}{b o:Nat}{v:AV}{h:T AO}(h1:Go.Ev.isAgg P t=some false)(h2:Go.Ev.sizeOf P t=some 1)(ho:o<qt h b)(hv:rat h b o=v)(hc:eqs v=true):jX P t (.ptr b o) v h=true:=by
 obtain⟨n,zl,z,cs,hg⟩:=YB (h:=h) (b:=b) (by omega);rw[JR hg] at ho;rw[Zm hg] at hv;have e3:Qap (QaE o) n=true:=q9 ho;have e:(qQ P t).run (.ptr b o) h=some v:=by simp only[qQ,h1,h2,hg,e3,cond_true,hv]
 unfold jX;dsimp only;rw[e];exact jih hc
theorem YR {t:TypeId}{b o k:Nat}{cs:List AV}{h:T AO}(h1:Go.Ev.isAgg P t=some true)(h2:Go.Ev.sizeOf P t=some k)(hk:0<k)(ho:o+k<=qt h b)(hv:rats h b o k=cs)(hc:cs.all eqs=true):jX P t (.ptr b o) (.agg cs) h=true:=by
 obtain⟨n,zl,z,cs',hg⟩:=YB (h:=h) (b:=b) (by omega);rw[JR hg] at ho;have e3:Qap (QaC o k) n=true:=q9 ho;have e:(qQ P t).run (.ptr b o) h=some (.agg cs):=by
  simp only[qQ,h1,h2,hg,e3,cond_true];rw[<-hv,wP,qD]
  congr 2
  refine Qbz λi _=>?_;rw[Zm hg]
 unfold jX;dsimp only;rw[e];exact VG hc
def Yc (P:Program)(t u:TypeId)(x y:TE):Bool:=
 match x,y with
 |.rd a v,.wr pre post=>jX P t a v pre && jX P t a v post
 |.rd _ _,.rd _ _=>false
 |.wr pre post,.rd a v=>jX P u a v pre && jX P u a v post
 |.wr _ _,.wr _ _=>false
 |_,_=>true
theorem h_0 (t:TypeId)(x:TE)(tb:List TE):(held P t x tb []=true)=True:=by simp[held]
theorem h_1 (t:TypeId)(x:TE)(tb:List TE)(k:Nat)(u:TypeId)(l:List (Nat×TypeId)):(held P t x tb ((k,u) :: l)=true)=(Yc P t u x (yr .none tb k)=true/\held P t x tb l=true):=by
 have e:held P t x tb ((k,u) :: l)=cond (Yc P t u x (yr .none tb k)) (held P t x tb l) false:=by
  show cond _ _ false=cond _ _ false
  congr 1
  unfold Yc;cases x<;>cases yr TE.none tb k<;>first|rfl|(simp only[Bool.cond_eq_ite];split<;>simp[*])
 rw[e];cases Yc P t u x (yr .none tb k)<;>simp
theorem jqf (t u:TypeId)(a v:AV)(pre post:T AO):(Yc P t u (.rd a v) (.wr pre post)=true)=(jX P t a v pre=true/\jX P t a v post=true):=by simp[Yc]
theorem jqe (t u:TypeId)(a v:AV)(pre post:T AO):(Yc P t u (.wr pre post) (.rd a v)=true)=(jX P u a v pre=true/\jX P u a v post=true):=by simp[Yc]
theorem jqh (t u:TypeId)(y:TE):(Yc P t u .none y=true)=True:=by simp[Yc]
theorem jqg (t u:TypeId)(x:TE):(Yc P t u x .none=true)=True:=by cases x<;>simp[Yc]
theorem jp1 (d x:TE)(l:List TE):yr d (x :: l) 0=x:=nr rfl
theorem jp0 (d x:TE)(l:List TE)(n:Nat):yr d (x :: l) (n+1)=yr d l n:=nr rfl
theorem jpr (e:En)(v:AV)(st st':St):teW none e v st st'=.none:=nr rfl
theorem jpq (e:En)(v:AV)(st st':St):teW (some none) e v st st'=.wr st.h st'.h:=nr rfl
theorem jpp (a:A)(e:En)(v:AV)(st st':St):teW (some (some a)) e v st st'=.rd (vl e a) v:=nr rfl
theorem jpa (e:En)(v:AV):vl e (.c v)=v:=nr rfl
theorem jo8 (x:Nat)(v:AV)(l g:Sl):vl ⟨(x,v) :: l,g⟩ (.t x)=v:=by simp[vl,En.look,y8,En.has,zO]
theorem jlj {k x:Nat}(h:k≠x)(v:AV)(l g:Sl):vl ⟨(k,v) :: l,g⟩ (.t x)=vl ⟨l,g⟩ (.t x):=by simp[vl,En.look,y8,En.has,zO,h]
theorem jo9 (x:Nat)(v:AV)(g:Sl):vl ⟨[],(x,v) :: g⟩ (.t x)=v:=by simp[vl,En.look,y8,En.has,zO,has]
theorem jlk {k x:Nat}(h:k≠x)(v:AV)(g:Sl):vl ⟨[],(k,v) :: g⟩ (.t x)=vl ⟨[],g⟩ (.t x):=by simp[vl,En.look,y8,En.has,zO,has,h]
theorem gG {L:Sl}{x:Nat}{v:AV}(h:Has L x v):vl ⟨[],L⟩ (.t x)=v:=by
 obtain⟨h1,h2⟩:=h;simp[vl,En.has,En.look,has,h2]
end
section
variable {P:Program} {base:Bs} {st:St} {K:AV->St->Prop} {e:En}
def w9 (sz:Nat)(v:AV)(lo hi:Option AV)(st:St):ER:=match v with
 |.nils=>optA lo 0 λl=>optA hi 0 λh=>cond (Qas l 0) (cond (Qas h 0) (.ok .nils st) .no) .no
 |.slice b o len cap sz' ex=>optA lo 0 λl=>optA hi len λh=>
  cond (Qas sz' sz) (cond (Qap l h) (cond (Qap h cap) (force (Qbh h l) λk=>force (QaC o (Qav l sz)) λo=>force (Qbh cap l) λc=>.ok (.slice b o k c sz ex) st) .no) .no) .no
 |.lst n cs=>optA lo 0 λl=>optA hi n λh=>
  cond (Qap l h) (cond (Qap h n) (cond (Qap (Qav h sz) (jP cs)) (.ok (.lst (Qbh h l) (yu (zt cs (Qav l sz)) (Qav (Qbh h l) sz))) st) .no) .no) .no
 |_=>.no
theorem jhJ (sz:Nat)(x lo:A):wK P base (.i (.slS sz x (some lo) none)) e st K=on1 e x λv=>on1 e lo λl=>jl (w9 sz v (some l) none st) K:=k_2 (V:=λv l st=>w9 sz v (some l) none st) rfl (λ_=>rfl) K
theorem jhI (sz:Nat)(x hi:A):wK P base (.i (.slS sz x none (some hi))) e st K=on1 e x λv=>on1 e hi λh=>jl (w9 sz v none (some h) st) K:=k_2 (V:=λv h st=>w9 sz v none (some h) st) rfl (λ_=>rfl) K
theorem jhH (sz:Nat)(x lo hi:A):wK P base (.i (.slS sz x (some lo) (some hi))) e st K=on1 e x λv=>on1 e lo λl=>on1 e hi λh=>jl (w9 sz v (some l) (some h) st) K:=k_3 (V:=λv l h st=>w9 sz v (some l) (some h) st) rfl (λ_=>rfl) K
end
end Go.Sy
end
noncomputable section
namespace Go.Sy
open Go.Ev Go.RowKit
def ifW (p:Prop)(a b:Prop):Res (a,b):=(p->a)/\(¬ p->b)
theorem jc {p a b:Prop}(h1:p->a)(h2:¬ p->b):ifW p a b:=⟨h1,h2⟩
theorem K0 {p a b:Prop}(h:p):ifW p a b=a:=propext ⟨λk=>k.1 h,λk=>⟨λ_=>k,λn=>absurd h n⟩⟩
theorem K1 {p a b:Prop}(h:¬ p):ifW p a b=b:=propext ⟨λk=>k.2 h,λk=>⟨λn=>absurd n h,λ_=>k⟩⟩
section
variable {P:Program} {base:Bs} {st:St} {K Kp:AV->St->Prop} {e:En}
theorem jee (q:Bool)(a b:Prop):ue (.bool q) a b=ifW (q=true) a b:=by cases q<;>simp[ue,ifW]
theorem jqU (q:Bool)(a b:Prop):onG (.bool q) true a b=ifW (q=true) a b:=by cases q<;>simp[onG,ifW]
theorem jqV (q:Bool)(a b:Prop):onG (.bool q) false a b=ifW (q=true) b a:=by cases q<;>simp[onG,ifW]
theorem jiv (q:Bool)(a b:AV):jl (je1 (.bool q) a b st) K=ifW (q=true) (K a st) (K b st):=by cases q<;>simp[je1,ZS,jl,ifW]
theorem ja9 (a b:List Nat):jl (U9 .neq (.str a) (.str b) st) K=K (.bool (decide (a≠b))) st:=by
 simp only[U9,vL,jS,jl,JQ];by_cases h:a=b
 ·simp[h]
 ·simp[h]
theorem jba {a b:List Nat}(h:a.length+b.length<=9223372036854775807):jl (U9 .add (.str a) (.str b) st) K=K (.str (a ++ b)) st:=by
 have e1:Qap (QaC (jP a) (jP b)) 9223372036854775807=true:=by rw[qp,jR,jR];exact h
 simp only[U9,vL,jS,jl,e1,cond_true,yL]
theorem Zr {x:Int}(h1 : -9223372036854775808<=x)(h2:x<=9223372036854775807):qT .i64 x=x:=by
 rw[Yj];exact IntWalk.i64_in x ⟨h1,by omega⟩
theorem jgE {a b:Int}(h1 : -9223372036854775808<=a+b)(h2:a+b<=9223372036854775807):jl (Jg .add (.int .i64 a) (.int .i64 b) st) K=K (.int .i64 (a+b)) st:=by
 have:(XX .add).run .i64 a b=some (.int .i64 (a+b)):=by show some (AV.int .i64 (qT .i64 (a+b)))=_;rw[Zr h1 h2]
 simp only[Jg,Q9,cond_true,this,jS,jl]
theorem jgi {a b:Int}(h1 : -9223372036854775808<=a - b)(h2:a - b<=9223372036854775807):jl (Jg .sub (.int .i64 a) (.int .i64 b) st) K=K (.int .i64 (a - b)) st:=by
 have:(XX .sub).run .i64 a b=some (.int .i64 (a - b)):=by show some (AV.int .i64 (qT .i64 (a - b)))=_;rw[Zr h1 h2]
 simp only[Jg,Q9,cond_true,this,jS,jl]
theorem jgr {a b:Int}(h1 : -9223372036854775808<=a * b)(h2:a * b<=9223372036854775807):jl (Jg .mul (.int .i64 a) (.int .i64 b) st) K=K (.int .i64 (a * b)) st:=by
 have:(XX .mul).run .i64 a b=some (.int .i64 (a * b)):=by show some (AV.int .i64 (qT .i64 (a * b)))=_;rw[Zr h1 h2]
 simp only[Jg,Q9,cond_true,this,jS,jl]
theorem jgq {a:Int}(h1 : -9223372036854775808<=-a)(h2 : -a<=9223372036854775807):jl (unV .neg (.int .i64 a) st) K=K (.int .i64 (-a)) st:=by
 have e:IntKind.i64.wrap (0 - a)=-a:=by rw[<-Yj,Zr (by omega) (by omega)];omega
 simp only[unV,XZ,O,e,jl]
def biV (P:Program)(b:Builtin)(ts:Array TypeId)(l:List AV)(st:St):ER:=(qC P b ts (l.map λv=>O v)).run E0 st
theorem jmf (b:Builtin)(ts:Array TypeId)(l:List A):wK P base (.i (.bi b ts l)) e st K=vg e l λvs=>jl (biV P b ts vs st) K:=by
 rw[uR];simp only[wK,wI,Z2,jT,biV,QbL];rfl
theorem jgu (ts:Array TypeId)(k:IntKind)(a b:Int):jl (biV P .max ts [.int k a,.int k b] st) K=K (.int k (max a b)) st:=by
 have:(qC P .max ts [O (.int k a),O (.int k b)]).run E0 st=jS (max2 (.int k a) (.int k b)) λv=>.ok v st:=by
  show jS (QU max2 (.int k a) [.int k b]) _=_;unfold QU;cases max2 (.int k a) (.int k b)<;>rfl
 show jl ((qC P .max ts [O (.int k a),O (.int k b)]).run E0 st) K=_;rw[this];simp only[max2,Q9,cond_true,jS,jl]
 congr 2
 rw[XU];by_cases h:a<b
 ·rw[decide_eq_true h,Int.max_eq_right (by omega)];rfl
 ·rw[decide_eq_false h,Int.max_eq_left (by omega)];rfl
theorem jgt (ts:Array TypeId)(k:IntKind)(a b:Int):jl (biV P .min ts [.int k a,.int k b] st) K=K (.int k (min a b)) st:=by
 have:(qC P .min ts [O (.int k a),O (.int k b)]).run E0 st=jS (min2 (.int k a) (.int k b)) λv=>.ok v st:=by
  show jS (QU min2 (.int k a) [.int k b]) _=_;unfold QU;cases min2 (.int k a) (.int k b)<;>rfl
 show jl ((qC P .min ts [O (.int k a),O (.int k b)]).run E0 st) K=_;rw[this];simp only[min2,Q9,cond_true,jS,jl]
 congr 2
 rw[XU];by_cases h:b<a
 ·rw[decide_eq_true h,Int.min_eq_right (by omega)];rfl
 ·rw[decide_eq_false h,Int.min_eq_left (by omega)];rfl
theorem jgw (n:Nat)(cs:List AV):jl (jbN (.lst n cs) st) K=K (.int .i64 (n:Int)) st:=nr rfl
theorem jdC {k:IntKind}{i:Int}(h:0<=i)(F:Nat->ER):qA (.int k i) F=F i.toNat:=by
 obtain⟨n,rfl⟩:=Qbt h;exact gX
theorem jgy {n:Nat}{cs:List AV}{i:Int}(h0:0<=i)(h:i<n)(s:Nat)(k:IntKind):jl (UD s (.lst n cs) (.int k i) st) K=K (.lptr cs (i.toNat * s)) st:=by
 simp only[UD,jdC h0];have:Qap (QaE i.toNat) n=true:=by rw[qp];omega
 rw[this];rfl
theorem jgx {b o n c z:Nat}{x:Bool}{i:Int}(h0:0<=i)(h:i<n)(s:Nat)(k:IntKind):jl (UD s (.slice b o n c z x) (.int k i) st) K=K (.ptr b (o+i.toNat * s)) st:=by
 obtain⟨m,rfl⟩:=Qbt h0;exact jpg (by omega) s k
theorem jlt {s:List Nat}{i:Int}(h0:0<=i)(h:i<s.length)(k:IntKind):jl (KX (.str s) (.int k i) st) K=K (.int .u8 ((s.getD i.toNat 0:Nat):Int)) st:=by
 obtain⟨m,rfl⟩:=Qbt h0;exact jmM (by omega) k
theorem jpf {k o:Nat}{cs:List AV}(h:o+k<=cs.length):jl (zg k (.lptr cs o) st) K=K (.agg ((cs.drop o).take k)) st:=by
 have:Qap (QaC o k) (jP cs)=true:=by rw[qp,jR];exact h
 simp only[zg,this,cond_true,jl,yb,yX]
theorem zU {o:Nat}{cs:List AV}(h:o<cs.length):jl (qX (.lptr cs o) st) K=K (cs.getD o .bad) st:=by
 have:Qap (QaE o) (jP cs)=true:=by rw[qp,jR];exact h
 simp only[qX,this,cond_true,jl,zL]
theorem jgA (off o:Nat)(cs:List AV):jl (jft off (.lptr cs o) st) K=K (.lptr cs (o+off)) st:=nr rfl
theorem jdd (o:Nat)(cs:List AV):jl (je6 (.lptr cs o) st) K=K (.lptr cs o) st:=nr rfl
def fl {α:Type}(enc:α->List AV)(xs:List α):List AV:=xs.flatMap enc
theorem Xy {α:Type}(enc:α->List AV)(x:α)(xs:List α):fl enc (x :: xs)=enc x ++ fl enc xs:=rfl
theorem QH {α:Type}(enc:α->List AV)(xs ys:List α):fl enc (xs ++ ys)=fl enc xs ++ fl enc ys:=by simp[fl]
theorem JL {α:Type}(enc:α->List AV)(x:α):fl enc [x]=enc x:=by simp[fl]
theorem zY {α:Type}{enc:α->List AV}{z:Nat}(hz:∀ x,(enc x).length=z):∀ xs:List α,(fl enc xs).length=xs.length * z
 |[]=>by simp[fl]
 |x :: xs=>by rw[Xy,Qal,hz,zY hz xs,Qak,Qbw,Qco]
theorem yT {α:Type}{enc:α->List AV}(hp:∀ x,(enc x).all pc=true):∀ xs:List α,(fl enc xs).all pc=true
 |[]=>rfl
 |x :: xs=>by rw[Xy,Qbl,hp,yT hp xs];rfl
theorem Gf {α:Type}{enc:α->List AV}{z:Nat}(hz:∀ x,(enc x).length=z):∀ (xs:List α) (i:Nat),(fl enc xs).drop (i * z)=fl enc (xs.drop i)
 |xs,0=>by simp
 |[],i+1=>by simp[fl]
 |x :: xs,i+1=>by
  rw[Xy,Qbw,Qco,List.drop_append,List.drop_eq_nil_of_le (by rw[hz];omega),hz,Nat.add_sub_cancel_left,Gf hz xs i];rfl
theorem jdW {α:Type}{enc:α->List AV}{z:Nat}(hz:∀ x,(enc x).length=z):∀ (xs:List α) (i:Nat),(fl enc xs).take (i * z)=fl enc (xs.take i)
 |xs,0=>by simp[fl]
 |[],i+1=>by simp[fl]
 |x :: xs,i+1=>by
  rw[Xy,Qbw,Qco,List.take_append,List.take_of_length_le (by rw[hz];omega),hz,Nat.add_sub_cancel_left,jdW hz xs i];rfl
theorem jfo {α:Type}{enc:α->List AV}{z:Nat}(hz:∀ x,(enc x).length=z){xs:List α}{i:Nat}(h:i<xs.length):((fl enc xs).drop (i * z)).take z=enc xs[i]:=by
 rw[Gf hz,Qcb h,Xy,List.take_append,List.take_of_length_le (by rw[hz];omega),hz,Nat.sub_self,Qbd,Qbk]
theorem vu {α:Type}{enc:α->List AV}{z:Nat}(hz:∀ x,(enc x).length=z){xs:List α}{i:Nat}(h:i<xs.length){k:Nat}(hk:k<z):(fl enc xs).getD (i * z+k) .bad=(enc xs[i]).getD k .bad:=by
 rw[<-jfo hz h];simp only[QaN,QbT,hk,if_true,Qch]
theorem JU {α:Type}{enc:α->List AV}{z:Nat}(hz:∀ x,(enc x).length=z){xs:List α}{i:Nat}(h:i<xs.length):jl (zg z (.lptr (fl enc xs) (i * z)) st) K=K (.agg (enc xs[i])) st:=by
 have:(i+1) * z<=xs.length * z:=QaM z h;rw[Qbw] at this;rw[jpf (by rw[zY hz];omega),jfo hz h]
theorem q7 {α:Type}{enc:α->List AV}{z:Nat}(hz:∀ x,(enc x).length=z){xs:List α}{i:Nat}(h:i<xs.length){k:Nat}(hk:k<z):jl (qX (.lptr (fl enc xs) (i * z+k)) st) K=K ((enc xs[i]).getD k .bad) st:=by
 have:(i+1) * z<=xs.length * z:=QaM z h;rw[Qbw] at this;rw[zU (by rw[zY hz];omega),vu hz h hk]
theorem jgz {k:Nat}{cs:List AV}(h:k<cs.length):jl (jfn k (.agg cs) st) K=K (cs.getD k .bad) st:=by
 have:Qap (QaE k) (jP cs)=true:=by rw[qp,jR];exact h
 simp only[jfn,Qu,this,cond_true,jl,zL]
theorem jdg (k n:Nat)(cs:List AV):jl (jfm k n (.agg cs) st) K=K (.agg ((cs.drop k).take n)) st:=by
 simp only[jfm,Qu,jl,yb,yX]
theorem gL (l:List AV):l.take 0=[]:=rfl
theorem gK (a:AV)(l:List AV)(n:Nat):(a :: l).take (n+1)=a :: l.take n:=rfl
theorem Gr (l:List AV):l.drop 0=l:=rfl
theorem jqz (a:AV)(l:List AV)(n:Nat):(a :: l).drop (n+1)=l.drop n:=rfl
theorem Cl.rw_ {b:Nat}{cs:List AV}(C:Cl st b cs):Rw st.h b cs:=by
 obtain⟨n,zl,z,c,hg⟩:=C.row;have hl:=C.len;rw[JR hg] at hl;refine⟨n,zl,z,c,hg,?_⟩;rw[qD];apply QbI
 ·simp[hl]
 ·intro i h1 h2;have:=C.cell i h2;rw[Zm hg] at this;simp only[List.getElem_map,List.getElem_range,QaK,this];simp[QaN,Qau h2]
end
section
variable {P:Program} {base:Bs}
theorem gZ (cs:List AV):Zp cs=nw st0 cs:=by unfold Zp nw;rw[jR];rfl
def G0 (u v:AV)(s:St):Prop:=FzD 0 9 s v u
def G1 (n:Nat)(c':List AV)(u v:AV)(s:St):Prop:=FzD 1 9 s v u/\∃ c2,Rw s.h 0 c2/\c2.length=n/\FzsD 1 9 s c2 c'
theorem jE {f:FuncId}{F:XF}(hl:jy P f=some F)(hnd:F.body.nd=true)(hm:base.pur f=1){aZ:List AV}{o:Oc}
  (h:xC P base F.body (jt F.ps aZ) st0 (Xa P F.res (Xz G0 o)) λv _ s=>Xq G0 o v s.bare):PX P base f aZ o:=
 PX.of hm (Yr hl hnd h)
theorem j2 {f:FuncId}{F:XF}(hl:jy P f=some F)(hnd:F.body.nd=true)(hm:base.pur f=3){c aZ:List AV}(hc:c.all pc=true){o:Oc}{c':List AV}
  (h:xC P base F.body (jt F.ps (.ptr 0 0 :: aZ)) (nw st0 c) (Xa P F.res (Xz (G1 c.length c') o)) λv _ s=>Xq (G1 c.length c') o v s.bare):PM P base f c aZ o c':=by
 rw[<-gZ] at h;exact PM.of hm hc (Yr hl hnd h)
theorem PM.xbk {f:FuncId}{c aZ aZ':List AV}{ks:List Nat}{o:Oc}{c':List AV}(h:PM P base f c aZ o c'){st:St}{p:Nat}(C:Cl (kills ks st) p c)(hf:fzs (fz 9 st.h) aZ'=some (aZ,ks))(hp:aZ.all pa=true)(hb:∀ st,base.run f (.ptr p 0 :: aZ') st=.no)(K Kp:AV->St->Prop) :
  XB P base f (.ptr p 0 :: aZ') st K Kp=Yo o K Kp (wr (kills ks st) p 0 c'):=by
 obtain⟨N,D,h⟩:=h;have e0:∀ n,N<=n->∀ d,D<=d->evC P base n d f (.ptr p 0 :: aZ') st=o.er (wr (kills ks st) p 0 c'):=λn hn d hd=>by
  rw[h n hn d hd st p aZ' ks C.rw_ hf hp hb]
  congr 1
 refine propext ⟨λ⟨r,⟨N2,D2,h2⟩,h3⟩=>?_,λh3=>⟨_,⟨N,D,e0⟩,?_⟩⟩
 ·have e1:=e0 (max N N2) (QaL ..) (max D D2) (QaL ..);have e2:=h2 (max N N2) (QaI ..) (max D D2) (QaI ..);rw[e1] at e2;rw[<-e2] at h3;cases o<;>exact h3
 ·cases o<;>exact h3
theorem PM.xb {f:FuncId}{c aZ:List AV}{o:Oc}{c':List AV}(h:PM P base f c aZ o c'){st:St}{p:Nat}(C:Cl st p c)(hp:aZ.all pa=true)(hb:∀ st,base.run f (.ptr p 0 :: aZ) st=.no)(K Kp:AV->St->Prop) :
 XB P base f (.ptr p 0 :: aZ) st K Kp=Yo o K Kp (wr st p 0 c'):=h.xbk (ks:=[]) C (K4 (d:=7) hp) hp hb K Kp
theorem ZF (v:AV)(K Kp:AV->St->Prop)(st:St):Yo (.ok v) K Kp st=K v st:=nr rfl
theorem je4 (v:AV)(K Kp:AV->St->Prop)(st:St):Yo (.pn v) K Kp st=Kp v st:=nr rfl
theorem jij (G:AV->AV->St->Prop)(u v:AV)(s:St):Xz G (.ok u) v s=G u v s:=nr rfl
theorem jhk (G:AV->AV->St->Prop)(u v:AV)(s:St):Xq G (.pn u) v s=G u v s:=nr rfl
def jeU (b b2:Nat)(J:Sl->St->Prop)(Q:Out->Prop):Out->Res (J,Q)
 |.go L s=>J L s
 |.ex i L s=>cond (Qas i b2) (J L s) (cond (Qas i b) (Q (.go L s)) (Q (.ex i L s)))
 |.rt L s=>Q (.rt L s)
theorem jpO (b b2:Nat)(J:Sl->St->Prop)(Q:Out->Prop)(L:Sl)(s:St):jeU b b2 J Q (.go L s)=J L s:=nr rfl
theorem jpN (b b2:Nat)(J:Sl->St->Prop)(Q:Out->Prop)(L:Sl)(s:St):jeU b b2 J Q (.rt L s)=Q (.rt L s):=nr rfl
theorem jkj (b b2:Nat)(J:Sl->St->Prop)(Q:Out->Prop)(i:Nat)(L:Sl)(s:St):jeU b b2 J Q (.ex i L s)=cond (Qas i b2) (J L s) (cond (Qas i b) (Q (.go L s)) (Q (.ex i L s))):=nr rfl
theorem qb {b b2 i n c d:Nat}{body:XC}{L:Sl}{st:St}{Q:Out->Prop}{Kp:AV->Sl->St->Prop}(N:Nat)(I:Nat->Sl->St->Prop)(hN:N<=4611686018427387904)(hne:c≠i/\c≠n/\i≠n/\d≠i/\b≠b2)
  (hi:Has L i (.int .i64 0)) (hn:Has L n (.int .i64 (N:Int))) (h0:I 0 L st) (hc:∀ k L s v,I k L s->I k ((c,v) :: L) s) (hI:∀ k L s v,I k L s->I k ((i,v) :: L) s)
  (step:∀ k L s,k<N->I k L s->Has L i (.int .i64 (k:Int))->Has L n (.int .i64 (N:Int))->Gy (xC P base body L s (jeU b b2 (λL' s'=>I (k+1) L' s'/\Has L' i (.int .i64 (k:Int))/\Has L' n (.int .i64 (N:Int))) Q) Kp))
  (fin:∀ L s,I N L s->Gy (Q (.go L s))) :
  xC P base (.loop (.seq (.ops [⟨some c,true,none,.i (.bin .lss (.t i) (.t n))⟩]) (.seq (.cond (.t c) .skip (.exit b)) (.seq (.block b2 body) (.ops [⟨some d,false,none,.i (.bin .add (.t i) (.c (.int .i64 1)))⟩,⟨some i,true,none,.i (.mv (.t d))⟩]))))) L st (yy b Q) Kp:=by
 obtain⟨n1,n2,n3,n4,n5⟩:=hne;refine zj (λm L s=>∃ k,k<=N/\m=N - k/\I k L s/\Has L i (.int .i64 (k:Int))/\Has L n (.int .i64 (N:Int))) ?_ N ⟨0,QaG _,rfl,h0,hi,hn⟩;rintro m L s ⟨k,hk,rfl,hk',h1,h2⟩;unfold Gy;simp only[HN,HO,Ua,x_i,jaw,ja h1,ja h2,jeK,HP,Uo,wQ,ja3,jeX];by_cases hlt:k<N
 ·rw[decide_eq_true (by omega),jm8,jaY,wQ,HN,Ub];refine jda _ _ _ _ _ (step k ((c,.bool true) :: L) s hlt (hc k L s _ hk') (by rw[jb n1];exact h1) (by rw[jb n2];exact h2)) λo ho=>?_;have go:∀ L' s',(I (k+1) L' s'/\Has L' i (.int .i64 (k:Int))/\Has L' n (.int .i64 (N:Int)))->xO P base [⟨some d,false,none,.i (.bin .add (.t i) (.c (.int .i64 1)))⟩,⟨some i,true,none,.i (.mv (.t d))⟩] ⟨[],L'⟩ s' (λe st'=>XJ (λL' st'=>∃ k',k'<N - k/\∃ k,k<=N/\k'=N - k/\I k L' st'/\Has L' i (.int .i64 (k:Int))/\Has L' n (.int .i64 (N:Int))) (yy b Q) (.go e.g st')) Kp:=by
   intro L' s' ⟨h3,h4,h5⟩;simp only[Ua,x_i,jaw,ja h4,jeY,jph (show k+1<=9223372036854775807 by omega),gS,jkH,jeW,HP,Uo,wQ];refine⟨N - (k+1),by omega,k+1,by omega,rfl,hI _ _ _ _ h3,Has.here _ _ _,by rw[jb n3];exact h5⟩
  cases o with
  |go L' s'=>exact go L' s' ho
  |rt L' s'=>exact ho
  |ex q L' s'=>
   rw[jkj] at ho;cases hq:Qas q b2
   ·rw[hq] at ho;have e1:yy b2 (XJ (λL' st'=>xC P base (.ops [⟨some d,false,none,.i (.bin .add (.t i) (.c (.int .i64 1)))⟩,⟨some i,true,none,.i (.mv (.t d))⟩]) L' st' (XJ (λL' st'=>∃ k',k'<N - k/\∃ k,k<=N/\k'=N - k/\I k L' st'/\Has L' i (.int .i64 (k:Int))/\Has L' n (.int .i64 (N:Int))) (yy b Q)) Kp) (XJ (λL' st'=>∃ k',k'<N - k/\∃ k,k<=N/\k'=N - k/\I k L' st'/\Has L' i (.int .i64 (k:Int))/\Has L' n (.int .i64 (N:Int))) (yy b Q))) (.ex q L' s')=yy b Q (.ex q L' s'):=by
     simp only[yy,hq,cond_false,XJ]
    show yy b2 _ _;rw[e1];exact ho
   ·rw[hq] at ho;have:=go L' s' ho;show yy b2 _ _;simp only[yy,hq,cond_true,wQ,HO];exact this
 ·have hkN:k=N:=by omega
  rw[decide_eq_false (by omega),jm9,ja0,Un,Un];subst hkN;show yy b Q (.ex b _ s);rw[Vj];exact fin _ _ (hc _ _ _ _ hk')
theorem uj (n:Nat)(cs:List AV):(AV.lst n cs).cells=[.lst n cs]:=nr rfl
theorem jbV (n:Nat)(cs l:List AV):lall AV.cell (.lst n cs :: l)=lall AV.cell l:=nr rfl
theorem GQ (n:Nat)(cs:List AV):(AV.lst n cs).plain=true:=nr rfl
theorem yi:st0.nx=0:=nr rfl
theorem jgZ (P:Program)(t:TypeId)(cs:List AV)(o:Nat)(v:AV)(h:T AO):(jX P t (.lptr cs o) v h=true)=True:=by simp[jX]
theorem G0.v {u v:AV}{s:St}(h:v=u)(hp:pa v=true):G0 u v s:=by subst h;exact FzD.pa hp
theorem jdP (p:Prop):Gy p=p:=nr rfl
theorem jhe:zC []=.tup []:=nr rfl
theorem gI:∀ {c c':List AV},c'.length=c.length->upd c 0 c'=c'
 |[],[],_=>rfl
 |[],_ :: _,h=>by simp at h
 |_ :: _,[],h=>by simp at h
 |_ :: c,v :: c',h=>by rw[YM,gI (by simpa using h)]
theorem Ze {c c':List AV}(h:c'.length=c.length):upd c 0 c'=c':=gI h
theorem Cl.wr0 {s:St}{b:Nat}{c c':List AV}(C:Cl s b c)(h:c'.length=c.length):Cl (Go.Sy.wr s b 0 c') b c':=by
 have:=C.wr 0 c';rwa [gI h] at this
theorem G1.done {s:St}{n:Nat}{c':List AV}{u v:AV}(C:Cl s 0 c')(hl:c'.length=n)(hp:c'.all pc=true)(hv:FzD 1 9 s v u):G1 n c' u v s:=
 ⟨hv,c',C.rw_,hl,FzsD.pc hp⟩
theorem FzD.u {m d:Nat}{s:St}:FzD m (d+1) s (.tup []) (.tup []):=FzD.tup FzsD.nil
abbrev Met (P:Program)(base:Bs)(f:FuncId)(c xs:List AV)(o:Oc)(c':List AV):Prop:=∀ {st:St} {p:Nat},Cl st p c->∀ K Kp,XB P base f (.ptr p 0 :: xs) st K Kp=Yo o K Kp (wr st p 0 c')
theorem PM.met {f:FuncId}{c xs:List AV}{o:Oc}{c':List AV}(h:PM P base f c xs o c')(hp:xs.all pa=true)(hb:∀ p st,base.run f (.ptr p 0 :: xs) st=.no):Met P base f c xs o c':=λC K Kp=>h.xb C hp (hb _) K Kp
theorem V9 {f:FuncId}{xs:List AV}{st:St}{v:AV}{st':St}(h:base.run f xs st=.ok v st')(K Kp:AV->St->Prop):XB P base f xs st K Kp=K v (back st st'):=by
 have e0:∀ n,0<=n->∀ d,1<=d->evC P base n d f xs st=.ok v st':=λn _ d hd=>by
  obtain⟨d',rfl⟩:∃ d',d=d'+1:=⟨d - 1,by omega⟩;simp only[evC,h]
 refine propext ⟨λ⟨r,⟨N2,D2,h2⟩,h3⟩=>?_,λh3=>⟨_,⟨0,1,e0⟩,h3⟩⟩;have e1:=e0 N2 (QaG _) (max 1 D2) (QaL ..);have e2:=h2 N2 (Qao _) (max 1 D2) (QaI ..);rw[e1] at e2;rw[<-e2] at h3;exact h3
def cvV (P:Program)(s d:TypeId)(v:AV)(st:St):ER:=(JT P s d (O v)).run E0 st
theorem jhU {e:En}{st:St}{K:AV->St->Prop}(s d:TypeId)(x:A):wK P base (.i (.conv s d x)) e st K=on1 e x λv=>jl (cvV P s d v st) K:=k_1 rfl (λ_=>rfl) K
theorem jnM {st:St}{K:AV->St->Prop}{s d e:TypeId}(h1:P.underlying s=some .string)(h2:P.underlying d=some (.slice e))(h3:P.underlying e=some (.int .u8))(l:List Nat) :
  jl (cvV P s d (.str l) st) K=K (.slice st.nx 0 l.length l.length 1 false) (nw st (l.map λ(c:Nat)=>.int .u8 (c:Int))):=by
 simp only[cvV,JT,h1,h2,h3,O,zT,jR,jH,St.alloc_eq,jl];unfold nw;rw[QaP,yK];rfl
theorem jg6 {st:St}(x k:Nat)(l:List RV)(L:Sl)(F:List AV->Prop):yt P (.cA x k :: l) L st F=on1 ⟨[],L⟩ (.t x) λv=>jl (zg k v st) λu _=>yt P l L st λvs=>F (u :: vs):=by
 simp only[yt,jbp,on1,okA,vl,En.has,En.look,has,cond_false];rfl
theorem jdv {st:St}(x:Nat)(l:List RV)(L:Sl)(F:List AV->Prop):yt P (.c1 x :: l) L st F=on1 ⟨[],L⟩ (.t x) λv=>jl (qX v st) λu _=>yt P l L st λvs=>F (u :: vs):=by
 simp only[yt,jbp,on1,okA,vl,En.has,En.look,has,cond_false];rfl
def HZ (n sz:Nat)(v:AV)(st:St):ER:=q8 v λb o=>optA none 0 λl=>optA none n λh=>
 cond (Qap l h) (cond (Qap h n)
  (force (Qbh h l) λk=>force (QaC o (Qav l sz)) λo=>force (Qbh n l) λc=>.ok (.slice b o k c sz true) st) .no) .no
theorem jhK {e:En}{st:St}{K:AV->St->Prop}(n sz:Nat)(x:A):wK P base (.i (.slA n sz x none none)) e st K=on1 e x λv=>jl (HZ n sz v st) K:=k_1 (V:=λv st=>HZ n sz v st) rfl (λ_=>rfl) K
theorem jgo {st:St}{K:AV->St->Prop}(b n sz:Nat):jl (HZ n sz (.ptr b 0) st) K=K (.slice b 0 n n sz true) st:=by
 have e1:Qap 0 n=true:=q9 (QaG _);have e2:Qap n n=true:=q9 (Qao _);have e3:QaC 0 (Qav 0 sz)=0:=by show 0+0 * sz=0;omega
 have e4:Qbh n 0=n:=rfl;simp only[HZ,q8,optA,e1,e2,e3,e4,cond_true,jH,jl]
theorem jdf {st:St}{K:AV->St->Prop}{b n s:Nat}{i:Int}(h0:0<=i)(h:i<n)(k:IntKind):jl (jfh n s (.ptr b 0) (.int k i) st) K=K (.ptr b (i.toNat * s)) st:=by
 have e1:Qap (QaE i.toNat) n=true:=q9 (by omega);have e2:QaC 0 (Qav i.toNat s)=i.toNat * s:=QaK _;simp only[jfh,q8,jdC h0,e1,e2,cond_true,jH,jl]
theorem jgn {st:St}{K:AV->St->Prop}{l:List Nat}{i:Int}(h0:0<=i)(h:i<=l.length)(k:IntKind):jl (Jw (.str l) (some (.int k i)) none st) K=K (.str (l.drop i.toNat)) st:=by
 obtain⟨m,rfl⟩:=Qbt h0;exact jrm (by omega) k
theorem jgm {st:St}{K:AV->St->Prop}{l:List Nat}{i:Int}(h0:0<=i)(h:i<=l.length)(k:IntKind):jl (Jw (.str l) none (some (.int k i)) st) K=K (.str (l.take i.toNat)) st:=by
 obtain⟨m,rfl⟩:=Qbt h0;exact jrl (by omega) k
theorem jgl {st:St}{K:AV->St->Prop}{l:List Nat}{i j:Int}(h0:0<=i)(h1:i<=j)(h:j<=l.length)(k k':IntKind):jl (Jw (.str l) (some (.int k i)) (some (.int k' j)) st) K=K (.str ((l.drop i.toNat).take (j - i).toNat)) st:=by
 obtain⟨m,rfl⟩:=Qbt h0;obtain⟨n,rfl⟩:=Qbt (show 0<=j by omega);rw[jrk (by omega) (by omega)]
 congr 3
 omega
theorem jeD {f:FuncId}{xs:List AV}{st s:St}{v:AV}(h:∀ K Kp,K v s->XB P base f xs st K Kp)(K Kp:AV->St->Prop):XB P base f xs st K Kp=K v s:=by
 refine propext ⟨λ⟨r2,⟨N2,D2,h2⟩,h3⟩=>?_,h K Kp⟩;obtain⟨r,⟨N,D,h1⟩,h4⟩:=h (λv' s'=>v'=v/\s'=s) (λ_ _=>False) ⟨rfl,rfl⟩;have e1:=h1 (max N N2) (QaL ..) (max D D2) (QaL ..);have e2:=h2 (max N N2) (QaI ..) (max D D2) (QaI ..);rw[e1] at e2;subst e2;cases r with
 |no=>exact h4.elim
 |pn v s=>exact h4.elim
 |ok v' s'=>
  obtain⟨rfl,rfl⟩:=h4;exact h3
theorem jef (st:St):bk st st.bare=st:=nr rfl
theorem jcF (st:St):back st st.bare=st:=nr rfl
def fi {α:Type}(q:α->Bool):List α->Int
 |[]=>-1
 |x :: xs=>if q x=true then 0 else if fi q xs<0 then -1 else fi q xs+1
theorem uc {α:Type}{q:α->Bool}:∀ {xs:List α} {k:Nat} (h:k<xs.length),(∀ j (hj:j<k),q (xs[j]'(by omega))=false)->q xs[k]=true->fi q xs=k
 |x :: xs,0,h,h0,hk=>by simp only[Qby] at hk;simp[fi,hk]
 |x :: xs,k+1,h,h0,hk=>by
  have:=uc (xs:=xs) (k:=k) (by simpa using h) (λj hj=>by have:=h0 (j+1) (by omega);simpa only[QbG] using this) (by simpa only[QbG] using hk);have h1:=h0 0 (by omega);simp only[Qby] at h1;simp only[fi,h1,this];simp;omega
theorem ub {α:Type}{q:α->Bool}:∀ {xs:List α},(∀ j (hj:j<xs.length),q xs[j]=false)->fi q xs=-1
 |[],_=>rfl
 |x :: xs,h=>by
  have h1:=h 0 (by simp);simp only[Qby] at h1;have:=ub (xs:=xs) λj hj=>by have:=h (j+1) (by simpa using hj);simpa only[QbG] using this
  simp[fi,h1,this]
theorem Cl.cv {s:St}{b:Nat}{c c':List AV}(h:Cl s b c)(e:c=c'):Cl s b c':=e▸h
theorem jB {s:St}{b c o:Nat}{vs cs:List AV}(h:c≠b):Cl (wr s b o vs) c cs=Cl s c cs:=
 propext ⟨λC=>⟨C.lt,Jm (Jc h).symm C.row,(yJ (Jc h).symm).trans C.len,λi hi=>(yw (Jc h).symm i).trans (C.cell i hi)⟩,λC=>C.wrO h o vs⟩
theorem jD {s:St}{c:Nat}{ds cs:List AV}(h:c<s.nx):Cl (nw s ds) c cs=Cl s c cs:=
 propext ⟨λC=>⟨h,Jm (Jt (Qcq h)).symm C.row,(yJ (Jt (Qcq h)).symm).trans C.len,λi hi=>(yw (Jt (Qcq h)).symm i).trans (C.cell i hi)⟩,λC=>C.nw ds⟩
theorem jz {s:St}{c:Nat}{cs:List AV}:Cl s.bare c cs=Cl s c cs:=propext ⟨λh=>⟨h.lt,h.row,h.len,h.cell⟩,λh=>⟨h.lt,h.row,h.len,h.cell⟩⟩
end
end Go.Sy
end
noncomputable section
namespace Go.Sy
open Go.Ev Go.RowKit
def Lv (lo hi:Nat)(s:St)(v:AV)(n:Nat)(cs:List AV)(z:Nat):Prop:=(v=.nils/\n=0/\cs=[])\/∃ b,v=.slice b 0 n n z false/\0<n/\cs.length=n * z/\Cl s b cs/\lo<=b/\b<hi
def aps (v:AV)(s:St)(news:List AV):St:=match v with | .slice b _ _ _ _ _=>ap s b news|_=>nw s news
def apv (z:Nat)(v:AV)(s:St):AV:=match v with | .slice _ _ n _ _ _=>.slice s.nx 0 (n+1) (n+1) z false|_=>.slice s.nx 0 1 1 z false
section
variable {lo hi n z:Nat} {s:St} {v:AV} {cs:List AV}
theorem Lv.nil:Lv lo hi s .nils 0 [] z:=.inl ⟨rfl,rfl,rfl⟩
theorem jA {b o:Nat}{vs:List AV}(h:b<lo\/hi<=b):Lv lo hi (wr s b o vs) v n cs z=Lv lo hi s v n cs z:=by
 unfold Lv;refine propext ⟨λk=>k.imp id λ⟨c,h1,h2,h3,h4,h5,h6⟩=>⟨c,h1,h2,h3,?_,h5,h6⟩,λk=>k.imp id λ⟨c,h1,h2,h3,h4,h5,h6⟩=>⟨c,h1,h2,h3,?_,h5,h6⟩⟩
 ·rwa [jB (by omega)] at h4
 ·rwa [jB (by omega)]
theorem jF {ds:List AV}(h:hi<=s.nx):Lv lo hi (nw s ds) v n cs z=Lv lo hi s v n cs z:=by
 unfold Lv;refine propext ⟨λk=>k.imp id λ⟨c,h1,h2,h3,h4,h5,h6⟩=>⟨c,h1,h2,h3,?_,h5,h6⟩,λk=>k.imp id λ⟨c,h1,h2,h3,h4,h5,h6⟩=>⟨c,h1,h2,h3,?_,h5,h6⟩⟩
 ·rwa [jD (by omega)] at h4
 ·rwa [jD (by omega)]
theorem jG:Lv lo hi s.bare v n cs z=Lv lo hi s v n cs z:=by unfold Lv;simp only[jz]
theorem Lv.up {hi':Nat}(h:Lv lo hi s v n cs z)(h2:hi<=hi'):Lv lo hi' s v n cs z:=h.imp id λ⟨c,h1,h2,h3,h4,h5,h6⟩=>⟨c,h1,h2,h3,h4,h5,by omega⟩
theorem jr (v:AV)(s:St)(news:List AV):(aps v s news).nx=s.nx+1:=by unfold aps;split<;>rfl
theorem uX (v:AV)(s:St)(news:List AV):(aps v s news).fr=s.fr:=by unfold aps;split<;>rfl
theorem Lv.app {news:List AV}(h:Lv lo hi s v n cs z)(hl:news.length=z)(h1:lo<=s.nx):Lv lo (s.nx+1) (aps v s news) (apv z v s) (n+1) (cs ++ news) z:=by
 rcases h with ⟨rfl,rfl,rfl⟩|⟨b,rfl,h2,h3,h4,h5,h6⟩
 ·exact .inr ⟨s.nx,rfl,by omega,by simp[hl],Cl.new s news,h1,by omega⟩
 ·exact .inr ⟨s.nx,rfl,by omega,by rw[Qal,h3,hl,Qbw],h4.ap news,h1,by omega⟩
theorem Cl.apO {s:St}{b c:Nat}{cs vs:List AV}(h:Cl s c cs)(hb:c≠b):Cl (Go.Sy.ap s b vs) c cs:=
 have e:jx (Go.Sy.ap s b vs).h c=jx s.h c:=jdS (Qcq h.lt) hb
 ⟨Nat.lt_succ_of_lt h.lt,Jm e h.row,(yJ e).trans h.len,λi hi=>(yw e i).trans (h.cell i hi)⟩
theorem Cl.aps {c:Nat}{ds news:List AV}(C:Cl s c ds)(h:Lv lo hi s v n cs z)(hc:c<lo\/hi<=c):Cl (Go.Sy.aps v s news) c ds:=by
 rcases h with ⟨rfl,rfl,rfl⟩|⟨b,rfl,h2,h3,h4,h5,h6⟩
 ·exact C.nw news
 ·exact C.apO (b:=b) (by omega)
theorem Lv.aps {lo' hi' n' z':Nat}{v':AV}{cs' news:List AV}(V:Lv lo' hi' s v' n' cs' z')(h:Lv lo hi s v n cs z)(hc:hi'<=lo\/hi<=lo'):Lv lo' hi' (Go.Sy.aps v s news) v' n' cs' z':=
 V.imp id λ⟨c,h1,h2,h3,h4,h5,h6⟩=>⟨c,h1,h2,h3,h4.aps h (by omega),h5,h6⟩
theorem Lv.fz {m d:Nat}(h:Lv lo hi s v n cs z)(hm:m<=lo)(hp:cs.all pc=true):FzD m (d+2) s v (.lst n cs):=by
 rcases h with ⟨rfl,rfl,rfl⟩|⟨b,rfl,h2,h3,h4,h5,h6⟩
 ·exact FzD.nils
 ·refine FzD.slice h4.rw_ (QbC h3.symm) (by omega) ?_;rw[<-h3,Qaz];exact FzsD.pc hp
variable {K:AV->St->Prop}
theorem J0 {bytes bv xc:Nat}{xx:Bool}(h:Lv lo hi s v n cs z)(hz:0<z)(hby:(n+1) * bytes<=140737488355328)(h63:n+1<=9223372036854775807)(hv:z<=qt s.h bv) :
  jl (uG z bytes v (.slice bv 0 1 xc z xx) s) K=K (apv z v s) (aps v s (rats s.h bv 0 z)):=by
 obtain⟨m,zl,zz,ks,hg⟩:=YB (h:=s.h) (b:=bv) (by omega);rw[JR hg] at hv;have e0:Qav 1 z=z:=Nat.one_mul z;have e1:Qap (QaC 0 z) m=true:=q9 (by show 0+z<=m;omega);have er:jV zl zz ks z 0=rats s.h bv 0 z:=by
  rw[wP,qD];exact Qbz λi _=>by rw[Zm hg]
 have el:(rats s.h bv 0 z).length=z:=Q0 _ _ _ _;have e3:Qas (jP (rats s.h bv 0 z)) z=true:=wF (by rw[jR,el]);rcases h with ⟨rfl,rfl,rfl⟩|⟨b,rfl,h2,h3,h4,h5,h6⟩
 ·have e4:Qas 1 0=false:=rfl;have e5:Qap (Qav 1 bytes) 140737488355328=true:=q9 (by show 1 * bytes<=_;omega);have e6:Qap 1 9223372036854775807=true:=q9 (by decide);simp only[uG,Qt,firstCells,hg,yB,jH,e0,e1,cond_true,er,yh,e3,e4,cond_false,e5,e6,St.alloc_eq,jl];unfold apv Go.Sy.aps nw;rw[el]
 ·obtain⟨m',zl',zz',ks',hg'⟩:=h4.row;have h4l:=h4.len;rw[JR hg'] at h4l;have e4:Qap (QaC n 1) n=false:=jfT (QbR _);have e5:Qap (Qav (QaC n 1) bytes) 140737488355328=true:=q9 hby;have e6:Qap (QaC n 1) 9223372036854775807=true:=q9 h63;have e7:Qas z z=true:=wF rfl;have e8:Qas 0 0=true:=rfl;have e9:Qas (Qav n z) m'=true:=wF (by rw[h4l,h3];rfl);simp only[uG,Qt,firstCells,hg,yB,jH,e0,e1,cond_true,er,yh,e3,hg',e4,cond_false,e5,e6,e7,e8,e9,St.put_eq,St.alloc_eq,jl];have e10:Qav (QaC n 1) z=m'+(rats s.h bv 0 z).length:=by rw[el,h4l,h3];exact Qbw n z
  rw[e10];have ea:ap s b (rats s.h bv 0 z)=⟨s.nx+1,(qc (jM s.nx)).run (.row (m'+(rats s.h bv 0 z).length) zl' zz' (qr (rats s.h bv 0 z) ks' m')) ((qc (jM b)).run .dead s.h),min s.dirty b,s.fr⟩:=by
   unfold ap apO;rw[hg']
  show _=K (.slice s.nx 0 (n+1) (n+1) z false) (ap s b (rats s.h bv 0 z));rw[ea]
theorem Lv.get (h:Lv lo hi s v n cs z)(st:St)(news:List AV)(c:Nat)(hc:c<lo\/hi<=c)(hn:c<st.nx):jx (Go.Sy.aps v st news).h c=jx st.h c:=by
 rcases h with ⟨rfl,rfl,rfl⟩|⟨b,rfl,h2,h3,h4,h5,h6⟩
 ·exact Jt (Qcq hn)
 ·exact jdS (Qcq hn) (by omega)
theorem Lv.at (h:Lv lo hi s v n cs z)(st:St)(news:List AV)(c i:Nat)(hc:c<lo\/hi<=c)(hn:c<st.nx):rat (Go.Sy.aps v st news).h c i=rat st.h c i:=yw (h.get st news c hc hn) i
theorem Lv.ln (h:Lv lo hi s v n cs z)(st:St)(news:List AV)(c:Nat)(hc:c<lo\/hi<=c)(hn:c<st.nx):qt (Go.Sy.aps v st news).h c=qt st.h c:=yJ (h.get st news c hc hn)
theorem Lv.rts (h:Lv lo hi s v n cs z)(st:St)(news:List AV)(c o k:Nat)(hc:c<lo\/hi<=c)(hn:c<st.nx):rats (Go.Sy.aps v st news).h c o k=rats st.h c o k:=ZR (h.get st news c hc hn) k o
theorem Lv.cl (h:Lv lo hi s v n cs z)(st:St)(news ds:List AV)(c:Nat)(hc:c<lo\/hi<=c)(hn:c<st.nx):Cl (Go.Sy.aps v st news) c ds=Cl st c ds:=
 propext ⟨λC=>have e:=h.get st news c hc hn;⟨hn,Jm e.symm C.row,(yJ e.symm).trans C.len,λi hi=>(yw e.symm i).trans (C.cell i hi)⟩,λC=>have e:=h.get st news c hc hn;⟨by rw[jr];exact Nat.lt_succ_of_lt hn,Jm e C.row,(yJ e).trans C.len,λi hi=>(yw e i).trans (C.cell i hi)⟩⟩
theorem Lv.put {news:List AV}(h:Lv lo hi s v n cs z)(hl:news.length=z)(h1:lo<=s.nx){m:Nat}(hm:m=s.nx+1):Lv lo m (Go.Sy.aps v s news) (apv z v s) (n+1) (cs ++ news) z:=by rw[hm];exact h.app hl h1
end
end Go.Sy
end
noncomputable section
namespace Go.Sy
open Go.Ev Go.RowKit
def kl (b:Nat)(s:St):St:=kills [b] s
section
variable {lo hi n z b c:Nat} {s:St} {v:AV} {cs:List AV}
theorem ju (b:Nat)(s:St):(kl b s).nx=s.nx:=nr rfl
theorem jaB (b:Nat)(s:St):(kl b s).fr=s.fr:=nr rfl
theorem vq (h:c≠b):jx (kl b s).h c=jx s.h c:=by
 show jx ((qc (jM b)).run .dead s.h) c=_;rw[jZ,if_neg h]
theorem jaI {i:Nat}(h:c≠b):rat (kl b s).h c i=rat s.h c i:=yw (vq h) i
theorem uU (h:c≠b):qt (kl b s).h c=qt s.h c:=yJ (vq h)
theorem wO {o k:Nat}(h:c≠b):rats (kl b s).h c o k=rats s.h c o k:=ZR (vq h) _ _
theorem jQ (h:c≠b):Cl (kl b s) c cs=Cl s c cs:=
 propext ⟨λC=>have e:=vq (s:=s) h;⟨C.lt,Jm e.symm C.row,(yJ e.symm).trans C.len,λi hi=>(yw e.symm i).trans (C.cell i hi)⟩,λC=>have e:=vq (s:=s) h;⟨C.lt,Jm e C.row,(yJ e).trans C.len,λi hi=>(yw e i).trans (C.cell i hi)⟩⟩
theorem jJ (h:b<lo\/hi<=b):Lv lo hi (kl b s) v n cs z=Lv lo hi s v n cs z:=by
 unfold Lv;refine propext ⟨λk=>k.imp id λ⟨c,h1,h2,h3,h4,h5,h6⟩=>⟨c,h1,h2,h3,?_,h5,h6⟩,λk=>k.imp id λ⟨c,h1,h2,h3,h4,h5,h6⟩=>⟨c,h1,h2,h3,?_,h5,h6⟩⟩
 ·rwa [jQ (by omega)] at h4
 ·rwa [jQ (by omega)]
theorem JZ (h0:0<cs.length)(h1:b<s.nx)(h2:qt s.h b=cs.length)(h3:rats s.h b 0 cs.length=cs):Cl s b cs:=Cl.of_rats h1 h2 rfl h0 h3
def df (x:FuncId×List AV)(s:St):St:=⟨s.nx,s.h,s.dirty,x :: s.fr⟩
theorem vS (x:FuncId×List AV)(s:St):(df x s).nx=s.nx:=nr rfl
theorem Gb (x:FuncId×List AV)(s:St):(df x s).h=s.h:=nr rfl
theorem jaC (x:FuncId×List AV)(s:St):(df x s).fr=x :: s.fr:=nr rfl
theorem wa (f:FuncId)(caps vs:List AV){K:AV->St->Prop}:VL (.fn f caps) vs s K=K qi (df (f,vs ++ caps) s):=nr rfl
theorem jh1:st0.fr=[]:=nr rfl
theorem jb7 {m k:Nat}{x:Bool}{d:Nat}(C:Cl s b cs)(hl:n * z=cs.length)(hp:cs.all pc=true):fz (d+2) s.h (.slice b 0 n m z x)=some (.lst n cs,[b]):=by
 obtain⟨q,zl,zz,ct,h1,h2,h3⟩:=C.rw_.len;show(match jx s.h b with
  |some (.row n' zl z' cs)=>cond (Qap (QaC 0 (Qav n z)) n') ((fzs (fz (d+1) s.h) (jV zl z' cs (Qav n z) 0)).map λ(p:List AV×List Nat)=>(AV.lst n p.1,b :: p.2)) none
  |_=>none)=_
 rw[h1];dsimp only;have e1:Qap (QaC 0 (Qav n z)) q=true:=by rw[qp];show 0+n * z<=q;omega
 have e2:jV zl zz ct (Qav n z) 0=cs:=by
  rw[show Qav n z=q by show n * z=q;omega];exact h2
 rw[e1,e2,Vv hp];rfl
def Fza (s:St)(aZ' aZ:List AV)(ks:List Nat):Prop:=fzs (fz 9 s.h) aZ'=some (aZ,ks)
theorem Fza.nil:Fza s [] [] []:=rfl
theorem Fza.pa {aZ' aZ:List AV}{ks:List Nat}(hv:pa v=true)(h:Fza s aZ' aZ ks):Fza s (v :: aZ') (v :: aZ) ks:=by
 unfold Fza at *;simp only[fzs];rw[jaz (d:=7) hv,h];rfl
theorem Fza.sl {aZ' aZ:List AV}{ks:List Nat}{m:Nat}{x:Bool}(C:Cl s b cs)(hl:n * z=cs.length)(hp:cs.all pc=true)(h:Fza s aZ' aZ ks):Fza s (.slice b 0 n m z x :: aZ') (.lst n cs :: aZ) (b :: ks):=by
 unfold Fza at *;simp only[fzs];rw[jb7 (d:=7) (k:=0) C hl hp,h];rfl
variable {P:Program} {base:Bs}
theorem Wq {f:FuncId}{F:XF}(hl:jy P f=some F)(hm:base.pur f=1){aZ:List AV}{o:Oc}
 (h:xC P base F.body (jt F.ps aZ) st0 (Gp P base F.res (Xz G0 o) (Xq G0 o)) (Vl P base F.res (Xz G0 o) (Xq G0 o))):PX P base f aZ o:=PX.of hm (jkZ hl h)
theorem PX.xf {f:FuncId}{aZ aZ':List AV}{ks:List Nat}{o:Oc}(h:PX P base f aZ o){st:St}(hf:Fza st aZ' aZ ks)(hb:∀ st,base.run f aZ' st=.no)(K Kp:AV->St->Prop):XB P base f aZ' st K Kp=Yo o K Kp (kills ks st):=h.cxk hf hb K Kp
end
end Go.Sy
end
noncomputable section
namespace Go.Sy
open Go.Ev
theorem Cl.q {s:St}{b:Nat}{cs:List AV}(h:Cl s b cs):type_of% (aI h.len (aI h.cell h.ratsP)):=aI h.len (aI h.cell h.ratsP)
theorem Cl.r {s:St}{b:Nat}{cs:List AV}(h:Cl s b cs):type_of% (aI h.len h.ratsP):=aI h.len h.ratsP
end Go.Sy
end
noncomputable section
namespace Go.Sy
open Go.Ev
theorem rzA:type_of% (aI (@jdP) (aI (@jaY) (aI (@HO) (aI (@jga) (aI (@jf8) (aI (@HN) (aI (@Ub) (aI (@ja0) (aI (@jlc) (aI (@ja3) (aI (@HP) (aI (@Ua) (aI (@jc9) (aI (@jgb) (aI (@ja5) (aI (@ja4) (aI (@jf9) (aI (@ja2) (aI (@ja1) (aI (@jc7) (aI (@x_i) (aI (@jgc) (aI (@jld) (aI (@jc8) (aI (@jaX) (aI (@jaW) (aI (@jf7) (aI (@wQ) (aI (@Un) (aI (@jdu) (aI (@GM) (aI (@GK) (aI (@Vj) (aI (@GL) (aI (@jpM) (aI (@jeY) (aI (@jeW) (aI (@jg9) (aI (@jeX) (aI (@jha) (aI (@jdw) (aI (@gS) (aI (@Uo) (aI (@jlT) (aI (@jlS) (aI (@jdx) (aI (@jdy) (aI (@jg8) (aI (@jg7) (aI (@jhe) (aI (@jhd) (aI (@jhc) (aI (@jhb) (aI (@HE) (aI (@V5) (aI (@HG) (aI (@jeh) (@jeg)))))))))))))))))))))))))))))))))))))))))))))))))))))))))):=aI (@jdP) (aI (@jaY) (aI (@HO) (aI (@jga) (aI (@jf8) (aI (@HN) (aI (@Ub) (aI (@ja0) (aI (@jlc) (aI (@ja3) (aI (@HP) (aI (@Ua) (aI (@jc9) (aI (@jgb) (aI (@ja5) (aI (@ja4) (aI (@jf9) (aI (@ja2) (aI (@ja1) (aI (@jc7) (aI (@x_i) (aI (@jgc) (aI (@jld) (aI (@jc8) (aI (@jaX) (aI (@jaW) (aI (@jf7) (aI (@wQ) (aI (@Un) (aI (@jdu) (aI (@GM) (aI (@GK) (aI (@Vj) (aI (@GL) (aI (@jpM) (aI (@jeY) (aI (@jeW) (aI (@jg9) (aI (@jeX) (aI (@jha) (aI (@jdw) (aI (@gS) (aI (@Uo) (aI (@jlT) (aI (@jlS) (aI (@jdx) (aI (@jdy) (aI (@jg8) (aI (@jg7) (aI (@jhe) (aI (@jhd) (aI (@jhc) (aI (@jhb) (aI (@HE) (aI (@V5) (aI (@HG) (aI (@jeh) (@jeg)))))))))))))))))))))))))))))))))))))))))))))))))))))))))
theorem rzB:type_of% (aI (@jef) (aI (@jcF) (aI (@jpO) (aI (@jpN) (aI (@jkj) (aI (@jkH) (aI (@jhL) (aI (@jme) (aI (@jl9) (aI (@jl8) (aI (@jqb) (aI (@jhM) (aI (@jaw) (aI (@jl6) (aI (@jhG) (aI (@jqa) (aI (@jmd) (aI (@jmb) (aI (@jhT) (aI (@jhS) (aI (@jhR) (aI (@jhQ) (aI (@jhP) (aI (@jdN) (aI (@jmc) (aI (@jl7) (aI (@jhO) (aI (@jb5) (aI (@jb4) (aI (@jb3) (aI (@jhJ) (aI (@jhI) (aI (@jhH) (aI (@jb6) (aI (@Hl) (aI (@jma) (aI (@jdO) (aI (@jmf) (aI (@jde) (aI (@jhU) (aI (@jhK) (aI (@jav) (aI (@jmg) (aI (@jpb) (aI (@jlp) (aI (@jeK) (aI (@jlu) (aI (@jlr) (aI (@jlv) (aI (@jlx) (aI (@jlq) (aI (@jdc) (aI (@ja9) (aI (@jba) (aI (@jgE) (aI (@jgi) (aI (@jgr) (@jgq)))))))))))))))))))))))))))))))))))))))))))))))))))))))))):=aI (@jef) (aI (@jcF) (aI (@jpO) (aI (@jpN) (aI (@jkj) (aI (@jkH) (aI (@jhL) (aI (@jme) (aI (@jl9) (aI (@jl8) (aI (@jqb) (aI (@jhM) (aI (@jaw) (aI (@jl6) (aI (@jhG) (aI (@jqa) (aI (@jmd) (aI (@jmb) (aI (@jhT) (aI (@jhS) (aI (@jhR) (aI (@jhQ) (aI (@jhP) (aI (@jdN) (aI (@jmc) (aI (@jl7) (aI (@jhO) (aI (@jb5) (aI (@jb4) (aI (@jb3) (aI (@jhJ) (aI (@jhI) (aI (@jhH) (aI (@jb6) (aI (@Hl) (aI (@jma) (aI (@jdO) (aI (@jmf) (aI (@jde) (aI (@jhU) (aI (@jhK) (aI (@jav) (aI (@jmg) (aI (@jpb) (aI (@jlp) (aI (@jeK) (aI (@jlu) (aI (@jlr) (aI (@jlv) (aI (@jlx) (aI (@jlq) (aI (@jdc) (aI (@ja9) (aI (@jba) (aI (@jgE) (aI (@jgi) (aI (@jgr) (@jgq)))))))))))))))))))))))))))))))))))))))))))))))))))))))))
theorem rzC:type_of% (aI (@jgu) (aI (@jgt) (aI (@jgv) (aI (@jeL) (aI (@jbb) (aI (@jgw) (aI (@jgy) (aI (@jgx) (aI (@jlt) (aI (@jgA) (aI (@jdd) (aI (@jgp) (aI (@jlw) (aI (@jgz) (aI (@jdg) (aI (@jgC) (aI (@jgB) (aI (@jls) (aI (@jgo) (aI (@jdf) (aI (@jgn) (aI (@jgm) (aI (@jgl) (aI (@jee) (aI (@jqU) (aI (@jqV) (aI (@jiv) (aI (@K0) (aI (@K1) (aI (@ZF) (aI (@je4) (aI (@jij) (aI (@jhk) (aI (@jf1) (aI (@jmx) (aI (@jq4) (aI (@jf2) (aI (@Zk) (aI (@Zj) (aI (@wN) (aI (@Zi) (aI (@Ze) (aI (@Zh) (aI (@jaI) (aI (@uU) (aI (@wO) (aI (@vS) (aI (@Gb) (aI (@jaC) (aI (@jaB) (aI (@uX) (aI (@jr) (aI (@ju) (aI (@Zd) (aI (@YL) (aI (@YM) (aI (@Zw) (@Zv)))))))))))))))))))))))))))))))))))))))))))))))))))))))))):=aI (@jgu) (aI (@jgt) (aI (@jgv) (aI (@jeL) (aI (@jbb) (aI (@jgw) (aI (@jgy) (aI (@jgx) (aI (@jlt) (aI (@jgA) (aI (@jdd) (aI (@jgp) (aI (@jlw) (aI (@jgz) (aI (@jdg) (aI (@jgC) (aI (@jgB) (aI (@jls) (aI (@jgo) (aI (@jdf) (aI (@jgn) (aI (@jgm) (aI (@jgl) (aI (@jee) (aI (@jqU) (aI (@jqV) (aI (@jiv) (aI (@K0) (aI (@K1) (aI (@ZF) (aI (@je4) (aI (@jij) (aI (@jhk) (aI (@jf1) (aI (@jmx) (aI (@jq4) (aI (@jf2) (aI (@Zk) (aI (@Zj) (aI (@wN) (aI (@Zi) (aI (@Ze) (aI (@Zh) (aI (@jaI) (aI (@uU) (aI (@wO) (aI (@vS) (aI (@Gb) (aI (@jaC) (aI (@jaB) (aI (@uX) (aI (@jr) (aI (@ju) (aI (@Zd) (aI (@YL) (aI (@YM) (aI (@Zw) (@Zv)))))))))))))))))))))))))))))))))))))))))))))))))))))))))
theorem rzD:type_of% (aI (@jg) (aI (@jj) (aI (@jr) (aI (@jk) (aI (@uW) (aI (@wR) (aI (@Xs) (aI (@Q5) (aI (@gt) (aI (@vH) (aI (@UO) (aI (@gn) (aI (@gq) (aI (@ZX) (aI (@YF) (aI (@uk) (aI (@ug) (aI (@wD) (aI (@ZM) (aI (@wC) (aI (@ui) (aI (@uj) (aI (@jcM) (aI (@jcL) (aI (@jk4) (aI (@jf3) (aI (@jaK) (aI (@Kl) (aI (@Um) (aI (@jlR) (aI (@jlQ) (aI (@UH) (aI (@jaA) (aI (@jdV) (aI (@yi) (aI (@jg6) (aI (@jdv) (aI (@h_0) (aI (@h_1) (aI (@jqf) (aI (@jqe) (aI (@jqh) (aI (@jqg) (aI (@jp1) (aI (@jp0) (aI (@jpr) (aI (@jpq) (aI (@jpp) (aI (@jpa) (aI (@jo8) (aI (@jlj) (aI (@jo9) (aI (@jlk) (aI (@jgZ) (aI (@gL) (aI (@gK) (aI (@Gr) (@jqz)))))))))))))))))))))))))))))))))))))))))))))))))))))))))):=aI (@jg) (aI (@jj) (aI (@jr) (aI (@jk) (aI (@uW) (aI (@wR) (aI (@Xs) (aI (@Q5) (aI (@gt) (aI (@vH) (aI (@UO) (aI (@gn) (aI (@gq) (aI (@ZX) (aI (@YF) (aI (@uk) (aI (@ug) (aI (@wD) (aI (@ZM) (aI (@wC) (aI (@ui) (aI (@uj) (aI (@jcM) (aI (@jcL) (aI (@jk4) (aI (@jf3) (aI (@jaK) (aI (@Kl) (aI (@Um) (aI (@jlR) (aI (@jlQ) (aI (@UH) (aI (@jaA) (aI (@jdV) (aI (@yi) (aI (@jg6) (aI (@jdv) (aI (@h_0) (aI (@h_1) (aI (@jqf) (aI (@jqe) (aI (@jqh) (aI (@jqg) (aI (@jp1) (aI (@jp0) (aI (@jpr) (aI (@jpq) (aI (@jpp) (aI (@jpa) (aI (@jo8) (aI (@jlj) (aI (@jo9) (aI (@jlk) (aI (@jgZ) (aI (@gL) (aI (@gK) (aI (@Gr) (@jqz)))))))))))))))))))))))))))))))))))))))))))))))))))))))))
theorem rzL:type_of% (aI (@vS) (aI (@Gb) (aI (@jg) (aI (@jj) (aI (@jr) (aI (@ju) (aI (@jk) (aI (@uW) (aI (@yi) (aI (@uU) (aI (@wR) (aI (@Xs) (aI (@Q5) (aI (@Zk) (aI (@Zj) (aI (@wN) (aI (@Zi) (aI (@Ze) (aI (@Zh) (aI (@wO) (aI (@Zd) (aI (@YL) (aI (@YM) (aI (@Zw) (aI (@Zv) (aI (@Gr) (aI (@gK) (@gL)))))))))))))))))))))))))))):=aI (@vS) (aI (@Gb) (aI (@jg) (aI (@jj) (aI (@jr) (aI (@ju) (aI (@jk) (aI (@uW) (aI (@yi) (aI (@uU) (aI (@wR) (aI (@Xs) (aI (@Q5) (aI (@Zk) (aI (@Zj) (aI (@wN) (aI (@Zi) (aI (@Ze) (aI (@Zh) (aI (@wO) (aI (@Zd) (aI (@YL) (aI (@YM) (aI (@Zw) (aI (@Zv) (aI (@Gr) (aI (@gK) (@gL)))))))))))))))))))))))))))
theorem rzN:type_of% (aI (@jg) (aI (@jj) (aI (@jr) (aI (@ju) (aI (@jk) (aI (@yi) (aI (@vS) (aI (@UH) (aI (@jaA) (aI (@jaC) (aI (@jaB) (aI (@uX) (@jh1))))))))))))):=aI (@jg) (aI (@jj) (aI (@jr) (aI (@ju) (aI (@jk) (aI (@yi) (aI (@vS) (aI (@UH) (aI (@jaA) (aI (@jaC) (aI (@jaB) (aI (@uX) (@jh1))))))))))))
theorem rzG:type_of% (aI (@vS) (aI (@Gb) (aI (@Zk) (aI (@Zj) (aI (@wN) (aI (@Zi) (aI (@Ze) (aI (@Zh) (aI (@wO) (aI (@Gr) (aI (@gK) (aI (@gL) (aI (@gt) (aI (@vH) (aI (@UO) (aI (@gn) (aI (@gq) (aI (@ZX) (aI (@jaI) (aI (@jg) (aI (@jj) (aI (@jr) (aI (@ju) (aI (@uU) (aI (@jk) (aI (@uW) (aI (@yi) (aI (@wR) (aI (@Xs) (aI (@Q5) (aI (@YF) (aI (@uk) (aI (@ug) (aI (@wD) (aI (@ZM) (aI (@wC) (aI (@ui) (aI (@uj) (aI (@jbW) (aI (@jbS) (aI (@He) (aI (@KN) (aI (@Hd) (aI (@jbT) (aI (@jbV) (aI (@jbU) (aI (@GR) (aI (@GO) (aI (@Kr) (aI (@UV) (aI (@Ko) (aI (@GP) (aI (@GQ) (aI (@GS) (aI (@Kl) (aI (@Um) (aI (@YM) (aI (@Zw) (aI (@YL) (@Zv)))))))))))))))))))))))))))))))))))))))))))))))))))))))))))):=aI (@vS) (aI (@Gb) (aI (@Zk) (aI (@Zj) (aI (@wN) (aI (@Zi) (aI (@Ze) (aI (@Zh) (aI (@wO) (aI (@Gr) (aI (@gK) (aI (@gL) (aI (@gt) (aI (@vH) (aI (@UO) (aI (@gn) (aI (@gq) (aI (@ZX) (aI (@jaI) (aI (@jg) (aI (@jj) (aI (@jr) (aI (@ju) (aI (@uU) (aI (@jk) (aI (@uW) (aI (@yi) (aI (@wR) (aI (@Xs) (aI (@Q5) (aI (@YF) (aI (@uk) (aI (@ug) (aI (@wD) (aI (@ZM) (aI (@wC) (aI (@ui) (aI (@uj) (aI (@jbW) (aI (@jbS) (aI (@He) (aI (@KN) (aI (@Hd) (aI (@jbT) (aI (@jbV) (aI (@jbU) (aI (@GR) (aI (@GO) (aI (@Kr) (aI (@UV) (aI (@Ko) (aI (@GP) (aI (@GQ) (aI (@GS) (aI (@Kl) (aI (@Um) (aI (@YM) (aI (@Zw) (aI (@YL) (@Zv)))))))))))))))))))))))))))))))))))))))))))))))))))))))))))
theorem rzP:type_of% (aI (@QaK) (aI (@Qcm) (aI (@Qcs) (aI (@Qbp) (aI (@Nat.one_mul) (aI (@Int.toNat_natCast) (aI (@Int.toNat_zero) (aI (@Int.toNat_one) (aI (@true_and) (aI (@and_true) (aI (@and_self) (aI (@Bool.not_true) (aI (@Bool.not_false) (aI (@Qbb) (aI (@Qbc) (aI (@decide_eq_true_eq) (aI (@decide_eq_false_iff_not) (aI (@Nat.beq_eq) (@not_false_eq_true))))))))))))))))))):=aI (@QaK) (aI (@Qcm) (aI (@Qcs) (aI (@Qbp) (aI (@Nat.one_mul) (aI (@Int.toNat_natCast) (aI (@Int.toNat_zero) (aI (@Int.toNat_one) (aI (@true_and) (aI (@and_true) (aI (@and_self) (aI (@Bool.not_true) (aI (@Bool.not_false) (aI (@Qbb) (aI (@Qbc) (aI (@decide_eq_true_eq) (aI (@decide_eq_false_iff_not) (aI (@Nat.beq_eq) (@not_false_eq_true))))))))))))))))))
end Go.Sy
end
noncomputable section
namespace Go.Sy
open Go.Ev
theorem rzQ:type_of% (aI (@eq_self.{1}) (aI (@Qag.{0}) (aI (@Qah.{0}) (aI (@Qak.{0}) (aI (@Qan.{0}) (aI (@Qay.{0}) (aI (@QaF.{0}) (aI (@Qbk.{0}) (aI (@cond_true.{1}) (aI (@cond_false.{1}) (@ne_eq.{1}))))))))))):=aI (@eq_self.{1}) (aI (@Qag.{0}) (aI (@Qah.{0}) (aI (@Qak.{0}) (aI (@Qan.{0}) (aI (@Qay.{0}) (aI (@QaF.{0}) (aI (@Qbk.{0}) (aI (@cond_true.{1}) (aI (@cond_false.{1}) (@ne_eq.{1}))))))))))
theorem rzZ:type_of% (aI (@rzA) (aI (@rzB) (aI (@rzC) (aI (@rzD) (aI (@rzP) (@rzQ)))))):=aI (@rzA) (aI (@rzB) (aI (@rzC) (aI (@rzD) (aI (@rzP) (@rzQ)))))
instance iA (n:Nat):OfNat A n:=⟨.t n⟩
theorem nA (n:Nat):(@OfNat.ofNat A n (iA n))=A.t (@OfNat.ofNat Nat n _):=rfl
def oa(a:Nat)(b:Bool)(c:Option (Nat×Bool))(d:XK):XS:=⟨some a,b,c,d⟩
def od(a:Nat)(b:Bool)(c:Option (Nat×Bool))(d:Ins):XS:=oa a b c (.i d)
def oe(a:Nat)(b:Bool)(c:Ins):XS:=od a b none c
def oi(a:Nat)(b:Ins):XS:=oe a false b
def oj(a:List XS)(b:XC):XC:=.seq (.ops a) b
def ol(a:Int):AV:=.int .i64 a
def om(a:Nat)(b:Ins):XS:=oe a true b
def oq(a:Nat)(b:A):XS:=om a (.mv b)
def ou(a:Nat)(b:A):XS:=oi a (.mv b)
def ov:AV:=ol 0
def ow(a:Nat)(b:Nat)(c:A):XS:=oi a (.fad b c)
def oy(a:Nat)(b:Bool)(c:Nat×Bool)(d:Ins):XS:=od a b (some c) d
def oz(a:Nat)(b:A):XS:=oi a (.ld1 b)
def oB:AV:=.str []
def oC(a:Nat)(b:Bool)(c:Option (Nat×Bool))(d:A)(e:List A):XS:=oa a b c (.call d e)
def oD(a:BinOp)(b:A)(c:AV):Ins:=.bin a b (.c c)
def oE(a:Nat)(b:Nat×Bool)(c:Ins):XS:=oy a false b c
def oF(a:Bool):A:=.c (.bool a)
def oG(a:List XS)(b:A)(c:XC)(d:XC):XC:=oj a (.cond b c d)
def oH(a:Option Nat)(b:Option (Nat×Bool))(c:XK):XS:=⟨a,false,b,c⟩
def oI(a:XS)(b:Nat)(c:List (Nat×Nat)):XD:=⟨a,none,b,c⟩
def oJ(a:Nat)(b:List AV):A:=.c (.fn a b)
def oK(a:XS)(b:Option A)(c:Nat)(d:List (Nat×Nat)):XD:=⟨a,some b,c,d⟩
def oL(a:Nat)(b:Option (Nat×Bool))(c:A)(d:List A):XS:=oC a false b c d
def oM(a:List Nat):A:=.c (.str a)
def oQ(a:Nat)(b:A)(c:A):XK:=.i (.st a b c)
def oR(a:Nat)(b:Option (Nat×Bool))(c:Nat)(d:List AV)(e:List A):XS:=oL a b (oJ c d) e
def oS(a:Nat)(b:Nat)(c:A):XS:=oi a (.ldA b c)
def oU(a:BinOp)(b:A)(c:Int):Ins:=oD a b (ol c)
def oV(a:Option (Nat×Bool))(b:XK):XS:=oH none a b
def oW(a:XK):XS:=oV none a
def oX(a:List XS):XC:=oj a .ret
def oY:A:=oF false
def oZ(a:Nat)(b:Nat)(c:List AV)(d:List A):XS:=oR a none b c d
def o0(a:List XS)(b:XC)(c:XC):XC:=oj a (.seq b c)
def o3(a:Nat)(b:A)(c:A):XS:=oW (oQ a b c)
def o4(a:Nat)(b:List AV):XS:=om a (.alloc b)
def o5(a:Nat)(b:AV):XS:=oq a (.c b)
def o6(a:Nat)(b:BinOp)(c:A)(d:Int):XS:=oi a (oU b c d)
def o7(a:XS)(b:Nat):XD:=oI a b []
def o8(a:List XS)(b:A)(c:XC):XC:=oG a b c .skip
def o9(a:XS)(b:A)(c:Nat)(d:List (Nat×Nat)):XD:=oK a (some b) c d
def Ia(a:Nat)(b:Nat)(c:Bool)(d:Ins):XS:=oE a (b,c) d
def Ib(a:Nat)(b:Nat)(c:Ins):XS:=Ia a b false c
def Ic(a:Nat)(b:Nat)(c:Ins):XS:=Ia a b true c
def Id(a:Nat)(b:Nat)(c:List A):XS:=oZ a b [] c
def Ie(a:XD):XD×(Option (List XD)):=(a,none)
def If(a:XS)(b:Nat):XD×(Option (List XD)):=Ie (o7 a b)
def Ig(a:Nat)(b:XC):XC:=.block a (.loop b)
def Ih:A:=oF true
def Ii(a:Nat)(b:Nat)(c:A)(d:A):XS:=oi a (.idxS b c d)
def Ij(a:Nat)(b:A)(c:Nat):XS:=oi a (.ext b c)
def Ik(a:Nat)(b:BinOp)(c:A)(d:A):XS:=oi a (.strb b c d)
def Il(a:Nat)(b:XC)(c:XC):XC:=.seq (.block a b) c
def Im(a:Nat)(b:A)(c:A)(d:A):XS:=oi a (.pick b c d)
def Io(a:Nat)(b:Nat)(c:Nat)(d:List AV)(e:List ((Nat×Nat)×A)):XS:=oi a (.buildS b c d e)
def Ip(a:A)(b:XC)(c:Nat):XC:=.cond a b (.exit c)
def Iq(a:XS)(b:Nat)(c:List (Nat×Nat)):XD:=oK a none b c
def Ir(a:Nat)(b:List AV)(c:List ((Nat×Nat)×A)):XS:=oi a (.build b c)
def Is(a:Nat)(b:A):XS:=oi a (.nilc b)
def It(a:XS)(b:A)(c:Nat)(d:List (Nat×Nat)):XD×(Option (List XD)):=Ie (o9 a b c d)
def Iu(a:List XS)(b:A)(c:List XS):XC:=o8 a b (oX c)
def Iv(a:Nat):XS:=ou a 0
def Iw(a:XS):XS×(Option (List XD)):=(a,none)
def Ix:AV:=.tup []
def Iy(a:XS):XD×(Option (List XD)):=If a 0
def Iz(a:Nat)(b:A)(c:Int):XS:=o6 a .eql b c
def IA(a:Nat)(b:Nat)(c:A):XD×(Option (List XD)):=Iy (ow a b c)
def IB(a:Nat)(b:A):XS:=om a (.box b)
def ID(a:A)(b:A):Ins:=.bin .lss a b
def IE(a:XS)(b:Nat)(c:A):List XS:=[a,oq b c]
def IG(a:XS)(b:Nat)(c:A):XC:=.ops (IE a b c)
def IH(a:XS)(b:Nat)(c:A)(d:A)(e:XC)(f:XC):XC:=oG (IE a b c) d e f
def II(a:Int):A:=.c (ol a)
def IJ(a:Nat)(b:BinOp)(c:A)(d:A):XS:=oi a (.bin b c d)
def IK(a:Nat)(b:A)(c:Int):XS:=o6 a .add b c
def IL(a:Nat)(b:Nat)(c:A):XS:=Ib a b (.mv c)
def IM(a:A):Ins:=.un .not a
def IO(a:XS)(b:Nat)(c:List (Nat×Nat)):XD×(Option (List XD)):=Ie (Iq a b c)
def IP(a:Nat)(b:A):XS:=om a (.len b)
def IQ(a:Nat):XS:=o5 a ov
def IR(a:Nat)(b:A):XS:=oi a (.len b)
def IS(a:List XS)(b:Nat)(c:XC):XC:=oj a (Ig b c)
def IT(a:Nat)(b:A)(c:Int)(d:Nat)(e:A)(f:A)(g:XC)(h:XC):XC:=IH (Iz a b c) d e f g h
def IU(a:A)(b:Nat):XC:=Ip a .skip b
def IV(a:Nat)(b:A)(c:A)(d:A):XS:=om a (.pick b c d)
def IW(a:Nat×Nat)(b:List Nat):(Nat×Nat)×A:=(a,oM b)
def IX(a:Nat)(b:Nat)(c:List Nat):(Nat×Nat)×A:=IW (a,b) c
def IY(a:Nat)(b:List Nat):(Nat×Nat)×A:=IX a 1 b
def IZ(a:Nat)(b:A)(c:A)(d:Nat)(e:List (Nat×Nat)):XD×(Option (List XD)):=IO (o3 a b c) d e
def I0(a:Nat)(b:A)(c:A)(d:Nat)(e:List (Nat×Nat)):XD×(Option (List XD)):=It (oz a b) c d e
def I1:A:=.c Ix
def I3(a:Nat)(b:Nat)(c:A):XS:=Ic a b (.mv c)
def I4(a:Nat)(b:A):XS:=om a (.ld1 b)
def I5(a:Nat)(b:A)(c:A):XS:=om a (ID b c)
def I6(a:Nat)(b:Nat)(c:A):XS:=Id a b [c]
def I7(a:List XS)(b:XC)(c:List XS):XC:=o0 a b (oX c)
def I8(a:Nat)(b:Nat)(c:Nat)(d:A):XS:=Ib a b (.fad c d)
def I9(a:Nat)(b:Nat)(c:A):XS:=Ib a b (.ld1 c)
def Oa(a:List XS)(b:XC)(c:Nat)(d:XC)(e:XC):XC:=o0 a b (Il c d e)
def Ob(a:Nat)(b:Nat)(c:Nat)(d:A)(e:A):XS:=oi a (.idxA b c d e)
def Od(a:Nat)(b:A)(c:Int)(d:Nat)(e:A):XC:=IG (IK a b c) d e
def Oe(a:List XS)(b:A)(c:Nat)(d:Nat)(e:XC)(f:XC):XC:=Oa a (IU b c) d e f
def Of(a:List XS)(b:A)(c:Nat)(d:Nat)(e:XC)(f:Nat)(g:A)(h:Int)(i:Nat)(j:A):XC:=Oe a b c d e (Od f g h i j)
def Og(a:Nat)(b:A)(c:Nat):XD:=o7 (ou a b) c
def Oh(a:List XS)(b:Nat)(c:List XS)(d:A)(e:Nat)(f:Nat)(g:XC)(h:Nat)(i:A)(j:Int)(k:Nat)(l:A):XC:=IS a b (Of c d e f g h i j k l)
def Oi(a:List XS)(b:List XS):XC:=oj a (oX b)
def Oj(a:List XS)(b:A)(c:List XS):XC:=o8 a b (.ops c)
def Ok(a:List (XD×(Option (List XD))))(b:XC):XC:=.seq (.dops a) b
def Ol:A:=.c ov
def Om(a:Nat)(b:A)(c:A):XS:=Ik a .add b c
def On(a:Nat):XS:=oq a oY
def Oo(a:Nat)(b:Nat):(Nat×Nat)×A:=IY a [b]
def Oq(a:Nat)(b:Nat×Bool)(c:Nat)(d:List AV)(e:List A):XS:=oR a (some b) c d e
def Or(a:Nat)(b:Int):XS:=o5 a (ol b)
def Os(a:Nat)(b:Nat)(c:A)(d:A):XS:=Id a b [c,d]
def Ot(a:List XS)(b:Nat)(c:List XS)(d:A)(e:Nat)(f:Nat)(g:List XS)(h:XC)(i:Nat)(j:A)(k:Int)(l:Nat)(m:A):XC:=Oh a b c d e f (oj g h) i j k l m
def Ou(a:List XS)(b:List XS)(c:A)(d:List XS)(e:XC):XC:=o0 a (Iu b c d) e
def Ov(a:Nat)(b:A):XS:=ow a 0 b
def Ow(a:Nat)(b:Nat)(c:A):XS:=Ic a b (.ld1 c)
def Ox:Option (List XD):=some []
def Oy(a:Nat)(b:Nat)(c:Nat)(d:A):XS:=Ic a b (.fad c d)
def Oz(a:Nat)(b:Nat)(c:A)(d:A)(e:Nat)(f:List (Nat×Nat)):XD×(Option (List XD)):=It (oS a b c) d e f
def OA(a:Nat)(b:A)(c:Int)(d:Nat)(e:A)(f:A)(g:List XS)(h:XC):XC:=IT a b c d e f (oX g) h
def OB(a:BinOp)(b:A):Ins:=oD a b ov
def OC(a:AV)(b:AV)(c:AV)(d:AV)(e:AV):List AV:=[a,b,c,.nils,d,e]
def OE(a:Nat)(b:AV)(c:AV)(d:AV)(e:AV)(f:AV):XS:=o4 a (OC b c d e f)
def OG:A:=II 1
def OH(a:Nat)(b:A)(c:A):XS:=Ik a .eql b c
def OI(a:A):XS:=oq 2 a
def OJ(a:Nat)(b:BinOp)(c:A)(d:Int):XS:=om a (oU b c d)
def OK(a:Nat)(b:A):XS×(Option (List XD)):=Iw (oz a b)
def OL(a:Nat)(b:Nat)(c:Nat)(d:A)(e:A):XS:=oi a (.app b c d e)
def OM(a:Nat):XS:=ou a 1
def ON(a:A):XS:=oq 4 a
def OO(a:Nat)(b:Nat):XD:=Og a I1 b
def OP(a:Nat)(b:A):XS:=ow a 1 b
def OQ(a:List XS)(b:List XS)(c:XC):XC:=oj a (oj b c)
def OS(a:Nat)(b:A):XS:=ow a 3 b
def OT(a:Nat)(b:A):XS:=oS a 6 b
def OU(a:Nat)(b:Nat)(c:BinOp)(d:A)(e:Int):XS:=Ib a b (oU c d e)
def OV(a:Nat):XS:=ou a 5
def OW(a:BinOp)(b:A)(c:IntKind)(d:Int):Ins:=oD a b (.int c d)
def OY(a:Nat):XS:=ou a 4
def OZ(a:Nat)(b:Nat)(c:BinOp)(d:A)(e:Int):XS:=Ic a b (oU c d e)
def O0(a:Nat)(b:Nat)(c:A)(d:Nat)(e:List (Nat×Nat)):XD:=Iq (I6 a b c) d e
def O1(a:Nat)(b:BinOp)(c:A):XS:=oi a (OB b c)
def O2(a:Nat)(b:A)(c:A)(d:Nat):XD×(Option (List XD)):=I0 a b c d []
def O3(a:A)(b:List XS)(c:XC):XC:=.cond a (oX b) c
def O4(a:Nat)(b:BinOp)(c:A):XS:=om a (OB b c)
def O5(a:Nat)(b:A)(c:List Nat):XS:=OH a b (oM c)
def O6(a:XS)(b:Nat)(c:A)(d:A)(e:XC):XC:=IH a b c d .skip e
def O7:XS:=On 4
def O8(a:Nat)(b:AV)(c:AV)(d:AV)(e:AV):XS:=OE a ov b c d e
def O9(a:Nat)(b:AV)(c:AV)(d:AV):XS:=O8 a ov b c d
def Ta(a:Nat)(b:AV)(c:AV):XS:=O9 a oB b c
def Tb(a:Nat)(b:AV):XS:=Ta a ov b
def Tc(a:Nat):XS:=Tb a ov
def Td(a:Nat)(b:A)(c:A):XS:=Im a b c oY
def Te(a:Nat):XS:=o5 a .nils
def Tf(a:Nat)(b:A)(c:A)(d:List (Nat×Nat)):XD×(Option (List XD)):=IZ a b c 0 d
def Tg(a:Nat):XS:=ou a 6
def Th(a:Nat):XS×(Option (List XD)):=Iw (Iv a)
def Ti(a:XC)(b:List XS):XC:=.seq a (oX b)
theorem qq:type_of% (aI @nA (aI @oa.eq_1 (aI @od.eq_1 (aI @oe.eq_1 (aI @oi.eq_1 (aI @oj.eq_1 (aI @ol.eq_1 (aI @om.eq_1 (aI @oq.eq_1 (aI @ou.eq_1 (aI @ov.eq_1 (aI @ow.eq_1 (aI @oy.eq_1 (aI @oz.eq_1 (aI @oB.eq_1 (aI @oC.eq_1 (aI @oD.eq_1 (aI @oE.eq_1 (aI @oF.eq_1 (aI @oG.eq_1 (aI @oH.eq_1 (aI @oI.eq_1 (aI @oJ.eq_1 (aI @oK.eq_1 (aI @oL.eq_1 (aI @oM.eq_1 (aI @oQ.eq_1 (aI @oR.eq_1 (aI @oS.eq_1 (aI @oU.eq_1 (aI @oV.eq_1 (aI @oW.eq_1 (aI @oX.eq_1 (aI @oY.eq_1 (aI @oZ.eq_1 (aI @o0.eq_1 (aI @o3.eq_1 (aI @o4.eq_1 (aI @o5.eq_1 (aI @o6.eq_1 (aI @o7.eq_1 (aI @o8.eq_1 (aI @o9.eq_1 (aI @Ia.eq_1 (aI @Ib.eq_1 (aI @Ic.eq_1 (aI @Id.eq_1 (aI @Ie.eq_1 (aI @If.eq_1 (aI @Ig.eq_1 (aI @Ih.eq_1 (aI @Ii.eq_1 (aI @Ij.eq_1 (aI @Ik.eq_1 (aI @Il.eq_1 (aI @Im.eq_1 (aI @Io.eq_1 (aI @Ip.eq_1 (aI @Iq.eq_1 (aI @Ir.eq_1 (aI @Is.eq_1 (aI @It.eq_1 (aI @Iu.eq_1 (aI @Iv.eq_1 (aI @Iw.eq_1 (aI @Ix.eq_1 (aI @Iy.eq_1 (aI @Iz.eq_1 (aI @IA.eq_1 (aI @IB.eq_1 (aI @ID.eq_1 (aI @IE.eq_1 (aI @IG.eq_1 (aI @IH.eq_1 (aI @II.eq_1 (aI @IJ.eq_1 (aI @IK.eq_1 (aI @IL.eq_1 (aI @IM.eq_1 (aI @IO.eq_1 (aI @IP.eq_1 (aI @IQ.eq_1 (aI @IR.eq_1 (aI @IS.eq_1 (aI @IT.eq_1 (aI @IU.eq_1 (aI @IV.eq_1 (aI @IW.eq_1 (aI @IX.eq_1 (aI @IY.eq_1 (aI @IZ.eq_1 (aI @I0.eq_1 (aI @I1.eq_1 (aI @I3.eq_1 (aI @I4.eq_1 (aI @I5.eq_1 (aI @I6.eq_1 (aI @I7.eq_1 (aI @I8.eq_1 (aI @I9.eq_1 (aI @Oa.eq_1 (aI @Ob.eq_1 (aI @Od.eq_1 (aI @Oe.eq_1 (aI @Of.eq_1 (aI @Og.eq_1 (aI @Oh.eq_1 (aI @Oi.eq_1 (aI @Oj.eq_1 (aI @Ok.eq_1 (aI @Ol.eq_1 (aI @Om.eq_1 (aI @On.eq_1 (aI @Oo.eq_1 (aI @Oq.eq_1 (aI @Or.eq_1 (aI @Os.eq_1 (aI @Ot.eq_1 (aI @Ou.eq_1 (aI @Ov.eq_1 (aI @Ow.eq_1 (aI @Ox.eq_1 (aI @Oy.eq_1 (aI @Oz.eq_1 (aI @OA.eq_1 (aI @OB.eq_1 (aI @OC.eq_1 (aI @OE.eq_1 (aI @OG.eq_1 (aI @OH.eq_1 (aI @OI.eq_1 (aI @OJ.eq_1 (aI @OK.eq_1 (aI @OL.eq_1 (aI @OM.eq_1 (aI @ON.eq_1 (aI @OO.eq_1 (aI @OP.eq_1 (aI @OQ.eq_1 (aI @OS.eq_1 (aI @OT.eq_1 (aI @OU.eq_1 (aI @OV.eq_1 (aI @OW.eq_1 (aI @OY.eq_1 (aI @OZ.eq_1 (aI @O0.eq_1 (aI @O1.eq_1 (aI @O2.eq_1 (aI @O3.eq_1 (aI @O4.eq_1 (aI @O5.eq_1 (aI @O6.eq_1 (aI @O7.eq_1 (aI @O8.eq_1 (aI @O9.eq_1 (aI @Ta.eq_1 (aI @Tb.eq_1 (aI @Tc.eq_1 (aI @Td.eq_1 (aI @Te.eq_1 (aI @Tf.eq_1 (aI @Tg.eq_1 (aI @Th.eq_1 @Ti.eq_1)))))))))))))))))))))))))))))))))))))))))))))))))))))))))))))))))))))))))))))))))))))))))))))))))))))))))))))))))))))))))))))))))))))))))))))))))))))))))))))))))))):=aI @nA (aI @oa.eq_1 (aI @od.eq_1 (aI @oe.eq_1 (aI @oi.eq_1 (aI @oj.eq_1 (aI @ol.eq_1 (aI @om.eq_1 (aI @oq.eq_1 (aI @ou.eq_1 (aI @ov.eq_1 (aI @ow.eq_1 (aI @oy.eq_1 (aI @oz.eq_1 (aI @oB.eq_1 (aI @oC.eq_1 (aI @oD.eq_1 (aI @oE.eq_1 (aI @oF.eq_1 (aI @oG.eq_1 (aI @oH.eq_1 (aI @oI.eq_1 (aI @oJ.eq_1 (aI @oK.eq_1 (aI @oL.eq_1 (aI @oM.eq_1 (aI @oQ.eq_1 (aI @oR.eq_1 (aI @oS.eq_1 (aI @oU.eq_1 (aI @oV.eq_1 (aI @oW.eq_1 (aI @oX.eq_1 (aI @oY.eq_1 (aI @oZ.eq_1 (aI @o0.eq_1 (aI @o3.eq_1 (aI @o4.eq_1 (aI @o5.eq_1 (aI @o6.eq_1 (aI @o7.eq_1 (aI @o8.eq_1 (aI @o9.eq_1 (aI @Ia.eq_1 (aI @Ib.eq_1 (aI @Ic.eq_1 (aI @Id.eq_1 (aI @Ie.eq_1 (aI @If.eq_1 (aI @Ig.eq_1 (aI @Ih.eq_1 (aI @Ii.eq_1 (aI @Ij.eq_1 (aI @Ik.eq_1 (aI @Il.eq_1 (aI @Im.eq_1 (aI @Io.eq_1 (aI @Ip.eq_1 (aI @Iq.eq_1 (aI @Ir.eq_1 (aI @Is.eq_1 (aI @It.eq_1 (aI @Iu.eq_1 (aI @Iv.eq_1 (aI @Iw.eq_1 (aI @Ix.eq_1 (aI @Iy.eq_1 (aI @Iz.eq_1 (aI @IA.eq_1 (aI @IB.eq_1 (aI @ID.eq_1 (aI @IE.eq_1 (aI @IG.eq_1 (aI @IH.eq_1 (aI @II.eq_1 (aI @IJ.eq_1 (aI @IK.eq_1 (aI @IL.eq_1 (aI @IM.eq_1 (aI @IO.eq_1 (aI @IP.eq_1 (aI @IQ.eq_1 (aI @IR.eq_1 (aI @IS.eq_1 (aI @IT.eq_1 (aI @IU.eq_1 (aI @IV.eq_1 (aI @IW.eq_1 (aI @IX.eq_1 (aI @IY.eq_1 (aI @IZ.eq_1 (aI @I0.eq_1 (aI @I1.eq_1 (aI @I3.eq_1 (aI @I4.eq_1 (aI @I5.eq_1 (aI @I6.eq_1 (aI @I7.eq_1 (aI @I8.eq_1 (aI @I9.eq_1 (aI @Oa.eq_1 (aI @Ob.eq_1 (aI @Od.eq_1 (aI @Oe.eq_1 (aI @Of.eq_1 (aI @Og.eq_1 (aI @Oh.eq_1 (aI @Oi.eq_1 (aI @Oj.eq_1 (aI @Ok.eq_1 (aI @Ol.eq_1 (aI @Om.eq_1 (aI @On.eq_1 (aI @Oo.eq_1 (aI @Oq.eq_1 (aI @Or.eq_1 (aI @Os.eq_1 (aI @Ot.eq_1 (aI @Ou.eq_1 (aI @Ov.eq_1 (aI @Ow.eq_1 (aI @Ox.eq_1 (aI @Oy.eq_1 (aI @Oz.eq_1 (aI @OA.eq_1 (aI @OB.eq_1 (aI @OC.eq_1 (aI @OE.eq_1 (aI @OG.eq_1 (aI @OH.eq_1 (aI @OI.eq_1 (aI @OJ.eq_1 (aI @OK.eq_1 (aI @OL.eq_1 (aI @OM.eq_1 (aI @ON.eq_1 (aI @OO.eq_1 (aI @OP.eq_1 (aI @OQ.eq_1 (aI @OS.eq_1 (aI @OT.eq_1 (aI @OU.eq_1 (aI @OV.eq_1 (aI @OW.eq_1 (aI @OY.eq_1 (aI @OZ.eq_1 (aI @O0.eq_1 (aI @O1.eq_1 (aI @O2.eq_1 (aI @O3.eq_1 (aI @O4.eq_1 (aI @O5.eq_1 (aI @O6.eq_1 (aI @O7.eq_1 (aI @O8.eq_1 (aI @O9.eq_1 (aI @Ta.eq_1 (aI @Tb.eq_1 (aI @Tc.eq_1 (aI @Td.eq_1 (aI @Te.eq_1 (aI @Tf.eq_1 (aI @Tg.eq_1 (aI @Th.eq_1 @Ti.eq_1)))))))))))))))))))))))))))))))))))))))))))))))))))))))))))))))))))))))))))))))))))))))))))))))))))))))))))))))))))))))))))))))))))))))))))))))))))))))))))))))))))
theorem dzA {p:Prop}(h:p:=by first|assumption|decide|omega|(simp only[rzN,Qak,Qan];first|done|omega)|(apply JZ<;>first|omega|((simp(disch:=first|assumption|omega|(simp only[rzN,Qak,Qan];first|done|omega)) only[rzL,Qak,Qan,QaK,Qab ])<;>first|done|omega))|(simp(disch:=first|assumption|omega|(simp only[rzN,Qak,Qan];first|done|omega)) only[rzG,Qag,Qah,Qac,Qbj,Qak,Qan,Qay,QaF];first|done|omega|decide)):p:=h
theorem vw {p:Prop}(h:p:=by first|assumption|decide|omega|(simp only[zz,rzN,Qak,Qan];first|done|omega)|(apply JZ<;>first|omega|((simp(disch:=first|assumption|omega|(simp only[zz,rzN,Qak,Qan];first|done|omega)) only[rzL,Qak,Qan,QaK,Qab,zz ])<;>first|done|omega))|(simp(disch:=first|assumption|omega|(simp only[zz,rzN,Qak,Qan];first|done|omega)) only[zz,rzG,Qag,Qah,Qac,Qbj,Qak,Qan,Qay,QaF];first|done|omega|decide)):p:=h
end Go.Sy
end
noncomputable section
namespace Go.Sy
open Go.Ev Go.Proofs
def je0 (f:FuncId):Nat:=if f∈[52,11,12,54,78,35,34,55,53,64,37,15,74,104,105,77,56,57,58,59,39,40,87,79,81,80,60,101,102,76,94,91,95,96,18,38,14,108,109,110,111,124,113,114,115,116,118,119,106,82,129,130,132,133,134,41,139,144,147,148,149,153,164,165,167,168,93,99,126,10,13,16,17,19,20,21,22,23,24,26,27,28,29,30,31,32,33,42,43,44,45,48,50,61,47,51] then 1
 else if f∈[66,72,73,86,88,89,90,100,120,121,122,123,128,145,146,84,85,112] then 3 else if f∈[36,97,131,125,92,127,98,152,46,63,25] then 5 else if f∈[103,75] then 2 else 0
def Vn (f:FuncId):Bool:=!(Qas f 9) && !(Qas f 117) && !(Qas f 49)
structure NB (base:Bs):Prop where
 nob:∀ f,Vn f=true->∀ args st,base.run f args st=.no
 purE:base.pur=je0
theorem NB.pur {base:Bs}(h:NB base)(f m:Nat)(e:je0 f=m):base.pur f=m:=by rw[h.purE];exact e
theorem NB.no {base:Bs}(h:NB base)(f:FuncId)(e:Vn f=true)(args:List AV)(st:St):base.run f args st=.no:=h.nob f e args st
theorem NB.at0 {base:Bs}(h:NB base)(f:FuncId)(e:Vn f=true)(e2:je0 f=0)(args:List AV)(st:St):base.at0 f args st:=⟨h.nob f e args st,h.pur f 0 e2⟩
abbrev Ret (base:Bs)(f:FuncId)(xs:List AV)(o:Oc):Prop:=∀ st K Kp,XB Qaf base f xs st K Kp=Yo o K Kp st
abbrev Tot (base:Bs)(f:FuncId)(xs:List AV)(v:AV):Prop:=∀ st K Kp,XB Qaf base f xs st K Kp=K v st
theorem NB.tot {base:Bs}(hb:NB base){f:FuncId}{xs:List AV}{v:AV}(h:PX Qaf base f xs (.ok v))(hp:xs.all pa=true)(e:Vn f=true):Tot base f xs v:=λst K Kp=>h.xb hp (hb.no f e _) st K Kp
theorem NB.ret {base:Bs}(hb:NB base){f:FuncId}{xs:List AV}{o:Oc}(h:PX Qaf base f xs o)(hp:xs.all pa=true)(e:Vn f=true):Ret base f xs o:=λst K Kp=>h.xb hp (hb.no f e _) st K Kp
inductive Ex where
 |mk (op num:Int) (name:List Nat) (kids:List Ex) (line col:Int)
def Ex.op:Ex->Int | .mk o _ _ _ _ _=>o
def Ex.num:Ex->Int | .mk _ n _ _ _ _=>n
def Ex.name:Ex->List Nat | .mk _ _ n _ _ _=>n
def Ex.kids:Ex->List Ex | .mk _ _ _ k _ _=>k
def Ex.line:Ex->Int | .mk _ _ _ _ l _=>l
def Ex.col:Ex->Int | .mk _ _ _ _ _ c=>c
theorem Ex.ind {p:Ex->Prop}(h:∀ op num name kids l c,(∀ k∈kids,p k)->p (.mk op num name kids l c)):∀ x,p x
 |.mk op num name kids l c=>h op num name kids l c (inds h kids)
where inds {p:Ex->Prop} (h:∀ op num name kids l c,(∀ k∈kids,p k)->p (.mk op num name kids l c)):∀ (xs:List Ex),∀ k∈xs,p k
 |[],k,hk=>by cases hk
 |x :: xs,k,hk=>by
  rcases Qbv.1 hk with e|e
  ·exact e▸Ex.ind h x
  ·exact inds h xs k e
theorem Ex.indk {p:Ex->Prop}(h:∀ x:Ex,(∀ k∈x.kids,p k)->p x):∀ x,p x:=Ex.ind λop num name ks l c ih=>h (.mk op num name ks l c) ih
mutual
def eE:Ex->List AV
 |.mk op num name kids l c=>[.int .i64 op,.int .i64 num,.str name,.lst kids.length (eEs kids),.int .i64 l,.int .i64 c]
def eEs:List Ex->List AV
 |[]=>[]
 |x :: xs=>eE x ++ eEs xs
end
theorem jim:∀ xs,eEs xs=fl eE xs
 |[]=>rfl
 |x :: xs=>by rw[Xy,<-jim xs];rfl
theorem qG (x:Ex):eE x=[.int .i64 x.op,.int .i64 x.num,.str x.name,.lst x.kids.length (fl eE x.kids),.int .i64 x.line,.int .i64 x.col]:=by
 cases x;simp only[eE,jim];rfl
theorem zx (x:Ex):(eE x).length=6:=by rw[qG];rfl
theorem Gq (x:Ex)(k:Nat):(eE x).getD k .bad=([.int .i64 x.op,.int .i64 x.num,.str x.name,.lst x.kids.length (fl eE x.kids),.int .i64 x.line,.int .i64 x.col]:List AV).getD k .bad:=by rw[qG]
theorem jqy (x:Ex)(k:Nat):(eE x).drop k=([.int .i64 x.op,.int .i64 x.num,.str x.name,.lst x.kids.length (fl eE x.kids),.int .i64 x.line,.int .i64 x.col]:List AV).drop k:=by rw[qG]
theorem qY (x:Ex):(eE x).all pc=true:=by rw[qG];rfl
theorem jfI (x:Ex):lall AV.cell (eE x)=true:=by rw[qG];rfl
theorem jci {st:St}{K:AV->St->Prop}{xs:List Ex}{i:Nat}(h:i<xs.length):jl (zg 6 (.lptr (fl eE xs) (i * 6)) st) K=K (.agg (eE xs[i])) st:=JU zx h
theorem jmo {st:St}{K:AV->St->Prop}{xs:List Ex}{i:Nat}(h:i<xs.length){k:Nat}(hk:k<6):jl (qX (.lptr (fl eE xs) (i * 6+k)) st) K=K ((eE xs[i]).getD k .bad) st:=q7 zx h hk
theorem jmp {st:St}{K:AV->St->Prop}{xs:List Ex}{i:Nat}(h:i<xs.length):jl (qX (.lptr (fl eE xs) (i * 6)) st) K=K ((eE xs[i]).getD 0 .bad) st:=q7 (k:=0) zx h (by decide)
theorem je:type_of% (aI @zx (aI @Gq (aI @jqy (aI @jfI (aI @jci (aI @jmp @jmo)))))):=aI @zx (aI @Gq (aI @jqy (aI @jfI (aI @jci (aI @jmp @jmo)))))
theorem qN:type_of% (aI @zx (aI @jfI @Gq)):=aI @zx (aI @jfI @Gq)
theorem dzB {p:Prop}(h:p:=by first|assumption|decide|omega|(simp only[qN,rzN,Qak,Qan];first|done|omega)|(apply JZ<;>first|omega|((simp(disch:=first|assumption|omega|(simp only[qN,rzN,Qak,Qan];first|done|omega)) only[rzL,Qak,Qan,QaK,Qab,qN ])<;>first|done|omega))|(simp(disch:=first|assumption|omega|(simp only[qN,rzN,Qak,Qan];first|done|omega)) only[qN,rzG,Qag,Qah,Qac,Qbj,Qak,Qan,Qay,QaF];first|done|omega|decide)):p:=h
theorem jcj {p:Prop}(h:p:=by first|assumption|decide|omega|(simp only[qN,zz,rzN,Qak,Qan];first|done|omega)|(apply JZ<;>first|omega|((simp(disch:=first|assumption|omega|(simp only[qN,zz,rzN,Qak,Qan];first|done|omega)) only[rzL,Qak,Qan,QaK,Qab,qN,zz ])<;>first|done|omega))|(simp(disch:=first|assumption|omega|(simp only[qN,zz,rzN,Qak,Qan];first|done|omega)) only[qN,zz,rzG,Qag,Qah,Qac,Qbj,Qak,Qan,Qay,QaF];first|done|omega|decide)):p:=h
end Go.Sy
end
noncomputable section
set_option maxRecDepth 100000
namespace Go.Sy
open Go.Ev Go.Proofs
def z14:XC:=(oj [IB 1 0,IQ 2] (I7 [IQ 3] (Ot [OS 6 1,I4 7 6,IP 8 7,IQ 9] 0 [I5 10 9 8] 10 0 1 [Ii 11 6 7 9,OT 12 11,Tc 5,o3 6 5 12] (.ops [ou 13 3,OT 14 5,I6 15 12 14,oi 16 (.bi .max #[3,3] [13,15]),oq 3 16]) 17 9 1 9 17) [ou 18 3,IK 19 18 1,OI 19]))
def y14:XF:=⟨[0],z14,[(.t 2)]⟩
theorem x14:jy Qaf 12=some y14:=by kernel_rfl
def z47:XC:=(Ou (IE (IB 2 0) 4 oY) [Ov 7 2,oz 8 7,OM 9,om 10 (.bin .eql 8 9)] 10 [ON Ih] (Ti (Ot [OS 11 2,I4 12 11,IP 13 12,IQ 14] 0 [I5 15 14 13] 15 0 1 [Ii 16 6 12 14,OT 17 16,Tc 6,o3 6 6 17] (Iu [OT 18 6,OM 19,oC 20 true none (oJ 15 []) [18,19]] 20 [ON Ih]) 21 14 1 14 21) [O7]))
def y47:XF:=⟨[0,1],z47,[(.t 4)]⟩
theorem x47:jy Qaf 15=some y47:=by kernel_rfl
def jjv:XC:=(Ou [IQ 2] [Iv 3,o6 4 .geq 3 1,OY 5,I3 6 5 0,OZ 7 5 .leq 6 4,IV 8 5 7 oY] 8 [IQ 2] (.seq (Iu [Iv 9,o6 10 .geq 9 5,ou 11 10,I3 12 11 0,OZ 13 11 .leq 12 13,IV 14 11 13 oY] 14 [Or 2 1]) (Ti (Iu [Iv 15,o6 16 .geq 15 14,ou 17 16,I3 18 17 0,OZ 19 17 .leq 18 30,IV 20 17 19 oY] 20 [Or 2 2]) [Or 2 (-(0+1))])))
def joG:XF:=⟨[0],jjv,[(.t 2)]⟩
theorem jsV:jy Qaf 82=some joG:=by kernel_rfl
def z52:XC:=(I7 [o5 2 oB] (Iu [Iv 3,o6 4 .lss 3 5,OY 5,IL 6 5 0,OU 7 5 .gtr 6 30,IV 8 5 Ih 7] 8 [o5 2 oB]) [Io 9 26 1 [oB] [Oo 0 45,Oo 1 33,Oo 2 88,Oo 3 70,Oo 4 71,Oo 5 89,Oo 6 90,Oo 7 79,Oo 8 72,Oo 9 42,Oo 10 43,Oo 11 45,Oo 12 61,IY 13 [33,61],Oo 14 60,IY 15 [60,61],Oo 16 62,IY 17 [62,61],Oo 18 85,Oo 19 82,Oo 20 83,Oo 21 84,Oo 22 38,Oo 23 124,IY 24 [45,62],IY 25 [60,45,62]],Iv 10,o6 11 .sub 10 5,Ii 12 1 9 11,oz 13 12,OI 13])
def y52:XF:=⟨[0],z52,[(.t 2)]⟩
theorem x52:jy Qaf 105=some y52:=by kernel_rfl
def z92:XC:=(o0 (IE (IB 1 0) 2 oY) (Ok [IA 5 0 1,O2 6 5 5 3,(O0 7 82 6 0 [],some [OO 7 0,o7 (OS 8 1) 0,o9 (oz 9 8) 8 27 [(1,0)],o7 (IR 10 9) 0,o7 (o5 11 Ix) 0]),IA 8 3 1,I0 9 8 8 27 [(1,0)],Iy (IR 10 9),Iy (om 11 (.bin .neq 7 10))] (O3 11 [On 2] .skip)) (.seq (Ot [OS 12 1,I4 13 12,IP 14 13,IQ 15] 0 [I5 16 15 14] 16 0 1 [Ii 17 6 13 15,OT 18 17,Tc 4,o3 6 4 18] (Iu [OT 19 4,I6 20 60 19,om 21 (IM 20)] 21 [On 2]) 22 15 1 15 22) (.seq (Iu [Ov 23 1,oz 24 23,o6 25 .neq 24 3,ou 26 25,Oy 27 26 2 1,Ow 28 26 27,Ic 29 26 (.strb .neq 28 (.c oB)),IV 30 26 29 oY] 30 [On 2]) (Ti (oj [Ov 31 1,I4 32 31] (.block 2 (OA 34 32 1 33 34 33 [OP 35 1,oz 36 35,O1 37 .geq 36,ou 38 37,Oy 39 38 1 1,Ow 40 38 39,OZ 41 38 .leq 40 1000000,Td 42 38 41,OI 42] (OA 44 32 2 43 44 43 [OP 45 1,oz 46 45,O1 47 .eql 46,ou 48 47,I8 49 48 1 1,I9 50 48 49,OU 51 48 .eql 50 1,Im 52 48 Ih 51,OI 52] (OA 54 32 3 53 54 53 [OP 55 1,oz 56 55,O1 57 .eql 56,ou 58 57,Oy 59 58 2 1,Ow 60 58 59,Oq 61 (58,true) 58 [] [60],Td 62 58 61,OI 62] (Iu (IE (Iz 64 32 4) 63 64) 63 [OI Ih])))))) [OP 65 1,oz 66 65,O1 67 .eql 66,OI 67]))))
def y92:XF:=⟨[0],z92,[(.t 2)]⟩
theorem x92:jy Qaf 60=some y92:=by kernel_rfl
def z46:XC:=(Oi (IE (IB 1 0) 2 oY) [OT 3 1,I6 4 12 3,o6 5 .leq 4 60,OV 6,Ic 7 6 (.ldA 6 1),Oq 8 (6,true) 60 [] [7],Td 9 6 8,OI 9])
def y46:XF:=⟨[0],z46,[(.t 2)]⟩
theorem x46:jy Qaf 37=some y46:=by kernel_rfl
def z12:XC:=(Oi (IE (IB 1 0) 2 oY) [OT 3 1,I6 4 37 3,OY 5,Ic 6 5 (.ldA 6 1),Oq 7 (5,true) 15 [] [6,II 4],Ic 8 5 (IM 7),Td 9 5 8,OI 9])
def y12:XF:=⟨[0],z12,[(.t 2)]⟩
theorem x12:jy Qaf 11=some y12:=by kernel_rfl
def z96:XC:=(Oi [On 2] [Iv 3,o6 4 .geq 3 (-(999999+1)),OY 5,I3 6 5 0,OZ 7 5 .leq 6 1000000,Td 8 5 7,OI 8])
def y96:XF:=⟨[0],z96,[(.t 2)]⟩
theorem x96:jy Qaf 76=some y96:=by kernel_rfl
end Go.Sy
end
noncomputable section
set_option maxRecDepth 100000
namespace Go.Sy
open Go.Ev Go.Proofs
variable {base:Bs}
def QT (op:Int):Int:=if 1<=op/\op<=4 then 0 else if 5<=op/\op<=13 then 1 else if 14<=op/\op<=30 then 2 else -1
theorem jq9 (hb:NB base)(op:Int):Tot base 82 [.int .i64 op] (.int .i64 (QT op)):=by
 refine hb.tot ?_ rfl rfl;refine jE jsV (by rfl) (hb.pur 82 1 (by decide)) ?_;simp only[joG,jt,Qai,Qaj,Qag,Qah];rw[(by unfold jjv;simp only[qq];rfl:jjv=_)];repeat'(first|(apply jc<;>intro _)|simp(disch:=first|exact dzB|fail) only[je,rzZ,Qab,Qac,Qad,Qaa,Qae])
 all_goals(refine G0.v ?_ rfl;unfold QT;repeat' split)<;>first|rfl|(exfalso;omega)|(simp_all;done)|(simp;omega)|(simp_all;omega)
theorem jdo (hb:NB base)(n:Int):Tot base 76 [.int .i64 n] (.bool (decide (-1000000<=n) && decide (n<=1000000))):=by
 refine hb.tot ?_ rfl rfl;refine jE x96 (by rfl) (hb.pur 76 1 (by decide)) ?_;simp only[y96,jt,Qai,Qaj,Qag,Qah];rw[(by unfold z96;simp only[qq];rfl:z96=_)];repeat'(first|(apply jc<;>intro _)|simp(disch:=first|exact dzB|fail) only[je,rzZ,Qab,Qac,Qad,Qaa,Qae])
 all_goals(refine G0.v ?_ rfl;repeat' split)<;>first|rfl|(exfalso;omega)|(simp_all;done)|(simp;omega)|(simp_all;omega)
mutual
def szE:Ex->Nat
 |.mk _ _ nm ks _ _=>yF ks+nm.length+1
def yF:List Ex->Nat
 |[]=>0
 |x :: xs=>szE x+yF xs
end
mutual
def wB:Ex->Nat
 |.mk _ _ _ ks _ _=>yp ks+1
def yp:List Ex->Nat
 |[]=>0
 |x :: xs=>max (wB x) (yp xs)
end
mutual
def Kc:Ex->Nat
 |.mk _ _ _ ks _ _=>uN ks+1
def uN:List Ex->Nat
 |[]=>0
 |x :: xs=>Kc x+uN xs
end
mutual
def jfj (op:Int):Ex->Bool
 |.mk o _ _ ks _ _=>decide (o=op) ||Xw op ks
def Xw (op:Int):List Ex->Bool
 |[]=>false
 |x :: xs=>jfj op x ||Xw op xs
end
theorem XO (x:Ex):szE x=yF x.kids+x.name.length+1:=by cases x;rfl
theorem kF (x:Ex):wB x=yp x.kids+1:=by cases x;rfl
theorem jnr (op:Int)(x:Ex):jfj op x=(decide (x.op=op) ||Xw op x.kids):=by cases x;rfl
theorem Xj:∀ {xs:List Ex} {k:Nat} (h:k<xs.length),szE xs[k]<=yF xs
 |x :: xs,0,h=>by simp[yF]
 |x :: xs,k+1,h=>by
  have:=Xj (xs:=xs) (k:=k) (by simpa using h);simp[yF];omega
theorem Yl:∀ xs:List Ex,xs.length<=yF xs
 |[]=>by simp
 |x :: xs=>by
  have:=Yl xs;have:=XO x;simp[yF];omega
theorem gh:∀ xs ys,yp (xs ++ ys)=max (yp xs) (yp ys)
 |[],ys=>by simp[yp]
 |x :: xs,ys=>by rw[Qay,yp,yp,gh,Nat.max_assoc]
theorem v7 (op:Int):∀ xs ys,Xw op (xs ++ ys)=(Xw op xs ||Xw op ys)
 |[],ys=>by simp[Xw]
 |x :: xs,ys=>by rw[Qay,Xw,Xw,v7,Bool.or_assoc]
theorem yE {α:Type}{xs:List α}{k:Nat}(h:k<xs.length):xs.take (k+1)=xs.take k ++ [xs[k]]:=by rw[Qck,Qau h];rfl
mutual
theorem jkT:∀ x,wB x<=Kc x
 |.mk _ _ _ ks _ _=>by have:=VM ks;simp only[wB,Kc];omega
theorem VM:∀ xs,yp xs<=uN xs
 |[]=>Qao _
 |x :: xs=>by have:=jkT x;have:=VM xs;simp only[yp,uN];omega
end
mutual
theorem jkb:∀ x,Kc x<=szE x
 |.mk _ _ _ ks _ _=>by have:=Vd ks;simp only[szE,Kc];omega
theorem Vd:∀ xs,uN xs<=yF xs
 |[]=>Qao _
 |x :: xs=>by have:=jkb x;have:=Vd xs;simp only[yF,uN];omega
end
def BIG:Nat:=1099511627776
theorem jrf (hb:NB base):∀ x:Ex,szE x<=BIG->Tot base 12 [.agg (eE x)] (.int .i64 (wB x)):=by
 refine Ex.indk λx ih hx=>?_;refine hb.tot ?_ (by first|rfl|simp[pa,pc,qY]) rfl;have hd:=kF x;have hz:=XO x;generalize hks:x.kids=ks at *;have hlen:=Yl ks;unfold BIG at *;have hle:=VM ks;have hle2:=Vd ks;refine jE x14 (by rfl) (hb.pur 12 1 (by decide)) ?_;simp only[y14,jt,Qai,Qaj,Qag,Qah];rw[(by unfold z14;simp only[qq];rfl:z14=_)];repeat'(first|(apply jc<;>intro _)|simp(disch:=first|exact dzB|fail) only[hks,je,rzZ,Qab,Qac,Qad,Qaa,Qae])
 refine qb ks.length (λk L s=>Has L 3 (.int .i64 (yp (ks.take k):Nat))/\Has L 7 (.lst ks.length (fl eE ks))) (by first|assumption|omega) (by decide) (by simp(disch:=decide) only[jf,jb]) (by simp(disch:=decide) only[jf,jb]) ?_ (λk L s v h=>by simp(disch:=decide) only[jb];exact h) (λk L s v h=>by simp(disch:=decide) only[jb];exact h) (λk L s hk hI hi hn=>?_) (λL s hI=>?_)
 ·simp(disch:=decide) only[Qam,Qaq,z0,z1,jf,jb,and_true,true_and,Qbd,yp]
 ·obtain⟨i3,i7⟩:=hI;have hk2:=Xj hk;have e:=ih ks[k] (Qat hk) (by omega);repeat'(first|(apply jc<;>intro _)|simp(disch:=first|exact dzB|fail) only[ja i3,ja i7,ja hi,ja hn,e,je,rzZ,Qab,Qac,Qad,Qaa,Qae])
  have e2:((yp (ks.take (k+1)):Nat):Int)=max (yp (ks.take k):Int) (wB ks[k]):=by rw[yE hk,gh];simp only[yp];omega
  simp(disch:=decide) only[Qam,Qaq,z0,z1,jf,jb,and_true,true_and,e2,i7,hi,hn]
 ·rw[Qaz] at hI;repeat'(first|(apply jc<;>intro _)|simp(disch:=first|exact dzB|fail) only[ja hI.1,ja hI.2,je,rzZ,Qab,Qac,Qad,Qaa,Qae])
  (refine G0.v ?_ rfl;repeat' split)<;>first|rfl|(exfalso;omega)|(simp_all;done)|(simp;omega)|(simp_all;omega)
theorem jsd (hb:NB base)(op:Int):∀ x:Ex,szE x<=BIG->Tot base 15 [.agg (eE x),.int .i64 op] (.bool (jfj op x)):=by
 refine Ex.indk λx ih hx=>?_;refine hb.tot ?_ (by first|rfl|simp[pa,pc,qY]) rfl;have hd:=jnr op x;have hz:=XO x;generalize hks:x.kids=ks at *;have hlen:=Yl ks;unfold BIG at *;refine jE x47 (by rfl) (hb.pur 15 1 (by decide)) ?_;simp only[y47,jt,Qai,Qaj,Qag,Qah];rw[(by unfold z47;simp only[qq];rfl:z47=_)];repeat'(first|(apply jc<;>intro _)|simp(disch:=first|exact dzB|fail) only[hks,je,rzZ,Qab,Qac,Qad,Qaa,Qae])
 ·(refine G0.v ?_ rfl;repeat' split)<;>first|rfl|(exfalso;omega)|(simp_all;done)|(simp;omega)|(simp_all;omega)
 refine qb ks.length (λk L s=>Xw op (ks.take k)=false/\Has L 1 (.int .i64 op)/\Has L 12 (.lst ks.length (fl eE ks))) (by first|assumption|omega) (by decide) (by simp(disch:=decide) only[jf,jb]) (by simp(disch:=decide) only[jf,jb]) ?_ (λk L s v h=>by simp(disch:=decide) only[jb];exact h) (λk L s v h=>by simp(disch:=decide) only[jb];exact h) (λk L s hk hI hi hn=>?_) (λL s hI=>?_)
 ·simp(disch:=decide) only[Qam,Qaq,z0,z1,jf,jb,and_true,true_and,Qbd,Xw]
 ·obtain⟨h0,i1,i12⟩:=hI;have hk2:=Xj hk;have e:=ih ks[k] (Qat hk) (by omega);repeat'(first|(apply jc<;>intro _)|simp(disch:=first|exact dzB|fail) only[ja i1,ja i12,ja hi,ja hn,e,je,rzZ,Qab,Qac,Qad,Qaa,Qae])
  ·have e3:=v7 op (ks.take (k+1)) (ks.drop (k+1));rw[Qbs,yE hk,v7] at e3;simp only[Xw] at e3
   (refine G0.v ?_ rfl;repeat' split)<;>first|rfl|(exfalso;omega)|(simp_all;done)|(simp;omega)|(simp_all;omega)
  ·simp(disch:=decide) only[Qam,Qaq,z0,z1,jf,jb,and_true,true_and,i1,i12,hi,hn];rw[yE hk,v7,h0];simp_all [Xw]
 ·rw[Qaz] at hI;repeat'(first|(apply jc<;>intro _)|simp(disch:=first|exact dzB|fail) only[ja hI.2.1,je,rzZ,Qab,Qac,Qad,Qaa,Qae])
  (refine G0.v ?_ rfl;repeat' split)<;>first|rfl|(exfalso;omega)|(simp_all;done)|(simp;omega)|(simp_all;omega)
end Go.Sy
end
noncomputable section
set_option maxRecDepth 100000
namespace Go.Sy
open Go.Ev Go.Proofs
def zM (c:Nat):Bool:=(decide (97<=c) && decide (c<=122)) ||(decide (65<=c) && decide (c<=90))
def qf (c:Nat):Bool:=decide (48<=c) && decide (c<=57)
def Jb (c:Nat):Bool:=zM c ||qf c ||decide (c=95)
def qW (p:Nat->Bool):List Nat->Nat
 |[]=>0
 |c :: l=>if p c then qW p l+1 else 0
theorem Zq (p:Nat->Bool):∀ l,qW p l<=l.length
 |[]=>Qao _
 |c :: l=>by simp only[qW,Qak];have:=Zq p l;split<;>omega
theorem Uz {p:Nat->Bool}:∀ {l:List Nat} {k:Nat},k<=l.length->(∀ j,j<k->p (l.getD j 0)=true)->(k=l.length\/p (l.getD k 0)=false)->qW p l=k
 |[],k,h,_,_=>by simp at h;simp[qW,h]
 |c :: l,0,h,h1,h2=>by
  simp only[qW];rcases h2 with h2|h2
  ·simp at h2
  ·simp at h2;simp[h2]
 |c :: l,k+1,h,h1,h2=>by
  have h0:=h1 0 (by omega);simp at h0;simp only[qW,h0,if_true];have:=Uz (l:=l) (k:=k) (by simpa using h) (λj hj=>by simpa using h1 (j+1) (by omega)) (by simpa using h2);omega
def UA:List (List Nat):=[[101,110,117,109],[118,97,114],[98,111,111,108],[112,114,111,99,101,115,115],[119,104,101,110],[100,111],[116,114,117,101],[102,97,108,115,101],[88],[70],[71],[85],[82],[89],[90],[79],[72],[83],[84]]
def hZ (l:List Nat):Bool:=decide (l∈UA)
def begins (p l:List Nat):Bool:=decide (l.take p.length=p)
theorem gm {p l:List Nat}(h:l.length<p.length):begins p l=false:=by
 unfold begins;refine decide_eq_false λe=>?_;have:=congrArg List.length e;rw[QaH] at this;omega
def YC (c:Nat):Bool:=decide (c=32) ||decide (c=9) ||decide (c=10)
def Ky (c:Nat):Bool:=decide (c≠10)
def YO (p:Nat×Nat)(x:Nat):Nat×Nat:=if x=10 then(p.1+1,1) else(p.1,p.2+1)
def qd (p:Nat×Nat)(l:List Nat):Nat×Nat:=l.foldl YO p
theorem Wf (l:List Nat):∀ p:Nat×Nat,1<=p.2->(qd p l).1<=p.1+l.length/\(qd p l).2<=p.2+l.length/\1<=(qd p l).2:=by
 induction l with
 |nil=>exact λp h=>⟨Qao _,Qao _,h⟩
 |cons x l ih=>
  intro p h;have hs:(YO p x).1<=p.1+1/\(YO p x).2<=p.2+1/\1<=(YO p x).2:=by
   unfold YO;split<;>simp<;>omega
  have:=ih (YO p x) hs.2.2;show(qd (YO p x) l).1<=p.1+(l.length+1)/\(qd (YO p x) l).2<=p.2+(l.length+1)/\_;exact⟨by omega,by omega,this.2.2⟩
theorem GA (p:Nat×Nat)(l k:List Nat):qd p (l ++ k)=qd (qd p l) k:=Qcl ..
def gap (r:List Nat):Nat:=if qW YC r=0/\begins [47,47] r=true then qW Ky r else qW YC r
theorem K3 (r:List Nat):gap r<=r.length:=by
 unfold gap;split
 ·exact Zq _ _
 ·exact Zq _ _
def qa (r:List Nat):Nat:=if h:gap r=0 then 0 else gap r+qa (r.drop (gap r))
termination_by r.length
decreasing_by
 rw[QaR];have:=K3 r;omega
theorem jhZ {r:List Nat}(h:gap r=0):qa r=0:=by rw[qa,dif_pos h]
theorem jhY {r:List Nat}(h:gap r≠0):qa r=gap r+qa (r.drop (gap r)):=by rw[qa,dif_neg h]
theorem UF (r:List Nat):qa r<=r.length:=by
 by_cases h:gap r=0
 ·rw[jhZ h];exact QaG _
 ·have e:=K3 r;have ih:=UF (r.drop (gap r));rw[QaR] at ih;rw[jhY h];omega
termination_by r.length
decreasing_by
 rw[QaR];have:=K3 r;omega
def YQ:List (List Nat):=[[60,45,62],[46,46],[58,61],[33,61],[60,61],[62,61],[45,62],[123],[125],[40],[41],[58],[44],[59],[61],[60],[62],[43],[45],[42],[33],[38],[124]]
def Y0 (r:List Nat):List (List Nat)->Nat
 |[]=>0
 |x :: xs=>if begins x r=true then x.length else Y0 r xs
def Uj (r:List Nat):Nat:=Y0 r YQ
structure Tk where
 kind:Nat
 text:List Nat
 num:Nat
 line:Nat
 col:Nat
def Tk.cells (t:Tk):List AV:=[.int .i64 (t.kind:Int),.str t.text,.int .i64 (t.num:Int),.int .i64 (t.line:Int),.int .i64 (t.col:Int)]
def w5 (s:List Nat):Nat:=s.foldl (λv c=>10 * v+(c - 48)) 0
def yS (r:List Nat)(p:Nat×Nat):Nat×Tk×Nat:=
 match r with
 |[]=>(0,⟨5,[],0,p.1,p.2⟩,0)
 |x :: r'=>
  if zM x=true then
   let n:=qW Jb (x :: r')
   if 32<n then(132,⟨1,[],0,p.1,p.2⟩,0) else(0,⟨if hZ ((x :: r').take n)=true then 4 else 1,(x :: r').take n,0,p.1,p.2⟩,n)
  else if qf x=true then
   let n:=qW qf (x :: r')
   if 7<n\/1000000<w5 ((x :: r').take n) then(132,⟨2,[],0,p.1,p.2⟩,0) else(0,⟨2,(x :: r').take n,w5 ((x :: r').take n),p.1,p.2⟩,n)
  else
   let n:=Uj (x :: r')
   if n=0 then(131,⟨3,[],0,p.1,p.2⟩,0) else(0,⟨3,(x :: r').take n,0,p.1,p.2⟩,n)
def u1 (s:List Nat):Prop:=s≠[]/\∀ c∈s,qf c=true
theorem jbO (p:Nat->Bool):∀ l:List Nat,∀ c∈l.take (qW p l),p c=true
 |[],c,h=>by simp at h
 |y :: l,c,h=>by
  simp only[qW] at h;by_cases hy:p y=true
  ·rw[if_pos hy,Qcu] at h;rcases Qbv.1 h with h|h
   ·rw[h];exact hy
   ·exact jbO p l c h
  ·rw[if_neg hy] at h;simp at h
theorem jcX {x:Nat}{r:List Nat}(h:qf x=true):u1 ((x :: r).take (qW qf (x :: r))):=by
 refine⟨?_,jbO qf _⟩;have:qW qf (x :: r)=qW qf r+1:=by simp only[qW,if_pos h]
 rw[this,Qcu];simp
theorem jjY (s:List Nat):∀ v,(∀ c∈s,qf c=true)->s.foldl (λv c=>10 * v+(c - 48)) v+1<=(v+1) * 10 ^ s.length:=by
 induction s with
 |nil=>exact λv _=>by simp
 |cons c s ih=>
  intro v h;have hc:=h c (by simp);have hc9:c - 48<=9:=by
   unfold qf at hc;simp at hc;omega
  have:=ih (10 * v+(c - 48)) λd hd=>h d (by simp[hd]);refine Qaw this ?_;rw[Qak,Nat.pow_succ,<-Nat.mul_assoc,Nat.mul_right_comm];exact QaM _ (by omega)
theorem jmJ {s:List Nat}{n:Nat}(hn:s.length=n)(h7:n<=7)(h:∀ c∈s,qf c=true):w5 s<=99999999:=by
 have:=jjY s 0 h;have e:10 ^ s.length<=10 ^ 7:=Nat.pow_le_pow_right (by decide) (by omega);have e7:10 ^ 7=10000000:=by decide
 unfold w5;omega
theorem Hp (r:List Nat):∀ xs,Y0 r xs<=r.length
 |[]=>QaG _
 |y :: xs=>by
  show(if begins y r=true then y.length else Y0 r xs)<=r.length;by_cases h:begins y r=true
  ·rw[if_pos h];rcases QaT r.length y.length with h2|h2
   ·rw[gm h2] at h;exact absurd h (by decide)
   ·exact h2
  ·rw[if_neg h];exact Hp r xs
theorem jbi (r:List Nat):Uj r<=r.length:=Hp r _
theorem kw {r:List Nat}{p:Nat×Nat}{e n:Nat}{t:Tk}(h:yS r p=(e,t,n)):n<=r.length:=by
 cases r with
 |nil=>simp[yS] at h;omega
 |cons x r'=>
  unfold yS at h;simp only at h;have h1:=Zq Jb (x :: r');have h2:=Zq qf (x :: r');have h3:=jbi (x :: r');split at h
  ·split at h<;>simp only[Prod.mk.injEq] at h<;>omega
  ·split at h
   ·split at h<;>simp only[Prod.mk.injEq] at h<;>omega
   ·split at h<;>simp only[Prod.mk.injEq] at h<;>omega
theorem jbP {p:Nat->Bool}{x:Nat}{r:List Nat}(h:p x=true):0<qW p (x :: r):=by
 simp only[qW,if_pos h];omega
theorem Kz {r:List Nat}{p:Nat×Nat}{t:Tk}{n:Nat}(h:yS r p=(0,t,n)):(t.kind=5↔n=0)/\(n=0↔r=[]):=by
 cases r with
 |nil=>simp[yS] at h;obtain⟨h1,h2⟩:=h;subst h1 h2;simp
 |cons x r'=>
  unfold yS at h;simp only at h;split at h
  ·rename_i hL;have hp:=jbP (p:=Jb) (r:=r') (show Jb x=true by unfold Jb;rw[hL];rfl);split at h
   ·simp at h
   ·simp only[Prod.mk.injEq] at h;obtain⟨_,h1,h2⟩:=h;subst h1 h2;refine⟨?_,?_⟩
    ·show((if _ then 4 else 1)=5↔_);split<;>constructor<;>intro h<;>omega
    ·constructor
     ·intro h;omega
     ·intro h;simp at h
  ·split at h
   ·rename_i hD;have hp:=jbP (p:=qf) (r:=r') hD;split at h
    ·simp at h
    ·simp only[Prod.mk.injEq] at h;obtain⟨_,h1,h2⟩:=h;subst h1 h2;refine⟨?_,?_⟩
     ·show(2=5↔_);constructor<;>intro h<;>omega
     ·constructor
      ·intro h;omega
      ·intro h;simp at h
   ·split at h
    ·simp at h
    ·rename_i hz;simp only[Prod.mk.injEq] at h;obtain⟨_,h1,h2⟩:=h;subst h1 h2;refine⟨?_,?_⟩
     ·show(3=5↔_);constructor<;>intro h<;>omega
     ·constructor
      ·intro h;exact absurd h hz
      ·intro h;simp at h
def JA (r:List Nat)(p:Nat×Nat):List Tk×(Nat×Nat×Nat):=
 match h:yS (r.drop (qa r)) (qd p (r.take (qa r))) with
 |(e,t,n)=>
  if e≠0 then([],(e,t.line,t.col))
  else if hn:n=0 then([t],(0,0,0))
  else
   let q:=JA ((r.drop (qa r)).drop n) (qd (qd p (r.take (qa r))) ((r.drop (qa r)).take n))
   if q.2.1≠0 then([],q.2) else(t :: q.1,q.2)
termination_by r.length
decreasing_by
 have h1:=kw h;have h2:=UF r;rw[QaR] at h1;rw[QaR,QaR];omega
theorem wX (r:List Nat)(p:Nat×Nat){e n:Nat}{t:Tk}(h:yS (r.drop (qa r)) (qd p (r.take (qa r)))=(e,t,n)):JA r p=if e≠0 then([],(e,t.line,t.col)) else if n=0 then([t],(0,0,0)) else if(JA ((r.drop (qa r)).drop n) (qd (qd p (r.take (qa r))) ((r.drop (qa r)).take n))).2.1≠0 then([],(JA ((r.drop (qa r)).drop n) (qd (qd p (r.take (qa r))) ((r.drop (qa r)).take n))).2) else(t :: (JA ((r.drop (qa r)).drop n) (qd (qd p (r.take (qa r))) ((r.drop (qa r)).take n))).1,(JA ((r.drop (qa r)).drop n) (qd (qd p (r.take (qa r))) ((r.drop (qa r)).take n))).2):=by
 rw[JA];split
 rename_i e' t' n' h';rw[h] at h';simp only[Prod.mk.injEq] at h';obtain⟨rfl,rfl,rfl⟩:=h';split
 ·rfl
 ·split<;>rfl
def ahead (acc:List Tk)(q:List Tk×(Nat×Nat×Nat)):List Tk×(Nat×Nat×Nat):=if q.2.1≠0 then([],q.2) else(acc ++ q.1,q.2)
def qo (l:List Nat):List Tk×(Nat×Nat×Nat):=if 65536<l.length then([],(132,1,1)) else JA l (1,1)
theorem jiD (r:List Nat)(p:Nat×Nat):ahead [] (JA r p)=JA r p:=by
 unfold ahead;generalize hx:yS (r.drop (qa r)) (qd p (r.take (qa r)))=x;obtain⟨e,t,n⟩:=x;rw[wX r p hx];by_cases he:e≠0
 ·rw[if_pos he];simp[he]
 ·rw[if_neg he];by_cases hn:n=0
  ·rw[if_pos hn];simp
  ·rw[if_neg hn];generalize JA _ _=q;by_cases hq:q.2.1≠0
   ·rw[if_pos hq];simp[hq]
   ·rw[if_neg hq];show(if q.2.1≠0 then _ else _)=_;rw[if_neg hq];rfl
theorem jiE {acc:List Tk}{r:List Nat}{p:Nat×Nat}{e n:Nat}{t:Tk}(h:yS (r.drop (qa r)) (qd p (r.take (qa r)))=(e,t,n))(he:e≠0):ahead acc (JA r p)=([],(e,t.line,t.col)):=by
 rw[wX r p h,if_pos he];unfold ahead;rw[if_pos he]
theorem jiF {acc:List Tk}{r:List Nat}{p:Nat×Nat}{t:Tk}(h:yS (r.drop (qa r)) (qd p (r.take (qa r)))=(0,t,0)):ahead acc (JA r p)=(acc ++ [t],(0,0,0)):=by
 rw[wX r p h,if_neg (by decide),if_pos rfl];rfl
theorem jf0 {acc:List Tk}{r:List Nat}{p:Nat×Nat}{n:Nat}{t:Tk}(h:yS (r.drop (qa r)) (qd p (r.take (qa r)))=(0,t,n))(hn:n≠0):ahead acc (JA r p)=ahead (acc ++ [t]) (JA ((r.drop (qa r)).drop n) (qd (qd p (r.take (qa r))) ((r.drop (qa r)).take n))):=by
 rw[wX r p h,if_neg (by decide),if_neg hn];generalize JA _ _=q;unfold ahead;by_cases hq:q.2.1≠0
 ·rw[if_pos hq,if_pos hq];simp[hq]
 ·rw[if_neg hq,if_neg hq];show _=(if q.2.1≠0 then _ else _);rw[if_neg hq];simp
end Go.Sy
end
noncomputable section
set_option maxRecDepth 100000
namespace Go.Sy
open Go.Ev Go.Proofs
def jjC:XC:=(Oi [On 2] [Iv 3,IJ 4 .leq (.c (.int .u8 97)) 3,OY 5,I3 6 5 0,Ic 7 5 (OW .leq 6 .u8 122),Td 8 5 7,ou 9 8,IL 10 9 0,Ib 11 9 (.bin .leq (.c (.int .u8 65)) 10),IL 12 9 11,I3 13 12 0,Ic 14 12 (OW .leq 13 .u8 90),Ib 15 9 (.pick 12 14 oY),Im 16 9 Ih 15,OI 16])
def joN:XF:=⟨[0],jjC,[(.t 2)]⟩
theorem js2:jy Qaf 113=some joN:=by kernel_rfl
def jjz:XC:=(Oi [On 2] [Iv 3,IJ 4 .leq (.c (.int .u8 48)) 3,OY 5,I3 6 5 0,Ic 7 5 (OW .leq 6 .u8 57),Td 8 5 7,OI 8])
def joK:XF:=⟨[0],jjz,[(.t 2)]⟩
theorem jsZ:jy Qaf 116=some joK:=by kernel_rfl
def jjB:XC:=(Oi [On 2] [Iv 3,I6 4 113 3,OY 5,IL 6 5 0,Oq 7 (5,false) 116 [] [6],Im 8 5 Ih 7,ou 9 8,IL 10 9 0,Ib 11 9 (OW .eql 10 .u8 95),Im 12 9 Ih 11,OI 12])
def joM:XF:=⟨[0],jjB,[(.t 2)]⟩
theorem js1:jy Qaf 114=some joM:=by kernel_rfl
def jjA:XC:=(I7 [On 2] (oj [oq 3 0] (.block 0 (.seq (O6 (O5 5 3 [101,110,117,109]) 4 5 4 (O6 (O5 6 3 [118,97,114]) 4 6 4 (O6 (O5 7 3 [98,111,111,108]) 4 7 4 (O6 (O5 8 3 [112,114,111,99,101,115,115]) 4 8 4 (O6 (O5 9 3 [119,104,101,110]) 4 9 4 (O6 (O5 10 3 [100,111]) 4 10 4 (O6 (O5 11 3 [116,114,117,101]) 4 11 4 (O6 (O5 12 3 [102,97,108,115,101]) 4 12 4 (O6 (O5 13 3 [88]) 4 13 4 (O6 (O5 14 3 [70]) 4 14 4 (O6 (O5 15 3 [71]) 4 15 4 (O6 (O5 16 3 [85]) 4 16 4 (O6 (O5 17 3 [82]) 4 17 4 (O6 (O5 18 3 [89]) 4 18 4 (O6 (O5 19 3 [90]) 4 19 4 (O6 (O5 20 3 [79]) 4 20 4 (O6 (O5 21 3 [72]) 4 21 4 (O6 (O5 22 3 [83]) 4 22 4 (IG (O5 23 3 [84]) 4 23))))))))))))))))))) (O3 4 [OI Ih] .skip)))) [On 2])
def joL:XF:=⟨[0],jjA,[(.t 2)]⟩
theorem js0:jy Qaf 115=some joL:=by kernel_rfl
def jjG:XC:=(Oi [On 2] [Iv 3,oi 4 (OW .eql 3 .u8 32),OY 5,IL 6 5 0,Ib 7 5 (OW .eql 6 .u8 9),Im 8 5 Ih 7,ou 9 8,IL 10 9 0,Ib 11 9 (OW .eql 10 .u8 10),Im 12 9 Ih 11,OI 12])
def joR:XF:=⟨[0],jjG,[(.t 2)]⟩
theorem js6:jy Qaf 109=some joR:=by kernel_rfl
def jjE:XC:=(Oi [On 2] [Iv 3,oi 4 (OW .neq 3 .u8 10),OI 4])
def joP:XF:=⟨[0],jjE,[(.t 2)]⟩
theorem js4:jy Qaf 111=some joP:=by kernel_rfl
def jjH:XC:=(I7 [IQ 4] (Ot [Iv 6,om 7 (.lenS 6),IQ 8] 0 [I5 9 8 7] 9 0 1 (IE (ou 10 8) 5 10) (Iu [OM 11,Iv 12,OV 13,oi 14 (.ixStr 12 13),oL 15 none 11 [14],om 16 (IM 15)] 16 (IE (OV 17) 4 17)) 18 8 1 8 18) [Iv 19,oi 20 (.lenS 19),ON 20])
def joS:XF:=⟨[0,1],jjH,[(.t 4)]⟩
theorem js7:jy Qaf 108=some joS:=by kernel_rfl
def jjn:XC:=(Oi [O7] [Iv 5,oi 6 (.lenS 5),OM 7,oi 8 (.lenS 7),IJ 9 .geq 6 8,ou 10 9,I3 11 10 0,I3 12 10 1,Ic 13 10 (.lenS 12),Ic 14 10 (.slStr 11 none (some 13)),I3 15 10 1,Ic 16 10 (.strb .eql 14 15),Td 17 10 16,ON 17])
def jox:XF:=⟨[0,1],jjn,[(.t 4)]⟩
theorem jsM:jy Qaf 139=some jox:=by kernel_rfl
def jjF:XC:=(Oi [O7] [Iv 5,OM 6,Os 7 139 5 6,ON 7])
def joQ:XF:=⟨[0,1],jjF,[(.t 4)]⟩
theorem js5:jy Qaf 110=some joQ:=by kernel_rfl
def jjl:XC:=(Oi [On 3] [oz 4 1,Iv 5,Os 6 110 4 5,oq 3 6])
def jov:XF:=⟨[0,1],jjl,[(.t 3)]⟩
theorem jsK:jy Qaf 143=some jov:=by kernel_rfl
def jjm:XC:=(I7 [IQ 4] (Ot [Iv 6,IP 7 6,IQ 8] 0 [I5 9 8 7] 9 0 1 (IE (ou 10 8) 5 10) (Iu [OM 11,Iv 12,OV 13,Ii 14 1 12 13,oz 15 14,oC 16 true none 11 [15]] 16 (IE (OV 17) 4 17)) 18 8 1 8 18) [Or 4 (-(0+1))])
def jow:XF:=⟨[0,1],jjm,[(.t 4)]⟩
theorem jsL:jy Qaf 142=some jow:=by kernel_rfl
def jjy:XC:=(OQ [IB 1 0,IQ 2] [Ir 5 [oB,oB,oB,oB,oB,oB,oB,oB,oB,oB,oB,oB,oB,oB,oB,oB,oB,oB,oB,oB,oB,oB,oB] [IY 0 [60,45,62],IY 1 [46,46],IY 2 [58,61],IY 3 [33,61],IY 4 [60,61],IY 5 [62,61],IY 6 [45,62],Oo 7 123,Oo 8 125,Oo 9 40,Oo 10 41,Oo 11 58,Oo 12 44,Oo 13 59,Oo 14 61,Oo 15 60,Oo 16 62,Oo 17 43,Oo 18 45,Oo 19 42,Oo 20 33,Oo 21 38,Oo 22 124],o4 3 [oB,oB,oB,oB,oB,oB,oB,oB,oB,oB,oB,oB,oB,oB,oB,oB,oB,oB,oB,oB,oB,oB,oB],o3 23 3 5] (I7 [oi 6 (.slA 23 1 3 none none),oi 7 (.fn 143 [1]),Os 8 142 6 7,ON 8] (Iu [OY 9,O4 10 .lss 9] 10 [IQ 2]) [OY 11,Ob 12 23 1 3 11,oz 13 12,oi 14 (.lenS 13),OI 14]))
def joJ:XF:=⟨[0],jjy,[(.t 2)]⟩
theorem jsY:jy Qaf 118=some joJ:=by kernel_rfl
def jjD:XC:=(.seq (.seq (.cops [Th 6,Iw (Is 7 6),Iw (Ov 8 7),OK 9 8,Th 10,Iw (Is 11 10),Iw (OP 12 11),OK 13 12,Th 14,Iw (Is 15 14),Iw (OP 16 15),OK 17 16,Iw (OM 18),Iw (IJ 19 .add 17 18),Iw (oi 20 (.slStr 9 (some 13) (some 19))),Iw (om 21 (.conv 9 125 20)),Iw (IP 22 21),Iw (IQ 23)]) (Ig 0 (Of [I5 24 23 22] 24 0 1 (OQ [Ii 25 1 21 23,oz 26 25,oq 5 26] [Iv 27,Is 28 27,OS 29 28,oz 30 29,IK 31 30 1,Is 32 27,OS 33 32,o3 1 33 31] (Oj [OV 34,om 35 (OW .eql 34 .u8 10)] 35 [Iv 36,Iv 37,Iv 38,Is 39 38,ow 40 2 39,oz 41 40,IK 42 41 1,Is 43 36,ow 44 2 43,o3 1 44 42,Is 45 37,OS 46 45,o3 1 46 OG])) 47 23 1 23 47))) (.ops [Iv 48,Is 49 48,OP 50 49,oz 51 50,OM 52,IJ 53 .add 51 52,Is 54 48,OP 55 54,o3 1 55 53]))
def joO:XF:=⟨[0,1],jjD,[]⟩
theorem js3:jy Qaf 112=some joO:=by kernel_rfl
def z74:XC:=(Ig 0 (.block 1 (.seq (.cops [Th 4,Iw (Is 5 4),Iw (Ov 6 5),OK 7 6,Th 8,Iw (Is 9 8),Iw (OP 10 9),OK 11 10,Iw (oi 12 (.slStr 7 (some 11) none)),Iw (OI 12)]) (o0 [ou 13 2,Os 14 108 13 (oJ 109 []),oq 3 14] (Oj [ou 15 3,O1 16 .eql 15,ou 17 16,I3 18 17 2,Oq 19 (17,true) 110 [] [18,oM [47,47]],IV 20 17 19 oY] 20 [ou 21 2,Os 22 108 21 (oJ 111 []),oq 3 22]) (.seq (o8 [ou 23 3,O4 24 .eql 23] 24 .ret) (.ops [Iv 25,ou 26 3,Os 27 112 25 26]))))))
def y74:XF:=⟨[0],z74,[]⟩
theorem x74:jy Qaf 84=some y74:=by kernel_rfl
def z75:XC:=(o0 [o4 2 [ov,oB,ov,ov,ov],IQ 3] (.cops [Th 9,Iw (Is 10 9),Iw (Ov 11 10),OK 12 11,Th 13,Iw (Is 14 13),Iw (OP 15 14),OK 16 15,Iw (oi 17 (.slStr 12 (some 16) none)),Iw (ON 17)]) (.seq (.cops [Th 18,Iw (Is 19 18),Iw (ow 20 2 19),OK 21 20,Th 22,Iw (Is 23 22),Iw (OS 24 23),OK 25 24,Iw (Ir 26 [ov,oB,ov,ov,ov] [((0,1),II 5),((3,1),21),((4,1),25)]),Iw (o4 5 [ov,oB,ov,ov,ov]),Iw (o3 5 5 26)]) (o0 [IQ 6] (.block 0 (oG [OY 34,OH 35 34 (.c oB),oq 33 35] 33 (oX [oS 36 5 5,o3 5 2 36,IQ 3]) (oG [OY 38,oi 39 (.ixStr 38 Ol),I6 40 113 39,oq 37 40] 37 (Ou [OY 41,Os 42 108 41 (oJ 114 []),oq 6 42,Ov 43 5,o3 1 43 OG] [Tg 44,OJ 45 .gtr 44 32] 45 [oS 46 5 5,o3 5 2 46,Or 3 132] (Oj [OY 47,Tg 48,oi 49 (.slStr 47 none (some 48)),oC 50 true none (oJ 115 []) [49]] 50 [Ov 51 5,o3 1 51 (II 4)])) (oG [OY 53,oi 54 (.ixStr 53 Ol),I6 55 116 54,oq 52 55] 52 (oj [OY 56,Os 57 108 56 (oJ 116 []),oq 6 57,Ov 58 5,o3 1 58 (II 2)] (Ou [OY 60,Tg 61,oi 62 (.slStr 60 none (some 61)),Id 63 117 [62,II 10,II 64],ou 59 63,Ij 64 59 0,Ij 65 59 1,oq 7 64,oq 8 65] [Tg 66,o6 67 .gtr 66 7,ou 68 67,IL 69 68 8,Ib 70 68 (.gen .neq 191 true 69 (.c .nilif)),Im 71 68 Ih 70,ou 72 71,IL 73 72 7,OU 74 72 .gtr 73 1000000,IV 75 72 Ih 74] 75 [oS 76 5 5,o3 5 2 76,Or 3 132] (.ops [ou 77 7,ow 78 2 5,o3 1 78 77]))) (oj [OY 27,I6 28 118 27,oq 6 28,Ov 29 5,o3 1 29 (II 3)] (Iu [Tg 30,O4 31 .eql 30] 31 [oS 32 5 5,o3 5 2 32,Or 3 131])))))) (oj [OY 79,Tg 80,oi 81 (.slStr 79 none (some 80)),OP 82 5,o3 1 82 81] (Oi [Iv 83,Tg 84,Os 85 112 83 84] [oS 86 5 5,o3 5 2 86,IQ 3])))))
def y75:XF:=⟨[0],z75,[(.cA 2 5),(.t 3)]⟩
theorem x75:jy Qaf 85=some y75:=by kernel_rfl
def z35:XC:=(Ou [Te 2,o4 3 [ov,ov,ov]] [Iv 8,oi 9 (.lenS 8),OJ 10 .gtr 9 65536] 10 [Ir 11 [ov,ov,ov] [((0,1),II 132),((1,1),OG),((2,1),OG)],Te 2,o3 3 3 11] (oj [Iv 12,Ir 13 [oB,ov,ov,ov] [((0,1),12),((2,1),OG),((3,1),OG)],oi 14 (.box 13),ON 14] (IS [Te 5] 0 (.block 1 (oj [OY 15,I6 16 84 15] (o0 [OY 18,I6 19 85 18,ou 17 19,Ij 20 17 0,Ij 21 17 1,o4 6 [ov,oB,ov,ov,ov],o3 5 6 20,oq 7 21] (o8 [ou 22 7,O4 23 .neq 22] 23 (.seq (.cops [Iw (ou 24 7),Iw (OS 25 6),OK 26 25,Iw (ow 27 4 6),OK 28 27,Iw (Ir 29 [ov,ov,ov] [((0,1),24),((1,1),26),((2,1),28)]),Iw (Te 2),Iw (o3 3 3 29)]) .ret)) (oj [OV 30,oS 31 5 6,Io 32 1 5 [ov,oB,ov,ov,ov] [((0,5),31)],OL 33 5 48 30 32,oq 5 33] (Iu [Ov 34 6,oz 35 34,OJ 36 .eql 35 5] 36 [OV 37,Ir 38 [ov,ov,ov] [],OI 37,o3 3 3 38]))))))))
def y35:XF:=⟨[0],z35,[(.t 2),(.cA 3 3)]⟩
theorem x35:jy Qaf 64=some y35:=by kernel_rfl
end Go.Sy
end
noncomputable section
set_option maxRecDepth 100000
namespace Go.Sy
open Go.Ev Go.Proofs
variable {base:Bs}
theorem kz (hb:NB base)(c:Nat):Tot base 113 [.int .u8 (c:Int)] (.bool (zM c)):=by
 refine hb.tot ?_ rfl rfl;refine jE js2 (by rfl) (hb.pur 113 1 (by decide)) ?_;simp only[joN,jt,Qai,Qaj,Qag,Qah];rw[(by unfold jjC;simp only[qq];rfl:jjC=_)];repeat'(first|(apply jc<;>intro _)|simp(disch:=first|exact dzA|fail) only[rzZ,Qab,Qac,Qad,Qaa,Qae])
 all_goals(refine G0.v (congrArg AV.bool ?_) rfl;rw[QaW];simp only[zM,QaX,Qar,decide_eq_true_eq,Qbc,QbK,Qbb,decide_eq_false_iff_not,true_iff,false_iff,iff_true,iff_false,not_true_eq_false,not_false_eq_true,ne_eq,eq_self]<;>omega)
theorem jd6 (hb:NB base)(c:Nat):Tot base 116 [.int .u8 (c:Int)] (.bool (qf c)):=by
 refine hb.tot ?_ rfl rfl;refine jE jsZ (by rfl) (hb.pur 116 1 (by decide)) ?_;simp only[joK,jt,Qai,Qaj,Qag,Qah];rw[(by unfold jjz;simp only[qq];rfl:jjz=_)];repeat'(first|(apply jc<;>intro _)|simp(disch:=first|exact dzA|fail) only[rzZ,Qab,Qac,Qad,Qaa,Qae])
 all_goals(refine G0.v (congrArg AV.bool ?_) rfl;rw[QaW];simp only[qf,QaX,Qar,decide_eq_true_eq,Qbc,QbK,Qbb,decide_eq_false_iff_not,true_iff,false_iff,iff_true,iff_false,not_true_eq_false,not_false_eq_true,ne_eq,eq_self]<;>omega)
theorem jdM (hb:NB base)(c:Nat):Tot base 114 [.int .u8 (c:Int)] (.bool (Jb c)):=by
 refine hb.tot ?_ rfl rfl;refine jE js1 (by rfl) (hb.pur 114 1 (by decide)) ?_;simp only[joM,jt,Qai,Qaj,Qag,Qah];rw[(by unfold jjB;simp only[qq];rfl:jjB=_)];repeat'(first|(apply jc<;>intro _)|simp(disch:=first|exact dzA|fail) only[kz hb,jd6 hb,rzZ,Qab,Qac,Qad,Qaa,Qae])
 all_goals(refine G0.v (congrArg AV.bool ?_) rfl;unfold Jb;simp_all;try omega)
theorem jnF (hb:NB base)(c:Nat):Tot base 109 [.int .u8 (c:Int)] (.bool (YC c)):=by
 refine hb.tot ?_ rfl rfl;refine jE js6 (by rfl) (hb.pur 109 1 (by decide)) ?_;simp only[joR,jt,Qai,Qaj,Qag,Qah];rw[(by unfold jjG;simp only[qq];rfl:jjG=_)];repeat'(first|(apply jc<;>intro _)|simp(disch:=first|exact dzA|fail) only[rzZ,Qab,Qac,Qad,Qaa,Qae])
 all_goals(refine G0.v (congrArg AV.bool ?_) rfl;rw[QaW];simp only[YC,QaX,Qar,decide_eq_true_eq,Qbc,QbK,Qbb,decide_eq_false_iff_not,true_iff,false_iff,iff_true,iff_false,not_true_eq_false,not_false_eq_true,ne_eq,eq_self]<;>omega)
theorem jks (hb:NB base)(c:Nat):Tot base 111 [.int .u8 (c:Int)] (.bool (Ky c)):=by
 refine hb.tot ?_ rfl rfl;refine jE js4 (by rfl) (hb.pur 111 1 (by decide)) ?_;simp only[joP,jt,Qai,Qaj,Qag,Qah];rw[(by unfold jjE;simp only[qq];rfl:jjE=_)];repeat'(first|(apply jc<;>intro _)|simp(disch:=first|exact dzA|fail) only[rzZ,Qab,Qac,Qad,Qaa,Qae])
 all_goals(refine G0.v (congrArg AV.bool ?_) rfl;rw[QaW];simp only[Ky,QaX,Qar,decide_eq_true_eq,Qbc,QbK,Qbb,decide_eq_false_iff_not,true_iff,false_iff,iff_true,iff_false,not_true_eq_false,not_false_eq_true,ne_eq,eq_self]<;>omega)
theorem jiM (hb:NB base)(l:List Nat):Tot base 115 [.str l] (.bool (hZ l)):=by
 refine hb.tot ?_ rfl rfl;refine jE js0 (by rfl) (hb.pur 115 1 (by decide)) ?_;simp only[joL,jt,Qai,Qaj,Qag,Qah];rw[(by unfold jjA;simp only[qq];rfl:jjA=_)];repeat'(first|(apply jc<;>intro _)|simp(disch:=first|exact dzA|fail) only[rzZ,Qab,Qac,Qad,Qaa,Qae])
 all_goals(refine G0.v ?_ rfl;unfold hZ UA;simp[*])
def Pt (base:Bs)(f:FuncId)(p:Nat->Bool):Prop:=∀ c:Nat,Tot base f [.int .u8 (c:Int)] (.bool (p c))
theorem Kh (hb:NB base)(l:List Nat)(hl:l.length<=4611686018427387904){f:FuncId}{p:Nat->Bool}(hf:Pt base f p):Tot base 108 [.str l,.fn f []] (.int .i64 (qW p l)):=by
 refine hb.tot ?_ rfl rfl;refine jE js7 (by rfl) (hb.pur 108 1 (by decide)) ?_;simp only[joS,jt,Qai,Qaj,Qag,Qah];rw[(by unfold jjH;simp only[qq];rfl:jjH=_)];repeat'(first|(apply jc<;>intro _)|simp(disch:=first|exact dzA|fail) only[rzZ,Qab,Qac,Qad,Qaa,Qae])
 refine qb l.length (λk L s=>(∀ j,j<k->p (l.getD j 0)=true)/\Has L 0 (.str l)/\Has L 1 (.fn f [])) (by first|assumption|omega) (by decide) (by simp(disch:=decide) only[jf,jb]) (by simp(disch:=decide) only[jf,jb]) ?_ (λk L s v h=>by simp(disch:=decide) only[jb];exact h) (λk L s v h=>by simp(disch:=decide) only[jb];exact h) (λk L s hk hI hi hn=>?_) (λL s hI=>?_)
 ·refine⟨λj hj=>absurd hj (QaZ _),?_⟩;simp(disch:=decide) only[Qam,Qaq,z0,z1,jf,jb,and_true,true_and]
 ·obtain⟨h0,i0,i1⟩:=hI;repeat'(first|(apply jc<;>intro _)|simp(disch:=first|exact dzA|fail) only[ja i0,ja i1,ja hi,hf (l.getD k 0),rzZ,Qab,Qac,Qad,Qaa,Qae])
  ·exact G0.v (by rw[Uz (Qcx hk) h0 (.inr ‹_›)]) rfl
  ·refine⟨⟨λj hj=>?_,?_⟩,?_⟩
   ·rcases QaT j k with h|h
    ·exact h0 j h
    ·rw[show j=k by omega];simpa using ‹¬ p (l.getD k 0)=false›
   ·simp(disch:=decide) only[Qam,Qaq,z0,z1,jf,jb,and_true,true_and,i0,i1]
   ·simp(disch:=decide) only[Qam,Qaq,z0,z1,jf,jb,and_true,true_and,hi,hn]
 ·obtain⟨h0,i0,i1⟩:=hI;repeat'(first|(apply jc<;>intro _)|simp(disch:=first|exact dzA|fail) only[ja i0,rzZ,Qab,Qac,Qad,Qaa,Qae])
  exact G0.v (by rw[Uz (Qao _) h0 (.inl rfl)]) rfl
theorem jrd (hb:NB base)(l q:List Nat)(hl:l.length<=4611686018427387904):Tot base 139 [.str l,.str q] (.bool (begins q l)):=by
 refine hb.tot ?_ rfl rfl;refine jE jsM (by rfl) (hb.pur 139 1 (by decide)) ?_;simp only[jox,jt,Qai,Qaj,Qag,Qah];rw[(by unfold jjn;simp only[qq];rfl:jjn=_)];repeat'(first|(apply jc<;>intro _)|simp(disch:=first|exact dzA|fail) only[rzZ,Qab,Qac,Qad,Qaa,Qae])
 ·exact G0.v rfl rfl
 ·exact G0.v (by rw[gm (by omega)]) rfl
theorem U2 (hb:NB base)(l q:List Nat)(hl:l.length<=4611686018427387904):Tot base 110 [.str l,.str q] (.bool (begins q l)):=by
 refine hb.tot ?_ rfl rfl;refine jE js5 (by rfl) (hb.pur 110 1 (by decide)) ?_;simp only[joQ,jt,Qai,Qaj,Qag,Qah];rw[(by unfold jjF;simp only[qq];rfl:jjF=_)];repeat'(first|(apply jc<;>intro _)|simp(disch:=first|exact dzA|fail) only[jrd hb l q hl,rzZ,Qab,Qac,Qad,Qaa,Qae])
 exact G0.v rfl rfl
end Go.Sy
end
noncomputable section
set_option maxRecDepth 100000
namespace Go.Sy
open Go.Ev Go.Proofs
variable {base:Bs}
theorem Cl.bar {s:St}{b:Nat}{cs:List AV}(h:Cl s b cs):Cl s.bare b cs:=⟨h.lt,h.row,h.len,h.cell⟩
theorem jgV (hb:NB base)(r x:List Nat)(hr:r.length<=4611686018427387904){st:St}{b:Nat}(C:Cl st b [.str r])(K Kp:AV->St->Prop):XB Qaf base 143 [.str x,.ptr b 0] st K Kp=K (.bool (begins x r)) st:=by
 refine jeD (λK Kp hK=>?_) K Kp;refine zW jsK (by rfl) (hb.at0 143 (by decide) (by decide) _ _) ?_;simp only[jov,jt,Qai,Qaj,Qag,Qah];rw[(by unfold jjl;simp only[qq];rfl:jjl=_)];have C:=C.bar;have hbk:bk st st.bare=st:=rfl;have hbc:back st st.bare=st:=rfl;have hbb:st.bare.bare=st.bare:=rfl;generalize st.bare=s0 at *
 (have zz:=C.r;(repeat'(first|(apply jc<;>intro _)|simp(disch:=first|exact vw|fail) only[U2 hb r x hr,hbk,hbc,hbb,C.q,C.r,rzZ,Qab,Qac,Qad,Qaa,Qae]));(all_goals(clear zz)))
 exact hK
theorem jnT (hb:NB base){xs:List (List Nat)}(hn:xs.length<=1000000)(f:FuncId)(caps:List AV)(q:List Nat->Bool){st:St}{b c:Nat}{x:Bool}(C:Cl st b (xs.map .str))
  (hq:∀ y K Kp,XB Qaf base f (.str y :: caps) st.bare K Kp=K (.bool (q y)) st.bare) (K Kp:AV->St->Prop):XB Qaf base 142 [.slice b 0 xs.length c 1 x,.fn f caps] st K Kp=K (.int .i64 (fi q xs)) st:=by
 refine jeD (λK Kp hK=>?_) K Kp;refine zW jsL (by rfl) (hb.at0 142 (by decide) (by decide) _ _) ?_;simp only[jow,jt,Qai,Qaj,Qag,Qah];rw[(by unfold jjm;simp only[qq];rfl:jjm=_)];have C:=C.bar;have hbk:bk st st.bare=st:=rfl;have hbc:back st st.bare=st:=rfl;have hbb:st.bare.bare=st.bare:=rfl;generalize st.bare=s0 at *;have hl:(xs.map AV.str).length=xs.length:=QaP ..;repeat'(first|(apply jc<;>intro _)|simp(disch:=first|exact dzA|fail) only[rzZ,Qab,Qac,Qad,Qaa,Qae])
 refine qb xs.length (λk L s=>s=s0/\(∀ j (h1:j<xs.length),j<k->q xs[j]=false)/\Has L 0 (.slice b 0 xs.length c 1 x)/\Has L 1 (.fn f caps)) (by first|assumption|omega) (by decide) (by simp(disch:=decide) only[jf,jb]) (by simp(disch:=decide) only[jf,jb]) ?_ (λk L s v h=>by simp(disch:=decide) only[jb];exact h) (λk L s v h=>by simp(disch:=decide) only[jb];exact h) (λk L s hk hI hi hn=>?_) (λL s hI=>?_)
 ·refine⟨rfl,λj _ hj=>absurd hj (QaZ _),?_⟩;simp(disch:=decide) only[Qam,Qaq,z0,z1,jf,jb,and_true,true_and]
 ·obtain⟨rfl,h0,i0,i1⟩:=hI;have e:(xs.map AV.str).getD k .bad=.str xs[k]:=by simp[QaN,hk]
  (have zz:=C.r;(repeat'(first|(apply jc<;>intro _)|simp(disch:=first|exact vw|fail) only[ja i0,ja i1,ja hi,hq,hl,e,hbk,hbc,hbb,C.q,C.r,rzZ,Qab,Qac,Qad,Qaa,Qae]));(all_goals(clear zz)))
  ·rw[uc hk (λj hj=>h0 j (by omega) hj) ‹_›] at hK;exact hK
  ·refine⟨⟨λj h1 hj=>?_,?_⟩,?_⟩
   ·rcases QaT j k with h|h
    ·exact h0 j h1 h
    ·have:j=k:=by omega
     subst this;simpa using ‹¬ q xs[j]=true›
   ·simp(disch:=decide) only[Qam,Qaq,z0,z1,jf,jb,and_true,true_and,i0,i1]
   ·simp(disch:=decide) only[Qam,Qaq,z0,z1,jf,jb,and_true,true_and,hi,hn]
 ·obtain⟨rfl,h0,i0,i1⟩:=hI;repeat'(first|(apply jc<;>intro _)|simp(disch:=first|exact dzA|fail) only[hbk,hbc,hbb,rzZ,Qab,Qac,Qad,Qaa,Qae])
  rw[ub λj hj=>h0 j hj hj] at hK;exact hK
theorem Hq (r:List Nat):∀ xs:List (List Nat),(fi (λx=>begins x r) xs<0/\Y0 r xs=0)\/∃ k,∃ h:k<xs.length,fi (λx=>begins x r) xs=k/\Y0 r xs=xs[k].length
 |[]=>.inl ⟨by show(-1:Int)<0;decide,rfl⟩
 |y :: xs=>by
  by_cases h:begins y r=true
  ·exact .inr ⟨0,by simp,by simp[fi,h],by simp[Y0,h]⟩
  ·rcases Hq r xs with ⟨h1,h2⟩|⟨k,hk,h1,h2⟩
   ·exact .inl ⟨by simp[fi,h,h1],by simp[Y0,h,h2]⟩
   ·exact .inr ⟨k+1,by simpa using hk,by simp[fi,h,h1];omega,by simp[Y0,h,h2]⟩
theorem jkc {k:Nat}(h:k<YQ.length):(YQ.map AV.str).getD k .bad=.str YQ[k]:=by simp[QaN,h]
theorem jpC (hb:NB base)(r:List Nat)(hr:r.length<=4611686018427387904):Tot base 118 [.str r] (.int .i64 (Uj r)):=by
 refine hb.tot ?_ rfl rfl;refine jE jsY (by rfl) (hb.pur 118 1 (by decide)) ?_;simp only[joJ,jt,Qai,Qaj,Qag,Qah];rw[(by unfold jjy;simp only[qq];rfl:jjy=_)];repeat'(first|(apply jc<;>intro _)|simp(disch:=first|exact dzA|fail) only[rzZ,Qab,Qac,Qad,Qaa,Qae])
 refine XB.gen λu hu=>?_;have C0:Cl u 0 [.str r]:=by rw[hu];exact((Cl.new st0 [.str r]).nw _).wrO (by decide) _ _
 have C1:Cl u 1 (YQ.map .str):=by rw[hu];exact(Cl.new (nw st0 _) _).wr0 rfl
 clear hu;rw[show(23:Nat)=YQ.length from rfl,jnT hb (xs:=YQ) (by decide) 143 [.ptr 0 0] (λx=>begins x r) C1 λy K Kp=>jgV hb r y hr C0.bar K Kp];unfold Uj;rcases Hq r YQ with ⟨h1,h2⟩|⟨k,hk,h1,h2⟩
 ·repeat'(first|(apply jc<;>intro _)|simp(disch:=first|exact dzA|fail) only[rzZ,Qab,Qac,Qad,Qaa,Qae])
  exact G0.v (by rw[h2];rfl) rfl
 ·have hk':k<23:=hk;have e:=jkc hk;have e2:qt u.h 1=23:=C1.len;have e3:rat u.h 1 k=.str YQ[k]:=(C1.cell k (by rw[QaP];exact hk)).trans e;repeat'(first|(apply jc<;>intro _)|simp(disch:=first|exact dzA|fail) only[h1,e2,e3,rzZ,Qab,Qac,Qad,Qaa,Qae])
  refine G0.v ?_ rfl;rw[h2]<;>rfl
def cC (l:List Nat)(a:Nat)(p:Nat×Nat):List AV:=[.str l,.int .i64 (a:Int),.int .i64 (p.1:Int),.int .i64 (p.2:Int)]
theorem u9:Tryz.prog.underlying 9=some .string:=by kernel_rfl
theorem jtg:Tryz.prog.underlying 125=some (.slice 5):=by kernel_rfl
theorem u5:Tryz.prog.underlying 5=some (.int .u8):=by kernel_rfl
theorem jgU (hb:NB base){l:List Nat}{a n:Nat}{p:Nat×Nat}(hn:a+n<=l.length)(hl:l.length<=1073741824)(h1:p.1<=1073741824)(h2:p.2<=1073741824)(hc:1<=p.2) :
  Met Qaf base 112 (cC l a p) [.int .i64 (n:Int)] (.ok (.tup [])) (cC l (a+n) (qd p ((l.drop a).take n))):=by
 refine PM.met ?_ rfl λp st=>hb.no 112 (by decide) _ _;refine j2 js3 (by rfl) (hb.pur 112 3 (by decide)) rfl ?_;simp only[joO,jt,Qai,Qaj,Qag,Qah];rw[(by unfold jjD;simp only[qq];rfl:jjD=_)];have hbs:((l.drop a).take n).length=n:=by rw[QaH,QaR];omega
 have e1:((a:Int)+(n:Int) - (a:Int)).toNat=n:=by omega
 unfold cC at *;repeat'(first|(apply jc<;>intro _)|simp(disch:=first|exact dzA|fail) only[jnM u9 jtg u5,e1,hbs,rzZ,Qab,Qac,Qad,Qaa,Qae])
 generalize (l.drop a).take n=bs at *;refine qb n (λk L s=>Cl s 0 (cC l a (qd p (bs.take k)))/\Cl s 1 (bs.map λ(c:Nat)=>.int .u8 (c:Int))/\Has L 0 (.ptr 0 0)/\Has L 1 (.int .i64 (n:Int))/\Has L 21 (.slice 1 0 n n 1 false)) (by first|assumption|omega) (by decide) (by simp(disch:=decide) only[jf,jb]) (by simp(disch:=decide) only[jf,jb]) ?_ (λk L s v h=>by simp(disch:=decide) only[jb];exact h) (λk L s v h=>by simp(disch:=decide) only[jb];exact h) (λk L s hk hI hi hn=>?_) (λL s hI=>?_)
 ·refine⟨(Cl.new st0 (cC l a p)).nw _,Cl.new (nw st0 _) _,?_⟩;simp(disch:=decide) only[Qam,Qaq,z0,z1,jf,jb,and_true,true_and]
 ·obtain⟨C0,C1,i0,i1,i21⟩:=hI;have hk':k<bs.length:=by omega
  have e2:rat s.h 1 k=.int .u8 ((bs[k]:Nat):Int):=(C1.cell k (by rw[QaP];exact hk')).trans (by simp[QaN,hk']);have e3:qt s.h 1=n:=by rw[C1.len,QaP];exact hbs
  have hw:=Wf (bs.take k) p hc;have e4:qd p (bs.take (k+1))=YO (qd p (bs.take k)) bs[k]:=by rw[yE hk',GA];rfl
  rw[QaH] at hw;generalize qd p (bs.take k)=q at *;rw[e4];have L0:=C0.lt;have L1:=C1.lt;unfold cC at *
  (have zz:=C0.r;(repeat'(first|(apply jc<;>intro _)|simp(disch:=first|exact vw|fail) only[ja i0,ja i1,ja i21,ja hi,e2,e3,C0.q,C0.r,rzZ,Qab,Qac,Qad,Qaa,Qae]));(all_goals(clear zz)))
  ·refine⟨⟨?_,?_,?_⟩,?_⟩
   ·have e5:bs[k]=10:=by omega
    rw[show YO q bs[k]=(q.1+1,1) from if_pos e5]
    (apply Cl.cv;(· (repeat'(first|exact C0|apply Cl.wr|apply Cl.nw)));(· (simp only[Zd,YL,YM,Zw,Zv,Qai]<;>first|rfl|(simp;done)|(simp;omega))))
   ·simp(disch:=first|assumption|decide|omega|(simp only[jg,jj,jr,ju,jk,yi,Qak,Qan];first|done|omega)) only[jB,jD,jz];exact C1
   ·simp(disch:=decide) only[Qam,Qaq,z0,z1,jf,jb,and_true,true_and,i0,i1,i21]
   ·simp(disch:=decide) only[Qam,Qaq,z0,z1,jf,jb,and_true,true_and,hi,hn]
  ·refine⟨⟨?_,?_,?_⟩,?_⟩
   ·have e5:¬ bs[k]=10:=by omega
    rw[show YO q bs[k]=(q.1,q.2+1) from if_neg e5]
    (apply Cl.cv;(· (repeat'(first|exact C0|apply Cl.wr|apply Cl.nw)));(· (simp only[Zd,YL,YM,Zw,Zv,Qai]<;>first|rfl|(simp;done)|(simp;omega))))
   ·simp(disch:=first|assumption|decide|omega|(simp only[jg,jj,jr,ju,jk,yi,Qak,Qan];first|done|omega)) only[jB,jD,jz];exact C1
   ·simp(disch:=decide) only[Qam,Qaq,z0,z1,jf,jb,and_true,true_and,i0,i1,i21]
   ·simp(disch:=decide) only[Qam,Qaq,z0,z1,jf,jb,and_true,true_and,hi,hn]
 ·obtain⟨C0,C1,i0,i1,i21⟩:=hI;rw[<-hbs,Qaz] at C0;have L0:=C0.lt;unfold cC at *
  (have zz:=C0.r;(repeat'(first|(apply jc<;>intro _)|simp(disch:=first|exact vw|fail) only[ja i0,ja i1,C0.q,C0.r,rzZ,Qab,Qac,Qad,Qaa,Qae]));(all_goals(clear zz)))
  refine G1.done ?_ rfl rfl FzD.u;simp(disch:=first|assumption|decide|omega|(simp only[jg,jj,jr,ju,jk,yi,Qak,Qan];first|done|omega)) only[jB,jD,jz]
  (apply Cl.cv;(· (repeat'(first|exact C0|apply Cl.wr|apply Cl.nw)));(· (simp only[Zd,YL,YM,Zw,Zv,Qai]<;>first|rfl|(simp;done)|(simp;omega))))
end Go.Sy
end
noncomputable section
set_option maxRecDepth 100000
namespace Go.Sy
open Go.Ev Go.Proofs
variable {base:Bs}
theorem jkX (hb:NB base){l:List Nat}{a:Nat}{p:Nat×Nat}(ha:a<=l.length)(hl:l.length<=1048576)(hp1:p.1+(l.length - a)<=1073741824)(hp2:1<=p.2)(hp3:p.2+(l.length - a)<=1073741824) :
  Met Qaf base 84 (cC l a p) [] (.ok (.tup [])) (cC l (a+qa (l.drop a)) (qd p ((l.drop a).take (qa (l.drop a))))):=by
 refine PM.met ?_ rfl λp st=>hb.no 84 (by decide) _ _;refine j2 x74 (by rfl) (hb.pur 84 3 (by decide)) rfl ?_;simp only[y74,jt,Qai,Qaj,Qag,Qah];rw[(by unfold z74;simp only[qq];rfl:z74=_)];rw[Ub];refine zj (λmm L s=>∃ d:Nat,a+d<=l.length/\mm=l.length - (a+d)/\Cl s 0 (cC l (a+d) (qd p ((l.drop a).take d)))/\qa (l.drop a)=d+qa (l.drop (a+d))/\Has L 0 (.ptr 0 0)) ?_ (l.length - a) ?_
 ·rintro mm L s ⟨d,hd,rfl,C,hg,i0⟩;have W:=Wf ((l.drop a).take d) p hp2;have hlt:((l.drop a).take d).length=d:=by rw[QaH,QaR];omega
  rw[hlt] at W;have hrl:(l.drop (a+d)).length=l.length - (a+d):=QaR;have hgap:gap (l.drop (a+d))=if qW YC (l.drop (a+d))=0/\begins [47,47] (l.drop (a+d))=true then qW Ky (l.drop (a+d)) else qW YC (l.drop (a+d)):=rfl
  have hgl:=K3 (l.drop (a+d));have hwalk:qd (qd p ((l.drop a).take d)) ((l.drop (a+d)).take (gap (l.drop (a+d))))=qd p ((l.drop a).take (d+gap (l.drop (a+d)))):=by
   rw[<-GA,List.take_add,Qcc]
  have hg1:=λ(h:gap (l.drop (a+d))≠0)=>jhY h;have hg0:=λ(h:gap (l.drop (a+d))=0)=>jhZ h;have hdrop:(l.drop (a+d)).drop (gap (l.drop (a+d)))=l.drop (a+(d+gap (l.drop (a+d)))):=by rw[Qcc,QbW]
  have S:=@jgU base hb l (a+d) (gap (l.drop (a+d))) (qd p ((l.drop a).take d)) (by omega) (by omega) (by omega) (by omega) (by omega);have S1:=λK Kp=>S C K Kp;have L0:=C.lt;rw[hwalk] at S1;have R1:=Kh hb (l.drop (a+d)) (by omega) (jnF hb);have R2:=Kh hb (l.drop (a+d)) (by omega) (jks hb);have R3:=U2 hb (l.drop (a+d)) [47,47] (by omega);have fin:gap (l.drop (a+d))=0->G1 4 (cC l (a+qa (l.drop a)) (qd p ((l.drop a).take (qa (l.drop a))))) (.tup []) (.tup []) s.bare:=λh=>by
   rw[hg,hg0 h,Qcm];exact G1.done (jz.symm▸C) rfl rfl FzD.u
  have go:gap (l.drop (a+d))≠0->∀ L,Has L 0 (.ptr 0 0)->∃ k',k'<l.length - (a+d)/\∃ d2:Nat,a+d2<=l.length/\k'=l.length - (a+d2)/\Cl (wr s 0 0 (cC l (a+d+gap (l.drop (a+d))) (qd p ((l.drop a).take (d+gap (l.drop (a+d))))))) 0 (cC l (a+d2) (qd p ((l.drop a).take d2)))/\qa (l.drop a)=d2+qa (l.drop (a+d2))/\Has L 0 (.ptr 0 0):=λh L i=>by
   refine⟨l.length - (a+(d+gap (l.drop (a+d)))),by omega,d+gap (l.drop (a+d)),by omega,rfl,?_,by rw[hg,hg1 h,hdrop,QbW],i⟩;rw[QbW];exact C.wr0 rfl
  generalize hJ:(λ(L:Sl) (st':St)=>∃ k',k'<l.length - (a+d)/\∃ d2:Nat,a+d2<=l.length/\k'=l.length - (a+d2)/\Cl st' 0 (cC l (a+d2) (qd p ((l.drop a).take d2)))/\qa (l.drop a)=d2+qa (l.drop (a+d2))/\Has L 0 (.ptr 0 0))=J at *;have go2:gap (l.drop (a+d))≠0->∀ L,Has L 0 (.ptr 0 0)->J L (wr s 0 0 (cC l (a+d+gap (l.drop (a+d))) (qd p ((l.drop a).take (d+gap (l.drop (a+d))))))):=λh L i=>by rw[<-hJ];exact go h L i
  clear go;unfold cC at *;by_cases h1:qW YC (l.drop (a+d))=0
  ·cases h2:begins [47,47] (l.drop (a+d)) with
   |true=>
    rw[if_pos ⟨h1,h2⟩] at hgap;rw[<-hgap] at R2;by_cases hz:gap (l.drop (a+d))=0
    ·(have zz:=C.r;(repeat'(first|(apply jc<;>intro _)|simp(disch:=first|exact vw|fail) only[ja i0,R1,R2,R3,h1,h2,hz,C.q,C.r,rzZ,Qab,Qac,Qad,Qaa,Qae]));(all_goals(clear zz)))
     exact fin hz
    ·(have zz:=C.r;(repeat'(first|(apply jc<;>intro _)|simp(disch:=first|exact vw|fail) only[ja i0,R1,R2,R3,S1,h1,h2,hz,C.q,C.r,rzZ,Qab,Qac,Qad,Qaa,Qae]));(all_goals(clear zz)))
     exact go2 hz _ (by simp(disch:=decide) only[Qam,Qaq,z0,z1,jf,jb,and_true,true_and,i0])
   |false=>
    have hz:gap (l.drop (a+d))=0:=by rw[hgap,if_neg (λh=>by rw[h2] at h;exact absurd h.2 (by decide))];exact h1
    (have zz:=C.r;(repeat'(first|(apply jc<;>intro _)|simp(disch:=first|exact vw|fail) only[ja i0,R1,R2,R3,h1,h2,C.q,C.r,rzZ,Qab,Qac,Qad,Qaa,Qae]));(all_goals(clear zz)))
    exact fin hz
  ·have hz:gap (l.drop (a+d))=qW YC (l.drop (a+d)):=by rw[hgap,if_neg (λh=>h1 h.1)]
   rw[<-hz] at h1 R1
   (have zz:=C.r;(repeat'(first|(apply jc<;>intro _)|simp(disch:=first|exact vw|fail) only[ja i0,R1,R2,R3,S1,h1,C.q,C.r,rzZ,Qab,Qac,Qad,Qaa,Qae]));(all_goals(clear zz)))
   exact go2 h1 _ (by simp(disch:=decide) only[Qam,Qaq,z0,z1,jf,jb,and_true,true_and,i0])
 ·refine⟨0,by omega,rfl,?_,by rw[QaK,Qcm],?_⟩
  ·exact Cl.new st0 (cC l a p)
  ·simp(disch:=decide) only[Qam,Qaq,z0,z1,jf,jb,and_true,true_and]
end Go.Sy
end
noncomputable section
set_option maxRecDepth 100000
namespace Go.Sy
open Go.Ev Go.Proofs
variable {base:Bs}
def PI (base:Bs):Prop:=∀ (s:List Nat) (st:St),u1 s->s.length<=281474976710656->(s.length<=7->base.run 117 [.str s,.int .i64 10,.int .i64 64] st=.ok (.tup [.int .i64 (w5 s:Int),.nilif]) st)/\(7<s.length->base.run 117 [.str s,.int .i64 10,.int .i64 64] st=.ok (.tup [.bad,.bad]) st)
theorem jpV (s:St)(K:AV->St->Prop):jl (YZ Qaf .neq 191 true .nilif .nilif s) K=K (.bool false) s:=by
 have:YZ Qaf .neq 191 true .nilif .nilif s=.ok (.bool false) s:=by kernel_rfl
 rw[this];rfl
theorem FzD.nx {s:St}{t:Tk}{e e':Int}{cs:List AV}(h1:cs=t.cells)(h2:e'=e):FzD 1 9 s (.tup [.agg cs,.int .i64 e']) (.tup [.agg t.cells,.int .i64 e]):=by
 subst h1 h2;exact FzD.tup (.cons (.agg (.pc rfl)) (.pc rfl))
theorem jpU (hb:NB base)(hP:PI base){l:List Nat}{a e n:Nat}{t:Tk}{p:Nat×Nat}(ha:a<=l.length)(hl:l.length<=1048576)(hp1:p.1<=1073741824)(hp2:p.2<=1073741824)(hp3:1<=p.2)(h:yS (l.drop a) p=(e,t,n)) :
  Met Qaf base 85 (cC l a p) [] (.ok (.tup [.agg t.cells,.int .i64 (e:Int)])) (cC l (a+n) (qd p ((l.drop a).take n))):=by
 refine PM.met ?_ rfl λp st=>hb.no 85 (by decide) _ _;refine j2 x75 (by rfl) (hb.pur 85 3 (by decide)) rfl ?_;simp only[y75,jt,Qai,Qaj,Qag,Qah];rw[(by unfold z75;simp only[qq];rfl:z75=_)];have hrl:(l.drop a).length=l.length - a:=QaR;have S:=λ(n:Nat) (h:a+n<=l.length)=>@jgU base hb l a n p h (by omega) hp1 hp2 hp3;have C0:Cl (nw st0 (cC l a p)) 0 (cC l a p):=Cl.new st0 _;unfold cC at *;generalize hr:l.drop a=r at *;have hL:=kz hb;have hD:=jd6 hb;have hI:=jdM hb;have hR:=Kh hb r (by omega) hI;have hR2:=Kh hb r (by omega) hD;have hK:=jiM hb;have hS:=jpC hb r (by omega);have l1:=Zq Jb r;have l2:=Zq qf r;have l3:=jbi r;have S1:=λst q=>@S (qW Jb r) (by omega) st q;have S2:=λst q=>@S (qW qf r) (by omega) st q;have S3:=λst q=>@S (Uj r) (by omega) st q;clear S;rcases r with _|⟨x,r'⟩
 ·simp only[yS,Prod.mk.injEq] at h;repeat'(first|(apply jc<;>intro _)|simp(disch:=first|exact dzA|fail) only[hr,rzZ,Qab,Qac,Qad,Qaa,Qae])
  obtain⟨rfl,rfl,rfl⟩:=h;refine G1.done (c':=[_,_,_,_]) ?_ rfl rfl (FzD.tup (.cons (.agg (.pc rfl)) (.pc rfl)));simp(disch:=first|assumption|decide|omega|(simp only[jg,jj,jr,ju,jk,yi,Qak,Qan];first|done|omega)) only[jB,jD,jz];exact C0
 ·have e0:x :: r'≠[]:=by simp
  have e1:(0:Int)<((x :: r').length:Int):=by simp
  have P0:qf x=true->u1 ((x :: r').take (qW qf (x :: r'))):=λh=>jcX h;have P1:qf x=true->qW qf (x :: r')<=7->∀ st K Kp,XB Qaf base 117 [.str ((x :: r').take (qW qf (x :: r'))),.int .i64 10,.int .i64 64] st K Kp=K (.tup [.int .i64 (w5 ((x :: r').take (qW qf (x :: r'))):Int),.nilif]) st:=λh h7 st K Kp=>by
   have e:((x :: r').take (qW qf (x :: r'))).length<=7:=by rw[QaH];omega
   exact V9 ((hP _ st (P0 h) (by omega)).1 e) K Kp
  have P2:qf x=true->7<qW qf (x :: r')->∀ st K Kp,XB Qaf base 117 [.str ((x :: r').take (qW qf (x :: r'))),.int .i64 10,.int .i64 64] st K Kp=K (.tup [.bad,.bad]) st:=λh h7 st K Kp=>by
   have e:((x :: r').take (qW qf (x :: r'))).length=qW qf (x :: r'):=by rw[QaH];omega
   exact V9 ((hP _ st (P0 h) (by omega)).2 (by omega)) K Kp
  unfold yS at h;simp only at h;generalize qW Jb (x :: r')=n1 at *;generalize qW qf (x :: r')=n2 at *;generalize Uj (x :: r')=n3 at *;by_cases c1:zM x=true
  ·rw[if_pos c1] at h
   (have zz:=aI @jB (aI @jD @C0);(repeat'(first|(apply jc<;>intro _)|simp(disch:=first|exact vw|fail) only[hr,e0,e1,hL,hR,hK,S1,jB,jD,c1,jB,jD,C0,rzZ,Qab,Qac,Qad,Qaa,Qae]));(all_goals(clear zz)))
   all_goals((first|rw[if_pos (by omega)] at h|rw[if_neg (by omega)] at h);(first|rw[if_pos (by assumption)] at h|rw[if_neg (by assumption)] at h|skip);simp only[Prod.mk.injEq] at h;obtain⟨rfl,rfl,rfl⟩:=h;refine G1.done (c':=[_,_,_,_]) ?_ rfl rfl (FzD.nx rfl rfl);simp(disch:=first|assumption|decide|omega|(simp only[jg,jj,jr,ju,jk,yi,Qak,Qan];first|done|omega)) only[jB,jD,jz];first|exact C0|(refine Cl.wr0 (c:=[.str l,.int .i64 (a:Int),.int .i64 (p.1:Int),.int .i64 (p.2:Int)]) ?_ rfl;simp(disch:=first|assumption|decide|omega|(simp only[jg,jj,jr,ju,jk,yi,Qak,Qan];first|done|omega)) only[jB,jD,jz];exact C0))
  ·rw[if_neg c1] at h;by_cases c2:qf x=true
   ·rw[if_pos c2] at h;by_cases h7:7<n2
    ·repeat'(first|(apply jc<;>intro _)|simp(disch:=first|exact dzA|fail) only[hr,e0,e1,hL,hD,hR2,P2,c1,c2,rzZ,Qab,Qac,Qad,Qaa,Qae])
     all_goals((first|rw[if_pos (by omega)] at h|rw[if_neg (by omega)] at h);(first|rw[if_pos (by assumption)] at h|rw[if_neg (by assumption)] at h|skip);simp only[Prod.mk.injEq] at h;obtain⟨rfl,rfl,rfl⟩:=h;refine G1.done (c':=[_,_,_,_]) ?_ rfl rfl (FzD.nx rfl rfl);simp(disch:=first|assumption|decide|omega|(simp only[jg,jj,jr,ju,jk,yi,Qak,Qan];first|done|omega)) only[jB,jD,jz];first|exact C0|(refine Cl.wr0 (c:=[.str l,.int .i64 (a:Int),.int .i64 (p.1:Int),.int .i64 (p.2:Int)]) ?_ rfl;simp(disch:=first|assumption|decide|omega|(simp only[jg,jj,jr,ju,jk,yi,Qak,Qan];first|done|omega)) only[jB,jD,jz];exact C0))
    ·(have zz:=aI @jB (aI @jD @C0);(repeat'(first|(apply jc<;>intro _)|simp(disch:=first|exact vw|fail) only[hr,e0,e1,hL,hD,hR2,P1,S2,c1,c2,jpV,jB,jD,C0,rzZ,Qab,Qac,Qad,Qaa,Qae]));(all_goals(clear zz)))
     all_goals((first|rw[if_pos (by omega)] at h|rw[if_neg (by omega)] at h);(first|rw[if_pos (by assumption)] at h|rw[if_neg (by assumption)] at h|skip);simp only[Prod.mk.injEq] at h;obtain⟨rfl,rfl,rfl⟩:=h;refine G1.done (c':=[_,_,_,_]) ?_ rfl rfl (FzD.nx rfl rfl);simp(disch:=first|assumption|decide|omega|(simp only[jg,jj,jr,ju,jk,yi,Qak,Qan];first|done|omega)) only[jB,jD,jz];first|exact C0|(refine Cl.wr0 (c:=[.str l,.int .i64 (a:Int),.int .i64 (p.1:Int),.int .i64 (p.2:Int)]) ?_ rfl;simp(disch:=first|assumption|decide|omega|(simp only[jg,jj,jr,ju,jk,yi,Qak,Qan];first|done|omega)) only[jB,jD,jz];exact C0))
   ·rw[if_neg c2] at h
    (have zz:=aI @jB (aI @jD @C0);(repeat'(first|(apply jc<;>intro _)|simp(disch:=first|exact vw|fail) only[hr,e0,e1,hL,hD,hS,S3,c1,c2,jB,jD,C0,rzZ,Qab,Qac,Qad,Qaa,Qae]));(all_goals(clear zz)))
    all_goals((first|rw[if_pos (by omega)] at h|rw[if_neg (by omega)] at h);(first|rw[if_pos (by assumption)] at h|rw[if_neg (by assumption)] at h|skip);simp only[Prod.mk.injEq] at h;obtain⟨rfl,rfl,rfl⟩:=h;refine G1.done (c':=[_,_,_,_]) ?_ rfl rfl (FzD.nx rfl rfl);simp(disch:=first|assumption|decide|omega|(simp only[jg,jj,jr,ju,jk,yi,Qak,Qan];first|done|omega)) only[jB,jD,jz];first|exact C0|(refine Cl.wr0 (c:=[.str l,.int .i64 (a:Int),.int .i64 (p.1:Int),.int .i64 (p.2:Int)]) ?_ rfl;simp(disch:=first|assumption|decide|omega|(simp only[jg,jj,jr,ju,jk,yi,Qak,Qan];first|done|omega)) only[jB,jD,jz];exact C0))
end Go.Sy
end
noncomputable section
set_option maxRecDepth 100000
namespace Go.Sy
open Go.Ev Go.Proofs
variable {base:Bs}
theorem Tk.cells_l (t:Tk):t.cells.length=5:=nr rfl
theorem Tk.cells_g (t:Tk)(k:Nat):t.cells.getD k .bad=([.int .i64 (t.kind:Int),.str t.text,.int .i64 (t.num:Int),.int .i64 (t.line:Int),.int .i64 (t.col:Int)]:List AV).getD k .bad:=nr rfl
theorem Tk.cells_d (t:Tk)(k:Nat):t.cells.drop k=([.int .i64 (t.kind:Int),.str t.text,.int .i64 (t.num:Int),.int .i64 (t.line:Int),.int .i64 (t.col:Int)]:List AV).drop k:=nr rfl
theorem Tk.cells_p (t:Tk):t.cells.all pc=true:=rfl
theorem Tk.cells_c (t:Tk):lall AV.cell t.cells=true:=nr rfl
theorem Tk.cells_f {st:St}{K:AV->St->Prop}{xs:List Tk}{i:Nat}(h:i<xs.length):jl (zg 5 (.lptr (fl Tk.cells xs) (i * 5)) st) K=K (.agg (Tk.cells xs[i])) st:=JU Tk.cells_l h
theorem Tk.cells_f1 {st:St}{K:AV->St->Prop}{xs:List Tk}{i:Nat}(h:i<xs.length){k:Nat}(hk:k<5):jl (qX (.lptr (fl Tk.cells xs) (i * 5+k)) st) K=K ((Tk.cells xs[i]).getD k .bad) st:=q7 Tk.cells_l h hk
theorem Tk.cells_f0 {st:St}{K:AV->St->Prop}{xs:List Tk}{i:Nat}(h:i<xs.length):jl (qX (.lptr (fl Tk.cells xs) (i * 5)) st) K=K ((Tk.cells xs[i]).getD 0 .bad) st:=q7 (k:=0) Tk.cells_l h (by decide)
theorem Tk.cells_R:type_of% (aI @Tk.cells_l (aI @Tk.cells_g (aI @Tk.cells_d (aI @Tk.cells_c (aI @Tk.cells_f (aI @Tk.cells_f0 @Tk.cells_f1)))))):=aI @Tk.cells_l (aI @Tk.cells_g (aI @Tk.cells_d (aI @Tk.cells_c (aI @Tk.cells_f (aI @Tk.cells_f0 @Tk.cells_f1)))))
theorem Tk.cells_E:type_of% (aI @Tk.cells_l (aI @Tk.cells_c @Tk.cells_g)):=aI @Tk.cells_l (aI @Tk.cells_c @Tk.cells_g)
theorem dzC {p:Prop}(h:p:=by first|assumption|decide|omega|(simp only[Tk.cells_E,rzN,Qak,Qan];first|done|omega)|(apply JZ<;>first|omega|((simp(disch:=first|assumption|omega|(simp only[Tk.cells_E,rzN,Qak,Qan];first|done|omega)) only[rzL,Qak,Qan,QaK,Qab,Tk.cells_E ])<;>first|done|omega))|(simp(disch:=first|assumption|omega|(simp only[Tk.cells_E,rzN,Qak,Qan];first|done|omega)) only[Tk.cells_E,rzG,Qag,Qah,Qac,Qbj,Qak,Qan,Qay,QaF];first|done|omega|decide)):p:=h
theorem jkS {p:Prop}(h:p:=by first|assumption|decide|omega|(simp only[Tk.cells_E,zz,rzN,Qak,Qan];first|done|omega)|(apply JZ<;>first|omega|((simp(disch:=first|assumption|omega|(simp only[Tk.cells_E,zz,rzN,Qak,Qan];first|done|omega)) only[rzL,Qak,Qan,QaK,Qab,Tk.cells_E,zz ])<;>first|done|omega))|(simp(disch:=first|assumption|omega|(simp only[Tk.cells_E,zz,rzN,Qak,Qan];first|done|omega)) only[Tk.cells_E,zz,rzG,Qag,Qah,Qac,Qbj,Qak,Qan,Qay,QaF];first|done|omega|decide)):p:=h
def zG (q:Nat×Nat×Nat):List AV:=[.int .i64 (q.1:Int),.int .i64 (q.2.1:Int),.int .i64 (q.2.2:Int)]
theorem jkt {r:List Nat}{p:Nat×Nat}{e n:Nat}{t:Tk}(h:yS r p=(e,t,n)):t.line=p.1/\t.col=p.2:=by
 cases r with
 |nil=>simp[yS] at h;rw[<-h.2.1];exact⟨rfl,rfl⟩
 |cons x r'=>
  unfold yS at h;simp only at h;split at h
  ·split at h<;>(simp only[Prod.mk.injEq] at h;rw[<-h.2.1];exact⟨rfl,rfl⟩)
  ·split at h
   ·split at h<;>(simp only[Prod.mk.injEq] at h;rw[<-h.2.1];exact⟨rfl,rfl⟩)
   ·split at h<;>(simp only[Prod.mk.injEq] at h;rw[<-h.2.1];exact⟨rfl,rfl⟩)
theorem jmA (hb:NB base)(hP:PI base)(l:List Nat)(hl:l.length<=9223372036854775807):Tot base 64 [.str l] (.tup [.lst (qo l).1.length (fl Tk.cells (qo l).1),.agg (zG (qo l).2)]):=by
 refine hb.tot ?_ rfl rfl;refine jE x35 (by rfl) (hb.pur 64 1 (by decide)) ?_;simp only[y35,jt,Qai,Qaj,Qag,Qah];rw[(by unfold z35;simp only[qq];rfl:z35=_)];repeat'(first|(apply jc<;>intro _)|simp(disch:=first|exact dzC|fail) only[Tk.cells_R,rzZ,Qab,Qac,Qad,Qaa,Qae])
 ·rw[show qo l=([],(132,1,1)) from if_pos (by omega)];exact FzD.tup (.cons .nils (.cons (.agg (.pc (by rfl))) .nil))
 ·have hl:l.length<=65536:=by omega
  rw[show qo l=JA l (1,1) from if_neg (by omega)];refine zj (λmm L s=>∃ (a:Nat) (p:Nat×Nat) (acc:List Tk) (v:AV),a<=l.length/\mm=l.length - a/\p.1+(l.length - a)<=l.length+1/\p.2+(l.length - a)<=l.length+1/\1<=p.2/\acc.length<=a/\ahead acc (JA (l.drop a) p)=JA l (1,1)/\2<=s.nx/\Cl s 0 [.int .i64 0,.int .i64 0,.int .i64 0]/\Cl s 1 (cC l a p)/\Lv 2 s.nx s v acc.length (fl Tk.cells acc) 5/\Has L 3 (.ptr 0 0)/\Has L 4 (.ptr 1 0)/\Has L 5 v) ?_ l.length ?_
  ·rintro mm L s ⟨a,p,acc,v,ha,rfl,h1,h2,h3,h4,h5,h6,C0,C1,V,i3,i4,i5⟩;obtain⟨m,hm⟩:∃ m,m=s.nx:=⟨_,rfl⟩;rw[<-hm] at V;have hm':m<=s.nx:=QbC hm;have hgl:=UF (l.drop a);rw[QaR] at hgl;have W:=Wf ((l.drop a).take (qa (l.drop a))) p h3;have hlt:((l.drop a).take (qa (l.drop a))).length=qa (l.drop a):=by rw[QaH,QaR];omega
   rw[hlt] at W;have B:=λst q=>@jkX base hb l a p ha (by omega) (by omega) h3 (by omega) st q;rcases hx:yS ((l.drop a).drop (qa (l.drop a))) (qd p ((l.drop a).take (qa (l.drop a)))) with ⟨e,t,n⟩
   have hN:=hx;rw[Qcc] at hN;have hnl:=kw hN;rw[QaR] at hnl;have N:=λst q=>@jpU base hb hP l (a+qa (l.drop a)) e n t (qd p ((l.drop a).take (qa (l.drop a)))) (by omega) (by omega) (by omega) (by omega) W.2.2 hN st q;have B1:=λK Kp=>B s 1 C1 K Kp;have N1:=λK Kp=>N (wr s 1 0 (cC l (a+qa (l.drop a)) (qd p ((l.drop a).take (qa (l.drop a)))))) 1 (C1.wr0 rfl) K Kp;clear B N;have hT:t.line=(qd p ((l.drop a).take (qa (l.drop a)))).1/\t.col=(qd p ((l.drop a).take (qa (l.drop a)))).2:=jkt hN;generalize hq:qd p ((l.drop a).take (qa (l.drop a)))=q at *;generalize hg:qa (l.drop a)=g at *;have aE:=λ(he:e≠0)=>jiE (acc:=acc) (by rw[hg,hq];exact hx) he;have W2:=Wf ((l.drop (a+g)).take n) q W.2.2;have hlt2:((l.drop (a+g)).take n).length=n:=by rw[QaH,QaR];omega
   rw[hlt2] at W2;have A:=λst bv xc xx K h hv=>@J0 2 m acc.length 5 st v (fl Tk.cells acc) K 48 bv xc xx h (by decide) (by omega) (by omega) hv;have V2:∀ st m',Lv 2 m st v acc.length (fl Tk.cells acc) 5->2<=st.nx->m'=st.nx+1->Lv 2 m' (aps v st t.cells) (apv 5 v st) (acc ++ [t]).length (fl Tk.cells (acc ++ [t])) 5:=λst m' h h2 h3=>by
    rw[Qal,QH,JL];exact h.put (Tk.cells_l t) h2 h3
   unfold cC at *;by_cases he:e=0
   ·subst he;have hk:=Kz hN;by_cases hn:n=0
    ·subst hn;have k5:t.kind=5:=hk.1.2 rfl
     (have zz:=aI V.ln (aI @jA (aI @jF (aI @V (aI C0.r C1.r))));(repeat'(first|(apply jc<;>intro _)|simp(disch:=first|exact jkS|fail) only[ja i3,ja i4,ja i5,B1,N1,A,V.at,C0.q,C1.q,V.ln,jA,jF,V,C0.r,C1.r,Tk.cells_R,rzZ,Qab,Qac,Qad,Qaa,Qae]));(all_goals(clear zz)))
     rw[<-h5,jiF (by rw[hg,hq];exact hx)];refine FzD.tup (.cons ((?_:Lv 2 (s.nx+3) _ _ _ _ 5).fz (QaG _) (yT Tk.cells_p _)) (.cons (.agg (.pc (by rfl))) .nil));simp(disch:=first|decide|omega) only[jG,jA];refine V2 _ _ ?_ (by simp only[jg,jj];omega) (by simp only[jg,jj]);simp(disch:=first|decide|omega|(simp only[jg,jj];omega)) only[jG,jA,jF];exact V
    ·have k5:¬ (t.kind:Int)=5:=λh=>hn (hk.1.1 (by omega))
     (have zz:=aI V.ln (aI @jA (aI @jF (aI @V (aI C0.r C1.r))));(repeat'(first|(apply jc<;>intro _)|simp(disch:=first|exact jkS|fail) only[ja i3,ja i4,ja i5,B1,N1,A,V.at,C0.q,C1.q,V.ln,jA,jF,V,C0.r,C1.r,Tk.cells_R,rzZ,Qab,Qac,Qad,Qaa,Qae]));(all_goals(clear zz)))
     have hA:=jf0 (acc:=acc) (show yS ((l.drop a).drop (qa (l.drop a))) (qd p ((l.drop a).take (qa (l.drop a))))=(0,t,n) by rw[hg,hq];exact hx) hn;rw[hg,hq] at hA;simp only[Qcc,<-QbW] at hA;refine⟨l.length - (a+g+n),by omega,a+g+n,qd q ((l.drop (a+g)).take n),acc ++ [t],?_,by omega,rfl,by omega,by omega,W2.2.2,by rw[Qal,List.length_singleton];omega,by rw[<-h5,hA],by omega,?_,?_,?_,?_,?_,?_⟩;rotate_left
     ·simp(disch:=first|decide|omega|(simp only[jg,jj];omega)) only[V.cl,jB,jD];exact C0
     ·simp(disch:=first|decide|omega|(simp only[jg,jj];omega)) only[V.cl,jB,jD];exact(C1.wr0 (by rfl)).wr0 (by rfl)
     ·refine V2 _ _ ?_ ?_ ?_;all_goals first|(simp only[jg,jj];done)|(simp only[jg,jj];omega)|(simp(disch:=first|decide|omega|(simp only[jg,jj];omega)) only[jG,jA,jF];exact V)
     ·simp(disch:=decide) only[Qam,Qaq,z0,z1,jf,jb,and_true,true_and,i3]
     ·simp(disch:=decide) only[Qam,Qaq,z0,z1,jf,jb,and_true,true_and,i4]
     ·simp(disch:=decide) only[Qam,Qaq,z0,z1,jf,jb,and_true,true_and]
   ·(have zz:=aI V.ln (aI @jA (aI @jF (aI @V (aI C0.r C1.r))));(repeat'(first|(apply jc<;>intro _)|simp(disch:=first|exact jkS|fail) only[ja i3,ja i4,ja i5,B1,N1,A,V.at,C0.q,C1.q,V.ln,jA,jF,V,C0.r,C1.r,Tk.cells_R,rzZ,Qab,Qac,Qad,Qaa,Qae]));(all_goals(clear zz)))
    rw[<-h5,aE he];exact FzD.tup (.cons .nils (.cons (.agg (.pc (by rfl))) .nil))
  ·refine⟨0,(1,1),[],.nils,by omega,rfl,by omega,by omega,Qao _,QaG _,jiD _ _,Qao _,?_,?_,Lv.nil,?_⟩
   ·simp(disch:=first|assumption|decide|omega|(simp only[jg,jj,jr,ju,jk,yi,Qak,Qan];first|done|omega)) only[jB,jD,jz];exact Cl.new st0 _
   ·exact Cl.new (nw st0 _) _
   ·simp(disch:=decide) only[Qam,Qaq,z0,z1,jf,jb,and_true,true_and]
end Go.Sy
end
noncomputable section
set_option maxRecDepth 100000
namespace Go.Sy
open Go.Ev Go.Proofs
def jjx:XC:=(Oi (IE (IB 2 0) 4 oY) [Ov 5 2,oz 6 5,Iz 7 6 3,ou 8 7,I8 9 8 0 2,I9 10 8 9,OU 11 8 .eql 10 4,Im 12 8 Ih 11,ou 13 12,I3 14 13 1,Oy 15 13 1 2,Ow 16 13 15,Oq 17 (13,true) 144 [] [14,16],Td 18 13 17,ON 18])
def joI:XF:=⟨[0,1],jjx,[(.t 4)]⟩
theorem jsX:jy Qaf 119=some joI:=by kernel_rfl
def jju:XC:=(I7 [IB 3 0,IB 4 1,IB 5 2,Tc 6] (IS [Or 7 14] 0 (.seq (oG [ou 8 7,OJ 9 .lss 8 31] 9 .skip (.exit 0)) (Il 1 (Ok [Iy (ou 12 7),(O0 13 147 12 0 [],some [OO 13 0,o7 (OP 14 3) 0,o9 (oz 15 14) 14 9 [(1,0)],o7 (o5 16 Ix) 0]),IA 14 1 3,I0 15 14 14 9 [(1,0)],Iy (om 16 (.strb .eql 13 15))] (O3 16 [ou 17 7,OT 18 4,OT 19 5,Io 20 2 6 (OC ov ov oB ov ov) [((0,6),18),((6,6),19)],OS 21 3,oz 22 21,ow 23 4 3,oz 24 23,Ir 25 (OC ov ov oB ov ov) [((0,1),17),((3,1),20),((4,1),22),((5,1),24)],o3 6 6 25] .skip)) (.ops [ou 10 7,IK 11 10 1,oq 7 11])))) [Ir 26 (OC ov ov oB ov ov) [],o3 6 6 26])
def joF:XF:=⟨[0,1,2],jju,[(.cA 6 6)]⟩
theorem jsU:jy Qaf 129=some joF:=by kernel_rfl
def z94:XC:=(Oi [Te 0] [Io 1 1 1 [oB] [IY 0 [60,45,62]],Ir 2 [.nils,ov] [((0,1),1),((1,1),Ol)],Io 3 1 1 [oB] [IY 0 [45,62]],Ir 4 [.nils,ov] [((0,1),3),((1,1),OG)],Io 5 1 1 [oB] [Oo 0 124],Ir 6 [.nils,ov] [((0,1),5),((1,1),Ol)],Io 7 1 1 [oB] [Oo 0 38],Ir 8 [.nils,ov] [((0,1),7),((1,1),Ol)],Io 9 4 1 [oB] [Oo 0 85,Oo 1 82,Oo 2 83,Oo 3 84],Ir 10 [.nils,ov] [((0,1),9),((1,1),OG)],Io 11 6 1 [oB] [Oo 0 61,IY 1 [33,61],Oo 2 60,IY 3 [60,61],Oo 4 62,IY 5 [62,61]],Ir 12 [.nils,ov] [((0,1),11),((1,1),II 2)],Io 13 2 1 [oB] [Oo 0 43,Oo 1 45],Ir 14 [.nils,ov] [((0,1),13),((1,1),Ol)],Io 15 1 1 [oB] [Oo 0 42],Ir 16 [.nils,ov] [((0,1),15),((1,1),Ol)],Io 17 8 2 [.nils,ov] [((0,2),2),((2,2),4),((4,2),6),((6,2),8),((8,2),10),((10,2),12),((12,2),14),((14,2),16)],oq 0 17])
def y94:XF:=⟨[],z94,[(.t 0)]⟩
theorem x94:jy Qaf 101=some y94:=by kernel_rfl
def z77:XC:=(oj [IB 3 1] (Oj [Iv 4,OJ 5 .geq 4 32] 5 [oS 6 5 3,I6 7 74 6]))
def y77:XF:=⟨[0,1],z77,[]⟩
theorem x77:jy Qaf 87=some y77:=by kernel_rfl
def z50:XC:=(oj [IB 1 0] (.ops [OS 2 1,oz 3 2,ow 4 4 1,oz 5 4,Ir 6 [ov,ov,ov] [((0,1),II 151),((1,1),3),((2,1),5)],oi 7 (.iface 45 6),oW (.pan 7)]))
def y50:XF:=⟨[0],z50,[]⟩
theorem x50:jy Qaf 74=some y50:=by kernel_rfl
def z49:XC:=(o0 [o4 2 [ov,oB,ov,ov,ov]] (.cops [Th 3,Iw (Is 4 3),Iw (Ov 5 4),OK 6 5,Th 7,Iw (Is 8 7),Iw (OP 9 8),OK 10 9,Iw (Ii 11 5 6 10),Iw (oS 12 5 11),Iw (o3 5 2 12)]) .ret)
def y49:XF:=⟨[0],z49,[(.cA 2 5)]⟩
theorem x49:jy Qaf 73=some y49:=by kernel_rfl
def z76:XC:=(oj (IE (o4 4 [ov,oB,ov,ov,ov]) 5 oY) (Ou [Iv 7,I6 8 73 7,o4 6 [ov,oB,ov,ov,ov],o3 5 6 8] [oS 9 5 6,OM 10,Os 11 119 9 10,om 12 (IM 11)] 12 [oS 13 5 6,o3 5 4 13,On 5] (Oi [Iv 14,Is 15 14,OP 16 15,oz 17 16,IK 18 17 1,Is 19 14,OP 20 19,o3 1 20 18] [oS 21 5 6,o3 5 4 21,oq 5 Ih])))
def y76:XF:=⟨[0,1],z76,[(.cA 4 5),(.t 5)]⟩
theorem x76:jy Qaf 86=some y76:=by kernel_rfl
def gB:XC:=(oj [Iv 7,OM 8,Io 9 1 1 [oB] [((0,1),8)],Os 10 86 7 9,ou 6 10,Ij 11 6 0,Ij 12 6 1,o4 4 [ov,oB,ov,ov,ov],o3 5 4 11,oq 5 12] (Oj [OV 13,om 14 (IM 13)] 14 [oS 15 5 4,I6 16 74 15]))
def jjS:XF:=⟨[0,1],gB,[]⟩
theorem jo5:jy Qaf 121=some jjS:=by kernel_rfl
def jaT:XC:=(oj [o4 2 [ov,oB,ov,ov,ov]] (o0 [Iv 4,I6 5 73 4,o4 3 [ov,oB,ov,ov,ov],o3 5 3 5] (Oj [Ov 6 3,oz 7 6,OJ 8 .neq 7 1] 8 [oS 9 5 3,I6 10 74 9]) (Oi [Iv 11,Is 12 11,OP 13 12,oz 14 13,IK 15 14 1,Is 16 11,OP 17 16,o3 1 17 15] [oS 18 5 3,o3 5 2 18])))
def jjT:XF:=⟨[0],jaT,[(.cA 2 5)]⟩
theorem jo6:jy Qaf 120=some jjT:=by kernel_rfl
def Wa:XC:=(OQ [IQ 2] [Iv 7,Io 8 1 1 [oB] [Oo 0 45],Os 9 86 7 8,ou 6 9,Ij 10 6 0,Ij 11 6 1,oi 3 (.alloc [ov,oB,ov,ov,ov]),o3 5 3 10,ON 11] (o0 [Iv 12,I6 13 73 12,o4 5 [ov,oB,ov,ov,ov],o3 5 5 13] (Oj [Ov 14 5,oz 15 14,OJ 16 .neq 15 2] 16 [oS 17 5 5,I6 18 74 17]) (I7 [Iv 19,Is 20 19,OP 21 20,oz 22 21,IK 23 22 1,Is 24 19,OP 25 24,o3 1 25 23] (Iu [oq 26 4] 26 [ow 27 2 5,oz 28 27,oi 29 (.un .neg 28),OI 29]) [ow 30 2 5,oz 31 30,OI 31])))
def jaV:XF:=⟨[0],Wa,[(.t 2)]⟩
theorem jeG:jy Qaf 122=some jaV:=by kernel_rfl
def jaR:XC:=(oj [Iv 2,Is 3 2,ow 4 2 3,oz 5 4,IK 6 5 1,Is 7 2,ow 8 2 7,o3 1 8 6] (Oj [Iv 9,Is 10 9,ow 11 2 10,oz 12 11,OJ 13 .gtr 12 60] 13 [Iv 14,I6 15 73 14,I6 16 74 15]))
def jjQ:XF:=⟨[0],jaR,[]⟩
theorem jo3:jy Qaf 146=some jjQ:=by kernel_rfl
def Ql:XC:=(OQ [Tc 2] [Iv 5,I6 6 73 5,o4 3 [ov,oB,ov,ov,ov],o3 5 3 6] (o0 [OS 7 3,oz 8 7,ow 9 4 3,oz 10 9,Ir 11 (OC ov ov oB ov ov) [((4,1),8),((5,1),10)],Tc 4,o3 6 4 11] (.block 0 (oG [Ov 15 3,oz 16 15,Iz 17 16 2,oq 14 17] 14 (.dops [IA 18 2 3,O2 19 18 18 2,IA 20 0 4,Tf 1 20 OG [(1,2)],IA 21 1 4,Tf 1 21 19 []]) (oG [Ov 23 3,oz 24 23,Iz 25 24 1,oq 22 25] 22 (.dops [IA 26 1 3,O2 27 26 26 9,IA 28 0 4,Tf 1 28 (II 3) [(1,9)],IA 29 2 4,Tf 1 29 27 []]) (oG [oS 31 5 3,Io 32 1 1 [oB] [IY 0 [116,114,117,101]],Os 33 119 31 32,oq 30 33] 30 (.ops [Ov 34 4,o3 1 34 (II 2),OP 35 4,o3 1 35 OG]) (oG [oS 37 5 3,Io 38 1 1 [oB] [IY 0 [102,97,108,115,101]],Os 39 119 37 38,oq 36 39] 36 (.ops [Ov 40 4,o3 1 40 (II 2)]) (oG [oS 42 5 3,Io 43 1 1 [oB] [Oo 0 40],Os 44 119 42 43,oq 41 44] 41 (OQ [Iv 45,Is 46 45,OP 47 46,oz 48 47,IK 49 48 1,Is 50 45,OP 51 50,o3 1 51 49] [Iv 52,I6 53 146 52] (OQ [Iv 54,Id 55 101 [],Os 56 100 54 55,o3 6 4 56] [Iv 57,Is 58 57,ow 59 2 58,oz 60 59,o6 61 .sub 60 1,Is 62 57,ow 63 2 62,o3 1 63 61] (Oi [Iv 64,Os 65 121 64 (oM [41])] [OT 66 4,o3 6 2 66]))) (.ops [oS 12 5 3,I6 13 74 12]))))))) (Oi [Iv 67,Is 68 67,OP 69 68,oz 70 69,IK 71 70 1,Is 72 67,OP 73 72,o3 1 73 71] [OT 74 4,o3 6 2 74])))
def ut:XF:=⟨[0],Ql,[(.cA 2 6)]⟩
theorem Wc:jy Qaf 145=some ut:=by kernel_rfl
def wZ:XC:=(oj [Tc 2] (Ou [Iv 8,Io 9 9 1 [oB] [Oo 0 45,Oo 1 33,Oo 2 88,Oo 3 70,Oo 4 71,Oo 5 89,Oo 6 90,Oo 7 79,Oo 8 72],Os 10 86 8 9,ou 7 10,Ij 11 7 0,Ij 12 7 1,o4 3 [ov,oB,ov,ov,ov],o3 5 3 11,ON 12] [OY 13,om 14 (IM 13)] 14 [Iv 15,I6 16 145 15,o3 6 2 16] (oj [Iv 17,I6 18 146 17] (OQ [Iv 19,I6 20 128 19,Tc 5,o3 6 5 20] [Iv 21,Is 22 21,ow 23 2 22,oz 24 23,o6 25 .sub 24 1,Is 26 21,ow 27 2 26,o3 1 27 25] (I7 [Or 6 5] (Ig 0 (.seq (Ok [Iy (Tg 28),(O0 29 147 28 0 [],some [OO 29 0,o7 (OP 30 3) 0,o9 (oz 31 30) 30 9 [(1,0)],o7 (o5 32 Ix) 0]),IA 30 1 3,I0 31 30 30 9 [(1,0)],Iy (om 32 (.strb .neq 29 31))] (IU 32 0)) (.block 1 (.ops [Tg 33,IK 34 33 1,oq 6 34])))) [Tg 35,OT 36 5,Io 37 1 6 (OC ov ov oB ov ov) [((0,6),36)],OS 38 3,oz 39 38,ow 40 4 3,oz 41 40,Ir 42 (OC ov ov oB ov ov) [((0,1),35),((3,1),37),((4,1),39),((5,1),41)],o3 6 2 42])))))
def gD:XF:=⟨[0],wZ,[(.cA 2 6)]⟩
theorem ja6:jy Qaf 128=some gD:=by kernel_rfl
def z93:XC:=(Ou [Tc 4] [OM 8,IR 9 8,O4 10 .eql 9] 10 [Iv 11,I6 12 128 11,o3 6 4 12] (IS [Iv 13,OM 14,oi 15 (.slS 2 14 (some OG) none),Os 16 100 13 15,Tc 5,o3 6 5 16] 0 (.block 1 (Ou [Iv 18,OM 19,Ii 20 2 19 Ol,Ov 21 20,oz 22 21,Os 23 86 18 22,ou 17 23,Ij 24 17 0,Ij 25 17 1,o4 6 [ov,oB,ov,ov,ov],o3 5 6 24,oq 7 25] [ou 26 7,om 27 (IM 26)] 27 [OT 28 5,o3 6 4 28] (.seq (o8 [OM 29,Ii 30 2 29 Ol,OP 31 30,oz 32 31,OJ 33 .eql 32 1] 33 (Ok [Oz 34 5 6 6 146 [],Oz 35 6 5 5 29 [],Iy (Iv 36),Iy (OM 37),(Iq (Os 38 100 36 37) 0 [(2,29),(3,146)],Ox),(Iq (Id 39 129 [34,35,38]) 0 [],Ox),Tf 6 4 39 []] .ret)) (Ok [Oz 40 5 6 6 146 [],Oz 41 6 5 5 29 [],Iy (Iv 42),Iy (OM 43),Iy (oi 44 (.slS 2 43 (some OG) none)),(Iq (Os 45 100 42 44) 0 [(3,29),(4,146)],Ox),(Iq (Id 46 129 [40,41,45]) 0 [],Ox),Tf 6 5 46 []] (Iu [OM 47,Ii 48 2 47 Ol,OP 49 48,oz 50 49,OJ 51 .eql 50 2] 51 [OT 52 5,o3 6 4 52])))))))
def y93:XF:=⟨[0,1],z93,[(.cA 4 6)]⟩
theorem x93:jy Qaf 100=some y93:=by kernel_rfl
def z48:XC:=(OQ [Tc 2] [Iv 5,I6 6 73 5,o4 3 [ov,oB,ov,ov,ov],o3 5 3 6] (I7 [Iv 7,Id 8 101 [],Os 9 100 7 8,Tc 4,o3 6 4 9] (Oj [OT 10 4,I6 11 102 10,om 12 (IM 11)] 12 [oS 13 5 3,I6 14 74 13]) [OT 15 4,o3 6 2 15]))
def y48:XF:=⟨[0],z48,[(.cA 2 6)]⟩
theorem x48:jy Qaf 72=some y48:=by kernel_rfl
def jjj:XC:=(oj [o5 2 oB] (I7 [Ir 4 [oB,oB,oB,oB,oB,oB,oB,oB,oB,oB,oB,oB,oB,oB,oB,oB,oB,oB,oB,oB,oB,oB,oB,oB,oB,oB] [Oo 0 45,Oo 1 33,Oo 2 88,Oo 3 70,Oo 4 71,Oo 5 89,Oo 6 90,Oo 7 79,Oo 8 72,Oo 9 42,Oo 10 43,Oo 11 45,Oo 12 61,IY 13 [33,61],Oo 14 60,IY 15 [60,61],Oo 16 62,IY 17 [62,61],Oo 18 85,Oo 19 82,Oo 20 83,Oo 21 84,Oo 22 38,Oo 23 124,IY 24 [45,62],IY 25 [60,45,62]],o4 3 [oB,oB,oB,oB,oB,oB,oB,oB,oB,oB,oB,oB,oB,oB,oB,oB,oB,oB,oB,oB,oB,oB,oB,oB,oB,oB],o3 26 3 4] (Iu [Iv 5,o6 6 .lss 5 5,Tg 7,IL 8 7 0,OU 9 7 .geq 8 31,IV 10 7 Ih 9] 10 [o5 2 oB]) [Iv 11,o6 12 .sub 11 5,Ob 13 26 1 3 12,oz 14 13,OI 14]))
def jot:XF:=⟨[0],jjj,[(.t 2)]⟩
theorem jsI:jy Qaf 147=some jot:=by kernel_rfl
def jji:XC:=(I7 [IQ 2] (.block 0 (oG [Iv 4,o6 5 .geq 4 5,OV 6,I3 7 6 0,OZ 8 6 .leq 7 13,Td 9 6 8,oq 3 9] 3 (oX [Or 2 1]) (Iu [Iv 11,o6 12 .geq 11 14,ou 13 12,I3 14 13 0,OZ 15 13 .lss 14 31,Td 16 13 15,oq 10 16] 10 [Or 2 2]))) [IQ 2])
def jos:XF:=⟨[0],jji,[(.t 2)]⟩
theorem jsH:jy Qaf 148=some jos:=by kernel_rfl
def jjh:XC:=(I7 (IE (IB 1 0) 2 oY) (oj [Ov 3 1,I4 4 3] (.block 0 (OA 6 4 1 5 6 5 [OP 7 1,oz 8 7,O1 9 .geq 8,ou 10 9,Oy 11 10 1 1,Ow 12 10 11,OZ 13 10 .leq 12 1000000,Td 14 10 13,ou 15 14,Oy 16 15 2 1,Ow 17 15 16,Ic 18 15 (.strb .eql 17 (.c oB)),Td 19 15 18,OI 19] (OA 21 4 2 20 21 20 [OP 22 1,oz 23 22,O1 24 .eql 23,ou 25 24,I8 26 25 1 1,I9 27 25 26,OU 28 25 .eql 27 1,Im 29 25 Ih 28,ou 30 29,Oy 31 30 2 1,Ow 32 30 31,Ic 33 30 (.strb .eql 32 (.c oB)),Td 34 30 33,OI 34] (OA 36 4 3 35 36 35 [OP 37 1,oz 38 37,O1 39 .eql 38,ou 40 39,Oy 41 40 2 1,Ow 42 40 41,Oq 43 (40,true) 165 [] [42],Td 44 40 43,OI 44] (Iu (IE (Iz 46 4 4) 45 46) 45 [ow 47 2 1,oz 48 47,OH 49 48 (.c oB),OI 49])))))) [OP 50 1,oz 51 50,O1 52 .eql 51,ou 53 52,Oy 54 53 2 1,Ow 55 53 54,Ic 56 53 (.strb .eql 55 (.c oB)),Td 57 53 56,OI 57])
def jor:XF:=⟨[0],jjh,[(.t 2)]⟩
theorem jsG:jy Qaf 149=some jor:=by kernel_rfl
def z95:XC:=(Oi (IE (IB 1 0) 2 oY) [OT 3 1,Os 4 130 3 (II 60),OI 4])
def y95:XF:=⟨[0],z95,[(.t 2)]⟩
theorem x95:jy Qaf 102=some y95:=by kernel_rfl
def jaS:XC:=(I7 [IB 2 0,IB 3 1,O7] (Ok [IA 5 0 2,O2 6 5 5 3,Iy (o6 7 .lss 6 1),Iy (ou 8 7),Iy (I8 9 8 0 2),It (I9 10 8 9) 9 3 [],Iy (OU 11 8 .geq 10 31),Iy (Im 12 8 Ih 11),Iy (ou 13 12),It (I9 14 13 3) 3 3 [],Iy (OU 15 13 .lss 14 1),Iy (Im 16 13 Ih 15),Iy (ou 17 16),Iy (I8 18 17 3 2),It (I9 19 17 18) 18 27 [],Iy (Ib 20 17 (.len 19)),Iy (I8 21 17 0 2),It (I9 22 17 21) 21 3 [],(Iq (Oq 23 (17,false) 148 [] [22]) 0 [(3,27)],Ox),Iy (Ib 24 17 (.bin .neq 20 23)),Iy (Im 25 17 Ih 24),Iy (ou 26 25),It (Ib 27 26 (.ldA 6 2)) 2 29 [],(Iq (Oq 28 (26,false) 149 [] [27]) 0 [],Ox),Iy (Ib 29 26 (IM 28)),Iy (IV 30 26 Ih 29)] (O3 30 [O7] .skip)) [OS 31 2,oz 32 31,oi 33 (.fn 151 [3]),Os 34 150 32 33,oi 35 (IM 34),ON 35])
def jjR:XF:=⟨[0,1],jaS,[(.t 4)]⟩
theorem jo4:jy Qaf 130=some jjR:=by kernel_rfl
def jjf:XC:=(Oi (IE (IB 2 0) 3 oY) [OT 4 2,oz 5 1,o6 6 .sub 5 1,Os 7 130 4 6,oi 8 (IM 7),oq 3 8])
def jop:XF:=⟨[0,1],jjf,[(.t 3)]⟩
theorem jsE:jy Qaf 151=some jop:=by kernel_rfl
def jjg:XC:=(Oi [O7] [Iv 5,OM 6,Os 7 166 5 6,O1 8 .geq 7,ON 8])
def joq:XF:=⟨[0,1],jjg,[(.t 4)]⟩
theorem jsF:jy Qaf 150=some joq:=by kernel_rfl
def jja:XC:=(I7 [IQ 4] (Ot [Iv 6,IP 7 6,IQ 8] 0 [I5 9 8 7] 9 0 1 (IE (ou 10 8) 5 10) (Iu [OM 11,Iv 12,OV 13,Ii 14 6 12 13,OT 15 14,oC 16 true none 11 [15]] 16 (IE (OV 17) 4 17)) 18 8 1 8 18) [Or 4 (-(0+1))])
def jok:XF:=⟨[0,1],jja,[(.t 4)]⟩
theorem jsz:jy Qaf 166=some jok:=by kernel_rfl
def jjk:XC:=(Oi [O7] [Iv 5,OM 6,Os 7 164 5 6,O1 8 .geq 7,ON 8])
def jou:XF:=⟨[0,1],jjk,[(.t 4)]⟩
theorem jsJ:jy Qaf 144=some jou:=by kernel_rfl
def jjc:XC:=(I7 [IQ 4] (Ot [Iv 6,IP 7 6,IQ 8] 0 [I5 9 8 7] 9 0 1 (IE (ou 10 8) 5 10) (Iu [OM 11,Iv 12,OV 13,Ii 14 1 12 13,oz 15 14,om 16 (.strb .eql 11 15)] 16 (IE (OV 17) 4 17)) 18 8 1 8 18) [Or 4 (-(0+1))])
def jom:XF:=⟨[0,1],jjc,[(.t 4)]⟩
theorem jsB:jy Qaf 164=some jom:=by kernel_rfl
def jjb:XC:=(I7 [On 2] (Iu [Iv 3,OH 4 3 (.c oB),OY 5,IL 6 5 0,Ib 7 5 (.lenS 6),OU 8 5 .gtr 7 32,Im 9 5 Ih 8,ou 10 9,IL 11 10 0,Ib 12 10 (.ixStr 11 Ol),Oq 13 (10,false) 113 [] [12],Ib 14 10 (IM 13),Im 15 10 Ih 14,ou 16 15,IL 17 16 0,Oq 18 (16,false) 115 [] [17],IV 19 16 Ih 18] 19 [On 2]) [Iv 20,Os 21 108 20 (oJ 114 []),Iv 22,oi 23 (.lenS 22),IJ 24 .eql 21 23,OI 24])
def jol:XF:=⟨[0],jjb,[(.t 2)]⟩
theorem jsA:jy Qaf 165=some jol:=by kernel_rfl
end Go.Sy
end
noncomputable section
set_option maxRecDepth 100000
namespace Go.Sy
open Go.Ev Go.Proofs
variable {base:Bs}
theorem dzD {p:Prop}(h:p:=by first|assumption|decide|omega|(simp only[qN,Tk.cells_E,rzN,Qak,Qan];first|done|omega)|(apply JZ<;>first|omega|((simp(disch:=first|assumption|omega|(simp only[qN,Tk.cells_E,rzN,Qak,Qan];first|done|omega)) only[rzL,Qak,Qan,QaK,Qab,qN,Tk.cells_E ])<;>first|done|omega))|(simp(disch:=first|assumption|omega|(simp only[qN,Tk.cells_E,rzN,Qak,Qan];first|done|omega)) only[qN,Tk.cells_E,rzG,Qag,Qah,Qac,Qbj,Qak,Qan,Qay,QaF];first|done|omega|decide)):p:=h
theorem cyD {p:Prop}(h:p:=by apply JZ<;>first|omega|((simp(disch:=first|assumption|omega|(simp only[qN,Tk.cells_E,rzN,Qak,Qan];first|done|omega)) only[rzL,Qak,Qan,QaK,Qab,qN,Tk.cells_E])<;>first|done|rfl|omega|(simp;done)|(simp;omega))):p:=h
theorem qO {p:Prop}(h:p:=by first|assumption|decide|omega|(simp only[qN,Tk.cells_E,zz,rzN,Qak,Qan];first|done|omega)|(apply JZ<;>first|omega|((simp(disch:=first|assumption|omega|(simp only[qN,Tk.cells_E,zz,rzN,Qak,Qan];first|done|omega)) only[rzL,Qak,Qan,QaK,Qab,qN,Tk.cells_E,zz ])<;>first|done|omega))|(simp(disch:=first|assumption|omega|(simp only[qN,Tk.cells_E,zz,rzN,Qak,Qan];first|done|omega)) only[qN,Tk.cells_E,zz,rzG,Qag,Qah,Qac,Qbj,Qak,Qan,Qay,QaF];first|done|omega|decide)):p:=h
theorem qm {p:Prop}(h:p:=by apply JZ<;>first|omega|((simp(disch:=first|assumption|omega|(simp only[qN,Tk.cells_E,zz,rzN,Qak,Qan];first|done|omega)) only[rzL,Qak,Qan,QaK,Qab,qN,Tk.cells_E,zz])<;>first|done|rfl|omega|(simp;done)|(simp;omega))):p:=h
theorem vyD {p:Prop}(h:p:=by first|exact FzD.u|exact FzD.pa (by rfl)|exact FzD.agg (.pc (by rfl))|exact FzD.tup (.cons (FzD.agg (.pc (by rfl))) (.pc (by rfl)))|exact FzD.iface (FzD.agg (.pc (by rfl)))|exact Yp|(rw[<-qG];exact FzD.agg (.pc (qY _)))|exact FzD.agg (.pc (by simp only[qY,Tk.cells_p]))):p:=h
theorem Vc {S:List (List Nat)}{k:Nat}(h:k<S.length):(S.map AV.str).getD k .bad=.str S[k]:=by simp[QaN,h]
theorem jmy (hb:NB base)(S:List (List Nat))(hn:S.length<=1000000)(x:List Nat):Tot base 164 [.lst S.length (S.map .str),.str x] (.int .i64 (fi (λy=>decide (x=y)) S)):=by
 refine hb.tot ?_ rfl rfl;refine jE jsB (by rfl) (hb.pur 164 1 (by decide)) ?_;simp only[jom,jt,Qai,Qaj,Qag,Qah];rw[(by unfold jjc;simp only[qq];rfl:jjc=_)];repeat'(first|(apply jc<;>intro _)|simp(disch:=first|exact dzD|fail) only[je,Tk.cells_R,rzZ,Qab,Qac,Qad,Qaa,Qae])
 refine qb S.length (λk L s=>(∀ j (h1:j<S.length),j<k->decide (x=S[j])=false)/\Has L 0 (.lst S.length (S.map .str))/\Has L 1 (.str x)) (by first|assumption|omega) (by decide) (by simp(disch:=decide) only[jf,jb]) (by simp(disch:=decide) only[jf,jb]) ?_ (λk L s v h=>by simp(disch:=decide) only[jb];exact h) (λk L s v h=>by simp(disch:=decide) only[jb];exact h) (λk L s hk hI hi hn=>?_) (λL s hI=>?_)
 ·refine⟨λj _ hj=>absurd hj (QaZ _),?_⟩;simp(disch:=decide) only[Qam,Qaq,z0,z1,jf,jb,and_true,true_and]
 ·obtain⟨h0,i0,i1⟩:=hI;have hl:(S.map AV.str).length=S.length:=QaP ..;have e:=Vc hk
  (have zz:=@hl;(repeat'(first|(apply jc<;>intro _)|simp(disch:=first|exact qO|fail) only[ja i0,ja i1,ja hi,zU,e,hl,je,Tk.cells_R,rzZ,Qab,Qac,Qad,Qaa,Qae]));(all_goals(clear zz)))
  ·exact G0.v (by rw[uc hk (λj hj=>h0 j (by omega) hj) (by simpa using ‹x=S[k]›)]) rfl
  ·refine⟨⟨λj h1 hj=>?_,?_⟩,?_⟩
   ·rcases QaT j k with h|h
    ·simpa using h0 j h1 h
    ·have:j=k:=by omega
     subst this;simpa using ‹¬ x=S[j]›
   ·simp(disch:=decide) only[Qam,Qaq,z0,z1,jf,jb,and_true,true_and,i0,i1]
   ·simp(disch:=decide) only[Qam,Qaq,z0,z1,jf,jb,and_true,true_and,hi,hn]
 ·obtain⟨h0,i0,i1⟩:=hI;repeat'(first|(apply jc<;>intro _)|simp(disch:=first|exact dzD|fail) only[je,Tk.cells_R,rzZ,Qab,Qac,Qad,Qaa,Qae])
  exact G0.v (by rw[ub λj hj=>h0 j hj hj];rfl) rfl
theorem jfs {α:Type}(q:α->Bool):∀ xs:List α,decide (0<=fi q xs)=xs.any q
 |[]=>rfl
 |x :: xs=>by
  have ih:=jfs q xs;by_cases h:q x=true
  ·simp[fi,h]
  ·rw[List.any_cons,<-ih];simp only[fi,h,if_false,Bool.false_or];by_cases h2:fi q xs<0
   ·rw[if_pos h2];simp;omega
   ·rw[if_neg h2];simp;omega
theorem jnL (x:List Nat)(S:List (List Nat)):(S.any λy=>decide (x=y))=decide (x∈S):=by
 induction S with
 |nil=>rfl
 |cons y S ih=>rw[List.any_cons,ih];simp
theorem jrg (hb:NB base)(S:List (List Nat))(hn:S.length<=1000000)(x:List Nat):Tot base 144 [.lst S.length (S.map .str),.str x] (.bool (decide (x∈S))):=by
 refine hb.tot ?_ rfl rfl;refine jE jsJ (by rfl) (hb.pur 144 1 (by decide)) ?_;simp only[jou,jt,Qai,Qaj,Qag,Qah];rw[(by unfold jjk;simp only[qq];rfl:jjk=_)];repeat'(first|(apply jc<;>intro _)|simp(disch:=first|exact dzD|fail) only[jmy hb S hn x,je,Tk.cells_R,rzZ,Qab,Qac,Qad,Qaa,Qae])
 exact G0.v (by rw[jfs,jnL]) rfl
def isM (t:Tk)(S:List (List Nat)):Bool:=decide (t.kind=3\/t.kind=4) && decide (t.text∈S)
theorem jrb (hb:NB base)(t:Tk)(S:List (List Nat))(hn:S.length<=1000000):PX Qaf base 119 [.agg t.cells,.lst S.length (S.map .str)] (.ok (.bool (isM t S))):=by
 refine jE jsX (by rfl) (hb.pur 119 1 (by decide)) ?_;simp only[joI,jt,Qai,Qaj,Qag,Qah];rw[(by unfold jjx;simp only[qq];rfl:jjx=_)];repeat'(first|(apply jc<;>intro _)|simp(disch:=first|exact dzD|fail) only[jrg hb S hn,je,Tk.cells_R,rzZ,Qab,Qac,Qad,Qaa,Qae])
 all_goals(refine G0.v ?_ rfl;unfold isM;simp;try omega)
theorem jra (hb:NB base)(t:Tk)(S:List (List Nat))(hn:S.length<=1000000):Tot base 119 [.agg t.cells,.lst S.length (S.map .str)] (.bool (isM t S)):=hb.tot (jrb hb t S hn) rfl rfl
def er (t:Tk):AV:=.iface 45 (.agg [.int .i64 151,.int .i64 (t.line:Int),.int .i64 (t.col:Int)])
theorem G0.er (t:Tk){s:St}:G0 (er t) (.iface 45 (.agg [.int .i64 151,.int .i64 (t.line:Int),.int .i64 (t.col:Int)])) s:=FzD.iface (FzD.agg (.pc rfl))
theorem Qa (hb:NB base)(t:Tk):Ret base 74 [.agg t.cells] (.pn (er t)):=by
 refine hb.ret ?_ rfl rfl;refine jE x50 (by rfl) (hb.pur 74 1 (by decide)) ?_;simp only[y50,jt,Qai,Qaj,Qag,Qah];rw[(by unfold z50;simp only[qq];rfl:z50=_)];repeat'(first|(apply jc<;>intro _)|simp(disch:=first|exact dzD|fail) only[je,Tk.cells_R,rzZ,Qab,Qac,Qad,Qaa,Qae])
 exact G0.er t
theorem jp5 (hb:NB base)(op:Int):Tot base 148 [.int .i64 op] (.int .i64 (if 5<=op/\op<=13 then 1 else if 14<=op/\op<31 then 2 else 0)):=by
 refine hb.tot ?_ rfl rfl;refine jE jsH (by rfl) (hb.pur 148 1 (by decide)) ?_;simp only[jos,jt,Qai,Qaj,Qag,Qah];rw[(by unfold jji;simp only[qq];rfl:jji=_)];repeat'(first|(apply jc<;>intro _)|simp(disch:=first|exact dzD|fail) only[je,Tk.cells_R,rzZ,Qab,Qac,Qad,Qaa,Qae])
 all_goals(refine G0.v ?_ rfl;repeat' split)<;>first|rfl|(exfalso;omega)|(simp_all;done)|(simp;omega)|(simp_all;omega)
def wJ:List (List Nat):=[[45],[33],[88],[70],[71],[89],[90],[79],[72],[42],[43],[45],[61],[33,61],[60],[60,61],[62],[62,61],[85],[82],[83],[84],[38],[124],[45,62],[60,45,62]]
def sgn (op:Int):List Nat:=if 5<=op/\op<31 then wJ.getD (op - 5).toNat [] else []
theorem jiI (hb:NB base)(op:Int):Tot base 147 [.int .i64 op] (.str (sgn op)):=by
 refine hb.tot ?_ rfl rfl;refine jE jsI (by rfl) (hb.pur 147 1 (by decide)) ?_;simp only[jot,jt,Qai,Qaj,Qag,Qah];rw[(by unfold jjj;simp only[qq];rfl:jjj=_)];repeat'(first|(apply jc<;>intro _)|simp(disch:=first|exact dzD|fail) only[je,Tk.cells_R,rzZ,Qab,Qac,Qad,Qaa,Qae])
 ·exact G0.v (by rw[sgn,if_neg (by omega)]) rfl
 ·exact G0.v (by rw[sgn,if_neg (by omega)]) rfl
 ·have h26:(op - 5).toNat<wJ.length:=by show(op - 5).toNat<26;omega
  show G0 _ ((wJ.map AV.str).getD _ _) _;rw[Qbj,Vc h26];exact G0.v (by rw[sgn,if_pos (by omega),Qax,Qau h26];rfl) rfl
def nm (l:List Nat):Bool:=decide (l≠[]) && decide (l.length<=32) && zM (l.getD 0 0) && !hZ l && decide (qW Jb l=l.length)
theorem jq8 (hb:NB base)(l:List Nat)(hl:l.length<=4611686018427387904):Tot base 165 [.str l] (.bool (nm l)):=by
 refine hb.tot ?_ rfl rfl;have e0:¬ l=[]->0<l.length:=λh=>by cases l<;>simp_all
 refine jE jsA (by rfl) (hb.pur 165 1 (by decide)) ?_;simp only[jol,jt,Qai,Qaj,Qag,Qah];rw[(by unfold jjb;simp only[qq];rfl:jjb=_)];by_cases h:l=[]
 ·subst h;repeat'(first|(apply jc<;>intro _)|simp(disch:=first|exact dzD|fail) only[je,Tk.cells_R,rzZ,Qab,Qac,Qad,Qaa,Qae])
  exact G0.v rfl rfl
 ·have e1:(0:Int)<(l.length:Int):=by have:=e0 h;omega
  repeat'(first|(apply jc<;>intro _)|simp(disch:=first|exact dzD|fail) only[kz hb,jiM hb,Kh hb l hl (jdM hb),h,e1,je,Tk.cells_R,rzZ,Qab,Qac,Qad,Qaa,Qae])
  all_goals(refine G0.v (congrArg AV.bool ?_) rfl;rw[QaW];unfold nm;simp_all<;>omega)
def vX (x:Ex):Bool:=
 if x.op=1 then decide (0<=x.num) && decide (x.num<=1000000) && decide (x.name=[])
 else if x.op=2 then(decide (x.num=0) ||decide (x.num=1)) && decide (x.name=[])
 else if x.op=3 then decide (x.num=0) && nm x.name
 else if x.op=4 then decide (x.name=[])
 else decide (x.num=0) && decide (x.name=[])
theorem jp4 (hb:NB base)(x:Ex)(hl:x.name.length<=4611686018427387904):Tot base 149 [.agg (eE x)] (.bool (vX x)):=by
 refine hb.tot ?_ (by first|rfl|simp[pa,pc,qY,Tk.cells_p]) rfl;refine jE jsG (by rfl) (hb.pur 149 1 (by decide)) ?_;simp only[jor,jt,Qai,Qaj,Qag,Qah];rw[(by unfold jjh;simp only[qq];rfl:jjh=_)];repeat'(first|(apply jc<;>intro _)|simp(disch:=first|exact dzD|fail) only[jq8 hb _ hl,je,Tk.cells_R,rzZ,Qab,Qac,Qad,Qaa,Qae])
 all_goals(refine G0.v ?_ rfl;simp only[vX];simp[*];try omega)
theorem jg3 (hb:NB base)(n:Nat)(t:Tk):Ret base 87 [.int .i64 (n:Int),.agg t.cells] (if 32<=n then .pn (er t) else .ok (.tup [])):=by
 refine hb.ret ?_ rfl rfl;refine jE x77 (by rfl) (hb.pur 87 1 (by decide)) ?_;simp only[y77,jt,Qai,Qaj,Qag,Qah];rw[(by unfold z77;simp only[qq];rfl:z77=_)];repeat'(first|(apply jc<;>intro _)|simp(disch:=first|exact dzD|fail) only[Qa hb,je,Tk.cells_R,rzZ,Qab,Qac,Qad,Qaa,Qae])
 ·rw[if_pos (by omega)];exact FzD.iface (FzD.agg (.pc rfl))
 ·rw[if_neg (by omega)];exact FzD.u
def Q3 (v:List (List Nat)×Nat):List AV:=[.lst v.1.length (v.1.map .str),.int .i64 (v.2:Int)]
def Ja:List (List (List Nat)×Nat):=[([[60,45,62]],0),([[45,62]],1),([[124]],0),([[38]],0),([[85],[82],[83],[84]],1),([[61],[33,61],[60],[60,61],[62],[62,61]],2),([[43],[45]],0),([[42]],0)]
theorem jbK (hb:NB base):Tot base 101 [] (.lst 8 (fl Q3 Ja)):=by
 refine hb.tot ?_ rfl rfl;refine jE x94 (by rfl) (hb.pur 101 1 (by decide)) ?_;simp only[y94,jt,Qai,Qaj,Qag,Qah];rw[(by unfold z94;simp only[qq];rfl:z94=_)];repeat'(first|(apply jc<;>intro _)|simp(disch:=first|exact dzD|fail) only[je,Tk.cells_R,rzZ,Qab,Qac,Qad,Qaa,Qae])
 exact⟨[8,0,1,2,3,4,5,6,7],by kernel_rfl,λb _=>QaG _⟩
end Go.Sy
end
noncomputable section
set_option maxRecDepth 100000
namespace Go.Sy
open Go.Ev Go.Proofs
variable {base:Bs}
theorem jdE {m d b cap:Nat}{s:St}{ks:List Ex}{op num l c:Int}{nm:List Nat}{ex:Bool}{cs:List AV}(C:Cl s b cs)(hc:cs=fl eE ks)(hm:m<=b) :
  FzD m (d+4) s (.agg [.int .i64 op,.int .i64 num,.str nm,.slice b 0 ks.length cap 6 ex,.int .i64 l,.int .i64 c]) (.agg (eE (.mk op num nm ks l c))):=by
 subst hc;rw[qG];have hl:=zY zx ks;refine FzD.agg (.cons (.pc rfl) (.cons (.pc rfl) (.cons (.pc rfl) (.cons (FzD.slice C.rw_ (QbC hl.symm) hm ?_) (.pc rfl)))));rw[<-hl,Qaz];exact .pc (yT qY ks)
theorem Yp {m d:Nat}{s:St}{op num l c:Int}{nm:List Nat}:FzD m (d+2) s (.agg [.int .i64 op,.int .i64 num,.str nm,.nils,.int .i64 l,.int .i64 c]) (.agg (eE (.mk op num nm [] l c))):=by
 rw[qG];exact FzD.agg (.cons (.pc rfl) (.cons (.pc rfl) (.cons (.pc rfl) (.cons .nils (.pc rfl)))))
theorem jj2:Go.Ev.isAgg Qaf 9=some false:=by kernel_rfl
theorem jj1:Go.Ev.sizeOf Qaf 9=some 1:=by kernel_rfl
theorem Kg {t:TypeId}{b i:Nat}{cs:List AV}{v:AV}{s:St}(h1:Go.Ev.isAgg Qaf t=some false)(h2:Go.Ev.sizeOf Qaf t=some 1)(C:Cl s b cs)(hi:i<cs.length)(hv:cs.getD i .bad=v)(hc:eqs v=true):jX Qaf t (.ptr b i) v s.h=true:=
 J4 h1 h2 (by rw[C.len];exact hi) ((C.cell i hi).trans hv) hc
section
variable {st:St} {K:AV->St->Prop}
theorem jpi {z vs:List AV}{o:Nat}{a:List AV}(ha:z.take o=a)(h:o+vs.length=z.length):upd z o vs=a ++ vs:=by
 rw[<-uK z o vs (by omega),ha,h];simp
theorem jq5 {cx cy:List AV}{z0 z1 z2 z3 z4 z5:AV}(hx:cx.length=6)(hy:cy.length=6)(hlx:lall AV.cell cx=true)(hly:lall AV.cell cy=true) :
  jl (Gv 2 6 [z0,z1,z2,z3,z4,z5] [((0,6),.agg cx),((6,6),.agg cy)] st) K=K (.slice st.nx 0 2 2 6 true) (nw st (cx ++ cy)):=by
 have e1:upd ([z0,z1,z2,z3,z4,z5] ++ [z0,z1,z2,z3,z4,z5]) 0 cx=cx ++ [z0,z1,z2,z3,z4,z5]:=by
  rw[<-uK _ 0 cx (by rw[hx];exact Nat.le_add_left _ _),hx];rfl
 have e2:upd (cx ++ [z0,z1,z2,z3,z4,z5]) 6 cy=cx ++ cy:=jpi (by rw[<-hx,List.take_left]) (by rw[Qal,hx,hy];rfl);rw[jk4,Um,Um,Kl,Qbk,jaK (v:=.agg cx) rfl hx (Nat.le_add_left 6 6),YF,e1,jaK (v:=.agg cy) rfl hy (by rw[Qal,hx];exact Qao 12),YF,e2,jf3 (by rw[jkz _ _ hlx,hly])]
end
def wm (text:List Nat):Option Nat:=(QaU 17).find? λi=>decide (sgn ((14+i:Nat):Int)=text)
def Qn (t:Tk)(x y:Ex):Ex:=match wm t.text with
 |some i=>.mk ((14+i:Nat):Int) 0 [] [x,y] t.line t.col
 |none=>.mk 0 0 [] [] 0 0
theorem jkp {text:List Nat}{i:Nat}(hi:i<17)(h:sgn ((14+i:Nat):Int)=text)(hj:∀ j,j<i->sgn ((14+j:Nat):Int)≠text):wm text=some i:=by
 unfold wm;rw[List.find?_range_eq_some];exact⟨by simpa using h,by simpa using hi,λj hj'=>by simpa using hj j hj'⟩
theorem jko {text:List Nat}(hj:∀ j,j<17->sgn ((14+j:Nat):Int)≠text):wm text=none:=by
 unfold wm;rw[List.find?_range_eq_none];exact λj hj'=>by simpa using hj j hj'
def zE:List AV:=[.int .i64 0,.int .i64 0,.str [],.nils,.int .i64 0,.int .i64 0]
theorem jrJ (hb:NB base)(t:Tk)(x y:Ex):Tot base 129 [.agg t.cells,.agg (eE x),.agg (eE y)] (.agg (eE (Qn t x y))):=by
 refine hb.tot ?_ (by first|rfl|simp[pa,pc,qY,Tk.cells_p]) rfl;refine jE jsU (by rfl) (hb.pur 129 1 (by decide)) ?_;simp only[joF,jt,Qai,Qaj,Qag,Qah];rw[(by unfold jju;simp only[qq];rfl:jju=_)];repeat'(first|(apply jc<;>intro _)|simp(disch:=first|exact dzD|fail) only[je,Tk.cells_R,rzZ,Qab,Qac,Qad,Qaa,Qae])
 have hC:=Cl.new st0 t.cells;have hs:jX Qaf 9 (.ptr 0 1) (.str t.text) (nw (nw (nw (nw st0 t.cells) (eE x)) (eE y)) zE).h=true:=Kg jj2 jj1 (((hC.nw _).nw _).nw _) (QbS (Qbr 3)) rfl rfl;unfold zE at hs;refine zj (λmm L s=>∃ i:Nat,i<=17/\mm=17 - i/\s=nw (nw (nw (nw st0 t.cells) (eE x)) (eE y)) zE/\(∀ j,j<i->sgn ((14+j:Nat):Int)≠t.text)/\Has L 3 (.ptr 0 0)/\Has L 4 (.ptr 1 0)/\Has L 5 (.ptr 2 0)/\Has L 6 (.ptr 3 0)/\Has L 7 (.int .i64 ((14+i:Nat):Int))) ?_ 17 ?_
 ·rintro mm L s ⟨i,hi,rfl,rfl,hj,i3,i4,i5,i6,i7⟩;unfold zE;have hS:=jiI hb ((14+i:Nat):Int);repeat'(first|(apply jc<;>intro _)|simp(disch:=first|exact dzD|fail) only[ja i3,ja i4,ja i5,ja i6,ja i7,hS,hs,↓jq5,je,Tk.cells_R,rzZ,Qab,Qac,Qad,Qaa,Qae])
  ·have e:Qn t x y=.mk ((14+i:Nat):Int) 0 [] [x,y] t.line t.col:=by unfold Qn;rw[jkp (by omega) ‹_› hj]
   rw[e];refine jdE (ks:=[x,y]) (cs:=eE x ++ eE y) ?_ (by simp[fl]) (QaG _);simp(disch:=first|assumption|decide|omega|(simp only[jg,jj,jr,ju,jk,yi,Qak,Qan];first|done|omega)) only[jB,jD,jz];exact Cl.new _ _
  ·refine⟨17 - (i+1),by omega,i+1,by omega,rfl,λj hj'=>?_,?_⟩
   ·by_cases h:j=i
    ·rw[h];assumption
    ·exact hj j (by omega)
   ·rw[show((14+(i+1):Nat):Int)=((14+i:Nat):Int)+1 by omega];simp(disch:=decide) only[Qam,Qaq,z0,z1,jf,jb,and_true,true_and,i3,i4,i5,i6]
  ·have e:Qn t x y=.mk 0 0 [] [] 0 0:=by unfold Qn;rw[jko λj hj'=>hj j (by omega)]
   rw[e];exact Yp
 ·refine⟨0,by omega,rfl,rfl,λj hj=>absurd hj (QaZ _),?_⟩;rw[show((14+0:Nat):Int)=14 from rfl];simp(disch:=decide) only[Qam,Qaq,z0,z1,jf,jb,and_true,true_and]
end Go.Sy
end
noncomputable section
set_option maxRecDepth 100000
namespace Go.Sy
open Go.Ev Go.Proofs
variable {base:Bs}
theorem jlb {P:Program}{f:FuncId}{xs:List AV}{st:St}{v:AV}{R:St->Prop}(h:∀ K Kp:AV->St->Prop,(∀ s,R s->K v s)->XB P base f xs st K Kp):∃ s,R s/\∀ K Kp:AV->St->Prop,XB P base f xs st K Kp=K v s:=by
 obtain⟨r,⟨N,D,h1⟩,h4⟩:=h (λv' s'=>v'=v/\R s') (λ_ _=>False) λs hs=>⟨rfl,hs⟩;cases r with
 |no=>exact h4.elim
 |pn v s=>exact h4.elim
 |ok v' s'=>
  obtain⟨rfl,hR⟩:=h4;exact⟨_,hR,λK Kp=>propext ⟨λ⟨r2,⟨N2,D2,h2⟩,h3⟩=>by
   have e1:=h1 (max N N2) (QaL ..) (max D D2) (QaL ..);have e2:=h2 (max N N2) (QaI ..) (max D D2) (QaI ..);rw[e1] at e2;subst e2;exact h3,λh=>⟨_,⟨N,D,h1⟩,h⟩⟩⟩
theorem jnw (hb:NB base)(xs:List Ex)(hn:xs.length<=4611686018427387904)(f:FuncId)(caps:List AV)(q:Ex->Bool){R:St->Prop}(hR:∀ s t:St,R s->R (bk t s))(hR2:∀ s:St,R s->R s.bare)
  (hq:∀ y∈xs,∀ s:St,R s->∃ s',R s'/\∀ K Kp:AV->St->Prop,XB Qaf base f (.agg (eE y) :: caps) s K Kp=K (.bool (q y)) s') {st:St} (h0:R st) :
  ∃ s',R s'/\∀ K Kp:AV->St->Prop,XB Qaf base 166 [.lst xs.length (fl eE xs),.fn f caps] st K Kp=K (.int .i64 (fi q xs)) s':=by
 refine jlb λK Kp hK=>?_;refine zW jsz (by rfl) (hb.at0 166 (by decide) (by decide) _ _) ?_;simp only[jok,jt,Qai,Qaj,Qag,Qah];rw[(by unfold jja;simp only[qq];rfl:jja=_)];have h0:=hR2 _ h0;have hK:∀ s,R s->K (.int .i64 (fi q xs)) (bk st s):=λs h=>hK _ (hR _ _ h);have hbk:bk st st.bare=st:=rfl;have hbc:back st st.bare=st:=rfl;have hbb:st.bare.bare=st.bare:=rfl;generalize st.bare=s0 at *;repeat'(first|(apply jc<;>intro _)|simp(disch:=first|exact dzD|fail) only[je,Tk.cells_R,rzZ,Qab,Qac,Qad,Qaa,Qae])
 refine qb xs.length (λk L s=>R s/\(∀ j (h1:j<xs.length),j<k->q xs[j]=false)/\Has L 0 (.lst xs.length (fl eE xs))/\Has L 1 (.fn f caps)) (by first|assumption|omega) (by decide) (by simp(disch:=decide) only[jf,jb]) (by simp(disch:=decide) only[jf,jb]) ?_ (λk L s v h=>by simp(disch:=decide) only[jb];exact h) (λk L s v h=>by simp(disch:=decide) only[jb];exact h) (λk L s hk hI hi hn=>?_) (λL s hI=>?_)
 ·refine⟨h0,λj _ hj=>absurd hj (QaZ _),?_⟩;simp(disch:=decide) only[Qam,Qaq,z0,z1,jf,jb,and_true,true_and]
 ·obtain⟨hs,h0,i0,i1⟩:=hI;obtain⟨s',hs',e⟩:=hq xs[k] (Qat hk) s hs;repeat'(first|(apply jc<;>intro _)|simp(disch:=first|exact dzD|fail) only[ja i0,ja i1,ja hi,e,je,Tk.cells_R,rzZ,Qab,Qac,Qad,Qaa,Qae])
  ·have:=hK _ (hR2 _ hs');rw[uc hk (λj hj=>h0 j (by omega) hj) ‹_›] at this;exact this
  ·refine⟨⟨hs',λj h1 hj=>?_,?_⟩,?_⟩
   ·rcases QaT j k with h|h
    ·exact h0 j h1 h
    ·have:j=k:=by omega
     subst this;simpa using ‹¬ q xs[j]=true›
   ·simp(disch:=decide) only[Qam,Qaq,z0,z1,jf,jb,and_true,true_and,i0,i1]
   ·simp(disch:=decide) only[Qam,Qaq,z0,z1,jf,jb,and_true,true_and,hi,hn]
 ·obtain⟨hs,h0,i0,i1⟩:=hI;repeat'(first|(apply jc<;>intro _)|simp(disch:=first|exact dzD|fail) only[je,Tk.cells_R,rzZ,Qab,Qac,Qad,Qaa,Qae])
  have:=hK _ (hR2 _ hs);rw[ub λj hj=>h0 j hj hj] at this;exact this
theorem jq1 (hb:NB base)(xs:List Ex)(hn:xs.length<=4611686018427387904)(f:FuncId)(caps:List AV)(q:Ex->Bool){R:St->Prop}(hR:∀ s t:St,R s->R (bk t s))(hR2:∀ s:St,R s->R s.bare)
  (hq:∀ y∈xs,∀ s:St,R s->∃ s',R s'/\∀ K Kp:AV->St->Prop,XB Qaf base f (.agg (eE y) :: caps) s K Kp=K (.bool (q y)) s') {st:St} (h0:R st) :
  ∃ s',R s'/\∀ K Kp:AV->St->Prop,XB Qaf base 150 [.lst xs.length (fl eE xs),.fn f caps] st K Kp=K (.bool (xs.any q)) s':=by
 refine jlb λK Kp hK=>?_;refine zW jsF (by rfl) (hb.at0 150 (by decide) (by decide) _ _) ?_;simp only[joq,jt,Qai,Qaj,Qag,Qah];rw[(by unfold jjg;simp only[qq];rfl:jjg=_)];have h0:=hR2 _ h0;have hK:∀ s,R s->K (.bool (xs.any q)) (bk st s):=λs h=>hK _ (hR _ _ h);have hbk:bk st st.bare=st:=rfl;have hbc:back st st.bare=st:=rfl;have hbb:st.bare.bare=st.bare:=rfl;generalize st.bare=s0 at *;obtain⟨s',hs',e⟩:=jnw hb xs hn f caps q hR hR2 hq h0;repeat'(first|(apply jc<;>intro _)|simp(disch:=first|exact dzD|fail) only[e,je,Tk.cells_R,rzZ,Qab,Qac,Qad,Qaa,Qae])
 rw[jfs];exact hK _ hs'
def yZ:Nat->Ex->Bool
 |0,_=>false
 |d+1,x=>decide (1<=x.op) && decide (x.op<31) && decide ((x.kids.length:Int)=if 5<=x.op/\x.op<=13 then 1 else if 14<=x.op/\x.op<31 then 2 else 0) && vX x && x.kids.all (yZ d)
theorem jpl:Go.Ev.isAgg Qaf 3=some false:=by kernel_rfl
theorem jpk:Go.Ev.sizeOf Qaf 3=some 1:=by kernel_rfl
theorem jlC:Go.Ev.isAgg Qaf 27=some false:=by kernel_rfl
theorem jlB:Go.Ev.sizeOf Qaf 27=some 1:=by kernel_rfl
theorem HU:Go.Ev.isAgg Qaf 29=some true:=by kernel_rfl
theorem HT:Go.Ev.sizeOf Qaf 29=some 6:=by kernel_rfl
theorem jpD {t:TypeId}{b k:Nat}{cs:List AV}{s:St}(h1:Go.Ev.isAgg Qaf t=some true)(h2:Go.Ev.sizeOf Qaf t=some k)(C:Cl s b cs)(hi:cs.length=k)(hk:0<k)(hc:cs.all eqs=true):jX Qaf t (.ptr b 0) (.agg cs) s.h=true:=
 YR h1 h2 hk (by rw[C.len];omega) (by rw[C.ratsP k 0 (by omega),Qbx,<-hi,Qaz]) hc
theorem jtn (hb:NB base){y:Ex}{d b:Nat}{v:Bool}(hd:d<=60)(ih:Tot base 130 [.agg (eE y),.int .i64 (d:Int)] (.bool v)){st:St}(C:Cl st b [.int .i64 ((d+1:Nat):Int)])(K Kp:AV->St->Prop) :
  XB Qaf base 151 [.agg (eE y),.ptr b 0] st K Kp=K (.bool (!v)) (nw st (eE y)):=by
 refine jeD (λK Kp hK=>?_) K Kp;refine zW jsE (by rfl) (hb.at0 151 (by decide) (by decide) _ _) ?_;simp only[jop,jt,Qai,Qaj,Qag,Qah];rw[(by unfold jjf;simp only[qq];rfl:jjf=_)];have hK:K (.bool (!v)) (bk st (nw st.bare (eE y))):=hK;have C:=C.bar;have hbk:bk st st.bare=st:=rfl;have hbc:back st st.bare=st:=rfl;have hbb:st.bare.bare=st.bare:=rfl;generalize st.bare=s0 at *;have L0:=C.lt;have e:((d+1:Nat):Int) - 1=(d:Int):=by omega
 (have zz:=C.r;(repeat'(first|(apply jc<;>intro _)|simp(disch:=first|exact qO|fail) only[ih,e,C.q,C.r,je,Tk.cells_R,rzZ,Qab,Qac,Qad,Qaa,Qae]));(all_goals(clear zz)))
 exact hK
theorem Wp (d:Nat)(x:Ex):yZ (d+1) x=(decide (1<=x.op) && decide (x.op<31) && decide ((x.kids.length:Int)=if 5<=x.op/\x.op<=13 then 1 else if 14<=x.op/\x.op<31 then 2 else 0) && vX x && x.kids.all (yZ d)):=rfl
theorem jej {α:Type}(p:α->Bool):∀ xs:List α,xs.all p = !(xs.any λx=>!p x)
 |[]=>rfl
 |x :: xs=>by rw[Qbe,List.any_cons,jej p xs];cases p x<;>simp
theorem jmX (hb:NB base):∀ (d:Nat),d<=60->∀ x:Ex,szE x<=BIG->Tot base 130 [.agg (eE x),.int .i64 (d:Int)] (.bool (yZ d x)):=by
 intro d;induction d with
 |zero=>
  intro _ x hx;refine hb.tot ?_ (by first|rfl|simp[pa,pc,qY,Tk.cells_p]) rfl;refine jE jo4 (by rfl) (hb.pur 130 1 (by decide)) ?_;simp only[jjR,jt,Qai,Qaj,Qag,Qah];rw[(by unfold jaS;simp only[qq];rfl:jaS=_)];repeat'(first|(apply jc<;>intro _)|simp(disch:=first|exact dzD|fail) only[je,Tk.cells_R,rzZ,Qab,Qac,Qad,Qaa,Qae])
  all_goals exact G0.v rfl rfl
 |succ d ih=>
  intro hd x hx;refine hb.tot ?_ (by first|rfl|simp[pa,pc,qY,Tk.cells_p]) rfl;refine jE jo4 (by rfl) (hb.pur 130 1 (by decide)) ?_;simp only[jjR,jt,Qai,Qaj,Qag,Qah];rw[(by unfold jaS;simp only[qq];rfl:jaS=_)];have hs1:∀ k v,k<6->(eE x).getD k .bad=v->eqs v=true->jX Qaf 3 (.ptr 0 k) v (nw (nw st0 (eE x)) [.int .i64 ((d+1:Nat):Int)]).h=true:=λk v hk hv hc=>Kg jpl jpk ((Cl.new st0 (eE x)).nw _) (by rw[zx];exact hk) hv hc;have hs2:jX Qaf 27 (.ptr 0 3) (.lst x.kids.length (fl eE x.kids)) (nw (nw st0 (eE x)) [.int .i64 ((d+1:Nat):Int)]).h=true:=Kg jlC jlB ((Cl.new st0 (eE x)).nw _) (by rw[zx];decide) (Gq x 3) rfl;have hs3:jX Qaf 29 (.ptr 0 0) (.agg (eE x)) (nw (nw st0 (eE x)) [.int .i64 ((d+1:Nat):Int)]).h=true:=jpD HU HT ((Cl.new st0 (eE x)).nw _) (zx x) (by decide) (by rw[qG];rfl);have hkl:=Yl x.kids;have hsz:=XO x;have hB:BIG=1099511627776:=rfl;have hs:=Wp d x;obtain⟨s',_,e⟩:=jq1 hb x.kids (by omega) 151 [.ptr 1 0] (λy=>!yZ d y) (R:=λs=>Cl s 1 [.int .i64 ((d+1:Nat):Int)]) (λs t h=>⟨h.lt,h.row,h.len,h.cell⟩) (λs h=>h.bar)
   (λy hy s C=>⟨nw s (eE y),C.nw _,λK Kp=>jtn hb (by omega) (ih (by omega) y (by
    obtain⟨k,hk,rfl⟩:=List.getElem_of_mem hy;have:=Xj hk;omega)) C K Kp⟩) (Cl.new (nw st0 (eE x)) [.int .i64 ((d+1:Nat):Int)])
  repeat'(first|(apply jc<;>intro _)|simp(disch:=first|exact dzD|fail) only[jp5 hb,jp4 hb x (by omega),hs1,hs2,hs3,e,je,Tk.cells_R,rzZ,Qab,Qac,Qad,Qaa,Qae])
  ·refine G0.v ?_ rfl;rw[hs];simp;omega
  ·refine G0.v ?_ rfl;rw[hs];simp;omega
  ·refine G0.v ?_ rfl;rw[hs];simp[*]
  ·refine G0.v ?_ rfl;rw[hs];simp[*]
  ·refine G0.v ?_ rfl;rw[hs,jej];first|(simp[*];done)|(simp[*];omega)|(simp;intro _;refine⟨⟨⟨by omega,by omega⟩,by simp_all⟩,by simp_all⟩)
theorem jnQ (hb:NB base)(x:Ex)(hx:szE x<=BIG):Tot base 102 [.agg (eE x)] (.bool (yZ 60 x)):=by
 refine hb.tot ?_ (by first|rfl|simp[pa,pc,qY,Tk.cells_p]) rfl;refine jE x95 (by rfl) (hb.pur 102 1 (by decide)) ?_;simp only[y95,jt,Qai,Qaj,Qag,Qah];rw[(by unfold z95;simp only[qq];rfl:z95=_)];have:Tot base 130 [.agg (eE x),.int .i64 60] (.bool (yZ 60 x)):=jmX hb 60 (Qao _) x hx;repeat'(first|(apply jc<;>intro _)|simp(disch:=first|exact dzD|fail) only[this,je,Tk.cells_R,rzZ,Qab,Qac,Qad,Qaa,Qae])
 exact G0.v rfl rfl
end Go.Sy
end
noncomputable section
set_option maxRecDepth 100000
namespace Go.Sy
open Go.Ev Go.Proofs
variable {base:Bs}
def tk (ts:List Tk)(i:Nat):Tk:=ts.getD i ⟨0,[],0,0,0⟩
theorem jlF {ts:List Tk}{i:Nat}(h:i<ts.length):ts[i]=tk ts i:=by simp[tk,QaN,h]
def pC (ts:List Tk)(i d:Nat):List AV:=[.lst ts.length (fl Tk.cells ts),.int .i64 (i:Int),.int .i64 (d:Int)]
theorem YW (hb:NB base){ts:List Tk}{i d:Nat}(hi:i<ts.length):Met Qaf base 73 (pC ts i d) [] (.ok (.agg (tk ts i).cells)) (pC ts i d):=by
 refine PM.met ?_ rfl λp st=>hb.no 73 (by decide) _ _;refine j2 x49 (by rfl) (hb.pur 73 3 (by decide)) rfl ?_;simp only[y49,jt,Qai,Qaj,Qag,Qah];rw[(by unfold z49;simp only[qq];rfl:z49=_)];unfold pC;repeat'(first|(apply jc<;>intro _)|simp(disch:=first|exact dzD|fail) only[hi,je,Tk.cells_R,rzZ,Qab,Qac,Qad,Qaa,Qae])
 rw[jlF hi];refine G1.done ?_ rfl rfl (FzD.agg (.pc (by rfl)));simp(disch:=first|assumption|decide|omega|(simp only[jg,jj,jr,ju,jk,yi,Qak,Qan];first|done|omega)) only[jB,jD,jz];exact Cl.new _ _
theorem uM (S:List (List Nat)):(S.map AV.str).all pc=true:=by induction S with|nil=>rfl|cons x S ih=>simp[pc]
theorem jgO (hb:NB base){ts:List Tk}{i d:Nat}(hi:i<ts.length)(h2:i<=1000000)(S:List (List Nat))(hS:S.length<=1000000) :
  (isM (tk ts i) S=true->PM Qaf base 86 (pC ts i d) [.lst S.length (S.map .str)] (.ok (.tup [.agg (tk ts i).cells,.bool true])) (pC ts (i+1) d)) /\
  (isM (tk ts i) S=false->PM Qaf base 86 (pC ts i d) [.lst S.length (S.map .str)] (.ok (.tup [.agg (tk ts i).cells,.bool false])) (pC ts i d)):=by
 have N:=λst p=>@YW base hb ts i d hi st p;unfold pC at *;constructor<;>intro h
 ·refine j2 x76 (by rfl) (hb.pur 86 3 (by decide)) rfl ?_;simp only[y76,jt,Qai,Qaj,Qag,Qah];rw[(by unfold z76;simp only[qq];rfl:z76=_)];repeat'(first|(apply jc<;>intro _)|simp(disch:=first|exact dzD|fail) only[N,jra hb (tk ts i) S hS,h,je,Tk.cells_R,rzZ,Qab,Qac,Qad,Qaa,Qae])
  (refine G1.done ?_ (by rfl) (by rfl) ?_;(· (first|exact cyD|fail));(· first|exact vyD|skip))
 ·refine j2 x76 (by rfl) (hb.pur 86 3 (by decide)) rfl ?_;simp only[y76,jt,Qai,Qaj,Qag,Qah];rw[(by unfold z76;simp only[qq];rfl:z76=_)];repeat'(first|(apply jc<;>intro _)|simp(disch:=first|exact dzD|fail) only[N,jra hb (tk ts i) S hS,h,je,Tk.cells_R,rzZ,Qab,Qac,Qad,Qaa,Qae])
  (refine G1.done ?_ (by rfl) (by rfl) ?_;(· (first|exact cyD|fail));(· first|exact vyD|skip))
theorem jps (hb:NB base){ts:List Tk}{i d:Nat}(hi:i<ts.length)(h2:i<=1000000)(S:List (List Nat))(hS:S.length<=1000000){st:St}{p:Nat}(C:Cl st p (pC ts i d))(K Kp:AV->St->Prop) :
  XB Qaf base 86 [.ptr p 0,.lst S.length (S.map .str)] st K Kp=ifW (isM (tk ts i) S=true) (K (.tup [.agg (tk ts i).cells,.bool true]) (wr st p 0 (pC ts (i+1) d))) (K (.tup [.agg (tk ts i).cells,.bool false]) (wr st p 0 (pC ts i d))):=by
 have T:=jgO hb hi h2 (d:=d) S hS;cases h:isM (tk ts i) S with
 |true=>rw[K0 rfl];exact(T.1 h).xb C rfl (λst=>hb.no 86 (by decide) _ _) K Kp
 |false=>rw[K1 (by decide)];exact(T.2 h).xb C rfl (λst=>hb.no 86 (by decide) _ _) K Kp
theorem YN (hb:NB base){ts:List Tk}{i d:Nat}(hi:i<ts.length)(h2:i<=1000000)(S:List (List Nat)){cs:List AV}{n:Nat}(hc:S.map .str=cs)(hn:S.length=n)(hS:n<=1000000)(st:St)(p b m:Nat)(x:Bool)(C:Cl st p (pC ts i d))(D:Cl st b cs)(hne:p≠b)(K Kp:AV->St->Prop) :
  XB Qaf base 86 [.ptr p 0,.slice b 0 n m 1 x] st K Kp=ifW (isM (tk ts i) S=true) (K (.tup [.agg (tk ts i).cells,.bool true]) (wr (kl b st) p 0 (pC ts (i+1) d))) (K (.tup [.agg (tk ts i).cells,.bool false]) (wr (kl b st) p 0 (pC ts i d))):=by
 subst hc hn;have T:=jgO hb hi h2 (d:=d) S hS;have F:Fza st [.slice b 0 S.length m 1 x] [.lst S.length (S.map .str)] [b]:=Fza.sl D (by simp) (uM S) .nil;have C':Cl (kills [b] st) p (pC ts i d):=(jQ hne).symm▸C;cases h:isM (tk ts i) S with
 |true=>rw[K0 rfl];exact(T.1 h).xbk C' F rfl (λst=>hb.no 86 (by decide) _ _) K Kp
 |false=>rw[K1 (by decide)];exact(T.2 h).xbk C' F rfl (λst=>hb.no 86 (by decide) _ _) K Kp
theorem jkE (hb:NB base)(t:Tk)(S:List (List Nat)){cs:List AV}{n:Nat}(hc:S.map .str=cs)(hn:S.length=n)(hS:n<=1000000)(st:St)(b m:Nat)(x:Bool)(D:Cl st b cs)(K Kp:AV->St->Prop) :
  XB Qaf base 119 [.agg t.cells,.slice b 0 n m 1 x] st K Kp=K (.bool (isM t S)) (kl b st):=by
 subst hc hn;have F:Fza st [.agg t.cells,.slice b 0 S.length m 1 x] [.agg t.cells,.lst S.length (S.map .str)] [b]:=Fza.pa (by rfl) (Fza.sl D (by simp) (uM S) .nil);exact(jrb hb t S hS).xf F (λst=>hb.no 119 (by decide) _ _) K Kp
theorem jpW (hb:NB base){ts:List Tk}{i d:Nat}(hi:i<ts.length)(h2:i<=1000000)(c:List Nat) :
  (isM (tk ts i) [c]=true->PM Qaf base 121 (pC ts i d) [.str c] (.ok (.tup [])) (pC ts (i+1) d)) /\
  (isM (tk ts i) [c]=false->PM Qaf base 121 (pC ts i d) [.str c] (.pn (er (tk ts i))) (pC ts i d)):=by
 have T:=YN hb hi h2 (d:=d) [c] (cs:=[.str c]) (n:=1) rfl rfl (by decide);unfold pC at *;constructor<;>intro h
 ·refine j2 jo5 (by rfl) (hb.pur 121 3 (by decide)) rfl ?_;simp only[jjS,jt,Qai,Qaj,Qag,Qah];rw[(by unfold gB;simp only[qq];rfl:gB=_)];repeat'(first|(apply jc<;>intro _)|simp(disch:=first|exact dzD|fail) only[T,h,Qa hb,je,Tk.cells_R,rzZ,Qab,Qac,Qad,Qaa,Qae])
  (refine G1.done ?_ (by rfl) (by rfl) ?_;(· (first|exact cyD|fail));(· first|exact vyD|skip))
 ·refine j2 jo5 (by rfl) (hb.pur 121 3 (by decide)) rfl ?_;simp only[jjS,jt,Qai,Qaj,Qag,Qah];rw[(by unfold gB;simp only[qq];rfl:gB=_)];repeat'(first|(apply jc<;>intro _)|simp(disch:=first|exact dzD|fail) only[T,h,Qa hb,je,Tk.cells_R,rzZ,Qab,Qac,Qad,Qaa,Qae])
  (refine G1.done ?_ (by rfl) (by rfl) ?_;(· (first|exact cyD|fail));(· first|exact vyD|skip))
theorem PM.two {P:Program}{f:FuncId}{cs xs c1 c2:List AV}{o1 o2:Oc}{q:Bool}(h:(q=true->PM P base f cs xs o1 c1)/\(q=false->PM P base f cs xs o2 c2))(hp:xs.all pa=true)(hb:∀ p st,base.run f (.ptr p 0 :: xs) st=.no){st:St}{p:Nat}(C:Cl st p cs)(K Kp:AV->St->Prop) :
  XB P base f (.ptr p 0 :: xs) st K Kp=ifW (q=true) (Yo o1 K Kp (wr st p 0 c1)) (Yo o2 K Kp (wr st p 0 c2)):=by
 cases hq:q with
 |true=>rw[K0 rfl];exact(h.1 hq).xb C hp (hb p) K Kp
 |false=>rw[K1 (by decide)];exact(h.2 hq).xb C hp (hb p) K Kp
theorem QE (hb:NB base){ts:List Tk}{i d:Nat}(hi:i<ts.length)(h2:i<=1000000)(c:List Nat){st:St}{p:Nat}(C:Cl st p (pC ts i d))(K Kp:AV->St->Prop) :
  XB Qaf base 121 [.ptr p 0,.str c] st K Kp=ifW (isM (tk ts i) [c]=true) (K (.tup []) (wr st p 0 (pC ts (i+1) d))) (Kp (er (tk ts i)) (wr st p 0 (pC ts i d))):=
 PM.two (o1:=.ok _) (o2:=.pn _) (jpW hb hi h2 c) rfl (λ_ _=>hb.no 121 (by decide) _ _) C K Kp
theorem uS (hb:NB base){ts:List Tk}{i d:Nat}(hi:i<ts.length)(h2:i<=1000000){st:St}{p:Nat}(C:Cl st p (pC ts i d))(K Kp:AV->St->Prop) :
  XB Qaf base 120 [.ptr p 0] st K Kp=ifW (decide ((tk ts i).kind=1)=true) (K (.agg (tk ts i).cells) (wr st p 0 (pC ts (i+1) d))) (Kp (er (tk ts i)) (wr st p 0 (pC ts i d))):=by
 refine PM.two (o1:=.ok _) (o2:=.pn _) ?_ rfl (λ_ _=>hb.no 120 (by decide) _ _) C K Kp;have N:=λst p=>@YW base hb ts i d hi st p;unfold pC at *;clear C;constructor<;>intro h
 ·have h':((tk ts i).kind:Int)=1:=by simp at h;omega
  refine j2 jo6 (by rfl) (hb.pur 120 3 (by decide)) rfl ?_;simp only[jjT,jt,Qai,Qaj,Qag,Qah];rw[(by unfold jaT;simp only[qq];rfl:jaT=_)];repeat'(first|(apply jc<;>intro _)|simp(disch:=first|exact dzD|fail) only[N,h',Qa hb,je,Tk.cells_R,rzZ,Qab,Qac,Qad,Qaa,Qae])
  (refine G1.done ?_ (by rfl) (by rfl) ?_;(· (first|exact cyD|fail));(· first|exact vyD|skip))
 ·have h':¬ ((tk ts i).kind:Int)=1:=by simp at h;omega
  refine j2 jo6 (by rfl) (hb.pur 120 3 (by decide)) rfl ?_;simp only[jjT,jt,Qai,Qaj,Qag,Qah];rw[(by unfold jaT;simp only[qq];rfl:jaT=_)];repeat'(first|(apply jc<;>intro _)|simp(disch:=first|exact dzD|fail) only[N,h',Qa hb,je,Tk.cells_R,rzZ,Qab,Qac,Qad,Qaa,Qae])
  (refine G1.done ?_ (by rfl) (by rfl) ?_;(· (first|exact cyD|fail));(· first|exact vyD|skip))
theorem jhl (hb:NB base){ts:List Tk}{i d:Nat}(hi:i<ts.length)(h2:d<=1000000){st:St}{p:Nat}(C:Cl st p (pC ts i d))(K Kp:AV->St->Prop) :
  XB Qaf base 146 [.ptr p 0] st K Kp=ifW (decide (60<d+1)=true) (Kp (er (tk ts i)) (wr st p 0 (pC ts i (d+1)))) (K (.tup []) (wr st p 0 (pC ts i (d+1)))):=by
 refine PM.two (o1:=.pn _) (o2:=.ok _) ?_ rfl (λ_ _=>hb.no 146 (by decide) _ _) C K Kp;have N:=λst p=>@YW base hb ts i (d+1) hi st p;have e:((d:Int)+1)=((d+1:Nat):Int):=by omega
 unfold pC at *;clear C;constructor<;>intro h
 ·have h':(60:Int)<((d+1:Nat):Int):=by simp at h;omega
  refine j2 jo3 (by rfl) (hb.pur 146 3 (by decide)) rfl ?_;simp only[jjQ,jt,Qai,Qaj,Qag,Qah];rw[(by unfold jaR;simp only[qq];rfl:jaR=_)];repeat'(first|(apply jc<;>intro _)|simp(disch:=first|exact dzD|fail) only[N,h',Qa hb,e,je,Tk.cells_R,rzZ,Qab,Qac,Qad,Qaa,Qae])
  (refine G1.done ?_ (by rfl) (by rfl) ?_;(· (first|exact cyD|fail));(· first|exact vyD|skip))
 ·have h':¬ (60:Int)<((d+1:Nat):Int):=by simp at h;omega
  refine j2 jo3 (by rfl) (hb.pur 146 3 (by decide)) rfl ?_;simp only[jjQ,jt,Qai,Qaj,Qag,Qah];rw[(by unfold jaR;simp only[qq];rfl:jaR=_)];repeat'(first|(apply jc<;>intro _)|simp(disch:=first|exact dzD|fail) only[N,h',Qa hb,e,je,Tk.cells_R,rzZ,Qab,Qac,Qad,Qaa,Qae])
  (refine G1.done ?_ (by rfl) (by rfl) ?_;(· (first|exact cyD|fail));(· first|exact vyD|skip))
end Go.Sy
end
noncomputable section
set_option maxRecDepth 100000
namespace Go.Sy
open Go.Ev Go.Proofs
abbrev Lev:=List (List Nat)×Nat
def zo:List (List Nat):=[[45],[33],[88],[70],[71],[89],[90],[79],[72]]
def Ur (text:List Nat):Nat:=5+zo.idxOf text
inductive PR where
 |ok (x:Ex) (j:Nat)
 |er (t:Tk)
mutual
def yU (ts:List Tk):Nat->List Lev->Nat->Nat->Option PR
 |0,_,_,_=>none
 |n+1,[],i,d=>Qs ts n i d
 |n+1,v :: l,i,d=>match yU ts n l i d with
  |some (.ok x j)=>QR ts n v l x j d
  |r=>r
def QR (ts:List Tk):Nat->Lev->List Lev->Ex->Nat->Nat->Option PR
 |0,_,_,_,_,_=>none
 |n+1,v,l,x,i,d=>
  if isM (tk ts i) v.1=true then
   (if v.2=1 then(match yU ts n (v :: l) (i+1) d with
    |some (.ok y j)=>some (.ok (Qn (tk ts i) x y) j)
    |r=>r)
   else(match yU ts n l (i+1) d with
    |some (.ok y j)=>if v.2=2 then some (.ok (Qn (tk ts i) x y) j) else QR ts n v l (Qn (tk ts i) x y) j d
    |r=>r))
  else some (.ok x i)
def Qs (ts:List Tk):Nat->Nat->Nat->Option PR
 |0,_,_=>none
 |n+1,i,d=>
  if isM (tk ts i) zo=true then
   (if 60<d+1 then some (.er (tk ts (i+1))) else(match Qs ts n (i+1) (d+1) with
    |some (.ok x j)=>some (.ok (.mk (Ur (tk ts i).text:Nat) 0 [] [x] (tk ts i).line (tk ts i).col) j)
    |r=>r))
  else Yk ts n i d
def Yk (ts:List Tk):Nat->Nat->Nat->Option PR
 |0,_,_=>none
 |n+1,i,d=>
  if(tk ts i).kind=2 then some (.ok (.mk 1 (tk ts i).num [] [] (tk ts i).line (tk ts i).col) (i+1))
  else if(tk ts i).kind=1 then some (.ok (.mk 3 0 (tk ts i).text [] (tk ts i).line (tk ts i).col) (i+1))
  else if isM (tk ts i) [[116,114,117,101]]=true then some (.ok (.mk 2 1 [] [] (tk ts i).line (tk ts i).col) (i+1))
  else if isM (tk ts i) [[102,97,108,115,101]]=true then some (.ok (.mk 2 0 [] [] (tk ts i).line (tk ts i).col) (i+1))
  else if isM (tk ts i) [[40]]=true then
   (if 60<d+1 then some (.er (tk ts (i+1))) else(match yU ts n Ja (i+1) (d+1) with
    |some (.ok x j)=>if isM (tk ts j) [[41]]=true then some (.ok x (j+1)) else some (.er (tk ts j))
    |r=>r))
  else some (.er (tk ts i))
end
structure Wds (ts:List Tk):Prop where
 len:ts.length<=1000000
 next:∀ i,i<ts.length->(tk ts i).kind≠5->i+1<ts.length
 txt:∀ i,(tk ts i).text.length<=65536
theorem WG {t:Tk}{S:List (List Nat)}(h:isM t S=true):(t.kind=3\/t.kind=4)/\t.text∈S:=by
 simpa[isM] using h
theorem Wds.isM {ts:List Tk}(W:Wds ts){i:Nat}(hi:i<ts.length){S:List (List Nat)}(h:isM (tk ts i) S=true):i+1<ts.length:=W.next i hi (by have:=(WG h).1;omega)
def Sz (ts:List Tk)(i:Nat)(a:Nat)(r:PR):Prop:=match r with | .ok x j=>i<=j/\j<ts.length/\szE x<=a+(j - i) * 65537 | .er _=>True
theorem QX (op num:Int)(nm:List Nat)(ks:List Ex)(l c:Int):szE (.mk op num nm ks l c)=yF ks+nm.length+1:=rfl
theorem jmR (t:Tk)(x y:Ex):szE (Qn t x y)<=szE x+szE y+1:=by
 unfold Qn;split
 ·rw[QX];simp[yF]
 ·rw[QX];simp[yF]
theorem Ui {ts:List Tk}(W:Wds ts):∀ n,(∀ lv i d r,yU ts n lv i d=some r->i<ts.length->Sz ts i 0 r)/\(∀ v l x i d r,QR ts n v l x i d=some r->i<ts.length->Sz ts i (szE x) r)/\(∀ i d r,Qs ts n i d=some r->i<ts.length->Sz ts i 0 r)/\(∀ i d r,Yk ts n i d=some r->i<ts.length->Sz ts i 0 r):=by
 intro n;induction n with
 |zero=>exact⟨λ_ _ _ _ h=>(by simp[yU] at h),λ_ _ _ _ _ _ h=>(by simp[QR] at h),λ_ _ _ h=>(by simp[Qs] at h),λ_ _ _ h=>(by simp[Yk] at h)⟩
 |succ n ih=>
  obtain⟨iE,iL,iP,iV⟩:=ih;refine⟨λlv i d r h hi=>?_,λv l x i d r h hi=>?_,λi d r h hi=>?_,λi d r h hi=>?_⟩
  ·cases lv with
   |nil=>unfold yU at h;exact iP i d r h hi
   |cons v l=>
    unfold yU at h;cases hx:yU ts n l i d with
    |none=>rw[hx] at h;cases h
    |some q=>cases q with
     |er t=>rw[hx] at h;cases h;trivial
     |ok x j=>
      rw[hx] at h;have h1:=iE l i d _ hx hi;have h2:=iL v l x j d r h h1.2.1;cases r with
      |er t=>trivial
      |ok y k=>
       simp only[Sz] at h1 h2 ⊢;obtain⟨a1,a2,a3⟩:=h1;obtain⟨b1,b2,b3⟩:=h2;refine⟨by omega,b2,?_⟩;have:(k - i) * 65537=(k - j) * 65537+(j - i) * 65537:=by rw[<-Qbn];congr 1;omega
       omega
  ·unfold QR at h;by_cases c:isM (tk ts i) v.1=true
   ·rw[if_pos c] at h;have hi1:=W.isM hi c;have key:∀ lv y j,yU ts n lv (i+1) d=some (.ok y j)->i<=j/\j<ts.length/\szE (Qn (tk ts i) x y)<=szE x+(j - i) * 65537:=λlv y j he=>by
     have h1:=iE lv (i+1) d _ he hi1;simp only[Sz] at h1;obtain⟨a1,a2,a3⟩:=h1;have:=jmR (tk ts i) x y;have:(j - i) * 65537=(j - (i+1)) * 65537+65537:=by rw[<-Qbw];congr 1;omega
     exact⟨by omega,a2,by omega⟩
    by_cases w1:v.2=1
    ·rw[if_pos w1] at h;cases he:yU ts n (v :: l) (i+1) d with
     |none=>rw[he] at h;cases h
     |some q=>cases q with
      |er t=>rw[he] at h;cases h;trivial
      |ok y j=>rw[he] at h;cases h;exact key _ y j he
    ·rw[if_neg w1] at h;cases he:yU ts n l (i+1) d with
     |none=>rw[he] at h;cases h
     |some q=>cases q with
      |er t=>rw[he] at h;cases h;trivial
      |ok y j=>
       rw[he] at h;have hk:=key _ y j he;by_cases w2:v.2=2
       ·simp only[w2,if_true] at h;cases h;exact hk
       ·simp only[w2,if_false] at h;have h2:=iL v l _ j d r h hk.2.1;cases r with
        |er t=>trivial
        |ok z k=>
         simp only[Sz] at h2 ⊢;obtain⟨b1,b2,b3⟩:=h2;refine⟨by omega,b2,?_⟩;have:(k - i) * 65537=(k - j) * 65537+(j - i) * 65537:=by rw[<-Qbn];congr 1;omega
         omega
   ·rw[if_neg c] at h;cases h;exact⟨Qao _,hi,by omega⟩
  ·unfold Qs at h;by_cases c:isM (tk ts i) zo=true
   ·rw[if_pos c] at h;have hi1:=W.isM hi c;by_cases hd:60<d+1
    ·rw[if_pos hd] at h;cases h;trivial
    ·rw[if_neg hd] at h;cases he:Qs ts n (i+1) (d+1) with
     |none=>rw[he] at h;cases h
     |some q=>cases q with
      |er t=>rw[he] at h;cases h;trivial
      |ok y j=>
       rw[he] at h;cases h;have h1:=iP (i+1) (d+1) _ he hi1;simp only[Sz] at h1 ⊢;obtain⟨a1,a2,a3⟩:=h1;have:(j - i) * 65537=(j - (i+1)) * 65537+65537:=by rw[<-Qbw];congr 1;omega
       refine⟨by omega,a2,?_⟩;rw[QX];simp[yF];omega
   ·rw[if_neg c] at h;exact iV i d r h hi
  ·unfold Yk at h;have ht:=W.txt i;have leaf:∀ (x:Ex),szE x<=65537->i+1<ts.length->Sz ts i 0 (.ok x (i+1)):=λx hx h1=>⟨by omega,h1,by omega⟩;by_cases k2:(tk ts i).kind=2
   ·rw[if_pos k2] at h;cases h;exact leaf _ (by rw[QX];simp[yF]) (W.next i hi (by omega))
   rw[if_neg k2] at h;by_cases k1:(tk ts i).kind=1
   ·rw[if_pos k1] at h;cases h;exact leaf _ (by rw[QX];simp[yF];omega) (W.next i hi (by omega))
   rw[if_neg k1] at h;split at h
   ·cases h;exact leaf _ (by rw[QX];simp[yF]) (W.isM hi ‹_›)
   split at h
   ·cases h;exact leaf _ (by rw[QX];simp[yF]) (W.isM hi ‹_›)
   split at h
   ·rename_i c;have hi1:=W.isM hi c;by_cases hd:60<d+1
    ·rw[if_pos hd] at h;cases h;trivial
    ·rw[if_neg hd] at h;cases he:yU ts n Ja (i+1) (d+1) with
     |none=>rw[he] at h;cases h
     |some q=>cases q with
      |er t=>rw[he] at h;cases h;trivial
      |ok y j=>
       rw[he] at h;have h1:=iE Ja (i+1) (d+1) _ he hi1;simp only[Sz] at h1;obtain⟨a1,a2,a3⟩:=h1;dsimp only at h;by_cases c2:isM (tk ts j) [[41]]=true
       ·rw[if_pos c2] at h;cases h;have:=W.isM a2 c2;simp only[Sz];exact⟨by omega,this,Qaw a3 (Nat.add_le_add_left (QaM _ (by omega)) _)⟩
       ·rw[if_neg c2] at h;cases h;trivial
   ·cases h;trivial
end Go.Sy
end
noncomputable section
set_option maxRecDepth 100000
namespace Go.Sy
open Go.Ev Go.Proofs
variable {base:Bs}
def Ans (base:Bs)(f:FuncId)(c xs:List AV)(ts:List Tk)(d:Nat):PR->Prop
 |.ok x j=>PM Qaf base f c xs (.ok (.agg (eE x))) (pC ts j d)
 |.er t=>∃ i' d',PM Qaf base f c xs (.pn (er t)) (pC ts i' d')
def okL (lv:List Lev):Prop:=lv.length<=8/\∀ v∈lv,v.1.length<=6
def IsE (base:Bs)(ts:List Tk)(n:Nat):Prop:=∀ lv i d r,yU ts n lv i d=some r->i<ts.length->d<=60->okL lv->Ans base 100 (pC ts i d) [.lst lv.length (fl Q3 lv)] ts d r
def IsP (base:Bs)(ts:List Tk)(n:Nat):Prop:=∀ i d r,Qs ts n i d=some r->i<ts.length->d<=60->Ans base 128 (pC ts i d) [] ts d r
def IsV (base:Bs)(ts:List Tk)(n:Nat):Prop:=∀ i d r,Yk ts n i d=some r->i<ts.length->d<=60->Ans base 145 (pC ts i d) [] ts d r
theorem jti:Go.Ev.isAgg Qaf 2=some false:=by kernel_rfl
theorem jth:Go.Ev.sizeOf Qaf 2=some 1:=by kernel_rfl
theorem jru:Go.Ev.isAgg Qaf 146=some true:=by kernel_rfl
theorem jrt:Go.Ev.sizeOf Qaf 146=some 5:=by kernel_rfl
theorem sm2 {b o:Nat}{v:AV}{h:T AO}(ho:o<qt h b)(hv:rat h b o=v)(hc:eqs v=true):(jX Qaf 2 (.ptr b o) v h=true)=True:=eq_true (J4 jti jth ho hv hc)
theorem sm9 {b o:Nat}{v:AV}{h:T AO}(ho:o<qt h b)(hv:rat h b o=v)(hc:eqs v=true):(jX Qaf 9 (.ptr b o) v h=true)=True:=eq_true (J4 jj2 jj1 ho hv hc)
theorem yO (k:IntKind)(n:Int):eqs (.int k n)=true:=nr rfl
theorem yN (l:List Nat):eqs (.str l)=true:=nr rfl
set_option maxHeartbeats 4000000 in
theorem jmH (hb:NB base){ts:List Tk}(W:Wds ts){n:Nat}(ihE:IsE base ts n):IsV base ts (n+1):=by
 intro i d r h hi hd;have hN:=λst p=>@YW base hb ts i d hi st p;have wl:=W.len;have hx:(i:Int)+1=((i+1:Nat):Int):=by omega
 unfold Yk at h;by_cases k2:(tk ts i).kind=2
 ·rw[if_pos k2] at h;cases h;have k2':((tk ts i).kind:Int)=2:=by omega
  show PM _ _ _ _ _ _ _;unfold pC at *;refine j2 Wc (by rfl) (hb.pur 145 3 (by decide)) rfl ?_;simp only[ut,jt,Qai,Qaj,Qag,Qah];rw[(by unfold Ql;simp only[qq];rfl:Ql=_)]
  (have zz:=aI @yO @yN;(repeat'(first|(apply jc<;>intro _)|simp(disch:=first|exact qO|fail) only[hN,k2',sm2,yO,yN,je,Tk.cells_R,rzZ,Qab,Qac,Qad,Qaa,Qae]));(all_goals(clear zz)))
  (refine G1.done ?_ (by rfl) (by rfl) ?_;(· (first|exact cyD|fail));(· first|exact vyD|skip))
 rw[if_neg k2] at h;have k2':¬ ((tk ts i).kind:Int)=2:=by omega
 by_cases k1:(tk ts i).kind=1
 ·rw[if_pos k1] at h;cases h;have k1':((tk ts i).kind:Int)=1:=by omega
  show PM _ _ _ _ _ _ _;unfold pC at *;refine j2 Wc (by rfl) (hb.pur 145 3 (by decide)) rfl ?_;simp only[ut,jt,Qai,Qaj,Qag,Qah];rw[(by unfold Ql;simp only[qq];rfl:Ql=_)]
  (have zz:=aI @yO @yN;(repeat'(first|(apply jc<;>intro _)|simp(disch:=first|exact qO|fail) only[hN,k2',k1',sm9,yO,yN,je,Tk.cells_R,rzZ,Qab,Qac,Qad,Qaa,Qae]));(all_goals(clear zz)))
  (refine G1.done ?_ (by rfl) (by rfl) ?_;(· (first|exact cyD|fail));(· first|exact vyD|skip))
 rw[if_neg k1] at h;have k1':¬ ((tk ts i).kind:Int)=1:=by omega
 have T:=jkE hb (tk ts i) [[116,114,117,101]] (cs:=[.str [116,114,117,101]]) (n:=1) rfl rfl (by decide);have F:=jkE hb (tk ts i) [[102,97,108,115,101]] (cs:=[.str [102,97,108,115,101]]) (n:=1) rfl rfl (by decide);have B:=jkE hb (tk ts i) [[40]] (cs:=[.str [40]]) (n:=1) rfl rfl (by decide);by_cases c1:isM (tk ts i) [[116,114,117,101]]=true
 ·rw[if_pos c1] at h;cases h;show PM _ _ _ _ _ _ _;unfold pC at *;refine j2 Wc (by rfl) (hb.pur 145 3 (by decide)) rfl ?_;simp only[ut,jt,Qai,Qaj,Qag,Qah];rw[(by unfold Ql;simp only[qq];rfl:Ql=_)];repeat'(first|(apply jc<;>intro _)|simp(disch:=first|exact dzD|fail) only[hN,k2',k1',T,c1,je,Tk.cells_R,rzZ,Qab,Qac,Qad,Qaa,Qae])
  (refine G1.done ?_ (by rfl) (by rfl) ?_;(· (first|exact cyD|fail));(· first|exact vyD|skip))
 rw[if_neg c1] at h;by_cases c2:isM (tk ts i) [[102,97,108,115,101]]=true
 ·rw[if_pos c2] at h;cases h;show PM _ _ _ _ _ _ _;unfold pC at *;refine j2 Wc (by rfl) (hb.pur 145 3 (by decide)) rfl ?_;simp only[ut,jt,Qai,Qaj,Qag,Qah];rw[(by unfold Ql;simp only[qq];rfl:Ql=_)];repeat'(first|(apply jc<;>intro _)|simp(disch:=first|exact dzD|fail) only[hN,k2',k1',T,F,c1,c2,je,Tk.cells_R,rzZ,Qab,Qac,Qad,Qaa,Qae])
  (refine G1.done ?_ (by rfl) (by rfl) ?_;(· (first|exact cyD|fail));(· first|exact vyD|skip))
 rw[if_neg c2] at h;by_cases c3:isM (tk ts i) [[40]]=true
 ·rw[if_pos c3] at h;have hi1:=W.isM hi c3;have O:=λst p=>@jhl base hb ts (i+1) d hi1 (by omega) st p;by_cases hd2:60<d+1
  ·rw[if_pos hd2] at h;cases h;refine⟨i+1,d+1,?_⟩;unfold pC at *;refine j2 Wc (by rfl) (hb.pur 145 3 (by decide)) rfl ?_;simp only[ut,jt,Qai,Qaj,Qag,Qah];rw[(by unfold Ql;simp only[qq];rfl:Ql=_)];repeat'(first|(apply jc<;>intro _)|simp(disch:=first|exact dzD|fail) only[hN,k2',k1',T,F,B,c1,c2,c3,O,hx,hd2,je,Tk.cells_R,rzZ,Qab,Qac,Qad,Qaa,Qae])
   (refine G1.done ?_ (by rfl) (by rfl) ?_;(· (first|exact cyD|fail));(· first|exact vyD|skip))
  ·rw[if_neg hd2] at h;cases he:yU ts n Ja (i+1) (d+1) with
   |none=>rw[he] at h;cases h
   |some q=>
    have A:=ihE _ _ _ _ he hi1 (by omega) ⟨by decide,by decide⟩;have hL:=jbK hb;have hz:=(Ui W n).1 _ _ _ _ he hi1;cases q with
    |er t=>
     rw[he] at h;cases h;obtain⟨i',d',A⟩:=A;have E:∀ st p,Cl st p (pC ts (i+1) (d+1))->∀ K Kp,XB Qaf base 100 [.ptr p 0,.lst 8 (fl Q3 Ja)] st K Kp=_:=λst p C K Kp=>A.xb C rfl (λst=>hb.no 100 (by decide) _ _) K Kp;refine⟨i',d',?_⟩;unfold pC at *;refine j2 Wc (by rfl) (hb.pur 145 3 (by decide)) rfl ?_;simp only[ut,jt,Qai,Qaj,Qag,Qah];rw[(by unfold Ql;simp only[qq];rfl:Ql=_)];repeat'(first|(apply jc<;>intro _)|simp(disch:=first|exact dzD|fail) only[hN,k2',k1',T,F,B,c1,c2,c3,O,hx,hd2,hL,E,je,Tk.cells_R,rzZ,Qab,Qac,Qad,Qaa,Qae])
     (refine G1.done ?_ (by rfl) (by rfl) ?_;(· (first|exact cyD|fail));(· first|exact vyD|skip))
    |ok x j=>
     rw[he] at h;dsimp only at h;have A:PM _ _ _ _ _ _ _:=A;have E:∀ st p,Cl st p (pC ts (i+1) (d+1))->∀ K Kp,XB Qaf base 100 [.ptr p 0,.lst 8 (fl Q3 Ja)] st K Kp=_:=λst p C K Kp=>A.xb C rfl (λst=>hb.no 100 (by decide) _ _) K Kp;have hj:j<ts.length:=hz.2.1;have M:=λst p=>@QE base hb ts j d hj (by omega) [41] st p;have e1:((d+1:Nat):Int) - 1=(d:Int):=by omega
     by_cases c4:isM (tk ts j) [[41]]=true
     ·rw[if_pos c4] at h;cases h;show PM _ _ _ _ _ _ _;unfold pC at *;refine j2 Wc (by rfl) (hb.pur 145 3 (by decide)) rfl ?_;simp only[ut,jt,Qai,Qaj,Qag,Qah];rw[(by unfold Ql;simp only[qq];rfl:Ql=_)];repeat'(first|(apply jc<;>intro _)|simp(disch:=first|exact dzD|fail) only[hN,k2',k1',T,F,B,c1,c2,c3,O,hx,hd2,hL,E,e1,M,c4,je,Tk.cells_R,rzZ,Qab,Qac,Qad,Qaa,Qae])
      (refine G1.done ?_ (by rfl) (by rfl) ?_;(· (first|exact cyD|fail));(· first|exact vyD|skip))
     ·rw[if_neg c4] at h;cases h;refine⟨j,d,?_⟩;unfold pC at *;refine j2 Wc (by rfl) (hb.pur 145 3 (by decide)) rfl ?_;simp only[ut,jt,Qai,Qaj,Qag,Qah];rw[(by unfold Ql;simp only[qq];rfl:Ql=_)];repeat'(first|(apply jc<;>intro _)|simp(disch:=first|exact dzD|fail) only[hN,k2',k1',T,F,B,c1,c2,c3,O,hx,hd2,hL,E,e1,M,c4,je,Tk.cells_R,rzZ,Qab,Qac,Qad,Qaa,Qae])
      (refine G1.done ?_ (by rfl) (by rfl) ?_;(· (first|exact cyD|fail));(· first|exact vyD|skip))
 ·rw[if_neg c3] at h;cases h;refine⟨i,d,?_⟩;unfold pC at *;refine j2 Wc (by rfl) (hb.pur 145 3 (by decide)) rfl ?_;simp only[ut,jt,Qai,Qaj,Qag,Qah];rw[(by unfold Ql;simp only[qq];rfl:Ql=_)];repeat'(first|(apply jc<;>intro _)|simp(disch:=first|exact dzD|fail) only[hN,k2',k1',T,F,B,c1,c2,c3,Qa hb,je,Tk.cells_R,rzZ,Qab,Qac,Qad,Qaa,Qae])
  (refine G1.done ?_ (by rfl) (by rfl) ?_;(· (first|exact cyD|fail));(· first|exact vyD|skip))
end Go.Sy
end
noncomputable section
set_option maxRecDepth 100000
namespace Go.Sy
open Go.Ev Go.Proofs
variable {base:Bs}
theorem jdp:∀ k:Nat,k<9->sgn ((5+k:Nat):Int)=zo.getD k []:=by decide
theorem jnq {x:List Nat}(h:x∈zo):zo.idxOf x<9/\sgn ((5+zo.idxOf x:Nat):Int)=x/\∀ j,j<zo.idxOf x->sgn ((5+j:Nat):Int)≠x:=by
 have h9:zo.idxOf x<9:=List.idxOf_lt_length_of_mem h;refine⟨h9,?_,λj hj=>?_⟩
 ·rw[jdp _ h9,Qax,Qau (show zo.idxOf x<zo.length from h9)];simp
 ·rw[jdp _ (by omega),Qax,Qau (show j<zo.length by show j<9;omega)];intro he;have hlt:j<zo.findIdx (· == x):=hj;have hno:=List.not_of_lt_findIdx hlt;have he':zo[j]'(show j<zo.length by show j<9;omega)=x:=he;rw[he'] at hno;simp at hno
set_option maxHeartbeats 4000000 in
theorem jkn (hb:NB base){ts:List Tk}(W:Wds ts){n:Nat}(ihP:IsP base ts n)(ihV:IsV base ts n):IsP base ts (n+1):=by
 intro i d r h hi hd;have wl:=W.len;have hx:(i:Int)+1=((i+1:Nat):Int):=by omega
 have T:=YN hb hi (d:=d) (by omega) zo (cs:=[.str [45],.str [33],.str [88],.str [70],.str [71],.str [89],.str [90],.str [79],.str [72]]) (n:=9) rfl rfl (by decide);unfold Qs at h;by_cases c1:isM (tk ts i) zo=true
 ·rw[if_pos c1] at h;have hi1:=W.isM hi c1;have O:=λst p=>@jhl base hb ts (i+1) d hi1 (by omega) st p;by_cases hd2:60<d+1
  ·rw[if_pos hd2] at h;cases h;refine⟨i+1,d+1,?_⟩;unfold pC at *;refine j2 ja6 (by rfl) (hb.pur 128 3 (by decide)) rfl ?_;simp only[gD,jt,Qai,Qaj,Qag,Qah];rw[(by unfold wZ;simp only[qq];rfl:wZ=_)];repeat'(first|(apply jc<;>intro _)|simp(disch:=first|exact dzD|fail) only[T,c1,O,hd2,je,Tk.cells_R,rzZ,Qab,Qac,Qad,Qaa,Qae])
   (refine G1.done ?_ (by rfl) (by rfl) ?_;(· (first|exact cyD|fail));(· first|exact vyD|skip))
  ·rw[if_neg hd2] at h;cases he:Qs ts n (i+1) (d+1) with
   |none=>rw[he] at h;cases h
   |some q=>
    have A:=ihP _ _ _ he hi1 (by omega);have hz:=(Ui W n).2.2.1 _ _ _ he hi1;cases q with
    |er t=>
     rw[he] at h;cases h;obtain⟨i',d',A⟩:=A;have E:∀ st p,Cl st p (pC ts (i+1) (d+1))->∀ K Kp,XB Qaf base 128 [.ptr p 0] st K Kp=_:=λst p C K Kp=>A.xb C rfl (λst=>hb.no 128 (by decide) _ _) K Kp;refine⟨i',d',?_⟩;unfold pC at *;refine j2 ja6 (by rfl) (hb.pur 128 3 (by decide)) rfl ?_;simp only[gD,jt,Qai,Qaj,Qag,Qah];rw[(by unfold wZ;simp only[qq];rfl:wZ=_)];repeat'(first|(apply jc<;>intro _)|simp(disch:=first|exact dzD|fail) only[T,c1,O,hd2,E,je,Tk.cells_R,rzZ,Qab,Qac,Qad,Qaa,Qae])
     (refine G1.done ?_ (by rfl) (by rfl) ?_;(· (first|exact cyD|fail));(· first|exact vyD|skip))
    |ok x j=>
     rw[he] at h;cases h;have A:PM _ _ _ _ _ _ _:=A;have E:∀ st p,Cl st p (pC ts (i+1) (d+1))->∀ K Kp,XB Qaf base 128 [.ptr p 0] st K Kp=_:=λst p C K Kp=>A.xb C rfl (λst=>hb.no 128 (by decide) _ _) K Kp;have hj:j<ts.length:=hz.2.1;have e1:((d+1:Nat):Int) - 1=(d:Int):=by omega
     show PM _ _ _ _ _ _ _;unfold pC at *;refine j2 ja6 (by rfl) (hb.pur 128 3 (by decide)) rfl ?_;simp only[gD,jt,Qai,Qaj,Qag,Qah];rw[(by unfold wZ;simp only[qq];rfl:wZ=_)];repeat'(first|(apply jc<;>intro _)|simp(disch:=first|exact dzD|fail) only[T,c1,O,hd2,E,e1,je,Tk.cells_R,rzZ,Qab,Qac,Qad,Qaa,Qae])
     obtain⟨x1,x2,x3⟩:=jnq (WG c1).2;refine uI λu hu=>?_;have n0:u.nx=5:=by rw[hu];rfl
     have C0:Cl u 0 [.lst ts.length (fl Tk.cells ts),.int .i64 (j:Int),.int .i64 (d:Int)]:=by
      rw[hu]
      (first|exact cyD|fail)
     have C1:Cl u 1 [.int .i64 0,.int .i64 0,.str [],.nils,.int .i64 0,.int .i64 0]:=by
      rw[hu]
      (first|exact cyD|fail)
     have C3:Cl u 3 (tk ts i).cells:=by
      rw[hu]
      (first|exact cyD|fail)
     have C4:Cl u 4 (eE x):=by
      rw[hu]
      (first|exact cyD|fail)
     clear hu;have hs:jX Qaf 9 (.ptr 3 1) (.str (tk ts i).text) u.h=true:=Kg jj2 jj1 C3 (QbS (Qbr 3)) rfl rfl;refine zj (λmm L s=>∃ k:Nat,k<=zo.idxOf (tk ts i).text/\mm=zo.idxOf (tk ts i).text - k/\s=u/\Has L 0 (.ptr 0 0)/\Has L 2 (.ptr 1 0)/\Has L 3 (.ptr 3 0)/\Has L 5 (.ptr 4 0)/\Has L 6 (.int .i64 ((5+k:Nat):Int))) ?_ (zo.idxOf (tk ts i).text) ?_
     ·rintro mm L s ⟨k,hk,rfl,rfl,i0,i2,i3,i5,i6⟩;have hS:=jiI hb ((5+k:Nat):Int);by_cases hk2:k=zo.idxOf (tk ts i).text
      ·rw[<-hk2] at x2
       (have zz:=aI @n0 (aI C0.r (aI C1.r (aI C3.r C4.r)));(repeat'(first|(apply jc<;>intro _)|simp(disch:=first|exact qO|fail) only[ja i0,ja i2,ja i3,ja i5,ja i6,hS,hs,x2,C0.q,C1.q,C3.q,C4.q,n0,C0.r,C1.r,C3.r,C4.r,je,Tk.cells_R,rzZ,Qab,Qac,Qad,Qaa,Qae]));(all_goals(clear zz)))
       rw[show Ur (tk ts i).text=5+k by unfold Ur;rw[<-hk2],<-qG];refine G1.done ?_ (by rfl) (by rfl) (jdE (ks:=[x]) (b:=5) (cs:=eE x) ?_ (by rw[JL]) (by decide))
       ·(have zz:=aI C0.q (aI @n0 C0.r);first|exact qm|fail)
       ·rw[jz,jB (by decide),<-n0];exact Cl.new s _
      ·have x3':=x3 k (by omega)
       (have zz:=aI @n0 (aI C0.r (aI C1.r (aI C3.r C4.r)));(repeat'(first|(apply jc<;>intro _)|simp(disch:=first|exact qO|fail) only[ja i0,ja i2,ja i3,ja i5,ja i6,hS,hs,x3',C0.q,C1.q,C3.q,C4.q,n0,C0.r,C1.r,C3.r,C4.r,je,Tk.cells_R,rzZ,Qab,Qac,Qad,Qaa,Qae]));(all_goals(clear zz)))
       refine⟨zo.idxOf (tk ts i).text - (k+1),by omega,k+1,by omega,rfl,?_⟩;rw[show((5+(k+1):Nat):Int)=((5+k:Nat):Int)+1 by omega];simp(disch:=decide) only[Qam,Qaq,z0,z1,jf,jb,and_true,true_and,i0,i2,i3,i5]
     ·refine⟨0,by omega,rfl,rfl,?_⟩;rw[show((5+0:Nat):Int)=5 from rfl];simp(disch:=decide) only[Qam,Qaq,z0,z1,jf,jb,and_true,true_and]
 ·rw[if_neg c1] at h;have A:=ihV _ _ _ h hi hd;cases r with
  |er t=>
   obtain⟨i',d',A⟩:=A;have E:∀ st p,Cl st p (pC ts i d)->∀ K Kp,XB Qaf base 145 [.ptr p 0] st K Kp=_:=λst p C K Kp=>A.xb C rfl (λst=>hb.no 145 (by decide) _ _) K Kp;refine⟨i',d',?_⟩;unfold pC at *;refine j2 ja6 (by rfl) (hb.pur 128 3 (by decide)) rfl ?_;simp only[gD,jt,Qai,Qaj,Qag,Qah];rw[(by unfold wZ;simp only[qq];rfl:wZ=_)];repeat'(first|(apply jc<;>intro _)|simp(disch:=first|exact dzD|fail) only[T,c1,E,je,Tk.cells_R,rzZ,Qab,Qac,Qad,Qaa,Qae])
   (refine G1.done ?_ (by rfl) (by rfl) ?_;(· (first|exact cyD|fail));(· first|exact vyD|skip))
  |ok x j=>
   have A:PM _ _ _ _ _ _ _:=A;have E:∀ st p,Cl st p (pC ts i d)->∀ K Kp,XB Qaf base 145 [.ptr p 0] st K Kp=_:=λst p C K Kp=>A.xb C rfl (λst=>hb.no 145 (by decide) _ _) K Kp;show PM _ _ _ _ _ _ _;unfold pC at *;refine j2 ja6 (by rfl) (hb.pur 128 3 (by decide)) rfl ?_;simp only[gD,jt,Qai,Qaj,Qag,Qah];rw[(by unfold wZ;simp only[qq];rfl:wZ=_)];repeat'(first|(apply jc<;>intro _)|simp(disch:=first|exact dzD|fail) only[T,c1,E,je,Tk.cells_R,rzZ,Qab,Qac,Qad,Qaa,Qae])
   (refine G1.done ?_ (by rfl) (by rfl) ?_;(· (first|exact cyD|fail));(· first|exact vyD|skip))
end Go.Sy
end
noncomputable section
set_option maxRecDepth 100000
namespace Go.Sy
open Go.Ev Go.Proofs
variable {base:Bs}
theorem kW {α:Type}{enc:α->List AV}{z:Nat}(hz:∀ x,(enc x).length=z)(x:α)(xs:List α){k:IntKind}{n:Nat}(hn:n=xs.length+1){st:St}{K:AV->St->Prop}:jl (w9 z (.lst n (fl enc (x :: xs))) (some (.int k 1)) none st) K=K (.lst xs.length (fl enc xs)) st:=by
 subst hn;have e1:Qap 1 (xs.length+1)=true:=q9 (by omega);have e2:Qap (xs.length+1) (xs.length+1)=true:=q9 (Qao _);have e3:Qap (Qav (xs.length+1) z) (jP (fl enc (x :: xs)))=true:=q9 (by rw[jR,zY hz];exact Qao _);have e4:(AV.int k 1)=.int k ((1:Nat):Int):=rfl;have e5:yu (zt (fl enc (x :: xs)) (Qav 1 z)) (Qav (Qbh (xs.length+1) 1) z)=fl enc xs:=by
  rw[yb,yX];show((fl enc (x :: xs)).drop (1 * z)).take ((xs.length+1 - 1) * z)=_;rw[Gf hz,Nat.add_sub_cancel];show(fl enc xs).take _=_;rw[<-zY hz,Qaz]
 rw[e4];simp only[w9,optA,gX,e1,e2,e3,cond_true,jl];rw[e5];rfl
theorem vj (v:Lev):(Q3 v).length=2:=nr rfl
theorem Uy (v:Lev)(l:List Lev){st:St}{K:AV->St->Prop}:jl (qX (.lptr (fl Q3 (v :: l)) 0) st) K=K (.lst v.1.length (v.1.map .str)) st:=zU (by rw[Xy,Qal,vj];omega)
theorem KK (v:Lev)(l:List Lev){st:St}{K:AV->St->Prop}:jl (qX (.lptr (fl Q3 (v :: l)) 1) st) K=K (.int .i64 (v.2:Int)) st:=zU (by rw[Xy,Qal,vj];omega)
theorem jbh {b:Nat}{cs:List AV}{h:T AO}(ho:0+5<=qt h b)(hv:rats h b 0 5=cs)(hc:cs.all eqs=true):(jX Qaf 146 (.ptr b 0) (.agg cs) h=true)=True:=eq_true (YR jru jrt (by decide) ho hv hc)
theorem QM {b:Nat}{cs:List AV}{h:T AO}(ho:0+6<=qt h b)(hv:rats h b 0 6=cs)(hc:cs.all eqs=true):(jX Qaf 29 (.ptr b 0) (.agg cs) h=true)=True:=eq_true (YR HU HT (by decide) ho hv hc)
theorem QO (x:Ex):(eE x).all eqs=true:=nr (by rw[qG];rfl)
theorem uH (t:Tk):t.cells.all eqs=true:=nr rfl
def EK (ts:List Tk)(d:Nat)(r:PR)(v:AV)(s:St):Prop:=match r with | .ok y j=>G1 3 (pC ts j d) (.agg (eE y)) v s | .er _=>False
def EP (ts:List Tk)(r:PR)(v:AV)(s:St):Prop:=match r with | .ok _ _=>False | .er t=>∃ i' d',G1 3 (pC ts i' d') (er t) v s
theorem jfH (ts:List Tk)(d:Nat)(y:Ex)(j:Nat)(v:AV)(s:St):EK ts d (.ok y j) v s=G1 3 (pC ts j d) (.agg (eE y)) v s:=nr rfl
theorem jml (ts:List Tk)(t:Tk)(v:AV)(s:St):EP ts (.er t) v s = ∃ i' d',G1 3 (pC ts i' d') (er t) v s:=nr rfl
theorem jk3 {f:FuncId}{F:XF}(hl:jy Qaf f=some F)(hnd:F.body.nd=true)(hm:base.pur f=3){xs:List AV}{ts:List Tk}{i d:Nat}{r:PR}
  (h:xC Qaf base F.body (jt F.ps (.ptr 0 0 :: xs)) (nw st0 (pC ts i d)) (Xa Qaf F.res (EK ts d r)) λv _ s=>EP ts r v s.bare):Ans base f (pC ts i d) xs ts d r:=by
 rw[<-gZ] at h;obtain⟨q,he,hq⟩:=Yr (st:=Zp (pC ts i d)) (K:=EK ts d r) (Kp:=EP ts r) hl hnd h;cases r with
 |ok y j=>
  refine PM.of hm rfl ⟨q,he,?_⟩;cases q<;>first|exact hq|exact hq.elim
 |er t=>
  cases q with
  |no=>exact hq.elim
  |ok v s=>exact(hq:False).elim
  |pn v s=>
   obtain⟨i',d',hq⟩:=(hq:∃ i' d',G1 3 (pC ts i' d') (er t) v s);exact⟨i',d',PM.of hm rfl ⟨_,he,hq⟩⟩
set_option maxHeartbeats 4000000 in
theorem jqj (hb:NB base){ts:List Tk}(W:Wds ts){n:Nat}(ihE:∀ m,m<=n->IsE base ts m)(ihP:IsP base ts n):IsE base ts (n+1):=by
 intro lv i d r h hi hd ok;have wl:=W.len;unfold yU at h;cases lv with
 |nil=>
  dsimp only at h;have A:=ihP _ _ _ h hi hd;cases r with
  |er t=>
   obtain⟨i',d',A⟩:=A;have E:∀ st p,Cl st p (pC ts i d)->∀ K Kp,XB Qaf base 128 [.ptr p 0] st K Kp=_:=λst p C K Kp=>A.xb C rfl (λst=>hb.no 128 (by decide) _ _) K Kp;refine⟨i',d',?_⟩;unfold pC at *;refine j2 x93 (by rfl) (hb.pur 100 3 (by decide)) rfl ?_;simp only[y93,jt,Qai,Qaj,Qag,Qah];rw[(by unfold z93;simp only[qq];rfl:z93=_)];repeat'(first|(apply jc<;>intro _)|simp(disch:=first|exact dzD|fail) only[E,je,Tk.cells_R,rzZ,Qab,Qac,Qad,Qaa,Qae])
   (refine G1.done ?_ (by rfl) (by rfl) ?_;(· (first|exact cyD|fail));(· first|exact vyD|skip))
  |ok x j=>
   have A:PM _ _ _ _ _ _ _:=A;have E:∀ st p,Cl st p (pC ts i d)->∀ K Kp,XB Qaf base 128 [.ptr p 0] st K Kp=_:=λst p C K Kp=>A.xb C rfl (λst=>hb.no 128 (by decide) _ _) K Kp;show PM _ _ _ _ _ _ _;unfold pC at *;refine j2 x93 (by rfl) (hb.pur 100 3 (by decide)) rfl ?_;simp only[y93,jt,Qai,Qaj,Qag,Qah];rw[(by unfold z93;simp only[qq];rfl:z93=_)];repeat'(first|(apply jc<;>intro _)|simp(disch:=first|exact dzD|fail) only[E,je,Tk.cells_R,rzZ,Qab,Qac,Qad,Qaa,Qae])
   (refine G1.done ?_ (by rfl) (by rfl) ?_;(· (first|exact cyD|fail));(· first|exact vyD|skip))
 |cons v l=>
  dsimp only at h;have hlen:(0:Int)<((l.length+1:Nat):Int):=by omega
  have hlen2:¬ ((l.length+1:Nat):Int)=0:=by omega
  cases he:yU ts n l i d with
  |none=>rw[he] at h;cases h
  |some q=>
   have A:=ihE n (Qao _) _ _ _ _ he hi hd ⟨by have:=ok.1;simp at this;omega,λw hw=>ok.2 w (Qca _ hw)⟩;have hz:=(Ui W n).1 _ _ _ _ he hi;cases q with
   |er t=>
    rw[he] at h;cases h;obtain⟨i',d',A⟩:=A;have E:∀ st p,Cl st p (pC ts i d)->∀ K Kp,XB Qaf base 100 [.ptr p 0,.lst l.length (fl Q3 l)] st K Kp=_:=λst p C K Kp=>A.xb C rfl (λst=>hb.no 100 (by decide) _ _) K Kp;refine⟨i',d',?_⟩;unfold pC at *;refine j2 x93 (by rfl) (hb.pur 100 3 (by decide)) rfl ?_;simp only[y93,jt,Qai,Qaj,Qag,Qah];rw[(by unfold z93;simp only[qq];rfl:z93=_)];repeat'(first|(apply jc<;>intro _)|simp(disch:=first|exact dzD|fail) only[E,hlen2,kW vj v l,je,Tk.cells_R,rzZ,Qab,Qac,Qad,Qaa,Qae])
    (refine G1.done ?_ (by rfl) (by rfl) ?_;(· (first|exact cyD|fail));(· first|exact vyD|skip))
   |ok x j=>
    rw[he] at h;dsimp only at h;have A:PM _ _ _ _ _ _ _:=A;have E:∀ st p,Cl st p (pC ts i d)->∀ K Kp,XB Qaf base 100 [.ptr p 0,.lst l.length (fl Q3 l)] st K Kp=_:=λst p C K Kp=>A.xb C rfl (λst=>hb.no 100 (by decide) _ _) K Kp;have hj:j<ts.length:=hz.2.1;show Ans base 100 (pC ts i d) [.lst (v :: l).length (fl Q3 (v :: l))] ts d r;refine jk3 x93 (by rfl) (hb.pur 100 3 (by decide)) ?_;simp only[y93,jt,Qai,Qaj,Qag,Qah];rw[(by unfold z93;simp only[qq];rfl:z93=_)];unfold pC at *;repeat'(first|(apply jc<;>intro _)|simp(disch:=first|exact dzD|fail) only[E,hlen2,kW vj v l,je,Tk.cells_R,rzZ,Qab,Qac,Qad,Qaa,Qae])
    refine uI λu hu=>?_;have n0:3<=u.nx:=by rw[hu];exact Qao _
    have C0:Cl u 0 (pC ts j d):=by
     rw[hu];unfold pC
     (first|exact cyD|fail)
    have C1:Cl u 1 [.int .i64 0,.int .i64 0,.str [],.nils,.int .i64 0,.int .i64 0]:=by
     rw[hu]
     (first|exact cyD|fail)
    have C2:Cl u 2 (eE x):=by
     rw[hu]
     (first|exact cyD|fail)
    clear hu E A;refine zj (λmm L s=>∃ (m i':Nat) (x':Ex),m<=n/\mm=m/\QR ts m v l x' i' d=some r/\i'<ts.length/\3<=s.nx/\Cl s 0 (pC ts i' d)/\Cl s 1 [.int .i64 0,.int .i64 0,.str [],.nils,.int .i64 0,.int .i64 0]/\Cl s 2 (eE x')/\Has L 0 (.ptr 0 0)/\Has L 1 (.lst (l.length+1) (fl Q3 (v :: l)))/\Has L 4 (.ptr 1 0)/\Has L 5 (.ptr 2 0)) ?_ n ?_
    ·rintro m L s ⟨_,i',x',hm,rfl,hl,hi',n0,C0,C1,C2,i0,i1,i4,i5⟩;cases m with
     |zero=>simp[QR] at hl
     |succ m=>
     unfold QR at hl;have hx:(i':Int)+1=((i'+1:Nat):Int):=by omega
     have T:=λst p=>@jps base hb ts i' d hi' (by omega) v.1 (by have:=ok.2 v (by simp);omega) st p;have R2:rats s.h 2 0 6=eE x':=(C2.ratsP 6 0 (by rw[zx];decide)).trans (by rw[Qbx,<-zx x',Qaz]);have l2:=C2.len;rw[zx] at l2;have L0:=C0.lt;have L1:=C1.lt;have L2:=C2.lt;by_cases c1:isM (tk ts i') v.1=true
     ·rw[if_pos c1] at hl;have hi1:=W.isM hi' c1;have hw:=λy=>jrJ hb (tk ts i') x' y;by_cases w1:v.2=1
      ·rw[if_pos w1] at hl;have w1':(v.2:Int)=1:=by omega
       cases he2:yU ts m (v :: l) (i'+1) d with
       |none=>rw[he2] at hl;cases hl
       |some q=>
        have A:=ihE m (by omega) _ _ _ _ he2 hi1 hd ok;cases q with
        |er t=>
         rw[he2] at hl;cases hl;obtain⟨i2,d2,A⟩:=A;have E:∀ st p,Cl st p (pC ts (i'+1) d)->∀ K Kp,XB Qaf base 100 [.ptr p 0,.lst (l.length+1) (fl Q3 (v :: l))] st K Kp=_:=λst p C K Kp=>A.xb C rfl (λst=>hb.no 100 (by decide) _ _) K Kp;unfold pC at *
         (have zz:=aI @QO (aI @uH (aI @R2 (aI @l2 (aI C0.r C1.r))));(repeat'(first|(apply jc<;>intro _)|simp(disch:=first|exact qO|fail) only[ja i0,ja i1,ja i4,ja i5,T,c1,E,w1',Uy,KK,jbh,QM,gG i5,jml,R2,C0.q,C1.q,QO,uH,R2,l2,C0.r,C1.r,je,Tk.cells_R,rzZ,Qab,Qac,Qad,Qaa,Qae]));(all_goals(clear zz)))
         refine⟨i2,d2,?_⟩;unfold pC
         (refine G1.done ?_ (by rfl) (by rfl) ?_;(· (have zz:=aI C0.q (aI C1.q (aI C2.q (aI C0.r (aI C1.r C2.r))));first|exact qm|fail));(· first|exact vyD|skip))
        |ok y j=>
         rw[he2] at hl;cases hl;have A:PM _ _ _ _ _ _ _:=A;have E:∀ st p,Cl st p (pC ts (i'+1) d)->∀ K Kp,XB Qaf base 100 [.ptr p 0,.lst (l.length+1) (fl Q3 (v :: l))] st K Kp=_:=λst p C K Kp=>A.xb C rfl (λst=>hb.no 100 (by decide) _ _) K Kp;unfold pC at *
         (have zz:=aI @QO (aI @uH (aI @R2 (aI @l2 (aI C0.r C1.r))));(repeat'(first|(apply jc<;>intro _)|simp(disch:=first|exact qO|fail) only[ja i0,ja i1,ja i4,ja i5,T,c1,E,w1',Uy,KK,jbh,QM,gG i5,jfH,<-qG,hw,R2,C0.q,C1.q,QO,uH,R2,l2,C0.r,C1.r,je,Tk.cells_R,rzZ,Qab,Qac,Qad,Qaa,Qae]));(all_goals(clear zz)))
         unfold pC
         (refine G1.done ?_ (by rfl) (by rfl) ?_;(· (have zz:=aI C0.q (aI C1.q (aI C2.q (aI C0.r (aI C1.r C2.r))));first|exact qm|fail));(· first|exact vyD|skip))
      ·rw[if_neg w1] at hl;have w1':¬ (v.2:Int)=1:=by omega
       cases he2:yU ts m l (i'+1) d with
       |none=>rw[he2] at hl;cases hl
       |some q=>
        have A:=ihE m (by omega) _ _ _ _ he2 hi1 hd ⟨by have:=ok.1;simp at this;omega,λw hw=>ok.2 w (Qca _ hw)⟩;have hz2:=(Ui W m).1 _ _ _ _ he2 hi1;cases q with
        |er t=>
         rw[he2] at hl;cases hl;obtain⟨i2,d2,A⟩:=A;have E:∀ st p,Cl st p (pC ts (i'+1) d)->∀ K Kp,XB Qaf base 100 [.ptr p 0,.lst l.length (fl Q3 l)] st K Kp=_:=λst p C K Kp=>A.xb C rfl (λst=>hb.no 100 (by decide) _ _) K Kp;unfold pC at *
         (have zz:=aI @QO (aI @uH (aI @R2 (aI @l2 (aI C0.r C1.r))));(repeat'(first|(apply jc<;>intro _)|simp(disch:=first|exact qO|fail) only[ja i0,ja i1,ja i4,ja i5,T,c1,E,w1',Uy,KK,jbh,QM,gG i5,jml,kW vj v l,R2,C0.q,C1.q,QO,uH,R2,l2,C0.r,C1.r,je,Tk.cells_R,rzZ,Qab,Qac,Qad,Qaa,Qae]));(all_goals(clear zz)))
         refine⟨i2,d2,?_⟩;unfold pC
         (refine G1.done ?_ (by rfl) (by rfl) ?_;(· (have zz:=aI C0.q (aI C1.q (aI C2.q (aI C0.r (aI C1.r C2.r))));first|exact qm|fail));(· first|exact vyD|skip))
        |ok y j=>
         rw[he2] at hl;dsimp only at hl;have A:PM _ _ _ _ _ _ _:=A;have hj2:j<ts.length:=hz2.2.1;have E:∀ st p,Cl st p (pC ts (i'+1) d)->∀ K Kp,XB Qaf base 100 [.ptr p 0,.lst l.length (fl Q3 l)] st K Kp=_:=λst p C K Kp=>A.xb C rfl (λst=>hb.no 100 (by decide) _ _) K Kp;by_cases w2:v.2=2
         ·rw[if_pos w2] at hl;cases hl;have w2':(v.2:Int)=2:=by omega
          unfold pC at *
          (have zz:=aI @QO (aI @uH (aI @R2 (aI @l2 (aI C0.r C1.r))));(repeat'(first|(apply jc<;>intro _)|simp(disch:=first|exact qO|fail) only[ja i0,ja i1,ja i4,ja i5,T,c1,E,w1',w2',Uy,KK,jbh,QM,gG i5,jfH,<-qG,hw,kW vj v l,R2,C0.q,C1.q,QO,uH,R2,l2,C0.r,C1.r,je,Tk.cells_R,rzZ,Qab,Qac,Qad,Qaa,Qae]));(all_goals(clear zz)))
          unfold pC
          (refine G1.done ?_ (by rfl) (by rfl) ?_;(· (have zz:=aI C0.q (aI C1.q (aI C2.q (aI C0.r (aI C1.r C2.r))));first|exact qm|fail));(· first|exact vyD|skip))
         ·rw[if_neg w2] at hl;have w2':¬ (v.2:Int)=2:=by omega
          unfold pC at *
          (have zz:=aI @QO (aI @uH (aI @R2 (aI @l2 (aI C0.r C1.r))));(repeat'(first|(apply jc<;>intro _)|simp(disch:=first|exact qO|fail) only[ja i0,ja i1,ja i4,ja i5,T,c1,E,w1',w2',Uy,KK,jbh,QM,gG i5,<-qG,hw,kW vj v l,R2,C0.q,C1.q,QO,uH,R2,l2,C0.r,C1.r,je,Tk.cells_R,rzZ,Qab,Qac,Qad,Qaa,Qae]));(all_goals(clear zz)))
          refine⟨m,by omega,m,j,Qn (tk ts i') x' y,by omega,rfl,hl,hj2,by omega,?_,?_,?_,?_⟩
          ·(have zz:=aI C0.q (aI C1.q (aI C2.q (aI C0.r (aI C1.r C2.r))));first|exact qm|fail)
          ·(have zz:=aI C0.q (aI C1.q (aI C2.q (aI C0.r (aI C1.r C2.r))));first|exact qm|fail)
          ·(have zz:=aI C0.q (aI C1.q (aI C2.q (aI C0.r (aI C1.r C2.r))));first|exact qm|fail)
          ·simp(disch:=decide) only[Qam,Qaq,z0,z1,jf,jb,and_true,true_and,i0,i1,i4,i5]
     ·rw[if_neg c1] at hl;cases hl;unfold pC at *
      (have zz:=aI @R2 (aI @l2 (aI C0.r C1.r));(repeat'(first|(apply jc<;>intro _)|simp(disch:=first|exact qO|fail) only[ja i0,ja i1,ja i4,ja i5,T,c1,Uy,jfH,<-qG,R2,C0.q,C1.q,R2,l2,C0.r,C1.r,je,Tk.cells_R,rzZ,Qab,Qac,Qad,Qaa,Qae]));(all_goals(clear zz)))
      unfold pC
      (refine G1.done ?_ (by rfl) (by rfl) ?_;(· (have zz:=aI C0.q (aI C1.q (aI C2.q (aI C0.r (aI C1.r C2.r))));first|exact qm|fail));(· first|exact vyD|skip))
    ·refine⟨n,j,x,Qao _,rfl,h,hj,n0,C0,C1,C2,?_⟩;simp(disch:=decide) only[Qam,Qaq,z0,z1,jf,jb,and_true,true_and]
end Go.Sy
end
noncomputable section
set_option maxRecDepth 100000
namespace Go.Sy
open Go.Ev Go.Proofs
mutual
def Ex.ev (q:Ex->Prop):Ex->Prop
 |.mk o n nm ks l c=>q (.mk o n nm ks l c)/\Ex.evs q ks
def Ex.evs (q:Ex->Prop):List Ex->Prop
 |[]=>True
 |x :: xs=>x.ev q/\Ex.evs q xs
end
def atW (ts:List Tk)(x:Ex):Prop:=x.op≠4/\∃ k,k<ts.length/\(tk ts k).kind≠5/\x.line=(tk ts k).line/\x.col=(tk ts k).col
def GoodR (ts:List Tk)(i:Nat):PR->Prop
 |.ok x j=>i<=j/\j<ts.length/\x.ev (atW ts)
 |.er t=>∃ k,k<ts.length/\t=tk ts k
theorem GoodR.le {ts:List Tk}{i j:Nat}{r:PR}(h:GoodR ts j r)(hij:i<=j):GoodR ts i r:=by
 cases r with
 |ok x k=>exact⟨Qaw hij h.1,h.2⟩
 |er t=>exact h
def okT (l:List Lev):Prop:=∀ v∈l,∀ s∈v.1,(wm s).isSome=true
theorem Kv:okT Ja:=by
 have:(Ja.all λv=>v.1.all λs=>(wm s).isSome)=true:=by decide +kernel
 intro v hv s hs;rw[QaA] at this;have h:=this v hv;rw[QaA] at h;exact h s hs
theorem uQ {ts:List Tk}{k:Nat}(hk:k<ts.length)(h5:(tk ts k).kind≠5){o n:Int}{nm:List Nat}{ks:List Ex}(ho:o≠4)(h:Ex.evs (atW ts) ks):(Ex.mk o n nm ks (tk ts k).line (tk ts k).col).ev (atW ts):=
 ⟨⟨ho,k,hk,h5,rfl,rfl⟩,h⟩
theorem jgK {ts:List Tk}{k:Nat}(hk:k<ts.length)(h5:(tk ts k).kind≠5){x y:Ex}(hx:x.ev (atW ts))(hy:y.ev (atW ts))(ht:(wm (tk ts k).text).isSome=true):(Qn (tk ts k) x y).ev (atW ts):=by
 unfold Qn;split
 ·refine uQ hk h5 (by omega) ⟨hx,hy,trivial⟩
 ·rename_i h;rw[h] at ht;cases ht
theorem KY {t:Tk}{S:List (List Nat)}(h:isM t S=true):t.kind≠5:=by have:=(WG h).1;omega
def Anw (f:Nat->Option PR)(Q:PR->Prop):Prop:=∃ N r,Q r/\∀ n,N<=n->f n=some r
theorem Anw.mono {f:Nat->Option PR}{Q R:PR->Prop}(h:Anw f Q)(k:∀ r,Q r->R r):Anw f R:=by
 obtain⟨N,r,h1,h2⟩:=h;exact⟨N,r,k r h1,h2⟩
theorem jmw {f g:Nat->Option PR}{Q:PR->Prop}(h:Anw f Q)(k:∀ n,g (n+1)=f n):Anw g Q:=by
 obtain⟨N,r,h1,h2⟩:=h;refine⟨N+1,r,h1,λn hn=>?_⟩;obtain⟨m,rfl⟩:∃ m,n=m+1:=⟨n - 1,by omega⟩;rw[k,h2 m (by omega)]
theorem uo {g:Nat->Option PR}{Q:PR->Prop}(r:PR)(hQ:Q r)(k:∀ n,g (n+1)=some r):Anw g Q:=by
 refine⟨1,r,hQ,λn hn=>?_⟩;obtain⟨m,rfl⟩:∃ m,n=m+1:=⟨n - 1,by omega⟩;exact k m
theorem gy {f g:Nat->Option PR}{Q R:PR->Prop}(F:Ex->Nat->Nat->Option PR)(h:Anw f Q)(k:∀ n,g (n+1)=(match f n with|some (.ok x j)=>F x j n|r=>r))(he:∀ t,Q (.er t)->R (.er t))(ho:∀ x j,Q (.ok x j)->Anw (F x j) R):Anw g R:=by
 obtain⟨N,r,h1,h2⟩:=h;cases r with
 |er t=>
  refine⟨N+1,.er t,he t h1,λn hn=>?_⟩;obtain⟨m,rfl⟩:∃ m,n=m+1:=⟨n - 1,by omega⟩;rw[k,h2 m (by omega)]
 |ok x j=>
  obtain⟨M,r,h3,h4⟩:=ho x j h1;refine⟨max N M+1,r,h3,λn hn=>?_⟩;obtain⟨m,rfl⟩:∃ m,n=m+1:=⟨n - 1,by omega⟩;rw[k,h2 m (by omega)];exact h4 m (by omega)
theorem gw {f:Nat->Option PR}{Q:PR->Prop}(r:PR)(hQ:Q r)(k:∀ n,f n=some r):Anw f Q:=⟨0,r,hQ,λn _=>k n⟩
structure AnsM (ts:List Tk)(m:Nat):Prop where
 e:∀ i d l,i<ts.length->ts.length<=i+m->d<=60->okT l->Anw (λn=>yU ts n l i d) (GoodR ts (i+1))
 p:∀ i d,i<ts.length->ts.length<=i+m->d<=60->Anw (λn=>Qs ts n i d) (GoodR ts (i+1))
 o:∀ i d v l x,i<ts.length->ts.length<=i+m->d<=60->okT (v :: l)->x.ev (atW ts)->Anw (λn=>QR ts n v l x i d) (GoodR ts i)
theorem jq2 {ts:List Tk}(W:Wds ts):∀ m,AnsM ts m
 |0=>⟨λi d l h1 h2=>by omega,λi d h1 h2=>by omega,λi d v l x h1 h2=>by omega⟩
 |m+1=>by
  have ih:=jq2 W m;have hv:∀ i d,i<ts.length->ts.length<=i+(m+1)->d<=60->Anw (λn=>Yk ts n i d) (GoodR ts (i+1)):=by
   intro i d hi hm hd;by_cases h2:(tk ts i).kind=2
   ·exact uo (.ok (.mk 1 (tk ts i).num [] [] (tk ts i).line (tk ts i).col) (i+1)) ⟨Qao _,W.next i hi (by omega),uQ hi (by omega) (by decide) (ks:=[]) trivial⟩ λn=>by simp only[Yk];rw[if_pos h2]
   by_cases h1:(tk ts i).kind=1
   ·exact uo (.ok (.mk 3 0 (tk ts i).text [] (tk ts i).line (tk ts i).col) (i+1)) ⟨Qao _,W.next i hi (by omega),uQ hi (by omega) (by decide) (ks:=[]) trivial⟩ λn=>by simp only[Yk];rw[if_neg h2,if_pos h1]
   by_cases ht:isM (tk ts i) [[116,114,117,101]]=true
   ·exact uo (.ok (.mk 2 1 [] [] (tk ts i).line (tk ts i).col) (i+1)) ⟨Qao _,W.isM hi ht,uQ hi (KY ht) (by decide) (ks:=[]) trivial⟩ λn=>by simp only[Yk];rw[if_neg h2,if_neg h1,if_pos ht]
   by_cases hf:isM (tk ts i) [[102,97,108,115,101]]=true
   ·exact uo (.ok (.mk 2 0 [] [] (tk ts i).line (tk ts i).col) (i+1)) ⟨Qao _,W.isM hi hf,uQ hi (KY hf) (by decide) (ks:=[]) trivial⟩ λn=>by simp only[Yk];rw[if_neg h2,if_neg h1,if_neg ht,if_pos hf]
   by_cases hp:isM (tk ts i) [[40]]=true
   ·have hi1:=W.isM hi hp;by_cases h60:60<d+1
    ·exact uo (.er _) ⟨i+1,hi1,rfl⟩ λn=>by simp only[Yk];rw[if_neg h2,if_neg h1,if_neg ht,if_neg hf,if_pos hp,if_pos h60]
    ·refine gy (λx j n=>if isM (tk ts j) [[41]]=true then some (.ok x (j+1)) else some (.er (tk ts j))) (ih.e (i+1) (d+1) Ja hi1 (by omega) (by omega) Kv) (λn=>by simp only[Yk];rw[if_neg h2,if_neg h1,if_neg ht,if_neg hf,if_pos hp,if_neg h60]<;>rfl) (λt h=>h) λx j h=>?_;by_cases hq:isM (tk ts j) [[41]]=true
     ·exact gw (.ok x (j+1)) ⟨by have:=h.1;omega,W.isM h.2.1 hq,h.2.2⟩ λn=>if_pos hq
     ·exact gw (.er (tk ts j)) ⟨j,h.2.1,rfl⟩ λn=>if_neg hq
   ·exact uo (.er _) ⟨i,hi,rfl⟩ λn=>by simp only[Yk];rw[if_neg h2,if_neg h1,if_neg ht,if_neg hf,if_neg hp]
  have hp:∀ i d,i<ts.length->ts.length<=i+(m+1)->d<=60->Anw (λn=>Qs ts n i d) (GoodR ts (i+1)):=by
   intro i d hi hm hd;by_cases hp:isM (tk ts i) zo=true
   ·have hi1:=W.isM hi hp;by_cases h60:60<d+1
    ·exact uo (.er _) ⟨i+1,hi1,rfl⟩ λn=>by simp only[Qs];rw[if_pos hp,if_pos h60]
    ·refine gy (λx j n=>some (.ok (.mk (Ur (tk ts i).text:Nat) 0 [] [x] (tk ts i).line (tk ts i).col) j)) (ih.p (i+1) (d+1) hi1 (by omega) (by omega)) (λn=>by simp only[Qs];rw[if_pos hp,if_neg h60]<;>rfl) (λt h=>h) λx j h=>?_;exact gw (.ok (.mk (Ur (tk ts i).text:Nat) 0 [] [x] (tk ts i).line (tk ts i).col) j) ⟨by have:=h.1;omega,h.2.1,uQ hi (KY hp) (by unfold Ur;omega) (ks:=[x]) ⟨h.2.2,trivial⟩⟩ λn=>rfl
   ·exact jmw (hv i d hi hm hd) λn=>by simp only[Qs];rw[if_neg hp]
  have he:∀ l i d,i<ts.length->ts.length<=i+(m+1)->d<=60->okT l->Anw (λn=>yU ts n l i d) (GoodR ts (i+1)):=by
   intro l;induction l with
   |nil=>intro i d hi hm hd hl;exact jmw (hp i d hi hm hd) λn=>by simp only[yU]
   |cons v l ihl=>
    intro i d hi hm hd hl;refine gy (λx j n=>QR ts n v l x j d) (ihl i d hi hm hd λw hw=>hl w (Qca _ hw)) (λn=>by simp only[yU]<;>rfl) (λt h=>h) λx j h=>?_;exact(ih.o j d v l x h.2.1 (by have:=h.1;omega) hd hl h.2.2).mono λr hr=>hr.le h.1
  refine⟨λi d l h1 h2 h3 h4=>he l i d h1 h2 h3 h4,hp,λi d v l x hi hm hd hl hx=>?_⟩;by_cases hs:isM (tk ts i) v.1=true
  ·have hi1:=W.isM hi hs;have ht:(wm (tk ts i).text).isSome=true:=hl v (List.mem_cons_self ..) _ (WG hs).2;have hl':okT l:=λw hw=>hl w (Qca _ hw);by_cases hw:v.2=1
   ·refine gy (λy j n=>some (.ok (Qn (tk ts i) x y) j)) (ih.e (i+1) d (v :: l) hi1 (by omega) hd hl) (λn=>by simp only[QR];rw[if_pos hs,if_pos hw]<;>rfl) (λt h=>h) λy j h=>?_;exact gw (.ok (Qn (tk ts i) x y) j) ⟨by have:=h.1;omega,h.2.1,jgK hi (KY hs) hx h.2.2 ht⟩ λn=>rfl
   ·refine gy (λy j n=>if v.2=2 then some (.ok (Qn (tk ts i) x y) j) else QR ts n v l (Qn (tk ts i) x y) j d) (ih.e (i+1) d l hi1 (by omega) hd hl') (λn=>by simp only[QR];rw[if_pos hs,if_neg hw]<;>rfl) (λt h=>h) λy j h=>?_;have hxy:=jgK hi (KY hs) hx h.2.2 ht;by_cases h2:v.2=2
    ·exact gw (.ok (Qn (tk ts i) x y) j) ⟨by have:=h.1;omega,h.2.1,hxy⟩ λn=>if_pos h2
    ·obtain⟨N,r,h3,h4⟩:=ih.o j d v l _ h.2.1 (by have:=h.1;omega) hd hl hxy;exact⟨N,r,h3.le (by have:=h.1;omega),λn hn=>(if_neg h2).trans (h4 n hn)⟩
  ·exact uo (.ok x i) ⟨Qao _,hi,hx⟩ λn=>by simp only[QR];rw[if_neg hs]
end Go.Sy
end
noncomputable section
set_option maxRecDepth 100000
namespace Go.Sy
open Go.Ev Go.Proofs
variable {base:Bs}
theorem reads (hb:NB base){ts:List Tk}(W:Wds ts):∀ n,IsE base ts n/\IsP base ts n/\IsV base ts n:=by
 have key:∀ n,∀ m,m<=n->IsE base ts m/\IsP base ts m/\IsV base ts m:=by
  intro n;induction n with
  |zero=>
   intro m hm;obtain rfl:m=0:=by omega
   exact⟨λ_ _ _ _ h=>(by simp[yU] at h),λ_ _ _ h=>(by simp[Qs] at h),λ_ _ _ h=>(by simp[Yk] at h)⟩
  |succ n ih=>
   intro m hm;by_cases h:m<=n
   ·exact ih m h
   ·obtain rfl:m=n+1:=by omega
    obtain⟨h1,h2,h3⟩:=ih n (Qao _);exact⟨jqj hb W (λk hk=>(ih k hk).1) h2,jkn hb W h2 h3,jmH hb W h1⟩
 exact λn=>key n n (Qao _)
def W7 (ts:List Tk)(i:Nat)(r0:PR):PR:=match r0 with
 |.er t=>.er t
 |.ok x j=>if yZ 60 x=true then .ok x j else .er (tk ts i)
def EvR (ts:List Tk)(i:Nat)(r:PR):Prop:=∃ N,∀ n,N<=n->yU ts n Ja i 0=some r
theorem EvR.uniq {ts:List Tk}{i:Nat}{r q:PR}(h:EvR ts i r)(k:EvR ts i q):r=q:=by
 obtain⟨N,h⟩:=h;obtain⟨M,k⟩:=k;have:=(h (max N M) (QaL ..)).symm.trans (k (max N M) (QaI ..));exact Option.some.inj this
open Classical in
def yn (ts:List Tk)(i:Nat):PR:=if h:∃ r,EvR ts i r then W7 ts i h.choose else .er (tk ts i)
theorem W8 {ts:List Tk}{i:Nat}{r:PR}(h:EvR ts i r):yn ts i=W7 ts i r:=by
 unfold yn;rw[dif_pos ⟨r,h⟩];have:=(⟨r,h⟩:∃ r,EvR ts i r).choose_spec;rw[this.uniq h]
theorem evR {ts:List Tk}(W:Wds ts){i:Nat}(hi:i<ts.length):∃ r,GoodR ts (i+1) r/\EvR ts i r:=by
 obtain⟨N,r,hg,hr⟩:=(jq2 W ts.length).e i 0 Ja hi (by omega) (by decide) Kv;exact⟨r,hg,N,hr⟩
theorem Uc (hb:NB base){ts:List Tk}(W:Wds ts){i:Nat}(hi:i<ts.length):Ans base 72 (pC ts i 0) [] ts 0 (yn ts i):=by
 obtain⟨r,_,hr⟩:=evR W hi;rw[W8 hr];obtain⟨N,hr⟩:=hr;have he:=hr N (Qao _);have A:=(reads hb W N).1 _ _ _ _ he hi (by omega) ⟨by decide,by decide⟩;have hz:=(Ui W N).1 _ _ _ _ he hi;have hN:=λst p=>@YW base hb ts i 0 hi st p;have hL:=jbK hb;cases r with
 |er t=>
  obtain⟨i',d',A⟩:=A;have E:∀ st p,Cl st p (pC ts i 0)->∀ K Kp,XB Qaf base 100 [.ptr p 0,.lst 8 (fl Q3 Ja)] st K Kp=_:=λst p C K Kp=>A.xb C rfl (λst=>hb.no 100 (by decide) _ _) K Kp;refine⟨i',d',?_⟩;unfold pC at *;refine j2 x48 (by rfl) (hb.pur 72 3 (by decide)) rfl ?_;simp only[y48,jt,Qai,Qaj,Qag,Qah];rw[(by unfold z48;simp only[qq];rfl:z48=_)];repeat'(first|(apply jc<;>intro _)|simp(disch:=first|exact dzD|fail) only[hN,hL,E,je,Tk.cells_R,rzZ,Qab,Qac,Qad,Qaa,Qae])
  (refine G1.done ?_ (by rfl) (by rfl) ?_;(· (first|exact cyD|fail));(· first|exact vyD|skip))
 |ok x j=>
  have A:PM _ _ _ _ _ _ _:=A;have E:∀ st p,Cl st p (pC ts i 0)->∀ K Kp,XB Qaf base 100 [.ptr p 0,.lst 8 (fl Q3 Ja)] st K Kp=_:=λst p C K Kp=>A.xb C rfl (λst=>hb.no 100 (by decide) _ _) K Kp;have hx:szE x<=BIG:=by
   have h1:=hz.2.2;have h2:(j - i) * 65537<=1000000 * 65537:=QaM _ (by have:=W.len;have:=hz.2.1;omega);have h3:1000000 * 65537<=BIG:=by decide
   exact Qaw h1 (by rw[QaK];exact Qaw h2 h3)
  have hR:=jnQ hb x hx;unfold W7;dsimp only;by_cases c:yZ 60 x=true
  ·rw[if_pos c];show PM _ _ _ _ _ _ _;unfold pC at *;refine j2 x48 (by rfl) (hb.pur 72 3 (by decide)) rfl ?_;simp only[y48,jt,Qai,Qaj,Qag,Qah];rw[(by unfold z48;simp only[qq];rfl:z48=_)];repeat'(first|(apply jc<;>intro _)|simp(disch:=first|exact dzD|fail) only[hN,hL,E,hR,c,<-qG,je,Tk.cells_R,rzZ,Qab,Qac,Qad,Qaa,Qae])
   (refine G1.done ?_ (by rfl) (by rfl) ?_;(· (first|exact cyD|fail));(· first|exact vyD|skip))
  ·rw[if_neg c];refine⟨j,0,?_⟩;unfold pC at *;refine j2 x48 (by rfl) (hb.pur 72 3 (by decide)) rfl ?_;simp only[y48,jt,Qai,Qaj,Qag,Qah];rw[(by unfold z48;simp only[qq];rfl:z48=_)];repeat'(first|(apply jc<;>intro _)|simp(disch:=first|exact dzD|fail) only[hN,hL,E,hR,c,Qa hb,je,Tk.cells_R,rzZ,Qab,Qac,Qad,Qaa,Qae])
   (refine G1.done ?_ (by rfl) (by rfl) ?_;(· (first|exact cyD|fail));(· first|exact vyD|skip))
end Go.Sy
end
noncomputable section
set_option maxRecDepth 100000
namespace Go.Sy
open Go.Ev Go.Proofs
def z15:XC:=(oj [Tc 2,o4 3 [ov,ov,ov]] (o0 [Iv 9,I6 10 64 9,ou 8 10,Ij 11 8 0,Ij 12 8 1,ON 11,o3 3 3 12] (o8 [Ov 13 3,oz 14 13,O4 15 .neq 14] 15 (Ok [Oz 16 6 2 2 29 [],Oz 17 3 3 3 45 [],Tf 6 2 16 [(0,45)],Tf 3 3 17 []] .ret)) (OQ [oW (.defer (oJ 65 []) [3])] [OY 18,Ir 19 [.nils,ov,ov] [((0,1),18)],oi 20 (.box 19),oq 5 20] (o0 [OV 21,I6 22 72 21,Tc 6,o3 6 6 22] (oj [OV 23,I6 24 73 23,o4 7 [ov,oB,ov,ov,ov],o3 5 7 24] (Oj [Ov 25 7,oz 26 25,OJ 27 .neq 26 5] 27 [oS 28 5 7,I6 29 74 28])) (Ok [Oz 30 6 6 6 29 [],Oz 31 3 3 3 45 [],Tf 6 2 30 [(0,45)],Tf 3 3 31 []] .ret)))))
def y15:XF:=⟨[0],z15,[(.cA 2 6),(.cA 3 3)]⟩
theorem x15:jy Qaf 54=some y15:=by kernel_rfl
def z9:XC:=(oj [o4 2 [.nils,.nils,.nils],o4 3 [ov,ov,ov]] (o0 [Iv 7,I6 8 64 7,ou 6 8,Ij 9 6 0,Ij 10 6 1,ON 9,o3 3 3 10] (o8 [Ov 11 3,oz 12 11,O4 13 .neq 12] 13 (Ok [Oz 14 3 2 2 26 [],Oz 15 3 3 3 45 [],Tf 3 2 14 [(0,45)],Tf 3 3 15 []] .ret)) (oj [oW (.defer (oJ 65 []) [3])] (o0 [OY 16,Ir 17 [.nils,ov,ov] [((0,1),16)],oi 18 (.box 17),oq 5 18] (.dops [Iy (OV 19),(O0 20 66 19 0 [],some [OO 20 0,o9 (oS 21 3 3) 3 45 [(0,0)],o7 (oW (.i (.mv I1))) 0,o7 (oW (.i (.mv I1))) 0]),Oz 21 3 3 3 45 [(0,0)],Tf 3 2 20 [(0,45)],Tf 3 3 21 []]) .ret))))
def y9:XF:=⟨[0],z9,[(.cA 2 3),(.cA 3 3)]⟩
theorem x9:jy Qaf 52=some y9:=by kernel_rfl
def z78:XC:=(oj [o4 2 [oB,.nils,ov,ov]] (OQ [Iv 7,I6 8 120 7,o4 3 [ov,oB,ov,ov,ov],o3 5 3 8] [OP 9 3,oz 10 9,OS 11 3,oz 12 11,ow 13 4 3,oz 14 13,Ir 15 [oB,.nils,ov,ov] [((0,1),10),((2,1),12),((3,1),14)],o4 4 [oB,.nils,ov,ov],o3 4 4 15] (IS [Iv 16,Os 17 121 16 (oM [123])] 0 (.block 1 (.seq (o8 [Iv 18,I6 19 73 18,oi 20 (.fld1 0 19),OJ 21 .eql 20 1] 21 (.dops [IA 22 1 4,O2 23 22 22 106,Iy (IR 24 23),Iy (Iv 25),(O0 26 73 25 0 [(2,106)],Ox),(Iq (Os 27 87 24 26) 0 [],Ox)])) (Ok [IA 28 1 4,O2 29 28 28 106,Iy (Iv 30),(O0 31 120 30 0 [(1,106)],Ox),Iy (oi 32 (.fld1 1 31)),Iy (Io 33 1 1 [oB] [((0,1),32)]),IO (OL 34 1 16 29 33) 0 [],IA 35 1 4,Tf 1 35 34 []] (oj [Iv 37,Io 38 1 1 [oB] [Oo 0 44],Os 39 86 37 38,ou 36 39,Ij 40 36 0,Ij 41 36 1,oi 5 (.alloc [ov,oB,ov,ov,ov]),o3 5 5 40,oq 6 41] (o8 [Tg 42,om 43 (IM 42)] 43 (Oi [Iv 44,Os 45 121 44 (oM [125])] [oS 46 4 4,o3 4 2 46])))))))))
def y78:XF:=⟨[0],z78,[(.cA 2 4)]⟩
theorem x78:jy Qaf 88=some y78:=by kernel_rfl
def jeq:XC:=(.seq (oj [Iv 45,Io 46 1 1 [oB] [Oo 0 61],Os 47 86 45 46,ou 44 47,Ij 48 44 0,Ij 49 44 1,oi 7 (.alloc [ov,oB,ov,ov,ov]),o3 5 7 48,oq 8 49] (Oj [oq 50 8] 50 [Iv 51,I6 52 72 51,Io 53 1 6 (OC ov ov oB ov ov) [((0,6),52)],ow 54 4 4,o3 1 54 53])) (Oi [Iv 55,Os 56 121 55 (oM [59])] [oS 57 7 4,o3 7 2 57]))
def jer:XC:=(.seq (oj [Iv 21,Io 22 1 1 [oB] [IY 0 [98,111,111,108]],Os 23 86 21 22,ou 20 23,Ij 24 20 0,Ij 25 20 1,oi 5 (.alloc [ov,oB,ov,ov,ov]),o3 5 5 24,oq 6 25] (oG [oq 26 6] 26 (.ops [OP 27 4,o3 1 27 (oM [98,111,111,108])]) (oG [Iv 28,I6 29 73 28,oi 30 (.fld1 0 29),OJ 31 .eql 30 1] 31 (.ops [Iv 32,I6 33 120 32,oi 34 (.fld1 1 33),OP 35 4,o3 1 35 34]) (OQ [Iv 36,I6 37 122 36,ow 38 2 4,o3 1 38 37] [Iv 39,Os 40 121 39 (oM [46,46])] (.ops [Iv 41,I6 42 122 41,OS 43 4,o3 1 43 42]))))) jeq)
def z79:XC:=(OQ [o4 2 [oB,oB,ov,ov,.nils,ov,ov]] [Iv 9,I6 10 120 9,o4 3 [ov,oB,ov,ov,ov],o3 5 3 10] (OQ [OP 11 3,oz 12 11,OS 13 3,oz 14 13,ow 15 4 3,oz 16 15,Ir 17 [oB,oB,ov,ov,.nils,ov,ov] [((0,1),12),((5,1),14),((6,1),16)],o4 4 [oB,oB,ov,ov,.nils,ov,ov],o3 7 4 17] [Iv 18,Os 19 121 18 (oM [58])] jer))
def y79:XF:=⟨[0],z79,[(.cA 2 7)]⟩
theorem x79:jy Qaf 89=some y79:=by kernel_rfl
def U4:XC:=(OQ [o4 2 [ov,ov,oB,.nils,ov,ov,.nils]] [Iv 7,I6 8 72 7,Ir 9 [ov,ov,oB,.nils,ov,ov,.nils] [((0,6),8)],o4 3 [ov,ov,oB,.nils,ov,ov,.nils],o3 7 3 9] (IS [Iv 10,Os 11 121 10 (oM [100,111])] 0 (.block 1 (.seq (o8 [Iv 12,I6 13 73 12,oi 14 (.fld1 0 13),OJ 15 .eql 14 1] 15 (.dops [IA 16 6 3,O2 17 16 16 118,Iy (IR 18 17),Iy (Iv 19),(O0 20 73 19 0 [(2,118)],Ox),(Iq (Os 21 87 18 20) 0 [],Ox)])) (oj [Iv 22,I6 23 120 22,o4 4 [ov,oB,ov,ov,ov],o3 5 4 23] (o0 [Iv 24,Os 25 121 24 (oM [58,61])] (.dops [IA 26 6 3,O2 27 26 26 118,IA 28 1 4,O2 29 28 28 9,Iy (Iv 30),(O0 31 72 30 0 [(1,9),(3,118)],some [OO 31 0,o7 (OS 32 4) 0,o9 (oz 33 32) 32 3 [(1,0)],o7 (ow 34 4 4) 0,o9 (oz 35 34) 34 3 [(3,0)],OO 36 0,OO 37 0,OO 38 0,OO 39 0,o7 (oW (.i (.mv I1))) 0]),IA 32 3 4,I0 33 32 32 3 [(1,0)],IA 34 4 4,I0 35 34 34 3 [(3,0)],Iy (Ir 36 [oB,ov,ov,oB,.nils,ov,ov,ov,ov] [((0,1),29),((1,6),31),((7,1),33),((8,1),35)]),Iy (Io 37 1 9 [oB,ov,ov,oB,.nils,ov,ov,ov,ov] [((0,9),36)]),IO (OL 38 9 104 27 37) 0 [],IA 39 6 3,Tf 1 39 38 []]) (oj [Iv 41,Io 42 1 1 [oB] [Oo 0 44],Os 43 86 41 42,ou 40 43,Ij 44 40 0,Ij 45 40 1,oi 5 (.alloc [ov,oB,ov,ov,ov]),o3 5 5 44,oq 6 45] (o8 [Tg 46,om 47 (IM 46)] 47 (Oi [Iv 48,Os 49 121 48 (oM [59])] [oS 50 7 3,o3 7 2 50])))))))))
def jeC:XF:=⟨[0],U4,[(.cA 2 7)]⟩
theorem jjV:jy Qaf 123=some jeC:=by kernel_rfl
def z80:XC:=(oj [o4 2 [oB,.nils,ov,ov]] (OQ [Iv 7,I6 8 120 7,o4 3 [ov,oB,ov,ov,ov],o3 5 3 8] [OP 9 3,oz 10 9,OS 11 3,oz 12 11,ow 13 4 3,oz 14 13,Ir 15 [oB,.nils,ov,ov] [((0,1),10),((2,1),12),((3,1),14)],o4 4 [oB,.nils,ov,ov],o3 4 4 15] (IS [Iv 16,Os 17 121 16 (oM [123])] 0 (.block 1 (o0 [Iv 19,Io 20 1 1 [oB] [IY 0 [119,104,101,110]],Os 21 86 19 20,ou 18 21,Ij 22 18 0,Ij 23 18 1,o4 5 [ov,oB,ov,ov,ov],o3 5 5 22,oq 6 23] (o8 [Tg 24,om 25 (IM 24)] 25 (Oi [Iv 26,Os 27 121 26 (oM [125])] [oS 28 4 4,o3 4 2 28])) (oj [OP 29 4,oz 30 29,IR 31 30,oS 32 5 5,Os 33 87 31 32] (.dops [IA 34 1 4,O2 35 34 34 114,Iy (Iv 36),(O0 37 123 36 0 [(1,114)],Ox),Iy (Io 38 1 7 [ov,ov,oB,.nils,ov,ov,.nils] [((0,7),37)]),IO (OL 39 7 96 35 38) 0 [],IA 40 1 4,Tf 1 40 39 []])))))))
def y80:XF:=⟨[0],z80,[(.cA 2 4)]⟩
theorem x80:jy Qaf 90=some y80:=by kernel_rfl
def z37:XC:=(oj [o4 2 [.nils,.nils,.nils]] (IS [o4 3 [.nils,.nils,.nils]] 0 (.block 1 (oj [Iv 7,Io 8 3 1 [oB] [IY 0 [101,110,117,109],IY 1 [118,97,114],IY 2 [112,114,111,99,101,115,115]],Os 9 86 7 8,ou 6 9,Ij 10 6 0,Ij 11 6 1,o4 4 [ov,oB,ov,ov,ov],o3 5 4 10,oq 5 11] (.block 2 (oG [OV 25,oi 26 (IM 25),ou 27 26,Oy 28 27 0 4,Ow 29 27 28,OZ 30 27 .neq 29 5,Td 31 27 30,oq 24 31] 24 (.ops [oS 32 5 4,I6 33 74 32]) (oG [OV 35,oi 36 (IM 35),oq 34 36] 34 (oX [oS 37 3 3,o3 3 2 37]) (oG [OP 39 4,oz 40 39,O5 41 40 [101,110,117,109],oq 38 41] 38 (oj [Ov 42 3,oz 43 42,IR 44 43,oS 45 5 4,Os 46 87 44 45] (.dops [IA 47 0 3,O2 48 47 47 22,Iy (Iv 49),(O0 50 88 49 0 [(1,22)],Ox),Iy (Io 51 1 4 [oB,.nils,ov,ov] [((0,4),50)]),IO (OL 52 4 56 48 51) 0 [],IA 53 0 3,Tf 1 53 52 []])) (oG [OP 55 4,oz 56 55,O5 57 56 [118,97,114],oq 54 57] 54 (oj [OP 58 3,oz 59 58,IR 60 59,oS 61 5 4,Os 62 87 60 61] (.dops [IA 63 1 3,O2 64 63 63 23,Iy (Iv 65),(O0 66 89 65 0 [(1,23)],Ox),Iy (Io 67 1 7 [oB,oB,ov,ov,.nils,ov,ov] [((0,7),66)]),IO (OL 68 7 88 64 67) 0 [],IA 69 1 3,Tf 1 69 68 []])) (oj [ow 12 2 3,oz 13 12,IR 14 13,oS 15 5 4,Os 16 87 14 15] (.dops [IA 17 2 3,O2 18 17 17 24,Iy (Iv 19),(O0 20 90 19 0 [(1,24)],Ox),Iy (Io 21 1 4 [oB,.nils,ov,ov] [((0,4),20)]),IO (OL 22 4 56 18 21) 0 [],IA 23 2 3,Tf 1 23 22 []])))))))))))
def y37:XF:=⟨[0],z37,[(.cA 2 3)]⟩
theorem x37:jy Qaf 66=some y37:=by kernel_rfl
def u7:XC:=(.block 0 (oG [om 7 (.gen .eql 20 true 5 (.c .nilif))] 7 (.ops [OV 2]) (oG [oi 8 (.assert 5 45),om 9 (.ext 8 1),om 10 (.ext 8 0)] 9 (oj [o4 3 [ov,ov,ov],o3 3 3 10] (.ops [Iv 11,oS 12 3 3,Is 13 11,o3 3 13 12])) (oj [ON 5] (.ops [OY 6,oW (.pan 6)])))))
def gC:XH:=⟨[0],(some 5),true,[],u7,[]⟩
theorem jo2:jas Qaf 65=some gC:=by kernel_rfl
end Go.Sy
end
noncomputable section
set_option maxRecDepth 100000
namespace Go.Sy
open Go.Ev Go.Proofs
def jjw:XC:=(I7 [O7] (Ot [oq 7 1,IP 8 7,IQ 9] 0 [I5 10 9 8] 10 0 1 [Ii 11 1 7 9,oz 12 11,oq 6 12] (Iu [Tg 13,Iv 14,om 15 (.strb .eql 13 14)] 15 [ON Ih]) 16 9 1 9 16) [O7])
def joH:XF:=⟨[0,1],jjw,[(.t 4)]⟩
theorem jsW:jy Qaf 106=some joH:=by kernel_rfl
def z84:XC:=(Oi [On 2] [Iv 3,Io 4 19 1 [oB] [IY 0 [101,110,117,109],IY 1 [118,97,114],IY 2 [98,111,111,108],IY 3 [112,114,111,99,101,115,115],IY 4 [119,104,101,110],IY 5 [100,111],IY 6 [116,114,117,101],IY 7 [102,97,108,115,101],Oo 8 88,Oo 9 70,Oo 10 71,Oo 11 85,Oo 12 82,Oo 13 89,Oo 14 90,Oo 15 79,Oo 16 72,Oo 17 83,Oo 18 84],Os 5 106 3 4,OI 5])
def y84:XF:=⟨[0],z84,[(.t 2)]⟩
theorem x84:jy Qaf 81=some y84:=by kernel_rfl
def z83:XC:=(Oi [On 2] [Iv 3,oi 4 (OW .geq 3 .u8 97),OY 5,I3 6 5 0,Ic 7 5 (OW .leq 6 .u8 122),Td 8 5 7,ou 9 8,IL 10 9 0,Ib 11 9 (OW .geq 10 .u8 65),IL 12 9 11,I3 13 12 0,Ic 14 12 (OW .leq 13 .u8 90),Ib 15 9 (.pick 12 14 oY),Im 16 9 Ih 15,OI 16])
def y83:XF:=⟨[0],z83,[(.t 2)]⟩
theorem x83:jy Qaf 79=some y83:=by kernel_rfl
def z85:XC:=(Oi [On 2] [Iv 3,oi 4 (OW .geq 3 .u8 48),OY 5,I3 6 5 0,Ic 7 5 (OW .leq 6 .u8 57),Td 8 5 7,OI 8])
def y85:XF:=⟨[0],z85,[(.t 2)]⟩
theorem x85:jy Qaf 80=some y85:=by kernel_rfl
def z56:XC:=(I7 [On 2] (IS [IQ 3] 0 (.seq (oG [ou 4 3,Iv 5,oi 6 (.lenS 5),I5 7 4 6] 7 .skip (.exit 0)) (Il 1 (Iu [Iv 10,ou 11 3,oi 12 (.ixStr 10 11),I6 13 79 12,oi 14 (IM 13),ou 15 14,I3 16 15 3,Ic 17 15 (OB .eql 16),I3 18 15 17,IL 19 18 0,IL 20 18 3,Ib 21 18 (.ixStr 19 20),Oq 22 (18,false) 80 [] [21],Ib 23 18 (IM 22),IL 24 18 23,I3 25 24 0,I3 26 24 3,Ic 27 24 (.ixStr 25 26),Ic 28 24 (OW .neq 27 .u8 95),Ib 29 18 (.pick 24 28 oY),Ic 30 15 (.pick 18 Ih 29),IV 31 15 30 oY] 31 [On 2]) (.ops [ou 8 3,IK 9 8 1,oq 3 9])))) [Iv 32,oi 33 (.lenS 32),O1 34 .gtr 33,ou 35 34,I3 36 35 0,Ic 37 35 (.lenS 36),OZ 38 35 .leq 37 32,Td 39 35 38,ou 40 39,I3 41 40 0,Oq 42 (40,true) 81 [] [41],Ic 43 40 (IM 42),Td 44 40 43,OI 44])
def y56:XF:=⟨[0],z56,[(.t 2)]⟩
theorem x56:jy Qaf 58=some y56:=by kernel_rfl
def z16:XC:=(o0 [IB 1 0,o5 2 oB] (o8 [OS 3 1,oz 4 3,IR 5 4,OJ 6 .eql 5 2] 6 (Ok [IA 7 3 1,O2 8 7 7 27,Iy (Ii 9 6 8 Ol),Oz 10 6 9 9 29 [],(O0 11 104 10 0 [],some [OO 11 0,OO 12 0,o7 (Ov 13 1) 0,o9 (oz 14 13) 13 3 [(2,0)],OO 15 0,OO 16 0,OO 17 0,o7 (OS 18 1) 0,o9 (oz 19 18) 18 27 [(3,0),(7,0)],o7 (Ii 20 6 19 OG) 0,o9 (OT 21 20) 20 29 [(5,0),(9,0)],OO 22 0,OO 23 0,o7 (o5 2 Ix) 0]),Iy (Om 12 11 (oM [32])),IA 13 0 1,I0 14 13 13 3 [(2,0)],(O0 15 105 14 0 [],some [OO 15 0,OO 16 0,OO 17 0,o7 (OS 18 1) 0,o9 (oz 19 18) 18 27 [(3,0),(7,0)],o7 (Ii 20 6 19 OG) 0,o9 (OT 21 20) 20 29 [(5,0),(9,0)],OO 22 0,OO 23 0,o7 (o5 2 Ix) 0]),Iy (Om 16 12 15),Iy (Om 17 16 (oM [32])),IA 18 3 1,I0 19 18 18 27 [(3,0),(7,0)],Iy (Ii 20 6 19 OG),Oz 21 6 20 20 29 [(5,0),(9,0)],(O0 22 104 21 0 [],Ox),Iy (Om 23 17 22),Iy (OI 23)] .ret)) (.seq (o8 [OS 24 1,oz 25 24,IR 26 25,OJ 27 .eql 26 1] 27 (.seq (o8 [Ov 28 1,oz 29 28,OJ 30 .gtr 29 6] 30 (Ok [IA 31 0 1,O2 32 31 31 3,(O0 33 105 32 0 [],some [OO 33 0,OO 34 0,o7 (OS 35 1) 0,o9 (oz 36 35) 35 27 [(2,0)],o7 (Ii 37 6 36 Ol) 0,o9 (OT 38 37) 37 29 [(4,0)],OO 39 0,OO 40 0,o7 (o5 2 Ix) 0]),Iy (Om 34 33 (oM [32])),IA 35 3 1,I0 36 35 35 27 [(2,0)],Iy (Ii 37 6 36 Ol),Oz 38 6 37 37 29 [(4,0)],(O0 39 104 38 0 [],Ox),Iy (Om 40 34 39),Iy (OI 40)] .ret)) (Ok [IA 41 0 1,O2 42 41 41 3,(O0 43 105 42 0 [],some [OO 43 0,o7 (OS 44 1) 0,o9 (oz 45 44) 44 27 [(1,0)],o7 (Ii 46 6 45 Ol) 0,o9 (OT 47 46) 46 29 [(3,0)],OO 48 0,OO 49 0,o7 (o5 2 Ix) 0]),IA 44 3 1,I0 45 44 44 27 [(1,0)],Iy (Ii 46 6 45 Ol),Oz 47 6 46 46 29 [(3,0)],(O0 48 104 47 0 [],Ox),Iy (Om 49 43 48),Iy (OI 49)] .ret))) (.seq (Iu [Ov 50 1,oz 51 50,OJ 52 .eql 51 1] 52 [OP 53 1,oz 54 53,I6 55 77 54,OI 55]) (Ti (o8 [Ov 56 1,oz 57 56,OJ 58 .eql 57 2] 58 (Ti (Iu [OP 59 1,oz 60 59,OJ 61 .eql 60 1] 61 [OI (oM [116,114,117,101])]) [OI (oM [102,97,108,115,101])])) [ow 62 2 1,oz 63 62,OI 63]))))
def y16:XF:=⟨[0],z16,[(.t 2)]⟩
theorem x16:jy Qaf 78=some y16:=by kernel_rfl
def z51:XC:=(I7 [IB 1 0,o5 2 oB] (Iu [OS 3 1,oz 4 3,IR 5 4,O4 6 .eql 5] 6 [OT 7 1,I6 8 78 7,OI 8]) [OT 9 1,I6 10 78 9,Om 11 (oM [40]) 10,Om 12 11 (oM [41]),OI 12])
def y51:XF:=⟨[0],z51,[(.t 2)]⟩
theorem x51:jy Qaf 104=some y51:=by kernel_rfl
def z53:XC:=(Ou [o5 2 oB] [Iv 3,O4 4 .lss 3] 4 [Iv 5,oi 6 (.un .neg 5),I6 7 77 6,Om 8 (oM [45]) 7,OI 8] (.seq (Iu [Iv 9,OJ 10 .lss 9 10] 10 [Iv 11,Iv 12,IK 13 12 1,oi 14 (.slStr (oM [48,49,50,51,52,53,54,55,56,57]) (some 11) (some 13)),OI 14]) (.seq (.cops [Th 15,Iw (o6 16 .quo 15 10),(I6 17 77 16,some [OO 17 0,o7 (Iv 18) 0,o7 (o6 19 .rem 18 10) 0,o7 (Iv 20) 0,o7 (o6 21 .rem 20 10) 0,o7 (IK 22 21 1) 0,o7 (oi 23 (.slStr (oM [48,49,50,51,52,53,54,55,56,57]) (some 19) (some 22))) 0,OO 24 0,o7 (o5 2 Ix) 0]),Th 18,Iw (o6 19 .rem 18 10),Th 20,Iw (o6 21 .rem 20 10),Iw (IK 22 21 1),Iw (oi 23 (.slStr (oM [48,49,50,51,52,53,54,55,56,57]) (some 19) (some 22))),Iw (Om 24 17 23),Iw (OI 24)]) .ret)))
def y53:XF:=⟨[0],z53,[(.t 2)]⟩
theorem x53:jy Qaf 77=some y53:=by kernel_rfl
def z18:XC:=(oj [IB 1 0,o5 2 oB,IQ 3] (Ou [o5 4 oB] [Ov 19 1,oz 20 19,IR 21 20,o6 22 .gtr 21 32,ou 23 22,I8 24 23 1 1,I9 25 23 24,Ib 26 23 (.len 25),OU 27 23 .gtr 26 32,Im 28 23 Ih 27,ou 29 28,I8 30 29 2 1,I9 31 29 30,Ib 32 29 (.len 31),OU 33 29 .gtr 32 32,IV 34 29 Ih 33] 34 [o5 2 oB,Or 3 141] (.seq (Ot [Ov 35 1,I4 36 35,IP 37 36,IQ 38] 0 [I5 39 38 37] 39 0 1 [Ii 40 4 36 38,oS 41 4 40,o4 6 [oB,.nils,ov,ov],o3 4 6 41] (Ou [oS 43 4 6,I6 44 56 43,ou 42 44,Ij 45 42 0,Ij 46 42 1,oq 7 45,oq 8 46] [ou 47 8,om 48 (IM 47)] 48 [o5 2 oB,Or 3 141] (.ops [OY 49,ou 50 7,Om 51 49 50,ON 51])) 52 38 1 38 52) (.seq (Ot [OP 53 1,I4 54 53,IP 55 54,IQ 56] 2 [I5 57 56 55] 57 2 3 [Ii 58 7 54 56,oS 59 7 58,o4 10 [oB,oB,ov,ov,.nils,ov,ov],o3 7 10 59] (Ou [oS 61 7 10,I6 62 57 61,ou 60 62,Ij 63 60 0,Ij 64 60 1,oq 11 63,oq 12 64] [ou 65 12,om 66 (IM 65)] 66 [o5 2 oB,Or 3 141] (.ops [OY 67,ou 68 11,Om 69 67 68,ON 69])) 70 56 1 56 70) (Ti (Oh [ow 71 2 1,I4 72 71,IP 73 72,IQ 74] 4 [I5 75 74 73] 75 4 5 (Ou [Ii 76 4 72 74,oS 77 4 76,o4 14 [oB,.nils,ov,ov],o3 4 14 77] [Ov 78 14,oz 79 78,I6 80 58 79,oi 81 (IM 80),ou 82 81,I8 83 82 1 14,I9 84 82 83,Ib 85 82 (.len 84),OU 86 82 .gtr 85 32,IV 87 82 Ih 86] 87 [o5 2 oB,Or 3 141] (o0 [OY 88,Ov 89 14,oz 90 89,Om 91 (oM [112,114,111,99,101,115,115,32]) 90,Om 92 91 (oM [32,123,10]),Om 93 88 92,ON 93] (Ot [OP 94 14,I4 95 94,IP 96 95,IQ 97] 6 [I5 98 97 96] 98 6 7 [Ii 99 7 95 97,oS 100 7 99,o4 16 [ov,ov,oB,.nils,ov,ov,.nils],o3 7 16 100] (Ou [oS 102 7 16,I6 103 59 102,ou 101 103,Ij 104 101 0,Ij 105 101 1,oq 17 104,oq 18 105] [ou 106 18,om 107 (IM 106)] 107 [o5 2 oB,Or 3 141] (.ops [OY 108,ou 109 17,Om 110 108 109,ON 110])) 111 97 1 97 111) (.ops [OY 112,Om 113 112 (oM [125,10]),ON 113]))) 114 74 1 74 114) [OY 115,OI 115,IQ 3])))))
def y18:XF:=⟨[0],z18,[(.t 2),(.t 3)]⟩
theorem x18:jy Qaf 35=some y18:=by kernel_rfl
def z54:XC:=(Ou [IB 1 0,o5 2 oB,On 3] [Ov 7 1,oz 8 7,I6 9 58 8,oi 10 (IM 9),ou 11 10,I8 12 11 1 1,I9 13 11 12,Ib 14 11 (.len 13),OU 15 11 .lss 14 1,Im 16 11 Ih 15,ou 17 16,I8 18 17 1 1,I9 19 17 18,Ib 20 17 (.len 19),OU 21 17 .gtr 20 32,IV 22 17 Ih 21] 22 (IE (o5 2 oB) 3 oY) (I7 [Ov 23 1,oz 24 23,Om 25 (oM [101,110,117,109,32]) 24,Om 26 25 (oM [32,123,32]),ON 26] (Oh [OP 27 1,I4 28 27,IP 29 28,IQ 30] 0 [I5 31 30 29] 31 0 1 (Ou [ou 32 30,Ii 33 1 28 30,oz 34 33,oq 5 32,oq 6 34] [Tg 35,I6 36 58 35,om 37 (IM 36)] 37 (IE (o5 2 oB) 3 oY) (.seq (Oj [OV 38,O4 39 .gtr 38] 39 [OY 40,Om 41 40 (oM [44,32]),ON 41]) (.ops [OY 42,Tg 43,Om 44 42 43,ON 44]))) 45 30 1 30 45) [OY 46,Om 47 46 (oM [32,125,10]),OI 47,oq 3 Ih]))
def y54:XF:=⟨[0],z54,[(.t 2),(.t 3)]⟩
theorem x54:jy Qaf 56=some y54:=by kernel_rfl
def jev:XC:=(.seq (Iu [ow 57 4 1,oz 58 57,IR 59 58,o6 60 .gtr 59 1,ou 61 60,I8 62 61 0 1,I9 63 61 62,Oq 64 (61,false) 58 [] [63],Ib 65 61 (IM 64),IV 66 61 Ih 65] 66 (IE (o5 2 oB) 3 oY)) (Ti (Oh [ow 67 4 1,I4 68 67,IP 69 68,IQ 70] 0 [I5 71 70 69] 71 0 1 (Ou [Ii 72 6 68 70,OT 73 72,Tc 6,o3 6 6 73] [OT 74 6,I6 75 11 74,om 76 (IM 75)] 76 (IE (o5 2 oB) 3 oY) (.ops [OY 77,OT 78 6,I6 79 78 78,Om 80 (oM [32,61,32]) 79,Om 81 77 80,ON 81])) 82 70 1 70 82) [OY 83,Om 84 83 (oM [59,10]),OI 84,oq 3 Ih]))
def z55:XC:=(oj [IB 1 0,o5 2 oB,On 3] (o0 [Ov 7 1,oz 8 7,Om 9 (oM [118,97,114,32]) 8,Om 10 9 (oM [32,58,32]),ON 10] (oG [OP 11 1,oz 12 11,om 13 (.strb .eql 12 (.c oB))] 13 (.seq (Iu [ow 14 2 1,oz 15 14,I6 16 76 15,oi 17 (IM 16),ou 18 17,I8 19 18 3 1,I9 20 18 19,Oq 21 (18,false) 76 [] [20],Ib 22 18 (IM 21),IV 23 18 Ih 22] 23 (IE (o5 2 oB) 3 oY)) (.dops [Iy (OY 24),IA 25 2 1,O2 26 25 25 2,(O0 27 77 26 0 [],some [OO 27 0,OO 28 0,o7 (OS 29 1) 0,o9 (oz 30 29) 29 2 [(2,0)],OO 31 0,OO 32 0,OO 33 0,o7 (o5 4 Ix) 0]),Iy (Om 28 27 (oM [46,46])),IA 29 3 1,I0 30 29 29 2 [(2,0)],(O0 31 77 30 0 [],Ox),Iy (Om 32 28 31),Iy (Om 33 24 32),Iy (ON 33)])) (.seq (Iu [ow 34 2 1,oz 35 34,O1 36 .neq 35,ou 37 36,I8 38 37 3 1,I9 39 37 38,Ib 40 37 (OB .neq 39),Im 41 37 Ih 40,ou 42 41,I8 43 42 1 1,I9 44 42 43,Ib 45 42 (.strb .neq 44 (oM [98,111,111,108])),IL 46 42 45,Oy 47 46 1 1,Ow 48 46 47,Oq 49 (46,true) 58 [] [48],Ic 50 46 (IM 49),Ib 51 42 (.pick 46 50 oY),IV 52 42 Ih 51] 52 (IE (o5 2 oB) 3 oY)) (.ops [OY 53,OP 54 1,oz 55 54,Om 56 53 55,ON 56]))) jev))
def y55:XF:=⟨[0],z55,[(.t 2),(.t 3)]⟩
theorem x55:jy Qaf 57=some y55:=by kernel_rfl
def z57:XC:=(Ou [IB 1 0,o5 2 oB,On 3] [Ov 7 1,OT 8 7,I6 9 11 8,oi 10 (IM 9),ou 11 10,I8 12 11 6 1,I9 13 11 12,Ib 14 11 (.len 13),OU 15 11 .lss 14 1,Im 16 11 Ih 15,ou 17 16,I8 18 17 6 1,I9 19 17 18,Ib 20 17 (.len 19),OU 21 17 .gtr 20 32,IV 22 17 Ih 21] 22 (IE (o5 2 oB) 3 oY) (I7 [Ov 23 1,OT 24 23,I6 25 78 24,Om 26 (oM [32,32,119,104,101,110,32]) 25,Om 27 26 (oM [32,100,111,32]),ON 27] (Oh [ow 28 6 1,I4 29 28,IP 30 29,IQ 31] 0 [I5 32 31 30] 32 0 1 (Ou [ou 33 31,Ii 34 9 29 31,oS 35 9 34,o4 6 [oB,ov,ov,oB,.nils,ov,ov,ov,ov],oq 5 33,o3 9 6 35] [Ov 36 6,oz 37 36,I6 38 58 37,oi 39 (IM 38),ou 40 39,I8 41 40 1 6,Ib 42 40 (.ldA 6 41),Oq 43 (40,false) 11 [] [42],Ib 44 40 (IM 43),IV 45 40 Ih 44] 45 (IE (o5 2 oB) 3 oY) (.seq (Oj [OV 46,O4 47 .gtr 46] 47 [OY 48,Om 49 48 (oM [44,32]),ON 49]) (.dops [Iy (OY 50),IA 51 0 6,O2 52 51 51 9,Iy (Om 53 52 (oM [32,58,61,32])),IA 54 1 6,Oz 55 6 54 54 29 [],(O0 56 78 55 0 [(3,9)],Ox),Iy (Om 57 53 56),Iy (Om 58 50 57),Iy (ON 58)]))) 59 31 1 31 59) [OY 60,Om 61 60 (oM [59,10]),OI 61,oq 3 Ih]))
def y57:XF:=⟨[0],z57,[(.t 2),(.t 3)]⟩
theorem x57:jy Qaf 59=some y57:=by kernel_rfl
end Go.Sy
end
noncomputable section
set_option maxRecDepth 100000
namespace Go.Sy
open Go.Ev Go.Proofs
variable {base:Bs}
section
variable {P:Program} {e:En} {st:St} {K:AV->St->Prop}
def gu (P:Program)(t:TypeId)(v:AV)(st:St):ER:=(YH P (O v) t).run E0 st
theorem jhV (x:A)(t:TypeId):wK P base (.i (.assert x t)) e st K=on1 e x λv=>jl (gu P t v st) K:=k_1 rfl (λ_=>rfl) K
end
theorem Wb {P:Program}(res:List RV)(m:Md)(K:Md->St->Prop)(L:Sl)(st:St):jfG P res m K (.go L st)=yt P res L st λ_=>K m st:=nr rfl
theorem jqY (t:Tk)(st:St)(K:AV->St->Prop):jl (gu Qaf 45 (er t) st) K=K (.tup [.agg [.int .i64 151,.int .i64 (t.line:Int),.int .i64 (t.col:Int)],.bool true]) st:=by
 have:gu Qaf 45 (er t) st=.ok (.tup [.agg [.int .i64 151,.int .i64 (t.line:Int),.int .i64 (t.col:Int)],.bool true]) st:=by kernel_rfl
 rw[this];rfl
theorem jie (st:St)(K:AV->St->Prop):jl (YZ Qaf .eql 20 true .nilif .nilif st) K=K (.bool true) st:=by
 have:YZ Qaf .eql 20 true .nilif .nilif st=.ok (.bool true) st:=by kernel_rfl
 rw[this];rfl
theorem jqt (t:Tk)(st:St)(K:AV->St->Prop):jl (YZ Qaf .eql 20 true (er t) .nilif st) K=K (.bool false) st:=by
 have:YZ Qaf .eql 20 true (er t) .nilif st=.ok (.bool false) st:=by kernel_rfl
 rw[this];rfl
theorem jaG {P:Program}{f:FuncId}{xs:List AV}{m m1:Md}{st s1:St}(h:∀ K:Md->St->Prop,K m1 s1->DX P base f xs m st K)(K:Md->St->Prop):DX P base f xs m st K=K m1 s1:=by
 refine propext ⟨λ⟨m2,s2,⟨N2,D2,h2⟩,h3⟩=>?_,h K⟩;obtain⟨m',s',⟨N,D,h1⟩,rfl,rfl⟩:=h (λm' s'=>m'=m1/\s'=s1) ⟨rfl,rfl⟩;have e1:=h1 (max N N2) (QaL ..) (max D D2) (QaL ..);have e2:=h2 (max N N2) (QaI ..) (max D D2) (QaI ..);rw[e1] at e2;cases e2;exact h3
theorem jc2 {fb:Nat}(st:St)(hfr:st.fr=[])(K:Md->St->Prop):DX Qaf base 65 [.ptr fb 0] .calm st K=K .calm st:=by
 refine jaG (λK hK=>?_) K;refine ud jo2 (by rfl) hfr ?_;simp only[gC,jt,Qai,Qaj,Qag,XL,Ym];rw[(by unfold u7;simp only[qq];rfl:u7=_)];repeat'(first|(apply jc<;>intro _)|simp(disch:=first|exact dzD|fail) only[jie,Wb,je,Tk.cells_R,rzZ,Qab,Qac,Qad,Qaa,Qae])
 exact hK
theorem jfP {fb:Nat}(t:Tk){cs:List AV}(st:St)(hfr:st.fr=[])(C:Cl st fb cs)(hcs:cs.length=3)(K:Md->St->Prop) :
  DX Qaf base 65 [.ptr fb 0] (.pan (er t)) st K=K .done (wr (wr (nw st [.int .i64 0,.int .i64 0,.int .i64 0]) st.nx 0 [.int .i64 151,.int .i64 (t.line:Int),.int .i64 (t.col:Int)]) fb 0 [.int .i64 151,.int .i64 (t.line:Int),.int .i64 (t.col:Int)]):=by
 refine jaG (λK hK=>?_) K;refine ud jo2 (by rfl) hfr ?_;simp only[gC,jt,Qai,Qaj,Qag,XL,Ym];rw[(by unfold u7;simp only[qq];rfl:u7=_)];have hl:=C.lt;have l0:=C.len;have hne:¬ fb=st.nx:=by omega
 (have zz:=aI @l0 @hcs;(repeat'(first|(apply jc<;>intro _)|simp(disch:=first|exact qO|fail) only[jqt,jhV,jqY,Wb,l0,hcs,je,Tk.cells_R,rzZ,Qab,Qac,Qad,Qaa,Qae]));(all_goals(clear zz)))
 exact hK
end Go.Sy
end
noncomputable section
set_option maxRecDepth 100000
namespace Go.Sy
open Go.Ev Go.Proofs
variable {base:Bs}
theorem vG {fb:Nat}(st:St)(K:Md->St->Prop):DX Qaf base 65 [.ptr fb 0] .calm st.bare K=K .calm st.bare:=jc2 st.bare rfl K
theorem Wt {fb:Nat}(t:Tk)(st:St)(h:qt st.h fb=3)(hn:fb<st.nx)(K:Md->St->Prop) :
  DX Qaf base 65 [.ptr fb 0] (.pan (er t)) st.bare K=K .done (wr (wr (nw st.bare [.int .i64 0,.int .i64 0,.int .i64 0]) st.nx 0 [.int .i64 151,.int .i64 (t.line:Int),.int .i64 (t.col:Int)]) fb 0 [.int .i64 151,.int .i64 (t.line:Int),.int .i64 (t.col:Int)]):=
 have C:Cl st fb (rats st.h fb 0 3):=Cl.of_rats hn h (Q0 _ _ _ _) (by decide) rfl
 jfP t st.bare rfl C.bar (Q0 _ _ _ _) K
theorem jrA:Go.Ev.isAgg Qaf 45=some true:=by kernel_rfl
theorem jrz:Go.Ev.sizeOf Qaf 45=some 3:=by kernel_rfl
theorem YP {b:Nat}{x y z:Int}{h:T AO}(ho:0+3<=qt h b)(hv:rats h b 0 3=[.int .i64 x,.int .i64 y,.int .i64 z]):(jX Qaf 45 (.ptr b 0) (.agg [.int .i64 x,.int .i64 y,.int .i64 z]) h=true)=True:=eq_true (YR jrA jrz (by decide) ho hv rfl)
theorem vM {b:Nat}{x y z w:Int}{n:List Nat}{h:T AO}(ho:0+6<=qt h b)(hv:rats h b 0 6=[.int .i64 x,.int .i64 y,.str n,.nils,.int .i64 z,.int .i64 w]):(jX Qaf 29 (.ptr b 0) (.agg [.int .i64 x,.int .i64 y,.str n,.nils,.int .i64 z,.int .i64 w]) h=true)=True:=eq_true (YR HU HT (by decide) ho hv rfl)
section
variable {P:Program} {st:St} {K Kp:AV->St->Prop}
theorem J1 {f:FuncId}{vs:List AV}(h:st.fr=[(f,vs)])(res:List RV)(v:AV)(L:Sl):Vl P base res K Kp v L st=DX P base f vs (.pan v) st.bare λm' st'=>(match m' with
  |.calm=>yt P res L st'.bare λvs=>K (zC vs) st'.bare
  |.pan v=>Kp v st'.bare
  |.done=>yt P res L st'.bare λvs=>K (zC vs) st'.bare):=by
 have:Vl P base res K Kp v L st=yP P base res K Kp [(f,vs)] L st.bare (.pan v):=by show yP P base res K Kp st.fr L st.bare (.pan v)=_;rw[h]
 rw[this,jaZ];rfl
theorem Jv {f:FuncId}{vs:List AV}(h:st.fr=[(f,vs)])(res:List RV)(L:Sl):Gp P base res K Kp (.rt L st)=DX P base f vs .calm st.bare λm' st'=>(match m' with
  |.calm=>yt P res L st'.bare λvs=>K (zC vs) st'.bare
  |.pan v=>Kp v st'.bare
  |.done=>yt P res L st'.bare λvs=>K (zC vs) st'.bare):=by
 have:Gp P base res K Kp (.rt L st)=yP P base res K Kp [(f,vs)] L st.bare .calm:=by show yP P base res K Kp st.fr L st.bare .calm=_;rw[h]
 rw[this,jaZ];rfl
theorem Yi (h:st.fr=[])(res:List RV)(L:Sl):Gp P base res K Kp (.rt L st)=yt P res L st.bare λvs=>K (zC vs) st.bare:=by
 show yP P base res K Kp st.fr L st.bare .calm=_;rw[h];rfl
end
theorem jqr {s:St}{x:Ex}{q:Nat×Nat×Nat}{cs ds:List AV}(h:cs=eE x)(h2:ds=zG q):G0 (.tup [.agg (eE x),.agg (zG q)]) (.tup [.agg cs,.agg ds]) s:=by
 subst h h2;exact FzD.tup (.cons (.agg (.pc (qY x))) (.cons (.agg (.pc (by rfl))) .nil))
theorem jce {s:St}{q:Nat×Nat×Nat}{ds:List AV}(h2:ds=zG q):G0 (.tup [.agg (eE (.mk 0 0 [] [] 0 0)),.agg (zG q)]) (.tup [.agg [.int .i64 0,.int .i64 0,.str [],.nils,.int .i64 0,.int .i64 0],.agg ds]) s:=by
 subst h2;exact FzD.tup (.cons Yp (.cons (.agg (.pc (by rfl))) .nil))
def ex0:Ex:=.mk 0 0 [] [] 0 0
def yo (l:List Nat):Ex×(Nat×Nat×Nat):=
 if(qo l).2.1≠0 then(ex0,(qo l).2) else match yn (qo l).1 0 with
  |.er t=>(ex0,(151,t.line,t.col))
  |.ok x j=>if(tk (qo l).1 j).kind=5 then(x,(0,0,0)) else(ex0,(151,(tk (qo l).1 j).line,(tk (qo l).1 j).col))
theorem yc {ts:List Tk}(W:Wds ts){i j:Nat}{x:Ex}(hi:i<ts.length)(h:yn ts i=.ok x j):i+1<=j/\j<ts.length/\x.ev (atW ts)/\yZ 60 x=true:=by
 obtain⟨r,hg,hr⟩:=evR W hi;rw[W8 hr] at h;unfold W7 at h;cases r with
 |er t=>cases h
 |ok y k=>
  dsimp only at h;by_cases c:yZ 60 y=true
  ·rw[if_pos c] at h;cases h;exact⟨hg.1,hg.2.1,hg.2.2,c⟩
  ·rw[if_neg c] at h;cases h
set_option maxHeartbeats 4000000 in
theorem jre (hb:NB base)(hP:PI base)(l:List Nat)(hl:l.length<=9223372036854775807)(hW:(qo l).2.1=0->Wds (qo l).1/\(qo l).1≠[]/\(qo l).2=(0,0,0)) :
  Tot base 54 [.str l] (.tup [.agg (eE (yo l).1),.agg (zG (yo l).2)]):=by
 refine hb.tot ?_ rfl rfl;refine Wq x15 (hb.pur 54 1 (by decide)) ?_;simp only[y15,jt,Qai,Qaj,Qag,Qah];rw[(by unfold z15;simp only[qq];rfl:z15=_)];have hC:=jmA hb hP l hl;have f0:(zG (qo l).2)=[.int .i64 ((qo l).2.1:Int),.int .i64 ((qo l).2.2.1:Int),.int .i64 ((qo l).2.2.2:Int)]:=rfl;by_cases he:(qo l).2.1=0
 ·obtain⟨W,hne,hz⟩:=hW he;have hi:0<(qo l).1.length:=QbO.2 hne;have A:=Uc hb W hi;unfold yo;rw[if_neg (by simp[he])];rw[hz] at hC;generalize (qo l).1=ts at *;have fz:zG (0,0,0)=[.int .i64 0,.int .i64 0,.int .i64 0]:=rfl;rw[fz] at hC;cases hr:yn ts 0 with
  |er t=>
   rw[hr] at A;obtain⟨i',d',A⟩:=A;have E:∀ st p,Cl st p [.lst ts.length (fl Tk.cells ts),.int .i64 0,.int .i64 0]->∀ K Kp,XB Qaf base 72 [.ptr p 0] st K Kp=_:=λst p C K Kp=>A.xb C rfl (λst=>hb.no 72 (by decide) _ _) K Kp;unfold pC at *;repeat'(first|(apply jc<;>intro _)|simp(disch:=first|exact dzD|fail) only[hC,E,wa,J1 (f:=65) (vs:=[.ptr 1 0]),Jv (f:=65) (vs:=[.ptr 1 0]),Yi,vG,Wt,je,Tk.cells_R,rzZ,Qab,Qac,Qad,Qaa,Qae])
   exact jce rfl
  |ok x j=>
   rw[hr] at A;have A:PM _ _ _ _ _ _ _:=A;have hj:j<ts.length:=(yc W hi hr).2.1;have hN:=λst p=>@YW base hb ts j 0 hj st p;have E:∀ st p,Cl st p [.lst ts.length (fl Tk.cells ts),.int .i64 0,.int .i64 0]->∀ K Kp,XB Qaf base 72 [.ptr p 0] st K Kp=_:=λst p C K Kp=>A.xb C rfl (λst=>hb.no 72 (by decide) _ _) K Kp;dsimp only;by_cases k5:(tk ts j).kind=5
   ·rw[if_pos k5];have k5':((tk ts j).kind:Int)=5:=by omega
    unfold pC at *
    (have zz:=@QO;(repeat'(first|(apply jc<;>intro _)|simp(disch:=first|exact qO|fail) only[hC,E,hN,k5',wa,J1 (f:=65) (vs:=[.ptr 1 0]),Jv (f:=65) (vs:=[.ptr 1 0]),Yi,vG,Wt,QM,vM,YP,<-qG,QO,je,Tk.cells_R,rzZ,Qab,Qac,Qad,Qaa,Qae]));(all_goals(clear zz)))
    exact jqr rfl rfl
   ·rw[if_neg k5];have k5':¬ ((tk ts j).kind:Int)=5:=by omega
    unfold pC at *;repeat'(first|(apply jc<;>intro _)|simp(disch:=first|exact dzD|fail) only[hC,E,hN,k5',Qa hb,wa,J1 (f:=65) (vs:=[.ptr 1 0]),Jv (f:=65) (vs:=[.ptr 1 0]),Yi,vG,Wt,QM,vM,YP,je,Tk.cells_R,rzZ,Qab,Qac,Qad,Qaa,Qae])
    exact jce rfl
 ·have he':¬ ((qo l).2.1:Int)=0:=by omega
  unfold yo;rw[if_pos he];rw[f0] at hC;generalize (qo l).1=ts at *;repeat'(first|(apply jc<;>intro _)|simp(disch:=first|exact dzD|fail) only[hC,he',wa,J1 (f:=65) (vs:=[.ptr 1 0]),Jv (f:=65) (vs:=[.ptr 1 0]),Yi,vG,Wt,QM,vM,YP,je,Tk.cells_R,rzZ,Qab,Qac,Qad,Qaa,Qae])
  exact jce rfl
end Go.Sy
end
noncomputable section
set_option maxRecDepth 100000
namespace Go.Sy
open Go.Ev Go.Proofs
variable {base:Bs}
inductive SR (α:Type) where
 |ok (x:α) (j:Nat)
 |er (t:Tk)
def Nbs (ts:List Tk):Prop:=∀ i,(tk ts i).num<=1000000
def AnS {α:Type}(base:Bs)(f:FuncId)(c xs:List AV)(ts:List Tk)(d:Nat)(enc:α->AV):SR α->Prop
 |.ok x j=>PM Qaf base f c xs (.ok (enc x)) (pC ts j d)
 |.er t=>∃ i' d',PM Qaf base f c xs (.pn (er t)) (pC ts i' d')
def SK {α:Type}(ts:List Tk)(d:Nat)(enc:α->AV)(r:SR α)(v:AV)(s:St):Prop:=match r with | .ok y j=>G1 3 (pC ts j d) (enc y) v s | .er _=>False
def SP {α:Type}(ts:List Tk)(r:SR α)(v:AV)(s:St):Prop:=match r with | .ok _ _=>False | .er t=>∃ i' d',G1 3 (pC ts i' d') (er t) v s
theorem H0 {α:Type}(ts:List Tk)(d:Nat)(enc:α->AV)(y:α)(j:Nat)(v:AV)(s:St):SK ts d enc (.ok y j) v s=G1 3 (pC ts j d) (enc y) v s:=nr rfl
theorem zA {α:Type}(ts:List Tk)(t:Tk)(v:AV)(s:St):SP (α:=α) ts (.er t) v s = ∃ i' d',G1 3 (pC ts i' d') (er t) v s:=nr rfl
theorem vI {α:Type}{f:FuncId}{F:XF}(hl:jy Qaf f=some F)(hnd:F.body.nd=true)(hm:base.pur f=3){xs:List AV}{ts:List Tk}{i d:Nat}{enc:α->AV}{r:SR α}
  (h:xC Qaf base F.body (jt F.ps (.ptr 0 0 :: xs)) (nw st0 (pC ts i d)) (Xa Qaf F.res (SK ts d enc r)) λv _ s=>SP ts r v s.bare):AnS base f (pC ts i d) xs ts d enc r:=by
 rw[<-gZ] at h;obtain⟨q,he,hq⟩:=Yr (st:=Zp (pC ts i d)) (K:=SK ts d enc r) (Kp:=SP ts r) hl hnd h;cases r with
 |ok y j=>
  refine PM.of hm rfl ⟨q,he,?_⟩;cases q<;>first|exact hq|exact hq.elim
 |er t=>
  cases q with
  |no=>exact hq.elim
  |ok v s=>exact(hq:False).elim
  |pn v s=>
   obtain⟨i',d',hq⟩:=(hq:∃ i' d',G1 3 (pC ts i' d') (er t) v s);exact⟨i',d',PM.of hm rfl ⟨_,he,hq⟩⟩
def YV (ts:List Tk)(i:Nat):SR Int:=
 if isM (tk ts i) [[45]]=true then(if(tk ts (i+1)).kind=2 then .ok (-((tk ts (i+1)).num:Int)) (i+2) else .er (tk ts (i+1)))
 else(if(tk ts i).kind=2 then .ok ((tk ts i).num:Int) (i+1) else .er (tk ts i))
theorem jbE (hb:NB base){ts:List Tk}(W:Wds ts)(N:Nbs ts){i d:Nat}(hi:i<ts.length):AnS base 122 (pC ts i d) [] ts d (λn=>.int .i64 n) (YV ts i):=by
 have wl:=W.len;have T:=YN hb hi (d:=d) (by omega) [[45]] (cs:=[.str [45]]) (n:=1) rfl rfl (by decide);unfold YV;by_cases c1:isM (tk ts i) [[45]]=true
 ·rw[if_pos c1];have hi1:=W.isM hi c1;have hN:=λst p=>@YW base hb ts (i+1) d hi1 st p;have hn:=N (i+1);by_cases k2:(tk ts (i+1)).kind=2
  ·rw[if_pos k2];have k2':((tk ts (i+1)).kind:Int)=2:=by omega
   show PM _ _ _ _ _ _ _;unfold pC at *;refine j2 jeG (by rfl) (hb.pur 122 3 (by decide)) rfl ?_;simp only[jaV,jt,Qai,Qaj,Qag,Qah];rw[(by unfold Wa;simp only[qq];rfl:Wa=_)];repeat'(first|(apply jc<;>intro _)|simp(disch:=first|exact dzD|fail) only[T,c1,hN,k2',je,Tk.cells_R,rzZ,Qab,Qac,Qad,Qaa,Qae])
   (refine G1.done ?_ (by rfl) (by rfl) ?_;(· (first|exact cyD|fail));(· first|exact vyD|skip))
  ·rw[if_neg k2];have k2':¬ ((tk ts (i+1)).kind:Int)=2:=by omega
   refine⟨i+1,d,?_⟩;unfold pC at *;refine j2 jeG (by rfl) (hb.pur 122 3 (by decide)) rfl ?_;simp only[jaV,jt,Qai,Qaj,Qag,Qah];rw[(by unfold Wa;simp only[qq];rfl:Wa=_)];repeat'(first|(apply jc<;>intro _)|simp(disch:=first|exact dzD|fail) only[T,c1,hN,k2',Qa hb,je,Tk.cells_R,rzZ,Qab,Qac,Qad,Qaa,Qae])
   (refine G1.done ?_ (by rfl) (by rfl) ?_;(· (first|exact cyD|fail));(· first|exact vyD|skip))
 ·rw[if_neg c1];have hN:=λst p=>@YW base hb ts i d hi st p;have hn:=N i;by_cases k2:(tk ts i).kind=2
  ·rw[if_pos k2];have k2':((tk ts i).kind:Int)=2:=by omega
   show PM _ _ _ _ _ _ _;unfold pC at *;refine j2 jeG (by rfl) (hb.pur 122 3 (by decide)) rfl ?_;simp only[jaV,jt,Qai,Qaj,Qag,Qah];rw[(by unfold Wa;simp only[qq];rfl:Wa=_)];repeat'(first|(apply jc<;>intro _)|simp(disch:=first|exact dzD|fail) only[T,c1,hN,k2',je,Tk.cells_R,rzZ,Qab,Qac,Qad,Qaa,Qae])
   (refine G1.done ?_ (by rfl) (by rfl) ?_;(· (first|exact cyD|fail));(· first|exact vyD|skip))
  ·rw[if_neg k2];have k2':¬ ((tk ts i).kind:Int)=2:=by omega
   refine⟨i,d,?_⟩;unfold pC at *;refine j2 jeG (by rfl) (hb.pur 122 3 (by decide)) rfl ?_;simp only[jaV,jt,Qai,Qaj,Qag,Qah];rw[(by unfold Wa;simp only[qq];rfl:Wa=_)];repeat'(first|(apply jc<;>intro _)|simp(disch:=first|exact dzD|fail) only[T,c1,hN,k2',Qa hb,je,Tk.cells_R,rzZ,Qab,Qac,Qad,Qaa,Qae])
   (refine G1.done ?_ (by rfl) (by rfl) ?_;(· (first|exact cyD|fail));(· first|exact vyD|skip))
structure EnumT where
 name:List Nat
 vals:List (List Nat)
 line:Int
 col:Int
def enE (e:EnumT):List AV:=[.str e.name,.lst e.vals.length (e.vals.map .str),.int .i64 (e.line:Int),.int .i64 (e.col:Int)]
def YJ (ts:List Tk):Nat->Nat->List (List Nat)->SR (List (List Nat))
 |0,i,_=>.er (tk ts i)
 |n+1,i,vs=>if(tk ts i).kind=1 then
   (if 32<=vs.length then .er (tk ts i)
    else if isM (tk ts (i+1)) [[44]]=true then YJ ts n (i+2) (vs ++ [(tk ts i).text])
    else if isM (tk ts (i+1)) [[125]]=true then .ok (vs ++ [(tk ts i).text]) (i+2)
    else .er (tk ts (i+1)))
  else .er (tk ts i)
def ZK (ts:List Tk)(i:Nat):SR EnumT:=
 if(tk ts i).kind=1 then
  (if isM (tk ts (i+1)) [[123]]=true then(match YJ ts ts.length (i+2) [] with
    |.ok vs j=>.ok ⟨(tk ts i).text,vs,(tk ts i).line,(tk ts i).col⟩ j
    |.er t=>.er t)
   else .er (tk ts (i+1)))
 else .er (tk ts i)
end Go.Sy
end
noncomputable section
set_option maxRecDepth 100000
namespace Go.Sy
open Go.Ev Go.Proofs
variable {base:Bs}
theorem wL (hb:NB base){n:Nat}(h:n<32)(t:Tk):Tot base 87 [.int .i64 (n:Int),.agg t.cells] (.tup []):=by
 have:=jg3 hb n t;rw[if_neg (by omega)] at this;exact this
theorem wM (hb:NB base){n:Nat}(h:32<=n)(t:Tk):Ret base 87 [.int .i64 (n:Int),.agg t.cells] (.pn (er t)):=by
 have:=jg3 hb n t;rw[if_pos h] at this;exact this
theorem jrs:Go.Ev.isAgg Qaf 106=some false:=by kernel_rfl
theorem jrr:Go.Ev.sizeOf Qaf 106=some 1:=by kernel_rfl
theorem gN {b o:Nat}{v:AV}{h:T AO}(ho:o<qt h b)(hv:rat h b o=v)(hc:eqs v=true):(jX Qaf 106 (.ptr b o) v h=true)=True:=eq_true (J4 jrs jrr ho hv hc)
theorem Lv.eqs {lo hi n z:Nat}{s:St}{v:AV}{cs:List AV}(h:Lv lo hi s v n cs z):Go.Sy.eqs v=true:=by
 rcases h with ⟨rfl,_⟩|⟨b,rfl,_⟩<;>rfl
theorem Lv.cell {lo hi n z:Nat}{s:St}{v:AV}{cs:List AV}(h:Lv lo hi s v n cs z):v.cell=true:=by
 rcases h with ⟨rfl,_⟩|⟨b,rfl,_⟩<;>rfl
theorem Lv.cells {lo hi n z:Nat}{s:St}{v:AV}{cs:List AV}(h:Lv lo hi s v n cs z):v.cells=[v]:=by
 rcases h with ⟨rfl,_⟩|⟨b,rfl,_⟩<;>rfl
theorem Lv.plain {lo hi n z:Nat}{s:St}{v:AV}{cs:List AV}(h:Lv lo hi s v n cs z):v.plain=true:=by
 rcases h with ⟨rfl,_⟩|⟨b,rfl,_⟩<;>rfl
theorem Lv.len {lo hi n z:Nat}{s:St}{v:AV}{cs:List AV}(h:Lv lo hi s v n cs z)(st:St)(K:AV->St->Prop):jl (jbN v st) K=K (.int .i64 (n:Int)) st:=by
 rcases h with ⟨rfl,rfl,_⟩|⟨b,rfl,_⟩
 ·exact jbb
 ·exact jeL ..
theorem jC (z:Nat)(v:AV)(s:St):(apv z v s).cells=[apv z v s]:=by unfold apv;split<;>rfl
theorem jI (z:Nat)(v:AV)(s:St):(apv z v s).plain=true:=by unfold apv;split<;>rfl
theorem jL (z:Nat)(v:AV)(s:St)(l:List AV):lall AV.cell (apv z v s :: l)=lall AV.cell l:=by unfold apv;split<;>rfl
set_option maxHeartbeats 4000000 in
theorem jqw (hb:NB base){ts:List Tk}(W:Wds ts){i d:Nat}(hi:i<ts.length):AnS base 88 (pC ts i d) [] ts d (λe=>.agg (enE e)) (ZK ts i):=by
 have wl:=W.len;have N:=λst p=>@uS base hb ts i d hi (by omega) st p;unfold ZK;by_cases k1:(tk ts i).kind=1
 ·rw[if_pos k1];have hi1:i+1<ts.length:=W.next i hi (by omega)
  have M:=λst p=>@QE base hb ts (i+1) d hi1 (by omega) [123] st p;by_cases c1:isM (tk ts (i+1)) [[123]]=true
  ·rw[if_pos c1];have hi2:=W.isM hi1 c1;suffices h:∀ r:SR EnumT,(match YJ ts ts.length (i+2) [] with
    |.ok vs j=>SR.ok ⟨(tk ts i).text,vs,(tk ts i).line,(tk ts i).col⟩ j
    |.er t=>.er t:SR EnumT)=r->AnS base 88 (pC ts i d) [] ts d (λe=>.agg (enE e)) r from h _ rfl
   intro r hr;refine vI x78 (by rfl) (hb.pur 88 3 (by decide)) ?_;simp only[y78,jt,Qai,Qaj,Qag,Qah];rw[(by unfold z78;simp only[qq];rfl:z78=_)];unfold pC at *;repeat'(first|(apply jc<;>intro _)|simp(disch:=first|exact dzD|fail) only[N,k1,M,c1,je,Tk.cells_R,rzZ,Qab,Qac,Qad,Qaa,Qae])
   refine uI λu hu=>?_;have n0:u.nx=4:=by rw[hu];rfl
   have C0:Cl u 0 (pC ts (i+2) d):=by
    rw[hu];unfold pC
    (first|exact cyD|fail)
   have C1:Cl u 1 [.str [],.nils,.int .i64 0,.int .i64 0]:=by
    rw[hu]
    (first|exact cyD|fail)
   have C3:Cl u 3 [.str (tk ts i).text,.nils,.int .i64 ((tk ts i).line:Int),.int .i64 ((tk ts i).col:Int)]:=by
    rw[hu]
    (first|exact cyD|fail)
   clear hu N M;generalize (tk ts i).text=nm at *;generalize (tk ts i).line=ln at *;generalize (tk ts i).col=co at *;refine zj (λmm L s=>∃ (m i':Nat) (vs:List (List Nat)) (v:AV),mm=m/\ts.length<=i'+m/\i'<ts.length/\(match YJ ts m i' vs with | .ok vs j=>SR.ok ⟨nm,vs,ln,co⟩ j | .er t=>.er t:SR EnumT)=r/\4<=s.nx/\Cl s 0 (pC ts i' d)/\Cl s 1 [.str [],.nils,.int .i64 0,.int .i64 0]/\Cl s 3 [.str nm,v,.int .i64 (ln:Int),.int .i64 (co:Int)]/\Lv 4 s.nx s v vs.length (vs.map .str) 1/\Has L 0 (.ptr 0 0)/\Has L 2 (.ptr 1 0)/\Has L 4 (.ptr 3 0)) ?_ ts.length ?_
   ·rintro m L s ⟨_,i',vs,v,rfl,hm,hi',hl,n0,C0,C1,C3,V,i0,i2,i4⟩;clear hr;cases m with
    |zero=>omega
    |succ m=>
    unfold YJ at hl;obtain⟨q,hq⟩:∃ q,q=s.nx:=⟨_,rfl⟩;rw[<-hq] at V;have hq':q<=s.nx:=QbC hq;have hN:=λst p=>@YW base hb ts i' d hi' st p;have hM:=λst p=>@uS base hb ts i' d hi' (by omega) st p;have L0:=C0.lt;have L1:=C1.lt;have L3:=C3.lt;have ve:=V.eqs;have g3:rat s.h 3 1=v:=C3.cell 1 (QbS (Qbr 2));have vl:=V.len;by_cases k1:(tk ts i').kind=1
    ·rw[if_pos k1] at hl;have k1':((tk ts i').kind:Int)=1:=by omega
     have hi1:i'+1<ts.length:=W.next i' hi' (by omega)
     by_cases h32:32<=vs.length
     ·rw[if_pos h32] at hl;subst hl;have R:=wM hb h32 (tk ts i');unfold pC at *
      (have zz:=aI @g3 (aI C0.r (aI C1.r C3.r));(repeat'(first|(apply jc<;>intro _)|simp(disch:=first|exact qO|fail) only[ja i0,ja i2,ja i4,hN,k1',vl,R,gN,ve,zA,C0.q,C1.q,C3.q,g3,C0.r,C1.r,C3.r,je,Tk.cells_R,rzZ,Qab,Qac,Qad,Qaa,Qae]));(all_goals(clear zz)))
      refine⟨i',d,?_⟩;unfold pC
      (refine G1.done ?_ (by rfl) (by rfl) ?_;(· (have zz:=aI C0.q (aI C1.q (aI C3.q (aI C0.r (aI C1.r C3.r))));first|exact qm|fail));(· first|exact vyD|skip))
     ·rw[if_neg h32] at hl;have R:=wL hb (show vs.length<32 by omega) (tk ts i');have T:=YN hb hi1 (d:=d) (by omega) [[44]] (cs:=[.str [44]]) (n:=1) rfl rfl (by decide);have M:=λst p=>@QE base hb ts (i'+1) d hi1 (by omega) [125] st p;have A:=λst bv xc xx K h hv=>@J0 4 q vs.length 1 st v (vs.map .str) K 16 bv xc xx h (by decide) (by omega) (by omega) hv;have V2:∀ st m',Lv 4 q st v vs.length (vs.map .str) 1->4<=st.nx->m'=st.nx+1->Lv 4 m' (aps v st [.str (tk ts i').text]) (apv 1 v st) (vs ++ [(tk ts i').text]).length ((vs ++ [(tk ts i').text]).map .str) 1:=λst m' h h2 h3=>by
       rw[Qal,QbV];exact h.put rfl h2 h3
      unfold pC at *
      (have zz:=aI @g3 (aI V.ln (aI V.rts (aI @jA (aI @jF (aI @jJ (aI @V (aI @ve (aI @jC (aI @jI (aI @jL (aI C0.r (aI C1.r C3.r))))))))))));(repeat'(first|(apply jc<;>intro _)|simp(disch:=first|exact qO|fail) only[ja i0,ja i2,ja i4,hN,hM,k1,k1',vl,R,gN,ve,A,V.at,jC,C0.q,C1.q,C3.q,g3,V.ln,V.rts,jA,jF,jJ,V,ve,jC,jI,jL,C0.r,C1.r,C3.r,je,Tk.cells_R,rzZ,Qab,Qac,Qad,Qaa,Qae]));(all_goals(clear zz)))
      rw[T _ 0 (s.nx+1+1) 1 true (by(have zz:=aI C0.q (aI C1.q (aI C3.q (aI @g3 (aI V.ln (aI V.rts (aI C0.r (aI C1.r C3.r)))))));first|exact qm|fail)) (by(have zz:=aI C0.q (aI C1.q (aI C3.q (aI @g3 (aI V.ln (aI V.rts (aI C0.r (aI C1.r C3.r)))))));first|exact qm|fail)) (by omega)]
      (have zz:=aI @g3 (aI V.ln (aI V.rts (aI @jC (aI @jI (aI @jL (aI C0.r (aI C1.r C3.r)))))));(repeat'(first|(apply jc<;>intro _)|simp(disch:=first|exact qO|fail) only[ja i0,ja i2,ja i4,M,V.at,jC,H0,zA,C0.q,C1.q,C3.q,g3,V.ln,V.rts,jC,jI,jL,C0.r,C1.r,C3.r,je,Tk.cells_R,rzZ,Qab,Qac,Qad,Qaa,Qae]));(all_goals(clear zz)))
      ·rename_i c;rw[if_pos c] at hl;have hi2:=W.isM hi1 c;refine⟨m,by omega,m,i'+1+1,vs ++ [(tk ts i').text],?v,rfl,by omega,hi2,hl,by omega,?c0,?c1,?c3,?lv,?has⟩;case lv=>
        refine Lv.up (hi:=s.nx+2) ?_ (by omega);simp(disch:=first|omega|(simp only[jg,jj,jr,ju];omega)) only[jA,jF,jJ];refine V2 _ _ ?_ ?_ ?_;all_goals first|(simp only[jg,jj];done)|(simp only[jg,jj];omega)|(simp(disch:=first|omega|(simp only[jg,jj];omega)) only[jA,jF];exact V)
       case c0=>(have zz:=aI C0.q (aI C1.q (aI C3.q (aI @g3 (aI V.ln (aI V.rts (aI @jC (aI @jI (aI @jL (aI C0.r (aI C1.r C3.r))))))))));first|exact qm|fail)
       case c1=>(have zz:=aI C0.q (aI C1.q (aI C3.q (aI @g3 (aI V.ln (aI V.rts (aI @jC (aI @jI (aI @jL (aI C0.r (aI C1.r C3.r))))))))));first|exact qm|fail)
       case c3=>(have zz:=aI C0.q (aI C1.q (aI C3.q (aI @g3 (aI V.ln (aI V.rts (aI @jC (aI @jI (aI @jL (aI C0.r (aI C1.r C3.r))))))))));first|exact qm|fail)
       case has=>simp(disch:=decide) only[Qam,Qaq,z0,z1,jf,jb,and_true,true_and,i0,i2,i4]
      ·rename_i c c2;rw[if_neg c,if_pos c2] at hl;have hl:SR.ok (⟨nm,vs ++ [(tk ts i').text],ln,co⟩:EnumT) (i'+2)=r:=hl;subst hl;show G1 3 (pC ts (i'+2) d) (.agg (enE ⟨nm,vs ++ [(tk ts i').text],ln,co⟩)) _ _;refine G1.done ?_ (by rfl) (by rfl) (FzD.agg (.cons (.pc rfl) (.cons (Lv.fz (lo:=4) (hi:=s.nx+2) (z:=1) ?_ (by decide) (uM _)) (.cons (.pc rfl) (.cons (.pc rfl) .nil)))))
       ·unfold pC
        (have zz:=aI C0.q (aI C1.q (aI C3.q (aI @g3 (aI V.ln (aI V.rts (aI @jC (aI @jI (aI @jL (aI C0.r (aI C1.r C3.r))))))))));first|exact qm|fail)
       ·simp(disch:=first|omega|(simp only[jg,jj,jr,ju];omega)) only[jG,jA,jF,jJ];refine V2 _ _ ?_ ?_ ?_;all_goals first|(simp only[jg,jj];done)|(simp only[jg,jj];omega)|(simp(disch:=first|omega|(simp only[jg,jj];omega)) only[jA,jF];exact V)
      ·rename_i c c2;rw[if_neg c,if_neg c2] at hl;have hl:SR.er (tk ts (i'+1))=r:=hl;subst hl;refine⟨i'+1,d,?_⟩;unfold pC
       (refine G1.done ?_ (by rfl) (by rfl) ?_;(· (have zz:=aI C0.q (aI C1.q (aI C3.q (aI @g3 (aI V.ln (aI V.rts (aI @jC (aI @jI (aI @jL (aI C0.r (aI C1.r C3.r))))))))));first|exact qm|fail));(· first|exact vyD|skip))
    ·rw[if_neg k1] at hl;have k1':¬ ((tk ts i').kind:Int)=1:=by omega
     subst hl;unfold pC at *
     (have zz:=aI @g3 (aI C0.r (aI C1.r C3.r));(repeat'(first|(apply jc<;>intro _)|simp(disch:=first|exact qO|fail) only[ja i0,ja i2,ja i4,hN,hM,k1,k1',gN,ve,zA,C0.q,C1.q,C3.q,g3,C0.r,C1.r,C3.r,je,Tk.cells_R,rzZ,Qab,Qac,Qad,Qaa,Qae]));(all_goals(clear zz)))
     refine⟨i',d,?_⟩;unfold pC
     (refine G1.done ?_ (by rfl) (by rfl) ?_;(· (have zz:=aI C0.q (aI C1.q (aI C3.q (aI C0.r (aI C1.r C3.r))));first|exact qm|fail));(· first|exact vyD|skip))
   ·refine⟨ts.length,i+2,[],.nils,rfl,by omega,hi2,hr,by omega,C0,C1,C3,Lv.nil,?_⟩;simp(disch:=decide) only[Qam,Qaq,z0,z1,jf,jb,and_true,true_and]
  ·rw[if_neg c1];refine⟨i+1,d,?_⟩;unfold pC at *;refine j2 x78 (by rfl) (hb.pur 88 3 (by decide)) rfl ?_;simp only[y78,jt,Qai,Qaj,Qag,Qah];rw[(by unfold z78;simp only[qq];rfl:z78=_)];repeat'(first|(apply jc<;>intro _)|simp(disch:=first|exact dzD|fail) only[N,k1,M,c1,je,Tk.cells_R,rzZ,Qab,Qac,Qad,Qaa,Qae])
   (refine G1.done ?_ (by rfl) (by rfl) ?_;(· (first|exact cyD|fail));(· first|exact vyD|skip))
 ·rw[if_neg k1];refine⟨i,d,?_⟩;unfold pC at *;refine j2 x78 (by rfl) (hb.pur 88 3 (by decide)) rfl ?_;simp only[y78,jt,Qai,Qaj,Qag,Qah];rw[(by unfold z78;simp only[qq];rfl:z78=_)];repeat'(first|(apply jc<;>intro _)|simp(disch:=first|exact dzD|fail) only[N,k1,je,Tk.cells_R,rzZ,Qab,Qac,Qad,Qaa,Qae])
  (refine G1.done ?_ (by rfl) (by rfl) ?_;(· (first|exact cyD|fail));(· first|exact vyD|skip))
end Go.Sy
end
noncomputable section
set_option maxRecDepth 100000
namespace Go.Sy
open Go.Ev Go.Proofs
variable {base:Bs}
structure DeclT where
 name:List Nat
 ty:List Nat
 lo:Int
 hi:Int
 begins:List Ex
 line:Int
 col:Int
def qh (d:DeclT):List AV:=[.str d.name,.str d.ty,.int .i64 d.lo,.int .i64 d.hi,.lst d.begins.length (fl eE d.begins),.int .i64 (d.line:Int),.int .i64 (d.col:Int)]
def Wi (ts:List Tk)(i:Nat):SR (List Nat×Int×Int):=
 if isM (tk ts i) [[98,111,111,108]]=true then .ok ([98,111,111,108],0,0) (i+1)
 else if(tk ts i).kind=1 then .ok ((tk ts i).text,0,0) (i+1)
 else match YV ts i with
  |.er t=>.er t
  |.ok lo j=>if isM (tk ts j) [[46,46]]=true then(match YV ts (j+1) with
   |.er t=>.er t
   |.ok hi k=>.ok ([],lo,hi) k) else .er (tk ts j)
def Z7 (ts:List Tk)(i:Nat):SR (List Ex):=
 if isM (tk ts i) [[61]]=true then(match yn ts (i+1) with
  |.er t=>.er t
  |.ok x j=>if isM (tk ts j) [[59]]=true then .ok [x] (j+1) else .er (tk ts j))
 else if isM (tk ts i) [[59]]=true then .ok [] (i+1) else .er (tk ts i)
def Yh (ts:List Tk)(i:Nat):SR DeclT:=
 if(tk ts i).kind=1 then
  (if isM (tk ts (i+1)) [[58]]=true then(match Wi ts (i+2) with
    |.er t=>.er t
    |.ok y j=>(match Z7 ts j with
     |.er t=>.er t
     |.ok bs k=>.ok ⟨(tk ts i).text,y.1,y.2.1,y.2.2,bs,(tk ts i).line,(tk ts i).col⟩ k))
   else .er (tk ts (i+1)))
 else .er (tk ts i)
def zD:List AV:=[.str [],.str [],.int .i64 0,.int .i64 0,.nils,.int .i64 0,.int .i64 0]
theorem jrT {m d b cap:Nat}{s:St}{ks:List Ex}{ex:Bool}{cs:List AV}(C:Cl s b cs)(hc:cs=fl eE ks)(hm:m<=b):FzD m (d+3) s (.slice b 0 ks.length cap 6 ex) (.lst ks.length (fl eE ks)):=by
 subst hc;have hl:=zY zx ks;refine FzD.slice C.rw_ (QbC hl.symm) hm ?_;rw[<-hl,Qaz];exact .pc (yT qY ks)
set_option maxHeartbeats 4000000 in
theorem jfK (hb:NB base){ts:List Tk}(W:Wds ts){j:Nat}(hj:j<ts.length){nm ty:List Nat}{lo hi:Int}{ln co:Nat}{r:SR DeclT}
  (hr:(match Z7 ts j with | .er t=>SR.er t | .ok bs k=>.ok ⟨nm,ty,lo,hi,bs,ln,co⟩ k)=r) {L:Sl} {s:St} (n0:4<=s.nx) (C0:Cl s 0 (pC ts j 0)) (C1:Cl s 1 zD)
  (C3:Cl s 3 [.str nm,.str ty,.int .i64 lo,.int .i64 hi,.nils,.int .i64 (ln:Int),.int .i64 (co:Int)]) (i0:Has L 0 (.ptr 0 0)) (i2:Has L 2 (.ptr 1 0)) (i4:Has L 4 (.ptr 3 0)) :
  xC Qaf base jeq L s (Xa Qaf y79.res (SK ts 0 (λd=>.agg (qh d)) r)) λv _ s=>SP ts r v s.bare:=by
 have wl:=W.len;have L0:=C0.lt;have L1:=C1.lt;have L3:=C3.lt;have T:=YN hb hj (d:=0) (by omega) [[61]] (cs:=[.str [61]]) (n:=1) rfl rfl (by decide);unfold Z7 at hr;unfold zD pC at *;rw[(by unfold jeq;simp only[qq];rfl:jeq=_)];simp only[y79];by_cases c1:isM (tk ts j) [[61]]=true
 ·rw[if_pos c1] at hr;have hj1:=W.isM hj c1;have A:=Uc hb W hj1;cases hw:yn ts (j+1) with
  |er t=>
   rw[hw] at hr A;have hr:SR.er t=r:=hr;subst hr;obtain⟨i',d',A⟩:=A;have E:∀ st p,Cl st p (pC ts (j+1) 0)->∀ K Kp,XB Qaf base 72 [.ptr p 0] st K Kp=_:=λst p C K Kp=>A.xb C rfl (λst=>hb.no 72 (by decide) _ _) K Kp;unfold pC at *
   (have zz:=aI C0.r (aI C1.r C3.r);(repeat'(first|(apply jc<;>intro _)|simp(disch:=first|exact qO|fail) only[ja i0,ja i2,ja i4,T,c1,E,zA,C0.q,C1.q,C3.q,C0.r,C1.r,C3.r,je,Tk.cells_R,rzZ,Qab,Qac,Qad,Qaa,Qae]));(all_goals(clear zz)))
   refine⟨i',d',?_⟩;unfold pC
   (refine G1.done ?_ (by rfl) (by rfl) ?_;(· (have zz:=aI C0.q (aI C1.q (aI C3.q (aI C0.r (aI C1.r C3.r))));first|exact qm|fail));(· first|exact vyD|skip))
  |ok x q=>
   rw[hw] at hr A;have A:PM _ _ _ _ _ _ _:=A;have E:∀ st p,Cl st p (pC ts (j+1) 0)->∀ K Kp,XB Qaf base 72 [.ptr p 0] st K Kp=_:=λst p C K Kp=>A.xb C rfl (λst=>hb.no 72 (by decide) _ _) K Kp;have hq:q<ts.length:=(yc W hj1 hw).2.1;have M:=λst p=>@QE base hb ts q 0 hq (by omega) [59] st p;unfold pC at *
   (have zz:=aI C0.r (aI C1.r C3.r);(repeat'(first|(apply jc<;>intro _)|simp(disch:=first|exact qO|fail) only[ja i0,ja i2,ja i4,T,c1,E,M,zA,H0,C0.q,C1.q,C3.q,C0.r,C1.r,C3.r,je,Tk.cells_R,rzZ,Qab,Qac,Qad,Qaa,Qae]));(all_goals(clear zz)))
   ·rename_i c2;dsimp only at hr;rw[if_pos c2] at hr;have hr:SR.ok (⟨nm,ty,lo,hi,[x],ln,co⟩:DeclT) (q+1)=r:=hr;subst hr;show G1 3 (pC ts (q+1) 0) (.agg (qh ⟨nm,ty,lo,hi,[x],ln,co⟩)) _ _;refine G1.done ?_ (by rfl) (by rfl) (FzD.agg (.cons (.pc rfl) (.cons (.pc rfl) (.cons (.pc rfl) (.cons (.pc rfl) (.cons (jrT (ks:=[x]) (cs:=eE x) ?_ (by rw[JL]) (by omega)) (.pc rfl)))))))
    ·unfold pC
     (have zz:=aI C0.q (aI C1.q (aI C3.q (aI C0.r (aI C1.r C3.r))));first|exact qm|fail)
    ·(have zz:=aI C0.q (aI C1.q (aI C3.q (aI C0.r (aI C1.r C3.r))));first|exact qm|fail)
   ·rename_i c2;dsimp only at hr;rw[if_neg c2] at hr;have hr:SR.er (tk ts q)=r:=hr;subst hr;refine⟨q,0,?_⟩;unfold pC
    (refine G1.done ?_ (by rfl) (by rfl) ?_;(· (have zz:=aI C0.q (aI C1.q (aI C3.q (aI C0.r (aI C1.r C3.r))));first|exact qm|fail));(· first|exact vyD|skip))
 ·rw[if_neg c1] at hr;have M:=λst p=>@QE base hb ts j 0 hj (by omega) [59] st p;unfold pC at *
  (have zz:=aI C0.r (aI C1.r C3.r);(repeat'(first|(apply jc<;>intro _)|simp(disch:=first|exact qO|fail) only[ja i0,ja i2,ja i4,T,c1,M,zA,H0,C0.q,C1.q,C3.q,C0.r,C1.r,C3.r,je,Tk.cells_R,rzZ,Qab,Qac,Qad,Qaa,Qae]));(all_goals(clear zz)))
  ·rename_i c2;rw[if_pos c2] at hr;have hr:SR.ok (⟨nm,ty,lo,hi,[],ln,co⟩:DeclT) (j+1)=r:=hr;subst hr;show G1 3 (pC ts (j+1) 0) (.agg (qh ⟨nm,ty,lo,hi,[],ln,co⟩)) _ _;refine G1.done ?_ (by rfl) (by rfl) (FzD.agg (.cons (.pc rfl) (.cons (.pc rfl) (.cons (.pc rfl) (.cons (.pc rfl) (.cons .nils (.pc rfl)))))));unfold pC
   (have zz:=aI C0.q (aI C1.q (aI C3.q (aI C0.r (aI C1.r C3.r))));first|exact qm|fail)
  ·rename_i c2;rw[if_neg c2] at hr;have hr:SR.er (tk ts j)=r:=hr;subst hr;refine⟨j,0,?_⟩;unfold pC
   (refine G1.done ?_ (by rfl) (by rfl) ?_;(· (have zz:=aI C0.q (aI C1.q (aI C3.q (aI C0.r (aI C1.r C3.r))));first|exact qm|fail));(· first|exact vyD|skip))
end Go.Sy
end
