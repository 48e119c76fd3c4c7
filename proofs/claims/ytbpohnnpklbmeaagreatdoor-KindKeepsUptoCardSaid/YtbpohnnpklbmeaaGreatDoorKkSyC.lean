/-
  Contracts: the code lowered, what it does told by rules, and the contracts of the functions that the law reaches.
-/
import Derived.Test.YtbpohnnpklbmeaaGreatDoorKkSyB
import Derived.Test.YtbpohnnpklbmeaaGreatDoorProg
import Derived.KernelRfl
set_option linter.unusedVariables false
set_option linter.unusedSimpArgs false
open Int renaming reduceToNat → Qaa, natCast_zero → Qam, zero_add → Qao, ofNat → Qbl, eq_ofNat_of_zero_le → Qbu, natCast_nonneg → Qch
open Nat renaming reduceAdd → Qab, reduceSub → Qac, reduceMul → Qad, reduceBEq → Qae, ble → Qap, le_refl → Qaq, beq → Qas, mul → Qat, le_trans → Qau, succ → QaD, add → QaG, le_max_right → QaH, le_max_left → QaJ, zero_le → QaL, zero_add → QaM, mul_le_mul_right → QaN, lt_of_lt_of_le → QaP, lt_or_ge → QaV, sub → Qbg, sub_zero → Qbm, not_lt_zero → Qbn, succ_pos → Qbr, add_mul → Qbt, zero_mul → Qbv, succ_mul → Qbw, le_of_eq → QbJ, add_assoc → QbK, mod_eq_of_lt → QbL, succ_lt_succ → QbN, lt_irrefl → Qce, min_eq_left → Qcg, add_zero → Qcj, ne_of_lt → Qcl, add_comm → Qcs, le_of_lt → Qct, lt_trichotomy → Qcw, le_succ_of_le → Qcx
open Go.Proofs.Tryz renaming prog → Qaf
open List renaming getD_cons_zero → Qag, getD_cons_succ → Qah, map_cons → Qai, length_cons → Qaj, length_append → Qak, map_nil → Qal, length_nil → Qan, getElem?_eq_getElem → Qav, cons_append → Qaw, all_eq_true → Qax, getElem_mem → Qay, getD_eq_getElem?_getD → QaB, append_assoc → QaC, take_length → QaE, nil_append → QaF, range' → QaI, length_take → QaK, getD → QaO, length_map → QaQ, length_drop → QaS, eq_nil_of_length_eq_zero → QaT, range → QaW, all_cons → QaY, take_zero → QaZ, cons → Qba, append_nil → Qbf, mem_cons → Qbh, all_append → Qbi, mem_map → Qbj, mem_append → Qbk, take_append_drop → Qbp, drop_zero → Qbs, getElem_cons_zero → Qbx, map_congr_left → Qby, range'_succ → QbA, getElem_cons_succ → QbD, getElem_cons_drop → QbE, map_map → QbH, mem_iff_getElem → QbI, getElem?_take → QbO, mem_singleton → QbP, map_append → QbQ, singleton_append → QbR, getElem?_append_right → QbS, getElem?_map → QbT, flatMap_cons → QbU, foldl_append → QbV, mem_of_mem_take → QbW, getElem?_append_left → QbX, mem_cons_of_mem → QbY, drop_drop → QbZ, ext_getElem → Qca, map_toArray → Qcb, length_pos_iff → Qcc, getElem?_drop → Qcf, take_add_one → Qci, countP_singleton → Qck, drop_length → Qcn, take_succ_cons → Qcp, foldr_cons → Qcr, take_take → Qcu
open Bool renaming and_eq_true → Qar, not_eq_true' → QaR, eq_iff_iff → QaX, false_eq_true → Qbb, or_eq_true → Qbc, or_eq_false_iff → Qbq, true_eq_false → QbG
open Array renaming length_toList → Qaz, getElem?_eq_some_iff → QaA, replicate → Qbe, getD_eq_getD_getElem? → QbB, getElem?_toList → QbF, toList_map → QbM, getElem?_setIfInBounds_ne → Qcd, mem_toList_iff → Qcm, toList_append → Qco, getElem?_eq_getElem → Qcq
open Option renaming map_some → QaU, getD_some → Qbd, bind_some → Qbo, map_none → Qbz, map_eq_some_iff → QbC
open Function renaming comp_def → Qcv
noncomputable section
namespace Go.Sy
open Go.Ev Go.RowKit
section
variable {P:Program} {base:Bs} {st:St} {K:AV->St->Prop} {e:En}
theorem joS {b o k:Nat}(hpos:0<k)(h:o+k<=qC st.h b):jm (Je k (.ptr b o) st) K=K (.agg ((QaW k).map λi=>rat st.h b (o+i))) st:=by
 obtain⟨n,zl,z,cs,hg⟩:=YV (h:=st.h) (b:=b) (by omega);rw[QR hg] at h;have e1:Qap (QaG o k) n=true:=yK h;simp only[Je,yd,hg,zw,e1,cond_true,jm,ZD hg,qQ]
theorem jq8 {l:List Nat}{n:Nat}(h:n<=l.length)(k:IntKind):jm (JT (.str l) (some (.int k (n:Int))) none st) K=K (.str (l.drop n)) st:=by
 have e:qH (.int k (n:Int))=λF=>F n:=by funext F;show(force n F)=F n;rw[jJ]
 have e1:Qap n l.length=true:=yK h;have e2:Qap l.length l.length=true:=yK (Qaq _);simp only[JT,Jl,optA,e,jZ,jJ,e1,e2,cond_true,jm,yt,zi];rw[show Qbg l.length n=(l.drop n).length by rw[QaS];rfl,QaE]
theorem jq7 {l:List Nat}{n:Nat}(h:n<=l.length)(k:IntKind):jm (JT (.str l) none (some (.int k (n:Int))) st) K=K (.str (l.take n)) st:=by
 have e:qH (.int k (n:Int))=λF=>F n:=by funext F;show(force n F)=F n;rw[jJ]
 have e1:Qap n l.length=true:=yK h;have e2:Qap 0 n=true:=yK (QaL _);simp only[JT,Jl,optA,e,jZ,jJ,e1,e2,cond_true,jm,yt,zi];rfl
theorem jq6 {l:List Nat}{a n:Nat}(h:a<=n)(h2:n<=l.length)(k k':IntKind):jm (JT (.str l) (some (.int k (a:Int))) (some (.int k' (n:Int))) st) K=K (.str ((l.drop a).take (n - a))) st:=by
 have e:∀ (k:IntKind) (n:Nat),qH (.int k (n:Int))=λF=>F n:=λk n=>by funext F;show(force n F)=F n;rw[jJ]
 have e1:Qap n l.length=true:=yK h2;have e2:Qap a n=true:=yK h;simp only[JT,Jl,optA,e,jZ,jJ,e1,e2,cond_true,jm,yt,zi];rfl
end
def nw (s:St)(cs:List AV):St:=⟨s.nx+1,(qj (jQ s.nx)).run (.row cs.length cs.length cs .e) s.h,s.dirty,s.fr⟩
def jfh (x:Option AO)(o:Nat)(vs:List AV):AO:=match x with|some (.row n zl z cs)=>.row n zl z (qB vs cs o)|_=>.row 0 1 [] (qB vs .e o)
def wr (s:St)(b o:Nat)(vs:List AV):St:=⟨s.nx,(qj (jQ b)).run (jfh (jz s.h b) o vs) s.h,min s.dirty b,s.fr⟩
def apO (x:Option AO)(vs:List AV):AO:=match x with|some (.row n zl z cs)=>.row (n+vs.length) zl z (qB vs cs n)|_=>.row vs.length 1 [] (qB vs .e 0)
def ap (s:St)(b:Nat)(vs:List AV):St:=⟨s.nx+1,(qj (jQ s.nx)).run (apO (jz s.h b) vs) ((qj (jQ b)).run .dead s.h),min s.dirty b,s.fr⟩
theorem jg (s:St)(cs:List AV):(nw s cs).nx=s.nx+1:=nr rfl
theorem jh (s:St)(b o:Nat)(vs:List AV):(wr s b o vs).nx=s.nx:=nr rfl
theorem ji (s:St):s.bare.nx=s.nx:=nr rfl
theorem u7 (s:St):s.bare.h=s.h:=nr rfl
theorem jaO (s:St)(cs:List AV):(nw s cs).fr=s.fr:=nr rfl
theorem jaN (s:St)(b o:Nat)(vs:List AV):(wr s b o vs).fr=s.fr:=nr rfl
theorem jeb (s:St):s.bare.fr=[]:=nr rfl
theorem JQ {s:St}{cs:List AV}{b:Nat}(h:b≠s.nx):jz (nw s cs).h b=jz s.h b:=by unfold nw;rw[qc,if_neg h]
theorem Js {s:St}{b o:Nat}{vs:List AV}{c:Nat}(h:c≠b):jz (wr s b o vs).h c=jz s.h c:=by unfold wr;rw[qc,if_neg h]
theorem jd9 {s:St}{b:Nat}{vs:List AV}{c:Nat}(h:c≠s.nx)(h2:c≠b):jz (ap s b vs).h c=jz s.h c:=by unfold ap;rw[qc,if_neg h,qc,if_neg h2]
theorem jh2 (s:St)(cs:List AV):qC (nw s cs).h s.nx=cs.length:=by unfold nw;rw[jkp,if_pos rfl]
theorem XW {s:St}{cs:List AV}{b:Nat}(h:b≠s.nx):qC (nw s cs).h b=qC s.h b:=yU (JQ h)
theorem jgg {s:St}{cs:List AV}{i:Nat}(h:i<cs.length):rat (nw s cs).h s.nx i=cs.getD i .bad:=by unfold nw;rw[jm9,if_pos rfl,zH,Yy,QbL h];rfl
theorem vN {s:St}{cs:List AV}{b i:Nat}(h:b≠s.nx):rat (nw s cs).h b i=rat s.h b i:=yL (JQ h) i
theorem wZ {s:St}{cs:List AV}{b:Nat}(h:b=s.nx):qC (nw s cs).h b=cs.length:=by rw[h,jh2]
theorem gO {s:St}{cs:List AV}{b i:Nat}(h:b=s.nx)(hi:i<cs.length):rat (nw s cs).h b i=cs.getD i .bad:=by rw[h,jgg hi]
theorem Xt (s:St)(b o:Nat)(vs:List AV)(c:Nat):qC (wr s b o vs).h c=qC s.h c:=by
 by_cases h:c=b
 ·subst h;unfold wr jfh qC;rw[qc,if_pos rfl];cases jz s.h c with
  |none=>rfl
  |some x=>cases x<;>rfl
 ·exact yU (Js h)
theorem Uj (s:St)(b o:Nat)(vs:List AV)(i:Nat):rat (wr s b o vs).h b i=if o<=i/\i<o+vs.length then vs.getD (i - o) .bad else rat s.h b i:=by
 unfold wr rat;rw[qc,if_pos rfl];unfold jfh;cases jz s.h b with
 |none=>simp only[zh];congr 1;rw[zH,Yy];rfl
 |some x=>cases x<;>simp only[zh]<;>(congr 1;rw[zH,Yy];rfl)
theorem U6 {s:St}{b o:Nat}{vs:List AV}{i:Nat}(h1:o<=i)(h2:i<o+vs.length):rat (wr s b o vs).h b i=vs.getD (i - o) .bad:=by rw[Uj,if_pos ⟨h1,h2⟩]
theorem gM {s:St}{b o:Nat}{vs:List AV}{i:Nat}(h:i<o):rat (wr s b o vs).h b i=rat s.h b i:=by rw[Uj,if_neg (by omega)]
theorem gN {s:St}{b o:Nat}{vs:List AV}{i:Nat}(h:o+vs.length<=i):rat (wr s b o vs).h b i=rat s.h b i:=by rw[Uj,if_neg (by omega)]
theorem Z6 {s:St}{b o c:Nat}{vs:List AV}{i:Nat}(h:c≠b):rat (wr s b o vs).h c i=rat s.h c i:=yL (Js h) i
theorem jkQ {s:St}{b o:Nat}{vs:List AV}{c:Nat}(h:uA s.h c):uA (wr s b o vs).h c:=by
 by_cases hc:c=b
 ·subst hc;unfold uA wr;rw[qc,if_pos rfl];obtain⟨n,zl,z,cs,e⟩:=h;rw[e];exact⟨_,_,_,_,rfl⟩
 ·exact JG (Js hc) h
structure Cl (s:St)(b:Nat)(cs:List AV):Prop where
 lt:b<s.nx
 row:uA s.h b
 len:qC s.h b=cs.length
 cell:∀ i,i<cs.length->rat s.h b i=cs.getD i .bad
theorem Cl.keep {s s':St}{b:Nat}{cs:List AV}(h:Cl s b cs)(hn:s.nx<=s'.nx)(k:jz s'.h b=jz s.h b):Cl s' b cs:=
 ⟨QaP h.lt hn,JG k h.row,(yU k).trans h.len,λi hi=>(yL k i).trans (h.cell i hi)⟩
theorem Cl.new (s:St)(cs:List AV):Cl (nw s cs) s.nx cs:=
 ⟨Nat.lt_succ_self _,⟨_,_,_,_,by unfold nw;rw[qc,if_pos rfl]⟩,jh2 s cs,λi hi=>jgg hi⟩
theorem Cl.nw {s:St}{b:Nat}{cs:List AV}(h:Cl s b cs)(ds:List AV):Cl (nw s ds) b cs:=h.keep (Nat.le_succ _) (JQ (Qcl h.lt))
theorem Cl.wrO {s:St}{b:Nat}{cs:List AV}(h:Cl s b cs){c:Nat}(hc:b≠c)(o:Nat)(vs:List AV):Cl (wr s c o vs) b cs:=h.keep (Qaq _) (Js hc)
def upd:List AV->Nat->List AV->List AV
 |[],_,_=>[]
 |c :: cs,0,[]=>c :: cs
 |c :: cs,0,v :: vs=>v :: upd cs 0 vs
 |c :: cs,o+1,vs=>c :: upd cs o vs
theorem uP:∀ (cs:List AV) (o:Nat) (vs:List AV),(upd cs o vs).length=cs.length
 |[],_,_=>rfl
 |c :: cs,0,[]=>rfl
 |c :: cs,0,v :: vs=>by show(upd cs 0 vs).length+1=_;rw[uP cs 0 vs];rfl
 |c :: cs,o+1,vs=>by show(upd cs o vs).length+1=_;rw[uP cs o vs];rfl
theorem Uo:∀ (cs:List AV) (o:Nat) (vs:List AV) (i:Nat),i<cs.length->(upd cs o vs).getD i .bad=if o<=i/\i<o+vs.length then vs.getD (i - o) .bad else cs.getD i .bad
 |[],_,_,_,h=>by simp at h
 |c :: cs,0,[],i,h=>by rw[if_neg (by simp)];rfl
 |c :: cs,0,v :: vs,0,h=>by rw[if_pos (by simp)];rfl
 |c :: cs,0,v :: vs,i+1,h=>by
  show(upd cs 0 vs).getD i .bad=_;rw[Uo cs 0 vs i (by simpa using h)];by_cases hi:i<vs.length
  ·rw[if_pos (by omega),if_pos (by simp;omega)];rfl
  ·rw[if_neg (by omega),if_neg (by simp;omega)];rfl
 |c :: cs,o+1,vs,0,h=>by rw[if_neg (by omega)];rfl
 |c :: cs,o+1,vs,i+1,h=>by
  show(upd cs o vs).getD i .bad=_;rw[Uo cs o vs i (by simpa using h)];by_cases hi:o<=i/\i<o+vs.length
  ·rw[if_pos hi,if_pos (by omega),Nat.add_sub_add_right]
  ·rw[if_neg hi,if_neg (by omega)];rfl
theorem Cl.wr {s:St}{b:Nat}{cs:List AV}(h:Cl s b cs)(o:Nat)(vs:List AV):Cl (wr s b o vs) b (upd cs o vs):=
 ⟨h.lt,jkQ h.row,by rw[Xt,h.len,uP],λi hi=>by
  rw[uP] at hi;rw[Uj,Uo _ _ _ _ hi,h.cell i hi]⟩
theorem Cl.ap {s:St}{b:Nat}{cs:List AV}(h:Cl s b cs)(vs:List AV):Cl (ap s b vs) s.nx (cs ++ vs):=by
 obtain⟨n,zl,z,ks,e⟩:=h.row;have hl:=h.len;rw[QR e] at hl;have eo:jz (Go.Sy.ap s b vs).h s.nx=some (.row (n+vs.length) zl z (qB vs ks n)):=by unfold Go.Sy.ap;rw[qc,if_pos rfl,e];rfl
 refine⟨Nat.lt_succ_self _,⟨_,_,_,_,eo⟩,by rw[QR eo,Qak,hl],λi hi=>?_⟩;rw[ZD eo,zh];rw[Qak] at hi;by_cases hc:n<=i/\i<n+vs.length
 ·rw[if_pos hc,QaB,QaB,QbS (by omega),hl]
 ·have hi':i<cs.length:=by omega
  rw[if_neg hc,<-ZD e,h.cell i hi',QaB,QaB,QbX hi']
theorem YZ (cs:List AV):(AV.agg cs).cells=cs:=nr rfl
theorem uo (k:IntKind)(n:Int):(AV.int k n).cells=[.int k n]:=nr rfl
theorem uj (l:List Nat):(AV.str l).cells=[.str l]:=nr rfl
theorem wM (b:Bool):(AV.bool b).cells=[.bool b]:=nr rfl
theorem ZU (b o n c z:Nat)(x:Bool):(AV.slice b o n c z x).cells=[.slice b o n c z x]:=nr rfl
theorem wL:AV.nils.cells=[.nils]:=nr rfl
theorem ul (b o:Nat):(AV.ptr b o).cells=[.ptr b o]:=nr rfl
theorem jb6:lall AV.cell []=true:=nr rfl
theorem jb8 (k:IntKind)(n:Int)(l:List AV):lall AV.cell (.int k n :: l)=lall AV.cell l:=nr rfl
theorem jb4 (x:List Nat)(l:List AV):lall AV.cell (.str x :: l)=lall AV.cell l:=nr rfl
theorem Hq (x:Bool)(l:List AV):lall AV.cell (.bool x :: l)=lall AV.cell l:=nr rfl
theorem gb (b o n c z:Nat)(x:Bool)(l:List AV):lall AV.cell (.slice b o n c z x :: l)=lall AV.cell l:=nr rfl
theorem Hp (l:List AV):lall AV.cell (.nils :: l)=lall AV.cell l:=nr rfl
theorem jb5 (b o:Nat)(l:List AV):lall AV.cell (.ptr b o :: l)=lall AV.cell l:=nr rfl
theorem jkK (a b:List AV)(h:lall AV.cell a=true):lall AV.cell (a ++ b)=lall AV.cell b:=by
 induction a with
 |nil=>rfl
 |cons c a ih=>
  have h':cond c.cell (lall AV.cell a) false=true:=h;cases hc:c.cell with
  |false=>rw[hc] at h';cases h'
  |true=>
   rw[hc] at h';show cond c.cell (lall AV.cell (a ++ b)) false=_;rw[hc];exact ih h'
section
variable {P:Program} {base:Bs} {st:St} {K:AV->St->Prop} {e:En}
theorem jgj (cs:List AV):jm (Ev.newRow st cs) K=K (.ptr st.nx 0) (nw st cs):=by
 simp only[Ev.newRow,jJ,jZ,St.alloc_eq,jm];rfl
theorem jmE {v:AV}(h:lall AV.cell v.cells=true):jm (jlb v st) K=K (.ptr st.nx 0) (nw st v.cells):=by
 simp only[jlb,h,cond_true];exact jgj _
theorem jqR {k b o:Nat}{v:AV}(hk:0<k)(hc:v.cells.length=k)(hl:lall AV.cell v.cells=true)(ho:o+k<=qC st.h b):jm (stV k (.ptr b o) v st) K=K qo (wr st b o v.cells):=by
 obtain⟨n,zl,z,cs,hg⟩:=YV (h:=st.h) (b:=b) (by omega);rw[QR hg] at ho;have e1:Qas (jY v.cells) k=true:=U4 (by rw[jZ];exact hc);have e2:Qap (QaG o k) n=true:=yK ho;simp only[stV,yd,hg,zw,e1,e2,hl,cond_true,St.put_eq,jm];unfold wr jfh;rw[hg]
def rats (h:T AO)(b o:Nat):Nat->List AV
 |0=>[]
 |k+1=>rat h b o :: rats h b (o+1) k
theorem wX (h:T AO)(b:Nat):∀ (k o:Nat),rats h b o k=(QaW k).map λi=>rat h b (o+i)
 |0,o=>rfl
 |k+1,o=>by
  rw[List.range_succ_eq_map,Qai,QbH];show rat h b o :: rats h b (o+1) k=_;rw[wX h b k (o+1)]
  congr 1
  refine Qby λi _=>?_;show rat h b (o+1+i)=rat h b (o+(i+1));rw[QbK,Qcs 1 i]
theorem jgk {k b o:Nat}(hk:0<k)(h:o+k<=qC st.h b):jm (Je k (.ptr b o) st) K=K (.agg (rats st.h b o k)) st:=by rw[wX];exact joS hk h
theorem jaq (h:T AO)(b o k:Nat):rats h b o (k+1)=rat h b o :: rats h b (o+1) k:=nr rfl
theorem Cl.ratsP {s:St}{b:Nat}{cs:List AV}(h:Cl s b cs):∀ k o,o+k<=cs.length->rats s.h b o k=(cs.drop o).take k
 |0,o,_=>rfl
 |k+1,o,hk=>by
  show rat s.h b o :: Go.Sy.rats s.h b (o+1) k=_;rw[h.ratsP k (o+1) (by omega),h.cell o (by omega),List.drop_eq_getElem_cons (show o<cs.length by omega),Qcp,QaB,Qav (by omega)];rfl
theorem ZY {h h':T AO}{b:Nat}(e:jz h' b=jz h b):∀ k o,rats h' b o k=rats h b o k
 |0,_=>rfl
 |k+1,o=>by rw[jaq,jaq,yL e,ZY e k]
theorem Xm (h:T AO)(b:Nat):∀ k o,(rats h b o k).length=k
 |0,_=>rfl
 |k+1,o=>by rw[jaq,Qaj,Xm h b k]
theorem vp {h:T AO}{b:Nat}:∀ {k o:Nat} {cs:List AV},cs.length=k->(∀ i,i<k->rat h b (o+i)=cs.getD i .bad)->rats h b o k=cs
 |0,o,[],_,_=>rfl
 |k+1,o,c :: cs,hl,h=>by
  rw[jaq,vp (cs:=cs) (by simpa using hl) (λi hi=>by
   have:=h (i+1) (by omega);rw[show o+1+i=o+(i+1) by omega,this];rfl)]
  have:=h 0 (by omega);rw[Qcj] at this;rw[this];rfl
theorem jm8 {s:St}{cs:List AV}{k:Nat}(h:cs.length=k):rats (nw s cs).h s.nx 0 k=cs:=vp h λi hi=>by rw[QaM];exact jgg (by omega)
theorem ZC {s:St}{cs:List AV}{b k:Nat}(hb:b=s.nx)(h:cs.length=k):rats (nw s cs).h b 0 k=cs:=by rw[hb,jm8 h]
theorem ZB {s:St}{cs:List AV}{b o k:Nat}(h:b≠s.nx):rats (nw s cs).h b o k=rats s.h b o k:=ZY (JQ h) _ _
theorem wV {s:St}{b o k:Nat}{vs:List AV}(h:vs.length=k):rats (wr s b o vs).h b o k=vs:=vp h λi hi=>by
 rw[U6 (by omega) (by omega),Nat.add_sub_cancel_left]
theorem Zz {s:St}{b c o o' k:Nat}{vs:List AV}(h:b≠c):rats (wr s c o' vs).h b o k=rats s.h b o k:=ZY (Js h) _ _
theorem ZA {s:St}{b o k:Nat}{vs:List AV}:rats (wr s b o vs).h b 0 k=upd (rats s.h b 0 k) o vs:=by
 refine vp (by rw[uP,Xm]) λi hi=>?_;rw[QaM,Uj,Uo _ _ _ _ (by rw[Xm];exact hi),wX]
 congr 1
 simp[QaB,QbT,hi]
theorem Zt (o:Nat)(vs:List AV):upd [] o vs=[]:=nr (by cases o<;>rfl)
theorem Y4 (c:AV)(cs:List AV):upd (c :: cs) 0 []=c :: cs:=nr rfl
theorem ZK (c:AV)(cs:List AV)(v:AV)(vs:List AV):upd (c :: cs) 0 (v :: vs)=v :: upd cs 0 vs:=nr rfl
theorem wn (c:AV)(cs:List AV)(o:Nat)(vs:List AV):upd (c :: cs) (o+1) vs=c :: upd cs o vs:=nr rfl
theorem wm:∀ (cs:List AV) ,upd cs 0 []=cs
 |[]=>rfl
 |c :: cs=>rfl
theorem Cl.of_rats {s:St}{b k:Nat}{cs:List AV}(h1:b<s.nx)(h2:qC s.h b=k)(h3:cs.length=k)(h4:0<k)(h5:Go.Sy.rats s.h b 0 k=cs):Cl s b cs:=by
 refine⟨h1,YV (by omega),by omega,λi hi=>?_⟩;have:=congrArg (λl=>l.getD i .bad) h5;rw[wX] at this;have hi':i<k:=by omega
 simpa[QaB,QbT,hi'] using this
theorem Cl.ldA {s:St}{b k o:Nat}{cs:List AV}(h:Cl s b cs)(hk:0<k)(ho:o+k<=cs.length)(K:AV->St->Prop):jm (Je k (.ptr b o) s) K=K (.agg ((cs.drop o).take k)) s:=by
 rw[jgk hk (by rw[h.len];exact ho),h.ratsP k o ho]
end
section
variable {P:Program} {base:Bs} {st:St} {K:AV->St->Prop} {e:En}
theorem uQ:∀ (z:List AV) (off:Nat) (vs:List AV),off+vs.length<=z.length->z.take off ++ (vs ++ z.drop (off+vs.length))=upd z off vs
 |[],off,vs,h=>by
  have hv:vs=[]:=QaT (by have h':off+vs.length<=0:=h;omega);subst hv;simp[upd]
 |c :: z,0,[],_=>rfl
 |c :: z,0,v :: vs,h=>by
  show v :: (vs ++ (c :: z).drop (0+(vs.length+1)))=v :: upd z 0 vs;rw[<-uQ z 0 vs (by simp at h ⊢;omega)];simp
 |c :: z,off+1,vs,h=>by
  show c :: z.take off ++ (vs ++ (c :: z).drop (off+1+vs.length))=c :: upd z off vs;rw[<-uQ z off vs (by simp at h;omega),show off+1+vs.length=(off+vs.length)+1 by omega];rfl
theorem HG {z:List AV}{off size:Nat}{v:AV}{ps:List ((Nat×Nat)×AV)}(h1:v.plain=true)(h2:v.cells.length=size)(h3:off+size<=z.length):YA z (((off,size),v) :: ps)=YA (upd z off v.cells) ps:=by
 have e1:Qas (jY v.cells) size=true:=U4 (by rw[jZ];exact h2);have e2:Qap (QaG off size) (jY z)=true:=yK (by rw[jZ];exact h3);have e3:zL (yQ z off) (zL v.cells (zK z (QaG off size)))=upd z off v.cells:=by
  rw[zo,zo,yt,zi,<-uQ z off v.cells (by omega),h2];rfl
 show cond v.plain (cond (Qas (jY v.cells) size) (cond (Qap (QaG off size) (jY z)) (YA (zL (yQ z off) (zL v.cells (zK z (QaG off size)))) ps) none) none) none=_;rw[h1,e1,e2,e3];rfl
theorem jc2 (z:List AV):jm (Ug z [] st) K=K (.agg z) st:=nr rfl
theorem jc1 {z:List AV}{off size:Nat}{v:AV}{ps:List ((Nat×Nat)×AV)}(h1:v.plain=true)(h2:v.cells.length=size)(h3:off+size<=z.length):jm (Ug z (((off,size),v) :: ps) st) K=jm (Ug (upd z off v.cells) ps st) K:=by
 unfold Ug;rw[HG h1 h2 h3]
def bSV (len s:Nat)(z:List AV)(ps:List ((Nat×Nat)×AV))(st:St):ER:=jV (YA z ps) λcells=>
 cond (lall AV.cell cells) (force (jY cells) λn=>st.alloc (.row n n cells .e) λb st=>.ok (.slice b 0 len len s true) st) .no
theorem jlj (len s:Nat)(z:List AV)(ps:List ((Nat×Nat)×AV)):jm (GQ len s z ps st) K=jm (bSV len s (zm z len) ps st) K:=nr rfl
theorem jgl {len s:Nat}{z:List AV}(h:lall AV.cell z=true):jm (bSV len s z [] st) K=K (.slice st.nx 0 len len s true) (nw st z):=by
 have e:YA z []=some z:=rfl;simp only[bSV,e,jV,h,cond_true,jJ,jZ,St.alloc_eq,jm];rfl
theorem jaY {len s:Nat}{z:List AV}{off size:Nat}{v:AV}{ps:List ((Nat×Nat)×AV)}(h1:v.plain=true)(h2:v.cells.length=size)(h3:off+size<=z.length):jm (bSV len s z (((off,size),v) :: ps) st) K=jm (bSV len s (upd z off v.cells) ps st) K:=by
 unfold bSV;rw[HG h1 h2 h3]
theorem KK (z:List AV):zm z 0=[]:=nr rfl
theorem Uy (z:List AV)(n:Nat):zm z (n+1)=z ++ zm z n:=nr (by first|rfl|(unfold zm;simp[zo]))
def WM (e:En):List ((Nat×Nat)×A)->(F:List ((Nat×Nat)×AV)->Prop)->Res F
 |[],F=>F []
 |(p,a) :: l,F=>on1 e a λv=>WM e l λvs=>F ((p,v) :: vs)
theorem Gr (e:En):∀ (l:List ((Nat×Nat)×A)) (F:List ((Nat×Nat)×AV)->Prop),WM e l F=((l.map (·.2)).all (okA e)=true/\F (l.map λp=>(p.1,vl e p.2)))
 |[],F=>by simp[WM]
 |(p,a) :: l,F=>by simp[WM,Gr e l,on1,and_assoc]
theorem jcf (z:List AV)(ps:List ((Nat×Nat)×A)):wK P base (.i (.build z ps)) e st K=WM e ps λvs=>jm (Ug z vs st) K:=by
 rw[Gr];rfl
theorem Hv (len s:Nat)(z:List AV)(ps:List ((Nat×Nat)×A)):wK P base (.i (.buildS len s z ps)) e st K=WM e ps λvs=>jm (GQ len s z vs st) K:=by
 rw[Gr];rfl
theorem jmh (f:FuncId)(l:List A):wK P base (.i (.fn f l)) e st K=vq e l λvs=>K (.fn f vs) st:=by
 rw[uY];rfl
theorem jlY (F:List ((Nat×Nat)×AV)->Prop):WM e [] F=F []:=nr rfl
theorem jlX (p:Nat×Nat)(a:A)(l:List ((Nat×Nat)×A))(F:List ((Nat×Nat)×AV)->Prop):WM e ((p,a) :: l) F=on1 e a λv=>WM e l λvs=>F ((p,v) :: vs):=nr rfl
theorem G8 (k:IntKind)(n:Int):(AV.int k n).plain=true:=nr rfl
theorem G5 (l:List Nat):(AV.str l).plain=true:=nr rfl
theorem KP (b:Bool):(AV.bool b).plain=true:=nr rfl
theorem ki (b o n c z:Nat)(x:Bool):(AV.slice b o n c z x).plain=true:=nr rfl
theorem KO:AV.nils.plain=true:=nr rfl
theorem G6 (b o:Nat):(AV.ptr b o).plain=true:=nr rfl
theorem G9 (cs:List AV):(AV.agg cs).plain=true:=nr rfl
theorem jdv (t:TypeId)(x:A):wK P base (.i (.iface t x)) e st K=on1 e x λv=>K (.iface t v) st:=k_1 (V:=λv st=>.ok (.iface t v) st) rfl (λ_=>rfl) K
end
def eqs:AV->Bool
 |.bool _=>true | .int _ _=>true | .str _=>true | .ptr _ _=>true | .nilp=>true | .slice _ _ _ _ _ _=>true | .nils=>true | .map _=>true | .nilm=>true | .nilf=>true | .nilif=>true | .lst _ _=>true | .xlst _ _=>true | .lptr _ _=>true
 |_=>false
theorem jk2 (a:Int):eqI a a=true:=by cases a<;>simp[eqI]
theorem J0 (a:Nat):Qas a a=true:=by rw[qT]
theorem V4 (l:List AV):uJ l l=true:=by unfold uJ;exact @decide_eq_true _ (_) rfl
theorem V6 {v:AV}(h:eqs v=true):ZI v v=true:=by
 cases v<;>first|(cases h;done)|rfl|skip
 case bool b=>cases b<;>rfl
 case int k n=>show cond (eqK k k) (eqI n n) false=true;rw[XE,jk2];rfl
 case str s=>show ZL s s=true;rw[Ql];simp
 case ptr b o=>show cond (Qas b b) (Qas o o) false=true;rw[J0,J0];rfl
 case slice b o n c z ex=>
  show cond (Qas b b) (cond (Qas o o) (cond (Qas n n) (cond (Qas c c) (cond (Qas z z) (cond ex ex (cond ex false true)) false) false) false) false) false=true;rw[J0,J0,J0,J0,J0];cases ex<;>rfl
 case map r=>show Qas r r=true;exact J0 r
 case lst n cs=>show cond (Qas n n) (uJ cs cs) false=true;rw[J0,V4];rfl
 case xlst n cs=>show cond (Qas n n) (uJ cs cs) false=true;rw[J0,V4];rfl
 case lptr cs n=>show cond (Qas n n) (uJ cs cs) false=true;rw[J0,V4];rfl
theorem V5:∀ {l:List AV},l.all eqs=true->We l l=true
 |[],_=>rfl
 |v :: l,h=>by
  simp only[QaY,Qar] at h;show cond (ZI v v) (We l l) false=true;rw[V6 h.1,V5 h.2];rfl
theorem jiG {v:AV}(h:eqs v=true):jfY v v=true:=by
 cases v<;>first|(cases h;done)|exact V6 h
section
variable {P:Program}
theorem Qx {t:TypeId}{b o:Nat}{v:AV}{h:T AO}(h1:Go.Ev.isAgg P t=some false)(h2:Go.Ev.sizeOf P t=some 1)(ho:o<qC h b)(hv:rat h b o=v)(hc:eqs v=true):qa P t (.ptr b o) v h=true:=by
 obtain⟨n,zl,z,cs,hg⟩:=YV (h:=h) (b:=b) (by omega);rw[QR hg] at ho;rw[ZD hg] at hv;have e3:Qap (QaD o) n=true:=yK ho;have e:(qY P t).run (.ptr b o) h=some v:=by simp only[qY,h1,h2,hg,e3,cond_true,hv]
 unfold qa;dsimp only;rw[e];exact jiG hc
theorem ZX {t:TypeId}{b o k:Nat}{cs:List AV}{h:T AO}(h1:Go.Ev.isAgg P t=some true)(h2:Go.Ev.sizeOf P t=some k)(hk:0<k)(ho:o+k<=qC h b)(hv:rats h b o k=cs)(hc:cs.all eqs=true):qa P t (.ptr b o) (.agg cs) h=true:=by
 obtain⟨n,zl,z,cs',hg⟩:=YV (h:=h) (b:=b) (by omega);rw[QR hg] at ho;have e3:Qap (QaG o k) n=true:=yK ho;have e:(qY P t).run (.ptr b o) h=some (.agg cs):=by
  simp only[qY,h1,h2,hg,e3,cond_true];rw[<-hv,wX,qQ]
  congr 2
  refine Qby λi _=>?_;rw[ZD hg]
 unfold qa;dsimp only;rw[e];exact V5 hc
def Yx (P:Program)(t u:TypeId)(x y:TE):Bool:=
 match x,y with
 |.rd a v,.wr pre post=>qa P t a v pre && qa P t a v post
 |.rd _ _,.rd _ _=>false
 |.wr pre post,.rd a v=>qa P u a v pre && qa P u a v post
 |.wr _ _,.wr _ _=>false
 |_,_=>true
theorem h_0 (t:TypeId)(x:TE)(tb:List TE):(held P t x tb []=true)=True:=by simp[held]
theorem h_1 (t:TypeId)(x:TE)(tb:List TE)(k:Nat)(u:TypeId)(l:List (Nat×TypeId)):(held P t x tb ((k,u) :: l)=true)=(Yx P t u x (yH .none tb k)=true/\held P t x tb l=true):=by
 have e:held P t x tb ((k,u) :: l)=cond (Yx P t u x (yH .none tb k)) (held P t x tb l) false:=by
  show cond _ _ false=cond _ _ false
  congr 1
  unfold Yx;cases x<;>cases yH TE.none tb k<;>first|rfl|(simp only[Bool.cond_eq_ite];split<;>simp[*])
 rw[e];cases Yx P t u x (yH .none tb k)<;>simp
theorem jp3 (t u:TypeId)(a v:AV)(pre post:T AO):(Yx P t u (.rd a v) (.wr pre post)=true)=(qa P t a v pre=true/\qa P t a v post=true):=by simp[Yx]
theorem jp2 (t u:TypeId)(a v:AV)(pre post:T AO):(Yx P t u (.wr pre post) (.rd a v)=true)=(qa P u a v pre=true/\qa P u a v post=true):=by simp[Yx]
theorem jp5 (t u:TypeId)(y:TE):(Yx P t u .none y=true)=True:=by simp[Yx]
theorem jp4 (t u:TypeId)(x:TE):(Yx P t u x .none=true)=True:=by cases x<;>simp[Yx]
theorem jpM (d x:TE)(l:List TE):yH d (x :: l) 0=x:=nr rfl
theorem jpL (d x:TE)(l:List TE)(n:Nat):yH d (x :: l) (n+1)=yH d l n:=nr rfl
theorem jo6 (e:En)(v:AV)(st st':St):teW none e v st st'=.none:=nr rfl
theorem jo5 (e:En)(v:AV)(st st':St):teW (some none) e v st st'=.wr st.h st'.h:=nr rfl
theorem jo4 (a:A)(e:En)(v:AV)(st st':St):teW (some (some a)) e v st st'=.rd (vl e a) v:=nr rfl
theorem joO (e:En)(v:AV):vl e (.c v)=v:=nr rfl
theorem joM (x:Nat)(v:AV)(l g:Sl):vl ⟨(x,v) :: l,g⟩ (.t x)=v:=by simp[vl,En.look,zn,En.has,Jg]
theorem jlw {k x:Nat}(h:k≠x)(v:AV)(l g:Sl):vl ⟨(k,v) :: l,g⟩ (.t x)=vl ⟨l,g⟩ (.t x):=by simp[vl,En.look,zn,En.has,Jg,h]
theorem joN (x:Nat)(v:AV)(g:Sl):vl ⟨[],(x,v) :: g⟩ (.t x)=v:=by simp[vl,En.look,zn,En.has,Jg,has]
theorem jlx {k x:Nat}(h:k≠x)(v:AV)(g:Sl):vl ⟨[],(k,v) :: g⟩ (.t x)=vl ⟨[],g⟩ (.t x):=by simp[vl,En.look,zn,En.has,Jg,has,h]
theorem Ga {L:Sl}{x:Nat}{v:AV}(h:Has L x v):vl ⟨[],L⟩ (.t x)=v:=by
 obtain⟨h1,h2⟩:=h;simp[vl,En.has,En.look,has,h2]
end
section
variable {P:Program} {base:Bs} {st:St} {K:AV->St->Prop} {e:En}
def uC (sz:Nat)(v:AV)(lo hi:Option AV)(st:St):ER:=match v with
 |.nils=>optA lo 0 λl=>optA hi 0 λh=>cond (Qas l 0) (cond (Qas h 0) (.ok .nils st) .no) .no
 |.slice b o len cap sz' ex=>optA lo 0 λl=>optA hi len λh=>
  cond (Qas sz' sz) (cond (Qap l h) (cond (Qap h cap) (force (Qbg h l) λk=>force (QaG o (Qat l sz)) λo=>force (Qbg cap l) λc=>.ok (.slice b o k c sz ex) st) .no) .no) .no
 |.lst n cs=>optA lo 0 λl=>optA hi n λh=>
  cond (Qap l h) (cond (Qap h n) (cond (Qap (Qat h sz) (jY cs)) (.ok (.lst (Qbg h l) (yQ (zK cs (Qat l sz)) (Qat (Qbg h l) sz))) st) .no) .no) .no
 |_=>.no
theorem jh7 (sz:Nat)(x lo:A):wK P base (.i (.slS sz x (some lo) none)) e st K=on1 e x λv=>on1 e lo λl=>jm (uC sz v (some l) none st) K:=k_2 (V:=λv l st=>uC sz v (some l) none st) rfl (λ_=>rfl) K
theorem jh6 (sz:Nat)(x hi:A):wK P base (.i (.slS sz x none (some hi))) e st K=on1 e x λv=>on1 e hi λh=>jm (uC sz v none (some h) st) K:=k_2 (V:=λv h st=>uC sz v none (some h) st) rfl (λ_=>rfl) K
theorem jh5 (sz:Nat)(x lo hi:A):wK P base (.i (.slS sz x (some lo) (some hi))) e st K=on1 e x λv=>on1 e lo λl=>on1 e hi λh=>jm (uC sz v (some l) (some h) st) K:=k_3 (V:=λv l h st=>uC sz v (some l) (some h) st) rfl (λ_=>rfl) K
end
end Go.Sy
end
noncomputable section
namespace Go.Sy
open Go.Ev Go.RowKit
def ifW (p:Prop)(a b:Prop):Res (a,b):=(p->a)/\(¬ p->b)
theorem jc {p a b:Prop}(h1:p->a)(h2:¬ p->b):ifW p a b:=⟨h1,h2⟩
theorem gn {p a b:Prop}(h:p):ifW p a b=a:=propext ⟨λk=>k.1 h,λk=>⟨λ_=>k,λn=>absurd h n⟩⟩
theorem gq {p a b:Prop}(h:¬ p):ifW p a b=b:=propext ⟨λk=>k.2 h,λk=>⟨λn=>absurd n h,λ_=>k⟩⟩
section
variable {P:Program} {base:Bs} {st:St} {K Kp:AV->St->Prop} {e:En}
theorem jeq (q:Bool)(a b:Prop):ui (.bool q) a b=ifW (q=true) a b:=by cases q<;>simp[ui,ifW]
theorem jqI (q:Bool)(a b:Prop):onG (.bool q) true a b=ifW (q=true) a b:=by cases q<;>simp[onG,ifW]
theorem jqJ (q:Bool)(a b:Prop):onG (.bool q) false a b=ifW (q=true) b a:=by cases q<;>simp[onG,ifW]
theorem jiW (q:Bool)(a b:AV):jm (jfj (.bool q) a b st) K=ifW (q=true) (K a st) (K b st):=by cases q<;>simp[jfj,ZZ,jm,ifW]
theorem jbl (a b:List Nat):jm (kH .neq (.str a) (.str b) st) K=K (.bool (decide (a≠b))) st:=by
 simp only[kH,vS,jV,jm,Ql];by_cases h:a=b
 ·simp[h]
 ·simp[h]
theorem jbm {a b:List Nat}(h:a.length+b.length<=9223372036854775807):jm (kH .add (.str a) (.str b) st) K=K (.str (a ++ b)) st:=by
 have e1:Qap (QaG (jY a) (jY b)) 9223372036854775807=true:=by rw[qt,jZ,jZ];exact h
 simp only[kH,vS,jV,jm,e1,cond_true,zo]
theorem vC {x:Int}(h1 : -9223372036854775808<=x)(h2:x<=9223372036854775807):q9 .i64 x=x:=by
 rw[Zr];exact IntWalk.i64_in x ⟨h1,by omega⟩
theorem jgZ {a b:Int}(h1 : -9223372036854775808<=a+b)(h2:a+b<=9223372036854775807):jm (Qc .add (.int .i64 a) (.int .i64 b) st) K=K (.int .i64 (a+b)) st:=by
 have:(Yk .add).run .i64 a b=some (.int .i64 (a+b)):=by show some (AV.int .i64 (q9 .i64 (a+b)))=_;rw[vC h1 h2]
 simp only[Qc,XE,cond_true,this,jV,jm]
theorem jgD {a b:Int}(h1 : -9223372036854775808<=a - b)(h2:a - b<=9223372036854775807):jm (Qc .sub (.int .i64 a) (.int .i64 b) st) K=K (.int .i64 (a - b)) st:=by
 have:(Yk .sub).run .i64 a b=some (.int .i64 (a - b)):=by show some (AV.int .i64 (q9 .i64 (a - b)))=_;rw[vC h1 h2]
 simp only[Qc,XE,cond_true,this,jV,jm]
theorem jgM {a b:Int}(h1 : -9223372036854775808<=a * b)(h2:a * b<=9223372036854775807):jm (Qc .mul (.int .i64 a) (.int .i64 b) st) K=K (.int .i64 (a * b)) st:=by
 have:(Yk .mul).run .i64 a b=some (.int .i64 (a * b)):=by show some (AV.int .i64 (q9 .i64 (a * b)))=_;rw[vC h1 h2]
 simp only[Qc,XE,cond_true,this,jV,jm]
theorem jgL {a:Int}(h1 : -9223372036854775808<=-a)(h2 : -a<=9223372036854775807):jm (unV .neg (.int .i64 a) st) K=K (.int .i64 (-a)) st:=by
 have e:IntKind.i64.wrap (0 - a)=-a:=by rw[<-Zr,vC (by omega) (by omega)];omega
 simp only[unV,Y5,O,e,jm]
def biV (P:Program)(b:Builtin)(ts:Array TypeId)(l:List AV)(st:St):ER:=(qK P b ts (l.map λv=>O v)).run E0 st
theorem jmm (b:Builtin)(ts:Array TypeId)(l:List A):wK P base (.i (.bi b ts l)) e st K=vq e l λvs=>jm (biV P b ts vs st) K:=by
 rw[uY];simp only[wK,wI,wb,j1,biV,QbH];rfl
theorem jgP (ts:Array TypeId)(k:IntKind)(a b:Int):jm (biV P .max ts [.int k a,.int k b] st) K=K (.int k (max a b)) st:=by
 have:(qK P .max ts [O (.int k a),O (.int k b)]).run E0 st=jV (max2 (.int k a) (.int k b)) λv=>.ok v st:=by
  show jV (Xc max2 (.int k a) [.int k b]) _=_;unfold Xc;cases max2 (.int k a) (.int k b)<;>rfl
 show jm ((qK P .max ts [O (.int k a),O (.int k b)]).run E0 st) K=_;rw[this];simp only[max2,XE,cond_true,jV,jm]
 congr 2
 rw[Yh];by_cases h:a<b
 ·rw[decide_eq_true h,Int.max_eq_right (by omega)];rfl
 ·rw[decide_eq_false h,Int.max_eq_left (by omega)];rfl
theorem jgO (ts:Array TypeId)(k:IntKind)(a b:Int):jm (biV P .min ts [.int k a,.int k b] st) K=K (.int k (min a b)) st:=by
 have:(qK P .min ts [O (.int k a),O (.int k b)]).run E0 st=jV (min2 (.int k a) (.int k b)) λv=>.ok v st:=by
  show jV (Xc min2 (.int k a) [.int k b]) _=_;unfold Xc;cases min2 (.int k a) (.int k b)<;>rfl
 show jm ((qK P .min ts [O (.int k a),O (.int k b)]).run E0 st) K=_;rw[this];simp only[min2,XE,cond_true,jV,jm]
 congr 2
 rw[Yh];by_cases h:b<a
 ·rw[decide_eq_true h,Int.min_eq_right (by omega)];rfl
 ·rw[decide_eq_false h,Int.min_eq_left (by omega)];rfl
theorem jgR (n:Nat)(cs:List AV):jm (jbZ (.lst n cs) st) K=K (.int .i64 (n:Int)) st:=nr rfl
theorem jdQ {k:IntKind}{i:Int}(h:0<=i)(F:Nat->ER):qH (.int k i) F=F i.toNat:=by
 obtain⟨n,rfl⟩:=Qbu h;exact Gs
theorem jgT {n:Nat}{cs:List AV}{i:Int}(h0:0<=i)(h:i<n)(s:Nat)(k:IntKind):jm (US s (.lst n cs) (.int k i) st) K=K (.lptr cs (i.toNat * s)) st:=by
 simp only[US,jdQ h0];have:Qap (QaD i.toNat) n=true:=by rw[qt];omega
 rw[this];rfl
theorem jgS {b o n c z:Nat}{x:Bool}{i:Int}(h0:0<=i)(h:i<n)(s:Nat)(k:IntKind):jm (US s (.slice b o n c z x) (.int k i) st) K=K (.ptr b (o+i.toNat * s)) st:=by
 obtain⟨m,rfl⟩:=Qbu h0;exact joU (by omega) s k
theorem jlF {s:List Nat}{i:Int}(h0:0<=i)(h:i<s.length)(k:IntKind):jm (gk (.str s) (.int k i) st) K=K (.int .u8 ((s.getD i.toNat 0:Nat):Int)) st:=by
 obtain⟨m,rfl⟩:=Qbu h0;exact jmP (by omega) k
theorem joT {k o:Nat}{cs:List AV}(h:o+k<=cs.length):jm (Je k (.lptr cs o) st) K=K (.agg ((cs.drop o).take k)) st:=by
 have:Qap (QaG o k) (jY cs)=true:=by rw[qt,jZ];exact h
 simp only[Je,this,cond_true,jm,yt,zi]
theorem JS {o:Nat}{cs:List AV}(h:o<cs.length):jm (yy (.lptr cs o) st) K=K (cs.getD o .bad) st:=by
 have:Qap (QaD o) (jY cs)=true:=by rw[qt,jZ];exact h
 simp only[yy,this,cond_true,jm,Jd]
theorem jgV (off o:Nat)(cs:List AV):jm (jfM off (.lptr cs o) st) K=K (.lptr cs (o+off)) st:=nr rfl
theorem jdu (o:Nat)(cs:List AV):jm (jfp (.lptr cs o) st) K=K (.lptr cs o) st:=nr rfl
def fl {α:Type}(enc:α->List AV)(xs:List α):List AV:=xs.flatMap enc
theorem X4 {α:Type}(enc:α->List AV)(x:α)(xs:List α):fl enc (x :: xs)=enc x ++ fl enc xs:=rfl
theorem Xz {α:Type}(enc:α->List AV)(xs ys:List α):fl enc (xs ++ ys)=fl enc xs ++ fl enc ys:=by simp[fl]
theorem QC {α:Type}(enc:α->List AV)(x:α):fl enc [x]=enc x:=by simp[fl]
theorem JX {α:Type}{enc:α->List AV}{z:Nat}(hz:∀ x,(enc x).length=z):∀ xs:List α,(fl enc xs).length=xs.length * z
 |[]=>by simp[fl]
 |x :: xs=>by rw[X4,Qak,hz,JX hz xs,Qaj,Qbw,Qcs]
theorem Jn {α:Type}{enc:α->List AV}(hp:∀ x,(enc x).all pc=true):∀ xs:List α,(fl enc xs).all pc=true
 |[]=>rfl
 |x :: xs=>by rw[X4,Qbi,hp,Jn hp xs];rfl
theorem GD {α:Type}{enc:α->List AV}{z:Nat}(hz:∀ x,(enc x).length=z):∀ (xs:List α) (i:Nat),(fl enc xs).drop (i * z)=fl enc (xs.drop i)
 |xs,0=>by simp
 |[],i+1=>by simp[fl]
 |x :: xs,i+1=>by
  rw[X4,Qbw,Qcs,List.drop_append,List.drop_eq_nil_of_le (by rw[hz];omega),hz,Nat.add_sub_cancel_left,GD hz xs i];rfl
theorem jec {α:Type}{enc:α->List AV}{z:Nat}(hz:∀ x,(enc x).length=z):∀ (xs:List α) (i:Nat),(fl enc xs).take (i * z)=fl enc (xs.take i)
 |xs,0=>by simp[fl]
 |[],i+1=>by simp[fl]
 |x :: xs,i+1=>by
  rw[X4,Qbw,Qcs,List.take_append,List.take_of_length_le (by rw[hz];omega),hz,Nat.add_sub_cancel_left,jec hz xs i];rfl
theorem jfH {α:Type}{enc:α->List AV}{z:Nat}(hz:∀ x,(enc x).length=z){xs:List α}{i:Nat}(h:i<xs.length):((fl enc xs).drop (i * z)).take z=enc xs[i]:=by
 rw[GD hz,List.drop_eq_getElem_cons h,X4,List.take_append,List.take_of_length_le (by rw[hz];omega),hz,Nat.sub_self,QaZ,Qbf]
theorem vF {α:Type}{enc:α->List AV}{z:Nat}(hz:∀ x,(enc x).length=z){xs:List α}{i:Nat}(h:i<xs.length){k:Nat}(hk:k<z):(fl enc xs).getD (i * z+k) .bad=(enc xs[i]).getD k .bad:=by
 rw[<-jfH hz h];simp only[QaO,QbO,hk,if_true,Qcf]
theorem XP {α:Type}{enc:α->List AV}{z:Nat}(hz:∀ x,(enc x).length=z){xs:List α}{i:Nat}(h:i<xs.length):jm (Je z (.lptr (fl enc xs) (i * z)) st) K=K (.agg (enc xs[i])) st:=by
 have:(i+1) * z<=xs.length * z:=QaN z h;rw[Qbw] at this;rw[joT (by rw[JX hz];omega),jfH hz h]
theorem yi {α:Type}{enc:α->List AV}{z:Nat}(hz:∀ x,(enc x).length=z){xs:List α}{i:Nat}(h:i<xs.length){k:Nat}(hk:k<z):jm (yy (.lptr (fl enc xs) (i * z+k)) st) K=K ((enc xs[i]).getD k .bad) st:=by
 have:(i+1) * z<=xs.length * z:=QaN z h;rw[Qbw] at this;rw[JS (by rw[JX hz];omega),vF hz h hk]
theorem jgU {k:Nat}{cs:List AV}(h:k<cs.length):jm (jfG k (.agg cs) st) K=K (cs.getD k .bad) st:=by
 have:Qap (QaD k) (jY cs)=true:=by rw[qt,jZ];exact h
 simp only[jfG,QT,this,cond_true,jm,Jd]
theorem jdx (k n:Nat)(cs:List AV):jm (jfF k n (.agg cs) st) K=K (.agg ((cs.drop k).take n)) st:=by
 simp only[jfF,QT,jm,yt,zi]
theorem Ge (l:List AV):l.take 0=[]:=rfl
theorem Gd (a:AV)(l:List AV)(n:Nat):(a :: l).take (n+1)=a :: l.take n:=rfl
theorem GO (l:List AV):l.drop 0=l:=rfl
theorem jqo (a:AV)(l:List AV)(n:Nat):(a :: l).drop (n+1)=l.drop n:=rfl
theorem Cl.rw_ {b:Nat}{cs:List AV}(C:Cl st b cs):Rw st.h b cs:=by
 obtain⟨n,zl,z,c,hg⟩:=C.row;have hl:=C.len;rw[QR hg] at hl;refine⟨n,zl,z,c,hg,?_⟩;rw[qQ];apply Qca
 ·simp[hl]
 ·intro i h1 h2;have:=C.cell i h2;rw[ZD hg] at this;simp only[List.getElem_map,List.getElem_range,QaM,this];simp[QaO,Qav h2]
end
section
variable {P:Program} {base:Bs}
theorem Gu (cs:List AV):ZF cs=nw st0 cs:=by unfold ZF nw;rw[jZ];rfl
def G0 (u v:AV)(s:St):Prop:=FzD 0 9 s v u
def G1 (n:Nat)(c':List AV)(u v:AV)(s:St):Prop:=FzD 1 9 s v u/\∃ c2,Rw s.h 0 c2/\c2.length=n/\FzsD 1 9 s c2 c'
theorem jI {f:FuncId}{F:XF}(hl:jE P f=some F)(hnd:F.body.nd=true)(hm:base.pur f=1){aZ:List AV}{o:Oc}
  (h:xC P base F.body (jp F.ps aZ) st0 (QE P F.res (Xe G0 o)) λv _ s=>Xb G0 o v s.bare):PX P base f aZ o:=
 PX.of hm (YL hl hnd h)
theorem qf {f:FuncId}{F:XF}(hl:jE P f=some F)(hnd:F.body.nd=true)(hm:base.pur f=3){c aZ:List AV}(hc:c.all pc=true){o:Oc}{c':List AV}
  (h:xC P base F.body (jp F.ps (.ptr 0 0 :: aZ)) (nw st0 c) (QE P F.res (Xe (G1 c.length c') o)) λv _ s=>Xb (G1 c.length c') o v s.bare):PM P base f c aZ o c':=by
 rw[<-Gu] at h;exact PM.of hm hc (YL hl hnd h)
theorem PM.xbk {f:FuncId}{c aZ aZ':List AV}{ks:List Nat}{o:Oc}{c':List AV}(h:PM P base f c aZ o c'){st:St}{p:Nat}(C:Cl (kills ks st) p c)(hf:fzs (fz 9 st.h) aZ'=some (aZ,ks))(hp:aZ.all pa=true)(hb:∀ st,base.run f (.ptr p 0 :: aZ') st=.no)(K Kp:AV->St->Prop) :
  XB P base f (.ptr p 0 :: aZ') st K Kp=YG o K Kp (wr (kills ks st) p 0 c'):=by
 obtain⟨N,D,h⟩:=h;have e0:∀ n,N<=n->∀ d,D<=d->evC P base n d f (.ptr p 0 :: aZ') st=o.er (wr (kills ks st) p 0 c'):=λn hn d hd=>by
  rw[h n hn d hd st p aZ' ks C.rw_ hf hp hb]
  congr 1
 refine propext ⟨λ⟨r,⟨N2,D2,h2⟩,h3⟩=>?_,λh3=>⟨_,⟨N,D,e0⟩,?_⟩⟩
 ·have e1:=e0 (max N N2) (QaJ ..) (max D D2) (QaJ ..);have e2:=h2 (max N N2) (QaH ..) (max D D2) (QaH ..);rw[e1] at e2;rw[<-e2] at h3;cases o<;>exact h3
 ·cases o<;>exact h3
theorem PM.xb {f:FuncId}{c aZ:List AV}{o:Oc}{c':List AV}(h:PM P base f c aZ o c'){st:St}{p:Nat}(C:Cl st p c)(hp:aZ.all pa=true)(hb:∀ st,base.run f (.ptr p 0 :: aZ) st=.no)(K Kp:AV->St->Prop) :
 XB P base f (.ptr p 0 :: aZ) st K Kp=YG o K Kp (wr st p 0 c'):=h.xbk (ks:=[]) C (gu (d:=7) hp) hp hb K Kp
theorem jfn (v:AV)(K Kp:AV->St->Prop)(st:St):YG (.ok v) K Kp st=K v st:=nr rfl
theorem jfm (v:AV)(K Kp:AV->St->Prop)(st:St):YG (.pn v) K Kp st=Kp v st:=nr rfl
theorem jiI (G:AV->AV->St->Prop)(u v:AV)(s:St):Xe G (.ok u) v s=G u v s:=nr rfl
theorem jhG (G:AV->AV->St->Prop)(u v:AV)(s:St):Xb G (.pn u) v s=G u v s:=nr rfl
def jfb (b b2:Nat)(J:Sl->St->Prop)(Q:Out->Prop):Out->Res (J,Q)
 |.go L s=>J L s
 |.ex i L s=>cond (Qas i b2) (J L s) (cond (Qas i b) (Q (.go L s)) (Q (.ex i L s)))
 |.rt L s=>Q (.rt L s)
theorem jpw (b b2:Nat)(J:Sl->St->Prop)(Q:Out->Prop)(L:Sl)(s:St):jfb b b2 J Q (.go L s)=J L s:=nr rfl
theorem jpv (b b2:Nat)(J:Sl->St->Prop)(Q:Out->Prop)(L:Sl)(s:St):jfb b b2 J Q (.rt L s)=Q (.rt L s):=nr rfl
theorem jks (b b2:Nat)(J:Sl->St->Prop)(Q:Out->Prop)(i:Nat)(L:Sl)(s:St):jfb b b2 J Q (.ex i L s)=cond (Qas i b2) (J L s) (cond (Qas i b) (Q (.go L s)) (Q (.ex i L s))):=nr rfl
theorem qy {b b2 i n c d:Nat}{body:XC}{L:Sl}{st:St}{Q:Out->Prop}{Kp:AV->Sl->St->Prop}(N:Nat)(I:Nat->Sl->St->Prop)(hN:N<=4611686018427387904)(hne:c≠i/\c≠n/\i≠n/\d≠i/\b≠b2)
  (hi:Has L i (.int .i64 0)) (hn:Has L n (.int .i64 (N:Int))) (h0:I 0 L st) (hc:∀ k L s v,I k L s->I k ((c,v) :: L) s) (hI:∀ k L s v,I k L s->I k ((i,v) :: L) s)
  (step:∀ k L s,k<N->I k L s->Has L i (.int .i64 (k:Int))->Has L n (.int .i64 (N:Int))->jc5 (xC P base body L s (jfb b b2 (λL' s'=>I (k+1) L' s'/\Has L' i (.int .i64 (k:Int))/\Has L' n (.int .i64 (N:Int))) Q) Kp))
  (fin:∀ L s,I N L s->jc5 (Q (.go L s))) :
  xC P base (.loop (.seq (.ops [⟨some c,true,none,.i (.bin .lss (.t i) (.t n))⟩]) (.seq (.cond (.t c) .skip (.exit b)) (.seq (.block b2 body) (.ops [⟨some d,false,none,.i (.bin .add (.t i) (.c (.int .i64 1)))⟩,⟨some i,true,none,.i (.mv (.t d))⟩]))))) L st (yN b Q) Kp:=by
 obtain⟨n1,n2,n3,n4,n5⟩:=hne;refine zY (λm L s=>∃ k,k<=N/\m=N - k/\I k L s/\Has L i (.int .i64 (k:Int))/\Has L n (.int .i64 (N:Int))) ?_ N ⟨0,QaL _,rfl,h0,hi,hn⟩;rintro m L s ⟨k,hk,rfl,hk',h1,h2⟩;unfold jc5;simp only[H6,H7,Ul,x_i,jaJ,ja h1,ja h2,jeY,H8,UA,wY,jbf,jff];by_cases hlt:k<N
 ·rw[decide_eq_true (by omega),jna,jba,wY,H6,Um];refine jdq _ _ _ _ _ (step k ((c,.bool true) :: L) s hlt (hc k L s _ hk') (by rw[jb n1];exact h1) (by rw[jb n2];exact h2)) λo ho=>?_;have go:∀ L' s',(I (k+1) L' s'/\Has L' i (.int .i64 (k:Int))/\Has L' n (.int .i64 (N:Int)))->xO P base [⟨some d,false,none,.i (.bin .add (.t i) (.c (.int .i64 1)))⟩,⟨some i,true,none,.i (.mv (.t d))⟩] ⟨[],L'⟩ s' (λe st'=>Ya (λL' st'=>∃ k',k'<N - k/\∃ k,k<=N/\k'=N - k/\I k L' st'/\Has L' i (.int .i64 (k:Int))/\Has L' n (.int .i64 (N:Int))) (yN b Q) (.go e.g st')) Kp:=by
   intro L' s' ⟨h3,h4,h5⟩;simp only[Ul,x_i,jaJ,ja h4,jfg,joV (show k+1<=9223372036854775807 by omega),Gn,jkU,jfe,H8,UA,wY];refine⟨N - (k+1),by omega,k+1,by omega,rfl,hI _ _ _ _ h3,Has.here _ _ _,by rw[jb n3];exact h5⟩
  cases o with
  |go L' s'=>exact go L' s' ho
  |rt L' s'=>exact ho
  |ex q L' s'=>
   rw[jks] at ho;cases hq:Qas q b2
   ·rw[hq] at ho;have e1:yN b2 (Ya (λL' st'=>xC P base (.ops [⟨some d,false,none,.i (.bin .add (.t i) (.c (.int .i64 1)))⟩,⟨some i,true,none,.i (.mv (.t d))⟩]) L' st' (Ya (λL' st'=>∃ k',k'<N - k/\∃ k,k<=N/\k'=N - k/\I k L' st'/\Has L' i (.int .i64 (k:Int))/\Has L' n (.int .i64 (N:Int))) (yN b Q)) Kp) (Ya (λL' st'=>∃ k',k'<N - k/\∃ k,k<=N/\k'=N - k/\I k L' st'/\Has L' i (.int .i64 (k:Int))/\Has L' n (.int .i64 (N:Int))) (yN b Q))) (.ex q L' s')=yN b Q (.ex q L' s'):=by
     simp only[yN,hq,cond_false,Ya]
    show yN b2 _ _;rw[e1];exact ho
   ·rw[hq] at ho;have:=go L' s' ho;show yN b2 _ _;simp only[yN,hq,cond_true,wY,H7];exact this
 ·have hkN:k=N:=by omega
  rw[decide_eq_false (by omega),jnb,jbc,Uz,Uz];subst hkN;show yN b Q (.ex b _ s);rw[VD];exact fin _ _ (hc _ _ _ _ hk')
theorem um (n:Nat)(cs:List AV):(AV.lst n cs).cells=[.lst n cs]:=nr rfl
theorem jb7 (n:Nat)(cs l:List AV):lall AV.cell (.lst n cs :: l)=lall AV.cell l:=nr rfl
theorem G7 (n:Nat)(cs:List AV):(AV.lst n cs).plain=true:=nr rfl
theorem yw:st0.nx=0:=nr rfl
theorem jhm (P:Program)(t:TypeId)(cs:List AV)(o:Nat)(v:AV)(h:T AO):(qa P t (.lptr cs o) v h=true)=True:=by simp[qa]
theorem G0.v {u v:AV}{s:St}(h:v=u)(hp:pa v=true):G0 u v s:=by subst h;exact FzD.pa hp
theorem jd6 (p:Prop):jc5 p=p:=nr rfl
theorem jhA:zT []=.tup []:=nr rfl
theorem Gb:∀ {c c':List AV},c'.length=c.length->upd c 0 c'=c'
 |[],[],_=>rfl
 |[],_ :: _,h=>by simp at h
 |_ :: _,[],h=>by simp at h
 |_ :: c,v :: c',h=>by rw[ZK,Gb (by simpa using h)]
theorem Zu {c c':List AV}(h:c'.length=c.length):upd c 0 c'=c':=Gb h
theorem Cl.wr0 {s:St}{b:Nat}{c c':List AV}(C:Cl s b c)(h:c'.length=c.length):Cl (Go.Sy.wr s b 0 c') b c':=by
 have:=C.wr 0 c';rwa [Gb h] at this
theorem G1.done {s:St}{n:Nat}{c':List AV}{u v:AV}(C:Cl s 0 c')(hl:c'.length=n)(hp:c'.all pc=true)(hv:FzD 1 9 s v u):G1 n c' u v s:=
 ⟨hv,c',C.rw_,hl,FzsD.pc hp⟩
theorem FzD.u {m d:Nat}{s:St}:FzD m (d+1) s (.tup []) (.tup []):=FzD.tup FzsD.nil
abbrev Met (P:Program)(base:Bs)(f:FuncId)(c xs:List AV)(o:Oc)(c':List AV):Prop:=∀ {st:St} {p:Nat},Cl st p c->∀ K Kp,XB P base f (.ptr p 0 :: xs) st K Kp=YG o K Kp (wr st p 0 c')
theorem PM.met {f:FuncId}{c xs:List AV}{o:Oc}{c':List AV}(h:PM P base f c xs o c')(hp:xs.all pa=true)(hb:∀ p st,base.run f (.ptr p 0 :: xs) st=.no):Met P base f c xs o c':=λC K Kp=>h.xb C hp (hb _) K Kp
theorem hH {f:FuncId}{xs:List AV}{st:St}{v:AV}{st':St}(h:base.run f xs st=.ok v st')(K Kp:AV->St->Prop):XB P base f xs st K Kp=K v (back st st'):=by
 have e0:∀ n,0<=n->∀ d,1<=d->evC P base n d f xs st=.ok v st':=λn _ d hd=>by
  obtain⟨d',rfl⟩:∃ d',d=d'+1:=⟨d - 1,by omega⟩;simp only[evC,h]
 refine propext ⟨λ⟨r,⟨N2,D2,h2⟩,h3⟩=>?_,λh3=>⟨_,⟨0,1,e0⟩,h3⟩⟩;have e1:=e0 N2 (QaL _) (max 1 D2) (QaJ ..);have e2:=h2 N2 (Qaq _) (max 1 D2) (QaH ..);rw[e1] at e2;rw[<-e2] at h3;exact h3
def cvV (P:Program)(s d:TypeId)(v:AV)(st:St):ER:=(Qn P s d (O v)).run E0 st
theorem jii {e:En}{st:St}{K:AV->St->Prop}(s d:TypeId)(x:A):wK P base (.i (.conv s d x)) e st K=on1 e x λv=>jm (cvV P s d v st) K:=k_1 rfl (λ_=>rfl) K
theorem jnN {st:St}{K:AV->St->Prop}{s d e:TypeId}(h1:P.underlying s=some .string)(h2:P.underlying d=some (.slice e))(h3:P.underlying e=some (.int .u8))(l:List Nat) :
  jm (cvV P s d (.str l) st) K=K (.slice st.nx 0 l.length l.length 1 false) (nw st (l.map λ(c:Nat)=>.int .u8 (c:Int))):=by
 simp only[cvV,Qn,h1,h2,h3,O,Jl,jZ,jJ,St.alloc_eq,jm];unfold nw;rw[QaQ,yW];rfl
theorem jhs {st:St}(x k:Nat)(l:List RV)(L:Sl)(F:List AV->Prop):yI P (.cA x k :: l) L st F=on1 ⟨[],L⟩ (.t x) λv=>jm (Je k v st) λu _=>yI P l L st λvs=>F (u :: vs):=by
 simp only[yI,jbC,on1,okA,vl,En.has,En.look,has,cond_false];rfl
theorem jdJ {st:St}(x:Nat)(l:List RV)(L:Sl)(F:List AV->Prop):yI P (.c1 x :: l) L st F=on1 ⟨[],L⟩ (.t x) λv=>jm (yy v st) λu _=>yI P l L st λvs=>F (u :: vs):=by
 simp only[yI,jbC,on1,okA,vl,En.has,En.look,has,cond_false];rfl
def jaj (n sz:Nat)(v:AV)(st:St):ER:=yd v λb o=>optA none 0 λl=>optA none n λh=>
 cond (Qap l h) (cond (Qap h n)
  (force (Qbg h l) λk=>force (QaG o (Qat l sz)) λo=>force (Qbg n l) λc=>.ok (.slice b o k c sz true) st) .no) .no
theorem jh8 {e:En}{st:St}{K:AV->St->Prop}(n sz:Nat)(x:A):wK P base (.i (.slA n sz x none none)) e st K=on1 e x λv=>jm (jaj n sz v st) K:=k_1 (V:=λv st=>jaj n sz v st) rfl (λ_=>rfl) K
theorem jgJ {st:St}{K:AV->St->Prop}(b n sz:Nat):jm (jaj n sz (.ptr b 0) st) K=K (.slice b 0 n n sz true) st:=by
 have e1:Qap 0 n=true:=yK (QaL _);have e2:Qap n n=true:=yK (Qaq _);have e3:QaG 0 (Qat 0 sz)=0:=by show 0+0 * sz=0;omega
 have e4:Qbg n 0=n:=rfl;simp only[jaj,yd,optA,e1,e2,e3,e4,cond_true,jJ,jm]
theorem jdw {st:St}{K:AV->St->Prop}{b n s:Nat}{i:Int}(h0:0<=i)(h:i<n)(k:IntKind):jm (jfA n s (.ptr b 0) (.int k i) st) K=K (.ptr b (i.toNat * s)) st:=by
 have e1:Qap (QaD i.toNat) n=true:=yK (by omega);have e2:QaG 0 (Qat i.toNat s)=i.toNat * s:=QaM _;simp only[jfA,yd,jdQ h0,e1,e2,cond_true,jJ,jm]
theorem jgI {st:St}{K:AV->St->Prop}{l:List Nat}{i:Int}(h0:0<=i)(h:i<=l.length)(k:IntKind):jm (JT (.str l) (some (.int k i)) none st) K=K (.str (l.drop i.toNat)) st:=by
 obtain⟨m,rfl⟩:=Qbu h0;exact jq8 (by omega) k
theorem jgH {st:St}{K:AV->St->Prop}{l:List Nat}{i:Int}(h0:0<=i)(h:i<=l.length)(k:IntKind):jm (JT (.str l) none (some (.int k i)) st) K=K (.str (l.take i.toNat)) st:=by
 obtain⟨m,rfl⟩:=Qbu h0;exact jq7 (by omega) k
theorem jgG {st:St}{K:AV->St->Prop}{l:List Nat}{i j:Int}(h0:0<=i)(h1:i<=j)(h:j<=l.length)(k k':IntKind):jm (JT (.str l) (some (.int k i)) (some (.int k' j)) st) K=K (.str ((l.drop i.toNat).take (j - i).toNat)) st:=by
 obtain⟨m,rfl⟩:=Qbu h0;obtain⟨n,rfl⟩:=Qbu (show 0<=j by omega);rw[jq6 (by omega) (by omega)]
 congr 3
 omega
theorem jeT {f:FuncId}{xs:List AV}{st s:St}{v:AV}(h:∀ K Kp,K v s->XB P base f xs st K Kp)(K Kp:AV->St->Prop):XB P base f xs st K Kp=K v s:=by
 refine propext ⟨λ⟨r2,⟨N2,D2,h2⟩,h3⟩=>?_,h K Kp⟩;obtain⟨r,⟨N,D,h1⟩,h4⟩:=h (λv' s'=>v'=v/\s'=s) (λ_ _=>False) ⟨rfl,rfl⟩;have e1:=h1 (max N N2) (QaJ ..) (max D D2) (QaJ ..);have e2:=h2 (max N N2) (QaH ..) (max D D2) (QaH ..);rw[e1] at e2;subst e2;cases r with
 |no=>exact h4.elim
 |pn v s=>exact h4.elim
 |ok v' s'=>
  obtain⟨rfl,rfl⟩:=h4;exact h3
theorem jer (st:St):bk st st.bare=st:=nr rfl
theorem jcV (st:St):back st st.bare=st:=nr rfl
def fi {α:Type}(q:α->Bool):List α->Int
 |[]=>-1
 |x :: xs=>if q x=true then 0 else if fi q xs<0 then -1 else fi q xs+1
theorem W8 {α:Type}{q:α->Bool}:∀ {xs:List α} {k:Nat} (h:k<xs.length),(∀ j (hj:j<k),q (xs[j]'(by omega))=false)->q xs[k]=true->fi q xs=k
 |x :: xs,0,h,h0,hk=>by simp only[Qbx] at hk;simp[fi,hk]
 |x :: xs,k+1,h,h0,hk=>by
  have:=W8 (xs:=xs) (k:=k) (by simpa using h) (λj hj=>by have:=h0 (j+1) (by omega);simpa only[QbD] using this) (by simpa only[QbD] using hk);have h1:=h0 0 (by omega);simp only[Qbx] at h1;simp only[fi,h1,this];simp;omega
theorem W7 {α:Type}{q:α->Bool}:∀ {xs:List α},(∀ j (hj:j<xs.length),q xs[j]=false)->fi q xs=-1
 |[],_=>rfl
 |x :: xs,h=>by
  have h1:=h 0 (by simp);simp only[Qbx] at h1;have:=W7 (xs:=xs) λj hj=>by have:=h (j+1) (by simpa using hj);simpa only[QbD] using this
  simp[fi,h1,this]
theorem Cl.cv {s:St}{b:Nat}{c c':List AV}(h:Cl s b c)(e:c=c'):Cl s b c':=e▸h
theorem jA {s:St}{b c o:Nat}{vs cs:List AV}(h:c≠b):Cl (wr s b o vs) c cs=Cl s c cs:=
 propext ⟨λC=>⟨C.lt,JG (Js h).symm C.row,(yU (Js h).symm).trans C.len,λi hi=>(yL (Js h).symm i).trans (C.cell i hi)⟩,λC=>C.wrO h o vs⟩
theorem jB {s:St}{c:Nat}{ds cs:List AV}(h:c<s.nx):Cl (nw s ds) c cs=Cl s c cs:=
 propext ⟨λC=>⟨h,JG (JQ (Qcl h)).symm C.row,(yU (JQ (Qcl h)).symm).trans C.len,λi hi=>(yL (JQ (Qcl h)).symm i).trans (C.cell i hi)⟩,λC=>C.nw ds⟩
theorem jy {s:St}{c:Nat}{cs:List AV}:Cl s.bare c cs=Cl s c cs:=propext ⟨λh=>⟨h.lt,h.row,h.len,h.cell⟩,λh=>⟨h.lt,h.row,h.len,h.cell⟩⟩
end
end Go.Sy
end
noncomputable section
namespace Go.Sy
open Go.Ev Go.RowKit
def Lv (lo hi:Nat)(s:St)(v:AV)(n:Nat)(cs:List AV)(z:Nat):Prop:=(v=.nils/\n=0/\cs=[])\/∃ b,v=.slice b 0 n n z false/\0<n/\cs.length=n * z/\Cl s b cs/\lo<=b/\b<hi
def aps (v:AV)(s:St)(news:List AV):St:=match v with | .slice b _ _ _ _ _=>ap s b news|_=>nw s news
def apv (z:Nat)(v:AV)(s:St):AV:=match v with | .slice _ _ n _ _ _=>.slice s.nx 0 (n+1) (n+1) z false|_=>.slice s.nx 0 1 1 z false
section
variable {lo hi n z:Nat} {s:St} {v:AV} {cs:List AV}
theorem Lv.nil:Lv lo hi s .nils 0 [] z:=.inl ⟨rfl,rfl,rfl⟩
theorem jC {b o:Nat}{vs:List AV}(h:b<lo\/hi<=b):Lv lo hi (wr s b o vs) v n cs z=Lv lo hi s v n cs z:=by
 unfold Lv;refine propext ⟨λk=>k.imp id λ⟨c,h1,h2,h3,h4,h5,h6⟩=>⟨c,h1,h2,h3,?_,h5,h6⟩,λk=>k.imp id λ⟨c,h1,h2,h3,h4,h5,h6⟩=>⟨c,h1,h2,h3,?_,h5,h6⟩⟩
 ·rwa [jA (by omega)] at h4
 ·rwa [jA (by omega)]
theorem jG {ds:List AV}(h:hi<=s.nx):Lv lo hi (nw s ds) v n cs z=Lv lo hi s v n cs z:=by
 unfold Lv;refine propext ⟨λk=>k.imp id λ⟨c,h1,h2,h3,h4,h5,h6⟩=>⟨c,h1,h2,h3,?_,h5,h6⟩,λk=>k.imp id λ⟨c,h1,h2,h3,h4,h5,h6⟩=>⟨c,h1,h2,h3,?_,h5,h6⟩⟩
 ·rwa [jB (by omega)] at h4
 ·rwa [jB (by omega)]
theorem jF:Lv lo hi s.bare v n cs z=Lv lo hi s v n cs z:=by unfold Lv;simp only[jy]
theorem Lv.up {hi':Nat}(h:Lv lo hi s v n cs z)(h2:hi<=hi'):Lv lo hi' s v n cs z:=h.imp id λ⟨c,h1,h2,h3,h4,h5,h6⟩=>⟨c,h1,h2,h3,h4,h5,by omega⟩
theorem jj (v:AV)(s:St)(news:List AV):(aps v s news).nx=s.nx+1:=by unfold aps;split<;>rfl
theorem Wa (v:AV)(s:St)(news:List AV):(aps v s news).fr=s.fr:=by unfold aps;split<;>rfl
theorem Lv.app {news:List AV}(h:Lv lo hi s v n cs z)(hl:news.length=z)(h1:lo<=s.nx):Lv lo (s.nx+1) (aps v s news) (apv z v s) (n+1) (cs ++ news) z:=by
 rcases h with ⟨rfl,rfl,rfl⟩|⟨b,rfl,h2,h3,h4,h5,h6⟩
 ·exact .inr ⟨s.nx,rfl,by omega,by simp[hl],Cl.new s news,h1,by omega⟩
 ·exact .inr ⟨s.nx,rfl,by omega,by rw[Qak,h3,hl,Qbw],h4.ap news,h1,by omega⟩
theorem Cl.apO {s:St}{b c:Nat}{cs vs:List AV}(h:Cl s c cs)(hb:c≠b):Cl (Go.Sy.ap s b vs) c cs:=
 have e:jz (Go.Sy.ap s b vs).h c=jz s.h c:=jd9 (Qcl h.lt) hb
 ⟨Nat.lt_succ_of_lt h.lt,JG e h.row,(yU e).trans h.len,λi hi=>(yL e i).trans (h.cell i hi)⟩
theorem Cl.aps {c:Nat}{ds news:List AV}(C:Cl s c ds)(h:Lv lo hi s v n cs z)(hc:c<lo\/hi<=c):Cl (Go.Sy.aps v s news) c ds:=by
 rcases h with ⟨rfl,rfl,rfl⟩|⟨b,rfl,h2,h3,h4,h5,h6⟩
 ·exact C.nw news
 ·exact C.apO (b:=b) (by omega)
theorem Lv.aps {lo' hi' n' z':Nat}{v':AV}{cs' news:List AV}(V:Lv lo' hi' s v' n' cs' z')(h:Lv lo hi s v n cs z)(hc:hi'<=lo\/hi<=lo'):Lv lo' hi' (Go.Sy.aps v s news) v' n' cs' z':=
 V.imp id λ⟨c,h1,h2,h3,h4,h5,h6⟩=>⟨c,h1,h2,h3,h4.aps h (by omega),h5,h6⟩
theorem Lv.fz {m d:Nat}(h:Lv lo hi s v n cs z)(hm:m<=lo)(hp:cs.all pc=true):FzD m (d+2) s v (.lst n cs):=by
 rcases h with ⟨rfl,rfl,rfl⟩|⟨b,rfl,h2,h3,h4,h5,h6⟩
 ·exact FzD.nils
 ·refine FzD.slice h4.rw_ (QbJ h3.symm) (by omega) ?_;rw[<-h3,QaE];exact FzsD.pc hp
variable {K:AV->St->Prop}
theorem X7 {bytes bv xc:Nat}{xx:Bool}(h:Lv lo hi s v n cs z)(hz:0<z)(hby:(n+1) * bytes<=140737488355328)(h63:n+1<=9223372036854775807)(hv:z<=qC s.h bv) :
  jm (GS z bytes v (.slice bv 0 1 xc z xx) s) K=K (apv z v s) (aps v s (rats s.h bv 0 z)):=by
 obtain⟨m,zl,zz,ks,hg⟩:=YV (h:=s.h) (b:=bv) (by omega);rw[QR hg] at hv;have e0:Qat 1 z=z:=Nat.one_mul z;have e1:Qap (QaG 0 z) m=true:=yK (by show 0+z<=m;omega);have er:j9 zl zz ks z 0=rats s.h bv 0 z:=by
  rw[wX,qQ];exact Qby λi _=>by rw[ZD hg]
 have el:(rats s.h bv 0 z).length=z:=Xm _ _ _ _;have e3:Qas (jY (rats s.h bv 0 z)) z=true:=U4 (by rw[jZ,el]);rcases h with ⟨rfl,rfl,rfl⟩|⟨b,rfl,h2,h3,h4,h5,h6⟩
 ·have e4:Qas 1 0=false:=rfl;have e5:Qap (Qat 1 bytes) 140737488355328=true:=yK (by show 1 * bytes<=_;omega);have e6:Qap 1 9223372036854775807=true:=yK (by decide);simp only[GS,Yo,firstCells,hg,zw,jJ,e0,e1,cond_true,er,zg,e3,e4,cond_false,e5,e6,St.alloc_eq,jm];unfold apv Go.Sy.aps nw;rw[el]
 ·obtain⟨m',zl',zz',ks',hg'⟩:=h4.row;have h4l:=h4.len;rw[QR hg'] at h4l;have e4:Qap (QaG n 1) n=false:=jmz (Nat.lt_succ_self _);have e5:Qap (Qat (QaG n 1) bytes) 140737488355328=true:=yK hby;have e6:Qap (QaG n 1) 9223372036854775807=true:=yK h63;have e7:Qas z z=true:=U4 rfl;have e8:Qas 0 0=true:=rfl;have e9:Qas (Qat n z) m'=true:=U4 (by rw[h4l,h3];rfl);simp only[GS,Yo,firstCells,hg,zw,jJ,e0,e1,cond_true,er,zg,e3,hg',e4,cond_false,e5,e6,e7,e8,e9,St.put_eq,St.alloc_eq,jm];have e10:Qat (QaG n 1) z=m'+(rats s.h bv 0 z).length:=by rw[el,h4l,h3];exact Qbw n z
  rw[e10];have ea:ap s b (rats s.h bv 0 z)=⟨s.nx+1,(qj (jQ s.nx)).run (.row (m'+(rats s.h bv 0 z).length) zl' zz' (qB (rats s.h bv 0 z) ks' m')) ((qj (jQ b)).run .dead s.h),min s.dirty b,s.fr⟩:=by
   unfold ap apO;rw[hg']
  show _=K (.slice s.nx 0 (n+1) (n+1) z false) (ap s b (rats s.h bv 0 z));rw[ea]
theorem Lv.get (h:Lv lo hi s v n cs z)(st:St)(news:List AV)(c:Nat)(hc:c<lo\/hi<=c)(hn:c<st.nx):jz (Go.Sy.aps v st news).h c=jz st.h c:=by
 rcases h with ⟨rfl,rfl,rfl⟩|⟨b,rfl,h2,h3,h4,h5,h6⟩
 ·exact JQ (Qcl hn)
 ·exact jd9 (Qcl hn) (by omega)
theorem Lv.at (h:Lv lo hi s v n cs z)(st:St)(news:List AV)(c i:Nat)(hc:c<lo\/hi<=c)(hn:c<st.nx):rat (Go.Sy.aps v st news).h c i=rat st.h c i:=yL (h.get st news c hc hn) i
theorem Lv.ln (h:Lv lo hi s v n cs z)(st:St)(news:List AV)(c:Nat)(hc:c<lo\/hi<=c)(hn:c<st.nx):qC (Go.Sy.aps v st news).h c=qC st.h c:=yU (h.get st news c hc hn)
theorem Lv.rts (h:Lv lo hi s v n cs z)(st:St)(news:List AV)(c o k:Nat)(hc:c<lo\/hi<=c)(hn:c<st.nx):rats (Go.Sy.aps v st news).h c o k=rats st.h c o k:=ZY (h.get st news c hc hn) k o
theorem Lv.cl (h:Lv lo hi s v n cs z)(st:St)(news ds:List AV)(c:Nat)(hc:c<lo\/hi<=c)(hn:c<st.nx):Cl (Go.Sy.aps v st news) c ds=Cl st c ds:=
 propext ⟨λC=>have e:=h.get st news c hc hn;⟨hn,JG e.symm C.row,(yU e.symm).trans C.len,λi hi=>(yL e.symm i).trans (C.cell i hi)⟩,λC=>have e:=h.get st news c hc hn;⟨by rw[jj];exact Nat.lt_succ_of_lt hn,JG e C.row,(yU e).trans C.len,λi hi=>(yL e i).trans (C.cell i hi)⟩⟩
theorem Lv.put {news:List AV}(h:Lv lo hi s v n cs z)(hl:news.length=z)(h1:lo<=s.nx){m:Nat}(hm:m=s.nx+1):Lv lo m (Go.Sy.aps v s news) (apv z v s) (n+1) (cs ++ news) z:=by rw[hm];exact h.app hl h1
end
end Go.Sy
end
noncomputable section
namespace Go.Sy
open Go.Ev Go.RowKit
def kl (b:Nat)(s:St):St:=kills [b] s
section
variable {lo hi n z b c:Nat} {s:St} {v:AV} {cs:List AV}
theorem jk (b:Nat)(s:St):(kl b s).nx=s.nx:=nr rfl
theorem jaP (b:Nat)(s:St):(kl b s).fr=s.fr:=nr rfl
theorem vD (h:c≠b):jz (kl b s).h c=jz s.h c:=by
 show jz ((qj (jQ b)).run .dead s.h) c=_;rw[qc,if_neg h]
theorem jaW {i:Nat}(h:c≠b):rat (kl b s).h c i=rat s.h c i:=yL (vD h) i
theorem u4 (h:c≠b):qC (kl b s).h c=qC s.h c:=yU (vD h)
theorem wW {o k:Nat}(h:c≠b):rats (kl b s).h c o k=rats s.h c o k:=ZY (vD h) _ _
theorem jN (h:c≠b):Cl (kl b s) c cs=Cl s c cs:=
 propext ⟨λC=>have e:=vD (s:=s) h;⟨C.lt,JG e.symm C.row,(yU e.symm).trans C.len,λi hi=>(yL e.symm i).trans (C.cell i hi)⟩,λC=>have e:=vD (s:=s) h;⟨C.lt,JG e C.row,(yU e).trans C.len,λi hi=>(yL e i).trans (C.cell i hi)⟩⟩
theorem jH (h:b<lo\/hi<=b):Lv lo hi (kl b s) v n cs z=Lv lo hi s v n cs z:=by
 unfold Lv;refine propext ⟨λk=>k.imp id λ⟨c,h1,h2,h3,h4,h5,h6⟩=>⟨c,h1,h2,h3,?_,h5,h6⟩,λk=>k.imp id λ⟨c,h1,h2,h3,h4,h5,h6⟩=>⟨c,h1,h2,h3,?_,h5,h6⟩⟩
 ·rwa [jN (by omega)] at h4
 ·rwa [jN (by omega)]
theorem Qr (h0:0<cs.length)(h1:b<s.nx)(h2:qC s.h b=cs.length)(h3:rats s.h b 0 cs.length=cs):Cl s b cs:=Cl.of_rats h1 h2 rfl h0 h3
def df (x:FuncId×List AV)(s:St):St:=⟨s.nx,s.h,s.dirty,x :: s.fr⟩
theorem v8 (x:FuncId×List AV)(s:St):(df x s).nx=s.nx:=nr rfl
theorem Gz (x:FuncId×List AV)(s:St):(df x s).h=s.h:=nr rfl
theorem jaQ (x:FuncId×List AV)(s:St):(df x s).fr=x :: s.fr:=nr rfl
theorem wj (f:FuncId)(caps vs:List AV){K:AV->St->Prop}:Ua (.fn f caps) vs s K=K qo (df (f,vs ++ caps) s):=nr rfl
theorem jip:st0.fr=[]:=nr rfl
theorem jcj {m k:Nat}{x:Bool}{d:Nat}(C:Cl s b cs)(hl:n * z=cs.length)(hp:cs.all pc=true):fz (d+2) s.h (.slice b 0 n m z x)=some (.lst n cs,[b]):=by
 obtain⟨q,zl,zz,ct,h1,h2,h3⟩:=C.rw_.len;show(match jz s.h b with
  |some (.row n' zl z' cs)=>cond (Qap (QaG 0 (Qat n z)) n') ((fzs (fz (d+1) s.h) (j9 zl z' cs (Qat n z) 0)).map λ(p:List AV×List Nat)=>(AV.lst n p.1,b :: p.2)) none
  |_=>none)=_
 rw[h1];dsimp only;have e1:Qap (QaG 0 (Qat n z)) q=true:=by rw[qt];show 0+n * z<=q;omega
 have e2:j9 zl zz ct (Qat n z) 0=cs:=by
  rw[show Qat n z=q by show n * z=q;omega];exact h2
 rw[e1,e2,VS hp];rfl
def Fza (s:St)(aZ' aZ:List AV)(ks:List Nat):Prop:=fzs (fz 9 s.h) aZ'=some (aZ,ks)
theorem Fza.nil:Fza s [] [] []:=rfl
theorem Fza.pa {aZ' aZ:List AV}{ks:List Nat}(hv:pa v=true)(h:Fza s aZ' aZ ks):Fza s (v :: aZ') (v :: aZ) ks:=by
 unfold Fza at *;simp only[fzs];rw[jaM (d:=7) hv,h];rfl
theorem Fza.sl {aZ' aZ:List AV}{ks:List Nat}{m:Nat}{x:Bool}(C:Cl s b cs)(hl:n * z=cs.length)(hp:cs.all pc=true)(h:Fza s aZ' aZ ks):Fza s (.slice b 0 n m z x :: aZ') (.lst n cs :: aZ) (b :: ks):=by
 unfold Fza at *;simp only[fzs];rw[jcj (d:=7) (k:=0) C hl hp,h];rfl
variable {P:Program} {base:Bs}
theorem WE {f:FuncId}{F:XF}(hl:jE P f=some F)(hm:base.pur f=1){aZ:List AV}{o:Oc}
 (h:xC P base F.body (jp F.ps aZ) st0 (GM P base F.res (Xe G0 o) (Xb G0 o)) (VG P base F.res (Xe G0 o) (Xb G0 o))):PX P base f aZ o:=PX.of hm (jle hl h)
theorem PX.xf {f:FuncId}{aZ aZ':List AV}{ks:List Nat}{o:Oc}(h:PX P base f aZ o){st:St}(hf:Fza st aZ' aZ ks)(hb:∀ st,base.run f aZ' st=.no)(K Kp:AV->St->Prop):XB P base f aZ' st K Kp=YG o K Kp (kills ks st):=h.cxk hf hb K Kp
end
end Go.Sy
end
noncomputable section
namespace Go.Sy
open Go.Ev
theorem Cl.q {s:St}{b:Nat}{cs:List AV}(h:Cl s b cs):type_of% (aI h.len (aI h.cell h.ratsP)):=aI h.len (aI h.cell h.ratsP)
theorem Cl.r {s:St}{b:Nat}{cs:List AV}(h:Cl s b cs):type_of% (aI h.len h.ratsP):=aI h.len h.ratsP
end Go.Sy
end
noncomputable section
namespace Go.Sy
open Go.Ev
theorem rzA:type_of% (aI (@jd6) (aI (@jba) (aI (@H7) (aI (@jgu) (aI (@jgs) (aI (@H6) (aI (@Um) (aI (@jbc) (aI (@jls) (aI (@jbf) (aI (@H8) (aI (@Ul) (aI (@jdp) (aI (@jgv) (aI (@jbh) (aI (@jbg) (aI (@jgt) (aI (@jbe) (aI (@jbd) (aI (@jdn) (aI (@x_i) (aI (@jgw) (aI (@jlt) (aI (@jdo) (aI (@ja9) (aI (@ja8) (aI (@jgr) (aI (@wY) (aI (@Uz) (aI (@jdI) (aI (@G3) (aI (@GZ) (aI (@VD) (aI (@G2) (aI (@jpu) (aI (@jfg) (aI (@jfe) (aI (@jhv) (aI (@jff) (aI (@jhw) (aI (@jdK) (aI (@Gn) (aI (@UA) (aI (@jl0) (aI (@jlZ) (aI (@jdL) (aI (@jdM) (aI (@jhu) (aI (@jht) (aI (@jhA) (aI (@jhz) (aI (@jhy) (aI (@jhx) (aI (@HS) (aI (@HT) (aI (@HU) (aI (@jet) (@jes)))))))))))))))))))))))))))))))))))))))))))))))))))))))))):=aI (@jd6) (aI (@jba) (aI (@H7) (aI (@jgu) (aI (@jgs) (aI (@H6) (aI (@Um) (aI (@jbc) (aI (@jls) (aI (@jbf) (aI (@H8) (aI (@Ul) (aI (@jdp) (aI (@jgv) (aI (@jbh) (aI (@jbg) (aI (@jgt) (aI (@jbe) (aI (@jbd) (aI (@jdn) (aI (@x_i) (aI (@jgw) (aI (@jlt) (aI (@jdo) (aI (@ja9) (aI (@ja8) (aI (@jgr) (aI (@wY) (aI (@Uz) (aI (@jdI) (aI (@G3) (aI (@GZ) (aI (@VD) (aI (@G2) (aI (@jpu) (aI (@jfg) (aI (@jfe) (aI (@jhv) (aI (@jff) (aI (@jhw) (aI (@jdK) (aI (@Gn) (aI (@UA) (aI (@jl0) (aI (@jlZ) (aI (@jdL) (aI (@jdM) (aI (@jhu) (aI (@jht) (aI (@jhA) (aI (@jhz) (aI (@jhy) (aI (@jhx) (aI (@HS) (aI (@HT) (aI (@HU) (aI (@jet) (@jes)))))))))))))))))))))))))))))))))))))))))))))))))))))))))
theorem rzB:type_of% (aI (@jer) (aI (@jcV) (aI (@jpw) (aI (@jpv) (aI (@jks) (aI (@jkU) (aI (@jh9) (aI (@jml) (aI (@jmg) (aI (@jmf) (aI (@jpZ) (aI (@jia) (aI (@jaJ) (aI (@jmd) (aI (@jh4) (aI (@jpY) (aI (@jmk) (aI (@jmi) (aI (@jih) (aI (@jig) (aI (@jif) (aI (@jie) (aI (@jid) (aI (@jd4) (aI (@jmj) (aI (@jme) (aI (@jic) (aI (@jce) (aI (@jcd) (aI (@jcc) (aI (@jh7) (aI (@jh6) (aI (@jh5) (aI (@jcf) (aI (@Hv) (aI (@jmh) (aI (@jd5) (aI (@jmm) (aI (@jdv) (aI (@jii) (aI (@jh8) (aI (@jfC) (aI (@jmn) (aI (@joP) (aI (@jlB) (aI (@jeY) (aI (@jlG) (aI (@jlD) (aI (@jlH) (aI (@jlJ) (aI (@jlC) (aI (@jdt) (aI (@jbl) (aI (@jbm) (aI (@jgZ) (aI (@jgD) (aI (@jgM) (@jgL)))))))))))))))))))))))))))))))))))))))))))))))))))))))))):=aI (@jer) (aI (@jcV) (aI (@jpw) (aI (@jpv) (aI (@jks) (aI (@jkU) (aI (@jh9) (aI (@jml) (aI (@jmg) (aI (@jmf) (aI (@jpZ) (aI (@jia) (aI (@jaJ) (aI (@jmd) (aI (@jh4) (aI (@jpY) (aI (@jmk) (aI (@jmi) (aI (@jih) (aI (@jig) (aI (@jif) (aI (@jie) (aI (@jid) (aI (@jd4) (aI (@jmj) (aI (@jme) (aI (@jic) (aI (@jce) (aI (@jcd) (aI (@jcc) (aI (@jh7) (aI (@jh6) (aI (@jh5) (aI (@jcf) (aI (@Hv) (aI (@jmh) (aI (@jd5) (aI (@jmm) (aI (@jdv) (aI (@jii) (aI (@jh8) (aI (@jfC) (aI (@jmn) (aI (@joP) (aI (@jlB) (aI (@jeY) (aI (@jlG) (aI (@jlD) (aI (@jlH) (aI (@jlJ) (aI (@jlC) (aI (@jdt) (aI (@jbl) (aI (@jbm) (aI (@jgZ) (aI (@jgD) (aI (@jgM) (@jgL)))))))))))))))))))))))))))))))))))))))))))))))))))))))))
theorem rzC:type_of% (aI (@jgP) (aI (@jgO) (aI (@jgQ) (aI (@jeZ) (aI (@jbn) (aI (@jgR) (aI (@jgT) (aI (@jgS) (aI (@jlF) (aI (@jgV) (aI (@jdu) (aI (@jgK) (aI (@jlI) (aI (@jgU) (aI (@jdx) (aI (@jgX) (aI (@jgW) (aI (@jlE) (aI (@jgJ) (aI (@jdw) (aI (@jgI) (aI (@jgH) (aI (@jgG) (aI (@jeq) (aI (@jqI) (aI (@jqJ) (aI (@jiW) (aI (@gn) (aI (@gq) (aI (@jfn) (aI (@jfm) (aI (@jiI) (aI (@jhG) (aI (@jgj) (aI (@jmE) (aI (@jqR) (aI (@jgk) (aI (@ZC) (aI (@ZB) (aI (@wV) (aI (@ZA) (aI (@Zu) (aI (@Zz) (aI (@jaW) (aI (@u4) (aI (@wW) (aI (@v8) (aI (@Gz) (aI (@jaQ) (aI (@jaP) (aI (@Wa) (aI (@jj) (aI (@jk) (aI (@Zt) (aI (@Y4) (aI (@ZK) (aI (@wn) (@wm)))))))))))))))))))))))))))))))))))))))))))))))))))))))))):=aI (@jgP) (aI (@jgO) (aI (@jgQ) (aI (@jeZ) (aI (@jbn) (aI (@jgR) (aI (@jgT) (aI (@jgS) (aI (@jlF) (aI (@jgV) (aI (@jdu) (aI (@jgK) (aI (@jlI) (aI (@jgU) (aI (@jdx) (aI (@jgX) (aI (@jgW) (aI (@jlE) (aI (@jgJ) (aI (@jdw) (aI (@jgI) (aI (@jgH) (aI (@jgG) (aI (@jeq) (aI (@jqI) (aI (@jqJ) (aI (@jiW) (aI (@gn) (aI (@gq) (aI (@jfn) (aI (@jfm) (aI (@jiI) (aI (@jhG) (aI (@jgj) (aI (@jmE) (aI (@jqR) (aI (@jgk) (aI (@ZC) (aI (@ZB) (aI (@wV) (aI (@ZA) (aI (@Zu) (aI (@Zz) (aI (@jaW) (aI (@u4) (aI (@wW) (aI (@v8) (aI (@Gz) (aI (@jaQ) (aI (@jaP) (aI (@Wa) (aI (@jj) (aI (@jk) (aI (@Zt) (aI (@Y4) (aI (@ZK) (aI (@wn) (@wm)))))))))))))))))))))))))))))))))))))))))))))))))))))))))
theorem rzD:type_of% (aI (@jg) (aI (@jh) (aI (@jj) (aI (@ji) (aI (@u7) (aI (@wZ) (aI (@XW) (aI (@Xt) (aI (@gO) (aI (@vN) (aI (@U6) (aI (@gM) (aI (@gN) (aI (@Z6) (aI (@YZ) (aI (@uo) (aI (@uj) (aI (@wM) (aI (@ZU) (aI (@wL) (aI (@ul) (aI (@um) (aI (@jc2) (aI (@jc1) (aI (@jlj) (aI (@jgl) (aI (@jaY) (aI (@KK) (aI (@Uy) (aI (@jlY) (aI (@jlX) (aI (@jaO) (aI (@jaN) (aI (@jeb) (aI (@yw) (aI (@jhs) (aI (@jdJ) (aI (@h_0) (aI (@h_1) (aI (@jp3) (aI (@jp2) (aI (@jp5) (aI (@jp4) (aI (@jpM) (aI (@jpL) (aI (@jo6) (aI (@jo5) (aI (@jo4) (aI (@joO) (aI (@joM) (aI (@jlw) (aI (@joN) (aI (@jlx) (aI (@jhm) (aI (@Ge) (aI (@Gd) (aI (@GO) (@jqo)))))))))))))))))))))))))))))))))))))))))))))))))))))))))):=aI (@jg) (aI (@jh) (aI (@jj) (aI (@ji) (aI (@u7) (aI (@wZ) (aI (@XW) (aI (@Xt) (aI (@gO) (aI (@vN) (aI (@U6) (aI (@gM) (aI (@gN) (aI (@Z6) (aI (@YZ) (aI (@uo) (aI (@uj) (aI (@wM) (aI (@ZU) (aI (@wL) (aI (@ul) (aI (@um) (aI (@jc2) (aI (@jc1) (aI (@jlj) (aI (@jgl) (aI (@jaY) (aI (@KK) (aI (@Uy) (aI (@jlY) (aI (@jlX) (aI (@jaO) (aI (@jaN) (aI (@jeb) (aI (@yw) (aI (@jhs) (aI (@jdJ) (aI (@h_0) (aI (@h_1) (aI (@jp3) (aI (@jp2) (aI (@jp5) (aI (@jp4) (aI (@jpM) (aI (@jpL) (aI (@jo6) (aI (@jo5) (aI (@jo4) (aI (@joO) (aI (@joM) (aI (@jlw) (aI (@joN) (aI (@jlx) (aI (@jhm) (aI (@Ge) (aI (@Gd) (aI (@GO) (@jqo)))))))))))))))))))))))))))))))))))))))))))))))))))))))))
theorem rzL:type_of% (aI (@v8) (aI (@Gz) (aI (@jg) (aI (@jh) (aI (@jj) (aI (@jk) (aI (@ji) (aI (@u7) (aI (@yw) (aI (@u4) (aI (@wZ) (aI (@XW) (aI (@Xt) (aI (@ZC) (aI (@ZB) (aI (@wV) (aI (@ZA) (aI (@Zu) (aI (@Zz) (aI (@wW) (aI (@Zt) (aI (@Y4) (aI (@ZK) (aI (@wn) (aI (@wm) (aI (@GO) (aI (@Gd) (@Ge)))))))))))))))))))))))))))):=aI (@v8) (aI (@Gz) (aI (@jg) (aI (@jh) (aI (@jj) (aI (@jk) (aI (@ji) (aI (@u7) (aI (@yw) (aI (@u4) (aI (@wZ) (aI (@XW) (aI (@Xt) (aI (@ZC) (aI (@ZB) (aI (@wV) (aI (@ZA) (aI (@Zu) (aI (@Zz) (aI (@wW) (aI (@Zt) (aI (@Y4) (aI (@ZK) (aI (@wn) (aI (@wm) (aI (@GO) (aI (@Gd) (@Ge)))))))))))))))))))))))))))
theorem rzN:type_of% (aI (@jg) (aI (@jh) (aI (@jj) (aI (@jk) (aI (@ji) (aI (@yw) (aI (@v8) (aI (@jaO) (aI (@jaN) (aI (@jaQ) (aI (@jaP) (aI (@Wa) (@jip))))))))))))):=aI (@jg) (aI (@jh) (aI (@jj) (aI (@jk) (aI (@ji) (aI (@yw) (aI (@v8) (aI (@jaO) (aI (@jaN) (aI (@jaQ) (aI (@jaP) (aI (@Wa) (@jip))))))))))))
theorem rzG:type_of% (aI (@v8) (aI (@Gz) (aI (@ZC) (aI (@ZB) (aI (@wV) (aI (@ZA) (aI (@Zu) (aI (@Zz) (aI (@wW) (aI (@GO) (aI (@Gd) (aI (@Ge) (aI (@gO) (aI (@vN) (aI (@U6) (aI (@gM) (aI (@gN) (aI (@Z6) (aI (@jaW) (aI (@jg) (aI (@jh) (aI (@jj) (aI (@jk) (aI (@u4) (aI (@ji) (aI (@u7) (aI (@yw) (aI (@wZ) (aI (@XW) (aI (@Xt) (aI (@YZ) (aI (@uo) (aI (@uj) (aI (@wM) (aI (@ZU) (aI (@wL) (aI (@ul) (aI (@um) (aI (@jb8) (aI (@jb4) (aI (@Hq) (aI (@gb) (aI (@Hp) (aI (@jb5) (aI (@jb7) (aI (@jb6) (aI (@G8) (aI (@G5) (aI (@KP) (aI (@ki) (aI (@KO) (aI (@G6) (aI (@G7) (aI (@G9) (aI (@KK) (aI (@Uy) (aI (@ZK) (aI (@wn) (aI (@Y4) (@wm)))))))))))))))))))))))))))))))))))))))))))))))))))))))))))):=aI (@v8) (aI (@Gz) (aI (@ZC) (aI (@ZB) (aI (@wV) (aI (@ZA) (aI (@Zu) (aI (@Zz) (aI (@wW) (aI (@GO) (aI (@Gd) (aI (@Ge) (aI (@gO) (aI (@vN) (aI (@U6) (aI (@gM) (aI (@gN) (aI (@Z6) (aI (@jaW) (aI (@jg) (aI (@jh) (aI (@jj) (aI (@jk) (aI (@u4) (aI (@ji) (aI (@u7) (aI (@yw) (aI (@wZ) (aI (@XW) (aI (@Xt) (aI (@YZ) (aI (@uo) (aI (@uj) (aI (@wM) (aI (@ZU) (aI (@wL) (aI (@ul) (aI (@um) (aI (@jb8) (aI (@jb4) (aI (@Hq) (aI (@gb) (aI (@Hp) (aI (@jb5) (aI (@jb7) (aI (@jb6) (aI (@G8) (aI (@G5) (aI (@KP) (aI (@ki) (aI (@KO) (aI (@G6) (aI (@G7) (aI (@G9) (aI (@KK) (aI (@Uy) (aI (@ZK) (aI (@wn) (aI (@Y4) (@wm)))))))))))))))))))))))))))))))))))))))))))))))))))))))))))
theorem rzP:type_of% (aI (@QaM) (aI (@Qcj) (aI (@Nat.mul_one) (aI (@Qbv) (aI (@Nat.one_mul) (aI (@Int.toNat_natCast) (aI (@Int.toNat_zero) (aI (@Int.toNat_one) (aI (@true_and) (aI (@and_true) (aI (@and_self) (aI (@Bool.not_true) (aI (@Bool.not_false) (aI (@QaR) (aI (@Qbb) (aI (@decide_eq_true_eq) (aI (@decide_eq_false_iff_not) (aI (@Nat.beq_eq) (@not_false_eq_true))))))))))))))))))):=aI (@QaM) (aI (@Qcj) (aI (@Nat.mul_one) (aI (@Qbv) (aI (@Nat.one_mul) (aI (@Int.toNat_natCast) (aI (@Int.toNat_zero) (aI (@Int.toNat_one) (aI (@true_and) (aI (@and_true) (aI (@and_self) (aI (@Bool.not_true) (aI (@Bool.not_false) (aI (@QaR) (aI (@Qbb) (aI (@decide_eq_true_eq) (aI (@decide_eq_false_iff_not) (aI (@Nat.beq_eq) (@not_false_eq_true))))))))))))))))))
end Go.Sy
end
noncomputable section
namespace Go.Sy
open Go.Ev
theorem rzQ:type_of% (aI (@eq_self.{1}) (aI (@Qag.{0}) (aI (@Qah.{0}) (aI (@Qaj.{0}) (aI (@Qan.{0}) (aI (@Qaw.{0}) (aI (@QaF.{0}) (aI (@Qbf.{0}) (aI (@cond_true.{1}) (aI (@cond_false.{1}) (@ne_eq.{1}))))))))))):=aI (@eq_self.{1}) (aI (@Qag.{0}) (aI (@Qah.{0}) (aI (@Qaj.{0}) (aI (@Qan.{0}) (aI (@Qaw.{0}) (aI (@QaF.{0}) (aI (@Qbf.{0}) (aI (@cond_true.{1}) (aI (@cond_false.{1}) (@ne_eq.{1}))))))))))
theorem rzZ:type_of% (aI (@rzA) (aI (@rzB) (aI (@rzC) (aI (@rzD) (aI (@rzP) (@rzQ)))))):=aI (@rzA) (aI (@rzB) (aI (@rzC) (aI (@rzD) (aI (@rzP) (@rzQ)))))
instance iA (n:Nat):OfNat A n:=⟨.t n⟩
theorem nA (n:Nat):(@OfNat.ofNat A n (iA n))=A.t (@OfNat.ofNat Nat n _):=rfl
def Ty(a:Nat)(b:Bool)(c:Option (Nat×Bool))(d:XK):XS:=⟨some a,b,c,d⟩
def Tz(a:Nat)(b:Bool)(c:Option (Nat×Bool))(d:Ins):XS:=Ty a b c (.i d)
def TA(a:Nat)(b:Bool)(c:Ins):XS:=Tz a b none c
def TB(a:Nat)(b:Ins):XS:=TA a false b
def TC(a:Int):AV:=.int .i64 a
def TD(a:List XS)(b:XC):XC:=.seq (.ops a) b
def TF(a:Nat)(b:Ins):XS:=TA a true b
def TG(a:Nat)(b:A):XS:=TF a (.mv b)
def TH(a:Nat)(b:A):XS:=TB a (.mv b)
def TI:AV:=TC 0
def TJ(a:Nat)(b:Bool)(c:Nat×Bool)(d:Ins):XS:=Tz a b (some c) d
def TK(a:Nat)(b:Nat)(c:A):XS:=TB a (.fad b c)
def TM(a:Nat)(b:Nat×Bool)(c:Ins):XS:=TJ a false b c
def TN:AV:=.str []
def TO(a:Nat)(b:A):XS:=TB a (.ld1 b)
def TQ(a:Nat)(b:Bool)(c:Option (Nat×Bool))(d:A)(e:List A):XS:=Ty a b c (.call d e)
def TR(a:BinOp)(b:A)(c:AV):Ins:=.bin a b (.c c)
def TS(a:Option Nat)(b:Option (Nat×Bool))(c:XK):XS:=⟨a,false,b,c⟩
def TT(a:Bool):A:=.c (.bool a)
def TU(a:XS)(b:Nat)(c:List (Nat×Nat)):XD:=⟨a,none,b,c⟩
def TV(a:XS)(b:Option A)(c:Nat)(d:List (Nat×Nat)):XD:=⟨a,some b,c,d⟩
def TW(a:List XS)(b:A)(c:XC)(d:XC):XC:=TD a (.cond b c d)
def TY(a:Nat)(b:List AV):A:=.c (.fn a b)
def TZ(a:Nat)(b:Option (Nat×Bool))(c:A)(d:List A):XS:=TQ a false b c d
def T0(a:Nat)(b:A)(c:A):XK:=.i (.st a b c)
def T4(a:Nat)(b:Nat)(c:A):XS:=TB a (.ldA b c)
def T5(a:List Nat):A:=.c (.str a)
def T6(a:Option (Nat×Bool))(b:XK):XS:=TS none a b
def T7(a:XK):XS:=T6 none a
def T8(a:Nat)(b:Option (Nat×Bool))(c:Nat)(d:List AV)(e:List A):XS:=TZ a b (TY c d) e
def T9(a:Nat)(b:A)(c:A):XS:=T7 (T0 a b c)
def La(a:Nat)(b:List AV):XS:=TF a (.alloc b)
def Lb(a:List XS)(b:XC)(c:XC):XC:=TD a (.seq b c)
def Lc(a:Nat)(b:Nat)(c:List AV)(d:List A):XS:=T8 a none b c d
def Ld:A:=TT false
def Lf(a:BinOp)(b:A)(c:Int):Ins:=TR a b (TC c)
def Lg(a:List XS):XC:=TD a .ret
def Lh(a:Nat):Nat×Bool:=(a,false)
def Li(a:Nat)(b:Nat)(c:Ins):XS:=TM a (Lh b) c
def Lj(a:XS)(b:Nat):XD:=TU a b []
def Lk(a:Nat)(b:AV):XS:=TG a (.c b)
def Ll(a:XS)(b:A)(c:Nat)(d:List (Nat×Nat)):XD:=TV a (some b) c d
def Lm(a:List XS)(b:A)(c:XC):XC:=TW a b c .skip
def Ln(a:Nat)(b:XC):XC:=.block a (.loop b)
def Lo(a:Nat)(b:BinOp)(c:A)(d:Int):XS:=TB a (Lf b c d)
def Lp(a:XD):XD×(Option (List XD)):=(a,none)
def Lq(a:XS)(b:Nat):XD×(Option (List XD)):=Lp (Lj a b)
def Ls:A:=TT true
def Lt(a:Nat)(b:Nat)(c:List A):XS:=Lc a b [] c
def Lu(a:Nat)(b:Nat)(c:A)(d:A):XS:=TB a (.idxS b c d)
def Ly(a:Nat)(b:A)(c:Nat):XS:=TB a (.ext b c)
def Lz(a:Nat)(b:XC)(c:XC):XC:=.seq (.block a b) c
def LA(a:Nat)(b:BinOp)(c:A)(d:A):XS:=TB a (.strb b c d)
def LB(a:XS):XS×(Option (List XD)):=(a,none)
def LC(a:A)(b:XC)(c:Nat):XC:=.cond a b (.exit c)
def LD(a:Nat)(b:List AV)(c:List ((Nat×Nat)×A)):XS:=TB a (.build b c)
def LE(a:Nat)(b:A)(c:A)(d:A):XS:=TB a (.pick b c d)
def LG(a:Nat)(b:Nat)(c:Nat)(d:A):XS:=Li a b (.fad c d)
def LH(a:XS)(b:Nat)(c:List (Nat×Nat)):XD:=TV a none b c
def LI(a:Nat)(b:Nat)(c:A):XS:=Li a b (.ld1 c)
def LJ(a:Nat)(b:Nat)(c:Nat)(d:List AV)(e:List ((Nat×Nat)×A)):XS:=TB a (.buildS b c d e)
def LK(a:XS)(b:A)(c:Nat)(d:List (Nat×Nat)):XD×(Option (List XD)):=Lp (Ll a b c d)
def LL(a:Nat)(b:A):XS:=TB a (.nilc b)
def LM:AV:=.tup []
def LN(a:List XS)(b:A)(c:List XS):XC:=Lm a b (Lg c)
def LO(a:XS):XD×(Option (List XD)):=Lq a 0
def LP(a:A)(b:A):Ins:=.bin .lss a b
def LQ(a:Nat):XS:=TH a 0
def LR(a:Int):A:=.c (TC a)
def LS(a:Nat)(b:XC)(c:List XS):XC:=Lz a b (.ops c)
def LU(a:Nat)(b:Nat)(c:A):XD×(Option (List XD)):=LO (TK a b c)
def LV(a:Nat)(b:A):XS:=TF a (.box b)
def LW(a:Nat)(b:A):XS:=TF a (.len b)
def LX(a:Nat)(b:A)(c:Int):XS:=Lo a .add b c
def LY(a:A)(b:Nat):XC:=LC a .skip b
def LZ(a:XS)(b:Nat)(c:A):List XS:=[a,TG b c]
def L4(a:Nat):Nat×Bool:=(a,true)
def L5(a:Nat)(b:Nat)(c:Ins):XS:=TM a (L4 b) c
def L6(a:Nat)(b:A)(c:A)(d:A):XS:=TF a (.pick b c d)
def L7(a:List XS)(b:Nat)(c:XC):XC:=TD a (Ln b c)
def L8(a:XS)(b:Nat)(c:List (Nat×Nat)):XD×(Option (List XD)):=Lp (LH a b c)
def L9(a:A):Ins:=.un .not a
def Pa(a:Nat)(b:A):XS:=TF a (.ld1 b)
def Pb(a:Nat):XS:=Lk a TI
def Pc(a:Nat)(b:A)(c:A):XS:=TF a (LP b c)
def Pd(a:Nat×Nat)(b:List Nat):(Nat×Nat)×A:=(a,T5 b)
def Pe(a:Nat)(b:Nat)(c:List Nat):(Nat×Nat)×A:=Pd (a,b) c
def Pf(a:Nat)(b:List Nat):(Nat×Nat)×A:=Pe a 1 b
def Pg:A:=.c LM
def Ph(a:Nat)(b:Nat)(c:A):XS:=Li a b (.mv c)
def Pi(a:Nat)(b:A)(c:A)(d:Nat)(e:List (Nat×Nat)):XD×(Option (List XD)):=LK (TO a b) c d e
def Pj(a:Nat)(b:A)(c:A)(d:Nat)(e:List (Nat×Nat)):XD×(Option (List XD)):=L8 (T9 a b c) d e
def Pk(a:Nat)(b:A)(c:Int)(d:Nat)(e:A):List XS:=LZ (LX a b c) d e
def Pl(a:Nat)(b:XC)(c:Nat)(d:A)(e:Int)(f:Nat)(g:A):XC:=LS a b (Pk c d e f g)
def Pm(a:List XS)(b:A)(c:Nat)(d:XC):XC:=Lb a (LY b c) d
def Pn(a:List XS)(b:A)(c:Nat)(d:Nat)(e:XC)(f:Nat)(g:A)(h:Int)(i:Nat)(j:A):XC:=Pm a b c (Pl d e f g h i j)
def Po(a:List XS)(b:Nat)(c:List XS)(d:A)(e:Nat)(f:Nat)(g:XC)(h:Nat)(i:A)(j:Int)(k:Nat)(l:A):XC:=L7 a b (Pn c d e f g h i j k l)
def Pp(a:XS)(b:Nat)(c:A)(d:A)(e:XC)(f:XC):XC:=TW (LZ a b c) d e f
def Pq(a:Nat)(b:BinOp)(c:A)(d:A):XS:=TB a (.bin b c d)
def Pr(a:Nat)(b:A)(c:Nat):XD:=Lj (TH a b) c
def Pv(a:List XS)(b:List XS)(c:A)(d:List XS)(e:XC):XC:=Lb a (LN b c d) e
def Pw(a:Nat)(b:Nat)(c:A):XS:=Lt a b [c]
def Px(a:Nat)(b:A)(c:Int):XS:=Lo a .eql b c
def Py(a:Nat)(b:Nat)(c:Nat)(d:A)(e:A):XS:=TB a (.idxA b c d e)
def Pz(a:List (XD×(Option (List XD))))(b:XC):XC:=.seq (.dops a) b
def PB:Option (List XD):=some []
def PC(a:Nat)(b:A):XS:=TK a 0 b
def PD(a:Nat)(b:A):XS:=TB a (.len b)
def PE(a:Nat)(b:Nat×Bool)(c:Nat)(d:List AV)(e:List A):XS:=T8 a (some b) c d e
def PG(a:Nat)(b:A)(c:A):XS:=LA a .add b c
def PH(a:Nat):XS:=TG a Ld
def PJ(a:Nat)(b:Nat):(Nat×Nat)×A:=Pf a [b]
def PK(a:AV)(b:AV)(c:AV)(d:AV)(e:AV):List AV:=[a,b,c,.nils,d,e]
def PN(a:Nat)(b:AV)(c:AV)(d:AV)(e:AV)(f:AV):XS:=La a (PK b c d e f)
def PO(a:Nat)(b:Nat)(c:A):XS:=L5 a b (.mv c)
def PP(a:List XS)(b:Nat)(c:List XS)(d:A)(e:Nat)(f:Nat)(g:List XS)(h:XC)(i:Nat)(j:A)(k:Int)(l:Nat)(m:A):XC:=Po a b c d e f (TD g h) i j k l m
def PQ(a:List XS)(b:List XS):XC:=TD a (Lg b)
def PS:A:=.c TI
def PT(a:Nat)(b:A):XS:=T4 a 6 b
def PU(a:List XS)(b:A)(c:List XS):XC:=Lm a b (.ops c)
def PV(a:Nat)(b:Nat)(c:A):XS:=Li a b (.len c)
def PW(a:Nat)(b:Int):XS:=Lk a (TC b)
def PY(a:XS)(b:Nat)(c:A)(d:A)(e:XC):XC:=Pp a b c d .skip e
def PZ(a:Nat)(b:Nat)(c:A)(d:A):XS:=Lt a b [c,d]
def P3(a:List XS)(b:XC)(c:List XS):XC:=Lb a b (Lg c)
def P4(a:Nat)(b:A):XS×(Option (List XD)):=LB (TO a b)
def P5(a:Nat)(b:BinOp)(c:A)(d:Int):XS:=TF a (Lf b c d)
def P6(a:Nat)(b:A):XS:=TK a 1 b
def P7(a:A):XS:=TG 2 a
def P8(a:Nat)(b:Nat)(c:Nat)(d:A):XS:=L5 a b (.fad c d)
def P9(a:Nat)(b:Nat)(c:A):XS:=L5 a b (.ld1 c)
def Ea(a:Nat)(b:A)(c:A):XS:=LA a .eql b c
def Eb(a:Nat)(b:Nat):XD:=Pr a Pg b
def Ec:XS:=PH 4
def Ed:A:=LR 1
def Ee(a:Nat)(b:Nat)(c:BinOp)(d:A)(e:Int):XS:=Li a b (Lf c d e)
def Ef(a:Nat)(b:A):XS×(Option (List XD)):=LB (TH a b)
def Eg(a:BinOp)(b:A):Ins:=TR a b TI
def Eh(a:A)(b:List XS)(c:XC):XC:=.cond a (Lg b) c
def Ei(a:Nat)(b:AV)(c:AV)(d:AV)(e:AV):XS:=PN a TI b c d e
def Ej(a:Nat)(b:AV)(c:AV)(d:AV):XS:=Ei a TI b c d
def Ek(a:Nat)(b:AV)(c:AV):XS:=Ej a TN b c
def El(a:Nat)(b:AV):XS:=Ek a TI b
def Em(a:Nat):XS:=El a TI
def Eo(a:Nat)(b:Nat)(c:BinOp)(d:A)(e:A):XS:=Li a b (.bin c d e)
def Ep(a:List XS)(b:List XS)(c:XC):XC:=TD a (TD b c)
def Es(a:List XS)(b:Nat)(c:List XS)(d:A)(e:Nat)(f:Nat)(g:List XS)(h:XC)(i:Nat)(j:A)(k:Int)(l:Nat)(m:A)(n:XC):XC:=.seq (PP a b c d e f g h i j k l m) n
def Et(a:Nat)(b:Nat)(c:Nat)(d:A):XS:=L5 a b (.ldA c d)
def Eu(a:BinOp)(b:A)(c:IntKind)(d:Int):Ins:=TR a b (.int c d)
def Ew(a:Nat)(b:A):XS:=TK a 3 b
def Ey(a:Nat)(b:A)(c:A)(d:Nat):XD×(Option (List XD)):=Pi a b c d []
def Ez(a:Nat)(b:Nat)(c:A)(d:Nat)(e:List (Nat×Nat)):XD:=LH (Pw a b c) d e
def EA(a:Nat):XS:=TH a 4
def EB(a:A):XS:=TG 4 a
def EC(a:Nat)(b:A)(c:Nat)(d:A):List XS:=LZ (TH a b) c d
def ED(a:Nat)(b:A):XS:=TF a (L9 b)
def EE(a:Nat)(b:A)(c:List Nat):XS:=Ea a b (T5 c)
def EG(a:Nat)(b:A)(c:A):XS:=LE a b Ls c
def EH(a:Nat)(b:A)(c:Int)(d:Nat)(e:A)(f:A)(g:XC)(h:XC):XC:=Pp (Px a b c) d e f g h
def EI(a:XS)(b:A)(c:Nat):XD×(Option (List XD)):=LK a b c []
def EJ(a:A)(b:A):XS:=T9 6 a b
def EM(a:Nat)(b:A)(c:A)(d:List (Nat×Nat)):XD×(Option (List XD)):=Pj a b c 0 d
def EN(a:Nat)(b:A)(c:A):List XS:=[Pc a b c]
def EO(a:List XS)(b:Nat)(c:Nat)(d:A)(e:A)(f:A)(g:Nat)(h:Nat)(i:List XS)(j:XC)(k:Nat)(l:A)(m:Int)(n:Nat)(p:A):XC:=PP a b (EN c d e) f g h i j k l m n p
def EQ(a:Nat)(b:BinOp)(c:A):XS:=TF a (Eg b c)
def ES(a:Nat)(b:Nat)(c:Nat)(d:A)(e:A):XS:=TB a (.app b c d e)
def ET(a:BinOp)(b:Nat)(c:A)(d:A):Ins:=.gen a b false c d
def EU(a:Nat)(b:BinOp)(c:A):XS:=TB a (Eg b c)
def EV(a:Nat)(b:A)(c:Int)(d:Nat)(e:A)(f:A)(g:List XS)(h:XC):XC:=EH a b c d e f (Lg g) h
def EW(a:Nat):XS×(Option (List XD)):=LB (LQ a)
theorem qq:type_of% (aI @nA (aI @Ty.eq_1 (aI @Tz.eq_1 (aI @TA.eq_1 (aI @TB.eq_1 (aI @TC.eq_1 (aI @TD.eq_1 (aI @TF.eq_1 (aI @TG.eq_1 (aI @TH.eq_1 (aI @TI.eq_1 (aI @TJ.eq_1 (aI @TK.eq_1 (aI @TM.eq_1 (aI @TN.eq_1 (aI @TO.eq_1 (aI @TQ.eq_1 (aI @TR.eq_1 (aI @TS.eq_1 (aI @TT.eq_1 (aI @TU.eq_1 (aI @TV.eq_1 (aI @TW.eq_1 (aI @TY.eq_1 (aI @TZ.eq_1 (aI @T0.eq_1 (aI @T4.eq_1 (aI @T5.eq_1 (aI @T6.eq_1 (aI @T7.eq_1 (aI @T8.eq_1 (aI @T9.eq_1 (aI @La.eq_1 (aI @Lb.eq_1 (aI @Lc.eq_1 (aI @Ld.eq_1 (aI @Lf.eq_1 (aI @Lg.eq_1 (aI @Lh.eq_1 (aI @Li.eq_1 (aI @Lj.eq_1 (aI @Lk.eq_1 (aI @Ll.eq_1 (aI @Lm.eq_1 (aI @Ln.eq_1 (aI @Lo.eq_1 (aI @Lp.eq_1 (aI @Lq.eq_1 (aI @Ls.eq_1 (aI @Lt.eq_1 (aI @Lu.eq_1 (aI @Ly.eq_1 (aI @Lz.eq_1 (aI @LA.eq_1 (aI @LB.eq_1 (aI @LC.eq_1 (aI @LD.eq_1 (aI @LE.eq_1 (aI @LG.eq_1 (aI @LH.eq_1 (aI @LI.eq_1 (aI @LJ.eq_1 (aI @LK.eq_1 (aI @LL.eq_1 (aI @LM.eq_1 (aI @LN.eq_1 (aI @LO.eq_1 (aI @LP.eq_1 (aI @LQ.eq_1 (aI @LR.eq_1 (aI @LS.eq_1 (aI @LU.eq_1 (aI @LV.eq_1 (aI @LW.eq_1 (aI @LX.eq_1 (aI @LY.eq_1 (aI @LZ.eq_1 (aI @L4.eq_1 (aI @L5.eq_1 (aI @L6.eq_1 (aI @L7.eq_1 (aI @L8.eq_1 (aI @L9.eq_1 (aI @Pa.eq_1 (aI @Pb.eq_1 (aI @Pc.eq_1 (aI @Pd.eq_1 (aI @Pe.eq_1 (aI @Pf.eq_1 (aI @Pg.eq_1 (aI @Ph.eq_1 (aI @Pi.eq_1 (aI @Pj.eq_1 (aI @Pk.eq_1 (aI @Pl.eq_1 (aI @Pm.eq_1 (aI @Pn.eq_1 (aI @Po.eq_1 (aI @Pp.eq_1 (aI @Pq.eq_1 (aI @Pr.eq_1 (aI @Pv.eq_1 (aI @Pw.eq_1 (aI @Px.eq_1 (aI @Py.eq_1 (aI @Pz.eq_1 (aI @PB.eq_1 (aI @PC.eq_1 (aI @PD.eq_1 (aI @PE.eq_1 (aI @PG.eq_1 (aI @PH.eq_1 (aI @PJ.eq_1 (aI @PK.eq_1 (aI @PN.eq_1 (aI @PO.eq_1 (aI @PP.eq_1 (aI @PQ.eq_1 (aI @PS.eq_1 (aI @PT.eq_1 (aI @PU.eq_1 (aI @PV.eq_1 (aI @PW.eq_1 (aI @PY.eq_1 (aI @PZ.eq_1 (aI @P3.eq_1 (aI @P4.eq_1 (aI @P5.eq_1 (aI @P6.eq_1 (aI @P7.eq_1 (aI @P8.eq_1 (aI @P9.eq_1 (aI @Ea.eq_1 (aI @Eb.eq_1 (aI @Ec.eq_1 (aI @Ed.eq_1 (aI @Ee.eq_1 (aI @Ef.eq_1 (aI @Eg.eq_1 (aI @Eh.eq_1 (aI @Ei.eq_1 (aI @Ej.eq_1 (aI @Ek.eq_1 (aI @El.eq_1 (aI @Em.eq_1 (aI @Eo.eq_1 (aI @Ep.eq_1 (aI @Es.eq_1 (aI @Et.eq_1 (aI @Eu.eq_1 (aI @Ew.eq_1 (aI @Ey.eq_1 (aI @Ez.eq_1 (aI @EA.eq_1 (aI @EB.eq_1 (aI @EC.eq_1 (aI @ED.eq_1 (aI @EE.eq_1 (aI @EG.eq_1 (aI @EH.eq_1 (aI @EI.eq_1 (aI @EJ.eq_1 (aI @EM.eq_1 (aI @EN.eq_1 (aI @EO.eq_1 (aI @EQ.eq_1 (aI @ES.eq_1 (aI @ET.eq_1 (aI @EU.eq_1 (aI @EV.eq_1 @EW.eq_1)))))))))))))))))))))))))))))))))))))))))))))))))))))))))))))))))))))))))))))))))))))))))))))))))))))))))))))))))))))))))))))))))))))))))))))))))))))))))))))))))))))))))):=aI @nA (aI @Ty.eq_1 (aI @Tz.eq_1 (aI @TA.eq_1 (aI @TB.eq_1 (aI @TC.eq_1 (aI @TD.eq_1 (aI @TF.eq_1 (aI @TG.eq_1 (aI @TH.eq_1 (aI @TI.eq_1 (aI @TJ.eq_1 (aI @TK.eq_1 (aI @TM.eq_1 (aI @TN.eq_1 (aI @TO.eq_1 (aI @TQ.eq_1 (aI @TR.eq_1 (aI @TS.eq_1 (aI @TT.eq_1 (aI @TU.eq_1 (aI @TV.eq_1 (aI @TW.eq_1 (aI @TY.eq_1 (aI @TZ.eq_1 (aI @T0.eq_1 (aI @T4.eq_1 (aI @T5.eq_1 (aI @T6.eq_1 (aI @T7.eq_1 (aI @T8.eq_1 (aI @T9.eq_1 (aI @La.eq_1 (aI @Lb.eq_1 (aI @Lc.eq_1 (aI @Ld.eq_1 (aI @Lf.eq_1 (aI @Lg.eq_1 (aI @Lh.eq_1 (aI @Li.eq_1 (aI @Lj.eq_1 (aI @Lk.eq_1 (aI @Ll.eq_1 (aI @Lm.eq_1 (aI @Ln.eq_1 (aI @Lo.eq_1 (aI @Lp.eq_1 (aI @Lq.eq_1 (aI @Ls.eq_1 (aI @Lt.eq_1 (aI @Lu.eq_1 (aI @Ly.eq_1 (aI @Lz.eq_1 (aI @LA.eq_1 (aI @LB.eq_1 (aI @LC.eq_1 (aI @LD.eq_1 (aI @LE.eq_1 (aI @LG.eq_1 (aI @LH.eq_1 (aI @LI.eq_1 (aI @LJ.eq_1 (aI @LK.eq_1 (aI @LL.eq_1 (aI @LM.eq_1 (aI @LN.eq_1 (aI @LO.eq_1 (aI @LP.eq_1 (aI @LQ.eq_1 (aI @LR.eq_1 (aI @LS.eq_1 (aI @LU.eq_1 (aI @LV.eq_1 (aI @LW.eq_1 (aI @LX.eq_1 (aI @LY.eq_1 (aI @LZ.eq_1 (aI @L4.eq_1 (aI @L5.eq_1 (aI @L6.eq_1 (aI @L7.eq_1 (aI @L8.eq_1 (aI @L9.eq_1 (aI @Pa.eq_1 (aI @Pb.eq_1 (aI @Pc.eq_1 (aI @Pd.eq_1 (aI @Pe.eq_1 (aI @Pf.eq_1 (aI @Pg.eq_1 (aI @Ph.eq_1 (aI @Pi.eq_1 (aI @Pj.eq_1 (aI @Pk.eq_1 (aI @Pl.eq_1 (aI @Pm.eq_1 (aI @Pn.eq_1 (aI @Po.eq_1 (aI @Pp.eq_1 (aI @Pq.eq_1 (aI @Pr.eq_1 (aI @Pv.eq_1 (aI @Pw.eq_1 (aI @Px.eq_1 (aI @Py.eq_1 (aI @Pz.eq_1 (aI @PB.eq_1 (aI @PC.eq_1 (aI @PD.eq_1 (aI @PE.eq_1 (aI @PG.eq_1 (aI @PH.eq_1 (aI @PJ.eq_1 (aI @PK.eq_1 (aI @PN.eq_1 (aI @PO.eq_1 (aI @PP.eq_1 (aI @PQ.eq_1 (aI @PS.eq_1 (aI @PT.eq_1 (aI @PU.eq_1 (aI @PV.eq_1 (aI @PW.eq_1 (aI @PY.eq_1 (aI @PZ.eq_1 (aI @P3.eq_1 (aI @P4.eq_1 (aI @P5.eq_1 (aI @P6.eq_1 (aI @P7.eq_1 (aI @P8.eq_1 (aI @P9.eq_1 (aI @Ea.eq_1 (aI @Eb.eq_1 (aI @Ec.eq_1 (aI @Ed.eq_1 (aI @Ee.eq_1 (aI @Ef.eq_1 (aI @Eg.eq_1 (aI @Eh.eq_1 (aI @Ei.eq_1 (aI @Ej.eq_1 (aI @Ek.eq_1 (aI @El.eq_1 (aI @Em.eq_1 (aI @Eo.eq_1 (aI @Ep.eq_1 (aI @Es.eq_1 (aI @Et.eq_1 (aI @Eu.eq_1 (aI @Ew.eq_1 (aI @Ey.eq_1 (aI @Ez.eq_1 (aI @EA.eq_1 (aI @EB.eq_1 (aI @EC.eq_1 (aI @ED.eq_1 (aI @EE.eq_1 (aI @EG.eq_1 (aI @EH.eq_1 (aI @EI.eq_1 (aI @EJ.eq_1 (aI @EM.eq_1 (aI @EN.eq_1 (aI @EO.eq_1 (aI @EQ.eq_1 (aI @ES.eq_1 (aI @ET.eq_1 (aI @EU.eq_1 (aI @EV.eq_1 @EW.eq_1)))))))))))))))))))))))))))))))))))))))))))))))))))))))))))))))))))))))))))))))))))))))))))))))))))))))))))))))))))))))))))))))))))))))))))))))))))))))))))))))))))))))))
theorem dzA {p:Prop}(h:p:=by first|assumption|decide|omega|(simp only[rzN,Qaj,Qan];first|done|omega)|(apply Qr<;>first|omega|((simp(disch:=first|assumption|omega|(simp only[rzN,Qaj,Qan];first|done|omega)) only[rzL,Qaj,Qan,QaM,Qab ])<;>first|done|omega))|(simp(disch:=first|assumption|omega|(simp only[rzN,Qaj,Qan];first|done|omega)) only[rzG,Qag,Qah,Qac,Qbm,Qaj,Qan,Qaw,QaF];first|done|omega|decide)):p:=h
theorem vH {p:Prop}(h:p:=by first|assumption|decide|omega|(simp only[zz,rzN,Qaj,Qan];first|done|omega)|(apply Qr<;>first|omega|((simp(disch:=first|assumption|omega|(simp only[zz,rzN,Qaj,Qan];first|done|omega)) only[rzL,Qaj,Qan,QaM,Qab,zz ])<;>first|done|omega))|(simp(disch:=first|assumption|omega|(simp only[zz,rzN,Qaj,Qan];first|done|omega)) only[zz,rzG,Qag,Qah,Qac,Qbm,Qaj,Qan,Qaw,QaF];first|done|omega|decide)):p:=h
end Go.Sy
end
noncomputable section
namespace Go.Sy
open Go.Ev Go.Proofs
def jfi (f:FuncId):Nat:=if f∈[9,10,11,12,13,14,15,16,17,18,19,20,22,23,24,25,26,27,28,29,30,31,32,34,35,38,46,47,50,51,52,53,54,55,56,57,58,65,66,67,68,69,70,71,72,77,81,82,83,84,85,92,94,95,96,98,99,102,103,107,108,109,110,111,112,114,115,116,117,140,119,120,121,122,124,125,130,132,134,135,137,138,139,144,149,154,157,160,161,162,166,177,179,181,182,101,106,142] then 1
 else if f∈[37,48,49,76,78,79,80,93,126,127,128,129,133,158,159,39,40,41,42,43,44,45,86,87,88,89,90,91,131,155,156,178,74,75,118] then 3 else if f∈[33,104,136,141,100,143,105,165] then 5 else if f∈[97,60] then 2 else 0
def kM (f:FuncId):Bool:=!(Qas f 8) && !(Qas f 21) && !(Qas f 123)
structure NB (base:Bs):Prop where
 nob:∀ f,kM f=true->∀ args st,base.run f args st=.no
 purE:base.pur=jfi
theorem NB.pur {base:Bs}(h:NB base)(f m:Nat)(e:jfi f=m):base.pur f=m:=by rw[h.purE];exact e
theorem NB.no {base:Bs}(h:NB base)(f:FuncId)(e:kM f=true)(args:List AV)(st:St):base.run f args st=.no:=h.nob f e args st
theorem NB.at0 {base:Bs}(h:NB base)(f:FuncId)(e:kM f=true)(e2:jfi f=0)(args:List AV)(st:St):base.at0 f args st:=⟨h.nob f e args st,h.pur f 0 e2⟩
abbrev Ret (base:Bs)(f:FuncId)(xs:List AV)(o:Oc):Prop:=∀ st K Kp,XB Qaf base f xs st K Kp=YG o K Kp st
abbrev Tot (base:Bs)(f:FuncId)(xs:List AV)(v:AV):Prop:=∀ st K Kp,XB Qaf base f xs st K Kp=K v st
theorem NB.tot {base:Bs}(hb:NB base){f:FuncId}{xs:List AV}{v:AV}(h:PX Qaf base f xs (.ok v))(hp:xs.all pa=true)(e:kM f=true):Tot base f xs v:=λst K Kp=>h.xb hp (hb.no f e _) st K Kp
theorem NB.ret {base:Bs}(hb:NB base){f:FuncId}{xs:List AV}{o:Oc}(h:PX Qaf base f xs o)(hp:xs.all pa=true)(e:kM f=true):Ret base f xs o:=λst K Kp=>h.xb hp (hb.no f e _) st K Kp
inductive Ex where
 |mk (op num:Int) (name:List Nat) (kids:List Ex) (line col:Int)
def Ex.op:Ex->Int | .mk o _ _ _ _ _=>o
def Ex.num:Ex->Int | .mk _ n _ _ _ _=>n
def Ex.name:Ex->List Nat | .mk _ _ n _ _ _=>n
def Ex.kids:Ex->List Ex | .mk _ _ _ k _ _=>k
def Ex.line:Ex->Int | .mk _ _ _ _ l _=>l
def Ex.col:Ex->Int | .mk _ _ _ _ _ c=>c
theorem Ex.ind {p:Ex->Prop}(h:∀ op num name kids l c,(∀ k∈kids,p k)->p (.mk op num name kids l c)):∀ x,p x
 |.mk op num name kids l c=>h op num name kids l c (inds h kids)
where inds {p:Ex->Prop} (h:∀ op num name kids l c,(∀ k∈kids,p k)->p (.mk op num name kids l c)):∀ (xs:List Ex),∀ k∈xs,p k
 |[],k,hk=>by cases hk
 |x :: xs,k,hk=>by
  rcases Qbh.1 hk with e|e
  ·exact e▸Ex.ind h x
  ·exact inds h xs k e
theorem Ex.indk {p:Ex->Prop}(h:∀ x:Ex,(∀ k∈x.kids,p k)->p x):∀ x,p x:=Ex.ind λop num name ks l c ih=>h (.mk op num name ks l c) ih
mutual
def eE:Ex->List AV
 |.mk op num name kids l c=>[.int .i64 op,.int .i64 num,.str name,.lst kids.length (eEs kids),.int .i64 l,.int .i64 c]
def eEs:List Ex->List AV
 |[]=>[]
 |x :: xs=>eE x ++ eEs xs
end
theorem jiL:∀ xs,eEs xs=fl eE xs
 |[]=>rfl
 |x :: xs=>by rw[X4,<-jiL xs];rfl
theorem qI (x:Ex):eE x=[.int .i64 x.op,.int .i64 x.num,.str x.name,.lst x.kids.length (fl eE x.kids),.int .i64 x.line,.int .i64 x.col]:=by
 cases x;simp only[eE,jiL];rfl
theorem Jw (x:Ex):(eE x).length=6:=by rw[qI];rfl
theorem GN (x:Ex)(k:Nat):(eE x).getD k .bad=([.int .i64 x.op,.int .i64 x.num,.str x.name,.lst x.kids.length (fl eE x.kids),.int .i64 x.line,.int .i64 x.col]:List AV).getD k .bad:=by rw[qI]
theorem jqn (x:Ex)(k:Nat):(eE x).drop k=([.int .i64 x.op,.int .i64 x.num,.str x.name,.lst x.kids.length (fl eE x.kids),.int .i64 x.line,.int .i64 x.col]:List AV).drop k:=by rw[qI]
theorem q8 (x:Ex):(eE x).all pc=true:=by rw[qI];rfl
theorem jf2 (x:Ex):lall AV.cell (eE x)=true:=by rw[qI];rfl
theorem jcv {st:St}{K:AV->St->Prop}{xs:List Ex}{i:Nat}(h:i<xs.length):jm (Je 6 (.lptr (fl eE xs) (i * 6)) st) K=K (.agg (eE xs[i])) st:=XP Jw h
theorem jmt {st:St}{K:AV->St->Prop}{xs:List Ex}{i:Nat}(h:i<xs.length){k:Nat}(hk:k<6):jm (yy (.lptr (fl eE xs) (i * 6+k)) st) K=K ((eE xs[i]).getD k .bad) st:=yi Jw h hk
theorem jmu {st:St}{K:AV->St->Prop}{xs:List Ex}{i:Nat}(h:i<xs.length):jm (yy (.lptr (fl eE xs) (i * 6)) st) K=K ((eE xs[i]).getD 0 .bad) st:=yi (k:=0) Jw h (by decide)
theorem je:type_of% (aI @Jw (aI @GN (aI @jqn (aI @jf2 (aI @jcv (aI @jmu @jmt)))))):=aI @Jw (aI @GN (aI @jqn (aI @jf2 (aI @jcv (aI @jmu @jmt)))))
theorem qV:type_of% (aI @Jw (aI @jf2 @GN)):=aI @Jw (aI @jf2 @GN)
theorem dzB {p:Prop}(h:p:=by first|assumption|decide|omega|(simp only[qV,rzN,Qaj,Qan];first|done|omega)|(apply Qr<;>first|omega|((simp(disch:=first|assumption|omega|(simp only[qV,rzN,Qaj,Qan];first|done|omega)) only[rzL,Qaj,Qan,QaM,Qab,qV ])<;>first|done|omega))|(simp(disch:=first|assumption|omega|(simp only[qV,rzN,Qaj,Qan];first|done|omega)) only[qV,rzG,Qag,Qah,Qac,Qbm,Qaj,Qan,Qaw,QaF];first|done|omega|decide)):p:=h
theorem jcw {p:Prop}(h:p:=by first|assumption|decide|omega|(simp only[qV,zz,rzN,Qaj,Qan];first|done|omega)|(apply Qr<;>first|omega|((simp(disch:=first|assumption|omega|(simp only[qV,zz,rzN,Qaj,Qan];first|done|omega)) only[rzL,Qaj,Qan,QaM,Qab,qV,zz ])<;>first|done|omega))|(simp(disch:=first|assumption|omega|(simp only[qV,zz,rzN,Qaj,Qan];first|done|omega)) only[qV,zz,rzG,Qag,Qah,Qac,Qbm,Qaj,Qan,Qaw,QaF];first|done|omega|decide)):p:=h
end Go.Sy
end
noncomputable section
set_option maxRecDepth 100000
namespace Go.Sy
open Go.Ev Go.Proofs
def z14:XC:=(TD [LV 1 0,Pb 2] (P3 [Pb 3] (EO [Ew 6 1,Pa 7 6,LW 8 7,Pb 9] 0 10 9 8 10 0 1 [Lu 11 6 7 9,PT 12 11,Em 5,EJ 5 12] (.ops [TH 13 3,PT 14 5,Pw 15 14 14,TB 16 (.bi .max #[3,3] [13,15]),TG 3 16]) 17 9 1 9 17) [TH 18 3,LX 19 18 1,P7 19]))
def y14:XF:=⟨[0],z14,[(.t 2)]⟩
theorem x14:jE Qaf 14=some y14:=by kernel_rfl
def z13:XC:=(TD [LV 1 0,Pb 2] (P3 [PW 3 1] (EO [Ew 6 1,Pa 7 6,LW 8 7,Pb 9] 0 10 9 8 10 0 1 [Lu 11 6 7 9,PT 12 11,Em 5,EJ 5 12] (.ops [TH 13 3,PT 14 5,Pw 15 13 14,Pq 16 .add 13 15,TG 3 16]) 17 9 1 9 17) (EC 18 3 2 18)))
def y13:XF:=⟨[0],z13,[(.t 2)]⟩
theorem x13:jE Qaf 13=some y13:=by kernel_rfl
def z47:XC:=(Pv (LZ (LV 2 0) 4 Ld) [PC 7 2,TO 8 7,TH 9 1,TF 10 (.bin .eql 8 9)] 10 [EB Ls] (Es [Ew 11 2,Pa 12 11,LW 13 12,Pb 14] 0 (EN 15 14 13) 15 0 1 [Lu 16 6 12 14,PT 17 16,Em 6,EJ 6 17] (LN [PT 18 6,TH 19 1,TQ 20 true none (TY 47 []) [18,19]] 20 [EB Ls]) 21 14 1 14 21 (Lg [Ec])))
def y47:XF:=⟨[0,1],z47,[(.t 4)]⟩
theorem x47:jE Qaf 47=some y47:=by kernel_rfl
def jjG:XC:=(Pv [Pb 2] [LQ 3,Lo 4 .geq 3 1,EA 5,PO 6 5 0,L5 7 5 (Lf .leq 6 4),L6 8 5 7 Ld] 8 [Pb 2] (.seq (LN [LQ 9,Lo 10 .geq 9 5,TH 11 10,PO 12 11 0,L5 13 11 (Lf .leq 12 13),L6 14 11 13 Ld] 14 [PW 2 1]) (.seq (LN [LQ 15,Lo 16 .geq 15 14,TH 17 16,PO 18 17 0,L5 19 17 (Lf .leq 18 30),L6 20 17 19 Ld] 20 [PW 2 2]) (Lg [PW 2 (-(0+1))]))))
def jol:XF:=⟨[0],jjG,[(.t 2)]⟩
theorem jsj:jE Qaf 132=some jol:=by kernel_rfl
def z52:XC:=(Pv [Lk 2 TN] [LQ 3,Lo 4 .lss 3 5,EA 5,Ph 6 5 0,Ee 7 5 .gtr 6 30,L6 8 5 Ls 7] 8 [Lk 2 TN] (Lg [LJ 9 26 1 [TN] [PJ 0 45,PJ 1 33,PJ 2 88,PJ 3 70,PJ 4 71,PJ 5 89,PJ 6 90,PJ 7 79,PJ 8 72,PJ 9 42,PJ 10 43,PJ 11 45,PJ 12 61,Pf 13 [33,61],PJ 14 60,Pf 15 [60,61],PJ 16 62,Pf 17 [62,61],PJ 18 85,PJ 19 82,PJ 20 83,PJ 21 84,PJ 22 38,PJ 23 124,Pf 24 [45,62],Pf 25 [60,45,62]],LQ 10,Lo 11 .sub 10 5,Lu 12 1 9 11,TO 13 12,P7 13]))
def y52:XF:=⟨[0],z52,[(.t 2)]⟩
theorem x52:jE Qaf 52=some y52:=by kernel_rfl
def z92:XC:=(Lb (LZ (LV 1 0) 2 Ld) (Pz [LU 5 0 1,Ey 6 5 5 3,(Ez 7 132 6 0 [],some [Eb 7 0,Lj (Ew 8 1) 0,Ll (TO 9 8) 8 35 [(1,0)],Lj (PD 10 9) 0,Lj (Lk 11 LM) 0]),LU 8 3 1,Pi 9 8 8 35 [(1,0)],LO (PD 10 9),LO (TF 11 (.bin .neq 7 10))] (Eh 11 [PH 2] .skip)) (Es [Ew 12 1,Pa 13 12,LW 14 13,Pb 15] 0 (EN 16 15 14) 16 0 1 [Lu 17 6 13 15,PT 18 17,Em 4,EJ 4 18] (LN [PT 19 4,Pw 20 92 19,ED 21 20] 21 [PH 2]) 22 15 1 15 22 (.seq (LN [PC 23 1,TO 24 23,Lo 25 .neq 24 3,TH 26 25,P8 27 26 2 1,P9 28 26 27,L5 29 26 (.strb .neq 28 (.c TN)),L6 30 26 29 Ld] 30 [PH 2]) (.seq (TD [PC 31 1,Pa 32 31] (.block 2 (EV 34 32 1 33 34 33 [P6 35 1,TO 36 35,EU 37 .geq 36,TH 38 37,P8 39 38 1 1,P9 40 38 39,L5 41 38 (Lf .leq 40 1000000),LE 42 38 41 Ld,P7 42] (EV 44 32 2 43 44 43 [P6 45 1,TO 46 45,EU 47 .eql 46,TH 48 47,LG 49 48 1 1,LI 50 48 49,Ee 51 48 .eql 50 1,EG 52 48 51,P7 52] (EV 54 32 3 53 54 53 [P6 55 1,TO 56 55,EU 57 .eql 56,TH 58 57,P8 59 58 2 1,P9 60 58 59,PE 61 (L4 58) 56 [] [60],LE 62 58 61 Ld,P7 62] (LN (LZ (Px 64 32 4) 63 64) 63 [P7 Ls])))))) (Lg [P6 65 1,TO 66 65,EU 67 .eql 66,P7 67])))))
def y92:XF:=⟨[0],z92,[(.t 2)]⟩
theorem x92:jE Qaf 92=some y92:=by kernel_rfl
def z46:XC:=(PQ (LZ (LV 1 0) 2 Ld) [PT 3 1,Pw 4 14 3,Lo 5 .leq 4 60,TH 6 5,Et 7 6 6 1,PE 8 (L4 6) 92 [] [7],LE 9 6 8 Ld,P7 9])
def y46:XF:=⟨[0],z46,[(.t 2)]⟩
theorem x46:jE Qaf 46=some y46:=by kernel_rfl
def z12:XC:=(PQ (LZ (LV 1 0) 2 Ld) [PT 3 1,Pw 4 46 3,EA 5,Et 6 5 6 1,PE 7 (L4 5) 47 [] [6,LR 4],L5 8 5 (L9 7),LE 9 5 8 Ld,P7 9])
def y12:XF:=⟨[0],z12,[(.t 2)]⟩
theorem x12:jE Qaf 12=some y12:=by kernel_rfl
def z96:XC:=(PQ [PH 2] [LQ 3,Lo 4 .geq 3 (-(999999+1)),EA 5,PO 6 5 0,L5 7 5 (Lf .leq 6 1000000),LE 8 5 7 Ld,P7 8])
def y96:XF:=⟨[0],z96,[(.t 2)]⟩
theorem x96:jE Qaf 96=some y96:=by kernel_rfl
end Go.Sy
end
noncomputable section
set_option maxRecDepth 100000
namespace Go.Sy
open Go.Ev Go.Proofs
variable {base:Bs}
def Yw (op:Int):Int:=if 1<=op/\op<=4 then 0 else if 5<=op/\op<=13 then 1 else if 14<=op/\op<=30 then 2 else -1
theorem jqW (hb:NB base)(op:Int):Tot base 132 [.int .i64 op] (.int .i64 (Yw op)):=by
 refine hb.tot ?_ rfl rfl;refine jI jsj (by rfl) (hb.pur 132 1 (by decide)) ?_;simp only[jol,jp,Qai,Qal,Qag,Qah];rw[(by unfold jjG;simp only[qq];rfl:jjG=_)];repeat'(first|(apply jc<;>intro _)|simp(disch:=first|exact dzB|fail) only[je,rzZ,Qab,Qac,Qad,Qaa,Qae])
 all_goals(refine G0.v ?_ rfl;unfold Yw;repeat' split)<;>first|rfl|(exfalso;omega)|(simp_all;done)|(simp;omega)|(simp_all;omega)
theorem jdC (hb:NB base)(n:Int):Tot base 96 [.int .i64 n] (.bool (decide (-1000000<=n) && decide (n<=1000000))):=by
 refine hb.tot ?_ rfl rfl;refine jI x96 (by rfl) (hb.pur 96 1 (by decide)) ?_;simp only[y96,jp,Qai,Qal,Qag,Qah];rw[(by unfold z96;simp only[qq];rfl:z96=_)];repeat'(first|(apply jc<;>intro _)|simp(disch:=first|exact dzB|fail) only[je,rzZ,Qab,Qac,Qad,Qaa,Qae])
 all_goals(refine G0.v ?_ rfl;repeat' split)<;>first|rfl|(exfalso;omega)|(simp_all;done)|(simp;omega)|(simp_all;omega)
mutual
def szE:Ex->Nat
 |.mk _ _ nm ks _ _=>yp ks+nm.length+1
def yp:List Ex->Nat
 |[]=>0
 |x :: xs=>szE x+yp xs
end
mutual
def zO:Ex->Nat
 |.mk _ _ _ ks _ _=>yl ks+1
def yl:List Ex->Nat
 |[]=>0
 |x :: xs=>max (zO x) (yl xs)
end
mutual
def yg:Ex->Nat
 |.mk _ _ _ ks _ _=>qO ks+1
def qO:List Ex->Nat
 |[]=>0
 |x :: xs=>yg x+qO xs
end
mutual
def Xx (op:Int):Ex->Bool
 |.mk o _ _ ks _ _=>decide (o=op) ||zM op ks
def zM (op:Int):List Ex->Bool
 |[]=>false
 |x :: xs=>Xx op x ||zM op xs
end
theorem Y8 (x:Ex):szE x=yp x.kids+x.name.length+1:=by cases x;rfl
theorem XI (x:Ex):zO x=yl x.kids+1:=by cases x;rfl
theorem jkm (x:Ex):yg x=qO x.kids+1:=by cases x;rfl
theorem jns (op:Int)(x:Ex):Xx op x=(decide (x.op=op) ||zM op x.kids):=by cases x;rfl
theorem Zx:∀ {xs:List Ex} {k:Nat} (h:k<xs.length),szE xs[k]<=yp xs
 |x :: xs,0,h=>by simp[yp]
 |x :: xs,k+1,h=>by
  have:=Zx (xs:=xs) (k:=k) (by simpa using h);simp[yp];omega
theorem Zw:∀ xs:List Ex,xs.length<=yp xs
 |[]=>by simp
 |x :: xs=>by
  have:=Zw xs;have:=Y8 x;simp[yp];omega
theorem gG:∀ xs ys,yl (xs ++ ys)=max (yl xs) (yl ys)
 |[],ys=>by simp[yl]
 |x :: xs,ys=>by rw[Qaw,yl,yl,gG,Nat.max_assoc]
theorem WD:∀ xs ys,qO (xs ++ ys)=qO xs+qO ys
 |[],ys=>by simp[qO]
 |x :: xs,ys=>by rw[Qaw,qO,qO,WD,QbK]
theorem ue (op:Int):∀ xs ys,zM op (xs ++ ys)=(zM op xs ||zM op ys)
 |[],ys=>by simp[zM]
 |x :: xs,ys=>by rw[Qaw,zM,zM,ue,Bool.or_assoc]
theorem y7 {α:Type}{xs:List α}{k:Nat}(h:k<xs.length):xs.take (k+1)=xs.take k ++ [xs[k]]:=by rw[Qci,Qav h];rfl
mutual
theorem jk6:∀ x,zO x<=yg x
 |.mk _ _ _ ks _ _=>by have:=Ub ks;simp only[zO,yg];omega
theorem Ub:∀ xs,yl xs<=qO xs
 |[]=>Qaq _
 |x :: xs=>by have:=jk6 x;have:=Ub xs;simp only[yl,qO];omega
end
mutual
theorem jkl:∀ x,yg x<=szE x
 |.mk _ _ _ ks _ _=>by have:=vU ks;simp only[szE,yg];omega
theorem vU:∀ xs,qO xs<=yp xs
 |[]=>Qaq _
 |x :: xs=>by have:=jkl x;have:=vU xs;simp only[yp,qO];omega
end
def BIG:Nat:=1099511627776
theorem jjf (hb:NB base):∀ x:Ex,szE x<=BIG->Tot base 14 [.agg (eE x)] (.int .i64 (zO x)):=by
 refine Ex.indk λx ih hx=>?_;refine hb.tot ?_ (by first|rfl|simp[pa,pc,q8]) rfl;have hd:=XI x;have hz:=Y8 x;generalize hks:x.kids=ks at *;have hlen:=Zw ks;unfold BIG at *;have hle:=Ub ks;have hle2:=vU ks;refine jI x14 (by rfl) (hb.pur 14 1 (by decide)) ?_;simp only[y14,jp,Qai,Qal,Qag,Qah];rw[(by unfold z14;simp only[qq];rfl:z14=_)];repeat'(first|(apply jc<;>intro _)|simp(disch:=first|exact dzB|fail) only[hks,je,rzZ,Qab,Qac,Qad,Qaa,Qae])
 refine qy ks.length (λk L s=>Has L 3 (.int .i64 (yl (ks.take k):Nat))/\Has L 7 (.lst ks.length (fl eE ks))) (by first|assumption|omega) (by decide) (by simp(disch:=decide) only[jd,jb]) (by simp(disch:=decide) only[jd,jb]) ?_ (λk L s v h=>by simp(disch:=decide) only[jb];exact h) (λk L s v h=>by simp(disch:=decide) only[jb];exact h) (λk L s hk hI hi hn=>?_) (λL s hI=>?_)
 ·simp(disch:=decide) only[Qam,Qao,z0,z1,jd,jb,and_true,true_and,QaZ,yl]
 ·obtain⟨i3,i7⟩:=hI;have hk2:=Zx hk;have e:=ih ks[k] (Qay hk) (by omega);repeat'(first|(apply jc<;>intro _)|simp(disch:=first|exact dzB|fail) only[ja i3,ja i7,ja hi,ja hn,e,je,rzZ,Qab,Qac,Qad,Qaa,Qae])
  have e2:((yl (ks.take (k+1)):Nat):Int)=max (yl (ks.take k):Int) (zO ks[k]):=by rw[y7 hk,gG];simp only[yl];omega
  simp(disch:=decide) only[Qam,Qao,z0,z1,jd,jb,and_true,true_and,e2,i7,hi,hn]
 ·rw[QaE] at hI;repeat'(first|(apply jc<;>intro _)|simp(disch:=first|exact dzB|fail) only[ja hI.1,ja hI.2,je,rzZ,Qab,Qac,Qad,Qaa,Qae])
  (refine G0.v ?_ rfl;repeat' split)<;>first|rfl|(exfalso;omega)|(simp_all;done)|(simp;omega)|(simp_all;omega)
theorem ji9 (hb:NB base):∀ x:Ex,szE x<=BIG->Tot base 13 [.agg (eE x)] (.int .i64 (yg x)):=by
 refine Ex.indk λx ih hx=>?_;refine hb.tot ?_ (by first|rfl|simp[pa,pc,q8]) rfl;have hd:=jkm x;have hz:=Y8 x;generalize hks:x.kids=ks at *;have hlen:=Zw ks;unfold BIG at *;have hle2:=vU ks;refine jI x13 (by rfl) (hb.pur 13 1 (by decide)) ?_;simp only[y13,jp,Qai,Qal,Qag,Qah];rw[(by unfold z13;simp only[qq];rfl:z13=_)];repeat'(first|(apply jc<;>intro _)|simp(disch:=first|exact dzB|fail) only[hks,je,rzZ,Qab,Qac,Qad,Qaa,Qae])
 refine qy ks.length (λk L s=>Has L 3 (.int .i64 ((qO (ks.take k):Int)+1))/\Has L 7 (.lst ks.length (fl eE ks))) (by first|assumption|omega) (by decide) (by simp(disch:=decide) only[jd,jb]) (by simp(disch:=decide) only[jd,jb]) ?_ (λk L s v h=>by simp(disch:=decide) only[jb];exact h) (λk L s v h=>by simp(disch:=decide) only[jb];exact h) (λk L s hk hI hi hn=>?_) (λL s hI=>?_)
 ·simp(disch:=decide) only[Qam,Qao,z0,z1,jd,jb,and_true,true_and,QaZ,qO]
 ·obtain⟨i3,i7⟩:=hI;have hk2:=Zx hk;have e:=ih ks[k] (Qay hk) (by omega);have e2:qO (ks.take (k+1))=qO (ks.take k)+yg ks[k]:=by rw[y7 hk,WD];simp only[qO];omega
  have e3:=WD (ks.take (k+1)) (ks.drop (k+1));rw[Qbp] at e3;repeat'(first|(apply jc<;>intro _)|simp(disch:=first|exact dzB|fail) only[ja i3,ja i7,ja hi,ja hn,e,je,rzZ,Qab,Qac,Qad,Qaa,Qae])
  have e2:(qO (ks.take (k+1)):Int)+1=(qO (ks.take k):Int)+1+(yg ks[k]:Int):=by omega
  simp(disch:=decide) only[Qam,Qao,z0,z1,jd,jb,and_true,true_and,e2,i7,hi,hn]
 ·rw[QaE] at hI;repeat'(first|(apply jc<;>intro _)|simp(disch:=first|exact dzB|fail) only[ja hI.1,ja hI.2,je,rzZ,Qab,Qac,Qad,Qaa,Qae])
  (refine G0.v ?_ rfl;repeat' split)<;>first|rfl|(exfalso;omega)|(simp_all;done)|(simp;omega)|(simp_all;omega)
theorem jrU (hb:NB base)(op:Int):∀ x:Ex,szE x<=BIG->Tot base 47 [.agg (eE x),.int .i64 op] (.bool (Xx op x)):=by
 refine Ex.indk λx ih hx=>?_;refine hb.tot ?_ (by first|rfl|simp[pa,pc,q8]) rfl;have hd:=jns op x;have hz:=Y8 x;generalize hks:x.kids=ks at *;have hlen:=Zw ks;unfold BIG at *;refine jI x47 (by rfl) (hb.pur 47 1 (by decide)) ?_;simp only[y47,jp,Qai,Qal,Qag,Qah];rw[(by unfold z47;simp only[qq];rfl:z47=_)];repeat'(first|(apply jc<;>intro _)|simp(disch:=first|exact dzB|fail) only[hks,je,rzZ,Qab,Qac,Qad,Qaa,Qae])
 ·(refine G0.v ?_ rfl;repeat' split)<;>first|rfl|(exfalso;omega)|(simp_all;done)|(simp;omega)|(simp_all;omega)
 refine qy ks.length (λk L s=>zM op (ks.take k)=false/\Has L 1 (.int .i64 op)/\Has L 12 (.lst ks.length (fl eE ks))) (by first|assumption|omega) (by decide) (by simp(disch:=decide) only[jd,jb]) (by simp(disch:=decide) only[jd,jb]) ?_ (λk L s v h=>by simp(disch:=decide) only[jb];exact h) (λk L s v h=>by simp(disch:=decide) only[jb];exact h) (λk L s hk hI hi hn=>?_) (λL s hI=>?_)
 ·simp(disch:=decide) only[Qam,Qao,z0,z1,jd,jb,and_true,true_and,QaZ,zM]
 ·obtain⟨h0,i1,i12⟩:=hI;have hk2:=Zx hk;have e:=ih ks[k] (Qay hk) (by omega);repeat'(first|(apply jc<;>intro _)|simp(disch:=first|exact dzB|fail) only[ja i1,ja i12,ja hi,ja hn,e,je,rzZ,Qab,Qac,Qad,Qaa,Qae])
  ·have e3:=ue op (ks.take (k+1)) (ks.drop (k+1));rw[Qbp,y7 hk,ue] at e3;simp only[zM] at e3
   (refine G0.v ?_ rfl;repeat' split)<;>first|rfl|(exfalso;omega)|(simp_all;done)|(simp;omega)|(simp_all;omega)
  ·simp(disch:=decide) only[Qam,Qao,z0,z1,jd,jb,and_true,true_and,i1,i12,hi,hn];rw[y7 hk,ue,h0];simp_all [zM]
 ·rw[QaE] at hI;repeat'(first|(apply jc<;>intro _)|simp(disch:=first|exact dzB|fail) only[ja hI.2.1,je,rzZ,Qab,Qac,Qad,Qaa,Qae])
  (refine G0.v ?_ rfl;repeat' split)<;>first|rfl|(exfalso;omega)|(simp_all;done)|(simp;omega)|(simp_all;omega)
end Go.Sy
end
noncomputable section
set_option maxRecDepth 100000
namespace Go.Sy
open Go.Ev Go.Proofs
def qd (c:Nat):Bool:=(decide (97<=c) && decide (c<=122)) ||(decide (65<=c) && decide (c<=90))
def jP (c:Nat):Bool:=decide (48<=c) && decide (c<=57)
def yn (c:Nat):Bool:=qd c ||jP c ||decide (c=95)
def qg (p:Nat->Bool):List Nat->Nat
 |[]=>0
 |c :: l=>if p c then qg p l+1 else 0
theorem ZH (p:Nat->Bool):∀ l,qg p l<=l.length
 |[]=>Qaq _
 |c :: l=>by simp only[qg,Qaj];have:=ZH p l;split<;>omega
theorem UM {p:Nat->Bool}:∀ {l:List Nat} {k:Nat},k<=l.length->(∀ j,j<k->p (l.getD j 0)=true)->(k=l.length\/p (l.getD k 0)=false)->qg p l=k
 |[],k,h,_,_=>by simp at h;simp[qg,h]
 |c :: l,0,h,h1,h2=>by
  simp only[qg];rcases h2 with h2|h2
  ·simp at h2
  ·simp at h2;simp[h2]
 |c :: l,k+1,h,h1,h2=>by
  have h0:=h1 0 (by omega);simp at h0;simp only[qg,h0,if_true];have:=UM (l:=l) (k:=k) (by simpa using h) (λj hj=>by simpa using h1 (j+1) (by omega)) (by simpa using h2);omega
def UO:List (List Nat):=[[101,110,117,109],[118,97,114],[98,111,111,108],[112,114,111,99,101,115,115],[119,104,101,110],[100,111],[116,114,117,101],[102,97,108,115,101],[88],[70],[71],[85],[82],[89],[90],[79],[72],[83],[84]]
def uG (l:List Nat):Bool:=decide (l∈UO)
def begins (p l:List Nat):Bool:=decide (l.take p.length=p)
theorem gL {p l:List Nat}(h:l.length<p.length):begins p l=false:=by
 unfold begins;refine decide_eq_false λe=>?_;have:=congrArg List.length e;rw[QaK] at this;omega
def qN (c:Nat):Bool:=decide (c=32) ||decide (c=9) ||decide (c=10)
def Qz (c:Nat):Bool:=decide (c≠10)
def Y9 (p:Nat×Nat)(x:Nat):Nat×Nat:=if x=10 then(p.1+1,1) else(p.1,p.2+1)
def jX (p:Nat×Nat)(l:List Nat):Nat×Nat:=l.foldl Y9 p
theorem Ws (l:List Nat):∀ p:Nat×Nat,1<=p.2->(jX p l).1<=p.1+l.length/\(jX p l).2<=p.2+l.length/\1<=(jX p l).2:=by
 induction l with
 |nil=>exact λp h=>⟨Qaq _,Qaq _,h⟩
 |cons x l ih=>
  intro p h;have hs:(Y9 p x).1<=p.1+1/\(Y9 p x).2<=p.2+1/\1<=(Y9 p x).2:=by
   unfold Y9;split<;>simp<;>omega
  have:=ih (Y9 p x) hs.2.2;show(jX (Y9 p x) l).1<=p.1+(l.length+1)/\(jX (Y9 p x) l).2<=p.2+(l.length+1)/\_;exact⟨by omega,by omega,this.2.2⟩
theorem Vq (p:Nat×Nat)(l k:List Nat):jX p (l ++ k)=jX (jX p l) k:=QbV ..
def gap (r:List Nat):Nat:=if qg qN r=0/\begins [47,47] r=true then qg Qz r else qg qN r
theorem VQ (r:List Nat):gap r<=r.length:=by
 unfold gap;split
 ·exact ZH _ _
 ·exact ZH _ _
def jW (r:List Nat):Nat:=if h:gap r=0 then 0 else gap r+jW (r.drop (gap r))
termination_by r.length
decreasing_by
 rw[QaS];have:=VQ r;omega
theorem jci {r:List Nat}(h:gap r=0):jW r=0:=by rw[jW,dif_pos h]
theorem jch {r:List Nat}(h:gap r≠0):jW r=gap r+jW (r.drop (gap r)):=by rw[jW,dif_neg h]
theorem w9 (r:List Nat):jW r<=r.length:=by
 by_cases h:gap r=0
 ·rw[jci h];exact QaL _
 ·have e:=VQ r;have ih:=w9 (r.drop (gap r));rw[QaS] at ih;rw[jch h];omega
termination_by r.length
decreasing_by
 rw[QaS];have:=VQ r;omega
def zk:List (List Nat):=[[60,45,62],[46,46],[58,61],[33,61],[60,61],[62,61],[45,62],[123],[125],[40],[41],[58],[44],[59],[61],[60],[62],[43],[45],[42],[33],[38],[124]]
def XA (r:List Nat):List (List Nat)->Nat
 |[]=>0
 |x :: xs=>if begins x r=true then x.length else XA r xs
def Q9 (r:List Nat):Nat:=XA r zk
structure Tk where
 kind:Nat
 text:List Nat
 num:Nat
 line:Nat
 col:Nat
def Tk.cells (t:Tk):List AV:=[.int .i64 (t.kind:Int),.str t.text,.int .i64 (t.num:Int),.int .i64 (t.line:Int),.int .i64 (t.col:Int)]
def X9 (s:List Nat):Nat:=s.foldl (λv c=>10 * v+(c - 48)) 0
def ye (r:List Nat)(p:Nat×Nat):Nat×Tk×Nat:=
 match r with
 |[]=>(0,⟨5,[],0,p.1,p.2⟩,0)
 |x :: r'=>
  if qd x=true then
   let n:=qg yn (x :: r')
   if 32<n then(132,⟨1,[],0,p.1,p.2⟩,0) else(0,⟨if uG ((x :: r').take n)=true then 4 else 1,(x :: r').take n,0,p.1,p.2⟩,n)
  else if jP x=true then
   let n:=qg jP (x :: r')
   if 7<n\/1000000<X9 ((x :: r').take n) then(132,⟨2,[],0,p.1,p.2⟩,0) else(0,⟨2,(x :: r').take n,X9 ((x :: r').take n),p.1,p.2⟩,n)
  else
   let n:=Q9 (x :: r')
   if n=0 then(131,⟨3,[],0,p.1,p.2⟩,0) else(0,⟨3,(x :: r').take n,0,p.1,p.2⟩,n)
def Wf (s:List Nat):Prop:=s≠[]/\∀ c∈s,jP c=true
theorem jb0 (p:Nat->Bool):∀ l:List Nat,∀ c∈l.take (qg p l),p c=true
 |[],c,h=>by simp at h
 |y :: l,c,h=>by
  simp only[qg] at h;by_cases hy:p y=true
  ·rw[if_pos hy,Qcp] at h;rcases Qbh.1 h with h|h
   ·rw[h];exact hy
   ·exact jb0 p l c h
  ·rw[if_neg hy] at h;simp at h
theorem jde {x:Nat}{r:List Nat}(h:jP x=true):Wf ((x :: r).take (qg jP (x :: r))):=by
 refine⟨?_,jb0 jP _⟩;have:qg jP (x :: r)=qg jP r+1:=by simp only[qg,if_pos h]
 rw[this,Qcp];simp
theorem jj7 (s:List Nat):∀ v,(∀ c∈s,jP c=true)->s.foldl (λv c=>10 * v+(c - 48)) v+1<=(v+1) * 10 ^ s.length:=by
 induction s with
 |nil=>exact λv _=>by simp
 |cons c s ih=>
  intro v h;have hc:=h c (by simp);have hc9:c - 48<=9:=by
   unfold jP at hc;simp at hc;omega
  have:=ih (10 * v+(c - 48)) λd hd=>h d (by simp[hd]);refine Qau this ?_;rw[Qaj,Nat.pow_succ,<-Nat.mul_assoc,Nat.mul_right_comm];exact QaN _ (by omega)
theorem jmM {s:List Nat}{n:Nat}(hn:s.length=n)(h7:n<=7)(h:∀ c∈s,jP c=true):X9 s<=99999999:=by
 have:=jj7 s 0 h;have e:10 ^ s.length<=10 ^ 7:=Nat.pow_le_pow_right (by decide) (by omega);have e7:10 ^ 7=10000000:=by decide
 unfold X9;omega
theorem HD (r:List Nat):∀ xs,XA r xs<=r.length
 |[]=>QaL _
 |y :: xs=>by
  show(if begins y r=true then y.length else XA r xs)<=r.length;by_cases h:begins y r=true
  ·rw[if_pos h];rcases QaV r.length y.length with h2|h2
   ·rw[gL h2] at h;exact absurd h (by decide)
   ·exact h2
  ·rw[if_neg h];exact HD r xs
theorem jbu (r:List Nat):Q9 r<=r.length:=HD r _
theorem kP {r:List Nat}{p:Nat×Nat}{e n:Nat}{t:Tk}(h:ye r p=(e,t,n)):n<=r.length:=by
 cases r with
 |nil=>simp[ye] at h;omega
 |cons x r'=>
  unfold ye at h;simp only at h;have h1:=ZH yn (x :: r');have h2:=ZH jP (x :: r');have h3:=jbu (x :: r');split at h
  ·split at h<;>simp only[Prod.mk.injEq] at h<;>omega
  ·split at h
   ·split at h<;>simp only[Prod.mk.injEq] at h<;>omega
   ·split at h<;>simp only[Prod.mk.injEq] at h<;>omega
theorem jb1 {p:Nat->Bool}{x:Nat}{r:List Nat}(h:p x=true):0<qg p (x :: r):=by
 simp only[qg,if_pos h];omega
theorem K0 {r:List Nat}{p:Nat×Nat}{t:Tk}{n:Nat}(h:ye r p=(0,t,n)):(t.kind=5↔n=0)/\(n=0↔r=[]):=by
 cases r with
 |nil=>simp[ye] at h;obtain⟨h1,h2⟩:=h;subst h1 h2;simp
 |cons x r'=>
  unfold ye at h;simp only at h;split at h
  ·rename_i hL;have hp:=jb1 (p:=yn) (r:=r') (show yn x=true by unfold yn;rw[hL];rfl);split at h
   ·simp at h
   ·simp only[Prod.mk.injEq] at h;obtain⟨_,h1,h2⟩:=h;subst h1 h2;refine⟨?_,?_⟩
    ·show((if _ then 4 else 1)=5↔_);split<;>constructor<;>intro h<;>omega
    ·constructor
     ·intro h;omega
     ·intro h;simp at h
  ·split at h
   ·rename_i hD;have hp:=jb1 (p:=jP) (r:=r') hD;split at h
    ·simp at h
    ·simp only[Prod.mk.injEq] at h;obtain⟨_,h1,h2⟩:=h;subst h1 h2;refine⟨?_,?_⟩
     ·show(2=5↔_);constructor<;>intro h<;>omega
     ·constructor
      ·intro h;omega
      ·intro h;simp at h
   ·split at h
    ·simp at h
    ·rename_i hz;simp only[Prod.mk.injEq] at h;obtain⟨_,h1,h2⟩:=h;subst h1 h2;refine⟨?_,?_⟩
     ·show(3=5↔_);constructor<;>intro h<;>omega
     ·constructor
      ·intro h;exact absurd h hz
      ·intro h;simp at h
def zb (r:List Nat)(p:Nat×Nat):List Tk×(Nat×Nat×Nat):=
 match h:ye (r.drop (jW r)) (jX p (r.take (jW r))) with
 |(e,t,n)=>
  if e≠0 then([],(e,t.line,t.col))
  else if hn:n=0 then([t],(0,0,0))
  else
   let q:=zb ((r.drop (jW r)).drop n) (jX (jX p (r.take (jW r))) ((r.drop (jW r)).take n))
   if q.2.1≠0 then([],q.2) else(t :: q.1,q.2)
termination_by r.length
decreasing_by
 have h1:=kP h;have h2:=w9 r;rw[QaS] at h1;rw[QaS,QaS];omega
theorem X5 (r:List Nat)(p:Nat×Nat){e n:Nat}{t:Tk}(h:ye (r.drop (jW r)) (jX p (r.take (jW r)))=(e,t,n)):zb r p=if e≠0 then([],(e,t.line,t.col)) else if n=0 then([t],(0,0,0)) else if(zb ((r.drop (jW r)).drop n) (jX (jX p (r.take (jW r))) ((r.drop (jW r)).take n))).2.1≠0 then([],(zb ((r.drop (jW r)).drop n) (jX (jX p (r.take (jW r))) ((r.drop (jW r)).take n))).2) else(t :: (zb ((r.drop (jW r)).drop n) (jX (jX p (r.take (jW r))) ((r.drop (jW r)).take n))).1,(zb ((r.drop (jW r)).drop n) (jX (jX p (r.take (jW r))) ((r.drop (jW r)).take n))).2):=by
 rw[zb];split
 rename_i e' t' n' h';rw[h] at h';simp only[Prod.mk.injEq] at h';obtain⟨rfl,rfl,rfl⟩:=h';split
 ·rfl
 ·split<;>rfl
def ahead (acc:List Tk)(q:List Tk×(Nat×Nat×Nat)):List Tk×(Nat×Nat×Nat):=if q.2.1≠0 then([],q.2) else(acc ++ q.1,q.2)
def qb (l:List Nat):List Tk×(Nat×Nat×Nat):=if 65536<l.length then([],(132,1,1)) else zb l (1,1)
theorem HV (r:List Nat)(p:Nat×Nat):ahead [] (zb r p)=zb r p:=by
 unfold ahead;generalize hx:ye (r.drop (jW r)) (jX p (r.take (jW r)))=x;obtain⟨e,t,n⟩:=x;rw[X5 r p hx];by_cases he:e≠0
 ·rw[if_pos he];simp[he]
 ·rw[if_neg he];by_cases hn:n=0
  ·rw[if_pos hn];simp
  ·rw[if_neg hn];generalize zb _ _=q;by_cases hq:q.2.1≠0
   ·rw[if_pos hq];simp[hq]
   ·rw[if_neg hq];show(if q.2.1≠0 then _ else _)=_;rw[if_neg hq];rfl
theorem ji4 {acc:List Tk}{r:List Nat}{p:Nat×Nat}{e n:Nat}{t:Tk}(h:ye (r.drop (jW r)) (jX p (r.take (jW r)))=(e,t,n))(he:e≠0):ahead acc (zb r p)=([],(e,t.line,t.col)):=by
 rw[X5 r p h,if_pos he];unfold ahead;rw[if_pos he]
theorem ji5 {acc:List Tk}{r:List Nat}{p:Nat×Nat}{t:Tk}(h:ye (r.drop (jW r)) (jX p (r.take (jW r)))=(0,t,0)):ahead acc (zb r p)=(acc ++ [t],(0,0,0)):=by
 rw[X5 r p h,if_neg (by decide),if_pos rfl];rfl
theorem gT {acc:List Tk}{r:List Nat}{p:Nat×Nat}{n:Nat}{t:Tk}(h:ye (r.drop (jW r)) (jX p (r.take (jW r)))=(0,t,n))(hn:n≠0):ahead acc (zb r p)=ahead (acc ++ [t]) (zb ((r.drop (jW r)).drop n) (jX (jX p (r.take (jW r))) ((r.drop (jW r)).take n))):=by
 rw[X5 r p h,if_neg (by decide),if_neg hn];generalize zb _ _=q;unfold ahead;by_cases hq:q.2.1≠0
 ·rw[if_pos hq,if_pos hq];simp[hq]
 ·rw[if_neg hq,if_neg hq];show _=(if q.2.1≠0 then _ else _);rw[if_neg hq];simp
end Go.Sy
end
noncomputable section
set_option maxRecDepth 100000
namespace Go.Sy
open Go.Ev Go.Proofs
def jjN:XC:=(PQ [PH 2] [LQ 3,Pq 4 .leq (.c (.int .u8 97)) 3,EA 5,PO 6 5 0,L5 7 5 (Eu .leq 6 .u8 122),LE 8 5 7 Ld,TH 9 8,Ph 10 9 0,Eo 11 9 .leq (.c (.int .u8 65)) 10,Ph 12 9 11,PO 13 12 0,L5 14 12 (Eu .leq 13 .u8 90),Li 15 9 (.pick 12 14 Ld),EG 16 9 15,P7 16])
def jos:XF:=⟨[0],jjN,[(.t 2)]⟩
theorem jsq:jE Qaf 119=some jos:=by kernel_rfl
def jjK:XC:=(PQ [PH 2] [LQ 3,Pq 4 .leq (.c (.int .u8 48)) 3,EA 5,PO 6 5 0,L5 7 5 (Eu .leq 6 .u8 57),LE 8 5 7 Ld,P7 8])
def jop:XF:=⟨[0],jjK,[(.t 2)]⟩
theorem jsn:jE Qaf 122=some jop:=by kernel_rfl
def jjM:XC:=(PQ [PH 2] [LQ 3,Pw 4 119 3,EA 5,Ph 6 5 0,PE 7 (Lh 5) 122 [] [6],EG 8 5 7,TH 9 8,Ph 10 9 0,Li 11 9 (Eu .eql 10 .u8 95),EG 12 9 11,P7 12])
def jor:XF:=⟨[0],jjM,[(.t 2)]⟩
theorem jsp:jE Qaf 120=some jor:=by kernel_rfl
def jjL:XC:=(P3 [PH 2] (TD [TG 3 0] (.block 0 (.seq (PY (EE 5 3 [101,110,117,109]) 4 5 4 (PY (EE 6 3 [118,97,114]) 4 6 4 (PY (EE 7 3 [98,111,111,108]) 4 7 4 (PY (EE 8 3 [112,114,111,99,101,115,115]) 4 8 4 (PY (EE 9 3 [119,104,101,110]) 4 9 4 (PY (EE 10 3 [100,111]) 4 10 4 (PY (EE 11 3 [116,114,117,101]) 4 11 4 (PY (EE 12 3 [102,97,108,115,101]) 4 12 4 (PY (EE 13 3 [88]) 4 13 4 (PY (EE 14 3 [70]) 4 14 4 (PY (EE 15 3 [71]) 4 15 4 (PY (EE 16 3 [85]) 4 16 4 (PY (EE 17 3 [82]) 4 17 4 (PY (EE 18 3 [89]) 4 18 4 (PY (EE 19 3 [90]) 4 19 4 (PY (EE 20 3 [79]) 4 20 4 (PY (EE 21 3 [72]) 4 21 4 (PY (EE 22 3 [83]) 4 22 4 (.ops (LZ (EE 23 3 [84]) 4 23)))))))))))))))))))) (Eh 4 [P7 Ls] .skip)))) [PH 2])
def joq:XF:=⟨[0],jjL,[(.t 2)]⟩
theorem jso:jE Qaf 121=some joq:=by kernel_rfl
def jjR:XC:=(PQ [PH 2] [LQ 3,TB 4 (Eu .eql 3 .u8 32),EA 5,Ph 6 5 0,Li 7 5 (Eu .eql 6 .u8 9),EG 8 5 7,TH 9 8,Ph 10 9 0,Li 11 9 (Eu .eql 10 .u8 10),EG 12 9 11,P7 12])
def jow:XF:=⟨[0],jjR,[(.t 2)]⟩
theorem jsu:jE Qaf 115=some jow:=by kernel_rfl
def jjP:XC:=(PQ [PH 2] [LQ 3,TB 4 (Eu .neq 3 .u8 10),P7 4])
def jou:XF:=⟨[0],jjP,[(.t 2)]⟩
theorem jss:jE Qaf 117=some jou:=by kernel_rfl
def jjS:XC:=(P3 [Pb 4] (EO [LQ 6,TF 7 (.lenS 6),Pb 8] 0 9 8 7 9 0 1 (EC 10 8 5 10) (LN [TH 11 1,LQ 12,TH 13 5,TB 14 (.ixStr 12 13),TZ 15 none 11 [14],ED 16 15] 16 (EC 17 5 4 17)) 18 8 1 8 18) [LQ 19,TB 20 (.lenS 19),EB 20])
def jox:XF:=⟨[0,1],jjS,[(.t 4)]⟩
theorem jsv:jE Qaf 114=some jox:=by kernel_rfl
def jjy:XC:=(PQ [Ec] [LQ 5,TB 6 (.lenS 5),TH 7 1,TB 8 (.lenS 7),Pq 9 .geq 6 8,TH 10 9,PO 11 10 0,PO 12 10 1,L5 13 10 (.lenS 12),L5 14 10 (.slStr 11 none (some 13)),PO 15 10 1,L5 16 10 (.strb .eql 14 15),LE 17 10 16 Ld,EB 17])
def joc:XF:=⟨[0,1],jjy,[(.t 4)]⟩
theorem jsa:jE Qaf 149=some joc:=by kernel_rfl
def jjQ:XC:=(PQ [Ec] [LQ 5,TH 6 1,PZ 7 149 5 6,EB 7])
def jov:XF:=⟨[0,1],jjQ,[(.t 4)]⟩
theorem jst:jE Qaf 116=some jov:=by kernel_rfl
def jjw:XC:=(PQ [PH 3] [TO 4 1,LQ 5,PZ 6 116 4 5,TG 3 6])
def joa:XF:=⟨[0,1],jjw,[(.t 3)]⟩
theorem jr8:jE Qaf 153=some joa:=by kernel_rfl
def jjx:XC:=(P3 [Pb 4] (EO [LQ 6,LW 7 6,Pb 8] 0 9 8 7 9 0 1 (EC 10 8 5 10) (LN [TH 11 1,LQ 12,TH 13 5,Lu 14 1 12 13,TO 15 14,TQ 16 true none 11 [15]] 16 (EC 17 5 4 17)) 18 8 1 8 18) [PW 4 (-(0+1))])
def job:XF:=⟨[0,1],jjx,[(.t 4)]⟩
theorem jr9:jE Qaf 152=some job:=by kernel_rfl
def jjJ:XC:=(Ep [LV 1 0,Pb 2] [LD 5 [TN,TN,TN,TN,TN,TN,TN,TN,TN,TN,TN,TN,TN,TN,TN,TN,TN,TN,TN,TN,TN,TN,TN] [Pf 0 [60,45,62],Pf 1 [46,46],Pf 2 [58,61],Pf 3 [33,61],Pf 4 [60,61],Pf 5 [62,61],Pf 6 [45,62],PJ 7 123,PJ 8 125,PJ 9 40,PJ 10 41,PJ 11 58,PJ 12 44,PJ 13 59,PJ 14 61,PJ 15 60,PJ 16 62,PJ 17 43,PJ 18 45,PJ 19 42,PJ 20 33,PJ 21 38,PJ 22 124],La 3 [TN,TN,TN,TN,TN,TN,TN,TN,TN,TN,TN,TN,TN,TN,TN,TN,TN,TN,TN,TN,TN,TN,TN],T9 23 3 5] (Pv [TB 6 (.slA 23 1 3 none none),TB 7 (.fn 153 [1]),PZ 8 152 6 7,EB 8] [EA 9,EQ 10 .lss 9] 10 [Pb 2] (Lg [EA 11,Py 12 23 1 3 11,TO 13 12,TB 14 (.lenS 13),P7 14])))
def joo:XF:=⟨[0],jjJ,[(.t 2)]⟩
theorem jsm:jE Qaf 124=some joo:=by kernel_rfl
def jjO:XC:=(.seq (.seq (.cops [EW 6,LB (LL 7 6),LB (PC 8 7),P4 9 8,EW 10,LB (LL 11 10),LB (P6 12 11),P4 13 12,EW 14,LB (LL 15 14),LB (P6 16 15),P4 17 16,Ef 18 1,LB (Pq 19 .add 17 18),LB (TB 20 (.slStr 9 (some 13) (some 19))),LB (TF 21 (.conv 9 203 20)),LB (LW 22 21),LB (Pb 23)]) (Ln 0 (Pn (EN 24 23 22) 24 0 1 (Ep [Lu 25 1 21 23,TO 26 25,TG 5 26] [LQ 27,LL 28 27,Ew 29 28,TO 30 29,LX 31 30 1,LL 32 27,Ew 33 32,T9 1 33 31] (PU [TH 34 5,TF 35 (Eu .eql 34 .u8 10)] 35 [LQ 36,LQ 37,LQ 38,LL 39 38,TK 40 2 39,TO 41 40,LX 42 41 1,LL 43 36,TK 44 2 43,T9 1 44 42,LL 45 37,Ew 46 45,T9 1 46 Ed])) 47 23 1 23 47))) (.ops [LQ 48,LL 49 48,P6 50 49,TO 51 50,TH 52 1,Pq 53 .add 51 52,LL 54 48,P6 55 54,T9 1 55 53]))
def jot:XF:=⟨[0,1],jjO,[]⟩
theorem jsr:jE Qaf 118=some jot:=by kernel_rfl
def z74:XC:=(Ln 0 (.block 1 (.seq (.cops [EW 4,LB (LL 5 4),LB (PC 6 5),P4 7 6,EW 8,LB (LL 9 8),LB (P6 10 9),P4 11 10,LB (TB 12 (.slStr 7 (some 11) none)),LB (P7 12)]) (Lb [TH 13 2,PZ 14 114 13 (TY 115 []),TG 3 14] (PU [TH 15 3,EU 16 .eql 15,TH 17 16,PO 18 17 2,PE 19 (L4 17) 116 [] [18,T5 [47,47]],L6 20 17 19 Ld] 20 [TH 21 2,PZ 22 114 21 (TY 117 []),TG 3 22]) (.seq (Lm [TH 23 3,EQ 24 .eql 23] 24 .ret) (.ops [LQ 25,TH 26 3,PZ 27 118 25 26]))))))
def y74:XF:=⟨[0],z74,[]⟩
theorem x74:jE Qaf 74=some y74:=by kernel_rfl
def z75:XC:=(Lb [La 2 [TI,TN,TI,TI,TI],Pb 3] (.cops [EW 9,LB (LL 10 9),LB (PC 11 10),P4 12 11,EW 13,LB (LL 14 13),LB (P6 15 14),P4 16 15,LB (TB 17 (.slStr 12 (some 16) none)),LB (EB 17)]) (.seq (.cops [EW 18,LB (LL 19 18),LB (TK 20 2 19),P4 21 20,EW 22,LB (LL 23 22),LB (Ew 24 23),P4 25 24,LB (LD 26 [TI,TN,TI,TI,TI] [((0,1),LR 5),((3,1),21),((4,1),25)]),LB (La 5 [TI,TN,TI,TI,TI]),LB (T9 5 5 26)]) (Lb [Pb 6] (.block 0 (TW [EA 34,Ea 35 34 (.c TN),TG 33 35] 33 (Lg [T4 36 5 5,T9 5 2 36,Pb 3]) (TW [EA 38,TB 39 (.ixStr 38 PS),Pw 40 119 39,TG 37 40] 37 (Pv [EA 41,PZ 42 114 41 (TY 120 []),TG 6 42,PC 43 5,T9 1 43 Ed] [TH 44 6,P5 45 .gtr 44 32] 45 [T4 46 5 5,T9 5 2 46,PW 3 132] (PU [EA 47,TH 48 6,TB 49 (.slStr 47 none (some 48)),TQ 50 true none (TY 121 []) [49]] 50 [PC 51 5,T9 1 51 (LR 4)])) (TW [EA 53,TB 54 (.ixStr 53 PS),Pw 55 122 54,TG 52 55] 52 (TD [EA 56,PZ 57 114 56 (TY 122 []),TG 6 57,PC 58 5,T9 1 58 (LR 2)] (Pv [EA 60,TH 61 6,TB 62 (.slStr 60 none (some 61)),Lt 63 123 [62,LR 10,LR 64],TH 59 63,Ly 64 59 0,Ly 65 59 1,TG 7 64,TG 8 65] [TH 66 6,Lo 67 .gtr 66 7,TH 68 67,Ph 69 68 8,Li 70 68 (.gen .neq 177 true 69 (.c .nilif)),EG 71 68 70,TH 72 71,Ph 73 72 7,Ee 74 72 .gtr 73 1000000,L6 75 72 Ls 74] 75 [T4 76 5 5,T9 5 2 76,PW 3 132] (.ops [TH 77 7,TK 78 2 5,T9 1 78 77]))) (TD [EA 27,Pw 28 124 27,TG 6 28,PC 29 5,T9 1 29 (LR 3)] (LN [TH 30 6,EQ 31 .eql 30] 31 [T4 32 5 5,T9 5 2 32,PW 3 131])))))) (TD [EA 79,TH 80 6,TB 81 (.slStr 79 none (some 80)),P6 82 5,T9 1 82 81] (PQ [LQ 83,TH 84 6,PZ 85 118 83 84] [T4 86 5 5,T9 5 2 86,Pb 3])))))
def y75:XF:=⟨[0],z75,[(.cA 2 5),(.t 3)]⟩
theorem x75:jE Qaf 75=some y75:=by kernel_rfl
def z35:XC:=(Pv [Lk 2 .nils,La 3 [TI,TI,TI]] [LQ 8,TB 9 (.lenS 8),P5 10 .gtr 9 65536] 10 [LD 11 [TI,TI,TI] [((0,1),LR 132),((1,1),Ed),((2,1),Ed)],Lk 2 .nils,T9 3 3 11] (TD [LQ 12,LD 13 [TN,TI,TI,TI] [((0,1),12),((2,1),Ed),((3,1),Ed)],TB 14 (.box 13),EB 14] (L7 [Lk 5 .nils] 0 (.block 1 (TD [EA 15,Pw 16 74 15] (Lb [EA 18,Pw 19 75 18,TH 17 19,Ly 20 17 0,Ly 21 17 1,La 6 [TI,TN,TI,TI,TI],T9 5 6 20,TG 7 21] (Lm [TH 22 7,EQ 23 .neq 22] 23 (.seq (.cops [Ef 24 7,LB (Ew 25 6),P4 26 25,LB (TK 27 4 6),P4 28 27,LB (LD 29 [TI,TI,TI] [((0,1),24),((1,1),26),((2,1),28)]),LB (Lk 2 .nils),LB (T9 3 3 29)]) .ret)) (TD [TH 30 5,T4 31 5 6,LJ 32 1 5 [TI,TN,TI,TI,TI] [((0,5),31)],ES 33 5 48 30 32,TG 5 33] (LN [PC 34 6,TO 35 34,P5 36 .eql 35 5] 36 [TH 37 5,LD 38 [TI,TI,TI] [],P7 37,T9 3 3 38]))))))))
def y35:XF:=⟨[0],z35,[(.t 2),(.cA 3 3)]⟩
theorem x35:jE Qaf 35=some y35:=by kernel_rfl
end Go.Sy
end
noncomputable section
set_option maxRecDepth 100000
namespace Go.Sy
open Go.Ev Go.Proofs
variable {base:Bs}
theorem kQ (hb:NB base)(c:Nat):Tot base 119 [.int .u8 (c:Int)] (.bool (qd c)):=by
 refine hb.tot ?_ rfl rfl;refine jI jsq (by rfl) (hb.pur 119 1 (by decide)) ?_;simp only[jos,jp,Qai,Qal,Qag,Qah];rw[(by unfold jjN;simp only[qq];rfl:jjN=_)];repeat'(first|(apply jc<;>intro _)|simp(disch:=first|exact dzA|fail) only[rzZ,Qab,Qac,Qad,Qaa,Qae])
 all_goals(refine G0.v (congrArg AV.bool ?_) rfl;rw[QaX];simp only[qd,Qbc,Qar,decide_eq_true_eq,Qbb,QbG,QaR,decide_eq_false_iff_not,true_iff,false_iff,iff_true,iff_false,not_true_eq_false,not_false_eq_true,ne_eq,eq_self]<;>omega)
theorem jek (hb:NB base)(c:Nat):Tot base 122 [.int .u8 (c:Int)] (.bool (jP c)):=by
 refine hb.tot ?_ rfl rfl;refine jI jsn (by rfl) (hb.pur 122 1 (by decide)) ?_;simp only[jop,jp,Qai,Qal,Qag,Qah];rw[(by unfold jjK;simp only[qq];rfl:jjK=_)];repeat'(first|(apply jc<;>intro _)|simp(disch:=first|exact dzA|fail) only[rzZ,Qab,Qac,Qad,Qaa,Qae])
 all_goals(refine G0.v (congrArg AV.bool ?_) rfl;rw[QaX];simp only[jP,Qbc,Qar,decide_eq_true_eq,Qbb,QbG,QaR,decide_eq_false_iff_not,true_iff,false_iff,iff_true,iff_false,not_true_eq_false,not_false_eq_true,ne_eq,eq_self]<;>omega)
theorem jd3 (hb:NB base)(c:Nat):Tot base 120 [.int .u8 (c:Int)] (.bool (yn c)):=by
 refine hb.tot ?_ rfl rfl;refine jI jsp (by rfl) (hb.pur 120 1 (by decide)) ?_;simp only[jor,jp,Qai,Qal,Qag,Qah];rw[(by unfold jjM;simp only[qq];rfl:jjM=_)];repeat'(first|(apply jc<;>intro _)|simp(disch:=first|exact dzA|fail) only[kQ hb,jek hb,rzZ,Qab,Qac,Qad,Qaa,Qae])
 all_goals(refine G0.v (congrArg AV.bool ?_) rfl;unfold yn;simp_all;try omega)
theorem jnH (hb:NB base)(c:Nat):Tot base 115 [.int .u8 (c:Int)] (.bool (qN c)):=by
 refine hb.tot ?_ rfl rfl;refine jI jsu (by rfl) (hb.pur 115 1 (by decide)) ?_;simp only[jow,jp,Qai,Qal,Qag,Qah];rw[(by unfold jjR;simp only[qq];rfl:jjR=_)];repeat'(first|(apply jc<;>intro _)|simp(disch:=first|exact dzA|fail) only[rzZ,Qab,Qac,Qad,Qaa,Qae])
 all_goals(refine G0.v (congrArg AV.bool ?_) rfl;rw[QaX];simp only[qN,Qbc,Qar,decide_eq_true_eq,Qbb,QbG,QaR,decide_eq_false_iff_not,true_iff,false_iff,iff_true,iff_false,not_true_eq_false,not_false_eq_true,ne_eq,eq_self]<;>omega)
theorem jkC (hb:NB base)(c:Nat):Tot base 117 [.int .u8 (c:Int)] (.bool (Qz c)):=by
 refine hb.tot ?_ rfl rfl;refine jI jss (by rfl) (hb.pur 117 1 (by decide)) ?_;simp only[jou,jp,Qai,Qal,Qag,Qah];rw[(by unfold jjP;simp only[qq];rfl:jjP=_)];repeat'(first|(apply jc<;>intro _)|simp(disch:=first|exact dzA|fail) only[rzZ,Qab,Qac,Qad,Qaa,Qae])
 all_goals(refine G0.v (congrArg AV.bool ?_) rfl;rw[QaX];simp only[Qz,Qbc,Qar,decide_eq_true_eq,Qbb,QbG,QaR,decide_eq_false_iff_not,true_iff,false_iff,iff_true,iff_false,not_true_eq_false,not_false_eq_true,ne_eq,eq_self]<;>omega)
theorem jje (hb:NB base)(l:List Nat):Tot base 121 [.str l] (.bool (uG l)):=by
 refine hb.tot ?_ rfl rfl;refine jI jso (by rfl) (hb.pur 121 1 (by decide)) ?_;simp only[joq,jp,Qai,Qal,Qag,Qah];rw[(by unfold jjL;simp only[qq];rfl:jjL=_)];repeat'(first|(apply jc<;>intro _)|simp(disch:=first|exact dzA|fail) only[rzZ,Qab,Qac,Qad,Qaa,Qae])
 all_goals(refine G0.v ?_ rfl;unfold uG UO;simp[*])
def Pt (base:Bs)(f:FuncId)(p:Nat->Bool):Prop:=∀ c:Nat,Tot base f [.int .u8 (c:Int)] (.bool (p c))
theorem KD (hb:NB base)(l:List Nat)(hl:l.length<=4611686018427387904){f:FuncId}{p:Nat->Bool}(hf:Pt base f p):Tot base 114 [.str l,.fn f []] (.int .i64 (qg p l)):=by
 refine hb.tot ?_ rfl rfl;refine jI jsv (by rfl) (hb.pur 114 1 (by decide)) ?_;simp only[jox,jp,Qai,Qal,Qag,Qah];rw[(by unfold jjS;simp only[qq];rfl:jjS=_)];repeat'(first|(apply jc<;>intro _)|simp(disch:=first|exact dzA|fail) only[rzZ,Qab,Qac,Qad,Qaa,Qae])
 refine qy l.length (λk L s=>(∀ j,j<k->p (l.getD j 0)=true)/\Has L 0 (.str l)/\Has L 1 (.fn f [])) (by first|assumption|omega) (by decide) (by simp(disch:=decide) only[jd,jb]) (by simp(disch:=decide) only[jd,jb]) ?_ (λk L s v h=>by simp(disch:=decide) only[jb];exact h) (λk L s v h=>by simp(disch:=decide) only[jb];exact h) (λk L s hk hI hi hn=>?_) (λL s hI=>?_)
 ·refine⟨λj hj=>absurd hj (Qbn _),?_⟩;simp(disch:=decide) only[Qam,Qao,z0,z1,jd,jb,and_true,true_and]
 ·obtain⟨h0,i0,i1⟩:=hI;repeat'(first|(apply jc<;>intro _)|simp(disch:=first|exact dzA|fail) only[ja i0,ja i1,ja hi,hf (l.getD k 0),rzZ,Qab,Qac,Qad,Qaa,Qae])
  ·exact G0.v (by rw[UM (Qct hk) h0 (.inr ‹_›)]) rfl
  ·refine⟨⟨λj hj=>?_,?_⟩,?_⟩
   ·rcases QaV j k with h|h
    ·exact h0 j h
    ·rw[show j=k by omega];simpa using ‹¬ p (l.getD k 0)=false›
   ·simp(disch:=decide) only[Qam,Qao,z0,z1,jd,jb,and_true,true_and,i0,i1]
   ·simp(disch:=decide) only[Qam,Qao,z0,z1,jd,jb,and_true,true_and,hi,hn]
 ·obtain⟨h0,i0,i1⟩:=hI;repeat'(first|(apply jc<;>intro _)|simp(disch:=first|exact dzA|fail) only[ja i0,rzZ,Qab,Qac,Qad,Qaa,Qae])
  exact G0.v (by rw[UM (Qaq _) h0 (.inl rfl)]) rfl
theorem jq0 (hb:NB base)(l q:List Nat)(hl:l.length<=4611686018427387904):Tot base 149 [.str l,.str q] (.bool (begins q l)):=by
 refine hb.tot ?_ rfl rfl;refine jI jsa (by rfl) (hb.pur 149 1 (by decide)) ?_;simp only[joc,jp,Qai,Qal,Qag,Qah];rw[(by unfold jjy;simp only[qq];rfl:jjy=_)];repeat'(first|(apply jc<;>intro _)|simp(disch:=first|exact dzA|fail) only[rzZ,Qab,Qac,Qad,Qaa,Qae])
 ·exact G0.v rfl rfl
 ·exact G0.v (by rw[gL (by omega)]) rfl
theorem kB (hb:NB base)(l q:List Nat)(hl:l.length<=4611686018427387904):Tot base 116 [.str l,.str q] (.bool (begins q l)):=by
 refine hb.tot ?_ rfl rfl;refine jI jst (by rfl) (hb.pur 116 1 (by decide)) ?_;simp only[jov,jp,Qai,Qal,Qag,Qah];rw[(by unfold jjQ;simp only[qq];rfl:jjQ=_)];repeat'(first|(apply jc<;>intro _)|simp(disch:=first|exact dzA|fail) only[jq0 hb l q hl,rzZ,Qab,Qac,Qad,Qaa,Qae])
 exact G0.v rfl rfl
end Go.Sy
end
noncomputable section
set_option maxRecDepth 100000
namespace Go.Sy
open Go.Ev Go.Proofs
variable {base:Bs}
theorem Cl.bar {s:St}{b:Nat}{cs:List AV}(h:Cl s b cs):Cl s.bare b cs:=⟨h.lt,h.row,h.len,h.cell⟩
theorem jhj (hb:NB base)(r x:List Nat)(hr:r.length<=4611686018427387904){st:St}{b:Nat}(C:Cl st b [.str r])(K Kp:AV->St->Prop):XB Qaf base 153 [.str x,.ptr b 0] st K Kp=K (.bool (begins x r)) st:=by
 refine jeT (λK Kp hK=>?_) K Kp;refine JO jr8 (by rfl) (hb.at0 153 (by decide) (by decide) _ _) ?_;simp only[joa,jp,Qai,Qal,Qag,Qah];rw[(by unfold jjw;simp only[qq];rfl:jjw=_)];have C:=C.bar;have hbk:bk st st.bare=st:=rfl;have hbc:back st st.bare=st:=rfl;have hbb:st.bare.bare=st.bare:=rfl;generalize st.bare=s0 at *
 (have zz:=C.r;(repeat'(first|(apply jc<;>intro _)|simp(disch:=first|exact vH|fail) only[kB hb r x hr,hbk,hbc,hbb,C.q,C.r,rzZ,Qab,Qac,Qad,Qaa,Qae]));(all_goals(clear zz)))
 exact hK
theorem jnU (hb:NB base){xs:List (List Nat)}(hn:xs.length<=1000000)(f:FuncId)(caps:List AV)(q:List Nat->Bool){st:St}{b c:Nat}{x:Bool}(C:Cl st b (xs.map .str))
  (hq:∀ y K Kp,XB Qaf base f (.str y :: caps) st.bare K Kp=K (.bool (q y)) st.bare) (K Kp:AV->St->Prop):XB Qaf base 152 [.slice b 0 xs.length c 1 x,.fn f caps] st K Kp=K (.int .i64 (fi q xs)) st:=by
 refine jeT (λK Kp hK=>?_) K Kp;refine JO jr9 (by rfl) (hb.at0 152 (by decide) (by decide) _ _) ?_;simp only[job,jp,Qai,Qal,Qag,Qah];rw[(by unfold jjx;simp only[qq];rfl:jjx=_)];have C:=C.bar;have hbk:bk st st.bare=st:=rfl;have hbc:back st st.bare=st:=rfl;have hbb:st.bare.bare=st.bare:=rfl;generalize st.bare=s0 at *;have hl:(xs.map AV.str).length=xs.length:=QaQ ..;repeat'(first|(apply jc<;>intro _)|simp(disch:=first|exact dzA|fail) only[rzZ,Qab,Qac,Qad,Qaa,Qae])
 refine qy xs.length (λk L s=>s=s0/\(∀ j (h1:j<xs.length),j<k->q xs[j]=false)/\Has L 0 (.slice b 0 xs.length c 1 x)/\Has L 1 (.fn f caps)) (by first|assumption|omega) (by decide) (by simp(disch:=decide) only[jd,jb]) (by simp(disch:=decide) only[jd,jb]) ?_ (λk L s v h=>by simp(disch:=decide) only[jb];exact h) (λk L s v h=>by simp(disch:=decide) only[jb];exact h) (λk L s hk hI hi hn=>?_) (λL s hI=>?_)
 ·refine⟨rfl,λj _ hj=>absurd hj (Qbn _),?_⟩;simp(disch:=decide) only[Qam,Qao,z0,z1,jd,jb,and_true,true_and]
 ·obtain⟨rfl,h0,i0,i1⟩:=hI;have e:(xs.map AV.str).getD k .bad=.str xs[k]:=by simp[QaO,hk]
  (have zz:=C.r;(repeat'(first|(apply jc<;>intro _)|simp(disch:=first|exact vH|fail) only[ja i0,ja i1,ja hi,hq,hl,e,hbk,hbc,hbb,C.q,C.r,rzZ,Qab,Qac,Qad,Qaa,Qae]));(all_goals(clear zz)))
  ·rw[W8 hk (λj hj=>h0 j (by omega) hj) ‹_›] at hK;exact hK
  ·refine⟨⟨λj h1 hj=>?_,?_⟩,?_⟩
   ·rcases QaV j k with h|h
    ·exact h0 j h1 h
    ·have:j=k:=by omega
     subst this;simpa using ‹¬ q xs[j]=true›
   ·simp(disch:=decide) only[Qam,Qao,z0,z1,jd,jb,and_true,true_and,i0,i1]
   ·simp(disch:=decide) only[Qam,Qao,z0,z1,jd,jb,and_true,true_and,hi,hn]
 ·obtain⟨rfl,h0,i0,i1⟩:=hI;repeat'(first|(apply jc<;>intro _)|simp(disch:=first|exact dzA|fail) only[hbk,hbc,hbb,rzZ,Qab,Qac,Qad,Qaa,Qae])
  rw[W7 λj hj=>h0 j hj hj] at hK;exact hK
theorem HE (r:List Nat):∀ xs:List (List Nat),(fi (λx=>begins x r) xs<0/\XA r xs=0)\/∃ k,∃ h:k<xs.length,fi (λx=>begins x r) xs=k/\XA r xs=xs[k].length
 |[]=>.inl ⟨by show(-1:Int)<0;decide,rfl⟩
 |y :: xs=>by
  by_cases h:begins y r=true
  ·exact .inr ⟨0,by simp,by simp[fi,h],by simp[XA,h]⟩
  ·rcases HE r xs with ⟨h1,h2⟩|⟨k,hk,h1,h2⟩
   ·exact .inl ⟨by simp[fi,h,h1],by simp[XA,h,h2]⟩
   ·exact .inr ⟨k+1,by simpa using hk,by simp[fi,h,h1];omega,by simp[XA,h,h2]⟩
theorem jkn {k:Nat}(h:k<zk.length):(zk.map AV.str).getD k .bad=.str zk[k]:=by simp[QaO,h]
theorem jph (hb:NB base)(r:List Nat)(hr:r.length<=4611686018427387904):Tot base 124 [.str r] (.int .i64 (Q9 r)):=by
 refine hb.tot ?_ rfl rfl;refine jI jsm (by rfl) (hb.pur 124 1 (by decide)) ?_;simp only[joo,jp,Qai,Qal,Qag,Qah];rw[(by unfold jjJ;simp only[qq];rfl:jjJ=_)];repeat'(first|(apply jc<;>intro _)|simp(disch:=first|exact dzA|fail) only[rzZ,Qab,Qac,Qad,Qaa,Qae])
 refine XB.gen λu hu=>?_;have C0:Cl u 0 [.str r]:=by rw[hu];exact((Cl.new st0 [.str r]).nw _).wrO (by decide) _ _
 have C1:Cl u 1 (zk.map .str):=by rw[hu];exact(Cl.new (nw st0 _) _).wr0 rfl
 clear hu;rw[show(23:Nat)=zk.length from rfl,jnU hb (xs:=zk) (by decide) 153 [.ptr 0 0] (λx=>begins x r) C1 λy K Kp=>jhj hb r y hr C0.bar K Kp];unfold Q9;rcases HE r zk with ⟨h1,h2⟩|⟨k,hk,h1,h2⟩
 ·repeat'(first|(apply jc<;>intro _)|simp(disch:=first|exact dzA|fail) only[rzZ,Qab,Qac,Qad,Qaa,Qae])
  exact G0.v (by rw[h2];rfl) rfl
 ·have hk':k<23:=hk;have e:=jkn hk;have e2:qC u.h 1=23:=C1.len;have e3:rat u.h 1 k=.str zk[k]:=(C1.cell k (by rw[QaQ];exact hk)).trans e;repeat'(first|(apply jc<;>intro _)|simp(disch:=first|exact dzA|fail) only[h1,e2,e3,rzZ,Qab,Qac,Qad,Qaa,Qae])
  refine G0.v ?_ rfl;rw[h2]<;>rfl
def cC (l:List Nat)(a:Nat)(p:Nat×Nat):List AV:=[.str l,.int .i64 (a:Int),.int .i64 (p.1:Int),.int .i64 (p.2:Int)]
theorem u9:Tryz.prog.underlying 9=some .string:=by kernel_rfl
theorem jsE:Tryz.prog.underlying 203=some (.slice 5):=by kernel_rfl
theorem u5:Tryz.prog.underlying 5=some (.int .u8):=by kernel_rfl
theorem jhi (hb:NB base){l:List Nat}{a n:Nat}{p:Nat×Nat}(hn:a+n<=l.length)(hl:l.length<=1073741824)(h1:p.1<=1073741824)(h2:p.2<=1073741824)(hc:1<=p.2) :
  Met Qaf base 118 (cC l a p) [.int .i64 (n:Int)] (.ok (.tup [])) (cC l (a+n) (jX p ((l.drop a).take n))):=by
 refine PM.met ?_ rfl λp st=>hb.no 118 (by decide) _ _;refine qf jsr (by rfl) (hb.pur 118 3 (by decide)) rfl ?_;simp only[jot,jp,Qai,Qal,Qag,Qah];rw[(by unfold jjO;simp only[qq];rfl:jjO=_)];have hbs:((l.drop a).take n).length=n:=by rw[QaK,QaS];omega
 have e1:((a:Int)+(n:Int) - (a:Int)).toNat=n:=by omega
 unfold cC at *;repeat'(first|(apply jc<;>intro _)|simp(disch:=first|exact dzA|fail) only[jnN u9 jsE u5,e1,hbs,rzZ,Qab,Qac,Qad,Qaa,Qae])
 generalize (l.drop a).take n=bs at *;refine qy n (λk L s=>Cl s 0 (cC l a (jX p (bs.take k)))/\Cl s 1 (bs.map λ(c:Nat)=>.int .u8 (c:Int))/\Has L 0 (.ptr 0 0)/\Has L 1 (.int .i64 (n:Int))/\Has L 21 (.slice 1 0 n n 1 false)) (by first|assumption|omega) (by decide) (by simp(disch:=decide) only[jd,jb]) (by simp(disch:=decide) only[jd,jb]) ?_ (λk L s v h=>by simp(disch:=decide) only[jb];exact h) (λk L s v h=>by simp(disch:=decide) only[jb];exact h) (λk L s hk hI hi hn=>?_) (λL s hI=>?_)
 ·refine⟨(Cl.new st0 (cC l a p)).nw _,Cl.new (nw st0 _) _,?_⟩;simp(disch:=decide) only[Qam,Qao,z0,z1,jd,jb,and_true,true_and]
 ·obtain⟨C0,C1,i0,i1,i21⟩:=hI;have hk':k<bs.length:=by omega
  have e2:rat s.h 1 k=.int .u8 ((bs[k]:Nat):Int):=(C1.cell k (by rw[QaQ];exact hk')).trans (by simp[QaO,hk']);have e3:qC s.h 1=n:=by rw[C1.len,QaQ];exact hbs
  have hw:=Ws (bs.take k) p hc;have e4:jX p (bs.take (k+1))=Y9 (jX p (bs.take k)) bs[k]:=by rw[y7 hk',Vq];rfl
  rw[QaK] at hw;generalize jX p (bs.take k)=q at *;rw[e4];have L0:=C0.lt;have L1:=C1.lt;unfold cC at *
  (have zz:=C0.r;(repeat'(first|(apply jc<;>intro _)|simp(disch:=first|exact vH|fail) only[ja i0,ja i1,ja i21,ja hi,e2,e3,C0.q,C0.r,rzZ,Qab,Qac,Qad,Qaa,Qae]));(all_goals(clear zz)))
  ·refine⟨⟨?_,?_,?_⟩,?_⟩
   ·have e5:bs[k]=10:=by omega
    rw[show Y9 q bs[k]=(q.1+1,1) from if_pos e5]
    (apply Cl.cv;(· (repeat'(first|exact C0|apply Cl.wr|apply Cl.nw)));(· (simp only[Zt,Y4,ZK,wn,wm,Qai]<;>first|rfl|(simp;done)|(simp;omega))))
   ·simp(disch:=first|assumption|decide|omega|(simp only[jg,jh,jj,jk,ji,yw,Qaj,Qan];first|done|omega)) only[jA,jB,jy];exact C1
   ·simp(disch:=decide) only[Qam,Qao,z0,z1,jd,jb,and_true,true_and,i0,i1,i21]
   ·simp(disch:=decide) only[Qam,Qao,z0,z1,jd,jb,and_true,true_and,hi,hn]
  ·refine⟨⟨?_,?_,?_⟩,?_⟩
   ·have e5:¬ bs[k]=10:=by omega
    rw[show Y9 q bs[k]=(q.1,q.2+1) from if_neg e5]
    (apply Cl.cv;(· (repeat'(first|exact C0|apply Cl.wr|apply Cl.nw)));(· (simp only[Zt,Y4,ZK,wn,wm,Qai]<;>first|rfl|(simp;done)|(simp;omega))))
   ·simp(disch:=first|assumption|decide|omega|(simp only[jg,jh,jj,jk,ji,yw,Qaj,Qan];first|done|omega)) only[jA,jB,jy];exact C1
   ·simp(disch:=decide) only[Qam,Qao,z0,z1,jd,jb,and_true,true_and,i0,i1,i21]
   ·simp(disch:=decide) only[Qam,Qao,z0,z1,jd,jb,and_true,true_and,hi,hn]
 ·obtain⟨C0,C1,i0,i1,i21⟩:=hI;rw[<-hbs,QaE] at C0;have L0:=C0.lt;unfold cC at *
  (have zz:=C0.r;(repeat'(first|(apply jc<;>intro _)|simp(disch:=first|exact vH|fail) only[ja i0,ja i1,C0.q,C0.r,rzZ,Qab,Qac,Qad,Qaa,Qae]));(all_goals(clear zz)))
  refine G1.done ?_ rfl rfl FzD.u;simp(disch:=first|assumption|decide|omega|(simp only[jg,jh,jj,jk,ji,yw,Qaj,Qan];first|done|omega)) only[jA,jB,jy]
  (apply Cl.cv;(· (repeat'(first|exact C0|apply Cl.wr|apply Cl.nw)));(· (simp only[Zt,Y4,ZK,wn,wm,Qai]<;>first|rfl|(simp;done)|(simp;omega))))
end Go.Sy
end
noncomputable section
set_option maxRecDepth 100000
namespace Go.Sy
open Go.Ev Go.Proofs
variable {base:Bs}
theorem jlc (hb:NB base){l:List Nat}{a:Nat}{p:Nat×Nat}(ha:a<=l.length)(hl:l.length<=1048576)(hp1:p.1+(l.length - a)<=1073741824)(hp2:1<=p.2)(hp3:p.2+(l.length - a)<=1073741824) :
  Met Qaf base 74 (cC l a p) [] (.ok (.tup [])) (cC l (a+jW (l.drop a)) (jX p ((l.drop a).take (jW (l.drop a))))):=by
 refine PM.met ?_ rfl λp st=>hb.no 74 (by decide) _ _;refine qf x74 (by rfl) (hb.pur 74 3 (by decide)) rfl ?_;simp only[y74,jp,Qai,Qal,Qag,Qah];rw[(by unfold z74;simp only[qq];rfl:z74=_)];rw[Um];refine zY (λmm L s=>∃ d:Nat,a+d<=l.length/\mm=l.length - (a+d)/\Cl s 0 (cC l (a+d) (jX p ((l.drop a).take d)))/\jW (l.drop a)=d+jW (l.drop (a+d))/\Has L 0 (.ptr 0 0)) ?_ (l.length - a) ?_
 ·rintro mm L s ⟨d,hd,rfl,C,hg,i0⟩;have W:=Ws ((l.drop a).take d) p hp2;have hlt:((l.drop a).take d).length=d:=by rw[QaK,QaS];omega
  rw[hlt] at W;have hrl:(l.drop (a+d)).length=l.length - (a+d):=QaS;have hgap:gap (l.drop (a+d))=if qg qN (l.drop (a+d))=0/\begins [47,47] (l.drop (a+d))=true then qg Qz (l.drop (a+d)) else qg qN (l.drop (a+d)):=rfl
  have hgl:=VQ (l.drop (a+d));have hwalk:jX (jX p ((l.drop a).take d)) ((l.drop (a+d)).take (gap (l.drop (a+d))))=jX p ((l.drop a).take (d+gap (l.drop (a+d)))):=by
   rw[<-Vq,List.take_add,QbZ]
  have hg1:=λ(h:gap (l.drop (a+d))≠0)=>jch h;have hg0:=λ(h:gap (l.drop (a+d))=0)=>jci h;have hdrop:(l.drop (a+d)).drop (gap (l.drop (a+d)))=l.drop (a+(d+gap (l.drop (a+d)))):=by rw[QbZ,QbK]
  have S:=@jhi base hb l (a+d) (gap (l.drop (a+d))) (jX p ((l.drop a).take d)) (by omega) (by omega) (by omega) (by omega) (by omega);have S1:=λK Kp=>S C K Kp;have L0:=C.lt;rw[hwalk] at S1;have R1:=KD hb (l.drop (a+d)) (by omega) (jnH hb);have R2:=KD hb (l.drop (a+d)) (by omega) (jkC hb);have R3:=kB hb (l.drop (a+d)) [47,47] (by omega);have fin:gap (l.drop (a+d))=0->G1 4 (cC l (a+jW (l.drop a)) (jX p ((l.drop a).take (jW (l.drop a))))) (.tup []) (.tup []) s.bare:=λh=>by
   rw[hg,hg0 h,Qcj];exact G1.done (jy.symm▸C) rfl rfl FzD.u
  have go:gap (l.drop (a+d))≠0->∀ L,Has L 0 (.ptr 0 0)->∃ k',k'<l.length - (a+d)/\∃ d2:Nat,a+d2<=l.length/\k'=l.length - (a+d2)/\Cl (wr s 0 0 (cC l (a+d+gap (l.drop (a+d))) (jX p ((l.drop a).take (d+gap (l.drop (a+d))))))) 0 (cC l (a+d2) (jX p ((l.drop a).take d2)))/\jW (l.drop a)=d2+jW (l.drop (a+d2))/\Has L 0 (.ptr 0 0):=λh L i=>by
   refine⟨l.length - (a+(d+gap (l.drop (a+d)))),by omega,d+gap (l.drop (a+d)),by omega,rfl,?_,by rw[hg,hg1 h,hdrop,QbK],i⟩;rw[QbK];exact C.wr0 rfl
  generalize hJ:(λ(L:Sl) (st':St)=>∃ k',k'<l.length - (a+d)/\∃ d2:Nat,a+d2<=l.length/\k'=l.length - (a+d2)/\Cl st' 0 (cC l (a+d2) (jX p ((l.drop a).take d2)))/\jW (l.drop a)=d2+jW (l.drop (a+d2))/\Has L 0 (.ptr 0 0))=J at *;have go2:gap (l.drop (a+d))≠0->∀ L,Has L 0 (.ptr 0 0)->J L (wr s 0 0 (cC l (a+d+gap (l.drop (a+d))) (jX p ((l.drop a).take (d+gap (l.drop (a+d))))))):=λh L i=>by rw[<-hJ];exact go h L i
  clear go;unfold cC at *;by_cases h1:qg qN (l.drop (a+d))=0
  ·cases h2:begins [47,47] (l.drop (a+d)) with
   |true=>
    rw[if_pos ⟨h1,h2⟩] at hgap;rw[<-hgap] at R2;by_cases hz:gap (l.drop (a+d))=0
    ·(have zz:=C.r;(repeat'(first|(apply jc<;>intro _)|simp(disch:=first|exact vH|fail) only[ja i0,R1,R2,R3,h1,h2,hz,C.q,C.r,rzZ,Qab,Qac,Qad,Qaa,Qae]));(all_goals(clear zz)))
     exact fin hz
    ·(have zz:=C.r;(repeat'(first|(apply jc<;>intro _)|simp(disch:=first|exact vH|fail) only[ja i0,R1,R2,R3,S1,h1,h2,hz,C.q,C.r,rzZ,Qab,Qac,Qad,Qaa,Qae]));(all_goals(clear zz)))
     exact go2 hz _ (by simp(disch:=decide) only[Qam,Qao,z0,z1,jd,jb,and_true,true_and,i0])
   |false=>
    have hz:gap (l.drop (a+d))=0:=by rw[hgap,if_neg (λh=>by rw[h2] at h;exact absurd h.2 (by decide))];exact h1
    (have zz:=C.r;(repeat'(first|(apply jc<;>intro _)|simp(disch:=first|exact vH|fail) only[ja i0,R1,R2,R3,h1,h2,C.q,C.r,rzZ,Qab,Qac,Qad,Qaa,Qae]));(all_goals(clear zz)))
    exact fin hz
  ·have hz:gap (l.drop (a+d))=qg qN (l.drop (a+d)):=by rw[hgap,if_neg (λh=>h1 h.1)]
   rw[<-hz] at h1 R1
   (have zz:=C.r;(repeat'(first|(apply jc<;>intro _)|simp(disch:=first|exact vH|fail) only[ja i0,R1,R2,R3,S1,h1,C.q,C.r,rzZ,Qab,Qac,Qad,Qaa,Qae]));(all_goals(clear zz)))
   exact go2 h1 _ (by simp(disch:=decide) only[Qam,Qao,z0,z1,jd,jb,and_true,true_and,i0])
 ·refine⟨0,by omega,rfl,?_,by rw[QaM,Qcj],?_⟩
  ·exact Cl.new st0 (cC l a p)
  ·simp(disch:=decide) only[Qam,Qao,z0,z1,jd,jb,and_true,true_and]
end Go.Sy
end
noncomputable section
set_option maxRecDepth 100000
namespace Go.Sy
open Go.Ev Go.Proofs
variable {base:Bs}
def PI (base:Bs):Prop:=∀ (s:List Nat) (st:St),Wf s->s.length<=281474976710656->(s.length<=7->base.run 123 [.str s,.int .i64 10,.int .i64 64] st=.ok (.tup [.int .i64 (X9 s:Int),.nilif]) st)/\(7<s.length->base.run 123 [.str s,.int .i64 10,.int .i64 64] st=.ok (.tup [.bad,.bad]) st)
theorem jpG (s:St)(K:AV->St->Prop):jm (Xy Qaf .neq 177 true .nilif .nilif s) K=K (.bool false) s:=by
 have:Xy Qaf .neq 177 true .nilif .nilif s=.ok (.bool false) s:=by kernel_rfl
 rw[this];rfl
theorem FzD.nx {s:St}{t:Tk}{e e':Int}{cs:List AV}(h1:cs=t.cells)(h2:e'=e):FzD 1 9 s (.tup [.agg cs,.int .i64 e']) (.tup [.agg t.cells,.int .i64 e]):=by
 subst h1 h2;exact FzD.tup (.cons (.agg (.pc rfl)) (.pc rfl))
theorem jpF (hb:NB base)(hP:PI base){l:List Nat}{a e n:Nat}{t:Tk}{p:Nat×Nat}(ha:a<=l.length)(hl:l.length<=1048576)(hp1:p.1<=1073741824)(hp2:p.2<=1073741824)(hp3:1<=p.2)(h:ye (l.drop a) p=(e,t,n)) :
  Met Qaf base 75 (cC l a p) [] (.ok (.tup [.agg t.cells,.int .i64 (e:Int)])) (cC l (a+n) (jX p ((l.drop a).take n))):=by
 refine PM.met ?_ rfl λp st=>hb.no 75 (by decide) _ _;refine qf x75 (by rfl) (hb.pur 75 3 (by decide)) rfl ?_;simp only[y75,jp,Qai,Qal,Qag,Qah];rw[(by unfold z75;simp only[qq];rfl:z75=_)];have hrl:(l.drop a).length=l.length - a:=QaS;have S:=λ(n:Nat) (h:a+n<=l.length)=>@jhi base hb l a n p h (by omega) hp1 hp2 hp3;have C0:Cl (nw st0 (cC l a p)) 0 (cC l a p):=Cl.new st0 _;unfold cC at *;generalize hr:l.drop a=r at *;have hL:=kQ hb;have hD:=jek hb;have hI:=jd3 hb;have hR:=KD hb r (by omega) hI;have hR2:=KD hb r (by omega) hD;have hK:=jje hb;have hS:=jph hb r (by omega);have l1:=ZH yn r;have l2:=ZH jP r;have l3:=jbu r;have S1:=λst q=>@S (qg yn r) (by omega) st q;have S2:=λst q=>@S (qg jP r) (by omega) st q;have S3:=λst q=>@S (Q9 r) (by omega) st q;clear S;rcases r with _|⟨x,r'⟩
 ·simp only[ye,Prod.mk.injEq] at h;repeat'(first|(apply jc<;>intro _)|simp(disch:=first|exact dzA|fail) only[hr,rzZ,Qab,Qac,Qad,Qaa,Qae])
  obtain⟨rfl,rfl,rfl⟩:=h;refine G1.done (c':=[_,_,_,_]) ?_ rfl rfl (FzD.tup (.cons (.agg (.pc rfl)) (.pc rfl)));simp(disch:=first|assumption|decide|omega|(simp only[jg,jh,jj,jk,ji,yw,Qaj,Qan];first|done|omega)) only[jA,jB,jy];exact C0
 ·have e0:x :: r'≠[]:=by simp
  have e1:(0:Int)<((x :: r').length:Int):=by simp
  have P0:jP x=true->Wf ((x :: r').take (qg jP (x :: r'))):=λh=>jde h;have P1:jP x=true->qg jP (x :: r')<=7->∀ st K Kp,XB Qaf base 123 [.str ((x :: r').take (qg jP (x :: r'))),.int .i64 10,.int .i64 64] st K Kp=K (.tup [.int .i64 (X9 ((x :: r').take (qg jP (x :: r'))):Int),.nilif]) st:=λh h7 st K Kp=>by
   have e:((x :: r').take (qg jP (x :: r'))).length<=7:=by rw[QaK];omega
   exact hH ((hP _ st (P0 h) (by omega)).1 e) K Kp
  have P2:jP x=true->7<qg jP (x :: r')->∀ st K Kp,XB Qaf base 123 [.str ((x :: r').take (qg jP (x :: r'))),.int .i64 10,.int .i64 64] st K Kp=K (.tup [.bad,.bad]) st:=λh h7 st K Kp=>by
   have e:((x :: r').take (qg jP (x :: r'))).length=qg jP (x :: r'):=by rw[QaK];omega
   exact hH ((hP _ st (P0 h) (by omega)).2 (by omega)) K Kp
  unfold ye at h;simp only at h;generalize qg yn (x :: r')=n1 at *;generalize qg jP (x :: r')=n2 at *;generalize Q9 (x :: r')=n3 at *;by_cases c1:qd x=true
  ·rw[if_pos c1] at h
   (have zz:=aI @jA (aI @jB @C0);(repeat'(first|(apply jc<;>intro _)|simp(disch:=first|exact vH|fail) only[hr,e0,e1,hL,hR,hK,S1,jA,jB,c1,jA,jB,C0,rzZ,Qab,Qac,Qad,Qaa,Qae]));(all_goals(clear zz)))
   all_goals((first|rw[if_pos (by omega)] at h|rw[if_neg (by omega)] at h);(first|rw[if_pos (by assumption)] at h|rw[if_neg (by assumption)] at h|skip);simp only[Prod.mk.injEq] at h;obtain⟨rfl,rfl,rfl⟩:=h;refine G1.done (c':=[_,_,_,_]) ?_ rfl rfl (FzD.nx rfl rfl);simp(disch:=first|assumption|decide|omega|(simp only[jg,jh,jj,jk,ji,yw,Qaj,Qan];first|done|omega)) only[jA,jB,jy];first|exact C0|(refine Cl.wr0 (c:=[.str l,.int .i64 (a:Int),.int .i64 (p.1:Int),.int .i64 (p.2:Int)]) ?_ rfl;simp(disch:=first|assumption|decide|omega|(simp only[jg,jh,jj,jk,ji,yw,Qaj,Qan];first|done|omega)) only[jA,jB,jy];exact C0))
  ·rw[if_neg c1] at h;by_cases c2:jP x=true
   ·rw[if_pos c2] at h;by_cases h7:7<n2
    ·repeat'(first|(apply jc<;>intro _)|simp(disch:=first|exact dzA|fail) only[hr,e0,e1,hL,hD,hR2,P2,c1,c2,rzZ,Qab,Qac,Qad,Qaa,Qae])
     all_goals((first|rw[if_pos (by omega)] at h|rw[if_neg (by omega)] at h);(first|rw[if_pos (by assumption)] at h|rw[if_neg (by assumption)] at h|skip);simp only[Prod.mk.injEq] at h;obtain⟨rfl,rfl,rfl⟩:=h;refine G1.done (c':=[_,_,_,_]) ?_ rfl rfl (FzD.nx rfl rfl);simp(disch:=first|assumption|decide|omega|(simp only[jg,jh,jj,jk,ji,yw,Qaj,Qan];first|done|omega)) only[jA,jB,jy];first|exact C0|(refine Cl.wr0 (c:=[.str l,.int .i64 (a:Int),.int .i64 (p.1:Int),.int .i64 (p.2:Int)]) ?_ rfl;simp(disch:=first|assumption|decide|omega|(simp only[jg,jh,jj,jk,ji,yw,Qaj,Qan];first|done|omega)) only[jA,jB,jy];exact C0))
    ·(have zz:=aI @jA (aI @jB @C0);(repeat'(first|(apply jc<;>intro _)|simp(disch:=first|exact vH|fail) only[hr,e0,e1,hL,hD,hR2,P1,S2,c1,c2,jpG,jA,jB,C0,rzZ,Qab,Qac,Qad,Qaa,Qae]));(all_goals(clear zz)))
     all_goals((first|rw[if_pos (by omega)] at h|rw[if_neg (by omega)] at h);(first|rw[if_pos (by assumption)] at h|rw[if_neg (by assumption)] at h|skip);simp only[Prod.mk.injEq] at h;obtain⟨rfl,rfl,rfl⟩:=h;refine G1.done (c':=[_,_,_,_]) ?_ rfl rfl (FzD.nx rfl rfl);simp(disch:=first|assumption|decide|omega|(simp only[jg,jh,jj,jk,ji,yw,Qaj,Qan];first|done|omega)) only[jA,jB,jy];first|exact C0|(refine Cl.wr0 (c:=[.str l,.int .i64 (a:Int),.int .i64 (p.1:Int),.int .i64 (p.2:Int)]) ?_ rfl;simp(disch:=first|assumption|decide|omega|(simp only[jg,jh,jj,jk,ji,yw,Qaj,Qan];first|done|omega)) only[jA,jB,jy];exact C0))
   ·rw[if_neg c2] at h
    (have zz:=aI @jA (aI @jB @C0);(repeat'(first|(apply jc<;>intro _)|simp(disch:=first|exact vH|fail) only[hr,e0,e1,hL,hD,hS,S3,c1,c2,jA,jB,C0,rzZ,Qab,Qac,Qad,Qaa,Qae]));(all_goals(clear zz)))
    all_goals((first|rw[if_pos (by omega)] at h|rw[if_neg (by omega)] at h);(first|rw[if_pos (by assumption)] at h|rw[if_neg (by assumption)] at h|skip);simp only[Prod.mk.injEq] at h;obtain⟨rfl,rfl,rfl⟩:=h;refine G1.done (c':=[_,_,_,_]) ?_ rfl rfl (FzD.nx rfl rfl);simp(disch:=first|assumption|decide|omega|(simp only[jg,jh,jj,jk,ji,yw,Qaj,Qan];first|done|omega)) only[jA,jB,jy];first|exact C0|(refine Cl.wr0 (c:=[.str l,.int .i64 (a:Int),.int .i64 (p.1:Int),.int .i64 (p.2:Int)]) ?_ rfl;simp(disch:=first|assumption|decide|omega|(simp only[jg,jh,jj,jk,ji,yw,Qaj,Qan];first|done|omega)) only[jA,jB,jy];exact C0))
end Go.Sy
end
noncomputable section
set_option maxRecDepth 100000
namespace Go.Sy
open Go.Ev Go.Proofs
variable {base:Bs}
theorem Tk.cells_l (t:Tk):t.cells.length=5:=nr rfl
theorem Tk.cells_g (t:Tk)(k:Nat):t.cells.getD k .bad=([.int .i64 (t.kind:Int),.str t.text,.int .i64 (t.num:Int),.int .i64 (t.line:Int),.int .i64 (t.col:Int)]:List AV).getD k .bad:=nr rfl
theorem Tk.cells_d (t:Tk)(k:Nat):t.cells.drop k=([.int .i64 (t.kind:Int),.str t.text,.int .i64 (t.num:Int),.int .i64 (t.line:Int),.int .i64 (t.col:Int)]:List AV).drop k:=nr rfl
theorem Tk.cells_p (t:Tk):t.cells.all pc=true:=rfl
theorem Tk.cells_c (t:Tk):lall AV.cell t.cells=true:=nr rfl
theorem Tk.cells_f {st:St}{K:AV->St->Prop}{xs:List Tk}{i:Nat}(h:i<xs.length):jm (Je 5 (.lptr (fl Tk.cells xs) (i * 5)) st) K=K (.agg (Tk.cells xs[i])) st:=XP Tk.cells_l h
theorem Tk.cells_f1 {st:St}{K:AV->St->Prop}{xs:List Tk}{i:Nat}(h:i<xs.length){k:Nat}(hk:k<5):jm (yy (.lptr (fl Tk.cells xs) (i * 5+k)) st) K=K ((Tk.cells xs[i]).getD k .bad) st:=yi Tk.cells_l h hk
theorem Tk.cells_f0 {st:St}{K:AV->St->Prop}{xs:List Tk}{i:Nat}(h:i<xs.length):jm (yy (.lptr (fl Tk.cells xs) (i * 5)) st) K=K ((Tk.cells xs[i]).getD 0 .bad) st:=yi (k:=0) Tk.cells_l h (by decide)
theorem Tk.cells_R:type_of% (aI @Tk.cells_l (aI @Tk.cells_g (aI @Tk.cells_d (aI @Tk.cells_c (aI @Tk.cells_f (aI @Tk.cells_f0 @Tk.cells_f1)))))):=aI @Tk.cells_l (aI @Tk.cells_g (aI @Tk.cells_d (aI @Tk.cells_c (aI @Tk.cells_f (aI @Tk.cells_f0 @Tk.cells_f1)))))
theorem Tk.cells_E:type_of% (aI @Tk.cells_l (aI @Tk.cells_c @Tk.cells_g)):=aI @Tk.cells_l (aI @Tk.cells_c @Tk.cells_g)
theorem dzC {p:Prop}(h:p:=by first|assumption|decide|omega|(simp only[Tk.cells_E,rzN,Qaj,Qan];first|done|omega)|(apply Qr<;>first|omega|((simp(disch:=first|assumption|omega|(simp only[Tk.cells_E,rzN,Qaj,Qan];first|done|omega)) only[rzL,Qaj,Qan,QaM,Qab,Tk.cells_E ])<;>first|done|omega))|(simp(disch:=first|assumption|omega|(simp only[Tk.cells_E,rzN,Qaj,Qan];first|done|omega)) only[Tk.cells_E,rzG,Qag,Qah,Qac,Qbm,Qaj,Qan,Qaw,QaF];first|done|omega|decide)):p:=h
theorem jk5 {p:Prop}(h:p:=by first|assumption|decide|omega|(simp only[Tk.cells_E,zz,rzN,Qaj,Qan];first|done|omega)|(apply Qr<;>first|omega|((simp(disch:=first|assumption|omega|(simp only[Tk.cells_E,zz,rzN,Qaj,Qan];first|done|omega)) only[rzL,Qaj,Qan,QaM,Qab,Tk.cells_E,zz ])<;>first|done|omega))|(simp(disch:=first|assumption|omega|(simp only[Tk.cells_E,zz,rzN,Qaj,Qan];first|done|omega)) only[Tk.cells_E,zz,rzG,Qag,Qah,Qac,Qbm,Qaj,Qan,Qaw,QaF];first|done|omega|decide)):p:=h
def zX (q:Nat×Nat×Nat):List AV:=[.int .i64 (q.1:Int),.int .i64 (q.2.1:Int),.int .i64 (q.2.2:Int)]
theorem jkD {r:List Nat}{p:Nat×Nat}{e n:Nat}{t:Tk}(h:ye r p=(e,t,n)):t.line=p.1/\t.col=p.2:=by
 cases r with
 |nil=>simp[ye] at h;rw[<-h.2.1];exact⟨rfl,rfl⟩
 |cons x r'=>
  unfold ye at h;simp only at h;split at h
  ·split at h<;>(simp only[Prod.mk.injEq] at h;rw[<-h.2.1];exact⟨rfl,rfl⟩)
  ·split at h
   ·split at h<;>(simp only[Prod.mk.injEq] at h;rw[<-h.2.1];exact⟨rfl,rfl⟩)
   ·split at h<;>(simp only[Prod.mk.injEq] at h;rw[<-h.2.1];exact⟨rfl,rfl⟩)
theorem jmH (hb:NB base)(hP:PI base)(l:List Nat)(hl:l.length<=9223372036854775807):Tot base 35 [.str l] (.tup [.lst (qb l).1.length (fl Tk.cells (qb l).1),.agg (zX (qb l).2)]):=by
 refine hb.tot ?_ rfl rfl;refine jI x35 (by rfl) (hb.pur 35 1 (by decide)) ?_;simp only[y35,jp,Qai,Qal,Qag,Qah];rw[(by unfold z35;simp only[qq];rfl:z35=_)];repeat'(first|(apply jc<;>intro _)|simp(disch:=first|exact dzC|fail) only[Tk.cells_R,rzZ,Qab,Qac,Qad,Qaa,Qae])
 ·rw[show qb l=([],(132,1,1)) from if_pos (by omega)];exact FzD.tup (.cons .nils (.cons (.agg (.pc (by rfl))) .nil))
 ·have hl:l.length<=65536:=by omega
  rw[show qb l=zb l (1,1) from if_neg (by omega)];refine zY (λmm L s=>∃ (a:Nat) (p:Nat×Nat) (acc:List Tk) (v:AV),a<=l.length/\mm=l.length - a/\p.1+(l.length - a)<=l.length+1/\p.2+(l.length - a)<=l.length+1/\1<=p.2/\acc.length<=a/\ahead acc (zb (l.drop a) p)=zb l (1,1)/\2<=s.nx/\Cl s 0 [.int .i64 0,.int .i64 0,.int .i64 0]/\Cl s 1 (cC l a p)/\Lv 2 s.nx s v acc.length (fl Tk.cells acc) 5/\Has L 3 (.ptr 0 0)/\Has L 4 (.ptr 1 0)/\Has L 5 v) ?_ l.length ?_
  ·rintro mm L s ⟨a,p,acc,v,ha,rfl,h1,h2,h3,h4,h5,h6,C0,C1,V,i3,i4,i5⟩;obtain⟨m,hm⟩:∃ m,m=s.nx:=⟨_,rfl⟩;rw[<-hm] at V;have hm':m<=s.nx:=QbJ hm;have hgl:=w9 (l.drop a);rw[QaS] at hgl;have W:=Ws ((l.drop a).take (jW (l.drop a))) p h3;have hlt:((l.drop a).take (jW (l.drop a))).length=jW (l.drop a):=by rw[QaK,QaS];omega
   rw[hlt] at W;have B:=λst q=>@jlc base hb l a p ha (by omega) (by omega) h3 (by omega) st q;rcases hx:ye ((l.drop a).drop (jW (l.drop a))) (jX p ((l.drop a).take (jW (l.drop a)))) with ⟨e,t,n⟩
   have hN:=hx;rw[QbZ] at hN;have hnl:=kP hN;rw[QaS] at hnl;have N:=λst q=>@jpF base hb hP l (a+jW (l.drop a)) e n t (jX p ((l.drop a).take (jW (l.drop a)))) (by omega) (by omega) (by omega) (by omega) W.2.2 hN st q;have B1:=λK Kp=>B s 1 C1 K Kp;have N1:=λK Kp=>N (wr s 1 0 (cC l (a+jW (l.drop a)) (jX p ((l.drop a).take (jW (l.drop a)))))) 1 (C1.wr0 rfl) K Kp;clear B N;have hT:t.line=(jX p ((l.drop a).take (jW (l.drop a)))).1/\t.col=(jX p ((l.drop a).take (jW (l.drop a)))).2:=jkD hN;generalize hq:jX p ((l.drop a).take (jW (l.drop a)))=q at *;generalize hg:jW (l.drop a)=g at *;have aE:=λ(he:e≠0)=>ji4 (acc:=acc) (by rw[hg,hq];exact hx) he;have W2:=Ws ((l.drop (a+g)).take n) q W.2.2;have hlt2:((l.drop (a+g)).take n).length=n:=by rw[QaK,QaS];omega
   rw[hlt2] at W2;have A:=λst bv xc xx K h hv=>@X7 2 m acc.length 5 st v (fl Tk.cells acc) K 48 bv xc xx h (by decide) (by omega) (by omega) hv;have V2:∀ st m',Lv 2 m st v acc.length (fl Tk.cells acc) 5->2<=st.nx->m'=st.nx+1->Lv 2 m' (aps v st t.cells) (apv 5 v st) (acc ++ [t]).length (fl Tk.cells (acc ++ [t])) 5:=λst m' h h2 h3=>by
    rw[Qak,Xz,QC];exact h.put (Tk.cells_l t) h2 h3
   unfold cC at *;by_cases he:e=0
   ·subst he;have hk:=K0 hN;by_cases hn:n=0
    ·subst hn;have k5:t.kind=5:=hk.1.2 rfl
     (have zz:=aI V.ln (aI @jC (aI @jG (aI @V (aI C0.r C1.r))));(repeat'(first|(apply jc<;>intro _)|simp(disch:=first|exact jk5|fail) only[ja i3,ja i4,ja i5,B1,N1,A,V.at,C0.q,C1.q,V.ln,jC,jG,V,C0.r,C1.r,Tk.cells_R,rzZ,Qab,Qac,Qad,Qaa,Qae]));(all_goals(clear zz)))
     rw[<-h5,ji5 (by rw[hg,hq];exact hx)];refine FzD.tup (.cons ((?_:Lv 2 (s.nx+3) _ _ _ _ 5).fz (QaL _) (Jn Tk.cells_p _)) (.cons (.agg (.pc (by rfl))) .nil));simp(disch:=first|decide|omega) only[jF,jC];refine V2 _ _ ?_ (by simp only[jg,jh];omega) (by simp only[jg,jh]);simp(disch:=first|decide|omega|(simp only[jg,jh];omega)) only[jF,jC,jG];exact V
    ·have k5:¬ (t.kind:Int)=5:=λh=>hn (hk.1.1 (by omega))
     (have zz:=aI V.ln (aI @jC (aI @jG (aI @V (aI C0.r C1.r))));(repeat'(first|(apply jc<;>intro _)|simp(disch:=first|exact jk5|fail) only[ja i3,ja i4,ja i5,B1,N1,A,V.at,C0.q,C1.q,V.ln,jC,jG,V,C0.r,C1.r,Tk.cells_R,rzZ,Qab,Qac,Qad,Qaa,Qae]));(all_goals(clear zz)))
     have hA:=gT (acc:=acc) (show ye ((l.drop a).drop (jW (l.drop a))) (jX p ((l.drop a).take (jW (l.drop a))))=(0,t,n) by rw[hg,hq];exact hx) hn;rw[hg,hq] at hA;simp only[QbZ,<-QbK] at hA;refine⟨l.length - (a+g+n),by omega,a+g+n,jX q ((l.drop (a+g)).take n),acc ++ [t],?_,by omega,rfl,by omega,by omega,W2.2.2,by rw[Qak,List.length_singleton];omega,by rw[<-h5,hA],by omega,?_,?_,?_,?_,?_,?_⟩;rotate_left
     ·simp(disch:=first|decide|omega|(simp only[jg,jh];omega)) only[V.cl,jA,jB];exact C0
     ·simp(disch:=first|decide|omega|(simp only[jg,jh];omega)) only[V.cl,jA,jB];exact(C1.wr0 (by rfl)).wr0 (by rfl)
     ·refine V2 _ _ ?_ ?_ ?_;all_goals first|(simp only[jg,jh];done)|(simp only[jg,jh];omega)|(simp(disch:=first|decide|omega|(simp only[jg,jh];omega)) only[jF,jC,jG];exact V)
     ·simp(disch:=decide) only[Qam,Qao,z0,z1,jd,jb,and_true,true_and,i3]
     ·simp(disch:=decide) only[Qam,Qao,z0,z1,jd,jb,and_true,true_and,i4]
     ·simp(disch:=decide) only[Qam,Qao,z0,z1,jd,jb,and_true,true_and]
   ·(have zz:=aI V.ln (aI @jC (aI @jG (aI @V (aI C0.r C1.r))));(repeat'(first|(apply jc<;>intro _)|simp(disch:=first|exact jk5|fail) only[ja i3,ja i4,ja i5,B1,N1,A,V.at,C0.q,C1.q,V.ln,jC,jG,V,C0.r,C1.r,Tk.cells_R,rzZ,Qab,Qac,Qad,Qaa,Qae]));(all_goals(clear zz)))
    rw[<-h5,aE he];exact FzD.tup (.cons .nils (.cons (.agg (.pc (by rfl))) .nil))
  ·refine⟨0,(1,1),[],.nils,by omega,rfl,by omega,by omega,Qaq _,QaL _,HV _ _,Qaq _,?_,?_,Lv.nil,?_⟩
   ·simp(disch:=first|assumption|decide|omega|(simp only[jg,jh,jj,jk,ji,yw,Qaj,Qan];first|done|omega)) only[jA,jB,jy];exact Cl.new st0 _
   ·exact Cl.new (nw st0 _) _
   ·simp(disch:=decide) only[Qam,Qao,z0,z1,jd,jb,and_true,true_and]
end Go.Sy
end
noncomputable section
set_option maxRecDepth 100000
namespace Go.Sy
open Go.Ev Go.Proofs
def jjI:XC:=(PQ (LZ (LV 2 0) 4 Ld) [PC 5 2,TO 6 5,Px 7 6 3,TH 8 7,LG 9 8 0 2,LI 10 8 9,Ee 11 8 .eql 10 4,EG 12 8 11,TH 13 12,PO 14 13 1,P8 15 13 1 2,P9 16 13 15,PE 17 (L4 13) 154 [] [14,16],LE 18 13 17 Ld,EB 18])
def jon:XF:=⟨[0,1],jjI,[(.t 4)]⟩
theorem jsl:jE Qaf 125=some jon:=by kernel_rfl
def jjF:XC:=(P3 [LV 3 0,LV 4 1,LV 5 2,Em 6] (L7 [PW 7 14] 0 (.seq (TW [TH 8 7,P5 9 .lss 8 31] 9 .skip (.exit 0)) (LS 1 (Pz [LO (TH 12 7),(Ez 13 160 12 0 [],some [Eb 13 0,Lj (P6 14 3) 0,Ll (TO 15 14) 14 9 [(1,0)],Lj (Lk 16 LM) 0]),LU 14 1 3,Pi 15 14 14 9 [(1,0)],LO (TF 16 (.strb .eql 13 15))] (Eh 16 [TH 17 7,PT 18 4,PT 19 5,LJ 20 2 6 (PK TI TI TN TI TI) [((0,6),18),((6,6),19)],Ew 21 3,TO 22 21,TK 23 4 3,TO 24 23,LD 25 (PK TI TI TN TI TI) [((0,1),17),((3,1),20),((4,1),22),((5,1),24)],EJ 6 25] .skip)) [TH 10 7,LX 11 10 1,TG 7 11]))) [LD 26 (PK TI TI TN TI TI) [],EJ 6 26])
def jok:XF:=⟨[0,1,2],jjF,[(.cA 6 6)]⟩
theorem jsi:jE Qaf 134=some jok:=by kernel_rfl
def z94:XC:=(PQ [Lk 0 .nils] [LJ 1 1 1 [TN] [Pf 0 [60,45,62]],LD 2 [.nils,TI] [((0,1),1),((1,1),PS)],LJ 3 1 1 [TN] [Pf 0 [45,62]],LD 4 [.nils,TI] [((0,1),3),((1,1),Ed)],LJ 5 1 1 [TN] [PJ 0 124],LD 6 [.nils,TI] [((0,1),5),((1,1),PS)],LJ 7 1 1 [TN] [PJ 0 38],LD 8 [.nils,TI] [((0,1),7),((1,1),PS)],LJ 9 4 1 [TN] [PJ 0 85,PJ 1 82,PJ 2 83,PJ 3 84],LD 10 [.nils,TI] [((0,1),9),((1,1),Ed)],LJ 11 6 1 [TN] [PJ 0 61,Pf 1 [33,61],PJ 2 60,Pf 3 [60,61],PJ 4 62,Pf 5 [62,61]],LD 12 [.nils,TI] [((0,1),11),((1,1),LR 2)],LJ 13 2 1 [TN] [PJ 0 43,PJ 1 45],LD 14 [.nils,TI] [((0,1),13),((1,1),PS)],LJ 15 1 1 [TN] [PJ 0 42],LD 16 [.nils,TI] [((0,1),15),((1,1),PS)],LJ 17 8 2 [.nils,TI] [((0,2),2),((2,2),4),((4,2),6),((6,2),8),((8,2),10),((10,2),12),((12,2),14),((14,2),16)],TG 0 17])
def y94:XF:=⟨[],z94,[(.t 0)]⟩
theorem x94:jE Qaf 94=some y94:=by kernel_rfl
def z77:XC:=(TD [LV 3 1] (PU [LQ 4,P5 5 .geq 4 32] 5 [T4 6 5 3,Pw 7 50 6]))
def y77:XF:=⟨[0,1],z77,[]⟩
theorem x77:jE Qaf 77=some y77:=by kernel_rfl
def z50:XC:=(TD [LV 1 0] (.ops [Ew 2 1,TO 3 2,TK 4 4 1,TO 5 4,LD 6 [TI,TI,TI] [((0,1),LR 151),((1,1),3),((2,1),5)],TB 7 (.iface 30 6),T7 (.pan 7)]))
def y50:XF:=⟨[0],z50,[]⟩
theorem x50:jE Qaf 50=some y50:=by kernel_rfl
def z49:XC:=(Lb [La 2 [TI,TN,TI,TI,TI]] (.cops [EW 3,LB (LL 4 3),LB (PC 5 4),P4 6 5,EW 7,LB (LL 8 7),LB (P6 9 8),P4 10 9,LB (Lu 11 5 6 10),LB (T4 12 5 11),LB (T9 5 2 12)]) .ret)
def y49:XF:=⟨[0],z49,[(.cA 2 5)]⟩
theorem x49:jE Qaf 49=some y49:=by kernel_rfl
def z76:XC:=(TD (LZ (La 4 [TI,TN,TI,TI,TI]) 5 Ld) (Pv [LQ 7,Pw 8 49 7,La 6 [TI,TN,TI,TI,TI],T9 5 6 8] [T4 9 5 6,TH 10 1,PZ 11 125 9 10,ED 12 11] 12 [T4 13 5 6,T9 5 4 13,PH 5] (PQ [LQ 14,LL 15 14,P6 16 15,TO 17 16,LX 18 17 1,LL 19 14,P6 20 19,T9 1 20 18] [T4 21 5 6,T9 5 4 21,TG 5 Ls])))
def y76:XF:=⟨[0,1],z76,[(.cA 4 5),(.t 5)]⟩
theorem x76:jE Qaf 76=some y76:=by kernel_rfl
def gX:XC:=(TD [LQ 7,TH 8 1,LJ 9 1 1 [TN] [((0,1),8)],PZ 10 76 7 9,TH 6 10,Ly 11 6 0,Ly 12 6 1,La 4 [TI,TN,TI,TI,TI],T9 5 4 11,TG 5 12] (PU [TH 13 5,ED 14 13] 14 [T4 15 5 4,Pw 16 50 15]))
def jj2:XF:=⟨[0,1],gX,[]⟩
theorem joJ:jE Qaf 127=some jj2:=by kernel_rfl
def ja6:XC:=(TD [La 2 [TI,TN,TI,TI,TI]] (Lb [LQ 4,Pw 5 49 4,La 3 [TI,TN,TI,TI,TI],T9 5 3 5] (PU [PC 6 3,TO 7 6,P5 8 .neq 7 1] 8 [T4 9 5 3,Pw 10 50 9]) (PQ [LQ 11,LL 12 11,P6 13 12,TO 14 13,LX 15 14 1,LL 16 11,P6 17 16,T9 1 17 15] [T4 18 5 3,T9 5 2 18])))
def jj3:XF:=⟨[0],ja6,[(.cA 2 5)]⟩
theorem joK:jE Qaf 126=some jj3:=by kernel_rfl
def Wl:XC:=(Ep [Pb 2] [LQ 7,LJ 8 1 1 [TN] [PJ 0 45],PZ 9 76 7 8,TH 6 9,Ly 10 6 0,Ly 11 6 1,TB 3 (.alloc [TI,TN,TI,TI,TI]),T9 5 3 10,EB 11] (Lb [LQ 12,Pw 13 49 12,La 5 [TI,TN,TI,TI,TI],T9 5 5 13] (PU [PC 14 5,TO 15 14,P5 16 .neq 15 2] 16 [T4 17 5 5,Pw 18 50 17]) (Pv [LQ 19,LL 20 19,P6 21 20,TO 22 21,LX 23 22 1,LL 24 19,P6 25 24,T9 1 25 23] [TG 26 4] 26 [TK 27 2 5,TO 28 27,TB 29 (.un .neg 28),P7 29] (Lg [TK 30 2 5,TO 31 30,P7 31]))))
def ja7:XF:=⟨[0],Wl,[(.t 2)]⟩
theorem jeW:jE Qaf 128=some ja7:=by kernel_rfl
def ja4:XC:=(TD [LQ 2,LL 3 2,TK 4 2 3,TO 5 4,LX 6 5 1,LL 7 2,TK 8 2 7,T9 1 8 6] (PU [LQ 9,LL 10 9,TK 11 2 10,TO 12 11,P5 13 .gtr 12 60] 13 [LQ 14,Pw 15 49 14,Pw 16 50 15]))
def jj0:XF:=⟨[0],ja4,[]⟩
theorem joH:jE Qaf 159=some jj0:=by kernel_rfl
def QN:XC:=(Ep [Em 2] [LQ 5,Pw 6 49 5,La 3 [TI,TN,TI,TI,TI],T9 5 3 6] (Lb [Ew 7 3,TO 8 7,TK 9 4 3,TO 10 9,LD 11 (PK TI TI TN TI TI) [((4,1),8),((5,1),10)],Em 4,EJ 4 11] (.block 0 (TW [PC 15 3,TO 16 15,Px 17 16 2,TG 14 17] 14 (.dops [LU 18 2 3,Ey 19 18 18 2,LU 20 0 4,EM 1 20 Ed [(1,2)],LU 21 1 4,EM 1 21 19 []]) (TW [PC 23 3,TO 24 23,Px 25 24 1,TG 22 25] 22 (.dops [LU 26 1 3,Ey 27 26 26 9,LU 28 0 4,EM 1 28 (LR 3) [(1,9)],LU 29 2 4,EM 1 29 27 []]) (TW [T4 31 5 3,LJ 32 1 1 [TN] [Pf 0 [116,114,117,101]],PZ 33 125 31 32,TG 30 33] 30 (.ops [PC 34 4,T9 1 34 (LR 2),P6 35 4,T9 1 35 Ed]) (TW [T4 37 5 3,LJ 38 1 1 [TN] [Pf 0 [102,97,108,115,101]],PZ 39 125 37 38,TG 36 39] 36 (.ops [PC 40 4,T9 1 40 (LR 2)]) (TW [T4 42 5 3,LJ 43 1 1 [TN] [PJ 0 40],PZ 44 125 42 43,TG 41 44] 41 (Ep [LQ 45,LL 46 45,P6 47 46,TO 48 47,LX 49 48 1,LL 50 45,P6 51 50,T9 1 51 49] [LQ 52,Pw 53 159 52] (Ep [LQ 54,Lt 55 94 [],PZ 56 93 54 55,EJ 4 56] [LQ 57,LL 58 57,TK 59 2 58,TO 60 59,Lo 61 .sub 60 1,LL 62 57,TK 63 2 62,T9 1 63 61] (PQ [LQ 64,PZ 65 127 64 (T5 [41])] [PT 66 4,EJ 2 66]))) (.ops [T4 12 5 3,Pw 13 50 12]))))))) (PQ [LQ 67,LL 68 67,P6 69 68,TO 70 69,LX 71 70 1,LL 72 67,P6 73 72,T9 1 73 71] [PT 74 4,EJ 2 74])))
def uB:XF:=⟨[0],QN,[(.cA 2 6)]⟩
theorem Wn:jE Qaf 158=some uB:=by kernel_rfl
def vg:XC:=(TD [Em 2] (Pv [LQ 8,LJ 9 9 1 [TN] [PJ 0 45,PJ 1 33,PJ 2 88,PJ 3 70,PJ 4 71,PJ 5 89,PJ 6 90,PJ 7 79,PJ 8 72],PZ 10 76 8 9,TH 7 10,Ly 11 7 0,Ly 12 7 1,La 3 [TI,TN,TI,TI,TI],T9 5 3 11,EB 12] [EA 13,ED 14 13] 14 [LQ 15,Pw 16 158 15,EJ 2 16] (TD [LQ 17,Pw 18 159 17] (Ep [LQ 19,Pw 20 133 19,Em 5,EJ 5 20] [LQ 21,LL 22 21,TK 23 2 22,TO 24 23,Lo 25 .sub 24 1,LL 26 21,TK 27 2 26,T9 1 27 25] (P3 [PW 6 5] (Ln 0 (.seq (Pz [LO (TH 28 6),(Ez 29 160 28 0 [],some [Eb 29 0,Lj (P6 30 3) 0,Ll (TO 31 30) 30 9 [(1,0)],Lj (Lk 32 LM) 0]),LU 30 1 3,Pi 31 30 30 9 [(1,0)],LO (TF 32 (.strb .neq 29 31))] (LY 32 0)) (.block 1 (.ops [TH 33 6,LX 34 33 1,TG 6 34])))) [TH 35 6,PT 36 5,LJ 37 1 6 (PK TI TI TN TI TI) [((0,6),36)],Ew 38 3,TO 39 38,TK 40 4 3,TO 41 40,LD 42 (PK TI TI TN TI TI) [((0,1),35),((3,1),37),((4,1),39),((5,1),41)],EJ 2 42])))))
def gZ:XF:=⟨[0],vg,[(.cA 2 6)]⟩
theorem jbi:jE Qaf 133=some gZ:=by kernel_rfl
def z93:XC:=(Pv [Em 4] [TH 8 1,PD 9 8,EQ 10 .eql 9] 10 [LQ 11,Pw 12 133 11,EJ 4 12] (L7 [LQ 13,TH 14 1,TB 15 (.slS 2 14 (some Ed) none),PZ 16 93 13 15,Em 5,EJ 5 16] 0 (.block 1 (Pv [LQ 18,TH 19 1,Lu 20 2 19 PS,PC 21 20,TO 22 21,PZ 23 76 18 22,TH 17 23,Ly 24 17 0,Ly 25 17 1,La 6 [TI,TN,TI,TI,TI],T9 5 6 24,TG 7 25] [TH 26 7,ED 27 26] 27 [PT 28 5,EJ 4 28] (.seq (Lm [TH 29 1,Lu 30 2 29 PS,P6 31 30,TO 32 31,P5 33 .eql 32 1] 33 (Pz [EI (T4 34 5 6) 6 88,EI (PT 35 5) 5 37,LO (LQ 36),LO (TH 37 1),(LH (PZ 38 93 36 37) 0 [(2,37),(3,88)],PB),(LH (Lt 39 134 [34,35,38]) 0 [],PB),EM 6 4 39 []] .ret)) (Pz [EI (T4 40 5 6) 6 88,EI (PT 41 5) 5 37,LO (LQ 42),LO (TH 43 1),LO (TB 44 (.slS 2 43 (some Ed) none)),(LH (PZ 45 93 42 44) 0 [(3,37),(4,88)],PB),(LH (Lt 46 134 [40,41,45]) 0 [],PB),EM 6 5 46 []] (LN [TH 47 1,Lu 48 2 47 PS,P6 49 48,TO 50 49,P5 51 .eql 50 2] 51 [PT 52 5,EJ 4 52])))))))
def y93:XF:=⟨[0,1],z93,[(.cA 4 6)]⟩
theorem x93:jE Qaf 93=some y93:=by kernel_rfl
def z48:XC:=(Ep [Em 2] [LQ 5,Pw 6 49 5,La 3 [TI,TN,TI,TI,TI],T9 5 3 6] (P3 [LQ 7,Lt 8 94 [],PZ 9 93 7 8,Em 4,EJ 4 9] (PU [PT 10 4,Pw 11 95 10,ED 12 11] 12 [T4 13 5 3,Pw 14 50 13]) [PT 15 4,EJ 2 15]))
def y48:XF:=⟨[0],z48,[(.cA 2 6)]⟩
theorem x48:jE Qaf 48=some y48:=by kernel_rfl
def jju:XC:=(TD [Lk 2 TN] (Pv [LD 4 [TN,TN,TN,TN,TN,TN,TN,TN,TN,TN,TN,TN,TN,TN,TN,TN,TN,TN,TN,TN,TN,TN,TN,TN,TN,TN] [PJ 0 45,PJ 1 33,PJ 2 88,PJ 3 70,PJ 4 71,PJ 5 89,PJ 6 90,PJ 7 79,PJ 8 72,PJ 9 42,PJ 10 43,PJ 11 45,PJ 12 61,Pf 13 [33,61],PJ 14 60,Pf 15 [60,61],PJ 16 62,Pf 17 [62,61],PJ 18 85,PJ 19 82,PJ 20 83,PJ 21 84,PJ 22 38,PJ 23 124,Pf 24 [45,62],Pf 25 [60,45,62]],La 3 [TN,TN,TN,TN,TN,TN,TN,TN,TN,TN,TN,TN,TN,TN,TN,TN,TN,TN,TN,TN,TN,TN,TN,TN,TN,TN],T9 26 3 4] [LQ 5,Lo 6 .lss 5 5,TH 7 6,Ph 8 7 0,Ee 9 7 .geq 8 31,L6 10 7 Ls 9] 10 [Lk 2 TN] (Lg [LQ 11,Lo 12 .sub 11 5,Py 13 26 1 3 12,TO 14 13,P7 14])))
def jn8:XF:=⟨[0],jju,[(.t 2)]⟩
theorem jr6:jE Qaf 160=some jn8:=by kernel_rfl
def jjt:XC:=(P3 [Pb 2] (.block 0 (TW [LQ 4,Lo 5 .geq 4 5,TH 6 5,PO 7 6 0,L5 8 6 (Lf .leq 7 13),LE 9 6 8 Ld,TG 3 9] 3 (Lg [PW 2 1]) (LN [LQ 11,Lo 12 .geq 11 14,TH 13 12,PO 14 13 0,L5 15 13 (Lf .lss 14 31),LE 16 13 15 Ld,TG 10 16] 10 [PW 2 2]))) [Pb 2])
def jn7:XF:=⟨[0],jjt,[(.t 2)]⟩
theorem jr5:jE Qaf 161=some jn7:=by kernel_rfl
def jjs:XC:=(P3 (LZ (LV 1 0) 2 Ld) (TD [PC 3 1,Pa 4 3] (.block 0 (EV 6 4 1 5 6 5 [P6 7 1,TO 8 7,EU 9 .geq 8,TH 10 9,P8 11 10 1 1,P9 12 10 11,L5 13 10 (Lf .leq 12 1000000),LE 14 10 13 Ld,TH 15 14,P8 16 15 2 1,P9 17 15 16,L5 18 15 (.strb .eql 17 (.c TN)),LE 19 15 18 Ld,P7 19] (EV 21 4 2 20 21 20 [P6 22 1,TO 23 22,EU 24 .eql 23,TH 25 24,LG 26 25 1 1,LI 27 25 26,Ee 28 25 .eql 27 1,EG 29 25 28,TH 30 29,P8 31 30 2 1,P9 32 30 31,L5 33 30 (.strb .eql 32 (.c TN)),LE 34 30 33 Ld,P7 34] (EV 36 4 3 35 36 35 [P6 37 1,TO 38 37,EU 39 .eql 38,TH 40 39,P8 41 40 2 1,P9 42 40 41,PE 43 (L4 40) 179 [] [42],LE 44 40 43 Ld,P7 44] (LN (LZ (Px 46 4 4) 45 46) 45 [TK 47 2 1,TO 48 47,Ea 49 48 (.c TN),P7 49])))))) [P6 50 1,TO 51 50,EU 52 .eql 51,TH 53 52,P8 54 53 2 1,P9 55 53 54,L5 56 53 (.strb .eql 55 (.c TN)),LE 57 53 56 Ld,P7 57])
def jn6:XF:=⟨[0],jjs,[(.t 2)]⟩
theorem jr4:jE Qaf 162=some jn6:=by kernel_rfl
def z95:XC:=(PQ (LZ (LV 1 0) 2 Ld) [PT 3 1,PZ 4 135 3 (LR 60),P7 4])
def y95:XF:=⟨[0],z95,[(.t 2)]⟩
theorem x95:jE Qaf 95=some y95:=by kernel_rfl
def ja5:XC:=(P3 [LV 2 0,LV 3 1,Ec] (Pz [LU 5 0 2,Ey 6 5 5 3,LO (Lo 7 .lss 6 1),LO (TH 8 7),LO (LG 9 8 0 2),EI (LI 10 8 9) 9 3,LO (Ee 11 8 .geq 10 31),LO (EG 12 8 11),LO (TH 13 12),EI (LI 14 13 3) 3 3,LO (Ee 15 13 .lss 14 1),LO (EG 16 13 15),LO (TH 17 16),LO (LG 18 17 3 2),EI (LI 19 17 18) 18 35,LO (PV 20 17 19),LO (LG 21 17 0 2),EI (LI 22 17 21) 21 3,(LH (PE 23 (Lh 17) 161 [] [22]) 0 [(3,35)],PB),LO (Eo 24 17 .neq 20 23),LO (EG 25 17 24),LO (TH 26 25),EI (Li 27 26 (.ldA 6 2)) 2 37,(LH (PE 28 (Lh 26) 162 [] [27]) 0 [],PB),LO (Li 29 26 (L9 28)),LO (L6 30 26 Ls 29)] (Eh 30 [Ec] .skip)) [Ew 31 2,TO 32 31,TB 33 (.fn 164 [3]),PZ 34 163 32 33,TB 35 (L9 34),EB 35])
def jj1:XF:=⟨[0,1],ja5,[(.t 4)]⟩
theorem joI:jE Qaf 135=some jj1:=by kernel_rfl
def jjq:XC:=(PQ (LZ (LV 2 0) 3 Ld) [PT 4 2,TO 5 1,Lo 6 .sub 5 1,PZ 7 135 4 6,TB 8 (L9 7),TG 3 8])
def jn4:XF:=⟨[0,1],jjq,[(.t 3)]⟩
theorem jr2:jE Qaf 164=some jn4:=by kernel_rfl
def jjr:XC:=(PQ [Ec] [LQ 5,TH 6 1,PZ 7 180 5 6,EU 8 .geq 7,EB 8])
def jn5:XF:=⟨[0,1],jjr,[(.t 4)]⟩
theorem jr3:jE Qaf 163=some jn5:=by kernel_rfl
def jjl:XC:=(P3 [Pb 4] (EO [LQ 6,LW 7 6,Pb 8] 0 9 8 7 9 0 1 (EC 10 8 5 10) (LN [TH 11 1,LQ 12,TH 13 5,Lu 14 6 12 13,PT 15 14,TQ 16 true none 11 [15]] 16 (EC 17 5 4 17)) 18 8 1 8 18) [PW 4 (-(0+1))])
def jnZ:XF:=⟨[0,1],jjl,[(.t 4)]⟩
theorem jrX:jE Qaf 180=some jnZ:=by kernel_rfl
def jjv:XC:=(PQ [Ec] [LQ 5,TH 6 1,PZ 7 177 5 6,EU 8 .geq 7,EB 8])
def jn9:XF:=⟨[0,1],jjv,[(.t 4)]⟩
theorem jr7:jE Qaf 154=some jn9:=by kernel_rfl
def jjn:XC:=(P3 [Pb 4] (EO [LQ 6,LW 7 6,Pb 8] 0 9 8 7 9 0 1 (EC 10 8 5 10) (LN [TH 11 1,LQ 12,TH 13 5,Lu 14 1 12 13,TO 15 14,TF 16 (.strb .eql 11 15)] 16 (EC 17 5 4 17)) 18 8 1 8 18) [PW 4 (-(0+1))])
def jn1:XF:=⟨[0,1],jjn,[(.t 4)]⟩
theorem jrZ:jE Qaf 177=some jn1:=by kernel_rfl
def jjm:XC:=(Pv [PH 2] [LQ 3,Ea 4 3 (.c TN),EA 5,Ph 6 5 0,Li 7 5 (.lenS 6),Ee 8 5 .gtr 7 32,EG 9 5 8,TH 10 9,Ph 11 10 0,Li 12 10 (.ixStr 11 PS),PE 13 (Lh 10) 119 [] [12],Li 14 10 (L9 13),EG 15 10 14,TH 16 15,Ph 17 16 0,PE 18 (Lh 16) 121 [] [17],L6 19 16 Ls 18] 19 [PH 2] (Lg [LQ 20,PZ 21 114 20 (TY 120 []),LQ 22,TB 23 (.lenS 22),Pq 24 .eql 21 23,P7 24]))
def jn0:XF:=⟨[0],jjm,[(.t 2)]⟩
theorem jrY:jE Qaf 179=some jn0:=by kernel_rfl
end Go.Sy
end
noncomputable section
set_option maxRecDepth 100000
namespace Go.Sy
open Go.Ev Go.Proofs
variable {base:Bs}
theorem dzD {p:Prop}(h:p:=by first|assumption|decide|omega|(simp only[qV,Tk.cells_E,rzN,Qaj,Qan];first|done|omega)|(apply Qr<;>first|omega|((simp(disch:=first|assumption|omega|(simp only[qV,Tk.cells_E,rzN,Qaj,Qan];first|done|omega)) only[rzL,Qaj,Qan,QaM,Qab,qV,Tk.cells_E ])<;>first|done|omega))|(simp(disch:=first|assumption|omega|(simp only[qV,Tk.cells_E,rzN,Qaj,Qan];first|done|omega)) only[qV,Tk.cells_E,rzG,Qag,Qah,Qac,Qbm,Qaj,Qan,Qaw,QaF];first|done|omega|decide)):p:=h
theorem cyD {p:Prop}(h:p:=by apply Qr<;>first|omega|((simp(disch:=first|assumption|omega|(simp only[qV,Tk.cells_E,rzN,Qaj,Qan];first|done|omega)) only[rzL,Qaj,Qan,QaM,Qab,qV,Tk.cells_E])<;>first|done|rfl|omega|(simp;done)|(simp;omega))):p:=h
theorem qW {p:Prop}(h:p:=by first|assumption|decide|omega|(simp only[qV,Tk.cells_E,zz,rzN,Qaj,Qan];first|done|omega)|(apply Qr<;>first|omega|((simp(disch:=first|assumption|omega|(simp only[qV,Tk.cells_E,zz,rzN,Qaj,Qan];first|done|omega)) only[rzL,Qaj,Qan,QaM,Qab,qV,Tk.cells_E,zz ])<;>first|done|omega))|(simp(disch:=first|assumption|omega|(simp only[qV,Tk.cells_E,zz,rzN,Qaj,Qan];first|done|omega)) only[qV,Tk.cells_E,zz,rzG,Qag,Qah,Qac,Qbm,Qaj,Qan,Qaw,QaF];first|done|omega|decide)):p:=h
theorem qr {p:Prop}(h:p:=by apply Qr<;>first|omega|((simp(disch:=first|assumption|omega|(simp only[qV,Tk.cells_E,zz,rzN,Qaj,Qan];first|done|omega)) only[rzL,Qaj,Qan,QaM,Qab,qV,Tk.cells_E,zz])<;>first|done|rfl|omega|(simp;done)|(simp;omega))):p:=h
theorem vyD {p:Prop}(h:p:=by first|exact FzD.u|exact FzD.pa (by rfl)|exact FzD.agg (.pc (by rfl))|exact FzD.tup (.cons (FzD.agg (.pc (by rfl))) (.pc (by rfl)))|exact FzD.iface (FzD.agg (.pc (by rfl)))|exact YH|(rw[<-qI];exact FzD.agg (.pc (q8 _)))|exact FzD.agg (.pc (by simp only[q8,Tk.cells_p]))):p:=h
theorem Vu {S:List (List Nat)}{k:Nat}(h:k<S.length):(S.map AV.str).getD k .bad=.str S[k]:=by simp[QaO,h]
theorem jmF (hb:NB base)(S:List (List Nat))(hn:S.length<=1000000)(x:List Nat):Tot base 177 [.lst S.length (S.map .str),.str x] (.int .i64 (fi (λy=>decide (x=y)) S)):=by
 refine hb.tot ?_ rfl rfl;refine jI jrZ (by rfl) (hb.pur 177 1 (by decide)) ?_;simp only[jn1,jp,Qai,Qal,Qag,Qah];rw[(by unfold jjn;simp only[qq];rfl:jjn=_)];repeat'(first|(apply jc<;>intro _)|simp(disch:=first|exact dzD|fail) only[je,Tk.cells_R,rzZ,Qab,Qac,Qad,Qaa,Qae])
 refine qy S.length (λk L s=>(∀ j (h1:j<S.length),j<k->decide (x=S[j])=false)/\Has L 0 (.lst S.length (S.map .str))/\Has L 1 (.str x)) (by first|assumption|omega) (by decide) (by simp(disch:=decide) only[jd,jb]) (by simp(disch:=decide) only[jd,jb]) ?_ (λk L s v h=>by simp(disch:=decide) only[jb];exact h) (λk L s v h=>by simp(disch:=decide) only[jb];exact h) (λk L s hk hI hi hn=>?_) (λL s hI=>?_)
 ·refine⟨λj _ hj=>absurd hj (Qbn _),?_⟩;simp(disch:=decide) only[Qam,Qao,z0,z1,jd,jb,and_true,true_and]
 ·obtain⟨h0,i0,i1⟩:=hI;have hl:(S.map AV.str).length=S.length:=QaQ ..;have e:=Vu hk
  (have zz:=@hl;(repeat'(first|(apply jc<;>intro _)|simp(disch:=first|exact qW|fail) only[ja i0,ja i1,ja hi,JS,e,hl,je,Tk.cells_R,rzZ,Qab,Qac,Qad,Qaa,Qae]));(all_goals(clear zz)))
  ·exact G0.v (by rw[W8 hk (λj hj=>h0 j (by omega) hj) (by simpa using ‹x=S[k]›)]) rfl
  ·refine⟨⟨λj h1 hj=>?_,?_⟩,?_⟩
   ·rcases QaV j k with h|h
    ·simpa using h0 j h1 h
    ·have:j=k:=by omega
     subst this;simpa using ‹¬ x=S[j]›
   ·simp(disch:=decide) only[Qam,Qao,z0,z1,jd,jb,and_true,true_and,i0,i1]
   ·simp(disch:=decide) only[Qam,Qao,z0,z1,jd,jb,and_true,true_and,hi,hn]
 ·obtain⟨h0,i0,i1⟩:=hI;repeat'(first|(apply jc<;>intro _)|simp(disch:=first|exact dzD|fail) only[je,Tk.cells_R,rzZ,Qab,Qac,Qad,Qaa,Qae])
  exact G0.v (by rw[W7 λj hj=>h0 j hj hj];rfl) rfl
theorem jfL {α:Type}(q:α->Bool):∀ xs:List α,decide (0<=fi q xs)=xs.any q
 |[]=>rfl
 |x :: xs=>by
  have ih:=jfL q xs;by_cases h:q x=true
  ·simp[fi,h]
  ·rw[List.any_cons,<-ih];simp only[fi,h,if_false,Bool.false_or];by_cases h2:fi q xs<0
   ·rw[if_pos h2];simp;omega
   ·rw[if_neg h2];simp;omega
theorem jnM (x:List Nat)(S:List (List Nat)):(S.any λy=>decide (x=y))=decide (x∈S):=by
 induction S with
 |nil=>rfl
 |cons y S ih=>rw[List.any_cons,ih];simp
theorem jq2 (hb:NB base)(S:List (List Nat))(hn:S.length<=1000000)(x:List Nat):Tot base 154 [.lst S.length (S.map .str),.str x] (.bool (decide (x∈S))):=by
 refine hb.tot ?_ rfl rfl;refine jI jr7 (by rfl) (hb.pur 154 1 (by decide)) ?_;simp only[jn9,jp,Qai,Qal,Qag,Qah];rw[(by unfold jjv;simp only[qq];rfl:jjv=_)];repeat'(first|(apply jc<;>intro _)|simp(disch:=first|exact dzD|fail) only[jmF hb S hn x,je,Tk.cells_R,rzZ,Qab,Qac,Qad,Qaa,Qae])
 exact G0.v (by rw[jfL,jnM]) rfl
def isM (t:Tk)(S:List (List Nat)):Bool:=decide (t.kind=3\/t.kind=4) && decide (t.text∈S)
theorem jqY (hb:NB base)(t:Tk)(S:List (List Nat))(hn:S.length<=1000000):PX Qaf base 125 [.agg t.cells,.lst S.length (S.map .str)] (.ok (.bool (isM t S))):=by
 refine jI jsl (by rfl) (hb.pur 125 1 (by decide)) ?_;simp only[jon,jp,Qai,Qal,Qag,Qah];rw[(by unfold jjI;simp only[qq];rfl:jjI=_)];repeat'(first|(apply jc<;>intro _)|simp(disch:=first|exact dzD|fail) only[jq2 hb S hn,je,Tk.cells_R,rzZ,Qab,Qac,Qad,Qaa,Qae])
 all_goals(refine G0.v ?_ rfl;unfold isM;simp;try omega)
theorem jqX (hb:NB base)(t:Tk)(S:List (List Nat))(hn:S.length<=1000000):Tot base 125 [.agg t.cells,.lst S.length (S.map .str)] (.bool (isM t S)):=hb.tot (jqY hb t S hn) rfl rfl
def er (t:Tk):AV:=.iface 30 (.agg [.int .i64 151,.int .i64 (t.line:Int),.int .i64 (t.col:Int)])
theorem G0.er (t:Tk){s:St}:G0 (er t) (.iface 30 (.agg [.int .i64 151,.int .i64 (t.line:Int),.int .i64 (t.col:Int)])) s:=FzD.iface (FzD.agg (.pc rfl))
theorem QD (hb:NB base)(t:Tk):Ret base 50 [.agg t.cells] (.pn (er t)):=by
 refine hb.ret ?_ rfl rfl;refine jI x50 (by rfl) (hb.pur 50 1 (by decide)) ?_;simp only[y50,jp,Qai,Qal,Qag,Qah];rw[(by unfold z50;simp only[qq];rfl:z50=_)];repeat'(first|(apply jc<;>intro _)|simp(disch:=first|exact dzD|fail) only[je,Tk.cells_R,rzZ,Qab,Qac,Qad,Qaa,Qae])
 exact G0.er t
theorem jpS (hb:NB base)(op:Int):Tot base 161 [.int .i64 op] (.int .i64 (if 5<=op/\op<=13 then 1 else if 14<=op/\op<31 then 2 else 0)):=by
 refine hb.tot ?_ rfl rfl;refine jI jr5 (by rfl) (hb.pur 161 1 (by decide)) ?_;simp only[jn7,jp,Qai,Qal,Qag,Qah];rw[(by unfold jjt;simp only[qq];rfl:jjt=_)];repeat'(first|(apply jc<;>intro _)|simp(disch:=first|exact dzD|fail) only[je,Tk.cells_R,rzZ,Qab,Qac,Qad,Qaa,Qae])
 all_goals(refine G0.v ?_ rfl;repeat' split)<;>first|rfl|(exfalso;omega)|(simp_all;done)|(simp;omega)|(simp_all;omega)
def z8:List (List Nat):=[[45],[33],[88],[70],[71],[89],[90],[79],[72],[42],[43],[45],[61],[33,61],[60],[60,61],[62],[62,61],[85],[82],[83],[84],[38],[124],[45,62],[60,45,62]]
def sgn (op:Int):List Nat:=if 5<=op/\op<31 then z8.getD (op - 5).toNat [] else []
theorem jja (hb:NB base)(op:Int):Tot base 160 [.int .i64 op] (.str (sgn op)):=by
 refine hb.tot ?_ rfl rfl;refine jI jr6 (by rfl) (hb.pur 160 1 (by decide)) ?_;simp only[jn8,jp,Qai,Qal,Qag,Qah];rw[(by unfold jju;simp only[qq];rfl:jju=_)];repeat'(first|(apply jc<;>intro _)|simp(disch:=first|exact dzD|fail) only[je,Tk.cells_R,rzZ,Qab,Qac,Qad,Qaa,Qae])
 ·exact G0.v (by rw[sgn,if_neg (by omega)]) rfl
 ·exact G0.v (by rw[sgn,if_neg (by omega)]) rfl
 ·have h26:(op - 5).toNat<z8.length:=by show(op - 5).toNat<26;omega
  show G0 _ ((z8.map AV.str).getD _ _) _;rw[Qbm,Vu h26];exact G0.v (by rw[sgn,if_pos (by omega),QaB,Qav h26];rfl) rfl
def nm (l:List Nat):Bool:=decide (l≠[]) && decide (l.length<=32) && qd (l.getD 0 0) && !uG l && decide (qg yn l=l.length)
theorem jqV (hb:NB base)(l:List Nat)(hl:l.length<=4611686018427387904):Tot base 179 [.str l] (.bool (nm l)):=by
 refine hb.tot ?_ rfl rfl;have e0:¬ l=[]->0<l.length:=λh=>by cases l<;>simp_all
 refine jI jrY (by rfl) (hb.pur 179 1 (by decide)) ?_;simp only[jn0,jp,Qai,Qal,Qag,Qah];rw[(by unfold jjm;simp only[qq];rfl:jjm=_)];by_cases h:l=[]
 ·subst h;repeat'(first|(apply jc<;>intro _)|simp(disch:=first|exact dzD|fail) only[je,Tk.cells_R,rzZ,Qab,Qac,Qad,Qaa,Qae])
  exact G0.v rfl rfl
 ·have e1:(0:Int)<(l.length:Int):=by have:=e0 h;omega
  repeat'(first|(apply jc<;>intro _)|simp(disch:=first|exact dzD|fail) only[kQ hb,jje hb,KD hb l hl (jd3 hb),h,e1,je,Tk.cells_R,rzZ,Qab,Qac,Qad,Qaa,Qae])
  all_goals(refine G0.v (congrArg AV.bool ?_) rfl;rw[QaX];unfold nm;simp_all<;>omega)
def wC (x:Ex):Bool:=
 if x.op=1 then decide (0<=x.num) && decide (x.num<=1000000) && decide (x.name=[])
 else if x.op=2 then(decide (x.num=0) ||decide (x.num=1)) && decide (x.name=[])
 else if x.op=3 then decide (x.num=0) && nm x.name
 else if x.op=4 then decide (x.name=[])
 else decide (x.num=0) && decide (x.name=[])
theorem jpP (hb:NB base)(x:Ex)(hl:x.name.length<=4611686018427387904):Tot base 162 [.agg (eE x)] (.bool (wC x)):=by
 refine hb.tot ?_ (by first|rfl|simp[pa,pc,q8,Tk.cells_p]) rfl;refine jI jr4 (by rfl) (hb.pur 162 1 (by decide)) ?_;simp only[jn6,jp,Qai,Qal,Qag,Qah];rw[(by unfold jjs;simp only[qq];rfl:jjs=_)];repeat'(first|(apply jc<;>intro _)|simp(disch:=first|exact dzD|fail) only[jqV hb _ hl,je,Tk.cells_R,rzZ,Qab,Qac,Qad,Qaa,Qae])
 all_goals(refine G0.v ?_ rfl;simp only[wC];simp[*];try omega)
theorem jhq (hb:NB base)(n:Nat)(t:Tk):Ret base 77 [.int .i64 (n:Int),.agg t.cells] (if 32<=n then .pn (er t) else .ok (.tup [])):=by
 refine hb.ret ?_ rfl rfl;refine jI x77 (by rfl) (hb.pur 77 1 (by decide)) ?_;simp only[y77,jp,Qai,Qal,Qag,Qah];rw[(by unfold z77;simp only[qq];rfl:z77=_)];repeat'(first|(apply jc<;>intro _)|simp(disch:=first|exact dzD|fail) only[QD hb,je,Tk.cells_R,rzZ,Qab,Qac,Qad,Qaa,Qae])
 ·rw[if_pos (by omega)];exact FzD.iface (FzD.agg (.pc rfl))
 ·rw[if_neg (by omega)];exact FzD.u
def Xr (v:List (List Nat)×Nat):List AV:=[.lst v.1.length (v.1.map .str),.int .i64 (v.2:Int)]
def q6:List (List (List Nat)×Nat):=[([[60,45,62]],0),([[45,62]],1),([[124]],0),([[38]],0),([[85],[82],[83],[84]],1),([[61],[33,61],[60],[60,61],[62],[62,61]],2),([[43],[45]],0),([[42]],0)]
theorem jbW (hb:NB base):Tot base 94 [] (.lst 8 (fl Xr q6)):=by
 refine hb.tot ?_ rfl rfl;refine jI x94 (by rfl) (hb.pur 94 1 (by decide)) ?_;simp only[y94,jp,Qai,Qal,Qag,Qah];rw[(by unfold z94;simp only[qq];rfl:z94=_)];repeat'(first|(apply jc<;>intro _)|simp(disch:=first|exact dzD|fail) only[je,Tk.cells_R,rzZ,Qab,Qac,Qad,Qaa,Qae])
 exact⟨[8,0,1,2,3,4,5,6,7],by kernel_rfl,λb _=>QaL _⟩
end Go.Sy
end
noncomputable section
set_option maxRecDepth 100000
namespace Go.Sy
open Go.Ev Go.Proofs
variable {base:Bs}
theorem jdS {m d b cap:Nat}{s:St}{ks:List Ex}{op num l c:Int}{nm:List Nat}{ex:Bool}{cs:List AV}(C:Cl s b cs)(hc:cs=fl eE ks)(hm:m<=b) :
  FzD m (d+4) s (.agg [.int .i64 op,.int .i64 num,.str nm,.slice b 0 ks.length cap 6 ex,.int .i64 l,.int .i64 c]) (.agg (eE (.mk op num nm ks l c))):=by
 subst hc;rw[qI];have hl:=JX Jw ks;refine FzD.agg (.cons (.pc rfl) (.cons (.pc rfl) (.cons (.pc rfl) (.cons (FzD.slice C.rw_ (QbJ hl.symm) hm ?_) (.pc rfl)))));rw[<-hl,QaE];exact .pc (Jn q8 ks)
theorem YH {m d:Nat}{s:St}{op num l c:Int}{nm:List Nat}:FzD m (d+2) s (.agg [.int .i64 op,.int .i64 num,.str nm,.nils,.int .i64 l,.int .i64 c]) (.agg (eE (.mk op num nm [] l c))):=by
 rw[qI];exact FzD.agg (.cons (.pc rfl) (.cons (.pc rfl) (.cons (.pc rfl) (.cons .nils (.pc rfl)))))
theorem jkb:Go.Ev.isAgg Qaf 9=some false:=by kernel_rfl
theorem jka:Go.Ev.sizeOf Qaf 9=some 1:=by kernel_rfl
theorem KB {t:TypeId}{b i:Nat}{cs:List AV}{v:AV}{s:St}(h1:Go.Ev.isAgg Qaf t=some false)(h2:Go.Ev.sizeOf Qaf t=some 1)(C:Cl s b cs)(hi:i<cs.length)(hv:cs.getD i .bad=v)(hc:eqs v=true):qa Qaf t (.ptr b i) v s.h=true:=
 Qx h1 h2 (by rw[C.len];exact hi) ((C.cell i hi).trans hv) hc
section
variable {st:St} {K:AV->St->Prop}
theorem joW {z vs:List AV}{o:Nat}{a:List AV}(ha:z.take o=a)(h:o+vs.length=z.length):upd z o vs=a ++ vs:=by
 rw[<-uQ z o vs (by omega),ha,h];simp
theorem jqS {cx cy:List AV}{z0 z1 z2 z3 z4 z5:AV}(hx:cx.length=6)(hy:cy.length=6)(hlx:lall AV.cell cx=true)(hly:lall AV.cell cy=true) :
  jm (GQ 2 6 [z0,z1,z2,z3,z4,z5] [((0,6),.agg cx),((6,6),.agg cy)] st) K=K (.slice st.nx 0 2 2 6 true) (nw st (cx ++ cy)):=by
 have e1:upd ([z0,z1,z2,z3,z4,z5] ++ [z0,z1,z2,z3,z4,z5]) 0 cx=cx ++ [z0,z1,z2,z3,z4,z5]:=by
  rw[<-uQ _ 0 cx (by rw[hx];exact Nat.le_add_left _ _),hx];rfl
 have e2:upd (cx ++ [z0,z1,z2,z3,z4,z5]) 6 cy=cx ++ cy:=joW (by rw[<-hx,List.take_left]) (by rw[Qak,hx,hy];rfl);rw[jlj,Uy,Uy,KK,Qbf,jaY (v:=.agg cx) rfl hx (Nat.le_add_left 6 6),YZ,e1,jaY (v:=.agg cy) rfl hy (by rw[Qak,hx];exact Qaq 12),YZ,e2,jgl (by rw[jkK _ _ hlx,hly])]
end
def ZO (text:List Nat):Option Nat:=(QaW 17).find? λi=>decide (sgn ((14+i:Nat):Int)=text)
def zA (t:Tk)(x y:Ex):Ex:=match ZO t.text with
 |some i=>.mk ((14+i:Nat):Int) 0 [] [x,y] t.line t.col
 |none=>.mk 0 0 [] [] 0 0
theorem jkz {text:List Nat}{i:Nat}(hi:i<17)(h:sgn ((14+i:Nat):Int)=text)(hj:∀ j,j<i->sgn ((14+j:Nat):Int)≠text):ZO text=some i:=by
 unfold ZO;rw[List.find?_range_eq_some];exact⟨by simpa using h,by simpa using hi,λj hj'=>by simpa using hj j hj'⟩
theorem jky {text:List Nat}(hj:∀ j,j<17->sgn ((14+j:Nat):Int)≠text):ZO text=none:=by
 unfold ZO;rw[List.find?_range_eq_none];exact λj hj'=>by simpa using hj j hj'
def zE:List AV:=[.int .i64 0,.int .i64 0,.str [],.nils,.int .i64 0,.int .i64 0]
theorem jrx (hb:NB base)(t:Tk)(x y:Ex):Tot base 134 [.agg t.cells,.agg (eE x),.agg (eE y)] (.agg (eE (zA t x y))):=by
 refine hb.tot ?_ (by first|rfl|simp[pa,pc,q8,Tk.cells_p]) rfl;refine jI jsi (by rfl) (hb.pur 134 1 (by decide)) ?_;simp only[jok,jp,Qai,Qal,Qag,Qah];rw[(by unfold jjF;simp only[qq];rfl:jjF=_)];repeat'(first|(apply jc<;>intro _)|simp(disch:=first|exact dzD|fail) only[je,Tk.cells_R,rzZ,Qab,Qac,Qad,Qaa,Qae])
 have hC:=Cl.new st0 t.cells;have hs:qa Qaf 9 (.ptr 0 1) (.str t.text) (nw (nw (nw (nw st0 t.cells) (eE x)) (eE y)) zE).h=true:=KB jkb jka (((hC.nw _).nw _).nw _) (QbN (Qbr 3)) rfl rfl;unfold zE at hs;refine zY (λmm L s=>∃ i:Nat,i<=17/\mm=17 - i/\s=nw (nw (nw (nw st0 t.cells) (eE x)) (eE y)) zE/\(∀ j,j<i->sgn ((14+j:Nat):Int)≠t.text)/\Has L 3 (.ptr 0 0)/\Has L 4 (.ptr 1 0)/\Has L 5 (.ptr 2 0)/\Has L 6 (.ptr 3 0)/\Has L 7 (.int .i64 ((14+i:Nat):Int))) ?_ 17 ?_
 ·rintro mm L s ⟨i,hi,rfl,rfl,hj,i3,i4,i5,i6,i7⟩;unfold zE;have hS:=jja hb ((14+i:Nat):Int);repeat'(first|(apply jc<;>intro _)|simp(disch:=first|exact dzD|fail) only[ja i3,ja i4,ja i5,ja i6,ja i7,hS,hs,↓jqS,je,Tk.cells_R,rzZ,Qab,Qac,Qad,Qaa,Qae])
  ·have e:zA t x y=.mk ((14+i:Nat):Int) 0 [] [x,y] t.line t.col:=by unfold zA;rw[jkz (by omega) ‹_› hj]
   rw[e];refine jdS (ks:=[x,y]) (cs:=eE x ++ eE y) ?_ (by simp[fl]) (QaL _);simp(disch:=first|assumption|decide|omega|(simp only[jg,jh,jj,jk,ji,yw,Qaj,Qan];first|done|omega)) only[jA,jB,jy];exact Cl.new _ _
  ·refine⟨17 - (i+1),by omega,i+1,by omega,rfl,λj hj'=>?_,?_⟩
   ·by_cases h:j=i
    ·rw[h];assumption
    ·exact hj j (by omega)
   ·rw[show((14+(i+1):Nat):Int)=((14+i:Nat):Int)+1 by omega];simp(disch:=decide) only[Qam,Qao,z0,z1,jd,jb,and_true,true_and,i3,i4,i5,i6]
  ·have e:zA t x y=.mk 0 0 [] [] 0 0:=by unfold zA;rw[jky λj hj'=>hj j (by omega)]
   rw[e];exact YH
 ·refine⟨0,by omega,rfl,rfl,λj hj=>absurd hj (Qbn _),?_⟩;rw[show((14+0:Nat):Int)=14 from rfl];simp(disch:=decide) only[Qam,Qao,z0,z1,jd,jb,and_true,true_and]
end Go.Sy
end
noncomputable section
set_option maxRecDepth 100000
namespace Go.Sy
open Go.Ev Go.Proofs
variable {base:Bs}
theorem jlr {P:Program}{f:FuncId}{xs:List AV}{st:St}{v:AV}{R:St->Prop}(h:∀ K Kp:AV->St->Prop,(∀ s,R s->K v s)->XB P base f xs st K Kp):∃ s,R s/\∀ K Kp:AV->St->Prop,XB P base f xs st K Kp=K v s:=by
 obtain⟨r,⟨N,D,h1⟩,h4⟩:=h (λv' s'=>v'=v/\R s') (λ_ _=>False) λs hs=>⟨rfl,hs⟩;cases r with
 |no=>exact h4.elim
 |pn v s=>exact h4.elim
 |ok v' s'=>
  obtain⟨rfl,hR⟩:=h4;exact⟨_,hR,λK Kp=>propext ⟨λ⟨r2,⟨N2,D2,h2⟩,h3⟩=>by
   have e1:=h1 (max N N2) (QaJ ..) (max D D2) (QaJ ..);have e2:=h2 (max N N2) (QaH ..) (max D D2) (QaH ..);rw[e1] at e2;subst e2;exact h3,λh=>⟨_,⟨N,D,h1⟩,h⟩⟩⟩
theorem jnx (hb:NB base)(xs:List Ex)(hn:xs.length<=4611686018427387904)(f:FuncId)(caps:List AV)(q:Ex->Bool){R:St->Prop}(hR:∀ s t:St,R s->R (bk t s))(hR2:∀ s:St,R s->R s.bare)
  (hq:∀ y∈xs,∀ s:St,R s->∃ s',R s'/\∀ K Kp:AV->St->Prop,XB Qaf base f (.agg (eE y) :: caps) s K Kp=K (.bool (q y)) s') {st:St} (h0:R st) :
  ∃ s',R s'/\∀ K Kp:AV->St->Prop,XB Qaf base 180 [.lst xs.length (fl eE xs),.fn f caps] st K Kp=K (.int .i64 (fi q xs)) s':=by
 refine jlr λK Kp hK=>?_;refine JO jrX (by rfl) (hb.at0 180 (by decide) (by decide) _ _) ?_;simp only[jnZ,jp,Qai,Qal,Qag,Qah];rw[(by unfold jjl;simp only[qq];rfl:jjl=_)];have h0:=hR2 _ h0;have hK:∀ s,R s->K (.int .i64 (fi q xs)) (bk st s):=λs h=>hK _ (hR _ _ h);have hbk:bk st st.bare=st:=rfl;have hbc:back st st.bare=st:=rfl;have hbb:st.bare.bare=st.bare:=rfl;generalize st.bare=s0 at *;repeat'(first|(apply jc<;>intro _)|simp(disch:=first|exact dzD|fail) only[je,Tk.cells_R,rzZ,Qab,Qac,Qad,Qaa,Qae])
 refine qy xs.length (λk L s=>R s/\(∀ j (h1:j<xs.length),j<k->q xs[j]=false)/\Has L 0 (.lst xs.length (fl eE xs))/\Has L 1 (.fn f caps)) (by first|assumption|omega) (by decide) (by simp(disch:=decide) only[jd,jb]) (by simp(disch:=decide) only[jd,jb]) ?_ (λk L s v h=>by simp(disch:=decide) only[jb];exact h) (λk L s v h=>by simp(disch:=decide) only[jb];exact h) (λk L s hk hI hi hn=>?_) (λL s hI=>?_)
 ·refine⟨h0,λj _ hj=>absurd hj (Qbn _),?_⟩;simp(disch:=decide) only[Qam,Qao,z0,z1,jd,jb,and_true,true_and]
 ·obtain⟨hs,h0,i0,i1⟩:=hI;obtain⟨s',hs',e⟩:=hq xs[k] (Qay hk) s hs;repeat'(first|(apply jc<;>intro _)|simp(disch:=first|exact dzD|fail) only[ja i0,ja i1,ja hi,e,je,Tk.cells_R,rzZ,Qab,Qac,Qad,Qaa,Qae])
  ·have:=hK _ (hR2 _ hs');rw[W8 hk (λj hj=>h0 j (by omega) hj) ‹_›] at this;exact this
  ·refine⟨⟨hs',λj h1 hj=>?_,?_⟩,?_⟩
   ·rcases QaV j k with h|h
    ·exact h0 j h1 h
    ·have:j=k:=by omega
     subst this;simpa using ‹¬ q xs[j]=true›
   ·simp(disch:=decide) only[Qam,Qao,z0,z1,jd,jb,and_true,true_and,i0,i1]
   ·simp(disch:=decide) only[Qam,Qao,z0,z1,jd,jb,and_true,true_and,hi,hn]
 ·obtain⟨hs,h0,i0,i1⟩:=hI;repeat'(first|(apply jc<;>intro _)|simp(disch:=first|exact dzD|fail) only[je,Tk.cells_R,rzZ,Qab,Qac,Qad,Qaa,Qae])
  have:=hK _ (hR2 _ hs);rw[W7 λj hj=>h0 j hj hj] at this;exact this
theorem jqO (hb:NB base)(xs:List Ex)(hn:xs.length<=4611686018427387904)(f:FuncId)(caps:List AV)(q:Ex->Bool){R:St->Prop}(hR:∀ s t:St,R s->R (bk t s))(hR2:∀ s:St,R s->R s.bare)
  (hq:∀ y∈xs,∀ s:St,R s->∃ s',R s'/\∀ K Kp:AV->St->Prop,XB Qaf base f (.agg (eE y) :: caps) s K Kp=K (.bool (q y)) s') {st:St} (h0:R st) :
  ∃ s',R s'/\∀ K Kp:AV->St->Prop,XB Qaf base 163 [.lst xs.length (fl eE xs),.fn f caps] st K Kp=K (.bool (xs.any q)) s':=by
 refine jlr λK Kp hK=>?_;refine JO jr3 (by rfl) (hb.at0 163 (by decide) (by decide) _ _) ?_;simp only[jn5,jp,Qai,Qal,Qag,Qah];rw[(by unfold jjr;simp only[qq];rfl:jjr=_)];have h0:=hR2 _ h0;have hK:∀ s,R s->K (.bool (xs.any q)) (bk st s):=λs h=>hK _ (hR _ _ h);have hbk:bk st st.bare=st:=rfl;have hbc:back st st.bare=st:=rfl;have hbb:st.bare.bare=st.bare:=rfl;generalize st.bare=s0 at *;obtain⟨s',hs',e⟩:=jnx hb xs hn f caps q hR hR2 hq h0;repeat'(first|(apply jc<;>intro _)|simp(disch:=first|exact dzD|fail) only[e,je,Tk.cells_R,rzZ,Qab,Qac,Qad,Qaa,Qae])
 rw[jfL];exact hK _ hs'
def yv:Nat->Ex->Bool
 |0,_=>false
 |d+1,x=>decide (1<=x.op) && decide (x.op<31) && decide ((x.kids.length:Int)=if 5<=x.op/\x.op<=13 then 1 else if 14<=x.op/\x.op<31 then 2 else 0) && wC x && x.kids.all (yv d)
theorem jo0:Go.Ev.isAgg Qaf 3=some false:=by kernel_rfl
theorem joZ:Go.Ev.sizeOf Qaf 3=some 1:=by kernel_rfl
theorem jlL:Go.Ev.isAgg Qaf 35=some false:=by kernel_rfl
theorem jlK:Go.Ev.sizeOf Qaf 35=some 1:=by kernel_rfl
theorem jad:Go.Ev.isAgg Qaf 37=some true:=by kernel_rfl
theorem jac:Go.Ev.sizeOf Qaf 37=some 6:=by kernel_rfl
theorem jpk {t:TypeId}{b k:Nat}{cs:List AV}{s:St}(h1:Go.Ev.isAgg Qaf t=some true)(h2:Go.Ev.sizeOf Qaf t=some k)(C:Cl s b cs)(hi:cs.length=k)(hk:0<k)(hc:cs.all eqs=true):qa Qaf t (.ptr b 0) (.agg cs) s.h=true:=
 ZX h1 h2 hk (by rw[C.len];omega) (by rw[C.ratsP k 0 (by omega),Qbs,<-hi,QaE]) hc
theorem jsK (hb:NB base){y:Ex}{d b:Nat}{v:Bool}(hd:d<=60)(ih:Tot base 135 [.agg (eE y),.int .i64 (d:Int)] (.bool v)){st:St}(C:Cl st b [.int .i64 ((d+1:Nat):Int)])(K Kp:AV->St->Prop) :
  XB Qaf base 164 [.agg (eE y),.ptr b 0] st K Kp=K (.bool (!v)) (nw st (eE y)):=by
 refine jeT (λK Kp hK=>?_) K Kp;refine JO jr2 (by rfl) (hb.at0 164 (by decide) (by decide) _ _) ?_;simp only[jn4,jp,Qai,Qal,Qag,Qah];rw[(by unfold jjq;simp only[qq];rfl:jjq=_)];have hK:K (.bool (!v)) (bk st (nw st.bare (eE y))):=hK;have C:=C.bar;have hbk:bk st st.bare=st:=rfl;have hbc:back st st.bare=st:=rfl;have hbb:st.bare.bare=st.bare:=rfl;generalize st.bare=s0 at *;have L0:=C.lt;have e:((d+1:Nat):Int) - 1=(d:Int):=by omega
 (have zz:=C.r;(repeat'(first|(apply jc<;>intro _)|simp(disch:=first|exact qW|fail) only[ih,e,C.q,C.r,je,Tk.cells_R,rzZ,Qab,Qac,Qad,Qaa,Qae]));(all_goals(clear zz)))
 exact hK
theorem vn (d:Nat)(x:Ex):yv (d+1) x=(decide (1<=x.op) && decide (x.op<31) && decide ((x.kids.length:Int)=if 5<=x.op/\x.op<=13 then 1 else if 14<=x.op/\x.op<31 then 2 else 0) && wC x && x.kids.all (yv d)):=rfl
theorem jew {α:Type}(p:α->Bool):∀ xs:List α,xs.all p = !(xs.any λx=>!p x)
 |[]=>rfl
 |x :: xs=>by rw[QaY,List.any_cons,jew p xs];cases p x<;>simp
theorem jm1 (hb:NB base):∀ (d:Nat),d<=60->∀ x:Ex,szE x<=BIG->Tot base 135 [.agg (eE x),.int .i64 (d:Int)] (.bool (yv d x)):=by
 intro d;induction d with
 |zero=>
  intro _ x hx;refine hb.tot ?_ (by first|rfl|simp[pa,pc,q8,Tk.cells_p]) rfl;refine jI joI (by rfl) (hb.pur 135 1 (by decide)) ?_;simp only[jj1,jp,Qai,Qal,Qag,Qah];rw[(by unfold ja5;simp only[qq];rfl:ja5=_)];repeat'(first|(apply jc<;>intro _)|simp(disch:=first|exact dzD|fail) only[je,Tk.cells_R,rzZ,Qab,Qac,Qad,Qaa,Qae])
  all_goals exact G0.v rfl rfl
 |succ d ih=>
  intro hd x hx;refine hb.tot ?_ (by first|rfl|simp[pa,pc,q8,Tk.cells_p]) rfl;refine jI joI (by rfl) (hb.pur 135 1 (by decide)) ?_;simp only[jj1,jp,Qai,Qal,Qag,Qah];rw[(by unfold ja5;simp only[qq];rfl:ja5=_)];have hs1:∀ k v,k<6->(eE x).getD k .bad=v->eqs v=true->qa Qaf 3 (.ptr 0 k) v (nw (nw st0 (eE x)) [.int .i64 ((d+1:Nat):Int)]).h=true:=λk v hk hv hc=>KB jo0 joZ ((Cl.new st0 (eE x)).nw _) (by rw[Jw];exact hk) hv hc;have hs2:qa Qaf 35 (.ptr 0 3) (.lst x.kids.length (fl eE x.kids)) (nw (nw st0 (eE x)) [.int .i64 ((d+1:Nat):Int)]).h=true:=KB jlL jlK ((Cl.new st0 (eE x)).nw _) (by rw[Jw];decide) (GN x 3) rfl;have hs3:qa Qaf 37 (.ptr 0 0) (.agg (eE x)) (nw (nw st0 (eE x)) [.int .i64 ((d+1:Nat):Int)]).h=true:=jpk jad jac ((Cl.new st0 (eE x)).nw _) (Jw x) (by decide) (by rw[qI];rfl);have hkl:=Zw x.kids;have hsz:=Y8 x;have hB:BIG=1099511627776:=rfl;have hs:=vn d x;obtain⟨s',_,e⟩:=jqO hb x.kids (by omega) 164 [.ptr 1 0] (λy=>!yv d y) (R:=λs=>Cl s 1 [.int .i64 ((d+1:Nat):Int)]) (λs t h=>⟨h.lt,h.row,h.len,h.cell⟩) (λs h=>h.bar)
   (λy hy s C=>⟨nw s (eE y),C.nw _,λK Kp=>jsK hb (by omega) (ih (by omega) y (by
    obtain⟨k,hk,rfl⟩:=List.getElem_of_mem hy;have:=Zx hk;omega)) C K Kp⟩) (Cl.new (nw st0 (eE x)) [.int .i64 ((d+1:Nat):Int)])
  repeat'(first|(apply jc<;>intro _)|simp(disch:=first|exact dzD|fail) only[jpS hb,jpP hb x (by omega),hs1,hs2,hs3,e,je,Tk.cells_R,rzZ,Qab,Qac,Qad,Qaa,Qae])
  ·refine G0.v ?_ rfl;rw[hs];simp;omega
  ·refine G0.v ?_ rfl;rw[hs];simp;omega
  ·refine G0.v ?_ rfl;rw[hs];simp[*]
  ·refine G0.v ?_ rfl;rw[hs];simp[*]
  ·refine G0.v ?_ rfl;rw[hs,jew];first|(simp[*];done)|(simp[*];omega)|(simp;intro _;refine⟨⟨⟨by omega,by omega⟩,by simp_all⟩,by simp_all⟩)
theorem jnR (hb:NB base)(x:Ex)(hx:szE x<=BIG):Tot base 95 [.agg (eE x)] (.bool (yv 60 x)):=by
 refine hb.tot ?_ (by first|rfl|simp[pa,pc,q8,Tk.cells_p]) rfl;refine jI x95 (by rfl) (hb.pur 95 1 (by decide)) ?_;simp only[y95,jp,Qai,Qal,Qag,Qah];rw[(by unfold z95;simp only[qq];rfl:z95=_)];have:Tot base 135 [.agg (eE x),.int .i64 60] (.bool (yv 60 x)):=jm1 hb 60 (Qaq _) x hx;repeat'(first|(apply jc<;>intro _)|simp(disch:=first|exact dzD|fail) only[this,je,Tk.cells_R,rzZ,Qab,Qac,Qad,Qaa,Qae])
 exact G0.v rfl rfl
end Go.Sy
end
noncomputable section
set_option maxRecDepth 100000
namespace Go.Sy
open Go.Ev Go.Proofs
variable {base:Bs}
def tk (ts:List Tk)(i:Nat):Tk:=ts.getD i ⟨0,[],0,0,0⟩
theorem jlP {ts:List Tk}{i:Nat}(h:i<ts.length):ts[i]=tk ts i:=by simp[tk,QaO,h]
def pC (ts:List Tk)(i d:Nat):List AV:=[.lst ts.length (fl Tk.cells ts),.int .i64 (i:Int),.int .i64 (d:Int)]
theorem Ze (hb:NB base){ts:List Tk}{i d:Nat}(hi:i<ts.length):Met Qaf base 49 (pC ts i d) [] (.ok (.agg (tk ts i).cells)) (pC ts i d):=by
 refine PM.met ?_ rfl λp st=>hb.no 49 (by decide) _ _;refine qf x49 (by rfl) (hb.pur 49 3 (by decide)) rfl ?_;simp only[y49,jp,Qai,Qal,Qag,Qah];rw[(by unfold z49;simp only[qq];rfl:z49=_)];unfold pC;repeat'(first|(apply jc<;>intro _)|simp(disch:=first|exact dzD|fail) only[hi,je,Tk.cells_R,rzZ,Qab,Qac,Qad,Qaa,Qae])
 rw[jlP hi];refine G1.done ?_ rfl rfl (FzD.agg (.pc (by rfl)));simp(disch:=first|assumption|decide|omega|(simp only[jg,jh,jj,jk,ji,yw,Qaj,Qan];first|done|omega)) only[jA,jB,jy];exact Cl.new _ _
theorem uS (S:List (List Nat)):(S.map AV.str).all pc=true:=by induction S with|nil=>rfl|cons x S ih=>simp[pc]
theorem jhb (hb:NB base){ts:List Tk}{i d:Nat}(hi:i<ts.length)(h2:i<=1000000)(S:List (List Nat))(hS:S.length<=1000000) :
  (isM (tk ts i) S=true->PM Qaf base 76 (pC ts i d) [.lst S.length (S.map .str)] (.ok (.tup [.agg (tk ts i).cells,.bool true])) (pC ts (i+1) d)) /\
  (isM (tk ts i) S=false->PM Qaf base 76 (pC ts i d) [.lst S.length (S.map .str)] (.ok (.tup [.agg (tk ts i).cells,.bool false])) (pC ts i d)):=by
 have N:=λst p=>@Ze base hb ts i d hi st p;unfold pC at *;constructor<;>intro h
 ·refine qf x76 (by rfl) (hb.pur 76 3 (by decide)) rfl ?_;simp only[y76,jp,Qai,Qal,Qag,Qah];rw[(by unfold z76;simp only[qq];rfl:z76=_)];repeat'(first|(apply jc<;>intro _)|simp(disch:=first|exact dzD|fail) only[N,jqX hb (tk ts i) S hS,h,je,Tk.cells_R,rzZ,Qab,Qac,Qad,Qaa,Qae])
  (refine G1.done ?_ (by rfl) (by rfl) ?_;(· (first|exact cyD|fail));(· first|exact vyD|skip))
 ·refine qf x76 (by rfl) (hb.pur 76 3 (by decide)) rfl ?_;simp only[y76,jp,Qai,Qal,Qag,Qah];rw[(by unfold z76;simp only[qq];rfl:z76=_)];repeat'(first|(apply jc<;>intro _)|simp(disch:=first|exact dzD|fail) only[N,jqX hb (tk ts i) S hS,h,je,Tk.cells_R,rzZ,Qab,Qac,Qad,Qaa,Qae])
  (refine G1.done ?_ (by rfl) (by rfl) ?_;(· (first|exact cyD|fail));(· first|exact vyD|skip))
theorem jo7 (hb:NB base){ts:List Tk}{i d:Nat}(hi:i<ts.length)(h2:i<=1000000)(S:List (List Nat))(hS:S.length<=1000000){st:St}{p:Nat}(C:Cl st p (pC ts i d))(K Kp:AV->St->Prop) :
  XB Qaf base 76 [.ptr p 0,.lst S.length (S.map .str)] st K Kp=ifW (isM (tk ts i) S=true) (K (.tup [.agg (tk ts i).cells,.bool true]) (wr st p 0 (pC ts (i+1) d))) (K (.tup [.agg (tk ts i).cells,.bool false]) (wr st p 0 (pC ts i d))):=by
 have T:=jhb hb hi h2 (d:=d) S hS;cases h:isM (tk ts i) S with
 |true=>rw[gn rfl];exact(T.1 h).xb C rfl (λst=>hb.no 76 (by decide) _ _) K Kp
 |false=>rw[gq (by decide)];exact(T.2 h).xb C rfl (λst=>hb.no 76 (by decide) _ _) K Kp
theorem Y7 (hb:NB base){ts:List Tk}{i d:Nat}(hi:i<ts.length)(h2:i<=1000000)(S:List (List Nat)){cs:List AV}{n:Nat}(hc:S.map .str=cs)(hn:S.length=n)(hS:n<=1000000)(st:St)(p b m:Nat)(x:Bool)(C:Cl st p (pC ts i d))(D:Cl st b cs)(hne:p≠b)(K Kp:AV->St->Prop) :
  XB Qaf base 76 [.ptr p 0,.slice b 0 n m 1 x] st K Kp=ifW (isM (tk ts i) S=true) (K (.tup [.agg (tk ts i).cells,.bool true]) (wr (kl b st) p 0 (pC ts (i+1) d))) (K (.tup [.agg (tk ts i).cells,.bool false]) (wr (kl b st) p 0 (pC ts i d))):=by
 subst hc hn;have T:=jhb hb hi h2 (d:=d) S hS;have F:Fza st [.slice b 0 S.length m 1 x] [.lst S.length (S.map .str)] [b]:=Fza.sl D (by simp) (uS S) .nil;have C':Cl (kills [b] st) p (pC ts i d):=(jN hne).symm▸C;cases h:isM (tk ts i) S with
 |true=>rw[gn rfl];exact(T.1 h).xbk C' F rfl (λst=>hb.no 76 (by decide) _ _) K Kp
 |false=>rw[gq (by decide)];exact(T.2 h).xbk C' F rfl (λst=>hb.no 76 (by decide) _ _) K Kp
theorem jkP (hb:NB base)(t:Tk)(S:List (List Nat)){cs:List AV}{n:Nat}(hc:S.map .str=cs)(hn:S.length=n)(hS:n<=1000000)(st:St)(b m:Nat)(x:Bool)(D:Cl st b cs)(K Kp:AV->St->Prop) :
  XB Qaf base 125 [.agg t.cells,.slice b 0 n m 1 x] st K Kp=K (.bool (isM t S)) (kl b st):=by
 subst hc hn;have F:Fza st [.agg t.cells,.slice b 0 S.length m 1 x] [.agg t.cells,.lst S.length (S.map .str)] [b]:=Fza.pa (by rfl) (Fza.sl D (by simp) (uS S) .nil);exact(jqY hb t S hS).xf F (λst=>hb.no 125 (by decide) _ _) K Kp
theorem jpH (hb:NB base){ts:List Tk}{i d:Nat}(hi:i<ts.length)(h2:i<=1000000)(c:List Nat) :
  (isM (tk ts i) [c]=true->PM Qaf base 127 (pC ts i d) [.str c] (.ok (.tup [])) (pC ts (i+1) d)) /\
  (isM (tk ts i) [c]=false->PM Qaf base 127 (pC ts i d) [.str c] (.pn (er (tk ts i))) (pC ts i d)):=by
 have T:=Y7 hb hi h2 (d:=d) [c] (cs:=[.str c]) (n:=1) rfl rfl (by decide);unfold pC at *;constructor<;>intro h
 ·refine qf joJ (by rfl) (hb.pur 127 3 (by decide)) rfl ?_;simp only[jj2,jp,Qai,Qal,Qag,Qah];rw[(by unfold gX;simp only[qq];rfl:gX=_)];repeat'(first|(apply jc<;>intro _)|simp(disch:=first|exact dzD|fail) only[T,h,QD hb,je,Tk.cells_R,rzZ,Qab,Qac,Qad,Qaa,Qae])
  (refine G1.done ?_ (by rfl) (by rfl) ?_;(· (first|exact cyD|fail));(· first|exact vyD|skip))
 ·refine qf joJ (by rfl) (hb.pur 127 3 (by decide)) rfl ?_;simp only[jj2,jp,Qai,Qal,Qag,Qah];rw[(by unfold gX;simp only[qq];rfl:gX=_)];repeat'(first|(apply jc<;>intro _)|simp(disch:=first|exact dzD|fail) only[T,h,QD hb,je,Tk.cells_R,rzZ,Qab,Qac,Qad,Qaa,Qae])
  (refine G1.done ?_ (by rfl) (by rfl) ?_;(· (first|exact cyD|fail));(· first|exact vyD|skip))
theorem PM.two {P:Program}{f:FuncId}{cs xs c1 c2:List AV}{o1 o2:Oc}{q:Bool}(h:(q=true->PM P base f cs xs o1 c1)/\(q=false->PM P base f cs xs o2 c2))(hp:xs.all pa=true)(hb:∀ p st,base.run f (.ptr p 0 :: xs) st=.no){st:St}{p:Nat}(C:Cl st p cs)(K Kp:AV->St->Prop) :
  XB P base f (.ptr p 0 :: xs) st K Kp=ifW (q=true) (YG o1 K Kp (wr st p 0 c1)) (YG o2 K Kp (wr st p 0 c2)):=by
 cases hq:q with
 |true=>rw[gn rfl];exact(h.1 hq).xb C hp (hb p) K Kp
 |false=>rw[gq (by decide)];exact(h.2 hq).xb C hp (hb p) K Kp
theorem Q0 (hb:NB base){ts:List Tk}{i d:Nat}(hi:i<ts.length)(h2:i<=1000000)(c:List Nat){st:St}{p:Nat}(C:Cl st p (pC ts i d))(K Kp:AV->St->Prop) :
  XB Qaf base 127 [.ptr p 0,.str c] st K Kp=ifW (isM (tk ts i) [c]=true) (K (.tup []) (wr st p 0 (pC ts (i+1) d))) (Kp (er (tk ts i)) (wr st p 0 (pC ts i d))):=
 PM.two (o1:=.ok _) (o2:=.pn _) (jpH hb hi h2 c) rfl (λ_ _=>hb.no 127 (by decide) _ _) C K Kp
theorem uZ (hb:NB base){ts:List Tk}{i d:Nat}(hi:i<ts.length)(h2:i<=1000000){st:St}{p:Nat}(C:Cl st p (pC ts i d))(K Kp:AV->St->Prop) :
  XB Qaf base 126 [.ptr p 0] st K Kp=ifW (decide ((tk ts i).kind=1)=true) (K (.agg (tk ts i).cells) (wr st p 0 (pC ts (i+1) d))) (Kp (er (tk ts i)) (wr st p 0 (pC ts i d))):=by
 refine PM.two (o1:=.ok _) (o2:=.pn _) ?_ rfl (λ_ _=>hb.no 126 (by decide) _ _) C K Kp;have N:=λst p=>@Ze base hb ts i d hi st p;unfold pC at *;clear C;constructor<;>intro h
 ·have h':((tk ts i).kind:Int)=1:=by simp at h;omega
  refine qf joK (by rfl) (hb.pur 126 3 (by decide)) rfl ?_;simp only[jj3,jp,Qai,Qal,Qag,Qah];rw[(by unfold ja6;simp only[qq];rfl:ja6=_)];repeat'(first|(apply jc<;>intro _)|simp(disch:=first|exact dzD|fail) only[N,h',QD hb,je,Tk.cells_R,rzZ,Qab,Qac,Qad,Qaa,Qae])
  (refine G1.done ?_ (by rfl) (by rfl) ?_;(· (first|exact cyD|fail));(· first|exact vyD|skip))
 ·have h':¬ ((tk ts i).kind:Int)=1:=by simp at h;omega
  refine qf joK (by rfl) (hb.pur 126 3 (by decide)) rfl ?_;simp only[jj3,jp,Qai,Qal,Qag,Qah];rw[(by unfold ja6;simp only[qq];rfl:ja6=_)];repeat'(first|(apply jc<;>intro _)|simp(disch:=first|exact dzD|fail) only[N,h',QD hb,je,Tk.cells_R,rzZ,Qab,Qac,Qad,Qaa,Qae])
  (refine G1.done ?_ (by rfl) (by rfl) ?_;(· (first|exact cyD|fail));(· first|exact vyD|skip))
theorem jhH (hb:NB base){ts:List Tk}{i d:Nat}(hi:i<ts.length)(h2:d<=1000000){st:St}{p:Nat}(C:Cl st p (pC ts i d))(K Kp:AV->St->Prop) :
  XB Qaf base 159 [.ptr p 0] st K Kp=ifW (decide (60<d+1)=true) (Kp (er (tk ts i)) (wr st p 0 (pC ts i (d+1)))) (K (.tup []) (wr st p 0 (pC ts i (d+1)))):=by
 refine PM.two (o1:=.pn _) (o2:=.ok _) ?_ rfl (λ_ _=>hb.no 159 (by decide) _ _) C K Kp;have N:=λst p=>@Ze base hb ts i (d+1) hi st p;have e:((d:Int)+1)=((d+1:Nat):Int):=by omega
 unfold pC at *;clear C;constructor<;>intro h
 ·have h':(60:Int)<((d+1:Nat):Int):=by simp at h;omega
  refine qf joH (by rfl) (hb.pur 159 3 (by decide)) rfl ?_;simp only[jj0,jp,Qai,Qal,Qag,Qah];rw[(by unfold ja4;simp only[qq];rfl:ja4=_)];repeat'(first|(apply jc<;>intro _)|simp(disch:=first|exact dzD|fail) only[N,h',QD hb,e,je,Tk.cells_R,rzZ,Qab,Qac,Qad,Qaa,Qae])
  (refine G1.done ?_ (by rfl) (by rfl) ?_;(· (first|exact cyD|fail));(· first|exact vyD|skip))
 ·have h':¬ (60:Int)<((d+1:Nat):Int):=by simp at h;omega
  refine qf joH (by rfl) (hb.pur 159 3 (by decide)) rfl ?_;simp only[jj0,jp,Qai,Qal,Qag,Qah];rw[(by unfold ja4;simp only[qq];rfl:ja4=_)];repeat'(first|(apply jc<;>intro _)|simp(disch:=first|exact dzD|fail) only[N,h',QD hb,e,je,Tk.cells_R,rzZ,Qab,Qac,Qad,Qaa,Qae])
  (refine G1.done ?_ (by rfl) (by rfl) ?_;(· (first|exact cyD|fail));(· first|exact vyD|skip))
end Go.Sy
end
noncomputable section
set_option maxRecDepth 100000
namespace Go.Sy
open Go.Ev Go.Proofs
abbrev Lev:=List (List Nat)×Nat
def yJ:List (List Nat):=[[45],[33],[88],[70],[71],[89],[90],[79],[72]]
def Yn (text:List Nat):Nat:=5+yJ.idxOf text
inductive PR where
 |ok (x:Ex) (j:Nat)
 |er (t:Tk)
mutual
def qw (ts:List Tk):Nat->List Lev->Nat->Nat->Option PR
 |0,_,_,_=>none
 |n+1,[],i,d=>qZ ts n i d
 |n+1,v :: l,i,d=>match qw ts n l i d with
  |some (.ok x j)=>yE ts n v l x j d
  |r=>r
def yE (ts:List Tk):Nat->Lev->List Lev->Ex->Nat->Nat->Option PR
 |0,_,_,_,_,_=>none
 |n+1,v,l,x,i,d=>
  if isM (tk ts i) v.1=true then
   (if v.2=1 then(match qw ts n (v :: l) (i+1) d with
    |some (.ok y j)=>some (.ok (zA (tk ts i) x y) j)
    |r=>r)
   else(match qw ts n l (i+1) d with
    |some (.ok y j)=>if v.2=2 then some (.ok (zA (tk ts i) x y) j) else yE ts n v l (zA (tk ts i) x y) j d
    |r=>r))
  else some (.ok x i)
def qZ (ts:List Tk):Nat->Nat->Nat->Option PR
 |0,_,_=>none
 |n+1,i,d=>
  if isM (tk ts i) yJ=true then
   (if 60<d+1 then some (.er (tk ts (i+1))) else(match qZ ts n (i+1) (d+1) with
    |some (.ok x j)=>some (.ok (.mk (Yn (tk ts i).text:Nat) 0 [] [x] (tk ts i).line (tk ts i).col) j)
    |r=>r))
  else yO ts n i d
def yO (ts:List Tk):Nat->Nat->Nat->Option PR
 |0,_,_=>none
 |n+1,i,d=>
  if(tk ts i).kind=2 then some (.ok (.mk 1 (tk ts i).num [] [] (tk ts i).line (tk ts i).col) (i+1))
  else if(tk ts i).kind=1 then some (.ok (.mk 3 0 (tk ts i).text [] (tk ts i).line (tk ts i).col) (i+1))
  else if isM (tk ts i) [[116,114,117,101]]=true then some (.ok (.mk 2 1 [] [] (tk ts i).line (tk ts i).col) (i+1))
  else if isM (tk ts i) [[102,97,108,115,101]]=true then some (.ok (.mk 2 0 [] [] (tk ts i).line (tk ts i).col) (i+1))
  else if isM (tk ts i) [[40]]=true then
   (if 60<d+1 then some (.er (tk ts (i+1))) else(match qw ts n q6 (i+1) (d+1) with
    |some (.ok x j)=>if isM (tk ts j) [[41]]=true then some (.ok x (j+1)) else some (.er (tk ts j))
    |r=>r))
  else some (.er (tk ts i))
end
structure Wds (ts:List Tk):Prop where
 len:ts.length<=1000000
 next:∀ i,i<ts.length->(tk ts i).kind≠5->i+1<ts.length
 txt:∀ i,(tk ts i).text.length<=65536
theorem WZ {t:Tk}{S:List (List Nat)}(h:isM t S=true):(t.kind=3\/t.kind=4)/\t.text∈S:=by
 simpa[isM] using h
theorem Wds.isM {ts:List Tk}(W:Wds ts){i:Nat}(hi:i<ts.length){S:List (List Nat)}(h:isM (tk ts i) S=true):i+1<ts.length:=W.next i hi (by have:=(WZ h).1;omega)
def Sz (ts:List Tk)(i:Nat)(a:Nat)(r:PR):Prop:=match r with | .ok x j=>i<=j/\j<ts.length/\szE x<=a+(j - i) * 65537 | .er _=>True
theorem Xh (op num:Int)(nm:List Nat)(ks:List Ex)(l c:Int):szE (.mk op num nm ks l c)=yp ks+nm.length+1:=rfl
theorem jmV (t:Tk)(x y:Ex):szE (zA t x y)<=szE x+szE y+1:=by
 unfold zA;split
 ·rw[Xh];simp[yp]
 ·rw[Xh];simp[yp]
theorem Kw {ts:List Tk}(W:Wds ts):∀ n,(∀ lv i d r,qw ts n lv i d=some r->i<ts.length->Sz ts i 0 r)/\(∀ v l x i d r,yE ts n v l x i d=some r->i<ts.length->Sz ts i (szE x) r)/\(∀ i d r,qZ ts n i d=some r->i<ts.length->Sz ts i 0 r)/\(∀ i d r,yO ts n i d=some r->i<ts.length->Sz ts i 0 r):=by
 intro n;induction n with
 |zero=>exact⟨λ_ _ _ _ h=>(by simp[qw] at h),λ_ _ _ _ _ _ h=>(by simp[yE] at h),λ_ _ _ h=>(by simp[qZ] at h),λ_ _ _ h=>(by simp[yO] at h)⟩
 |succ n ih=>
  obtain⟨iE,iL,iP,iV⟩:=ih;refine⟨λlv i d r h hi=>?_,λv l x i d r h hi=>?_,λi d r h hi=>?_,λi d r h hi=>?_⟩
  ·cases lv with
   |nil=>unfold qw at h;exact iP i d r h hi
   |cons v l=>
    unfold qw at h;cases hx:qw ts n l i d with
    |none=>rw[hx] at h;cases h
    |some q=>cases q with
     |er t=>rw[hx] at h;cases h;trivial
     |ok x j=>
      rw[hx] at h;have h1:=iE l i d _ hx hi;have h2:=iL v l x j d r h h1.2.1;cases r with
      |er t=>trivial
      |ok y k=>
       simp only[Sz] at h1 h2 ⊢;obtain⟨a1,a2,a3⟩:=h1;obtain⟨b1,b2,b3⟩:=h2;refine⟨by omega,b2,?_⟩;have:(k - i) * 65537=(k - j) * 65537+(j - i) * 65537:=by rw[<-Qbt];congr 1;omega
       omega
  ·unfold yE at h;by_cases c:isM (tk ts i) v.1=true
   ·rw[if_pos c] at h;have hi1:=W.isM hi c;have key:∀ lv y j,qw ts n lv (i+1) d=some (.ok y j)->i<=j/\j<ts.length/\szE (zA (tk ts i) x y)<=szE x+(j - i) * 65537:=λlv y j he=>by
     have h1:=iE lv (i+1) d _ he hi1;simp only[Sz] at h1;obtain⟨a1,a2,a3⟩:=h1;have:=jmV (tk ts i) x y;have:(j - i) * 65537=(j - (i+1)) * 65537+65537:=by rw[<-Qbw];congr 1;omega
     exact⟨by omega,a2,by omega⟩
    by_cases w1:v.2=1
    ·rw[if_pos w1] at h;cases he:qw ts n (v :: l) (i+1) d with
     |none=>rw[he] at h;cases h
     |some q=>cases q with
      |er t=>rw[he] at h;cases h;trivial
      |ok y j=>rw[he] at h;cases h;exact key _ y j he
    ·rw[if_neg w1] at h;cases he:qw ts n l (i+1) d with
     |none=>rw[he] at h;cases h
     |some q=>cases q with
      |er t=>rw[he] at h;cases h;trivial
      |ok y j=>
       rw[he] at h;have hk:=key _ y j he;by_cases w2:v.2=2
       ·simp only[w2,if_true] at h;cases h;exact hk
       ·simp only[w2,if_false] at h;have h2:=iL v l _ j d r h hk.2.1;cases r with
        |er t=>trivial
        |ok z k=>
         simp only[Sz] at h2 ⊢;obtain⟨b1,b2,b3⟩:=h2;refine⟨by omega,b2,?_⟩;have:(k - i) * 65537=(k - j) * 65537+(j - i) * 65537:=by rw[<-Qbt];congr 1;omega
         omega
   ·rw[if_neg c] at h;cases h;exact⟨Qaq _,hi,by omega⟩
  ·unfold qZ at h;by_cases c:isM (tk ts i) yJ=true
   ·rw[if_pos c] at h;have hi1:=W.isM hi c;by_cases hd:60<d+1
    ·rw[if_pos hd] at h;cases h;trivial
    ·rw[if_neg hd] at h;cases he:qZ ts n (i+1) (d+1) with
     |none=>rw[he] at h;cases h
     |some q=>cases q with
      |er t=>rw[he] at h;cases h;trivial
      |ok y j=>
       rw[he] at h;cases h;have h1:=iP (i+1) (d+1) _ he hi1;simp only[Sz] at h1 ⊢;obtain⟨a1,a2,a3⟩:=h1;have:(j - i) * 65537=(j - (i+1)) * 65537+65537:=by rw[<-Qbw];congr 1;omega
       refine⟨by omega,a2,?_⟩;rw[Xh];simp[yp];omega
   ·rw[if_neg c] at h;exact iV i d r h hi
  ·unfold yO at h;have ht:=W.txt i;have leaf:∀ (x:Ex),szE x<=65537->i+1<ts.length->Sz ts i 0 (.ok x (i+1)):=λx hx h1=>⟨by omega,h1,by omega⟩;by_cases k2:(tk ts i).kind=2
   ·rw[if_pos k2] at h;cases h;exact leaf _ (by rw[Xh];simp[yp]) (W.next i hi (by omega))
   rw[if_neg k2] at h;by_cases k1:(tk ts i).kind=1
   ·rw[if_pos k1] at h;cases h;exact leaf _ (by rw[Xh];simp[yp];omega) (W.next i hi (by omega))
   rw[if_neg k1] at h;split at h
   ·cases h;exact leaf _ (by rw[Xh];simp[yp]) (W.isM hi ‹_›)
   split at h
   ·cases h;exact leaf _ (by rw[Xh];simp[yp]) (W.isM hi ‹_›)
   split at h
   ·rename_i c;have hi1:=W.isM hi c;by_cases hd:60<d+1
    ·rw[if_pos hd] at h;cases h;trivial
    ·rw[if_neg hd] at h;cases he:qw ts n q6 (i+1) (d+1) with
     |none=>rw[he] at h;cases h
     |some q=>cases q with
      |er t=>rw[he] at h;cases h;trivial
      |ok y j=>
       rw[he] at h;have h1:=iE q6 (i+1) (d+1) _ he hi1;simp only[Sz] at h1;obtain⟨a1,a2,a3⟩:=h1;dsimp only at h;by_cases c2:isM (tk ts j) [[41]]=true
       ·rw[if_pos c2] at h;cases h;have:=W.isM a2 c2;simp only[Sz];exact⟨by omega,this,Qau a3 (Nat.add_le_add_left (QaN _ (by omega)) _)⟩
       ·rw[if_neg c2] at h;cases h;trivial
   ·cases h;trivial
end Go.Sy
end
noncomputable section
set_option maxRecDepth 100000
namespace Go.Sy
open Go.Ev Go.Proofs
variable {base:Bs}
def Ans (base:Bs)(f:FuncId)(c xs:List AV)(ts:List Tk)(d:Nat):PR->Prop
 |.ok x j=>PM Qaf base f c xs (.ok (.agg (eE x))) (pC ts j d)
 |.er t=>∃ i' d',PM Qaf base f c xs (.pn (er t)) (pC ts i' d')
def okL (lv:List Lev):Prop:=lv.length<=8/\∀ v∈lv,v.1.length<=6
def IsE (base:Bs)(ts:List Tk)(n:Nat):Prop:=∀ lv i d r,qw ts n lv i d=some r->i<ts.length->d<=60->okL lv->Ans base 93 (pC ts i d) [.lst lv.length (fl Xr lv)] ts d r
def IsP (base:Bs)(ts:List Tk)(n:Nat):Prop:=∀ i d r,qZ ts n i d=some r->i<ts.length->d<=60->Ans base 133 (pC ts i d) [] ts d r
def IsV (base:Bs)(ts:List Tk)(n:Nat):Prop:=∀ i d r,yO ts n i d=some r->i<ts.length->d<=60->Ans base 158 (pC ts i d) [] ts d r
theorem jsG:Go.Ev.isAgg Qaf 2=some false:=by kernel_rfl
theorem jsF:Go.Ev.sizeOf Qaf 2=some 1:=by kernel_rfl
theorem jrg:Go.Ev.isAgg Qaf 88=some true:=by kernel_rfl
theorem jrf:Go.Ev.sizeOf Qaf 88=some 5:=by kernel_rfl
theorem sm2 {b o:Nat}{v:AV}{h:T AO}(ho:o<qC h b)(hv:rat h b o=v)(hc:eqs v=true):(qa Qaf 2 (.ptr b o) v h=true)=True:=eq_true (Qx jsG jsF ho hv hc)
theorem sm9 {b o:Nat}{v:AV}{h:T AO}(ho:o<qC h b)(hv:rat h b o=v)(hc:eqs v=true):(qa Qaf 9 (.ptr b o) v h=true)=True:=eq_true (Qx jkb jka ho hv hc)
theorem yY (k:IntKind)(n:Int):eqs (.int k n)=true:=nr rfl
theorem yX (l:List Nat):eqs (.str l)=true:=nr rfl
set_option maxHeartbeats 4000000 in
theorem jmK (hb:NB base){ts:List Tk}(W:Wds ts){n:Nat}(ihE:IsE base ts n):IsV base ts (n+1):=by
 intro i d r h hi hd;have hN:=λst p=>@Ze base hb ts i d hi st p;have wl:=W.len;have hx:(i:Int)+1=((i+1:Nat):Int):=by omega
 unfold yO at h;by_cases k2:(tk ts i).kind=2
 ·rw[if_pos k2] at h;cases h;have k2':((tk ts i).kind:Int)=2:=by omega
  show PM _ _ _ _ _ _ _;unfold pC at *;refine qf Wn (by rfl) (hb.pur 158 3 (by decide)) rfl ?_;simp only[uB,jp,Qai,Qal,Qag,Qah];rw[(by unfold QN;simp only[qq];rfl:QN=_)]
  (have zz:=aI @yY @yX;(repeat'(first|(apply jc<;>intro _)|simp(disch:=first|exact qW|fail) only[hN,k2',sm2,yY,yX,je,Tk.cells_R,rzZ,Qab,Qac,Qad,Qaa,Qae]));(all_goals(clear zz)))
  (refine G1.done ?_ (by rfl) (by rfl) ?_;(· (first|exact cyD|fail));(· first|exact vyD|skip))
 rw[if_neg k2] at h;have k2':¬ ((tk ts i).kind:Int)=2:=by omega
 by_cases k1:(tk ts i).kind=1
 ·rw[if_pos k1] at h;cases h;have k1':((tk ts i).kind:Int)=1:=by omega
  show PM _ _ _ _ _ _ _;unfold pC at *;refine qf Wn (by rfl) (hb.pur 158 3 (by decide)) rfl ?_;simp only[uB,jp,Qai,Qal,Qag,Qah];rw[(by unfold QN;simp only[qq];rfl:QN=_)]
  (have zz:=aI @yY @yX;(repeat'(first|(apply jc<;>intro _)|simp(disch:=first|exact qW|fail) only[hN,k2',k1',sm9,yY,yX,je,Tk.cells_R,rzZ,Qab,Qac,Qad,Qaa,Qae]));(all_goals(clear zz)))
  (refine G1.done ?_ (by rfl) (by rfl) ?_;(· (first|exact cyD|fail));(· first|exact vyD|skip))
 rw[if_neg k1] at h;have k1':¬ ((tk ts i).kind:Int)=1:=by omega
 have T:=jkP hb (tk ts i) [[116,114,117,101]] (cs:=[.str [116,114,117,101]]) (n:=1) rfl rfl (by decide);have F:=jkP hb (tk ts i) [[102,97,108,115,101]] (cs:=[.str [102,97,108,115,101]]) (n:=1) rfl rfl (by decide);have B:=jkP hb (tk ts i) [[40]] (cs:=[.str [40]]) (n:=1) rfl rfl (by decide);by_cases c1:isM (tk ts i) [[116,114,117,101]]=true
 ·rw[if_pos c1] at h;cases h;show PM _ _ _ _ _ _ _;unfold pC at *;refine qf Wn (by rfl) (hb.pur 158 3 (by decide)) rfl ?_;simp only[uB,jp,Qai,Qal,Qag,Qah];rw[(by unfold QN;simp only[qq];rfl:QN=_)];repeat'(first|(apply jc<;>intro _)|simp(disch:=first|exact dzD|fail) only[hN,k2',k1',T,c1,je,Tk.cells_R,rzZ,Qab,Qac,Qad,Qaa,Qae])
  (refine G1.done ?_ (by rfl) (by rfl) ?_;(· (first|exact cyD|fail));(· first|exact vyD|skip))
 rw[if_neg c1] at h;by_cases c2:isM (tk ts i) [[102,97,108,115,101]]=true
 ·rw[if_pos c2] at h;cases h;show PM _ _ _ _ _ _ _;unfold pC at *;refine qf Wn (by rfl) (hb.pur 158 3 (by decide)) rfl ?_;simp only[uB,jp,Qai,Qal,Qag,Qah];rw[(by unfold QN;simp only[qq];rfl:QN=_)];repeat'(first|(apply jc<;>intro _)|simp(disch:=first|exact dzD|fail) only[hN,k2',k1',T,F,c1,c2,je,Tk.cells_R,rzZ,Qab,Qac,Qad,Qaa,Qae])
  (refine G1.done ?_ (by rfl) (by rfl) ?_;(· (first|exact cyD|fail));(· first|exact vyD|skip))
 rw[if_neg c2] at h;by_cases c3:isM (tk ts i) [[40]]=true
 ·rw[if_pos c3] at h;have hi1:=W.isM hi c3;have O:=λst p=>@jhH base hb ts (i+1) d hi1 (by omega) st p;by_cases hd2:60<d+1
  ·rw[if_pos hd2] at h;cases h;refine⟨i+1,d+1,?_⟩;unfold pC at *;refine qf Wn (by rfl) (hb.pur 158 3 (by decide)) rfl ?_;simp only[uB,jp,Qai,Qal,Qag,Qah];rw[(by unfold QN;simp only[qq];rfl:QN=_)];repeat'(first|(apply jc<;>intro _)|simp(disch:=first|exact dzD|fail) only[hN,k2',k1',T,F,B,c1,c2,c3,O,hx,hd2,je,Tk.cells_R,rzZ,Qab,Qac,Qad,Qaa,Qae])
   (refine G1.done ?_ (by rfl) (by rfl) ?_;(· (first|exact cyD|fail));(· first|exact vyD|skip))
  ·rw[if_neg hd2] at h;cases he:qw ts n q6 (i+1) (d+1) with
   |none=>rw[he] at h;cases h
   |some q=>
    have A:=ihE _ _ _ _ he hi1 (by omega) ⟨by decide,by decide⟩;have hL:=jbW hb;have hz:=(Kw W n).1 _ _ _ _ he hi1;cases q with
    |er t=>
     rw[he] at h;cases h;obtain⟨i',d',A⟩:=A;have E:∀ st p,Cl st p (pC ts (i+1) (d+1))->∀ K Kp,XB Qaf base 93 [.ptr p 0,.lst 8 (fl Xr q6)] st K Kp=_:=λst p C K Kp=>A.xb C rfl (λst=>hb.no 93 (by decide) _ _) K Kp;refine⟨i',d',?_⟩;unfold pC at *;refine qf Wn (by rfl) (hb.pur 158 3 (by decide)) rfl ?_;simp only[uB,jp,Qai,Qal,Qag,Qah];rw[(by unfold QN;simp only[qq];rfl:QN=_)];repeat'(first|(apply jc<;>intro _)|simp(disch:=first|exact dzD|fail) only[hN,k2',k1',T,F,B,c1,c2,c3,O,hx,hd2,hL,E,je,Tk.cells_R,rzZ,Qab,Qac,Qad,Qaa,Qae])
     (refine G1.done ?_ (by rfl) (by rfl) ?_;(· (first|exact cyD|fail));(· first|exact vyD|skip))
    |ok x j=>
     rw[he] at h;dsimp only at h;have A:PM _ _ _ _ _ _ _:=A;have E:∀ st p,Cl st p (pC ts (i+1) (d+1))->∀ K Kp,XB Qaf base 93 [.ptr p 0,.lst 8 (fl Xr q6)] st K Kp=_:=λst p C K Kp=>A.xb C rfl (λst=>hb.no 93 (by decide) _ _) K Kp;have hj:j<ts.length:=hz.2.1;have M:=λst p=>@Q0 base hb ts j d hj (by omega) [41] st p;have e1:((d+1:Nat):Int) - 1=(d:Int):=by omega
     by_cases c4:isM (tk ts j) [[41]]=true
     ·rw[if_pos c4] at h;cases h;show PM _ _ _ _ _ _ _;unfold pC at *;refine qf Wn (by rfl) (hb.pur 158 3 (by decide)) rfl ?_;simp only[uB,jp,Qai,Qal,Qag,Qah];rw[(by unfold QN;simp only[qq];rfl:QN=_)];repeat'(first|(apply jc<;>intro _)|simp(disch:=first|exact dzD|fail) only[hN,k2',k1',T,F,B,c1,c2,c3,O,hx,hd2,hL,E,e1,M,c4,je,Tk.cells_R,rzZ,Qab,Qac,Qad,Qaa,Qae])
      (refine G1.done ?_ (by rfl) (by rfl) ?_;(· (first|exact cyD|fail));(· first|exact vyD|skip))
     ·rw[if_neg c4] at h;cases h;refine⟨j,d,?_⟩;unfold pC at *;refine qf Wn (by rfl) (hb.pur 158 3 (by decide)) rfl ?_;simp only[uB,jp,Qai,Qal,Qag,Qah];rw[(by unfold QN;simp only[qq];rfl:QN=_)];repeat'(first|(apply jc<;>intro _)|simp(disch:=first|exact dzD|fail) only[hN,k2',k1',T,F,B,c1,c2,c3,O,hx,hd2,hL,E,e1,M,c4,je,Tk.cells_R,rzZ,Qab,Qac,Qad,Qaa,Qae])
      (refine G1.done ?_ (by rfl) (by rfl) ?_;(· (first|exact cyD|fail));(· first|exact vyD|skip))
 ·rw[if_neg c3] at h;cases h;refine⟨i,d,?_⟩;unfold pC at *;refine qf Wn (by rfl) (hb.pur 158 3 (by decide)) rfl ?_;simp only[uB,jp,Qai,Qal,Qag,Qah];rw[(by unfold QN;simp only[qq];rfl:QN=_)];repeat'(first|(apply jc<;>intro _)|simp(disch:=first|exact dzD|fail) only[hN,k2',k1',T,F,B,c1,c2,c3,QD hb,je,Tk.cells_R,rzZ,Qab,Qac,Qad,Qaa,Qae])
  (refine G1.done ?_ (by rfl) (by rfl) ?_;(· (first|exact cyD|fail));(· first|exact vyD|skip))
end Go.Sy
end
noncomputable section
set_option maxRecDepth 100000
namespace Go.Sy
open Go.Ev Go.Proofs
variable {base:Bs}
theorem jdD:∀ k:Nat,k<9->sgn ((5+k:Nat):Int)=yJ.getD k []:=by decide
theorem jnr {x:List Nat}(h:x∈yJ):yJ.idxOf x<9/\sgn ((5+yJ.idxOf x:Nat):Int)=x/\∀ j,j<yJ.idxOf x->sgn ((5+j:Nat):Int)≠x:=by
 have h9:yJ.idxOf x<9:=List.idxOf_lt_length_of_mem h;refine⟨h9,?_,λj hj=>?_⟩
 ·rw[jdD _ h9,QaB,Qav (show yJ.idxOf x<yJ.length from h9)];simp
 ·rw[jdD _ (by omega),QaB,Qav (show j<yJ.length by show j<9;omega)];intro he;have hlt:j<yJ.findIdx (· == x):=hj;have hno:=List.not_of_lt_findIdx hlt;have he':yJ[j]'(show j<yJ.length by show j<9;omega)=x:=he;rw[he'] at hno;simp at hno
set_option maxHeartbeats 4000000 in
theorem jkx (hb:NB base){ts:List Tk}(W:Wds ts){n:Nat}(ihP:IsP base ts n)(ihV:IsV base ts n):IsP base ts (n+1):=by
 intro i d r h hi hd;have wl:=W.len;have hx:(i:Int)+1=((i+1:Nat):Int):=by omega
 have T:=Y7 hb hi (d:=d) (by omega) yJ (cs:=[.str [45],.str [33],.str [88],.str [70],.str [71],.str [89],.str [90],.str [79],.str [72]]) (n:=9) rfl rfl (by decide);unfold qZ at h;by_cases c1:isM (tk ts i) yJ=true
 ·rw[if_pos c1] at h;have hi1:=W.isM hi c1;have O:=λst p=>@jhH base hb ts (i+1) d hi1 (by omega) st p;by_cases hd2:60<d+1
  ·rw[if_pos hd2] at h;cases h;refine⟨i+1,d+1,?_⟩;unfold pC at *;refine qf jbi (by rfl) (hb.pur 133 3 (by decide)) rfl ?_;simp only[gZ,jp,Qai,Qal,Qag,Qah];rw[(by unfold vg;simp only[qq];rfl:vg=_)];repeat'(first|(apply jc<;>intro _)|simp(disch:=first|exact dzD|fail) only[T,c1,O,hd2,je,Tk.cells_R,rzZ,Qab,Qac,Qad,Qaa,Qae])
   (refine G1.done ?_ (by rfl) (by rfl) ?_;(· (first|exact cyD|fail));(· first|exact vyD|skip))
  ·rw[if_neg hd2] at h;cases he:qZ ts n (i+1) (d+1) with
   |none=>rw[he] at h;cases h
   |some q=>
    have A:=ihP _ _ _ he hi1 (by omega);have hz:=(Kw W n).2.2.1 _ _ _ he hi1;cases q with
    |er t=>
     rw[he] at h;cases h;obtain⟨i',d',A⟩:=A;have E:∀ st p,Cl st p (pC ts (i+1) (d+1))->∀ K Kp,XB Qaf base 133 [.ptr p 0] st K Kp=_:=λst p C K Kp=>A.xb C rfl (λst=>hb.no 133 (by decide) _ _) K Kp;refine⟨i',d',?_⟩;unfold pC at *;refine qf jbi (by rfl) (hb.pur 133 3 (by decide)) rfl ?_;simp only[gZ,jp,Qai,Qal,Qag,Qah];rw[(by unfold vg;simp only[qq];rfl:vg=_)];repeat'(first|(apply jc<;>intro _)|simp(disch:=first|exact dzD|fail) only[T,c1,O,hd2,E,je,Tk.cells_R,rzZ,Qab,Qac,Qad,Qaa,Qae])
     (refine G1.done ?_ (by rfl) (by rfl) ?_;(· (first|exact cyD|fail));(· first|exact vyD|skip))
    |ok x j=>
     rw[he] at h;cases h;have A:PM _ _ _ _ _ _ _:=A;have E:∀ st p,Cl st p (pC ts (i+1) (d+1))->∀ K Kp,XB Qaf base 133 [.ptr p 0] st K Kp=_:=λst p C K Kp=>A.xb C rfl (λst=>hb.no 133 (by decide) _ _) K Kp;have hj:j<ts.length:=hz.2.1;have e1:((d+1:Nat):Int) - 1=(d:Int):=by omega
     show PM _ _ _ _ _ _ _;unfold pC at *;refine qf jbi (by rfl) (hb.pur 133 3 (by decide)) rfl ?_;simp only[gZ,jp,Qai,Qal,Qag,Qah];rw[(by unfold vg;simp only[qq];rfl:vg=_)];repeat'(first|(apply jc<;>intro _)|simp(disch:=first|exact dzD|fail) only[T,c1,O,hd2,E,e1,je,Tk.cells_R,rzZ,Qab,Qac,Qad,Qaa,Qae])
     obtain⟨x1,x2,x3⟩:=jnr (WZ c1).2;refine uO λu hu=>?_;have n0:u.nx=5:=by rw[hu];rfl
     have C0:Cl u 0 [.lst ts.length (fl Tk.cells ts),.int .i64 (j:Int),.int .i64 (d:Int)]:=by
      rw[hu]
      (first|exact cyD|fail)
     have C1:Cl u 1 [.int .i64 0,.int .i64 0,.str [],.nils,.int .i64 0,.int .i64 0]:=by
      rw[hu]
      (first|exact cyD|fail)
     have C3:Cl u 3 (tk ts i).cells:=by
      rw[hu]
      (first|exact cyD|fail)
     have C4:Cl u 4 (eE x):=by
      rw[hu]
      (first|exact cyD|fail)
     clear hu;have hs:qa Qaf 9 (.ptr 3 1) (.str (tk ts i).text) u.h=true:=KB jkb jka C3 (QbN (Qbr 3)) rfl rfl;refine zY (λmm L s=>∃ k:Nat,k<=yJ.idxOf (tk ts i).text/\mm=yJ.idxOf (tk ts i).text - k/\s=u/\Has L 0 (.ptr 0 0)/\Has L 2 (.ptr 1 0)/\Has L 3 (.ptr 3 0)/\Has L 5 (.ptr 4 0)/\Has L 6 (.int .i64 ((5+k:Nat):Int))) ?_ (yJ.idxOf (tk ts i).text) ?_
     ·rintro mm L s ⟨k,hk,rfl,rfl,i0,i2,i3,i5,i6⟩;have hS:=jja hb ((5+k:Nat):Int);by_cases hk2:k=yJ.idxOf (tk ts i).text
      ·rw[<-hk2] at x2
       (have zz:=aI @n0 (aI C0.r (aI C1.r (aI C3.r C4.r)));(repeat'(first|(apply jc<;>intro _)|simp(disch:=first|exact qW|fail) only[ja i0,ja i2,ja i3,ja i5,ja i6,hS,hs,x2,C0.q,C1.q,C3.q,C4.q,n0,C0.r,C1.r,C3.r,C4.r,je,Tk.cells_R,rzZ,Qab,Qac,Qad,Qaa,Qae]));(all_goals(clear zz)))
       rw[show Yn (tk ts i).text=5+k by unfold Yn;rw[<-hk2],<-qI];refine G1.done ?_ (by rfl) (by rfl) (jdS (ks:=[x]) (b:=5) (cs:=eE x) ?_ (by rw[QC]) (by decide))
       ·(have zz:=aI C0.q (aI @n0 C0.r);first|exact qr|fail)
       ·rw[jy,jA (by decide),<-n0];exact Cl.new s _
      ·have x3':=x3 k (by omega)
       (have zz:=aI @n0 (aI C0.r (aI C1.r (aI C3.r C4.r)));(repeat'(first|(apply jc<;>intro _)|simp(disch:=first|exact qW|fail) only[ja i0,ja i2,ja i3,ja i5,ja i6,hS,hs,x3',C0.q,C1.q,C3.q,C4.q,n0,C0.r,C1.r,C3.r,C4.r,je,Tk.cells_R,rzZ,Qab,Qac,Qad,Qaa,Qae]));(all_goals(clear zz)))
       refine⟨yJ.idxOf (tk ts i).text - (k+1),by omega,k+1,by omega,rfl,?_⟩;rw[show((5+(k+1):Nat):Int)=((5+k:Nat):Int)+1 by omega];simp(disch:=decide) only[Qam,Qao,z0,z1,jd,jb,and_true,true_and,i0,i2,i3,i5]
     ·refine⟨0,by omega,rfl,rfl,?_⟩;rw[show((5+0:Nat):Int)=5 from rfl];simp(disch:=decide) only[Qam,Qao,z0,z1,jd,jb,and_true,true_and]
 ·rw[if_neg c1] at h;have A:=ihV _ _ _ h hi hd;cases r with
  |er t=>
   obtain⟨i',d',A⟩:=A;have E:∀ st p,Cl st p (pC ts i d)->∀ K Kp,XB Qaf base 158 [.ptr p 0] st K Kp=_:=λst p C K Kp=>A.xb C rfl (λst=>hb.no 158 (by decide) _ _) K Kp;refine⟨i',d',?_⟩;unfold pC at *;refine qf jbi (by rfl) (hb.pur 133 3 (by decide)) rfl ?_;simp only[gZ,jp,Qai,Qal,Qag,Qah];rw[(by unfold vg;simp only[qq];rfl:vg=_)];repeat'(first|(apply jc<;>intro _)|simp(disch:=first|exact dzD|fail) only[T,c1,E,je,Tk.cells_R,rzZ,Qab,Qac,Qad,Qaa,Qae])
   (refine G1.done ?_ (by rfl) (by rfl) ?_;(· (first|exact cyD|fail));(· first|exact vyD|skip))
  |ok x j=>
   have A:PM _ _ _ _ _ _ _:=A;have E:∀ st p,Cl st p (pC ts i d)->∀ K Kp,XB Qaf base 158 [.ptr p 0] st K Kp=_:=λst p C K Kp=>A.xb C rfl (λst=>hb.no 158 (by decide) _ _) K Kp;show PM _ _ _ _ _ _ _;unfold pC at *;refine qf jbi (by rfl) (hb.pur 133 3 (by decide)) rfl ?_;simp only[gZ,jp,Qai,Qal,Qag,Qah];rw[(by unfold vg;simp only[qq];rfl:vg=_)];repeat'(first|(apply jc<;>intro _)|simp(disch:=first|exact dzD|fail) only[T,c1,E,je,Tk.cells_R,rzZ,Qab,Qac,Qad,Qaa,Qae])
   (refine G1.done ?_ (by rfl) (by rfl) ?_;(· (first|exact cyD|fail));(· first|exact vyD|skip))
end Go.Sy
end
noncomputable section
set_option maxRecDepth 100000
namespace Go.Sy
open Go.Ev Go.Proofs
variable {base:Bs}
theorem Km {α:Type}{enc:α->List AV}{z:Nat}(hz:∀ x,(enc x).length=z)(x:α)(xs:List α){k:IntKind}{n:Nat}(hn:n=xs.length+1){st:St}{K:AV->St->Prop}:jm (uC z (.lst n (fl enc (x :: xs))) (some (.int k 1)) none st) K=K (.lst xs.length (fl enc xs)) st:=by
 subst hn;have e1:Qap 1 (xs.length+1)=true:=yK (by omega);have e2:Qap (xs.length+1) (xs.length+1)=true:=yK (Qaq _);have e3:Qap (Qat (xs.length+1) z) (jY (fl enc (x :: xs)))=true:=yK (by rw[jZ,JX hz];exact Qaq _);have e4:(AV.int k 1)=.int k ((1:Nat):Int):=rfl;have e5:yQ (zK (fl enc (x :: xs)) (Qat 1 z)) (Qat (Qbg (xs.length+1) 1) z)=fl enc xs:=by
  rw[yt,zi];show((fl enc (x :: xs)).drop (1 * z)).take ((xs.length+1 - 1) * z)=_;rw[GD hz,Nat.add_sub_cancel];show(fl enc xs).take _=_;rw[<-JX hz,QaE]
 rw[e4];simp only[uC,optA,Gs,e1,e2,e3,cond_true,jm];rw[e5];rfl
theorem vv (v:Lev):(Xr v).length=2:=nr rfl
theorem UL (v:Lev)(l:List Lev){st:St}{K:AV->St->Prop}:jm (yy (.lptr (fl Xr (v :: l)) 0) st) K=K (.lst v.1.length (v.1.map .str)) st:=JS (by rw[X4,Qak,vv];omega)
theorem K9 (v:Lev)(l:List Lev){st:St}{K:AV->St->Prop}:jm (yy (.lptr (fl Xr (v :: l)) 1) st) K=K (.int .i64 (v.2:Int)) st:=JS (by rw[X4,Qak,vv];omega)
theorem jbt {b:Nat}{cs:List AV}{h:T AO}(ho:0+5<=qC h b)(hv:rats h b 0 5=cs)(hc:cs.all eqs=true):(qa Qaf 88 (.ptr b 0) (.agg cs) h=true)=True:=eq_true (ZX jrg jrf (by decide) ho hv hc)
theorem Qw {b:Nat}{cs:List AV}{h:T AO}(ho:0+6<=qC h b)(hv:rats h b 0 6=cs)(hc:cs.all eqs=true):(qa Qaf 37 (.ptr b 0) (.agg cs) h=true)=True:=eq_true (ZX jad jac (by decide) ho hv hc)
theorem Qb (x:Ex):(eE x).all eqs=true:=nr (by rw[qI];rfl)
theorem uN (t:Tk):t.cells.all eqs=true:=nr rfl
def EK (ts:List Tk)(d:Nat)(r:PR)(v:AV)(s:St):Prop:=match r with | .ok y j=>G1 3 (pC ts j d) (.agg (eE y)) v s | .er _=>False
def EP (ts:List Tk)(r:PR)(v:AV)(s:St):Prop:=match r with | .ok _ _=>False | .er t=>∃ i' d',G1 3 (pC ts i' d') (er t) v s
theorem jf1 (ts:List Tk)(d:Nat)(y:Ex)(j:Nat)(v:AV)(s:St):EK ts d (.ok y j) v s=G1 3 (pC ts j d) (.agg (eE y)) v s:=nr rfl
theorem jmq (ts:List Tk)(t:Tk)(v:AV)(s:St):EP ts (.er t) v s = ∃ i' d',G1 3 (pC ts i' d') (er t) v s:=nr rfl
theorem jli {f:FuncId}{F:XF}(hl:jE Qaf f=some F)(hnd:F.body.nd=true)(hm:base.pur f=3){xs:List AV}{ts:List Tk}{i d:Nat}{r:PR}
  (h:xC Qaf base F.body (jp F.ps (.ptr 0 0 :: xs)) (nw st0 (pC ts i d)) (QE Qaf F.res (EK ts d r)) λv _ s=>EP ts r v s.bare):Ans base f (pC ts i d) xs ts d r:=by
 rw[<-Gu] at h;obtain⟨q,he,hq⟩:=YL (st:=ZF (pC ts i d)) (K:=EK ts d r) (Kp:=EP ts r) hl hnd h;cases r with
 |ok y j=>
  refine PM.of hm rfl ⟨q,he,?_⟩;cases q<;>first|exact hq|exact hq.elim
 |er t=>
  cases q with
  |no=>exact hq.elim
  |ok v s=>exact(hq:False).elim
  |pn v s=>
   obtain⟨i',d',hq⟩:=(hq:∃ i' d',G1 3 (pC ts i' d') (er t) v s);exact⟨i',d',PM.of hm rfl ⟨_,he,hq⟩⟩
set_option maxHeartbeats 4000000 in
theorem jp7 (hb:NB base){ts:List Tk}(W:Wds ts){n:Nat}(ihE:∀ m,m<=n->IsE base ts m)(ihP:IsP base ts n):IsE base ts (n+1):=by
 intro lv i d r h hi hd ok;have wl:=W.len;unfold qw at h;cases lv with
 |nil=>
  dsimp only at h;have A:=ihP _ _ _ h hi hd;cases r with
  |er t=>
   obtain⟨i',d',A⟩:=A;have E:∀ st p,Cl st p (pC ts i d)->∀ K Kp,XB Qaf base 133 [.ptr p 0] st K Kp=_:=λst p C K Kp=>A.xb C rfl (λst=>hb.no 133 (by decide) _ _) K Kp;refine⟨i',d',?_⟩;unfold pC at *;refine qf x93 (by rfl) (hb.pur 93 3 (by decide)) rfl ?_;simp only[y93,jp,Qai,Qal,Qag,Qah];rw[(by unfold z93;simp only[qq];rfl:z93=_)];repeat'(first|(apply jc<;>intro _)|simp(disch:=first|exact dzD|fail) only[E,je,Tk.cells_R,rzZ,Qab,Qac,Qad,Qaa,Qae])
   (refine G1.done ?_ (by rfl) (by rfl) ?_;(· (first|exact cyD|fail));(· first|exact vyD|skip))
  |ok x j=>
   have A:PM _ _ _ _ _ _ _:=A;have E:∀ st p,Cl st p (pC ts i d)->∀ K Kp,XB Qaf base 133 [.ptr p 0] st K Kp=_:=λst p C K Kp=>A.xb C rfl (λst=>hb.no 133 (by decide) _ _) K Kp;show PM _ _ _ _ _ _ _;unfold pC at *;refine qf x93 (by rfl) (hb.pur 93 3 (by decide)) rfl ?_;simp only[y93,jp,Qai,Qal,Qag,Qah];rw[(by unfold z93;simp only[qq];rfl:z93=_)];repeat'(first|(apply jc<;>intro _)|simp(disch:=first|exact dzD|fail) only[E,je,Tk.cells_R,rzZ,Qab,Qac,Qad,Qaa,Qae])
   (refine G1.done ?_ (by rfl) (by rfl) ?_;(· (first|exact cyD|fail));(· first|exact vyD|skip))
 |cons v l=>
  dsimp only at h;have hlen:(0:Int)<((l.length+1:Nat):Int):=by omega
  have hlen2:¬ ((l.length+1:Nat):Int)=0:=by omega
  cases he:qw ts n l i d with
  |none=>rw[he] at h;cases h
  |some q=>
   have A:=ihE n (Qaq _) _ _ _ _ he hi hd ⟨by have:=ok.1;simp at this;omega,λw hw=>ok.2 w (QbY _ hw)⟩;have hz:=(Kw W n).1 _ _ _ _ he hi;cases q with
   |er t=>
    rw[he] at h;cases h;obtain⟨i',d',A⟩:=A;have E:∀ st p,Cl st p (pC ts i d)->∀ K Kp,XB Qaf base 93 [.ptr p 0,.lst l.length (fl Xr l)] st K Kp=_:=λst p C K Kp=>A.xb C rfl (λst=>hb.no 93 (by decide) _ _) K Kp;refine⟨i',d',?_⟩;unfold pC at *;refine qf x93 (by rfl) (hb.pur 93 3 (by decide)) rfl ?_;simp only[y93,jp,Qai,Qal,Qag,Qah];rw[(by unfold z93;simp only[qq];rfl:z93=_)];repeat'(first|(apply jc<;>intro _)|simp(disch:=first|exact dzD|fail) only[E,hlen2,Km vv v l,je,Tk.cells_R,rzZ,Qab,Qac,Qad,Qaa,Qae])
    (refine G1.done ?_ (by rfl) (by rfl) ?_;(· (first|exact cyD|fail));(· first|exact vyD|skip))
   |ok x j=>
    rw[he] at h;dsimp only at h;have A:PM _ _ _ _ _ _ _:=A;have E:∀ st p,Cl st p (pC ts i d)->∀ K Kp,XB Qaf base 93 [.ptr p 0,.lst l.length (fl Xr l)] st K Kp=_:=λst p C K Kp=>A.xb C rfl (λst=>hb.no 93 (by decide) _ _) K Kp;have hj:j<ts.length:=hz.2.1;show Ans base 93 (pC ts i d) [.lst (v :: l).length (fl Xr (v :: l))] ts d r;refine jli x93 (by rfl) (hb.pur 93 3 (by decide)) ?_;simp only[y93,jp,Qai,Qal,Qag,Qah];rw[(by unfold z93;simp only[qq];rfl:z93=_)];unfold pC at *;repeat'(first|(apply jc<;>intro _)|simp(disch:=first|exact dzD|fail) only[E,hlen2,Km vv v l,je,Tk.cells_R,rzZ,Qab,Qac,Qad,Qaa,Qae])
    refine uO λu hu=>?_;have n0:3<=u.nx:=by rw[hu];exact Qaq _
    have C0:Cl u 0 (pC ts j d):=by
     rw[hu];unfold pC
     (first|exact cyD|fail)
    have C1:Cl u 1 [.int .i64 0,.int .i64 0,.str [],.nils,.int .i64 0,.int .i64 0]:=by
     rw[hu]
     (first|exact cyD|fail)
    have C2:Cl u 2 (eE x):=by
     rw[hu]
     (first|exact cyD|fail)
    clear hu E A;refine zY (λmm L s=>∃ (m i':Nat) (x':Ex),m<=n/\mm=m/\yE ts m v l x' i' d=some r/\i'<ts.length/\3<=s.nx/\Cl s 0 (pC ts i' d)/\Cl s 1 [.int .i64 0,.int .i64 0,.str [],.nils,.int .i64 0,.int .i64 0]/\Cl s 2 (eE x')/\Has L 0 (.ptr 0 0)/\Has L 1 (.lst (l.length+1) (fl Xr (v :: l)))/\Has L 4 (.ptr 1 0)/\Has L 5 (.ptr 2 0)) ?_ n ?_
    ·rintro m L s ⟨_,i',x',hm,rfl,hl,hi',n0,C0,C1,C2,i0,i1,i4,i5⟩;cases m with
     |zero=>simp[yE] at hl
     |succ m=>
     unfold yE at hl;have hx:(i':Int)+1=((i'+1:Nat):Int):=by omega
     have T:=λst p=>@jo7 base hb ts i' d hi' (by omega) v.1 (by have:=ok.2 v (by simp);omega) st p;have R2:rats s.h 2 0 6=eE x':=(C2.ratsP 6 0 (by rw[Jw];decide)).trans (by rw[Qbs,<-Jw x',QaE]);have l2:=C2.len;rw[Jw] at l2;have L0:=C0.lt;have L1:=C1.lt;have L2:=C2.lt;by_cases c1:isM (tk ts i') v.1=true
     ·rw[if_pos c1] at hl;have hi1:=W.isM hi' c1;have hw:=λy=>jrx hb (tk ts i') x' y;by_cases w1:v.2=1
      ·rw[if_pos w1] at hl;have w1':(v.2:Int)=1:=by omega
       cases he2:qw ts m (v :: l) (i'+1) d with
       |none=>rw[he2] at hl;cases hl
       |some q=>
        have A:=ihE m (by omega) _ _ _ _ he2 hi1 hd ok;cases q with
        |er t=>
         rw[he2] at hl;cases hl;obtain⟨i2,d2,A⟩:=A;have E:∀ st p,Cl st p (pC ts (i'+1) d)->∀ K Kp,XB Qaf base 93 [.ptr p 0,.lst (l.length+1) (fl Xr (v :: l))] st K Kp=_:=λst p C K Kp=>A.xb C rfl (λst=>hb.no 93 (by decide) _ _) K Kp;unfold pC at *
         (have zz:=aI @Qb (aI @uN (aI @R2 (aI @l2 (aI C0.r C1.r))));(repeat'(first|(apply jc<;>intro _)|simp(disch:=first|exact qW|fail) only[ja i0,ja i1,ja i4,ja i5,T,c1,E,w1',UL,K9,jbt,Qw,Ga i5,jmq,R2,C0.q,C1.q,Qb,uN,R2,l2,C0.r,C1.r,je,Tk.cells_R,rzZ,Qab,Qac,Qad,Qaa,Qae]));(all_goals(clear zz)))
         refine⟨i2,d2,?_⟩;unfold pC
         (refine G1.done ?_ (by rfl) (by rfl) ?_;(· (have zz:=aI C0.q (aI C1.q (aI C2.q (aI C0.r (aI C1.r C2.r))));first|exact qr|fail));(· first|exact vyD|skip))
        |ok y j=>
         rw[he2] at hl;cases hl;have A:PM _ _ _ _ _ _ _:=A;have E:∀ st p,Cl st p (pC ts (i'+1) d)->∀ K Kp,XB Qaf base 93 [.ptr p 0,.lst (l.length+1) (fl Xr (v :: l))] st K Kp=_:=λst p C K Kp=>A.xb C rfl (λst=>hb.no 93 (by decide) _ _) K Kp;unfold pC at *
         (have zz:=aI @Qb (aI @uN (aI @R2 (aI @l2 (aI C0.r C1.r))));(repeat'(first|(apply jc<;>intro _)|simp(disch:=first|exact qW|fail) only[ja i0,ja i1,ja i4,ja i5,T,c1,E,w1',UL,K9,jbt,Qw,Ga i5,jf1,<-qI,hw,R2,C0.q,C1.q,Qb,uN,R2,l2,C0.r,C1.r,je,Tk.cells_R,rzZ,Qab,Qac,Qad,Qaa,Qae]));(all_goals(clear zz)))
         unfold pC
         (refine G1.done ?_ (by rfl) (by rfl) ?_;(· (have zz:=aI C0.q (aI C1.q (aI C2.q (aI C0.r (aI C1.r C2.r))));first|exact qr|fail));(· first|exact vyD|skip))
      ·rw[if_neg w1] at hl;have w1':¬ (v.2:Int)=1:=by omega
       cases he2:qw ts m l (i'+1) d with
       |none=>rw[he2] at hl;cases hl
       |some q=>
        have A:=ihE m (by omega) _ _ _ _ he2 hi1 hd ⟨by have:=ok.1;simp at this;omega,λw hw=>ok.2 w (QbY _ hw)⟩;have hz2:=(Kw W m).1 _ _ _ _ he2 hi1;cases q with
        |er t=>
         rw[he2] at hl;cases hl;obtain⟨i2,d2,A⟩:=A;have E:∀ st p,Cl st p (pC ts (i'+1) d)->∀ K Kp,XB Qaf base 93 [.ptr p 0,.lst l.length (fl Xr l)] st K Kp=_:=λst p C K Kp=>A.xb C rfl (λst=>hb.no 93 (by decide) _ _) K Kp;unfold pC at *
         (have zz:=aI @Qb (aI @uN (aI @R2 (aI @l2 (aI C0.r C1.r))));(repeat'(first|(apply jc<;>intro _)|simp(disch:=first|exact qW|fail) only[ja i0,ja i1,ja i4,ja i5,T,c1,E,w1',UL,K9,jbt,Qw,Ga i5,jmq,Km vv v l,R2,C0.q,C1.q,Qb,uN,R2,l2,C0.r,C1.r,je,Tk.cells_R,rzZ,Qab,Qac,Qad,Qaa,Qae]));(all_goals(clear zz)))
         refine⟨i2,d2,?_⟩;unfold pC
         (refine G1.done ?_ (by rfl) (by rfl) ?_;(· (have zz:=aI C0.q (aI C1.q (aI C2.q (aI C0.r (aI C1.r C2.r))));first|exact qr|fail));(· first|exact vyD|skip))
        |ok y j=>
         rw[he2] at hl;dsimp only at hl;have A:PM _ _ _ _ _ _ _:=A;have hj2:j<ts.length:=hz2.2.1;have E:∀ st p,Cl st p (pC ts (i'+1) d)->∀ K Kp,XB Qaf base 93 [.ptr p 0,.lst l.length (fl Xr l)] st K Kp=_:=λst p C K Kp=>A.xb C rfl (λst=>hb.no 93 (by decide) _ _) K Kp;by_cases w2:v.2=2
         ·rw[if_pos w2] at hl;cases hl;have w2':(v.2:Int)=2:=by omega
          unfold pC at *
          (have zz:=aI @Qb (aI @uN (aI @R2 (aI @l2 (aI C0.r C1.r))));(repeat'(first|(apply jc<;>intro _)|simp(disch:=first|exact qW|fail) only[ja i0,ja i1,ja i4,ja i5,T,c1,E,w1',w2',UL,K9,jbt,Qw,Ga i5,jf1,<-qI,hw,Km vv v l,R2,C0.q,C1.q,Qb,uN,R2,l2,C0.r,C1.r,je,Tk.cells_R,rzZ,Qab,Qac,Qad,Qaa,Qae]));(all_goals(clear zz)))
          unfold pC
          (refine G1.done ?_ (by rfl) (by rfl) ?_;(· (have zz:=aI C0.q (aI C1.q (aI C2.q (aI C0.r (aI C1.r C2.r))));first|exact qr|fail));(· first|exact vyD|skip))
         ·rw[if_neg w2] at hl;have w2':¬ (v.2:Int)=2:=by omega
          unfold pC at *
          (have zz:=aI @Qb (aI @uN (aI @R2 (aI @l2 (aI C0.r C1.r))));(repeat'(first|(apply jc<;>intro _)|simp(disch:=first|exact qW|fail) only[ja i0,ja i1,ja i4,ja i5,T,c1,E,w1',w2',UL,K9,jbt,Qw,Ga i5,<-qI,hw,Km vv v l,R2,C0.q,C1.q,Qb,uN,R2,l2,C0.r,C1.r,je,Tk.cells_R,rzZ,Qab,Qac,Qad,Qaa,Qae]));(all_goals(clear zz)))
          refine⟨m,by omega,m,j,zA (tk ts i') x' y,by omega,rfl,hl,hj2,by omega,?_,?_,?_,?_⟩
          ·(have zz:=aI C0.q (aI C1.q (aI C2.q (aI C0.r (aI C1.r C2.r))));first|exact qr|fail)
          ·(have zz:=aI C0.q (aI C1.q (aI C2.q (aI C0.r (aI C1.r C2.r))));first|exact qr|fail)
          ·(have zz:=aI C0.q (aI C1.q (aI C2.q (aI C0.r (aI C1.r C2.r))));first|exact qr|fail)
          ·simp(disch:=decide) only[Qam,Qao,z0,z1,jd,jb,and_true,true_and,i0,i1,i4,i5]
     ·rw[if_neg c1] at hl;cases hl;unfold pC at *
      (have zz:=aI @R2 (aI @l2 (aI C0.r C1.r));(repeat'(first|(apply jc<;>intro _)|simp(disch:=first|exact qW|fail) only[ja i0,ja i1,ja i4,ja i5,T,c1,UL,jf1,<-qI,R2,C0.q,C1.q,R2,l2,C0.r,C1.r,je,Tk.cells_R,rzZ,Qab,Qac,Qad,Qaa,Qae]));(all_goals(clear zz)))
      unfold pC
      (refine G1.done ?_ (by rfl) (by rfl) ?_;(· (have zz:=aI C0.q (aI C1.q (aI C2.q (aI C0.r (aI C1.r C2.r))));first|exact qr|fail));(· first|exact vyD|skip))
    ·refine⟨n,j,x,Qaq _,rfl,h,hj,n0,C0,C1,C2,?_⟩;simp(disch:=decide) only[Qam,Qao,z0,z1,jd,jb,and_true,true_and]
end Go.Sy
end
noncomputable section
set_option maxRecDepth 100000
namespace Go.Sy
open Go.Ev Go.Proofs
mutual
def Ex.ev (q:Ex->Prop):Ex->Prop
 |.mk o n nm ks l c=>q (.mk o n nm ks l c)/\Ex.evs q ks
def Ex.evs (q:Ex->Prop):List Ex->Prop
 |[]=>True
 |x :: xs=>x.ev q/\Ex.evs q xs
end
def atW (ts:List Tk)(x:Ex):Prop:=x.op≠4/\∃ k,k<ts.length/\(tk ts k).kind≠5/\x.line=(tk ts k).line/\x.col=(tk ts k).col
def GoodR (ts:List Tk)(i:Nat):PR->Prop
 |.ok x j=>i<=j/\j<ts.length/\x.ev (atW ts)
 |.er t=>∃ k,k<ts.length/\t=tk ts k
theorem GoodR.le {ts:List Tk}{i j:Nat}{r:PR}(h:GoodR ts j r)(hij:i<=j):GoodR ts i r:=by
 cases r with
 |ok x k=>exact⟨Qau hij h.1,h.2⟩
 |er t=>exact h
def okT (l:List Lev):Prop:=∀ v∈l,∀ s∈v.1,(ZO s).isSome=true
theorem KW:okT q6:=by
 have:(q6.all λv=>v.1.all λs=>(ZO s).isSome)=true:=by decide +kernel
 intro v hv s hs;rw[Qax] at this;have h:=this v hv;rw[Qax] at h;exact h s hs
theorem uX {ts:List Tk}{k:Nat}(hk:k<ts.length)(h5:(tk ts k).kind≠5){o n:Int}{nm:List Nat}{ks:List Ex}(ho:o≠4)(h:Ex.evs (atW ts) ks):(Ex.mk o n nm ks (tk ts k).line (tk ts k).col).ev (atW ts):=
 ⟨⟨ho,k,hk,h5,rfl,rfl⟩,h⟩
theorem jg7 {ts:List Tk}{k:Nat}(hk:k<ts.length)(h5:(tk ts k).kind≠5){x y:Ex}(hx:x.ev (atW ts))(hy:y.ev (atW ts))(ht:(ZO (tk ts k).text).isSome=true):(zA (tk ts k) x y).ev (atW ts):=by
 unfold zA;split
 ·refine uX hk h5 (by omega) ⟨hx,hy,trivial⟩
 ·rename_i h;rw[h] at ht;cases ht
theorem gm {t:Tk}{S:List (List Nat)}(h:isM t S=true):t.kind≠5:=by have:=(WZ h).1;omega
def Anw (f:Nat->Option PR)(Q:PR->Prop):Prop:=∃ N r,Q r/\∀ n,N<=n->f n=some r
theorem Anw.mono {f:Nat->Option PR}{Q R:PR->Prop}(h:Anw f Q)(k:∀ r,Q r->R r):Anw f R:=by
 obtain⟨N,r,h1,h2⟩:=h;exact⟨N,r,k r h1,h2⟩
theorem jmD {f g:Nat->Option PR}{Q:PR->Prop}(h:Anw f Q)(k:∀ n,g (n+1)=f n):Anw g Q:=by
 obtain⟨N,r,h1,h2⟩:=h;refine⟨N+1,r,h1,λn hn=>?_⟩;obtain⟨m,rfl⟩:∃ m,n=m+1:=⟨n - 1,by omega⟩;rw[k,h2 m (by omega)]
theorem uw {g:Nat->Option PR}{Q:PR->Prop}(r:PR)(hQ:Q r)(k:∀ n,g (n+1)=some r):Anw g Q:=by
 refine⟨1,r,hQ,λn hn=>?_⟩;obtain⟨m,rfl⟩:∃ m,n=m+1:=⟨n - 1,by omega⟩;exact k m
theorem gS {f g:Nat->Option PR}{Q R:PR->Prop}(F:Ex->Nat->Nat->Option PR)(h:Anw f Q)(k:∀ n,g (n+1)=(match f n with|some (.ok x j)=>F x j n|r=>r))(he:∀ t,Q (.er t)->R (.er t))(ho:∀ x j,Q (.ok x j)->Anw (F x j) R):Anw g R:=by
 obtain⟨N,r,h1,h2⟩:=h;cases r with
 |er t=>
  refine⟨N+1,.er t,he t h1,λn hn=>?_⟩;obtain⟨m,rfl⟩:∃ m,n=m+1:=⟨n - 1,by omega⟩;rw[k,h2 m (by omega)]
 |ok x j=>
  obtain⟨M,r,h3,h4⟩:=ho x j h1;refine⟨max N M+1,r,h3,λn hn=>?_⟩;obtain⟨m,rfl⟩:∃ m,n=m+1:=⟨n - 1,by omega⟩;rw[k,h2 m (by omega)];exact h4 m (by omega)
theorem gR {f:Nat->Option PR}{Q:PR->Prop}(r:PR)(hQ:Q r)(k:∀ n,f n=some r):Anw f Q:=⟨0,r,hQ,λn _=>k n⟩
structure AnsM (ts:List Tk)(m:Nat):Prop where
 e:∀ i d l,i<ts.length->ts.length<=i+m->d<=60->okT l->Anw (λn=>qw ts n l i d) (GoodR ts (i+1))
 p:∀ i d,i<ts.length->ts.length<=i+m->d<=60->Anw (λn=>qZ ts n i d) (GoodR ts (i+1))
 o:∀ i d v l x,i<ts.length->ts.length<=i+m->d<=60->okT (v :: l)->x.ev (atW ts)->Anw (λn=>yE ts n v l x i d) (GoodR ts i)
theorem jqP {ts:List Tk}(W:Wds ts):∀ m,AnsM ts m
 |0=>⟨λi d l h1 h2=>by omega,λi d h1 h2=>by omega,λi d v l x h1 h2=>by omega⟩
 |m+1=>by
  have ih:=jqP W m;have hv:∀ i d,i<ts.length->ts.length<=i+(m+1)->d<=60->Anw (λn=>yO ts n i d) (GoodR ts (i+1)):=by
   intro i d hi hm hd;by_cases h2:(tk ts i).kind=2
   ·exact uw (.ok (.mk 1 (tk ts i).num [] [] (tk ts i).line (tk ts i).col) (i+1)) ⟨Qaq _,W.next i hi (by omega),uX hi (by omega) (by decide) (ks:=[]) trivial⟩ λn=>by simp only[yO];rw[if_pos h2]
   by_cases h1:(tk ts i).kind=1
   ·exact uw (.ok (.mk 3 0 (tk ts i).text [] (tk ts i).line (tk ts i).col) (i+1)) ⟨Qaq _,W.next i hi (by omega),uX hi (by omega) (by decide) (ks:=[]) trivial⟩ λn=>by simp only[yO];rw[if_neg h2,if_pos h1]
   by_cases ht:isM (tk ts i) [[116,114,117,101]]=true
   ·exact uw (.ok (.mk 2 1 [] [] (tk ts i).line (tk ts i).col) (i+1)) ⟨Qaq _,W.isM hi ht,uX hi (gm ht) (by decide) (ks:=[]) trivial⟩ λn=>by simp only[yO];rw[if_neg h2,if_neg h1,if_pos ht]
   by_cases hf:isM (tk ts i) [[102,97,108,115,101]]=true
   ·exact uw (.ok (.mk 2 0 [] [] (tk ts i).line (tk ts i).col) (i+1)) ⟨Qaq _,W.isM hi hf,uX hi (gm hf) (by decide) (ks:=[]) trivial⟩ λn=>by simp only[yO];rw[if_neg h2,if_neg h1,if_neg ht,if_pos hf]
   by_cases hp:isM (tk ts i) [[40]]=true
   ·have hi1:=W.isM hi hp;by_cases h60:60<d+1
    ·exact uw (.er _) ⟨i+1,hi1,rfl⟩ λn=>by simp only[yO];rw[if_neg h2,if_neg h1,if_neg ht,if_neg hf,if_pos hp,if_pos h60]
    ·refine gS (λx j n=>if isM (tk ts j) [[41]]=true then some (.ok x (j+1)) else some (.er (tk ts j))) (ih.e (i+1) (d+1) q6 hi1 (by omega) (by omega) KW) (λn=>by simp only[yO];rw[if_neg h2,if_neg h1,if_neg ht,if_neg hf,if_pos hp,if_neg h60]<;>rfl) (λt h=>h) λx j h=>?_;by_cases hq:isM (tk ts j) [[41]]=true
     ·exact gR (.ok x (j+1)) ⟨by have:=h.1;omega,W.isM h.2.1 hq,h.2.2⟩ λn=>if_pos hq
     ·exact gR (.er (tk ts j)) ⟨j,h.2.1,rfl⟩ λn=>if_neg hq
   ·exact uw (.er _) ⟨i,hi,rfl⟩ λn=>by simp only[yO];rw[if_neg h2,if_neg h1,if_neg ht,if_neg hf,if_neg hp]
  have hp:∀ i d,i<ts.length->ts.length<=i+(m+1)->d<=60->Anw (λn=>qZ ts n i d) (GoodR ts (i+1)):=by
   intro i d hi hm hd;by_cases hp:isM (tk ts i) yJ=true
   ·have hi1:=W.isM hi hp;by_cases h60:60<d+1
    ·exact uw (.er _) ⟨i+1,hi1,rfl⟩ λn=>by simp only[qZ];rw[if_pos hp,if_pos h60]
    ·refine gS (λx j n=>some (.ok (.mk (Yn (tk ts i).text:Nat) 0 [] [x] (tk ts i).line (tk ts i).col) j)) (ih.p (i+1) (d+1) hi1 (by omega) (by omega)) (λn=>by simp only[qZ];rw[if_pos hp,if_neg h60]<;>rfl) (λt h=>h) λx j h=>?_;exact gR (.ok (.mk (Yn (tk ts i).text:Nat) 0 [] [x] (tk ts i).line (tk ts i).col) j) ⟨by have:=h.1;omega,h.2.1,uX hi (gm hp) (by unfold Yn;omega) (ks:=[x]) ⟨h.2.2,trivial⟩⟩ λn=>rfl
   ·exact jmD (hv i d hi hm hd) λn=>by simp only[qZ];rw[if_neg hp]
  have he:∀ l i d,i<ts.length->ts.length<=i+(m+1)->d<=60->okT l->Anw (λn=>qw ts n l i d) (GoodR ts (i+1)):=by
   intro l;induction l with
   |nil=>intro i d hi hm hd hl;exact jmD (hp i d hi hm hd) λn=>by simp only[qw]
   |cons v l ihl=>
    intro i d hi hm hd hl;refine gS (λx j n=>yE ts n v l x j d) (ihl i d hi hm hd λw hw=>hl w (QbY _ hw)) (λn=>by simp only[qw]<;>rfl) (λt h=>h) λx j h=>?_;exact(ih.o j d v l x h.2.1 (by have:=h.1;omega) hd hl h.2.2).mono λr hr=>hr.le h.1
  refine⟨λi d l h1 h2 h3 h4=>he l i d h1 h2 h3 h4,hp,λi d v l x hi hm hd hl hx=>?_⟩;by_cases hs:isM (tk ts i) v.1=true
  ·have hi1:=W.isM hi hs;have ht:(ZO (tk ts i).text).isSome=true:=hl v (List.mem_cons_self ..) _ (WZ hs).2;have hl':okT l:=λw hw=>hl w (QbY _ hw);by_cases hw:v.2=1
   ·refine gS (λy j n=>some (.ok (zA (tk ts i) x y) j)) (ih.e (i+1) d (v :: l) hi1 (by omega) hd hl) (λn=>by simp only[yE];rw[if_pos hs,if_pos hw]<;>rfl) (λt h=>h) λy j h=>?_;exact gR (.ok (zA (tk ts i) x y) j) ⟨by have:=h.1;omega,h.2.1,jg7 hi (gm hs) hx h.2.2 ht⟩ λn=>rfl
   ·refine gS (λy j n=>if v.2=2 then some (.ok (zA (tk ts i) x y) j) else yE ts n v l (zA (tk ts i) x y) j d) (ih.e (i+1) d l hi1 (by omega) hd hl') (λn=>by simp only[yE];rw[if_pos hs,if_neg hw]<;>rfl) (λt h=>h) λy j h=>?_;have hxy:=jg7 hi (gm hs) hx h.2.2 ht;by_cases h2:v.2=2
    ·exact gR (.ok (zA (tk ts i) x y) j) ⟨by have:=h.1;omega,h.2.1,hxy⟩ λn=>if_pos h2
    ·obtain⟨N,r,h3,h4⟩:=ih.o j d v l _ h.2.1 (by have:=h.1;omega) hd hl hxy;exact⟨N,r,h3.le (by have:=h.1;omega),λn hn=>(if_neg h2).trans (h4 n hn)⟩
  ·exact uw (.ok x i) ⟨Qaq _,hi,hx⟩ λn=>by simp only[yE];rw[if_neg hs]
end Go.Sy
end
noncomputable section
set_option maxRecDepth 100000
namespace Go.Sy
open Go.Ev Go.Proofs
variable {base:Bs}
theorem reads (hb:NB base){ts:List Tk}(W:Wds ts):∀ n,IsE base ts n/\IsP base ts n/\IsV base ts n:=by
 have key:∀ n,∀ m,m<=n->IsE base ts m/\IsP base ts m/\IsV base ts m:=by
  intro n;induction n with
  |zero=>
   intro m hm;obtain rfl:m=0:=by omega
   exact⟨λ_ _ _ _ h=>(by simp[qw] at h),λ_ _ _ h=>(by simp[qZ] at h),λ_ _ _ h=>(by simp[yO] at h)⟩
  |succ n ih=>
   intro m hm;by_cases h:m<=n
   ·exact ih m h
   ·obtain rfl:m=n+1:=by omega
    obtain⟨h1,h2,h3⟩:=ih n (Qaq _);exact⟨jp7 hb W (λk hk=>(ih k hk).1) h2,jkx hb W h2 h3,jmK hb W h1⟩
 exact λn=>key n n (Qaq _)
def Kj (ts:List Tk)(i:Nat)(r0:PR):PR:=match r0 with
 |.er t=>.er t
 |.ok x j=>if yv 60 x=true then .ok x j else .er (tk ts i)
def EvR (ts:List Tk)(i:Nat)(r:PR):Prop:=∃ N,∀ n,N<=n->qw ts n q6 i 0=some r
theorem EvR.uniq {ts:List Tk}{i:Nat}{r q:PR}(h:EvR ts i r)(k:EvR ts i q):r=q:=by
 obtain⟨N,h⟩:=h;obtain⟨M,k⟩:=k;have:=(h (max N M) (QaJ ..)).symm.trans (k (max N M) (QaH ..));exact Option.some.inj this
open Classical in
def yC (ts:List Tk)(i:Nat):PR:=if h:∃ r,EvR ts i r then Kj ts i h.choose else .er (tk ts i)
theorem vR {ts:List Tk}{i:Nat}{r:PR}(h:EvR ts i r):yC ts i=Kj ts i r:=by
 unfold yC;rw[dif_pos ⟨r,h⟩];have:=(⟨r,h⟩:∃ r,EvR ts i r).choose_spec;rw[this.uniq h]
theorem evR {ts:List Tk}(W:Wds ts){i:Nat}(hi:i<ts.length):∃ r,GoodR ts (i+1) r/\EvR ts i r:=by
 obtain⟨N,r,hg,hr⟩:=(jqP W ts.length).e i 0 q6 hi (by omega) (by decide) KW;exact⟨r,hg,N,hr⟩
theorem Un (hb:NB base){ts:List Tk}(W:Wds ts){i:Nat}(hi:i<ts.length):Ans base 48 (pC ts i 0) [] ts 0 (yC ts i):=by
 obtain⟨r,_,hr⟩:=evR W hi;rw[vR hr];obtain⟨N,hr⟩:=hr;have he:=hr N (Qaq _);have A:=(reads hb W N).1 _ _ _ _ he hi (by omega) ⟨by decide,by decide⟩;have hz:=(Kw W N).1 _ _ _ _ he hi;have hN:=λst p=>@Ze base hb ts i 0 hi st p;have hL:=jbW hb;cases r with
 |er t=>
  obtain⟨i',d',A⟩:=A;have E:∀ st p,Cl st p (pC ts i 0)->∀ K Kp,XB Qaf base 93 [.ptr p 0,.lst 8 (fl Xr q6)] st K Kp=_:=λst p C K Kp=>A.xb C rfl (λst=>hb.no 93 (by decide) _ _) K Kp;refine⟨i',d',?_⟩;unfold pC at *;refine qf x48 (by rfl) (hb.pur 48 3 (by decide)) rfl ?_;simp only[y48,jp,Qai,Qal,Qag,Qah];rw[(by unfold z48;simp only[qq];rfl:z48=_)];repeat'(first|(apply jc<;>intro _)|simp(disch:=first|exact dzD|fail) only[hN,hL,E,je,Tk.cells_R,rzZ,Qab,Qac,Qad,Qaa,Qae])
  (refine G1.done ?_ (by rfl) (by rfl) ?_;(· (first|exact cyD|fail));(· first|exact vyD|skip))
 |ok x j=>
  have A:PM _ _ _ _ _ _ _:=A;have E:∀ st p,Cl st p (pC ts i 0)->∀ K Kp,XB Qaf base 93 [.ptr p 0,.lst 8 (fl Xr q6)] st K Kp=_:=λst p C K Kp=>A.xb C rfl (λst=>hb.no 93 (by decide) _ _) K Kp;have hx:szE x<=BIG:=by
   have h1:=hz.2.2;have h2:(j - i) * 65537<=1000000 * 65537:=QaN _ (by have:=W.len;have:=hz.2.1;omega);have h3:1000000 * 65537<=BIG:=by decide
   exact Qau h1 (by rw[QaM];exact Qau h2 h3)
  have hR:=jnR hb x hx;unfold Kj;dsimp only;by_cases c:yv 60 x=true
  ·rw[if_pos c];show PM _ _ _ _ _ _ _;unfold pC at *;refine qf x48 (by rfl) (hb.pur 48 3 (by decide)) rfl ?_;simp only[y48,jp,Qai,Qal,Qag,Qah];rw[(by unfold z48;simp only[qq];rfl:z48=_)];repeat'(first|(apply jc<;>intro _)|simp(disch:=first|exact dzD|fail) only[hN,hL,E,hR,c,<-qI,je,Tk.cells_R,rzZ,Qab,Qac,Qad,Qaa,Qae])
   (refine G1.done ?_ (by rfl) (by rfl) ?_;(· (first|exact cyD|fail));(· first|exact vyD|skip))
  ·rw[if_neg c];refine⟨j,0,?_⟩;unfold pC at *;refine qf x48 (by rfl) (hb.pur 48 3 (by decide)) rfl ?_;simp only[y48,jp,Qai,Qal,Qag,Qah];rw[(by unfold z48;simp only[qq];rfl:z48=_)];repeat'(first|(apply jc<;>intro _)|simp(disch:=first|exact dzD|fail) only[hN,hL,E,hR,c,QD hb,je,Tk.cells_R,rzZ,Qab,Qac,Qad,Qaa,Qae])
   (refine G1.done ?_ (by rfl) (by rfl) ?_;(· (first|exact cyD|fail));(· first|exact vyD|skip))
end Go.Sy
end
noncomputable section
set_option maxRecDepth 100000
namespace Go.Sy
open Go.Ev Go.Proofs
def z15:XC:=(TD [Em 2,La 3 [TI,TI,TI]] (Lb [LQ 9,Pw 10 35 9,TH 8 10,Ly 11 8 0,Ly 12 8 1,EB 11,T9 3 3 12] (Lm [PC 13 3,TO 14 13,EQ 15 .neq 14] 15 (Pz [EI (PT 16 2) 2 37,EI (T4 17 3 3) 3 30,EM 6 2 16 [(0,30)],EM 3 3 17 []] .ret)) (Ep [T7 (.defer (TY 36 []) [3])] [EA 18,LD 19 [.nils,TI,TI] [((0,1),18)],TB 20 (.box 19),TG 5 20] (Lb [TH 21 5,Pw 22 48 21,Em 6,EJ 6 22] (TD [TH 23 5,Pw 24 49 23,La 7 [TI,TN,TI,TI,TI],T9 5 7 24] (PU [PC 25 7,TO 26 25,P5 27 .neq 26 5] 27 [T4 28 5 7,Pw 29 50 28])) (Pz [EI (PT 30 6) 6 37,EI (T4 31 3 3) 3 30,EM 6 2 30 [(0,30)],EM 3 3 31 []] .ret)))))
def y15:XF:=⟨[0],z15,[(.cA 2 6),(.cA 3 3)]⟩
theorem x15:jE Qaf 15=some y15:=by kernel_rfl
def z9:XC:=(TD [La 2 [.nils,.nils,.nils],La 3 [TI,TI,TI]] (Lb [LQ 7,Pw 8 35 7,TH 6 8,Ly 9 6 0,Ly 10 6 1,EB 9,T9 3 3 10] (Lm [PC 11 3,TO 12 11,EQ 13 .neq 12] 13 (Pz [EI (T4 14 3 2) 2 27,EI (T4 15 3 3) 3 30,EM 3 2 14 [(0,30)],EM 3 3 15 []] .ret)) (TD [T7 (.defer (TY 36 []) [3])] (Lb [EA 16,LD 17 [.nils,TI,TI] [((0,1),16)],TB 18 (.box 17),TG 5 18] (.dops [LO (TH 19 5),(Ez 20 37 19 0 [],some [Eb 20 0,Ll (T4 21 3 3) 3 30 [(0,0)],Lj (T7 (.i (.mv Pg))) 0,Lj (T7 (.i (.mv Pg))) 0]),LK (T4 21 3 3) 3 30 [(0,0)],EM 3 2 20 [(0,30)],EM 3 3 21 []]) .ret))))
def y9:XF:=⟨[0],z9,[(.cA 2 3),(.cA 3 3)]⟩
theorem x9:jE Qaf 9=some y9:=by kernel_rfl
def z78:XC:=(TD [La 2 [TN,.nils,TI,TI]] (Ep [LQ 7,Pw 8 126 7,La 3 [TI,TN,TI,TI,TI],T9 5 3 8] [P6 9 3,TO 10 9,Ew 11 3,TO 12 11,TK 13 4 3,TO 14 13,LD 15 [TN,.nils,TI,TI] [((0,1),10),((2,1),12),((3,1),14)],La 4 [TN,.nils,TI,TI],T9 4 4 15] (L7 [LQ 16,PZ 17 127 16 (T5 [123])] 0 (.block 1 (.seq (Lm [LQ 18,Pw 19 49 18,TB 20 (.fld1 0 19),P5 21 .eql 20 1] 21 (.dops [LU 22 1 4,Ey 23 22 22 91,LO (PD 24 23),LO (LQ 25),(Ez 26 49 25 0 [(2,91)],PB),(LH (PZ 27 77 24 26) 0 [],PB)])) (Pz [LU 28 1 4,Ey 29 28 28 91,LO (LQ 30),(Ez 31 126 30 0 [(1,91)],PB),LO (TB 32 (.fld1 1 31)),LO (LJ 33 1 1 [TN] [((0,1),32)]),L8 (ES 34 1 16 29 33) 0 [],LU 35 1 4,EM 1 35 34 []] (TD [LQ 37,LJ 38 1 1 [TN] [PJ 0 44],PZ 39 76 37 38,TH 36 39,Ly 40 36 0,Ly 41 36 1,TB 5 (.alloc [TI,TN,TI,TI,TI]),T9 5 5 40,TG 6 41] (Lm [TH 42 6,ED 43 42] 43 (PQ [LQ 44,PZ 45 127 44 (T5 [125])] [T4 46 4 4,T9 4 2 46])))))))))
def y78:XF:=⟨[0],z78,[(.cA 2 4)]⟩
theorem x78:jE Qaf 78=some y78:=by kernel_rfl
def jeF:XC:=(.seq (TD [LQ 45,LJ 46 1 1 [TN] [PJ 0 61],PZ 47 76 45 46,TH 44 47,Ly 48 44 0,Ly 49 44 1,TB 7 (.alloc [TI,TN,TI,TI,TI]),T9 5 7 48,TG 8 49] (PU [TG 50 8] 50 [LQ 51,Pw 52 48 51,LJ 53 1 6 (PK TI TI TN TI TI) [((0,6),52)],TK 54 4 4,T9 1 54 53])) (PQ [LQ 55,PZ 56 127 55 (T5 [59])] [T4 57 7 4,T9 7 2 57]))
def jeG:XC:=(.seq (TD [LQ 21,LJ 22 1 1 [TN] [Pf 0 [98,111,111,108]],PZ 23 76 21 22,TH 20 23,Ly 24 20 0,Ly 25 20 1,TB 5 (.alloc [TI,TN,TI,TI,TI]),T9 5 5 24,TG 6 25] (TW [TG 26 6] 26 (.ops [P6 27 4,T9 1 27 (T5 [98,111,111,108])]) (TW [LQ 28,Pw 29 49 28,TB 30 (.fld1 0 29),P5 31 .eql 30 1] 31 (.ops [LQ 32,Pw 33 126 32,TB 34 (.fld1 1 33),P6 35 4,T9 1 35 34]) (Ep [LQ 36,Pw 37 128 36,TK 38 2 4,T9 1 38 37] [LQ 39,PZ 40 127 39 (T5 [46,46])] (.ops [LQ 41,Pw 42 128 41,Ew 43 4,T9 1 43 42]))))) jeF)
def z79:XC:=(Ep [La 2 [TN,TN,TI,TI,.nils,TI,TI]] [LQ 9,Pw 10 126 9,La 3 [TI,TN,TI,TI,TI],T9 5 3 10] (Ep [P6 11 3,TO 12 11,Ew 13 3,TO 14 13,TK 15 4 3,TO 16 15,LD 17 [TN,TN,TI,TI,.nils,TI,TI] [((0,1),12),((5,1),14),((6,1),16)],La 4 [TN,TN,TI,TI,.nils,TI,TI],T9 7 4 17] [LQ 18,PZ 19 127 18 (T5 [58])] jeG))
def y79:XF:=⟨[0],z79,[(.cA 2 7)]⟩
theorem x79:jE Qaf 79=some y79:=by kernel_rfl
def kD:XC:=(Ep [La 2 [TI,TI,TN,.nils,TI,TI,.nils]] [LQ 7,Pw 8 48 7,LD 9 [TI,TI,TN,.nils,TI,TI,.nils] [((0,6),8)],La 3 [TI,TI,TN,.nils,TI,TI,.nils],T9 7 3 9] (L7 [LQ 10,PZ 11 127 10 (T5 [100,111])] 0 (.block 1 (.seq (Lm [LQ 12,Pw 13 49 12,TB 14 (.fld1 0 13),P5 15 .eql 14 1] 15 (.dops [LU 16 6 3,Ey 17 16 16 101,LO (PD 18 17),LO (LQ 19),(Ez 20 49 19 0 [(2,101)],PB),(LH (PZ 21 77 18 20) 0 [],PB)])) (TD [LQ 22,Pw 23 126 22,La 4 [TI,TN,TI,TI,TI],T9 5 4 23] (Lb [LQ 24,PZ 25 127 24 (T5 [58,61])] (.dops [LU 26 6 3,Ey 27 26 26 101,LU 28 1 4,Ey 29 28 28 9,LO (LQ 30),(Ez 31 48 30 0 [(1,9),(3,101)],some [Eb 31 0,Lj (Ew 32 4) 0,Ll (TO 33 32) 32 3 [(1,0)],Lj (TK 34 4 4) 0,Ll (TO 35 34) 34 3 [(3,0)],Eb 36 0,Eb 37 0,Eb 38 0,Eb 39 0,Lj (T7 (.i (.mv Pg))) 0]),LU 32 3 4,Pi 33 32 32 3 [(1,0)],LU 34 4 4,Pi 35 34 34 3 [(3,0)],LO (LD 36 [TN,TI,TI,TN,.nils,TI,TI,TI,TI] [((0,1),29),((1,6),31),((7,1),33),((8,1),35)]),LO (LJ 37 1 9 [TN,TI,TI,TN,.nils,TI,TI,TI,TI] [((0,9),36)]),L8 (ES 38 9 104 27 37) 0 [],LU 39 6 3,EM 1 39 38 []]) (TD [LQ 41,LJ 42 1 1 [TN] [PJ 0 44],PZ 43 76 41 42,TH 40 43,Ly 44 40 0,Ly 45 40 1,TB 5 (.alloc [TI,TN,TI,TI,TI]),T9 5 5 44,TG 6 45] (Lm [TH 46 6,ED 47 46] 47 (PQ [LQ 48,PZ 49 127 48 (T5 [59])] [T4 50 7 3,T9 7 2 50])))))))))
def jeS:XF:=⟨[0],kD,[(.cA 2 7)]⟩
theorem jj5:jE Qaf 129=some jeS:=by kernel_rfl
def z80:XC:=(TD [La 2 [TN,.nils,TI,TI]] (Ep [LQ 7,Pw 8 126 7,La 3 [TI,TN,TI,TI,TI],T9 5 3 8] [P6 9 3,TO 10 9,Ew 11 3,TO 12 11,TK 13 4 3,TO 14 13,LD 15 [TN,.nils,TI,TI] [((0,1),10),((2,1),12),((3,1),14)],La 4 [TN,.nils,TI,TI],T9 4 4 15] (L7 [LQ 16,PZ 17 127 16 (T5 [123])] 0 (.block 1 (Lb [LQ 19,LJ 20 1 1 [TN] [Pf 0 [119,104,101,110]],PZ 21 76 19 20,TH 18 21,Ly 22 18 0,Ly 23 18 1,La 5 [TI,TN,TI,TI,TI],T9 5 5 22,TG 6 23] (Lm [TH 24 6,ED 25 24] 25 (PQ [LQ 26,PZ 27 127 26 (T5 [125])] [T4 28 4 4,T9 4 2 28])) (TD [P6 29 4,TO 30 29,PD 31 30,T4 32 5 5,PZ 33 77 31 32] (.dops [LU 34 1 4,Ey 35 34 34 96,LO (LQ 36),(Ez 37 129 36 0 [(1,96)],PB),LO (LJ 38 1 7 [TI,TI,TN,.nils,TI,TI,.nils] [((0,7),37)]),L8 (ES 39 7 96 35 38) 0 [],LU 40 1 4,EM 1 40 39 []])))))))
def y80:XF:=⟨[0],z80,[(.cA 2 4)]⟩
theorem x80:jE Qaf 80=some y80:=by kernel_rfl
def z37:XC:=(TD [La 2 [.nils,.nils,.nils]] (L7 [La 3 [.nils,.nils,.nils]] 0 (.block 1 (TD [LQ 7,LJ 8 3 1 [TN] [Pf 0 [101,110,117,109],Pf 1 [118,97,114],Pf 2 [112,114,111,99,101,115,115]],PZ 9 76 7 8,TH 6 9,Ly 10 6 0,Ly 11 6 1,La 4 [TI,TN,TI,TI,TI],T9 5 4 10,TG 5 11] (.block 2 (TW [TH 25 5,TB 26 (L9 25),TH 27 26,P8 28 27 0 4,P9 29 27 28,L5 30 27 (Lf .neq 29 5),LE 31 27 30 Ld,TG 24 31] 24 (.ops [T4 32 5 4,Pw 33 50 32]) (TW [TH 35 5,TB 36 (L9 35),TG 34 36] 34 (Lg [T4 37 3 3,T9 3 2 37]) (TW [P6 39 4,TO 40 39,EE 41 40 [101,110,117,109],TG 38 41] 38 (TD [PC 42 3,TO 43 42,PD 44 43,T4 45 5 4,PZ 46 77 44 45] (.dops [LU 47 0 3,Ey 48 47 47 23,LO (LQ 49),(Ez 50 78 49 0 [(1,23)],PB),LO (LJ 51 1 4 [TN,.nils,TI,TI] [((0,4),50)]),L8 (ES 52 4 56 48 51) 0 [],LU 53 0 3,EM 1 53 52 []])) (TW [P6 55 4,TO 56 55,EE 57 56 [118,97,114],TG 54 57] 54 (TD [P6 58 3,TO 59 58,PD 60 59,T4 61 5 4,PZ 62 77 60 61] (.dops [LU 63 1 3,Ey 64 63 63 24,LO (LQ 65),(Ez 66 79 65 0 [(1,24)],PB),LO (LJ 67 1 7 [TN,TN,TI,TI,.nils,TI,TI] [((0,7),66)]),L8 (ES 68 7 88 64 67) 0 [],LU 69 1 3,EM 1 69 68 []])) (TD [TK 12 2 3,TO 13 12,PD 14 13,T4 15 5 4,PZ 16 77 14 15] (.dops [LU 17 2 3,Ey 18 17 17 25,LO (LQ 19),(Ez 20 80 19 0 [(1,25)],PB),LO (LJ 21 1 4 [TN,.nils,TI,TI] [((0,4),20)]),L8 (ES 22 4 56 18 21) 0 [],LU 23 2 3,EM 1 23 22 []])))))))))))
def y37:XF:=⟨[0],z37,[(.cA 2 3)]⟩
theorem x37:jE Qaf 37=some y37:=by kernel_rfl
def Wk:XC:=(.block 0 (TW [TF 7 (.gen .eql 20 true 5 (.c .nilif))] 7 (.ops [TH 2 5]) (TW [TB 8 (.assert 5 30),TF 9 (.ext 8 1),TF 10 (.ext 8 0)] 9 (TD [La 3 [TI,TI,TI],T9 3 3 10] (.ops [LQ 11,T4 12 3 3,LL 13 11,T9 3 13 12])) (TD [EB 5] (.ops [EA 6,T7 (.pan 6)])))))
def gY:XH:=⟨[0],(some 5),true,[],Wk,[]⟩
theorem joG:jaG Qaf 36=some gY:=by kernel_rfl
end Go.Sy
end
noncomputable section
set_option maxRecDepth 100000
namespace Go.Sy
open Go.Ev Go.Proofs
variable {base:Bs}
section
variable {P:Program} {e:En} {st:St} {K:AV->St->Prop}
def gP (P:Program)(t:TypeId)(v:AV)(st:St):ER:=(Y1 P (O v) t).run E0 st
theorem jij (x:A)(t:TypeId):wK P base (.i (.assert x t)) e st K=on1 e x λv=>jm (gP P t v st) K:=k_1 rfl (λ_=>rfl) K
end
theorem Wm {P:Program}(res:List RV)(m:Md)(K:Md->St->Prop)(L:Sl)(st:St):jf0 P res m K (.go L st)=yI P res L st λ_=>K m st:=nr rfl
theorem jqM (t:Tk)(st:St)(K:AV->St->Prop):jm (gP Qaf 30 (er t) st) K=K (.tup [.agg [.int .i64 151,.int .i64 (t.line:Int),.int .i64 (t.col:Int)],.bool true]) st:=by
 have:gP Qaf 30 (er t) st=.ok (.tup [.agg [.int .i64 151,.int .i64 (t.line:Int),.int .i64 (t.col:Int)],.bool true]) st:=by kernel_rfl
 rw[this];rfl
theorem jiD (st:St)(K:AV->St->Prop):jm (Xy Qaf .eql 20 true .nilif .nilif st) K=K (.bool true) st:=by
 have:Xy Qaf .eql 20 true .nilif .nilif st=.ok (.bool true) st:=by kernel_rfl
 rw[this];rfl
theorem jqi (t:Tk)(st:St)(K:AV->St->Prop):jm (Xy Qaf .eql 20 true (er t) .nilif st) K=K (.bool false) st:=by
 have:Xy Qaf .eql 20 true (er t) .nilif st=.ok (.bool false) st:=by kernel_rfl
 rw[this];rfl
theorem jaV {P:Program}{f:FuncId}{xs:List AV}{m m1:Md}{st s1:St}(h:∀ K:Md->St->Prop,K m1 s1->DX P base f xs m st K)(K:Md->St->Prop):DX P base f xs m st K=K m1 s1:=by
 refine propext ⟨λ⟨m2,s2,⟨N2,D2,h2⟩,h3⟩=>?_,h K⟩;obtain⟨m',s',⟨N,D,h1⟩,rfl,rfl⟩:=h (λm' s'=>m'=m1/\s'=s1) ⟨rfl,rfl⟩;have e1:=h1 (max N N2) (QaJ ..) (max D D2) (QaJ ..);have e2:=h2 (max N N2) (QaH ..) (max D D2) (QaH ..);rw[e1] at e2;cases e2;exact h3
theorem jdj {fb:Nat}(st:St)(hfr:st.fr=[])(K:Md->St->Prop):DX Qaf base 36 [.ptr fb 0] .calm st K=K .calm st:=by
 refine jaV (λK hK=>?_) K;refine uh joG (by rfl) hfr ?_;simp only[gY,jp,Qai,Qal,Qag,Yb,YE];rw[(by unfold Wk;simp only[qq];rfl:Wk=_)];repeat'(first|(apply jc<;>intro _)|simp(disch:=first|exact dzD|fail) only[jiD,Wm,je,Tk.cells_R,rzZ,Qab,Qac,Qad,Qaa,Qae])
 exact hK
theorem jf8 {fb:Nat}(t:Tk){cs:List AV}(st:St)(hfr:st.fr=[])(C:Cl st fb cs)(hcs:cs.length=3)(K:Md->St->Prop) :
  DX Qaf base 36 [.ptr fb 0] (.pan (er t)) st K=K .done (wr (wr (nw st [.int .i64 0,.int .i64 0,.int .i64 0]) st.nx 0 [.int .i64 151,.int .i64 (t.line:Int),.int .i64 (t.col:Int)]) fb 0 [.int .i64 151,.int .i64 (t.line:Int),.int .i64 (t.col:Int)]):=by
 refine jaV (λK hK=>?_) K;refine uh joG (by rfl) hfr ?_;simp only[gY,jp,Qai,Qal,Qag,Yb,YE];rw[(by unfold Wk;simp only[qq];rfl:Wk=_)];have hl:=C.lt;have l0:=C.len;have hne:¬ fb=st.nx:=by omega
 (have zz:=aI @l0 @hcs;(repeat'(first|(apply jc<;>intro _)|simp(disch:=first|exact qW|fail) only[jqi,jij,jqM,Wm,l0,hcs,je,Tk.cells_R,rzZ,Qab,Qac,Qad,Qaa,Qae]));(all_goals(clear zz)))
 exact hK
end Go.Sy
end
noncomputable section
set_option maxRecDepth 100000
namespace Go.Sy
open Go.Ev Go.Proofs
variable {base:Bs}
theorem vM {fb:Nat}(st:St)(K:Md->St->Prop):DX Qaf base 36 [.ptr fb 0] .calm st.bare K=K .calm st.bare:=jdj st.bare rfl K
theorem WI {fb:Nat}(t:Tk)(st:St)(h:qC st.h fb=3)(hn:fb<st.nx)(K:Md->St->Prop) :
  DX Qaf base 36 [.ptr fb 0] (.pan (er t)) st.bare K=K .done (wr (wr (nw st.bare [.int .i64 0,.int .i64 0,.int .i64 0]) st.nx 0 [.int .i64 151,.int .i64 (t.line:Int),.int .i64 (t.col:Int)]) fb 0 [.int .i64 151,.int .i64 (t.line:Int),.int .i64 (t.col:Int)]):=
 have C:Cl st fb (rats st.h fb 0 3):=Cl.of_rats hn h (Xm _ _ _ _) (by decide) rfl
 jf8 t st.bare rfl C.bar (Xm _ _ _ _) K
theorem jro:Go.Ev.isAgg Qaf 30=some true:=by kernel_rfl
theorem jrn:Go.Ev.sizeOf Qaf 30=some 3:=by kernel_rfl
theorem YD {b:Nat}{x y z:Int}{h:T AO}(ho:0+3<=qC h b)(hv:rats h b 0 3=[.int .i64 x,.int .i64 y,.int .i64 z]):(qa Qaf 30 (.ptr b 0) (.agg [.int .i64 x,.int .i64 y,.int .i64 z]) h=true)=True:=eq_true (ZX jro jrn (by decide) ho hv rfl)
theorem vT {b:Nat}{x y z w:Int}{n:List Nat}{h:T AO}(ho:0+6<=qC h b)(hv:rats h b 0 6=[.int .i64 x,.int .i64 y,.str n,.nils,.int .i64 z,.int .i64 w]):(qa Qaf 37 (.ptr b 0) (.agg [.int .i64 x,.int .i64 y,.str n,.nils,.int .i64 z,.int .i64 w]) h=true)=True:=eq_true (ZX jad jac (by decide) ho hv rfl)
section
variable {P:Program} {st:St} {K Kp:AV->St->Prop}
theorem Qt {f:FuncId}{vs:List AV}(h:st.fr=[(f,vs)])(res:List RV)(v:AV)(L:Sl):VG P base res K Kp v L st=DX P base f vs (.pan v) st.bare λm' st'=>(match m' with
  |.calm=>yI P res L st'.bare λvs=>K (zT vs) st'.bare
  |.pan v=>Kp v st'.bare
  |.done=>yI P res L st'.bare λvs=>K (zT vs) st'.bare):=by
 have:VG P base res K Kp v L st=za P base res K Kp [(f,vs)] L st.bare (.pan v):=by show za P base res K Kp st.fr L st.bare (.pan v)=_;rw[h]
 rw[this,jbb];rfl
theorem JR {f:FuncId}{vs:List AV}(h:st.fr=[(f,vs)])(res:List RV)(L:Sl):GM P base res K Kp (.rt L st)=DX P base f vs .calm st.bare λm' st'=>(match m' with
  |.calm=>yI P res L st'.bare λvs=>K (zT vs) st'.bare
  |.pan v=>Kp v st'.bare
  |.done=>yI P res L st'.bare λvs=>K (zT vs) st'.bare):=by
 have:GM P base res K Kp (.rt L st)=za P base res K Kp [(f,vs)] L st.bare .calm:=by show za P base res K Kp st.fr L st.bare .calm=_;rw[h]
 rw[this,jbb];rfl
theorem YC (h:st.fr=[])(res:List RV)(L:Sl):GM P base res K Kp (.rt L st)=yI P res L st.bare λvs=>K (zT vs) st.bare:=by
 show za P base res K Kp st.fr L st.bare .calm=_;rw[h];rfl
end
theorem jqf {s:St}{x:Ex}{q:Nat×Nat×Nat}{cs ds:List AV}(h:cs=eE x)(h2:ds=zX q):G0 (.tup [.agg (eE x),.agg (zX q)]) (.tup [.agg cs,.agg ds]) s:=by
 subst h h2;exact FzD.tup (.cons (.agg (.pc (q8 x))) (.cons (.agg (.pc (by rfl))) .nil))
theorem jcr {s:St}{q:Nat×Nat×Nat}{ds:List AV}(h2:ds=zX q):G0 (.tup [.agg (eE (.mk 0 0 [] [] 0 0)),.agg (zX q)]) (.tup [.agg [.int .i64 0,.int .i64 0,.str [],.nils,.int .i64 0,.int .i64 0],.agg ds]) s:=by
 subst h2;exact FzD.tup (.cons YH (.cons (.agg (.pc (by rfl))) .nil))
def ex0:Ex:=.mk 0 0 [] [] 0 0
def ya (l:List Nat):Ex×(Nat×Nat×Nat):=
 if(qb l).2.1≠0 then(ex0,(qb l).2) else match yC (qb l).1 0 with
  |.er t=>(ex0,(151,t.line,t.col))
  |.ok x j=>if(tk (qb l).1 j).kind=5 then(x,(0,0,0)) else(ex0,(151,(tk (qb l).1 j).line,(tk (qb l).1 j).col))
theorem yZ {ts:List Tk}(W:Wds ts){i j:Nat}{x:Ex}(hi:i<ts.length)(h:yC ts i=.ok x j):i+1<=j/\j<ts.length/\x.ev (atW ts)/\yv 60 x=true:=by
 obtain⟨r,hg,hr⟩:=evR W hi;rw[vR hr] at h;unfold Kj at h;cases r with
 |er t=>cases h
 |ok y k=>
  dsimp only at h;by_cases c:yv 60 y=true
  ·rw[if_pos c] at h;cases h;exact⟨hg.1,hg.2.1,hg.2.2,c⟩
  ·rw[if_neg c] at h;cases h
set_option maxHeartbeats 4000000 in
theorem jq1 (hb:NB base)(hP:PI base)(l:List Nat)(hl:l.length<=9223372036854775807)(hW:(qb l).2.1=0->Wds (qb l).1/\(qb l).1≠[]/\(qb l).2=(0,0,0)) :
  Tot base 15 [.str l] (.tup [.agg (eE (ya l).1),.agg (zX (ya l).2)]):=by
 refine hb.tot ?_ rfl rfl;refine WE x15 (hb.pur 15 1 (by decide)) ?_;simp only[y15,jp,Qai,Qal,Qag,Qah];rw[(by unfold z15;simp only[qq];rfl:z15=_)];have hC:=jmH hb hP l hl;have f0:(zX (qb l).2)=[.int .i64 ((qb l).2.1:Int),.int .i64 ((qb l).2.2.1:Int),.int .i64 ((qb l).2.2.2:Int)]:=rfl;by_cases he:(qb l).2.1=0
 ·obtain⟨W,hne,hz⟩:=hW he;have hi:0<(qb l).1.length:=Qcc.2 hne;have A:=Un hb W hi;unfold ya;rw[if_neg (by simp[he])];rw[hz] at hC;generalize (qb l).1=ts at *;have fz:zX (0,0,0)=[.int .i64 0,.int .i64 0,.int .i64 0]:=rfl;rw[fz] at hC;cases hr:yC ts 0 with
  |er t=>
   rw[hr] at A;obtain⟨i',d',A⟩:=A;have E:∀ st p,Cl st p [.lst ts.length (fl Tk.cells ts),.int .i64 0,.int .i64 0]->∀ K Kp,XB Qaf base 48 [.ptr p 0] st K Kp=_:=λst p C K Kp=>A.xb C rfl (λst=>hb.no 48 (by decide) _ _) K Kp;unfold pC at *;repeat'(first|(apply jc<;>intro _)|simp(disch:=first|exact dzD|fail) only[hC,E,wj,Qt (f:=36) (vs:=[.ptr 1 0]),JR (f:=36) (vs:=[.ptr 1 0]),YC,vM,WI,je,Tk.cells_R,rzZ,Qab,Qac,Qad,Qaa,Qae])
   exact jcr rfl
  |ok x j=>
   rw[hr] at A;have A:PM _ _ _ _ _ _ _:=A;have hj:j<ts.length:=(yZ W hi hr).2.1;have hN:=λst p=>@Ze base hb ts j 0 hj st p;have E:∀ st p,Cl st p [.lst ts.length (fl Tk.cells ts),.int .i64 0,.int .i64 0]->∀ K Kp,XB Qaf base 48 [.ptr p 0] st K Kp=_:=λst p C K Kp=>A.xb C rfl (λst=>hb.no 48 (by decide) _ _) K Kp;dsimp only;by_cases k5:(tk ts j).kind=5
   ·rw[if_pos k5];have k5':((tk ts j).kind:Int)=5:=by omega
    unfold pC at *
    (have zz:=@Qb;(repeat'(first|(apply jc<;>intro _)|simp(disch:=first|exact qW|fail) only[hC,E,hN,k5',wj,Qt (f:=36) (vs:=[.ptr 1 0]),JR (f:=36) (vs:=[.ptr 1 0]),YC,vM,WI,Qw,vT,YD,<-qI,Qb,je,Tk.cells_R,rzZ,Qab,Qac,Qad,Qaa,Qae]));(all_goals(clear zz)))
    exact jqf rfl rfl
   ·rw[if_neg k5];have k5':¬ ((tk ts j).kind:Int)=5:=by omega
    unfold pC at *;repeat'(first|(apply jc<;>intro _)|simp(disch:=first|exact dzD|fail) only[hC,E,hN,k5',QD hb,wj,Qt (f:=36) (vs:=[.ptr 1 0]),JR (f:=36) (vs:=[.ptr 1 0]),YC,vM,WI,Qw,vT,YD,je,Tk.cells_R,rzZ,Qab,Qac,Qad,Qaa,Qae])
    exact jcr rfl
 ·have he':¬ ((qb l).2.1:Int)=0:=by omega
  unfold ya;rw[if_pos he];rw[f0] at hC;generalize (qb l).1=ts at *;repeat'(first|(apply jc<;>intro _)|simp(disch:=first|exact dzD|fail) only[hC,he',wj,Qt (f:=36) (vs:=[.ptr 1 0]),JR (f:=36) (vs:=[.ptr 1 0]),YC,vM,WI,Qw,vT,YD,je,Tk.cells_R,rzZ,Qab,Qac,Qad,Qaa,Qae])
  exact jcr rfl
end Go.Sy
end
noncomputable section
set_option maxRecDepth 100000
namespace Go.Sy
open Go.Ev Go.Proofs
variable {base:Bs}
inductive SR (α:Type) where
 |ok (x:α) (j:Nat)
 |er (t:Tk)
def Nbs (ts:List Tk):Prop:=∀ i,(tk ts i).num<=1000000
def AnS {α:Type}(base:Bs)(f:FuncId)(c xs:List AV)(ts:List Tk)(d:Nat)(enc:α->AV):SR α->Prop
 |.ok x j=>PM Qaf base f c xs (.ok (enc x)) (pC ts j d)
 |.er t=>∃ i' d',PM Qaf base f c xs (.pn (er t)) (pC ts i' d')
def SK {α:Type}(ts:List Tk)(d:Nat)(enc:α->AV)(r:SR α)(v:AV)(s:St):Prop:=match r with | .ok y j=>G1 3 (pC ts j d) (enc y) v s | .er _=>False
def SP {α:Type}(ts:List Tk)(r:SR α)(v:AV)(s:St):Prop:=match r with | .ok _ _=>False | .er t=>∃ i' d',G1 3 (pC ts i' d') (er t) v s
theorem jak {α:Type}(ts:List Tk)(d:Nat)(enc:α->AV)(y:α)(j:Nat)(v:AV)(s:St):SK ts d enc (.ok y j) v s=G1 3 (pC ts j d) (enc y) v s:=nr rfl
theorem zR {α:Type}(ts:List Tk)(t:Tk)(v:AV)(s:St):SP (α:=α) ts (.er t) v s = ∃ i' d',G1 3 (pC ts i' d') (er t) v s:=nr rfl
theorem vO {α:Type}{f:FuncId}{F:XF}(hl:jE Qaf f=some F)(hnd:F.body.nd=true)(hm:base.pur f=3){xs:List AV}{ts:List Tk}{i d:Nat}{enc:α->AV}{r:SR α}
  (h:xC Qaf base F.body (jp F.ps (.ptr 0 0 :: xs)) (nw st0 (pC ts i d)) (QE Qaf F.res (SK ts d enc r)) λv _ s=>SP ts r v s.bare):AnS base f (pC ts i d) xs ts d enc r:=by
 rw[<-Gu] at h;obtain⟨q,he,hq⟩:=YL (st:=ZF (pC ts i d)) (K:=SK ts d enc r) (Kp:=SP ts r) hl hnd h;cases r with
 |ok y j=>
  refine PM.of hm rfl ⟨q,he,?_⟩;cases q<;>first|exact hq|exact hq.elim
 |er t=>
  cases q with
  |no=>exact hq.elim
  |ok v s=>exact(hq:False).elim
  |pn v s=>
   obtain⟨i',d',hq⟩:=(hq:∃ i' d',G1 3 (pC ts i' d') (er t) v s);exact⟨i',d',PM.of hm rfl ⟨_,he,hq⟩⟩
def Xp (ts:List Tk)(i:Nat):SR Int:=
 if isM (tk ts i) [[45]]=true then(if(tk ts (i+1)).kind=2 then .ok (-((tk ts (i+1)).num:Int)) (i+2) else .er (tk ts (i+1)))
 else(if(tk ts i).kind=2 then .ok ((tk ts i).num:Int) (i+1) else .er (tk ts i))
theorem jbQ (hb:NB base){ts:List Tk}(W:Wds ts)(N:Nbs ts){i d:Nat}(hi:i<ts.length):AnS base 128 (pC ts i d) [] ts d (λn=>.int .i64 n) (Xp ts i):=by
 have wl:=W.len;have T:=Y7 hb hi (d:=d) (by omega) [[45]] (cs:=[.str [45]]) (n:=1) rfl rfl (by decide);unfold Xp;by_cases c1:isM (tk ts i) [[45]]=true
 ·rw[if_pos c1];have hi1:=W.isM hi c1;have hN:=λst p=>@Ze base hb ts (i+1) d hi1 st p;have hn:=N (i+1);by_cases k2:(tk ts (i+1)).kind=2
  ·rw[if_pos k2];have k2':((tk ts (i+1)).kind:Int)=2:=by omega
   show PM _ _ _ _ _ _ _;unfold pC at *;refine qf jeW (by rfl) (hb.pur 128 3 (by decide)) rfl ?_;simp only[ja7,jp,Qai,Qal,Qag,Qah];rw[(by unfold Wl;simp only[qq];rfl:Wl=_)];repeat'(first|(apply jc<;>intro _)|simp(disch:=first|exact dzD|fail) only[T,c1,hN,k2',je,Tk.cells_R,rzZ,Qab,Qac,Qad,Qaa,Qae])
   (refine G1.done ?_ (by rfl) (by rfl) ?_;(· (first|exact cyD|fail));(· first|exact vyD|skip))
  ·rw[if_neg k2];have k2':¬ ((tk ts (i+1)).kind:Int)=2:=by omega
   refine⟨i+1,d,?_⟩;unfold pC at *;refine qf jeW (by rfl) (hb.pur 128 3 (by decide)) rfl ?_;simp only[ja7,jp,Qai,Qal,Qag,Qah];rw[(by unfold Wl;simp only[qq];rfl:Wl=_)];repeat'(first|(apply jc<;>intro _)|simp(disch:=first|exact dzD|fail) only[T,c1,hN,k2',QD hb,je,Tk.cells_R,rzZ,Qab,Qac,Qad,Qaa,Qae])
   (refine G1.done ?_ (by rfl) (by rfl) ?_;(· (first|exact cyD|fail));(· first|exact vyD|skip))
 ·rw[if_neg c1];have hN:=λst p=>@Ze base hb ts i d hi st p;have hn:=N i;by_cases k2:(tk ts i).kind=2
  ·rw[if_pos k2];have k2':((tk ts i).kind:Int)=2:=by omega
   show PM _ _ _ _ _ _ _;unfold pC at *;refine qf jeW (by rfl) (hb.pur 128 3 (by decide)) rfl ?_;simp only[ja7,jp,Qai,Qal,Qag,Qah];rw[(by unfold Wl;simp only[qq];rfl:Wl=_)];repeat'(first|(apply jc<;>intro _)|simp(disch:=first|exact dzD|fail) only[T,c1,hN,k2',je,Tk.cells_R,rzZ,Qab,Qac,Qad,Qaa,Qae])
   (refine G1.done ?_ (by rfl) (by rfl) ?_;(· (first|exact cyD|fail));(· first|exact vyD|skip))
  ·rw[if_neg k2];have k2':¬ ((tk ts i).kind:Int)=2:=by omega
   refine⟨i,d,?_⟩;unfold pC at *;refine qf jeW (by rfl) (hb.pur 128 3 (by decide)) rfl ?_;simp only[ja7,jp,Qai,Qal,Qag,Qah];rw[(by unfold Wl;simp only[qq];rfl:Wl=_)];repeat'(first|(apply jc<;>intro _)|simp(disch:=first|exact dzD|fail) only[T,c1,hN,k2',QD hb,je,Tk.cells_R,rzZ,Qab,Qac,Qad,Qaa,Qae])
   (refine G1.done ?_ (by rfl) (by rfl) ?_;(· (first|exact cyD|fail));(· first|exact vyD|skip))
structure EnumT where
 name:List Nat
 vals:List (List Nat)
 line:Int
 col:Int
def enE (e:EnumT):List AV:=[.str e.name,.lst e.vals.length (e.vals.map .str),.int .i64 (e.line:Int),.int .i64 (e.col:Int)]
def QO (ts:List Tk):Nat->Nat->List (List Nat)->SR (List (List Nat))
 |0,i,_=>.er (tk ts i)
 |n+1,i,vs=>if(tk ts i).kind=1 then
   (if 32<=vs.length then .er (tk ts i)
    else if isM (tk ts (i+1)) [[44]]=true then QO ts n (i+2) (vs ++ [(tk ts i).text])
    else if isM (tk ts (i+1)) [[125]]=true then .ok (vs ++ [(tk ts i).text]) (i+2)
    else .er (tk ts (i+1)))
  else .er (tk ts i)
def Xd (ts:List Tk)(i:Nat):SR EnumT:=
 if(tk ts i).kind=1 then
  (if isM (tk ts (i+1)) [[123]]=true then(match QO ts ts.length (i+2) [] with
    |.ok vs j=>.ok ⟨(tk ts i).text,vs,(tk ts i).line,(tk ts i).col⟩ j
    |.er t=>.er t)
   else .er (tk ts (i+1)))
 else .er (tk ts i)
end Go.Sy
end
noncomputable section
set_option maxRecDepth 100000
namespace Go.Sy
open Go.Ev Go.Proofs
variable {base:Bs}
theorem wT (hb:NB base){n:Nat}(h:n<32)(t:Tk):Tot base 77 [.int .i64 (n:Int),.agg t.cells] (.tup []):=by
 have:=jhq hb n t;rw[if_neg (by omega)] at this;exact this
theorem wU (hb:NB base){n:Nat}(h:32<=n)(t:Tk):Ret base 77 [.int .i64 (n:Int),.agg t.cells] (.pn (er t)):=by
 have:=jhq hb n t;rw[if_pos h] at this;exact this
theorem jre:Go.Ev.isAgg Qaf 91=some false:=by kernel_rfl
theorem jrd:Go.Ev.sizeOf Qaf 91=some 1:=by kernel_rfl
theorem Gh {b o:Nat}{v:AV}{h:T AO}(ho:o<qC h b)(hv:rat h b o=v)(hc:eqs v=true):(qa Qaf 91 (.ptr b o) v h=true)=True:=eq_true (Qx jre jrd ho hv hc)
theorem Lv.eqs {lo hi n z:Nat}{s:St}{v:AV}{cs:List AV}(h:Lv lo hi s v n cs z):Go.Sy.eqs v=true:=by
 rcases h with ⟨rfl,_⟩|⟨b,rfl,_⟩<;>rfl
theorem Lv.cell {lo hi n z:Nat}{s:St}{v:AV}{cs:List AV}(h:Lv lo hi s v n cs z):v.cell=true:=by
 rcases h with ⟨rfl,_⟩|⟨b,rfl,_⟩<;>rfl
theorem Lv.cells {lo hi n z:Nat}{s:St}{v:AV}{cs:List AV}(h:Lv lo hi s v n cs z):v.cells=[v]:=by
 rcases h with ⟨rfl,_⟩|⟨b,rfl,_⟩<;>rfl
theorem Lv.plain {lo hi n z:Nat}{s:St}{v:AV}{cs:List AV}(h:Lv lo hi s v n cs z):v.plain=true:=by
 rcases h with ⟨rfl,_⟩|⟨b,rfl,_⟩<;>rfl
theorem Lv.len {lo hi n z:Nat}{s:St}{v:AV}{cs:List AV}(h:Lv lo hi s v n cs z)(st:St)(K:AV->St->Prop):jm (jbZ v st) K=K (.int .i64 (n:Int)) st:=by
 rcases h with ⟨rfl,rfl,_⟩|⟨b,rfl,_⟩
 ·exact jbn
 ·exact jeZ ..
theorem jD (z:Nat)(v:AV)(s:St):(apv z v s).cells=[apv z v s]:=by unfold apv;split<;>rfl
theorem jK (z:Nat)(v:AV)(s:St):(apv z v s).plain=true:=by unfold apv;split<;>rfl
theorem jO (z:Nat)(v:AV)(s:St)(l:List AV):lall AV.cell (apv z v s :: l)=lall AV.cell l:=by unfold apv;split<;>rfl
set_option maxHeartbeats 4000000 in
theorem jql (hb:NB base){ts:List Tk}(W:Wds ts){i d:Nat}(hi:i<ts.length):AnS base 78 (pC ts i d) [] ts d (λe=>.agg (enE e)) (Xd ts i):=by
 have wl:=W.len;have N:=λst p=>@uZ base hb ts i d hi (by omega) st p;unfold Xd;by_cases k1:(tk ts i).kind=1
 ·rw[if_pos k1];have hi1:i+1<ts.length:=W.next i hi (by omega)
  have M:=λst p=>@Q0 base hb ts (i+1) d hi1 (by omega) [123] st p;by_cases c1:isM (tk ts (i+1)) [[123]]=true
  ·rw[if_pos c1];have hi2:=W.isM hi1 c1;suffices h:∀ r:SR EnumT,(match QO ts ts.length (i+2) [] with
    |.ok vs j=>SR.ok ⟨(tk ts i).text,vs,(tk ts i).line,(tk ts i).col⟩ j
    |.er t=>.er t:SR EnumT)=r->AnS base 78 (pC ts i d) [] ts d (λe=>.agg (enE e)) r from h _ rfl
   intro r hr;refine vO x78 (by rfl) (hb.pur 78 3 (by decide)) ?_;simp only[y78,jp,Qai,Qal,Qag,Qah];rw[(by unfold z78;simp only[qq];rfl:z78=_)];unfold pC at *;repeat'(first|(apply jc<;>intro _)|simp(disch:=first|exact dzD|fail) only[N,k1,M,c1,je,Tk.cells_R,rzZ,Qab,Qac,Qad,Qaa,Qae])
   refine uO λu hu=>?_;have n0:u.nx=4:=by rw[hu];rfl
   have C0:Cl u 0 (pC ts (i+2) d):=by
    rw[hu];unfold pC
    (first|exact cyD|fail)
   have C1:Cl u 1 [.str [],.nils,.int .i64 0,.int .i64 0]:=by
    rw[hu]
    (first|exact cyD|fail)
   have C3:Cl u 3 [.str (tk ts i).text,.nils,.int .i64 ((tk ts i).line:Int),.int .i64 ((tk ts i).col:Int)]:=by
    rw[hu]
    (first|exact cyD|fail)
   clear hu N M;generalize (tk ts i).text=nm at *;generalize (tk ts i).line=ln at *;generalize (tk ts i).col=co at *;refine zY (λmm L s=>∃ (m i':Nat) (vs:List (List Nat)) (v:AV),mm=m/\ts.length<=i'+m/\i'<ts.length/\(match QO ts m i' vs with | .ok vs j=>SR.ok ⟨nm,vs,ln,co⟩ j | .er t=>.er t:SR EnumT)=r/\4<=s.nx/\Cl s 0 (pC ts i' d)/\Cl s 1 [.str [],.nils,.int .i64 0,.int .i64 0]/\Cl s 3 [.str nm,v,.int .i64 (ln:Int),.int .i64 (co:Int)]/\Lv 4 s.nx s v vs.length (vs.map .str) 1/\Has L 0 (.ptr 0 0)/\Has L 2 (.ptr 1 0)/\Has L 4 (.ptr 3 0)) ?_ ts.length ?_
   ·rintro m L s ⟨_,i',vs,v,rfl,hm,hi',hl,n0,C0,C1,C3,V,i0,i2,i4⟩;clear hr;cases m with
    |zero=>omega
    |succ m=>
    unfold QO at hl;obtain⟨q,hq⟩:∃ q,q=s.nx:=⟨_,rfl⟩;rw[<-hq] at V;have hq':q<=s.nx:=QbJ hq;have hN:=λst p=>@Ze base hb ts i' d hi' st p;have hM:=λst p=>@uZ base hb ts i' d hi' (by omega) st p;have L0:=C0.lt;have L1:=C1.lt;have L3:=C3.lt;have ve:=V.eqs;have g3:rat s.h 3 1=v:=C3.cell 1 (QbN (Qbr 2));have vl:=V.len;by_cases k1:(tk ts i').kind=1
    ·rw[if_pos k1] at hl;have k1':((tk ts i').kind:Int)=1:=by omega
     have hi1:i'+1<ts.length:=W.next i' hi' (by omega)
     by_cases h32:32<=vs.length
     ·rw[if_pos h32] at hl;subst hl;have R:=wU hb h32 (tk ts i');unfold pC at *
      (have zz:=aI @g3 (aI C0.r (aI C1.r C3.r));(repeat'(first|(apply jc<;>intro _)|simp(disch:=first|exact qW|fail) only[ja i0,ja i2,ja i4,hN,k1',vl,R,Gh,ve,zR,C0.q,C1.q,C3.q,g3,C0.r,C1.r,C3.r,je,Tk.cells_R,rzZ,Qab,Qac,Qad,Qaa,Qae]));(all_goals(clear zz)))
      refine⟨i',d,?_⟩;unfold pC
      (refine G1.done ?_ (by rfl) (by rfl) ?_;(· (have zz:=aI C0.q (aI C1.q (aI C3.q (aI C0.r (aI C1.r C3.r))));first|exact qr|fail));(· first|exact vyD|skip))
     ·rw[if_neg h32] at hl;have R:=wT hb (show vs.length<32 by omega) (tk ts i');have T:=Y7 hb hi1 (d:=d) (by omega) [[44]] (cs:=[.str [44]]) (n:=1) rfl rfl (by decide);have M:=λst p=>@Q0 base hb ts (i'+1) d hi1 (by omega) [125] st p;have A:=λst bv xc xx K h hv=>@X7 4 q vs.length 1 st v (vs.map .str) K 16 bv xc xx h (by decide) (by omega) (by omega) hv;have V2:∀ st m',Lv 4 q st v vs.length (vs.map .str) 1->4<=st.nx->m'=st.nx+1->Lv 4 m' (aps v st [.str (tk ts i').text]) (apv 1 v st) (vs ++ [(tk ts i').text]).length ((vs ++ [(tk ts i').text]).map .str) 1:=λst m' h h2 h3=>by
       rw[Qak,QbQ];exact h.put rfl h2 h3
      unfold pC at *
      (have zz:=aI @g3 (aI V.ln (aI V.rts (aI @jC (aI @jG (aI @jH (aI @V (aI @ve (aI @jD (aI @jK (aI @jO (aI C0.r (aI C1.r C3.r))))))))))));(repeat'(first|(apply jc<;>intro _)|simp(disch:=first|exact qW|fail) only[ja i0,ja i2,ja i4,hN,hM,k1,k1',vl,R,Gh,ve,A,V.at,jD,C0.q,C1.q,C3.q,g3,V.ln,V.rts,jC,jG,jH,V,ve,jD,jK,jO,C0.r,C1.r,C3.r,je,Tk.cells_R,rzZ,Qab,Qac,Qad,Qaa,Qae]));(all_goals(clear zz)))
      rw[T _ 0 (s.nx+1+1) 1 true (by(have zz:=aI C0.q (aI C1.q (aI C3.q (aI @g3 (aI V.ln (aI V.rts (aI C0.r (aI C1.r C3.r)))))));first|exact qr|fail)) (by(have zz:=aI C0.q (aI C1.q (aI C3.q (aI @g3 (aI V.ln (aI V.rts (aI C0.r (aI C1.r C3.r)))))));first|exact qr|fail)) (by omega)]
      (have zz:=aI @g3 (aI V.ln (aI V.rts (aI @jD (aI @jK (aI @jO (aI C0.r (aI C1.r C3.r)))))));(repeat'(first|(apply jc<;>intro _)|simp(disch:=first|exact qW|fail) only[ja i0,ja i2,ja i4,M,V.at,jD,jak,zR,C0.q,C1.q,C3.q,g3,V.ln,V.rts,jD,jK,jO,C0.r,C1.r,C3.r,je,Tk.cells_R,rzZ,Qab,Qac,Qad,Qaa,Qae]));(all_goals(clear zz)))
      ·rename_i c;rw[if_pos c] at hl;have hi2:=W.isM hi1 c;refine⟨m,by omega,m,i'+1+1,vs ++ [(tk ts i').text],?v,rfl,by omega,hi2,hl,by omega,?c0,?c1,?c3,?lv,?has⟩;case lv=>
        refine Lv.up (hi:=s.nx+2) ?_ (by omega);simp(disch:=first|omega|(simp only[jg,jh,jj,jk];omega)) only[jC,jG,jH];refine V2 _ _ ?_ ?_ ?_;all_goals first|(simp only[jg,jh];done)|(simp only[jg,jh];omega)|(simp(disch:=first|omega|(simp only[jg,jh];omega)) only[jC,jG];exact V)
       case c0=>(have zz:=aI C0.q (aI C1.q (aI C3.q (aI @g3 (aI V.ln (aI V.rts (aI @jD (aI @jK (aI @jO (aI C0.r (aI C1.r C3.r))))))))));first|exact qr|fail)
       case c1=>(have zz:=aI C0.q (aI C1.q (aI C3.q (aI @g3 (aI V.ln (aI V.rts (aI @jD (aI @jK (aI @jO (aI C0.r (aI C1.r C3.r))))))))));first|exact qr|fail)
       case c3=>(have zz:=aI C0.q (aI C1.q (aI C3.q (aI @g3 (aI V.ln (aI V.rts (aI @jD (aI @jK (aI @jO (aI C0.r (aI C1.r C3.r))))))))));first|exact qr|fail)
       case has=>simp(disch:=decide) only[Qam,Qao,z0,z1,jd,jb,and_true,true_and,i0,i2,i4]
      ·rename_i c c2;rw[if_neg c,if_pos c2] at hl;have hl:SR.ok (⟨nm,vs ++ [(tk ts i').text],ln,co⟩:EnumT) (i'+2)=r:=hl;subst hl;show G1 3 (pC ts (i'+2) d) (.agg (enE ⟨nm,vs ++ [(tk ts i').text],ln,co⟩)) _ _;refine G1.done ?_ (by rfl) (by rfl) (FzD.agg (.cons (.pc rfl) (.cons (Lv.fz (lo:=4) (hi:=s.nx+2) (z:=1) ?_ (by decide) (uS _)) (.cons (.pc rfl) (.cons (.pc rfl) .nil)))))
       ·unfold pC
        (have zz:=aI C0.q (aI C1.q (aI C3.q (aI @g3 (aI V.ln (aI V.rts (aI @jD (aI @jK (aI @jO (aI C0.r (aI C1.r C3.r))))))))));first|exact qr|fail)
       ·simp(disch:=first|omega|(simp only[jg,jh,jj,jk];omega)) only[jF,jC,jG,jH];refine V2 _ _ ?_ ?_ ?_;all_goals first|(simp only[jg,jh];done)|(simp only[jg,jh];omega)|(simp(disch:=first|omega|(simp only[jg,jh];omega)) only[jC,jG];exact V)
      ·rename_i c c2;rw[if_neg c,if_neg c2] at hl;have hl:SR.er (tk ts (i'+1))=r:=hl;subst hl;refine⟨i'+1,d,?_⟩;unfold pC
       (refine G1.done ?_ (by rfl) (by rfl) ?_;(· (have zz:=aI C0.q (aI C1.q (aI C3.q (aI @g3 (aI V.ln (aI V.rts (aI @jD (aI @jK (aI @jO (aI C0.r (aI C1.r C3.r))))))))));first|exact qr|fail));(· first|exact vyD|skip))
    ·rw[if_neg k1] at hl;have k1':¬ ((tk ts i').kind:Int)=1:=by omega
     subst hl;unfold pC at *
     (have zz:=aI @g3 (aI C0.r (aI C1.r C3.r));(repeat'(first|(apply jc<;>intro _)|simp(disch:=first|exact qW|fail) only[ja i0,ja i2,ja i4,hN,hM,k1,k1',Gh,ve,zR,C0.q,C1.q,C3.q,g3,C0.r,C1.r,C3.r,je,Tk.cells_R,rzZ,Qab,Qac,Qad,Qaa,Qae]));(all_goals(clear zz)))
     refine⟨i',d,?_⟩;unfold pC
     (refine G1.done ?_ (by rfl) (by rfl) ?_;(· (have zz:=aI C0.q (aI C1.q (aI C3.q (aI C0.r (aI C1.r C3.r))));first|exact qr|fail));(· first|exact vyD|skip))
   ·refine⟨ts.length,i+2,[],.nils,rfl,by omega,hi2,hr,by omega,C0,C1,C3,Lv.nil,?_⟩;simp(disch:=decide) only[Qam,Qao,z0,z1,jd,jb,and_true,true_and]
  ·rw[if_neg c1];refine⟨i+1,d,?_⟩;unfold pC at *;refine qf x78 (by rfl) (hb.pur 78 3 (by decide)) rfl ?_;simp only[y78,jp,Qai,Qal,Qag,Qah];rw[(by unfold z78;simp only[qq];rfl:z78=_)];repeat'(first|(apply jc<;>intro _)|simp(disch:=first|exact dzD|fail) only[N,k1,M,c1,je,Tk.cells_R,rzZ,Qab,Qac,Qad,Qaa,Qae])
   (refine G1.done ?_ (by rfl) (by rfl) ?_;(· (first|exact cyD|fail));(· first|exact vyD|skip))
 ·rw[if_neg k1];refine⟨i,d,?_⟩;unfold pC at *;refine qf x78 (by rfl) (hb.pur 78 3 (by decide)) rfl ?_;simp only[y78,jp,Qai,Qal,Qag,Qah];rw[(by unfold z78;simp only[qq];rfl:z78=_)];repeat'(first|(apply jc<;>intro _)|simp(disch:=first|exact dzD|fail) only[N,k1,je,Tk.cells_R,rzZ,Qab,Qac,Qad,Qaa,Qae])
  (refine G1.done ?_ (by rfl) (by rfl) ?_;(· (first|exact cyD|fail));(· first|exact vyD|skip))
end Go.Sy
end
noncomputable section
set_option maxRecDepth 100000
namespace Go.Sy
open Go.Ev Go.Proofs
variable {base:Bs}
structure DeclT where
 name:List Nat
 ty:List Nat
 lo:Int
 hi:Int
 begins:List Ex
 line:Int
 col:Int
def qm (d:DeclT):List AV:=[.str d.name,.str d.ty,.int .i64 d.lo,.int .i64 d.hi,.lst d.begins.length (fl eE d.begins),.int .i64 (d.line:Int),.int .i64 (d.col:Int)]
def Zv (ts:List Tk)(i:Nat):SR (List Nat×Int×Int):=
 if isM (tk ts i) [[98,111,111,108]]=true then .ok ([98,111,111,108],0,0) (i+1)
 else if(tk ts i).kind=1 then .ok ((tk ts i).text,0,0) (i+1)
 else match Xp ts i with
  |.er t=>.er t
  |.ok lo j=>if isM (tk ts j) [[46,46]]=true then(match Xp ts (j+1) with
   |.er t=>.er t
   |.ok hi k=>.ok ([],lo,hi) k) else .er (tk ts j)
def XL (ts:List Tk)(i:Nat):SR (List Ex):=
 if isM (tk ts i) [[61]]=true then(match yC ts (i+1) with
  |.er t=>.er t
  |.ok x j=>if isM (tk ts j) [[59]]=true then .ok [x] (j+1) else .er (tk ts j))
 else if isM (tk ts i) [[59]]=true then .ok [] (i+1) else .er (tk ts i)
def J7 (ts:List Tk)(i:Nat):SR DeclT:=
 if(tk ts i).kind=1 then
  (if isM (tk ts (i+1)) [[58]]=true then(match Zv ts (i+2) with
    |.er t=>.er t
    |.ok y j=>(match XL ts j with
     |.er t=>.er t
     |.ok bs k=>.ok ⟨(tk ts i).text,y.1,y.2.1,y.2.2,bs,(tk ts i).line,(tk ts i).col⟩ k))
   else .er (tk ts (i+1)))
 else .er (tk ts i)
def zD:List AV:=[.str [],.str [],.int .i64 0,.int .i64 0,.nils,.int .i64 0,.int .i64 0]
theorem jrD {m d b cap:Nat}{s:St}{ks:List Ex}{ex:Bool}{cs:List AV}(C:Cl s b cs)(hc:cs=fl eE ks)(hm:m<=b):FzD m (d+3) s (.slice b 0 ks.length cap 6 ex) (.lst ks.length (fl eE ks)):=by
 subst hc;have hl:=JX Jw ks;refine FzD.slice C.rw_ (QbJ hl.symm) hm ?_;rw[<-hl,QaE];exact .pc (Jn q8 ks)
set_option maxHeartbeats 4000000 in
theorem jf3 (hb:NB base){ts:List Tk}(W:Wds ts){j:Nat}(hj:j<ts.length){nm ty:List Nat}{lo hi:Int}{ln co:Nat}{r:SR DeclT}
  (hr:(match XL ts j with | .er t=>SR.er t | .ok bs k=>.ok ⟨nm,ty,lo,hi,bs,ln,co⟩ k)=r) {L:Sl} {s:St} (n0:4<=s.nx) (C0:Cl s 0 (pC ts j 0)) (C1:Cl s 1 zD)
  (C3:Cl s 3 [.str nm,.str ty,.int .i64 lo,.int .i64 hi,.nils,.int .i64 (ln:Int),.int .i64 (co:Int)]) (i0:Has L 0 (.ptr 0 0)) (i2:Has L 2 (.ptr 1 0)) (i4:Has L 4 (.ptr 3 0)) :
  xC Qaf base jeF L s (QE Qaf y79.res (SK ts 0 (λd=>.agg (qm d)) r)) λv _ s=>SP ts r v s.bare:=by
 have wl:=W.len;have L0:=C0.lt;have L1:=C1.lt;have L3:=C3.lt;have T:=Y7 hb hj (d:=0) (by omega) [[61]] (cs:=[.str [61]]) (n:=1) rfl rfl (by decide);unfold XL at hr;unfold zD pC at *;rw[(by unfold jeF;simp only[qq];rfl:jeF=_)];simp only[y79];by_cases c1:isM (tk ts j) [[61]]=true
 ·rw[if_pos c1] at hr;have hj1:=W.isM hj c1;have A:=Un hb W hj1;cases hw:yC ts (j+1) with
  |er t=>
   rw[hw] at hr A;have hr:SR.er t=r:=hr;subst hr;obtain⟨i',d',A⟩:=A;have E:∀ st p,Cl st p (pC ts (j+1) 0)->∀ K Kp,XB Qaf base 48 [.ptr p 0] st K Kp=_:=λst p C K Kp=>A.xb C rfl (λst=>hb.no 48 (by decide) _ _) K Kp;unfold pC at *
   (have zz:=aI C0.r (aI C1.r C3.r);(repeat'(first|(apply jc<;>intro _)|simp(disch:=first|exact qW|fail) only[ja i0,ja i2,ja i4,T,c1,E,zR,C0.q,C1.q,C3.q,C0.r,C1.r,C3.r,je,Tk.cells_R,rzZ,Qab,Qac,Qad,Qaa,Qae]));(all_goals(clear zz)))
   refine⟨i',d',?_⟩;unfold pC
   (refine G1.done ?_ (by rfl) (by rfl) ?_;(· (have zz:=aI C0.q (aI C1.q (aI C3.q (aI C0.r (aI C1.r C3.r))));first|exact qr|fail));(· first|exact vyD|skip))
  |ok x q=>
   rw[hw] at hr A;have A:PM _ _ _ _ _ _ _:=A;have E:∀ st p,Cl st p (pC ts (j+1) 0)->∀ K Kp,XB Qaf base 48 [.ptr p 0] st K Kp=_:=λst p C K Kp=>A.xb C rfl (λst=>hb.no 48 (by decide) _ _) K Kp;have hq:q<ts.length:=(yZ W hj1 hw).2.1;have M:=λst p=>@Q0 base hb ts q 0 hq (by omega) [59] st p;unfold pC at *
   (have zz:=aI C0.r (aI C1.r C3.r);(repeat'(first|(apply jc<;>intro _)|simp(disch:=first|exact qW|fail) only[ja i0,ja i2,ja i4,T,c1,E,M,zR,jak,C0.q,C1.q,C3.q,C0.r,C1.r,C3.r,je,Tk.cells_R,rzZ,Qab,Qac,Qad,Qaa,Qae]));(all_goals(clear zz)))
   ·rename_i c2;dsimp only at hr;rw[if_pos c2] at hr;have hr:SR.ok (⟨nm,ty,lo,hi,[x],ln,co⟩:DeclT) (q+1)=r:=hr;subst hr;show G1 3 (pC ts (q+1) 0) (.agg (qm ⟨nm,ty,lo,hi,[x],ln,co⟩)) _ _;refine G1.done ?_ (by rfl) (by rfl) (FzD.agg (.cons (.pc rfl) (.cons (.pc rfl) (.cons (.pc rfl) (.cons (.pc rfl) (.cons (jrD (ks:=[x]) (cs:=eE x) ?_ (by rw[QC]) (by omega)) (.pc rfl)))))))
    ·unfold pC
     (have zz:=aI C0.q (aI C1.q (aI C3.q (aI C0.r (aI C1.r C3.r))));first|exact qr|fail)
    ·(have zz:=aI C0.q (aI C1.q (aI C3.q (aI C0.r (aI C1.r C3.r))));first|exact qr|fail)
   ·rename_i c2;dsimp only at hr;rw[if_neg c2] at hr;have hr:SR.er (tk ts q)=r:=hr;subst hr;refine⟨q,0,?_⟩;unfold pC
    (refine G1.done ?_ (by rfl) (by rfl) ?_;(· (have zz:=aI C0.q (aI C1.q (aI C3.q (aI C0.r (aI C1.r C3.r))));first|exact qr|fail));(· first|exact vyD|skip))
 ·rw[if_neg c1] at hr;have M:=λst p=>@Q0 base hb ts j 0 hj (by omega) [59] st p;unfold pC at *
  (have zz:=aI C0.r (aI C1.r C3.r);(repeat'(first|(apply jc<;>intro _)|simp(disch:=first|exact qW|fail) only[ja i0,ja i2,ja i4,T,c1,M,zR,jak,C0.q,C1.q,C3.q,C0.r,C1.r,C3.r,je,Tk.cells_R,rzZ,Qab,Qac,Qad,Qaa,Qae]));(all_goals(clear zz)))
  ·rename_i c2;rw[if_pos c2] at hr;have hr:SR.ok (⟨nm,ty,lo,hi,[],ln,co⟩:DeclT) (j+1)=r:=hr;subst hr;show G1 3 (pC ts (j+1) 0) (.agg (qm ⟨nm,ty,lo,hi,[],ln,co⟩)) _ _;refine G1.done ?_ (by rfl) (by rfl) (FzD.agg (.cons (.pc rfl) (.cons (.pc rfl) (.cons (.pc rfl) (.cons (.pc rfl) (.cons .nils (.pc rfl)))))));unfold pC
   (have zz:=aI C0.q (aI C1.q (aI C3.q (aI C0.r (aI C1.r C3.r))));first|exact qr|fail)
  ·rename_i c2;rw[if_neg c2] at hr;have hr:SR.er (tk ts j)=r:=hr;subst hr;refine⟨j,0,?_⟩;unfold pC
   (refine G1.done ?_ (by rfl) (by rfl) ?_;(· (have zz:=aI C0.q (aI C1.q (aI C3.q (aI C0.r (aI C1.r C3.r))));first|exact qr|fail));(· first|exact vyD|skip))
end Go.Sy
end
